import PyProof.Rows.All
import Wide.All
import OpenK.AllK
import Wide.FinOn
import Lean
import PySem.Challenge.RW_ok0061_01
open PySem PySem.W PyProof.Rows PySem.Calls PySem.Spec PyProof.V
set_option Elab.async false
namespace Mine
section
local macro_rules | `(tactic| refine $t:term) => do
  if t.raw.isOfKind ``Lean.Parser.Term.app && t.raw[1].getNumArgs > 15 then `(tactic| assumption) else Lean.Macro.throwUnsupported
set_option maxRecDepth 100000 in
set_option maxHeartbeats 8000000 in
theorem hdz (h : PySem.Challenge.rw_ok0061_01.row.Holds) : PySem.Challenge.rw_ok0061_01.row.Holds := by
  k_head
end
set_option compiler.extract_closed false
section
theorem m_h {α : Type} {a : α} {l : List α} : a ∈ a :: l := List.mem_cons_self
theorem m_t {α : Type} {a b : α} {l : List α} (h : a ∈ l) : a ∈ b :: l := List.mem_cons_of_mem _ h
theorem m_l {α : Type} {a : α} {l k : List α} (h : a ∈ l) : a ∈ l ++ k := List.mem_append_left _ h
theorem m_r {α : Type} {a : α} {l k : List α} (h : a ∈ k) : a ∈ l ++ k := List.mem_append_right _ h
theorem rmS {n c d R : Nat} (h : n + (c + d) < R) : n + c + d < R := Nat.add_assoc n c d ▸ h
theorem rm0 {n R : Nat} (h : n + 0 < R) : n < R := h
theorem rmT {d dp K c R : Nat} (hd : dp + K < R) (e : d = dp) (h : Nat.ble c K = true) : d + c < R := e ▸ Nat.lt_of_le_of_lt (Nat.add_le_add_left (Nat.le_of_ble_eq_true h) dp) hd
theorem memN {p : Addr × Obj} {l : List (Addr × Obj)} (h : p ∈ l) : p ∈ l := h
theorem all_n {α : Type} {P : α → Prop} : ∀ p ∈ ([] : List α), P p := fun _ h => nomatch h
theorem all_c {α : Type} {a : α} {l : List α} {P : α → Prop} (h : P a) (t : ∀ p ∈ l, P p) : ∀ p ∈ a :: l, P p := fun p hp => (List.mem_cons.mp hp).elim (fun e => e ▸ h) (t p)
theorem nd_c {a : Nat} {l : List Nat} (h : ∀ b ∈ l, a ≠ b) (t : l.Nodup) : (a :: l).Nodup := List.nodup_cons.2 ⟨fun m => h a m rfl, t⟩
theorem all_a {α : Type} {l k : List α} {P : α → Prop} (h : ∀ p ∈ l, P p) (t : ∀ p ∈ k, P p) : ∀ p ∈ l ++ k, P p := fun p hp => (List.mem_append.mp hp).elim (h p) (t p)
theorem nd_h {a : Nat} {l : List Nat} (h : (a :: l).Nodup) : (∀ b ∈ l, @Ne Nat a b) ∧ l.Nodup := ⟨fun b hb e => (List.nodup_cons.1 h).1 (e ▸ hb), (List.nodup_cons.1 h).2⟩
theorem sub_n {α : Type} {L : List α} : ∀ p ∈ ([] : List α), p ∈ L := fun _ h => nomatch h
theorem sub_c {α : Type} {a : α} {l L : List α} (h : a ∈ L) (t : ∀ p ∈ l, p ∈ L) : ∀ p ∈ a :: l, p ∈ L := fun p hp => (List.mem_cons.mp hp).elim (fun e => e ▸ h) (t p)
theorem sub_a {α : Type} {l k L : List α} (h : ∀ p ∈ l, p ∈ L) (t : ∀ p ∈ k, p ∈ L) : ∀ p ∈ l ++ k, p ∈ L := fun p hp => (List.mem_append.mp hp).elim (h p) (t p)
theorem sub_r {α : Type} {L : List α} : ∀ p ∈ L, p ∈ L := fun _ h => h
theorem sub_t {α : Type} {a : α} {l L : List α} (h : ∀ p ∈ l, p ∈ L) : ∀ p ∈ l, p ∈ a :: L := fun p hp => .tail _ (h p hp)
theorem sub_l {α : Type} {l K L : List α} (h : ∀ p ∈ l, p ∈ K) : ∀ p ∈ l, p ∈ K ++ L := fun p hp => List.mem_append_left _ (h p hp)
theorem sub_h {α : Type} {l K L : List α} (h : ∀ p ∈ l, p ∈ L) : ∀ p ∈ l, p ∈ K ++ L := fun p hp => List.mem_append_right _ (h p hp)
theorem sub_p {α : Type} {p : α} {l L : List α} (hp : p ∈ l) (h : ∀ p ∈ l, p ∈ L) : p ∈ L := h p hp
theorem el_AA  {P0 : Prop} {P1 : Prop} {P2 : Prop} {G : Prop} (h : P0 ∧ P1 ∧ P2) (k : P0 → P1 → P2 → G) : G := k h.1 h.2.1 h.2.2
theorem el_EA {α0 : Sort _} {P0 : α0 → Prop} {P1 : α0 → Prop} {G : Prop} (h : ∃ x0 : α0, P0 x0 ∧ P1 x0) (k : ∀ x0 : α0, P0 x0 → P1 x0 → G) : G := Exists.elim h fun y1 q1 => k y1 q1.1 q1.2
theorem el_AAA  {P0 : Prop} {P1 : Prop} {P2 : Prop} {P3 : Prop} {G : Prop} (h : P0 ∧ P1 ∧ P2 ∧ P3) (k : P0 → P1 → P2 → P3 → G) : G := el_AA h.2 (k h.1)
theorem el_EAA {α0 : Sort _} {P0 : α0 → Prop} {P1 : α0 → Prop} {P2 : α0 → Prop} {G : Prop} (h : ∃ x0 : α0, P0 x0 ∧ P1 x0 ∧ P2 x0) (k : ∀ x0 : α0, P0 x0 → P1 x0 → P2 x0 → G) : G := Exists.elim h fun y1 q1 => el_AA q1 (k y1)
theorem el_EEA {α0 : Sort _} {α1 : Sort _} {P0 : α0 → α1 → Prop} {P1 : α0 → α1 → Prop} {G : Prop} (h : ∃ x0 : α0, ∃ x1 : α1, P0 x0 x1 ∧ P1 x0 x1) (k : ∀ x0 : α0, ∀ x1 : α1, P0 x0 x1 → P1 x0 x1 → G) : G := Exists.elim h fun y1 q1 => el_EA q1 (k y1)
theorem el_AAAA  {P0 : Prop} {P1 : Prop} {P2 : Prop} {P3 : Prop} {P4 : Prop} {G : Prop} (h : P0 ∧ P1 ∧ P2 ∧ P3 ∧ P4) (k : P0 → P1 → P2 → P3 → P4 → G) : G := el_AAA h.2 (k h.1)
theorem el_AEAA {α0 : Sort _} {P0 : Prop} {P1 : α0 → Prop} {P2 : α0 → Prop} {P3 : α0 → Prop} {G : Prop} (h : P0 ∧ ∃ x0 : α0, P1 x0 ∧ P2 x0 ∧ P3 x0) (k : P0 → ∀ x0 : α0, P1 x0 → P2 x0 → P3 x0 → G) : G := el_EAA h.2 (k h.1)
theorem el_EAAA {α0 : Sort _} {P0 : α0 → Prop} {P1 : α0 → Prop} {P2 : α0 → Prop} {P3 : α0 → Prop} {G : Prop} (h : ∃ x0 : α0, P0 x0 ∧ P1 x0 ∧ P2 x0 ∧ P3 x0) (k : ∀ x0 : α0, P0 x0 → P1 x0 → P2 x0 → P3 x0 → G) : G := Exists.elim h fun y1 q1 => el_AAA q1 (k y1)
theorem el_EAAE {α0 : Sort _} {α1 : Sort _} {P0 : α0 → Prop} {P1 : α0 → Prop} {P2 : α0 → α1 → Prop} {G : Prop} (h : ∃ x0 : α0, P0 x0 ∧ P1 x0 ∧ ∃ x1 : α1, P2 x0 x1) (k : ∀ x0 : α0, P0 x0 → P1 x0 → ∀ x1 : α1, P2 x0 x1 → G) : G := Exists.elim h fun y1 q1 => Exists.elim q1.2.2 fun y4 q4 => k y1 q1.1 q1.2.1 y4 q4
theorem el_EEAA {α0 : Sort _} {α1 : Sort _} {P0 : α0 → α1 → Prop} {P1 : α0 → α1 → Prop} {P2 : α0 → α1 → Prop} {G : Prop} (h : ∃ x0 : α0, ∃ x1 : α1, P0 x0 x1 ∧ P1 x0 x1 ∧ P2 x0 x1) (k : ∀ x0 : α0, ∀ x1 : α1, P0 x0 x1 → P1 x0 x1 → P2 x0 x1 → G) : G := Exists.elim h fun y1 q1 => el_EAA q1 (k y1)
theorem el_EEEA {α0 : Sort _} {α1 : Sort _} {α2 : Sort _} {P0 : α0 → α1 → α2 → Prop} {P1 : α0 → α1 → α2 → Prop} {G : Prop} (h : ∃ x0 : α0, ∃ x1 : α1, ∃ x2 : α2, P0 x0 x1 x2 ∧ P1 x0 x1 x2) (k : ∀ x0 : α0, ∀ x1 : α1, ∀ x2 : α2, P0 x0 x1 x2 → P1 x0 x1 x2 → G) : G := Exists.elim h fun y1 q1 => el_EEA q1 (k y1)
theorem el_AAAAA  {P0 : Prop} {P1 : Prop} {P2 : Prop} {P3 : Prop} {P4 : Prop} {P5 : Prop} {G : Prop} (h : P0 ∧ P1 ∧ P2 ∧ P3 ∧ P4 ∧ P5) (k : P0 → P1 → P2 → P3 → P4 → P5 → G) : G := el_AAAA h.2 (k h.1)
theorem el_AEEEA {α0 : Sort _} {α1 : Sort _} {α2 : Sort _} {P0 : Prop} {P1 : α0 → α1 → α2 → Prop} {P2 : α0 → α1 → α2 → Prop} {G : Prop} (h : P0 ∧ ∃ x0 : α0, ∃ x1 : α1, ∃ x2 : α2, P1 x0 x1 x2 ∧ P2 x0 x1 x2) (k : P0 → ∀ x0 : α0, ∀ x1 : α1, ∀ x2 : α2, P1 x0 x1 x2 → P2 x0 x1 x2 → G) : G := el_EEEA h.2 (k h.1)
theorem el_EAAAA {α0 : Sort _} {P0 : α0 → Prop} {P1 : α0 → Prop} {P2 : α0 → Prop} {P3 : α0 → Prop} {P4 : α0 → Prop} {G : Prop} (h : ∃ x0 : α0, P0 x0 ∧ P1 x0 ∧ P2 x0 ∧ P3 x0 ∧ P4 x0) (k : ∀ x0 : α0, P0 x0 → P1 x0 → P2 x0 → P3 x0 → P4 x0 → G) : G := Exists.elim h fun y1 q1 => el_AAAA q1 (k y1)
theorem el_EEEAA {α0 : Sort _} {α1 : Sort _} {α2 : Sort _} {P0 : α0 → α1 → α2 → Prop} {P1 : α0 → α1 → α2 → Prop} {P2 : α0 → α1 → α2 → Prop} {G : Prop} (h : ∃ x0 : α0, ∃ x1 : α1, ∃ x2 : α2, P0 x0 x1 x2 ∧ P1 x0 x1 x2 ∧ P2 x0 x1 x2) (k : ∀ x0 : α0, ∀ x1 : α1, ∀ x2 : α2, P0 x0 x1 x2 → P1 x0 x1 x2 → P2 x0 x1 x2 → G) : G := Exists.elim h fun y1 q1 => el_EEAA q1 (k y1)
theorem el_EEEEA {α0 : Sort _} {α1 : Sort _} {α2 : Sort _} {α3 : Sort _} {P0 : α0 → α1 → α2 → α3 → Prop} {P1 : α0 → α1 → α2 → α3 → Prop} {G : Prop} (h : ∃ x0 : α0, ∃ x1 : α1, ∃ x2 : α2, ∃ x3 : α3, P0 x0 x1 x2 x3 ∧ P1 x0 x1 x2 x3) (k : ∀ x0 : α0, ∀ x1 : α1, ∀ x2 : α2, ∀ x3 : α3, P0 x0 x1 x2 x3 → P1 x0 x1 x2 x3 → G) : G := Exists.elim h fun y1 q1 => el_EEEA q1 (k y1)
theorem el_AAAAAA  {P0 : Prop} {P1 : Prop} {P2 : Prop} {P3 : Prop} {P4 : Prop} {P5 : Prop} {P6 : Prop} {G : Prop} (h : P0 ∧ P1 ∧ P2 ∧ P3 ∧ P4 ∧ P5 ∧ P6) (k : P0 → P1 → P2 → P3 → P4 → P5 → P6 → G) : G := el_AAAAA h.2 (k h.1)
theorem el_EAAAAA {α0 : Sort _} {P0 : α0 → Prop} {P1 : α0 → Prop} {P2 : α0 → Prop} {P3 : α0 → Prop} {P4 : α0 → Prop} {P5 : α0 → Prop} {G : Prop} (h : ∃ x0 : α0, P0 x0 ∧ P1 x0 ∧ P2 x0 ∧ P3 x0 ∧ P4 x0 ∧ P5 x0) (k : ∀ x0 : α0, P0 x0 → P1 x0 → P2 x0 → P3 x0 → P4 x0 → P5 x0 → G) : G := Exists.elim h fun y1 q1 => el_AAAAA q1 (k y1)
theorem el_EEAAAA {α0 : Sort _} {α1 : Sort _} {P0 : α0 → α1 → Prop} {P1 : α0 → α1 → Prop} {P2 : α0 → α1 → Prop} {P3 : α0 → α1 → Prop} {P4 : α0 → α1 → Prop} {G : Prop} (h : ∃ x0 : α0, ∃ x1 : α1, P0 x0 x1 ∧ P1 x0 x1 ∧ P2 x0 x1 ∧ P3 x0 x1 ∧ P4 x0 x1) (k : ∀ x0 : α0, ∀ x1 : α1, P0 x0 x1 → P1 x0 x1 → P2 x0 x1 → P3 x0 x1 → P4 x0 x1 → G) : G := Exists.elim h fun y1 q1 => el_EAAAA q1 (k y1)
theorem el_EEEAAA {α0 : Sort _} {α1 : Sort _} {α2 : Sort _} {P0 : α0 → α1 → α2 → Prop} {P1 : α0 → α1 → α2 → Prop} {P2 : α0 → α1 → α2 → Prop} {P3 : α0 → α1 → α2 → Prop} {G : Prop} (h : ∃ x0 : α0, ∃ x1 : α1, ∃ x2 : α2, P0 x0 x1 x2 ∧ P1 x0 x1 x2 ∧ P2 x0 x1 x2 ∧ P3 x0 x1 x2) (k : ∀ x0 : α0, ∀ x1 : α1, ∀ x2 : α2, P0 x0 x1 x2 → P1 x0 x1 x2 → P2 x0 x1 x2 → P3 x0 x1 x2 → G) : G := Exists.elim h fun y1 q1 => Exists.elim q1 fun y2 q2 => el_EAAA q2 (k y1 y2)
theorem el_EEEEAA {α0 : Sort _} {α1 : Sort _} {α2 : Sort _} {α3 : Sort _} {P0 : α0 → α1 → α2 → α3 → Prop} {P1 : α0 → α1 → α2 → α3 → Prop} {P2 : α0 → α1 → α2 → α3 → Prop} {G : Prop} (h : ∃ x0 : α0, ∃ x1 : α1, ∃ x2 : α2, ∃ x3 : α3, P0 x0 x1 x2 x3 ∧ P1 x0 x1 x2 x3 ∧ P2 x0 x1 x2 x3) (k : ∀ x0 : α0, ∀ x1 : α1, ∀ x2 : α2, ∀ x3 : α3, P0 x0 x1 x2 x3 → P1 x0 x1 x2 x3 → P2 x0 x1 x2 x3 → G) : G := Exists.elim h fun y1 q1 => el_EEEAA q1 (k y1)
theorem el_EEEEEA {α0 : Sort _} {α1 : Sort _} {α2 : Sort _} {α3 : Sort _} {α4 : Sort _} {P0 : α0 → α1 → α2 → α3 → α4 → Prop} {P1 : α0 → α1 → α2 → α3 → α4 → Prop} {G : Prop} (h : ∃ x0 : α0, ∃ x1 : α1, ∃ x2 : α2, ∃ x3 : α3, ∃ x4 : α4, P0 x0 x1 x2 x3 x4 ∧ P1 x0 x1 x2 x3 x4) (k : ∀ x0 : α0, ∀ x1 : α1, ∀ x2 : α2, ∀ x3 : α3, ∀ x4 : α4, P0 x0 x1 x2 x3 x4 → P1 x0 x1 x2 x3 x4 → G) : G := Exists.elim h fun y1 q1 => el_EEEEA q1 (k y1)
theorem el_AAAAAAA  {P0 : Prop} {P1 : Prop} {P2 : Prop} {P3 : Prop} {P4 : Prop} {P5 : Prop} {P6 : Prop} {P7 : Prop} {G : Prop} (h : P0 ∧ P1 ∧ P2 ∧ P3 ∧ P4 ∧ P5 ∧ P6 ∧ P7) (k : P0 → P1 → P2 → P3 → P4 → P5 → P6 → P7 → G) : G := el_AAAAAA h.2 (k h.1)
theorem el_EAAAAAA {α0 : Sort _} {P0 : α0 → Prop} {P1 : α0 → Prop} {P2 : α0 → Prop} {P3 : α0 → Prop} {P4 : α0 → Prop} {P5 : α0 → Prop} {P6 : α0 → Prop} {G : Prop} (h : ∃ x0 : α0, P0 x0 ∧ P1 x0 ∧ P2 x0 ∧ P3 x0 ∧ P4 x0 ∧ P5 x0 ∧ P6 x0) (k : ∀ x0 : α0, P0 x0 → P1 x0 → P2 x0 → P3 x0 → P4 x0 → P5 x0 → P6 x0 → G) : G := Exists.elim h fun y1 q1 => el_AAAAAA q1 (k y1)
theorem el_EEAAAAA {α0 : Sort _} {α1 : Sort _} {P0 : α0 → α1 → Prop} {P1 : α0 → α1 → Prop} {P2 : α0 → α1 → Prop} {P3 : α0 → α1 → Prop} {P4 : α0 → α1 → Prop} {P5 : α0 → α1 → Prop} {G : Prop} (h : ∃ x0 : α0, ∃ x1 : α1, P0 x0 x1 ∧ P1 x0 x1 ∧ P2 x0 x1 ∧ P3 x0 x1 ∧ P4 x0 x1 ∧ P5 x0 x1) (k : ∀ x0 : α0, ∀ x1 : α1, P0 x0 x1 → P1 x0 x1 → P2 x0 x1 → P3 x0 x1 → P4 x0 x1 → P5 x0 x1 → G) : G := Exists.elim h fun y1 q1 => el_EAAAAA q1 (k y1)
theorem el_EEEAAAA {α0 : Sort _} {α1 : Sort _} {α2 : Sort _} {P0 : α0 → α1 → α2 → Prop} {P1 : α0 → α1 → α2 → Prop} {P2 : α0 → α1 → α2 → Prop} {P3 : α0 → α1 → α2 → Prop} {P4 : α0 → α1 → α2 → Prop} {G : Prop} (h : ∃ x0 : α0, ∃ x1 : α1, ∃ x2 : α2, P0 x0 x1 x2 ∧ P1 x0 x1 x2 ∧ P2 x0 x1 x2 ∧ P3 x0 x1 x2 ∧ P4 x0 x1 x2) (k : ∀ x0 : α0, ∀ x1 : α1, ∀ x2 : α2, P0 x0 x1 x2 → P1 x0 x1 x2 → P2 x0 x1 x2 → P3 x0 x1 x2 → P4 x0 x1 x2 → G) : G := Exists.elim h fun y1 q1 => el_EEAAAA q1 (k y1)
theorem el_EEEEAAA {α0 : Sort _} {α1 : Sort _} {α2 : Sort _} {α3 : Sort _} {P0 : α0 → α1 → α2 → α3 → Prop} {P1 : α0 → α1 → α2 → α3 → Prop} {P2 : α0 → α1 → α2 → α3 → Prop} {P3 : α0 → α1 → α2 → α3 → Prop} {G : Prop} (h : ∃ x0 : α0, ∃ x1 : α1, ∃ x2 : α2, ∃ x3 : α3, P0 x0 x1 x2 x3 ∧ P1 x0 x1 x2 x3 ∧ P2 x0 x1 x2 x3 ∧ P3 x0 x1 x2 x3) (k : ∀ x0 : α0, ∀ x1 : α1, ∀ x2 : α2, ∀ x3 : α3, P0 x0 x1 x2 x3 → P1 x0 x1 x2 x3 → P2 x0 x1 x2 x3 → P3 x0 x1 x2 x3 → G) : G := Exists.elim h fun y1 q1 => el_EEEAAA q1 (k y1)
theorem el_EEEEEEE {α0 : Sort _} {α1 : Sort _} {α2 : Sort _} {α3 : Sort _} {α4 : Sort _} {α5 : Sort _} {α6 : Sort _} {P0 : α0 → α1 → α2 → α3 → α4 → α5 → α6 → Prop} {G : Prop} (h : ∃ x0 : α0, ∃ x1 : α1, ∃ x2 : α2, ∃ x3 : α3, ∃ x4 : α4, ∃ x5 : α5, ∃ x6 : α6, P0 x0 x1 x2 x3 x4 x5 x6) (k : ∀ x0 : α0, ∀ x1 : α1, ∀ x2 : α2, ∀ x3 : α3, ∀ x4 : α4, ∀ x5 : α5, ∀ x6 : α6, P0 x0 x1 x2 x3 x4 x5 x6 → G) : G := Exists.elim h fun y1 q1 => Exists.elim q1 fun y2 q2 => Exists.elim q2 fun y3 q3 => Exists.elim q3 fun y4 q4 => Exists.elim q4 fun y5 q5 => Exists.elim q5 fun y6 q6 => Exists.elim q6 fun y7 q7 => k y1 y2 y3 y4 y5 y6 y7 q7
theorem el_AAAAAAAA  {P0 : Prop} {P1 : Prop} {P2 : Prop} {P3 : Prop} {P4 : Prop} {P5 : Prop} {P6 : Prop} {P7 : Prop} {P8 : Prop} {G : Prop} (h : P0 ∧ P1 ∧ P2 ∧ P3 ∧ P4 ∧ P5 ∧ P6 ∧ P7 ∧ P8) (k : P0 → P1 → P2 → P3 → P4 → P5 → P6 → P7 → P8 → G) : G := el_AAAAAAA h.2 (k h.1)
theorem el_EAEEEEEA {α0 : Sort _} {α1 : Sort _} {α2 : Sort _} {α3 : Sort _} {α4 : Sort _} {α5 : Sort _} {P0 : α0 → Prop} {P1 : α0 → α1 → α2 → α3 → α4 → α5 → Prop} {P2 : α0 → α1 → α2 → α3 → α4 → α5 → Prop} {G : Prop} (h : ∃ x0 : α0, P0 x0 ∧ ∃ x1 : α1, ∃ x2 : α2, ∃ x3 : α3, ∃ x4 : α4, ∃ x5 : α5, P1 x0 x1 x2 x3 x4 x5 ∧ P2 x0 x1 x2 x3 x4 x5) (k : ∀ x0 : α0, P0 x0 → ∀ x1 : α1, ∀ x2 : α2, ∀ x3 : α3, ∀ x4 : α4, ∀ x5 : α5, P1 x0 x1 x2 x3 x4 x5 → P2 x0 x1 x2 x3 x4 x5 → G) : G := Exists.elim h fun y1 q1 => el_EEEEEA q1.2 (k y1 q1.1)
theorem el_EEEAAAAA {α0 : Sort _} {α1 : Sort _} {α2 : Sort _} {P0 : α0 → α1 → α2 → Prop} {P1 : α0 → α1 → α2 → Prop} {P2 : α0 → α1 → α2 → Prop} {P3 : α0 → α1 → α2 → Prop} {P4 : α0 → α1 → α2 → Prop} {P5 : α0 → α1 → α2 → Prop} {G : Prop} (h : ∃ x0 : α0, ∃ x1 : α1, ∃ x2 : α2, P0 x0 x1 x2 ∧ P1 x0 x1 x2 ∧ P2 x0 x1 x2 ∧ P3 x0 x1 x2 ∧ P4 x0 x1 x2 ∧ P5 x0 x1 x2) (k : ∀ x0 : α0, ∀ x1 : α1, ∀ x2 : α2, P0 x0 x1 x2 → P1 x0 x1 x2 → P2 x0 x1 x2 → P3 x0 x1 x2 → P4 x0 x1 x2 → P5 x0 x1 x2 → G) : G := Exists.elim h fun y1 q1 => el_EEAAAAA q1 (k y1)
theorem el_EEEEAAAA {α0 : Sort _} {α1 : Sort _} {α2 : Sort _} {α3 : Sort _} {P0 : α0 → α1 → α2 → α3 → Prop} {P1 : α0 → α1 → α2 → α3 → Prop} {P2 : α0 → α1 → α2 → α3 → Prop} {P3 : α0 → α1 → α2 → α3 → Prop} {P4 : α0 → α1 → α2 → α3 → Prop} {G : Prop} (h : ∃ x0 : α0, ∃ x1 : α1, ∃ x2 : α2, ∃ x3 : α3, P0 x0 x1 x2 x3 ∧ P1 x0 x1 x2 x3 ∧ P2 x0 x1 x2 x3 ∧ P3 x0 x1 x2 x3 ∧ P4 x0 x1 x2 x3) (k : ∀ x0 : α0, ∀ x1 : α1, ∀ x2 : α2, ∀ x3 : α3, P0 x0 x1 x2 x3 → P1 x0 x1 x2 x3 → P2 x0 x1 x2 x3 → P3 x0 x1 x2 x3 → P4 x0 x1 x2 x3 → G) : G := Exists.elim h fun y1 q1 => el_EEEAAAA q1 (k y1)
theorem el_EEEEEEAA {α0 : Sort _} {α1 : Sort _} {α2 : Sort _} {α3 : Sort _} {α4 : Sort _} {α5 : Sort _} {P0 : α0 → α1 → α2 → α3 → α4 → α5 → Prop} {P1 : α0 → α1 → α2 → α3 → α4 → α5 → Prop} {P2 : α0 → α1 → α2 → α3 → α4 → α5 → Prop} {G : Prop} (h : ∃ x0 : α0, ∃ x1 : α1, ∃ x2 : α2, ∃ x3 : α3, ∃ x4 : α4, ∃ x5 : α5, P0 x0 x1 x2 x3 x4 x5 ∧ P1 x0 x1 x2 x3 x4 x5 ∧ P2 x0 x1 x2 x3 x4 x5) (k : ∀ x0 : α0, ∀ x1 : α1, ∀ x2 : α2, ∀ x3 : α3, ∀ x4 : α4, ∀ x5 : α5, P0 x0 x1 x2 x3 x4 x5 → P1 x0 x1 x2 x3 x4 x5 → P2 x0 x1 x2 x3 x4 x5 → G) : G := Exists.elim h fun y1 q1 => Exists.elim q1 fun y2 q2 => el_EEEEAA q2 (k y1 y2)
theorem el_EEEEEEEA {α0 : Sort _} {α1 : Sort _} {α2 : Sort _} {α3 : Sort _} {α4 : Sort _} {α5 : Sort _} {α6 : Sort _} {P0 : α0 → α1 → α2 → α3 → α4 → α5 → α6 → Prop} {P1 : α0 → α1 → α2 → α3 → α4 → α5 → α6 → Prop} {G : Prop} (h : ∃ x0 : α0, ∃ x1 : α1, ∃ x2 : α2, ∃ x3 : α3, ∃ x4 : α4, ∃ x5 : α5, ∃ x6 : α6, P0 x0 x1 x2 x3 x4 x5 x6 ∧ P1 x0 x1 x2 x3 x4 x5 x6) (k : ∀ x0 : α0, ∀ x1 : α1, ∀ x2 : α2, ∀ x3 : α3, ∀ x4 : α4, ∀ x5 : α5, ∀ x6 : α6, P0 x0 x1 x2 x3 x4 x5 x6 → P1 x0 x1 x2 x3 x4 x5 x6 → G) : G := Exists.elim h fun y1 q1 => Exists.elim q1 fun y2 q2 => el_EEEEEA q2 (k y1 y2)
theorem el_EEEEEEEE {α0 : Sort _} {α1 : Sort _} {α2 : Sort _} {α3 : Sort _} {α4 : Sort _} {α5 : Sort _} {α6 : Sort _} {α7 : Sort _} {P0 : α0 → α1 → α2 → α3 → α4 → α5 → α6 → α7 → Prop} {G : Prop} (h : ∃ x0 : α0, ∃ x1 : α1, ∃ x2 : α2, ∃ x3 : α3, ∃ x4 : α4, ∃ x5 : α5, ∃ x6 : α6, ∃ x7 : α7, P0 x0 x1 x2 x3 x4 x5 x6 x7) (k : ∀ x0 : α0, ∀ x1 : α1, ∀ x2 : α2, ∀ x3 : α3, ∀ x4 : α4, ∀ x5 : α5, ∀ x6 : α6, ∀ x7 : α7, P0 x0 x1 x2 x3 x4 x5 x6 x7 → G) : G := Exists.elim h fun y1 q1 => el_EEEEEEE q1 (k y1)
theorem el_AAAAAAAAA  {P0 : Prop} {P1 : Prop} {P2 : Prop} {P3 : Prop} {P4 : Prop} {P5 : Prop} {P6 : Prop} {P7 : Prop} {P8 : Prop} {P9 : Prop} {G : Prop} (h : P0 ∧ P1 ∧ P2 ∧ P3 ∧ P4 ∧ P5 ∧ P6 ∧ P7 ∧ P8 ∧ P9) (k : P0 → P1 → P2 → P3 → P4 → P5 → P6 → P7 → P8 → P9 → G) : G := el_AAAAAAAA h.2 (k h.1)
theorem el_EAAAAAAAA {α0 : Sort _} {P0 : α0 → Prop} {P1 : α0 → Prop} {P2 : α0 → Prop} {P3 : α0 → Prop} {P4 : α0 → Prop} {P5 : α0 → Prop} {P6 : α0 → Prop} {P7 : α0 → Prop} {P8 : α0 → Prop} {G : Prop} (h : ∃ x0 : α0, P0 x0 ∧ P1 x0 ∧ P2 x0 ∧ P3 x0 ∧ P4 x0 ∧ P5 x0 ∧ P6 x0 ∧ P7 x0 ∧ P8 x0) (k : ∀ x0 : α0, P0 x0 → P1 x0 → P2 x0 → P3 x0 → P4 x0 → P5 x0 → P6 x0 → P7 x0 → P8 x0 → G) : G := Exists.elim h fun y1 q1 => el_AAAAAAAA q1 (k y1)
theorem el_EEEAAAAAA {α0 : Sort _} {α1 : Sort _} {α2 : Sort _} {P0 : α0 → α1 → α2 → Prop} {P1 : α0 → α1 → α2 → Prop} {P2 : α0 → α1 → α2 → Prop} {P3 : α0 → α1 → α2 → Prop} {P4 : α0 → α1 → α2 → Prop} {P5 : α0 → α1 → α2 → Prop} {P6 : α0 → α1 → α2 → Prop} {G : Prop} (h : ∃ x0 : α0, ∃ x1 : α1, ∃ x2 : α2, P0 x0 x1 x2 ∧ P1 x0 x1 x2 ∧ P2 x0 x1 x2 ∧ P3 x0 x1 x2 ∧ P4 x0 x1 x2 ∧ P5 x0 x1 x2 ∧ P6 x0 x1 x2) (k : ∀ x0 : α0, ∀ x1 : α1, ∀ x2 : α2, P0 x0 x1 x2 → P1 x0 x1 x2 → P2 x0 x1 x2 → P3 x0 x1 x2 → P4 x0 x1 x2 → P5 x0 x1 x2 → P6 x0 x1 x2 → G) : G := Exists.elim h fun y1 q1 => Exists.elim q1 fun y2 q2 => el_EAAAAAA q2 (k y1 y2)
theorem el_EEEEAAAAA {α0 : Sort _} {α1 : Sort _} {α2 : Sort _} {α3 : Sort _} {P0 : α0 → α1 → α2 → α3 → Prop} {P1 : α0 → α1 → α2 → α3 → Prop} {P2 : α0 → α1 → α2 → α3 → Prop} {P3 : α0 → α1 → α2 → α3 → Prop} {P4 : α0 → α1 → α2 → α3 → Prop} {P5 : α0 → α1 → α2 → α3 → Prop} {G : Prop} (h : ∃ x0 : α0, ∃ x1 : α1, ∃ x2 : α2, ∃ x3 : α3, P0 x0 x1 x2 x3 ∧ P1 x0 x1 x2 x3 ∧ P2 x0 x1 x2 x3 ∧ P3 x0 x1 x2 x3 ∧ P4 x0 x1 x2 x3 ∧ P5 x0 x1 x2 x3) (k : ∀ x0 : α0, ∀ x1 : α1, ∀ x2 : α2, ∀ x3 : α3, P0 x0 x1 x2 x3 → P1 x0 x1 x2 x3 → P2 x0 x1 x2 x3 → P3 x0 x1 x2 x3 → P4 x0 x1 x2 x3 → P5 x0 x1 x2 x3 → G) : G := Exists.elim h fun y1 q1 => el_EEEAAAAA q1 (k y1)
theorem el_EEEEEEAAA {α0 : Sort _} {α1 : Sort _} {α2 : Sort _} {α3 : Sort _} {α4 : Sort _} {α5 : Sort _} {P0 : α0 → α1 → α2 → α3 → α4 → α5 → Prop} {P1 : α0 → α1 → α2 → α3 → α4 → α5 → Prop} {P2 : α0 → α1 → α2 → α3 → α4 → α5 → Prop} {P3 : α0 → α1 → α2 → α3 → α4 → α5 → Prop} {G : Prop} (h : ∃ x0 : α0, ∃ x1 : α1, ∃ x2 : α2, ∃ x3 : α3, ∃ x4 : α4, ∃ x5 : α5, P0 x0 x1 x2 x3 x4 x5 ∧ P1 x0 x1 x2 x3 x4 x5 ∧ P2 x0 x1 x2 x3 x4 x5 ∧ P3 x0 x1 x2 x3 x4 x5) (k : ∀ x0 : α0, ∀ x1 : α1, ∀ x2 : α2, ∀ x3 : α3, ∀ x4 : α4, ∀ x5 : α5, P0 x0 x1 x2 x3 x4 x5 → P1 x0 x1 x2 x3 x4 x5 → P2 x0 x1 x2 x3 x4 x5 → P3 x0 x1 x2 x3 x4 x5 → G) : G := Exists.elim h fun y1 q1 => Exists.elim q1 fun y2 q2 => el_EEEEAAA q2 (k y1 y2)
theorem el_EEEEEEEEE {α0 : Sort _} {α1 : Sort _} {α2 : Sort _} {α3 : Sort _} {α4 : Sort _} {α5 : Sort _} {α6 : Sort _} {α7 : Sort _} {α8 : Sort _} {P0 : α0 → α1 → α2 → α3 → α4 → α5 → α6 → α7 → α8 → Prop} {G : Prop} (h : ∃ x0 : α0, ∃ x1 : α1, ∃ x2 : α2, ∃ x3 : α3, ∃ x4 : α4, ∃ x5 : α5, ∃ x6 : α6, ∃ x7 : α7, ∃ x8 : α8, P0 x0 x1 x2 x3 x4 x5 x6 x7 x8) (k : ∀ x0 : α0, ∀ x1 : α1, ∀ x2 : α2, ∀ x3 : α3, ∀ x4 : α4, ∀ x5 : α5, ∀ x6 : α6, ∀ x7 : α7, ∀ x8 : α8, P0 x0 x1 x2 x3 x4 x5 x6 x7 x8 → G) : G := Exists.elim h fun y1 q1 => el_EEEEEEEE q1 (k y1)
theorem el_AAAAAAAAAA  {P0 : Prop} {P1 : Prop} {P2 : Prop} {P3 : Prop} {P4 : Prop} {P5 : Prop} {P6 : Prop} {P7 : Prop} {P8 : Prop} {P9 : Prop} {P10 : Prop} {G : Prop} (h : P0 ∧ P1 ∧ P2 ∧ P3 ∧ P4 ∧ P5 ∧ P6 ∧ P7 ∧ P8 ∧ P9 ∧ P10) (k : P0 → P1 → P2 → P3 → P4 → P5 → P6 → P7 → P8 → P9 → P10 → G) : G := el_AAAAAAAAA h.2 (k h.1)
theorem el_EEEAAAAAAA {α0 : Sort _} {α1 : Sort _} {α2 : Sort _} {P0 : α0 → α1 → α2 → Prop} {P1 : α0 → α1 → α2 → Prop} {P2 : α0 → α1 → α2 → Prop} {P3 : α0 → α1 → α2 → Prop} {P4 : α0 → α1 → α2 → Prop} {P5 : α0 → α1 → α2 → Prop} {P6 : α0 → α1 → α2 → Prop} {P7 : α0 → α1 → α2 → Prop} {G : Prop} (h : ∃ x0 : α0, ∃ x1 : α1, ∃ x2 : α2, P0 x0 x1 x2 ∧ P1 x0 x1 x2 ∧ P2 x0 x1 x2 ∧ P3 x0 x1 x2 ∧ P4 x0 x1 x2 ∧ P5 x0 x1 x2 ∧ P6 x0 x1 x2 ∧ P7 x0 x1 x2) (k : ∀ x0 : α0, ∀ x1 : α1, ∀ x2 : α2, P0 x0 x1 x2 → P1 x0 x1 x2 → P2 x0 x1 x2 → P3 x0 x1 x2 → P4 x0 x1 x2 → P5 x0 x1 x2 → P6 x0 x1 x2 → P7 x0 x1 x2 → G) : G := Exists.elim h fun y1 q1 => Exists.elim q1 fun y2 q2 => Exists.elim q2 fun y3 q3 => el_AAAAAAA q3 (k y1 y2 y3)
theorem el_EEEEEAAAAA {α0 : Sort _} {α1 : Sort _} {α2 : Sort _} {α3 : Sort _} {α4 : Sort _} {P0 : α0 → α1 → α2 → α3 → α4 → Prop} {P1 : α0 → α1 → α2 → α3 → α4 → Prop} {P2 : α0 → α1 → α2 → α3 → α4 → Prop} {P3 : α0 → α1 → α2 → α3 → α4 → Prop} {P4 : α0 → α1 → α2 → α3 → α4 → Prop} {P5 : α0 → α1 → α2 → α3 → α4 → Prop} {G : Prop} (h : ∃ x0 : α0, ∃ x1 : α1, ∃ x2 : α2, ∃ x3 : α3, ∃ x4 : α4, P0 x0 x1 x2 x3 x4 ∧ P1 x0 x1 x2 x3 x4 ∧ P2 x0 x1 x2 x3 x4 ∧ P3 x0 x1 x2 x3 x4 ∧ P4 x0 x1 x2 x3 x4 ∧ P5 x0 x1 x2 x3 x4) (k : ∀ x0 : α0, ∀ x1 : α1, ∀ x2 : α2, ∀ x3 : α3, ∀ x4 : α4, P0 x0 x1 x2 x3 x4 → P1 x0 x1 x2 x3 x4 → P2 x0 x1 x2 x3 x4 → P3 x0 x1 x2 x3 x4 → P4 x0 x1 x2 x3 x4 → P5 x0 x1 x2 x3 x4 → G) : G := Exists.elim h fun y1 q1 => el_EEEEAAAAA q1 (k y1)
theorem el_EEEEEEEEEE {α0 : Sort _} {α1 : Sort _} {α2 : Sort _} {α3 : Sort _} {α4 : Sort _} {α5 : Sort _} {α6 : Sort _} {α7 : Sort _} {α8 : Sort _} {α9 : Sort _} {P0 : α0 → α1 → α2 → α3 → α4 → α5 → α6 → α7 → α8 → α9 → Prop} {G : Prop} (h : ∃ x0 : α0, ∃ x1 : α1, ∃ x2 : α2, ∃ x3 : α3, ∃ x4 : α4, ∃ x5 : α5, ∃ x6 : α6, ∃ x7 : α7, ∃ x8 : α8, ∃ x9 : α9, P0 x0 x1 x2 x3 x4 x5 x6 x7 x8 x9) (k : ∀ x0 : α0, ∀ x1 : α1, ∀ x2 : α2, ∀ x3 : α3, ∀ x4 : α4, ∀ x5 : α5, ∀ x6 : α6, ∀ x7 : α7, ∀ x8 : α8, ∀ x9 : α9, P0 x0 x1 x2 x3 x4 x5 x6 x7 x8 x9 → G) : G := Exists.elim h fun y1 q1 => el_EEEEEEEEE q1 (k y1)
theorem el_EEEEEEEEEEEA {α0 : Sort _} {α1 : Sort _} {α2 : Sort _} {α3 : Sort _} {α4 : Sort _} {α5 : Sort _} {α6 : Sort _} {α7 : Sort _} {α8 : Sort _} {α9 : Sort _} {α10 : Sort _} {P0 : α0 → α1 → α2 → α3 → α4 → α5 → α6 → α7 → α8 → α9 → α10 → Prop} {P1 : α0 → α1 → α2 → α3 → α4 → α5 → α6 → α7 → α8 → α9 → α10 → Prop} {G : Prop} (h : ∃ x0 : α0, ∃ x1 : α1, ∃ x2 : α2, ∃ x3 : α3, ∃ x4 : α4, ∃ x5 : α5, ∃ x6 : α6, ∃ x7 : α7, ∃ x8 : α8, ∃ x9 : α9, ∃ x10 : α10, P0 x0 x1 x2 x3 x4 x5 x6 x7 x8 x9 x10 ∧ P1 x0 x1 x2 x3 x4 x5 x6 x7 x8 x9 x10) (k : ∀ x0 : α0, ∀ x1 : α1, ∀ x2 : α2, ∀ x3 : α3, ∀ x4 : α4, ∀ x5 : α5, ∀ x6 : α6, ∀ x7 : α7, ∀ x8 : α8, ∀ x9 : α9, ∀ x10 : α10, P0 x0 x1 x2 x3 x4 x5 x6 x7 x8 x9 x10 → P1 x0 x1 x2 x3 x4 x5 x6 x7 x8 x9 x10 → G) : G := Exists.elim h fun y1 q1 => Exists.elim q1 fun y2 q2 => Exists.elim q2 fun y3 q3 => Exists.elim q3 fun y4 q4 => el_EEEEEEEA q4 (k y1 y2 y3 y4)
theorem el_AAAAAAAAAAAAAAAA  {P0 : Prop} {P1 : Prop} {P2 : Prop} {P3 : Prop} {P4 : Prop} {P5 : Prop} {P6 : Prop} {P7 : Prop} {P8 : Prop} {P9 : Prop} {P10 : Prop} {P11 : Prop} {P12 : Prop} {P13 : Prop} {P14 : Prop} {P15 : Prop} {P16 : Prop} {G : Prop} (h : P0 ∧ P1 ∧ P2 ∧ P3 ∧ P4 ∧ P5 ∧ P6 ∧ P7 ∧ P8 ∧ P9 ∧ P10 ∧ P11 ∧ P12 ∧ P13 ∧ P14 ∧ P15 ∧ P16) (k : P0 → P1 → P2 → P3 → P4 → P5 → P6 → P7 → P8 → P9 → P10 → P11 → P12 → P13 → P14 → P15 → P16 → G) : G := el_AAAAAAAAAA h.2.2.2.2.2.2 (k h.1 h.2.1 h.2.2.1 h.2.2.2.1 h.2.2.2.2.1 h.2.2.2.2.2.1)
end
section
section
variable {M : Model} {A : Around} {E : Value → Shared → Prop} {s s₁ s' : Shared} {K : Frag} {h₀ : Heap} {L a : Addr} {m mg mb : Str → Option Value} {cn : Str} {cs : Scope} {ccd : Value} {cl : List (Str × Addr)} {p : Program} {loose : List Str} {mean : ExcName → Option Value}
  {x : Str} {pos pos' : Pos} {v f : Value} {e : Expr} {es : List Expr} {vs : List Value} {Q : Value → Shared → Prop} {news : List (Addr × Obj)} {c : Addr} {o : Obj} {env : Env}
/-- e has the value v at once -/
def Ev (M : Model) (A : Around) (env : Env) (s s' : Shared) (e : Expr) (v : Value) : Prop := ∀ (Q E : Value → Shared → Prop), Q v s' → wpAny M A (eval e env) Q E s
theorem evX_L (F : Fr h₀ L s.heap m) (hk : cs.kind = .function) (hx : (envX cn cs L a ccd cl).kindOf x = some .local) (hv : m x = some v) (hd : (x == ("__debug__" : Str)) = false := by decide) :
    Ev M A (envX cn cs L a ccd cl) s s (.Name x pos) v := fun _ _ h => nameX_L F hv h hk hx hd
theorem evX_C (hk : cs.kind = .function) (hx : (envX cn cs L a ccd cl).kindOf x = some .cell) (N : News h₀ L s.heap news) (hc : cl.lookup x = some c) (hm : (c, o) ∈ news) (hd : o.data = .cell (some v)) (hb : (x == ("__debug__" : Str)) = false := by decide) :
    Ev M A (envX cn cs L a ccd cl) s s (.Name x pos) v := fun _ _ h => nameX_C N hc hm hd h hk hx hb
theorem evX_K (F : Fr h₀ L s.heap m) (X : K.In h₀) (T : TopRead p loose mg mb h₀) (hk : cs.kind = .function) (hx : (envX cn cs L a ccd cl).kindOf x = some .globalImplicit) (e : nsIn K mainGlobals x = some (some v)) (hd : (x == ("__debug__" : Str)) = false := by decide) :
    Ev M A (envX cn cs L a ccd cl) s s (.Name x pos) v := fun _ _ h => nameX_K F X T e h hk hx hd
theorem evX_B (F : Fr h₀ L s.heap m) (X : K.In h₀) (T : TopRead p loose mg mb h₀) (hk : cs.kind = .function) (hx : (envX cn cs L a ccd cl).kindOf x = some .globalImplicit) (e : nsIn K mainGlobals x = some none) (hv : bootBuiltins x = some v) (hn : x ≠ "__name__") (hd : (x == ("__debug__" : Str)) = false := by decide) :
    Ev M A (envX cn cs L a ccd cl) s s (.Name x pos) v := fun _ _ h => nameX_B F X T e hv hn h hk hx hd
/-- arguments without a star whose values are there at once -/
structure EvL (M : Model) (A : Around) (env : Env) (s s' : Shared) (es : List Expr) (vs : List Value) : Prop where
  head : ∀ e r, es = e :: r → starEach (e :: r) env = (false, eval e env) :: starEach r env ∧ ∀ pos, (backTo pos (starEach r env)).any (·.1) = false
  plain : ∀ pos, (backTo pos (starEach es env)).any (·.1) = false
  run : ∀ (pos : Pos) (Q : List Value → Shared → Prop) (E : Value → Shared → Prop), Q vs s' → wpAny M A (spliced (backTo pos (starEach es env))) Q E s
theorem evL_nil : EvL M A env s s [] [] := ⟨fun _ _ h => (nomatch h), fun _ => rfl, fun _ _ _ h => args_nil h⟩
theorem evL_cons (he : ∀ r, starEach (e :: r) env = (false, eval e env) :: starEach r env) (h : Ev M A env s s₁ e v) (t : EvL M A env s₁ s' es vs) : EvL M A env s s' (e :: es) (v :: vs) :=
  ⟨fun e' r h' => by cases h'; exact ⟨he _, t.plain⟩, fun pos => by rw [he]; exact t.plain pos, fun pos Q E hq => args_cons (h _ _ (t.run pos _ _ hq)) (he _)⟩
theorem evL_name (h : Ev M A env s s₁ (.Name x pos) v) (t : EvL M A env s₁ s' es vs) : EvL M A env s s' (.Name x pos :: es) (v :: vs) := evL_cons (fun _ => rfl) h t
theorem evL_int {i : Int} {k : Nat} (t : EvL M A env { s with toks := s.toks + 1 } s' es vs) : EvL M A env s s' (.Constant (.int i) k pos :: es) (.int i s.toks :: vs) := evL_cons (fun _ => rfl) (fun _ _ h => wpAny_Constant_int h) t
theorem evL_str {i : Str} {k : Nat} (t : EvL M A env { s with toks := s.toks + 1 } s' es vs) : EvL M A env s s' (.Constant (.str i) k pos :: es) (.str i s.toks :: vs) := evL_cons (fun _ => rfl) (fun _ _ h => Calls.Constant_str h) t
theorem evL_none {k : Nat} (t : EvL M A env s s' es vs) : EvL M A env s s' (.Constant .none k pos :: es) (.none :: vs) := evL_cons (fun _ => rfl) (fun _ _ h => wpAny_Constant_none h) t
theorem evL_bool {b : Bool} {k : Nat} (t : EvL M A env s s' es vs) : EvL M A env s s' (.Constant (.bool b) k pos :: es) (.bool b :: vs) := evL_cons (fun _ => rfl) (fun _ _ h => wpAny_Constant_bool h) t
/-- a call of one of the text's own things by its name, its arguments there at once -/
theorem call_own (F : Fr h₀ L s.heap m) (X : K.In h₀) (T : TopRead p loose mg mb h₀) (hf : cs.kind = .function) (hx : (envX cn cs L a ccd cl).kindOf x = some .globalImplicit) (e0 : nsIn K mainGlobals x = some (some f)) (hk : keepIn K f = true) (ha : EvL M A (envX cn cs L a ccd cl) s s' (e :: es) vs) (hs : s'.heap = s.heap) (h : wpAny M A (call f vs) Q E s')
    (hd : (x == ("__debug__" : Str)) = false := by decide) :
    wpAny M A (eval (.Call (.Name x pos') (e :: es) [] pos) (envX cn cs L a ccd cl)) Q E s :=
  Call_ (nameX_K F X T e0 (callWith_K X hk (ha.run pos _ _ ⟨hs ▸ Frag.In.keeps X F.keep, h⟩) (ha.head _ _ rfl).1 ((ha.head _ _ rfl).2 pos)) hf hx hd)
theorem call_own0 (F : Fr h₀ L s.heap m) (X : K.In h₀) (T : TopRead p loose mg mb h₀) (hf : cs.kind = .function) (hx : (envX cn cs L a ccd cl).kindOf x = some .globalImplicit) (e0 : nsIn K mainGlobals x = some (some f)) (hk : keepIn K f = true) (h : wpAny M A (call f []) Q E s)
    (hd : (x == ("__debug__" : Str)) = false := by decide) :
    wpAny M A (eval (.Call (.Name x pos') [] [] pos) (envX cn cs L a ccd cl)) Q E s :=
  Call_ (nameX_K F X T e0 (callWith_K0 (Frag.In.keeps X F.keep) hk h) hf hx hd)
theorem call_blt {id : String} (F : Fr h₀ L s.heap m) (X : K.In h₀) (T : TopRead p loose mg mb h₀) (hf : cs.kind = .function) (hx : (envX cn cs L a ccd cl).kindOf x = some .globalImplicit) (e0 : nsIn K mainGlobals x = some none) (hv : bootBuiltins x = some (.builtin id)) (hn : x ≠ "__name__") (ha : EvL M A (envX cn cs L a ccd cl) s s' (e :: es) vs) (h : wpAny M A (call (.builtin id) vs) Q E s')
    (hd : (x == ("__debug__" : Str)) = false := by decide) :
    wpAny M A (eval (.Call (.Name x pos') (e :: es) [] pos) (envX cn cs L a ccd cl)) Q E s :=
  Call_ (nameX_B F X T e0 hv hn (PyProof.Rows.callWith_builtin1 (ha.run pos _ _ h) (ha.head _ _ rfl).1 ((ha.head _ _ rfl).2 pos)) hf hx hd)
theorem call_typ {id : String} (F : Fr h₀ L s.heap m) (X : K.In h₀) (T : TopRead p loose mg mb h₀) (hf : cs.kind = .function) (hx : (envX cn cs L a ccd cl).kindOf x = some .globalImplicit) (e0 : nsIn K mainGlobals x = some none) (hv : bootBuiltins x = some (.type id)) (hn : x ≠ "__name__") (ha : EvL M A (envX cn cs L a ccd cl) s s' (e :: es) vs) (h : wpAny M A (call (.type id) vs) Q E s')
    (hd : (x == ("__debug__" : Str)) = false := by decide) :
    wpAny M A (eval (.Call (.Name x pos') (e :: es) [] pos) (envX cn cs L a ccd cl)) Q E s :=
  Call_ (nameX_B F X T e0 hv hn (PyProof.Rows.callWith_type1 (ha.run pos _ _ h) (ha.head _ _ rfl).1 ((ha.head _ _ rfl).2 pos)) hf hx hd)
/-- reading a part of a local name's value -/
theorem attr_ev {nm : Str} {pa : Pos} (hv : Ev M A env s s₁ (.Name x pos) v) (h : wpAny M A (getAttr v nm true) Q E s₁) : wpAny M A (eval (.Attribute (.Name x pos) nm pa) env) Q E s := PyProof.Rows.Attribute_Name_ (hv _ _ h)
end
end
section
set_option hygiene false
local macro_rules | `(tactic| regstrif_fact) => `(tactic| with_reducible (first | exact m_h | (refine m_t ?_; regstrif_fact) | (refine m_l ?_; regstrif_fact) | (refine m_r ?_; regstrif_fact) | assumption))
local macro_rules | `(tactic| regstrif_gather) => `(tactic| with_reducible (first | exact sub_r | (refine sub_t ?_; regstrif_gather) | (refine sub_l ?_; regstrif_gather) | (refine sub_h ?_; regstrif_gather) | assumption))
local macro_rules | `(tactic| regstrif_slice) => `(tactic| first | regstrif_gather | exact sub_n | (refine sub_c ?_ ?_; regstrif_fact; regstrif_slice) | (refine sub_a ?_ ?_; regstrif_slice; regstrif_slice))
set_option hygiene true
section
noncomputable abbrev lse : List Str := looseW hdz.view_1 [Str.ofString "NIL", Str.ofString "T", Str.ofString "list_of", Str.ofString "_law_standard"]

/-- what a call of the text's def at f does to the ledger -/
def Does (w : World) (f : Addr) (r u : Nat) (vs : List Value) (news : List (Addr × Obj)) (Post : Value → List (Addr × Obj) → Prop) : Prop :=
  ∀ (dp un : Nat) (gd : Option (List Code)) (cn : Str) (cs : Scope) (a : Addr) (ccd : Value) (cl : List (Str × Addr)) (outer : List Env) (A₀ : Around) (base h₀ : Heap) (L : Addr) (m : Str → Option Value)
    (mean : ExcName → Option Value) (mg mb : Str → Option Value) (s : Shared) (Q E : Value → Shared → Prop),
    Below A₀ base outer h₀ → Fr h₀ L s.heap m → (hdz.heap_1 w.params).In h₀ → News h₀ L s.heap news → Top hdz.view_1 lse mean mg mb h₀ → cs.kind = .function → dp + r < recursionLimit → un + u < cLine →
    (∀ v news' h' tk', Fr h₀ L h' m → News h₀ L h' news' → Post v news' → Q v { s with heap := h', toks := tk' }) →
    wpAny (model PySem.Challenge.rw_ok0061_01.row.prog w) (ktrTop dp un gd cn cs L a ccd cl outer) (call (.ref f) vs) Q E s

abbrev ent (w : World) (k : Str) (t : Tok) (v : Value) : DictEntry := ⟨PyData.keyHash w.params k, .str k t, v⟩

structure Cfg where
  wA : Addr
  ob : Addr
  ce : Addr
  N : Addr
  R : Addr
  P : Addr

structure St where
  ks : List (Str × Value)
  pl : List (Int × Value)
  oN : Obj
  n : Nat
  oP : Obj
  D : List (Str × List Str)
  X : List Str

def uni : List Str := [Str.ofString "nil", Str.ofString "t", Str.ofString "error-conditions", Str.ofString "error-message", Str.ofString "error", Str.ofString "quit", Str.ofString "arith-error", Str.ofString "overflow-error",
  Str.ofString "range-error", Str.ofString "nobody", Str.ofString "own0", Str.ofString "own1", Str.ofString "own2", Str.ofString "own3", Str.ofString "own4", Str.ofString "own5", Str.ofString "x"]

def uni2 : List Str := uni.drop 2
theorem uni2_sub {x : Str} (h : x ∈ uni2) : x ∈ uni := List.mem_of_mem_drop h
theorem uni2_ne {x : Str} (h : x ∈ uni2) : x ≠ Str.ofString "nil" ∧ x ≠ Str.ofString "t" := by
  have : ∀ y ∈ uni2, y ≠ Str.ofString "nil" ∧ y ≠ Str.ofString "t" := by decide
  exact this x h
def SymIn (w : World) (imm : List (Addr × Obj)) (a : Addr) (i : Int) (s : Str) : Prop :=
  ∃ d t1 t2 t3 t4, (a, instObj 72 d) ∈ imm ∧ (d, dictOf [ent w "number" t1 (.int i t3), ent w "name" t2 (.str s t4)] 2) ∈ imm

def SymAt (w : World) (imm : List (Addr × Obj)) (v : Value) (i : Int) (s : Str) : Prop :=
  ∃ a, v = .ref a ∧ ((i = 0 ∧ s = Str.ofString "nil" ∧ a = 78) ∨ (i = 1 ∧ s = Str.ofString "t" ∧ a = 81) ∨ SymIn w imm a i s)

abbrev mutL (c : Cfg) (σ : St) : List (Addr × Obj) := [(c.N, σ.oN), (c.R, listOf (σ.ks.map (·.2)).toArray σ.n), (c.P, σ.oP)]

/-- a chain of Cons: its items, its end -/
inductive LAt (w : World) (imm : List (Addr × Obj)) : Value → List Value → Value → Prop where
  | nil {v : Value} : LAt w imm v [] v
  | cons {a d : Addr} {t1 t2 : Tok} {x v e : Value} {xs : List Value} : (a, instObj 99 d) ∈ imm → (d, dictOf [ent w "car" t1 x, ent w "cdr" t2 v] 2) ∈ imm → handedIn x = true → handedIn v = true → LAt w imm v xs e → LAt w imm (.ref a) (x :: xs) e
theorem LAt.mono {w : World} {imm imm' : List (Addr × Obj)} {v e : Value} {xs : List Value} (h : LAt w imm v xs e) (k : ∀ p ∈ imm, p ∈ imm') : LAt w imm' v xs e := by
  induction h with
  | nil => exact .nil
  | cons h1 h2 h3 h4 _ ih => exact .cons (k _ h1) (k _ h2) h3 h4 ih

def SymsAre (w : World) (imm : List (Addr × Obj)) : List Value → List Str → Prop
  | [], [] => True
  | v :: vs, s :: ss => (∃ i, SymAt w imm v i s) ∧ SymsAre w imm vs ss
  | _, _ => False
inductive PlAt (w : World) (imm : List (Addr × Obj)) (ks : List (Str × Value)) (p : Addr) (names : List Str) : Prop
  | mk (pd : Addr) (t1 t2 : Tok) (ca p2 d2 : Addr) (t3 t4 : Tok) (told x : Value) (vs : List Value) (h1 : (p, instObj 99 pd) ∈ imm) (h2 : (pd, dictOf [ent w "car" t1 (.ref ca), ent w "cdr" t2 (.ref p2)] 2) ∈ imm) (h3 : (p2, instObj 99 d2) ∈ imm) (h4 : (d2, dictOf [ent w "car" t3 told, ent w "cdr" t4 x] 2) ∈ imm) (h5 : handedIn x = true)
      (h6 : valueAt ks (Str.ofString "error-conditions") = some (.ref ca)) (h7 : LAt w imm told vs (.ref 78)) (h8 : handedIn told = true) (h9 : SymsAre w imm vs names) : PlAt w imm ks p names
structure WI (w : World) (c : Cfg) (σ : St) (imm : List (Addr × Obj)) : Prop where
  wo : ∃ d t1 t2 t3 t4 t5 t6 t7 t8 v3 v4, (c.wA, instObj 518 d) ∈ imm ∧ (d, dictOf [ent w "obarray" t1 (.ref c.ob), ent w "cells" t2 (.ref c.ce), ent w "variables" t3 v3, ent w "bare" t4 v4, ent w "current" t5 .none, ent w "machine" t6 .none, ent w "last_marker" t7 (.int 0 t8)] 7) ∈ imm
  oo : ∃ d t1 t2, (c.ob, instObj 350 d) ∈ imm ∧ (d, dictOf [ent w "rows" t1 (.ref c.R), ent w "names" t2 (.ref c.N)] 2) ∈ imm
  co : ∃ d t1 t2 v1, (c.ce, instObj 273 d) ∈ imm ∧ (d, dictOf [ent w "functions" t1 v1, ent w "plists" t2 (.ref c.P)] 2) ∈ imm
  dN : σ.oN.IsDictOf (strKind PySem.Challenge.rw_ok0061_01.row.prog w) σ.ks
  dP : σ.oP.IsDictOf (intKind PySem.Challenge.rw_ok0061_01.row.prog w) σ.pl
  loN : (c.N == sysModules) = false
  loP : (c.P == sysModules) = false
  ne : @Ne Nat c.N c.R ∧ @Ne Nat c.N c.P ∧ @Ne Nat c.R c.P
  syms : ∀ (i : Nat) s v, σ.ks[i]? = some (s, v) → SymAt w imm v i s
  uni : ∀ p ∈ σ.ks, p.1 ∈ uni
  pn : σ.pl.length ≤ 17
  nil0 : σ.ks[0]? = some (Str.ofString "nil", .ref 78)
  t1 : σ.ks[1]? = some (Str.ofString "t", .ref 81)
  plk : ∀ p ∈ σ.pl, 0 ≤ p.1 ∧ p.1 < (σ.ks.length : Int)
  Dk : ∀ p ∈ σ.D, p.1 ∈ σ.ks.map (·.1)
  Du : ∀ p ∈ σ.D, p.2 ≠ [] ∧ p.2.Nodup ∧ ∀ x ∈ p.2, x ∈ uni2
  pls : ∀ (i : Nat) s v, σ.ks[i]? = some (s, v) → s ∉ σ.X → (σ.D.lookup s = none → valueAt σ.pl (i : Int) = none) ∧ ∀ names, σ.D.lookup s = some names → ∃ p, valueAt σ.pl (i : Int) = some (.ref p) ∧ PlAt w imm σ.ks p names

def Off (c : Cfg) (rest : List (Addr × Obj)) : Prop := (∀ p ∈ rest, p.1 ≠ c.N) ∧ (∀ p ∈ rest, p.1 ≠ c.R) ∧ (∀ p ∈ rest, p.1 ≠ c.P)

theorem SymIn.mono {w : World} {imm imm' : List (Addr × Obj)} {a : Addr} {i : Int} {s : Str} (h : SymIn w imm a i s) (k : ∀ p ∈ imm, p ∈ imm') : SymIn w imm' a i s := by
  (refine el_EEEEEA (h) ?_; (try clear h); rintro d t1 t2 t3 t4 h1 h2)
  exact ⟨d, t1, t2, t3, t4, k _ h1, k _ h2⟩
theorem SymAt.mono {w : World} {imm imm' : List (Addr × Obj)} {v : Value} {i : Int} {s : Str} (h : SymAt w imm v i s) (k : ∀ p ∈ imm, p ∈ imm') : SymAt w imm' v i s := by
  (refine el_EA (h) ?_; (try clear h); rintro a e (h | h | h))
  · exact ⟨a, e, .inl h⟩
  · exact ⟨a, e, .inr (.inl h)⟩
  · exact ⟨a, e, .inr (.inr (h.mono k))⟩
theorem SymsAre.mono {w : World} {imm imm' : List (Addr × Obj)} (k : ∀ p ∈ imm, p ∈ imm') : ∀ {vs : List Value} {ss : List Str}, SymsAre w imm vs ss → SymsAre w imm' vs ss
  | [], [], h => h
  | _ :: _, _ :: _, ⟨⟨i, h⟩, r⟩ => ⟨⟨i, h.mono k⟩, r.mono k⟩
  | [], _ :: _, h => h.elim
  | _ :: _, [], h => h.elim
theorem SymsAre.length {w : World} {imm : List (Addr × Obj)} : ∀ {vs : List Value} {ss : List Str}, SymsAre w imm vs ss → vs.length = ss.length
  | [], [], _ => rfl
  | _ :: _, _ :: _, ⟨_, r⟩ => by rw [List.length_cons, List.length_cons, r.length]
  | [], _ :: _, h => h.elim
  | _ :: _, [], h => h.elim
theorem PlAt.mono {w : World} {imm imm' : List (Addr × Obj)} {ks : List (Str × Value)} {p : Addr} {names : List Str} (h : PlAt w imm ks p names) (k : ∀ p ∈ imm, p ∈ imm') : PlAt w imm' ks p names := by
  obtain ⟨pd, t1, t2, ca, p2, d2, t3, t4, told, x, vs, h1, h2, h3, h4, h5, h6, h7, h8, h9⟩ := h
  exact ⟨pd, t1, t2, ca, p2, d2, t3, t4, told, x, vs, k _ h1, k _ h2, k _ h3, k _ h4, h5, h6, h7.mono k, h8, h9.mono k⟩
theorem WI.mono {w : World} {c : Cfg} {σ : St} {imm imm' : List (Addr × Obj)} (H : WI w c σ imm) (k : ∀ p ∈ imm, p ∈ imm') : WI w c σ imm' where
  wo := by (refine el_EEEEEEEEEEEA (H.wo) ?_; rintro d t1 t2 t3 t4 t5 t6 t7 t8 v3 v4 h1 h2); exact ⟨d, t1, t2, t3, t4, t5, t6, t7, t8, v3, v4, k _ h1, k _ h2⟩
  oo := by (refine el_EEEA (H.oo) ?_; rintro d t1 t2 h1 h2); exact ⟨d, t1, t2, k _ h1, k _ h2⟩
  co := by (refine el_EEEEA (H.co) ?_; rintro d t1 t2 v1 h1 h2); exact ⟨d, t1, t2, v1, k _ h1, k _ h2⟩
  dN := H.dN
  dP := H.dP
  loN := H.loN
  loP := H.loP
  ne := H.ne
  syms := fun i s v e => (H.syms i s v e).mono k
  uni := H.uni
  pn := H.pn
  nil0 := H.nil0
  t1 := H.t1
  plk := H.plk
  Dk := H.Dk
  Du := H.Du
  pls := fun i s v e hx => ⟨(H.pls i s v e hx).1, fun names hn => by (refine el_EA ((H.pls i s v e hx).2 names hn) ?_; rintro p h1 h2); exact ⟨p, h1, h2.mono k⟩⟩
theorem nodup_sub_length {α : Type} [DecidableEq α] : ∀ (l u : List α), l.Nodup → (∀ x ∈ l, x ∈ u) → l.length ≤ u.length
  | [], _, _, _ => Nat.zero_le _
  | a :: l, u, hn, hs => by
    have h1 := nodup_sub_length l (u.erase a) (List.nodup_cons.mp hn).2 (fun x hx => by
      have hne : x ≠ a := fun e => (List.nodup_cons.mp hn).1 (e ▸ hx)
      exact (List.mem_erase_of_ne hne).mpr (hs x (List.mem_cons_of_mem _ hx)))
    have h2 := List.length_erase_of_mem (hs a List.mem_cons_self)
    have h3 : 0 < u.length := List.length_pos_of_mem (hs a List.mem_cons_self)
    rw [List.length_cons]; omega

theorem AllLt.mem {d : Addr} : ∀ {l : List (Addr × Obj)}, AllLt d l → ∀ p ∈ l, @LT.lt Nat _ p.1 d
  | [], _, _, h => nomatch h
  | _ :: _, h, p, hp => by
    rcases List.mem_cons.mp hp with rfl | hp
    · exact h.1
    · exact AllLt.mem h.2 p hp
theorem lt_off {d : Addr} {l : List (Addr × Obj)} (h : AllLt d l) : ∀ p ∈ l, p.1 ≠ d := fun p hp => Nat.ne_of_lt (AllLt.mem h p hp)
theorem lt_off1 {d : Addr} {l : List (Addr × Obj)} {a : Prop} (h : a ∧ AllLt d l) : ∀ p ∈ l, p.1 ≠ d := lt_off h.2
theorem lt_off2 {d : Addr} {l : List (Addr × Obj)} {a b : Prop} (h : a ∧ b ∧ AllLt d l) : ∀ p ∈ l, p.1 ≠ d := lt_off h.2.2
theorem lt_off3 {d : Addr} {l : List (Addr × Obj)} {a b c : Prop} (h : a ∧ b ∧ c ∧ AllLt d l) : ∀ p ∈ l, p.1 ≠ d := lt_off h.2.2.2
theorem lt_off4 {d : Addr} {l : List (Addr × Obj)} {a b c e : Prop} (h : a ∧ b ∧ c ∧ e ∧ AllLt d l) : ∀ p ∈ l, p.1 ≠ d := lt_off h.2.2.2.2
theorem lt_off5 {d : Addr} {l : List (Addr × Obj)} {a b c e f : Prop} (h : a ∧ b ∧ c ∧ e ∧ f ∧ AllLt d l) : ∀ p ∈ l, p.1 ≠ d := lt_off h.2.2.2.2.2
theorem lt_off6 {d : Addr} {l : List (Addr × Obj)} {a b c e f g : Prop} (h : a ∧ b ∧ c ∧ e ∧ f ∧ g ∧ AllLt d l) : ∀ p ∈ l, p.1 ≠ d := lt_off h.2.2.2.2.2.2
theorem lt_off7 {d : Addr} {l : List (Addr × Obj)} {a b c e f g i : Prop} (h : a ∧ b ∧ c ∧ e ∧ f ∧ g ∧ i ∧ AllLt d l) : ∀ p ∈ l, p.1 ≠ d := lt_off h.2.2.2.2.2.2.2
theorem lt_off8 {d : Addr} {l : List (Addr × Obj)} {a b c e f g i j : Prop} (h : a ∧ b ∧ c ∧ e ∧ f ∧ g ∧ i ∧ j ∧ AllLt d l) : ∀ p ∈ l, p.1 ≠ d := lt_off h.2.2.2.2.2.2.2.2
theorem WI.klen {w : World} {c : Cfg} {σ : St} {imm : List (Addr × Obj)} (H : WI w c σ imm) : σ.ks.length ≤ 17 := by
  (refine el_EEAAAA (H.dN) ?_; rintro es ep _ _ _ _ hn)
  have := nodup_sub_length (σ.ks.map (·.1)) Mine.uni hn (fun x hx => by
    (refine el_EA (List.mem_map.mp hx) ?_; rintro p hp rfl)
    exact H.uni p hp)
  simpa [Mine.uni] using this

def Grows (σ σ' : St) : Prop := (∃ t, σ'.ks = σ.ks ++ t) ∧ σ'.pl = σ.pl ∧ σ'.D = σ.D ∧ σ'.X = σ.X

structure Mv (w : World) (c : Cfg) (fr : List (Addr × Obj)) (σ : St) (imm rest : List (Addr × Obj)) (σ' : St) (imm' rest' : List (Addr × Obj)) : Prop where
  sub : ∀ p ∈ imm, p ∈ imm'
  hs : ∀ p ∈ imm', p ∈ rest'
  subr : ∀ p ∈ rest, p ∈ rest'
  fresh : ∀ p ∈ rest', p ∈ rest ∨ ∀ q ∈ mutL c σ ++ (fr ++ rest), @Ne Nat q.1 p.1
  H : WI w c σ' imm'
  G : Grows σ σ'
def Step (w : World) (c : Cfg) (σ : St) (imm fr rest : List (Addr × Obj)) (Ex : Value → St → List (Addr × Obj) → Prop) (v : Value) (news' : List (Addr × Obj)) : Prop :=
  ∃ σ' imm' rest', news' = mutL c σ' ++ (fr ++ rest') ∧ Mv w c fr σ imm rest σ' imm' rest' ∧ Ex v σ' imm'

theorem Off.grown {c : Cfg} {σ : St} {fr rest rest' : List (Addr × Obj)} (o : Off c rest) (h : ∀ p ∈ rest', p ∈ rest ∨ ∀ q ∈ mutL c σ ++ (fr ++ rest), @Ne Nat q.1 p.1) : Off c rest' := by
  refine ⟨fun p hp e => ?_, fun p hp e => ?_, fun p hp e => ?_⟩
  · rcases h p hp with h1 | h1
    · exact o.1 p h1 e
    · exact h1 (c.N, σ.oN) (by (first | regstrif_fact | simp [mutL])) e.symm
  · rcases h p hp with h1 | h1
    · exact o.2.1 p h1 e
    · exact h1 (c.R, listOf (σ.ks.map (·.2)).toArray σ.n) (by (first | regstrif_fact | simp [mutL])) e.symm
  · rcases h p hp with h1 | h1
    · exact o.2.2 p h1 e
    · exact h1 (c.P, σ.oP) (by (first | regstrif_fact | simp [mutL])) e.symm
theorem valueAt_append {K : Type} [DecidableEq K] (xs ys : List (K × Value)) (k : K) : valueAt (xs ++ ys) k = (valueAt xs k).or (valueAt ys k) := by
  unfold valueAt
  rw [List.find?_append]
  cases List.find? (fun kv => decide (kv.1 = k)) xs <;> rfl
theorem valueAt_mem {K : Type} [DecidableEq K] {xs : List (K × Value)} {k : K} {v : Value} (h : valueAt xs k = some v) : ∃ i : Nat, xs[i]? = some (k, v) := by
  unfold valueAt at h
  cases e : List.find? (fun kv => decide (kv.1 = k)) xs with
  | none => rw [e] at h; cases h
  | some p =>
    rw [e] at h
    have h1 := List.find?_some e
    have h2 := List.mem_of_find?_eq_some e
    obtain ⟨i, hi⟩ := List.getElem?_of_mem h2
    refine ⟨i, hi.trans ?_⟩
    obtain ⟨a, b⟩ := p
    simp at h1 h
    rw [h1, h]
theorem stored_new {K : Type} [DecidableEq K] {xs : List (K × Value)} {k : K} (h : valueAt xs k = none) (v : Value) : stored xs k v = xs ++ [(k, v)] := by
  unfold stored
  rw [if_neg]
  intro h1
  (refine el_EA (List.any_eq_true.mp h1) ?_; rintro p hp hk)
  unfold valueAt at h
  cases e : List.find? (fun kv => decide (kv.1 = k)) xs with
  | none => exact absurd hk (by simpa using List.find?_eq_none.mp e p hp)
  | some q => rw [e] at h; cases h

theorem PlAt.grow {w : World} {imm : List (Addr × Obj)} {ks t : List (Str × Value)} {p : Addr} {names : List Str} (h : PlAt w imm ks p names) : PlAt w imm (ks ++ t) p names := by
  obtain ⟨pd, t1, t2, ca, p2, d2, t3, t4, told, x, vs, h1, h2, h3, h4, h5, h6, h7, h8, h9⟩ := h
  exact ⟨pd, t1, t2, ca, p2, d2, t3, t4, told, x, vs, h1, h2, h3, h4, h5, by rw [valueAt_append, h6]; rfl, h7, h8, h9⟩
theorem valueAt_none {K : Type} [DecidableEq K] {xs : List (K × Value)} {k : K} (h : ∀ p ∈ xs, p.1 ≠ k) : valueAt xs k = none := by
  unfold valueAt
  have : List.find? (fun kv => decide (kv.1 = k)) xs = none := List.find?_eq_none.mpr fun p hp => by simpa using h p hp
  rw [this]; rfl
theorem lookup_mem {α : Type} {xs : List (Str × α)} {k : Str} {v : α} (h : xs.lookup k = some v) : (k, v) ∈ xs := by
  induction xs with
  | nil => cases h
  | cons p r ih =>
    obtain ⟨a, b⟩ := p
    rw [List.lookup_cons] at h
    by_cases e : (k == a) = true
    · rw [e] at h
      have := eq_of_beq e
      subst this
      cases h
      exact List.mem_cons_self
    · have e' : (k == a) = false := by simpa using e
      rw [e'] at h
      exact List.mem_cons_of_mem _ (ih h)
theorem key_none {xs : List (Str × Value)} {k : Str} (h : valueAt xs k = none) (hm : k ∈ xs.map (·.1)) : False := by
  (refine el_EA (List.mem_map.mp hm) ?_; rintro p hp rfl)
  unfold valueAt at h
  cases e : List.find? (fun kv => decide (kv.1 = p.1)) xs with
  | none => have h9 := List.find?_eq_none.mp e p hp; simp at h9
  | some q => rw [e] at h; cases h
theorem intern_end {h₀ h' : Heap} {L : Addr} {w : World} {c : Cfg} {σ : St} {imm fr rest : List (Addr × Obj)} {name : Str} {x d' : Addr} {t1 t2 t3 t4 : Tok} {o' : Obj}
    (hu : name ∈ uni) (H : WI w c σ imm) (hs : ∀ p ∈ imm, p ∈ rest) (hx : valueAt σ.ks name = none)
    (l1 : @LT.lt Nat _ c.N d' ∧ @LT.lt Nat _ c.R d' ∧ @LT.lt Nat _ c.P d' ∧ AllLt d' (fr ++ rest)) (l2 : @LT.lt Nat _ d' x)
    (hd' : o'.IsDictOf (strKind PySem.Challenge.rw_ok0061_01.row.prog w) (stored σ.ks name (.ref x)))
    (N' : News h₀ L h' ((x, instObj 72 d') :: (d', dictOf [ent w "number" t1 (.int ((σ.ks.map (·.2)).toArray.size : Nat) t3), ent w "name" t2 (.str name t4)] 2) :: (c.N, o') :: (c.R, listOf ((σ.ks.map (·.2)).toArray.push (.ref x)) (σ.n + 1)) :: (c.P, σ.oP) :: (fr ++ rest))) :
    ∃ news', News h₀ L h' news' ∧ Step w c σ imm fr rest (fun v σ' _ => valueAt σ'.ks name = some v) (.ref x) news' := by
  rw [stored_new hx] at hd'
  have hl : σ.ks.length ≤ 17 := H.klen
  refine ⟨mutL c ⟨σ.ks ++ [(name, .ref x)], σ.pl, o', σ.n + 1, σ.oP, σ.D, σ.X⟩ ++ (fr ++ ((x, instObj 72 d') :: (d', dictOf [ent w "number" t1 (.int ((σ.ks.map (·.2)).toArray.size : Nat) t3), ent w "name" t2 (.str name t4)] 2) :: rest)), fun p hp => N' p ?_, ?_⟩
  · have e : listOf (List.map (fun x => x.2) (σ.ks ++ [(name, Value.ref x)])).toArray (σ.n + 1) = listOf ((σ.ks.map (·.2)).toArray.push (.ref x)) (σ.n + 1) := by simp
    exact sub_p hp (by dsimp only [mutL]; rw [e]; regstrif_slice)
  · refine ⟨_, (x, instObj 72 d') :: (d', dictOf [ent w "number" t1 (.int ((σ.ks.map (·.2)).toArray.size : Nat) t3), ent w "name" t2 (.str name t4)] 2) :: imm, _, rfl, ⟨fun p hp => List.mem_cons_of_mem _ (List.mem_cons_of_mem _ hp), ?_, fun p hp => List.mem_cons_of_mem _ (List.mem_cons_of_mem _ hp), ?_, ?_, ⟨⟨_, rfl⟩, rfl, rfl, rfl⟩⟩, ?_⟩
    · exact sub_c List.mem_cons_self (sub_c (List.mem_cons_of_mem _ List.mem_cons_self) (fun p hp => List.mem_cons_of_mem _ (List.mem_cons_of_mem _ (hs _ hp))))
    · have lt : ∀ q ∈ mutL c σ ++ (fr ++ rest), @LT.lt Nat _ q.1 d' := all_a (all_c l1.1 (all_c l1.2.1 (all_c l1.2.2.1 all_n))) (fun q hq => AllLt.mem l1.2.2.2 q hq)
      exact all_c (.inr fun q hq => Nat.ne_of_lt (Nat.lt_trans (lt q hq) l2)) (all_c (.inr fun q hq => Nat.ne_of_lt (lt q hq)) (fun p hp => .inl hp))
    · have H' := H.mono (imm' := (x, instObj 72 d') :: (d', dictOf [ent w "number" t1 (.int ((σ.ks.map (·.2)).toArray.size : Nat) t3), ent w "name" t2 (.str name t4)] 2) :: imm) fun p hp => List.mem_cons_of_mem _ (List.mem_cons_of_mem _ hp)
      exact { wo := H'.wo, oo := H'.oo, co := H'.co, dN := hd', dP := H'.dP, loN := H'.loN, loP := H'.loP, ne := H'.ne, pn := H'.pn
              syms := fun i s v e => by
                by_cases hi : i < σ.ks.length
                · rw [List.getElem?_append_left hi] at e; exact H'.syms i s v e
                · rw [List.getElem?_append_right (Nat.le_of_not_lt hi)] at e
                  have h0 : i - σ.ks.length = 0 := by
                    have := List.getElem?_eq_some_iff.mp e
                    obtain ⟨h2, _⟩ := this
                    simp at h2; omega
                  rw [h0] at e
                  simp at e
                  obtain ⟨rfl, rfl⟩ := e
                  have hi' : i = σ.ks.length := by omega
                  subst hi'
                  refine ⟨x, rfl, .inr (.inr ⟨d', t1, t2, t3, t4, List.mem_cons_self, ?_⟩)⟩
                  simp
              uni := fun p hp => by
                rcases List.mem_append.mp hp with hp | hp
                · exact H.uni p hp
                · simp at hp; subst hp; exact hu
              nil0 := by rw [List.getElem?_append_left]; exact H.nil0; have := H.nil0; obtain ⟨h, _⟩ := List.getElem?_eq_some_iff.mp this; exact h
              t1 := by rw [List.getElem?_append_left]; exact H.t1; have := H.t1; obtain ⟨h, _⟩ := List.getElem?_eq_some_iff.mp this; exact h
              plk := fun p hp => by have := H.plk p hp; simp only [List.length_append, List.length_cons, List.length_nil]; omega
              Dk := fun p hp => by rw [List.map_append]; exact List.mem_append_left _ (H.Dk p hp)
              Du := H.Du
              pls := fun i s v e hx9 => by
                by_cases hi : i < σ.ks.length
                · rw [List.getElem?_append_left hi] at e
                  exact ⟨(H'.pls i s v e hx9).1, fun names hn => by (refine el_EA ((H'.pls i s v e hx9).2 names hn) ?_; rintro p h1 h2); exact ⟨p, h1, h2.grow⟩⟩
                · rw [List.getElem?_append_right (Nat.le_of_not_lt hi)] at e
                  have h0 : i - σ.ks.length = 0 := by
                    have := List.getElem?_eq_some_iff.mp e
                    obtain ⟨h2, _⟩ := this
                    simp at h2; omega
                  rw [h0] at e
                  simp at e
                  obtain ⟨rfl, rfl⟩ := e
                  have hi' : i = σ.ks.length := by omega
                  subst hi'
                  refine ⟨fun _ => valueAt_none fun p hp e => ?_, fun names hn => ?_⟩
                  · have := (H.plk p hp).2; rw [e] at this; exact Int.lt_irrefl _ this
                  · exfalso
                    have h1 := H.Dk (name, names) (lookup_mem hn)
                    exact key_none hx h1 }
    · show valueAt (σ.ks ++ [(name, .ref x)]) name = _
      rw [valueAt_append, hx]
      simp [valueAt]
theorem Step.same {w : World} {c : Cfg} {σ : St} {imm fr rest : List (Addr × Obj)} {Ex : Value → St → List (Addr × Obj) → Prop} {v : Value} (H : WI w c σ imm) (hs : ∀ p ∈ imm, p ∈ rest) (h : Ex v σ imm) :
    Step w c σ imm fr rest Ex v (mutL c σ ++ (fr ++ rest)) :=
  ⟨σ, imm, rest, rfl, ⟨fun _ h => h, hs, fun _ h => h, fun _ h => .inl h, H, ⟨⟨[], (List.append_nil _).symm⟩, rfl, rfl, rfl⟩⟩, h⟩
theorem WI.ref {w : World} {c : Cfg} {σ : St} {imm : List (Addr × Obj)} (H : WI w c σ imm) {name : Str} {v : Value} (h : valueAt σ.ks name = some v) : ∃ a, v = .ref a := by
  obtain ⟨i, hi⟩ := valueAt_mem h
  (refine el_EA (H.syms i _ _ hi) ?_; rintro a e _)
  exact ⟨a, e⟩

section
variable {w : World} {f : Addr} {r u : Nat} {vs : List Value} {news : List (Addr × Obj)} {dp un : Nat} {gd : Option (List Code)} {cn : Str} {cs : Scope} {a : Addr} {ccd : Value} {cl : List (Str × Addr)} {outer : List Env} {A₀ : Around} {base h₀ : Heap} {L : Addr} {m : Str → Option Value}
  {mean : ExcName → Option Value} {mg mb : Str → Option Value} {s : Shared} {Q E : Value → Shared → Prop}
theorem does_use {Post : Value → List (Addr × Obj) → Prop} (C : Does w f r u vs news Post) (B : Below A₀ base outer h₀) (F : Fr h₀ L s.heap m) (X : (hdz.heap_1 w.params).In h₀) (N : News h₀ L s.heap news) (T : Top hdz.view_1 lse mean mg mb h₀) (hk : cs.kind = .function)
    (hd : dp + r < recursionLimit) (hu : un + u < cLine)
    (ret : ∀ v news' h' tk', Fr h₀ L h' m → News h₀ L h' news' → Post v news' → Q v { s with heap := h', toks := tk' }) :
    wpAny (model PySem.Challenge.rw_ok0061_01.row.prog w) (ktrTop dp un gd cn cs L a ccd cl outer) (call (.ref f) vs) Q E s := C _ _ _ _ _ _ _ _ _ _ _ _ _ _ _ _ _ _ _ _ B F X N T hk hd hu ret
theorem step_use {c : Cfg} {σ : St} {imm fr rest nl : List (Addr × Obj)} {Ex : Value → St → List (Addr × Obj) → Prop} (C : Does w f r u vs (mutL c σ ++ (fr ++ rest)) (Step w c σ imm fr rest Ex))
    (B : Below A₀ base outer h₀) (F : Fr h₀ L s.heap m) (X : (hdz.heap_1 w.params).In h₀) (N : News h₀ L s.heap nl) (sub : ∀ p ∈ mutL c σ ++ (fr ++ rest), p ∈ nl) (T : Top hdz.view_1 lse mean mg mb h₀) (off : Off c (fr ++ rest)) (hk : cs.kind = .function)
    (hd : dp + r < recursionLimit) (hu : un + u < cLine)
    (ret : ∀ v σ' imm' rest' h' tk', Fr h₀ L h' m → News h₀ L h' (mutL c σ' ++ (fr ++ rest')) → Mv w c fr σ imm rest σ' imm' rest' → Off c (fr ++ rest') → Ex v σ' imm' → Q v { s with heap := h', toks := tk' }) :
    wpAny (model PySem.Challenge.rw_ok0061_01.row.prog w) (ktrTop dp un gd cn cs L a ccd cl outer) (call (.ref f) vs) Q E s := by
  refine does_use C B F X (fun p hp => N p (sub p hp)) T hk hd hu fun v news' h' tk' F' N' P => ?_
  (refine el_EEEAA (P) ?_; (try clear P); rintro σ' imm' rest' rfl M h7)
  refine ret v σ' imm' rest' h' tk' F' N' M ?_ h7
  have o2 : Off c rest' := by
    have hb : Off c rest := ⟨fun p hp => off.1 p (List.mem_append_right _ hp), fun p hp => off.2.1 p (List.mem_append_right _ hp), fun p hp => off.2.2 p (List.mem_append_right _ hp)⟩
    exact hb.grown M.fresh
  refine ⟨fun p hp => ?_, fun p hp => ?_, fun p hp => ?_⟩ <;> rcases List.mem_append.mp hp with hp | hp
  · exact off.1 p (List.mem_append_left _ hp)
  · exact o2.1 p hp
  · exact off.2.1 p (List.mem_append_left _ hp)
  · exact o2.2.1 p hp
  · exact off.2.2 p (List.mem_append_left _ hp)
  · exact o2.2.2 p hp
theorem adds_use {Ex : Value → List (Addr × Obj) → Prop} (C : Does w f r u vs news (fun v news' => ∃ tl, news' = tl ++ news ∧ (∀ p ∈ tl, ∀ q ∈ news, @LT.lt Nat _ q.1 p.1) ∧ Ex v tl)) (B : Below A₀ base outer h₀) (F : Fr h₀ L s.heap m) (X : (hdz.heap_1 w.params).In h₀) (N : News h₀ L s.heap news) (T : Top hdz.view_1 lse mean mg mb h₀) (hk : cs.kind = .function)
    (hd : dp + r < recursionLimit) (hu : un + u < cLine)
    (ret : ∀ v tl h' tk', Fr h₀ L h' m → News h₀ L h' (tl ++ news) → (∀ p ∈ tl, ∀ q ∈ news, @LT.lt Nat _ q.1 p.1) → Ex v tl → Q v { s with heap := h', toks := tk' }) :
    wpAny (model PySem.Challenge.rw_ok0061_01.row.prog w) (ktrTop dp un gd cn cs L a ccd cl outer) (call (.ref f) vs) Q E s :=
  does_use C B F X N T hk hd hu fun v news' h' tk' F' N' ⟨tl, e, h1, h2⟩ => ret v tl h' tk' F' (e ▸ N') h1 h2
end
theorem WI.sym {w : World} {c : Cfg} {σ : St} {imm : List (Addr × Obj)} (H : WI w c σ imm) {name : Str} {v : Value} (h : valueAt σ.ks name = some v) (h0 : name ≠ Str.ofString "nil") (h1 : name ≠ Str.ofString "t") :
    ∃ a i, v = .ref a ∧ σ.ks[i]? = some (name, v) ∧ SymIn w imm a (i : Nat) name := by
  obtain ⟨i, hi⟩ := valueAt_mem h
  (refine el_EA (H.syms i _ _ hi) ?_; rintro a e (⟨_, h2, _⟩ | ⟨_, h2, _⟩ | h2))
  · exact absurd h2 h0
  · exact absurd h2 h1
  · exact ⟨a, i, e, hi, h2⟩
theorem sym_use {w : World} {f : Addr} {r u : Nat} {vs : List Value} {dp un : Nat} {gd : Option (List Code)} {cn : Str} {cs : Scope} {a : Addr} {ccd : Value} {cl : List (Str × Addr)} {outer : List Env} {A₀ : Around} {base h₀ : Heap} {L : Addr} {m : Str → Option Value} {mean : ExcName → Option Value} {mg mb : Str → Option Value} {s : Shared} {Q E : Value → Shared → Prop}
    {c : Cfg} {σ : St} {imm fr rest nl : List (Addr × Obj)} {name : Str} (C : Does w f r u vs (mutL c σ ++ (fr ++ rest)) (Step w c σ imm fr rest fun v σ' _ => valueAt σ'.ks name = some v)) (n0 : name ≠ Str.ofString "nil") (n1 : name ≠ Str.ofString "t")
    (B : Below A₀ base outer h₀) (F : Fr h₀ L s.heap m) (X : (hdz.heap_1 w.params).In h₀) (N : News h₀ L s.heap nl) (sub : ∀ p ∈ mutL c σ ++ (fr ++ rest), p ∈ nl) (T : Top hdz.view_1 lse mean mg mb h₀) (off : Off c (fr ++ rest)) (hk : cs.kind = .function)
    (hd : dp + r < recursionLimit) (hu : un + u < cLine)
    (ret : ∀ (a : Addr) (i : Nat) σ' imm' rest' h' tk', Fr h₀ L h' m → News h₀ L h' (mutL c σ' ++ (fr ++ rest')) → Mv w c fr σ imm rest σ' imm' rest' → Off c (fr ++ rest') → valueAt σ'.ks name = some (.ref a) → σ'.ks[i]? = some (name, .ref a) → SymIn w imm' a (i : Nat) name → Q (.ref a) { s with heap := h', toks := tk' }) :
    wpAny (model PySem.Challenge.rw_ok0061_01.row.prog w) (ktrTop dp un gd cn cs L a ccd cl outer) (call (.ref f) vs) Q E s :=
  step_use C B F X N sub T off hk hd hu fun v σ' imm' rest' h' tk' F' N' M o hv => by
    obtain ⟨a, i, e, h1, h2⟩ := M.H.sym hv n0 n1
    subst e
    exact ret a i σ' imm' rest' h' tk' F' N' M o hv h1 h2
theorem Grows.at {σ σ' : St} (G : Grows σ σ') {name : Str} {v : Value} (h : valueAt σ.ks name = some v) : valueAt σ'.ks name = some v := by
  obtain ⟨⟨t, e⟩, _⟩ := G
  rw [e, valueAt_append, h]; rfl
theorem Grows.trans {σ σ' σ'' : St} (G : Grows σ σ') (G' : Grows σ' σ'') : Grows σ σ'' := by
  (refine el_AAA (G) ?_; (try clear G); rintro ⟨t, e⟩ e1 e2 e3)
  (refine el_AAA (G') ?_; (try clear G'); rintro ⟨t', e'⟩ e1' e2' e3')
  exact ⟨⟨t ++ t', by rw [e', e, List.append_assoc]⟩, e1'.trans e1, e2'.trans e2, e3'.trans e3⟩

theorem mut_lt {c : Cfg} {σ σ' : St} {fr rest rest' : List (Addr × Obj)} {a : Addr} (k : ∀ p ∈ rest, p ∈ rest') (h : ∀ q ∈ mutL c σ' ++ (fr ++ rest'), @Ne Nat q.1 a) : ∀ q ∈ mutL c σ ++ (fr ++ rest), @Ne Nat q.1 a := by
  intro q hq
  simp only [mutL, List.cons_append, List.nil_append, List.mem_cons, List.mem_append] at hq
  rcases hq with rfl | rfl | rfl | hq | hq
  · exact h (c.N, σ'.oN) (by (first | regstrif_fact | simp [mutL]))
  · exact h (c.R, listOf (σ'.ks.map (·.2)).toArray σ'.n) (by (first | regstrif_fact | simp [mutL]))
  · exact h (c.P, σ'.oP) (by (first | regstrif_fact | simp [mutL]))
  · exact h q (by (first | exact sub_p hq (by regstrif_slice) | simp [hq]))
  · exact h q (by simp [k q hq])
theorem Mv.refl {w : World} {c : Cfg} {fr : List (Addr × Obj)} {σ : St} {imm rest : List (Addr × Obj)} (H : WI w c σ imm) (hs : ∀ p ∈ imm, p ∈ rest) : Mv w c fr σ imm rest σ imm rest :=
  ⟨fun _ h => h, hs, fun _ h => h, fun _ h => .inl h, H, ⟨⟨[], (List.append_nil _).symm⟩, rfl, rfl, rfl⟩⟩
theorem Mv.trans {w : World} {c : Cfg} {fr : List (Addr × Obj)} {σ σ' σ'' : St} {imm rest imm' rest' imm'' rest'' : List (Addr × Obj)} (M : Mv w c fr σ imm rest σ' imm' rest') (M' : Mv w c fr σ' imm' rest' σ'' imm'' rest'') : Mv w c fr σ imm rest σ'' imm'' rest'' where
  sub := fun p hp => M'.sub p (M.sub p hp)
  hs := M'.hs
  subr := fun p hp => M'.subr p (M.subr p hp)
  fresh := fun p hp => by
    rcases M'.fresh p hp with h | h
    · exact M.fresh p h
    · exact .inr (mut_lt M.subr h)
  H := M'.H
  G := M.G.trans M'.G
theorem Mv.add {w : World} {c : Cfg} {fr : List (Addr × Obj)} {σ σ' : St} {imm rest imm' rest' : List (Addr × Obj)} (M : Mv w c fr σ imm rest σ' imm' rest') (tl : List (Addr × Obj)) (h : ∀ p ∈ tl, ∀ q ∈ mutL c σ' ++ (fr ++ rest'), @Ne Nat q.1 p.1) :
    Mv w c fr σ imm rest σ' (tl ++ imm') (tl ++ rest') where
  sub := fun p hp => List.mem_append_right _ (M.sub p hp)
  hs := fun p hp => by
    rcases List.mem_append.mp hp with hp | hp
    · exact List.mem_append_left _ hp
    · exact List.mem_append_right _ (M.hs p hp)
  subr := fun p hp => List.mem_append_right _ (M.subr p hp)
  fresh := fun p hp => by
    rcases List.mem_append.mp hp with hp | hp
    · exact .inr (mut_lt M.subr (h p hp))
    · exact M.fresh p hp
  H := M.H.mono fun p hp => List.mem_append_right _ hp
  G := M.G

theorem SymsAre.get {w : World} {imm : List (Addr × Obj)} : ∀ {vs : List Value} {ss : List Str} {i : Nat} {v : Value}, SymsAre w imm vs ss → vs[i]? = some v → ∃ s j, ss[i]? = some s ∧ SymAt w imm v j s
  | _ :: _, s :: _, 0, _, ⟨⟨j, h⟩, _⟩, e => by cases e; exact ⟨s, j, rfl, h⟩
  | _ :: _, _ :: _, _ + 1, _, ⟨_, r⟩, e => by
    (refine el_EEA (r.get (by simpa using e)) ?_; rintro s j h1 h2)
    exact ⟨s, j, by simpa using h1, h2⟩
  | [], [], _, _, _, e => by cases e
  | [], _ :: _, _, _, h, _ => h.elim
  | _ :: _, [], _, _, h, _ => h.elim
theorem SymAt.inn {w : World} {imm : List (Addr × Obj)} {v : Value} {i : Int} {s : Str} (h : SymAt w imm v i s) (h0 : s ≠ Str.ofString "nil") (h1 : s ≠ Str.ofString "t") : ∃ a, v = .ref a ∧ SymIn w imm a i s := by
  (refine el_EA (h) ?_; (try clear h); rintro a e (⟨_, h2, _⟩ | ⟨_, h2, _⟩ | h2))
  · exact absurd h2 h0
  · exact absurd h2 h1
  · exact ⟨a, e, h2⟩
theorem strs_snoc {ys : List Value} {ss : List Str} (h : StrsAre ys ss) (s : Str) (t : Tok) : StrsAre (ys ++ [.str s t]) (ss ++ [s]) := by
  induction h with
  | nil => exact .cons s t .nil
  | cons y u _ ih => exact .cons y u ih
theorem strs_take {ys : List Value} {ss : List Str} {i : Nat} {s : Str} (h : StrsAre ys (ss.take i)) (e : ss[i]? = some s) (t : Tok) : StrsAre (ys ++ [.str s t]) (ss.take (i + 1)) := by
  rw [List.take_add_one, e]
  exact strs_snoc h s t
theorem off1_mem {D : Addr} : ∀ {l : List (Addr × Obj)}, LCg.Off1 D l → ∀ p ∈ l, @Ne Nat p.1 D
  | [], _, _, h => nomatch h
  | _ :: _, x, p, h => by
    rcases List.mem_cons.mp h with rfl | h
    · exact x.1
    · exact off1_mem x.2 p h
section
variable {w : World} {A A₀ : Around} {s : Shared} {h₀ base : Heap} {L : Addr} {m : Str → Option Value} {news : List (Addr × Obj)} {K : Frag} {prog p : Program} {loose : List Str} {mean : ExcName → Option Value} {mg mb : Str → Option Value} {env : Env} {outer : List Env} {R : Result → Shared → Prop} {name qual : Str} {params : Arguments} {body : List Stmt} {scope : Scope} {dV kV doc pm cdv ct oc : Value} {an od : Option Addr} {osl : Array (Option Value)} {f : Addr} {args : Args} {binds : List (Str × Value)}
theorem cdA (hA : A.frames = some (env :: outer)) (hf : env.frame = some L) (hke : env.scope.kind = .function) (B : Below A₀ base outer h₀) (F : Fr h₀ L s.heap m) (X₀ : K.In h₀) (N : News h₀ L s.heap news) (T : Top p loose mean mg mb h₀)
    (ho : K.lookup f = some ⟨oc, od, .func (fnOf name qual params body scope dV kV doc pm an cdv ct), osl⟩) (hcd : codeIn K cdv qual = true) (hroom : A.depth < recursionLimit)
    (hbind : BindsTo s (fnOf name qual params body scope dV kV doc pm an cdv ct) args binds) (hcell : ∀ x ∈ scope.names, x.2 ≠ .cell) (hloc : ∀ y ∈ binds, scope.names.lookup y.1 = some .local) (hco : scope.isCoroutine = false) (hgen : scope.isGenerator = false) (hk : scope.kind = .function)
    (h : ∀ g L' h₁, Fr h₀ L g m → Fr g L' h₁ (fun y => binds.reverse.lookup y) → News g L' h₁ news → Below A base (env :: outer) g → K.In g → Top p loose mean mg mb g →
      wpAny (model prog w) (A.deeper (envOf qual scope L' f cdv)) (execs body (envOf qual scope L' f cdv))
        (fun fl s' => LeaveK h₀ L m g R (match fl with | .ret v => v | _ => .none) s')
        (fun e s' => wpAny (model prog w) (A.deeper (envOf qual scope L' f cdv)) (leaving (envOf qual scope L' f cdv) e) (fun _ s'' => R (.error e) s'') (fun e' s'' => R (.error e') s'') s')
        { s with heap := h₁, toks := s.toks + binds.length }) : codeAny (model prog w) A (.call (.ref f) args) R s := code_def B F X₀ N T hA hf hke ho hcd hroom hbind hloc h hco hgen hk hcell
theorem cdC (hA : A.frames = some (env :: outer)) (hf : env.frame = some L) (hke : env.scope.kind = .function) (B : Below A₀ base outer h₀) (F : Fr h₀ L s.heap m) (X₀ : K.In h₀) (N : News h₀ L s.heap news) (T : Top p loose mean mg mb h₀)
    (ho : K.lookup f = some ⟨oc, od, .func (fnOf name qual params body scope dV kV doc pm an cdv ct), osl⟩) (hcd : codeIn K cdv qual = true) (hroom : A.depth < recursionLimit)
    (hbind : BindsTo s (fnOf name qual params body scope dV kV doc pm an cdv ct) args binds) (hnd : ((cellsFrom 0 scope.names []).map (·.1)).Nodup) (hkind : (binds.all fun y => scope.names.lookup y.1 == some .local || scope.names.lookup y.1 == some .cell) = true) (hco : scope.isCoroutine = false) (hgen : scope.isGenerator = false) (hk : scope.kind = .function)
    (h : ∀ g L' h₁ tk cells, Fr h₀ L g m → Fr g L' h₁ (bindL (envOfC qual scope L' f cdv).kindOf binds fun _ => none) → News g L' h₁ (cells ++ news) →
      CellsAre (bindC (envOfC qual scope L' f cdv).kindOf binds fun _ => none) (cellsFrom (L' + 1) scope.names []) cells → Below A base (env :: outer) g → K.In g → Top p loose mean mg mb g → (∀ p ∈ news, p.1 < L') →
      wpAny (model prog w) (A.deeper (envOfC qual scope L' f cdv)) (execs body (envOfC qual scope L' f cdv))
        (fun fl s' => LeaveK h₀ L m g R (match fl with | .ret v => v | _ => .none) s')
        (fun e s' => wpAny (model prog w) (A.deeper (envOfC qual scope L' f cdv)) (leaving (envOfC qual scope L' f cdv) e) (fun _ s'' => R (.error e) s'') (fun e' s'' => R (.error e') s'') s')
        { s with heap := h₁, toks := tk }) : codeAny (model prog w) A (.call (.ref f) args) R s := code_defC B F X₀ N T hA hf hke ho hcd hroom hbind hkind hnd h hco hgen hk
theorem lcK {l : Addr} {items : Array Value} {Q E : Value → Shared → Prop} (F : Fr h₀ L s.heap m) (N : News h₀ L s.heap news) (hl : s.heap.IsList l items) (hsz : items.size ≤ sizeLine)
    (h : ∀ D c h', Fr h₀ L h' m → News h₀ L h' ((D, listOf items c) :: news) → (∀ q ∈ news, q.1 < D) → Q (.ref D) { s with heap := h' }) :
    wpAny (model prog w) A (call (.type "list") [.ref l]) Q E s := list_copyK F N hl h hsz
end
end
section
def TurnEnd (h₀ : Heap) (L : Addr) (I : Addr) (oI : Obj) (J : (Str → Option Value) → List (Addr × Obj) → Prop) (s₁ : Shared) (Q : Flow → Shared → Prop) (f : Flow) (s₂ : Shared) : Prop :=
  match f with
  | .ret v => Q (.ret v) s₂
  | .brk => Q .next s₂
  | _ => ∃ h' tk m' news', s₂ = { s₁ with heap := h', toks := tk } ∧ Fr h₀ L h' m' ∧ News h₀ L h' ((I, oI) :: news') ∧ (∀ p ∈ news', p.1 ≠ I) ∧ J m' news'

theorem TurnEnd.next {h₀ : Heap} {L : Addr} {I : Addr} {oI : Obj} {J : (Str → Option Value) → List (Addr × Obj) → Prop} {s₁ : Shared} {Q : Flow → Shared → Prop} {h' : Heap} {tk : Nat} {m' : Str → Option Value} {news' : List (Addr × Obj)}
    (F : Fr h₀ L h' m') (N : News h₀ L h' ((I, oI) :: news')) (o : ∀ p ∈ news', p.1 ≠ I) (hJ : J m' news') : TurnEnd h₀ L I oI J s₁ Q .next { s₁ with heap := h', toks := tk } :=
  ⟨h', tk, m', news', rfl, F, N, o, hJ⟩

section
variable {prog : Program} {w : World} {A : Around} {E : Value → Shared → Prop} {s : Shared} {env : Env} {h₀ : Heap} {x : Str} {body : List Stmt} {Q : Flow → Shared → Prop}
theorem iter_rng {r : Addr} {a b c : Int} {t u v : Tok} {n : Nat} {m : Str → Option Value} {news : List (Addr × Obj)} (J : Nat → (Str → Option Value) → List (Addr × Obj) → Prop)
    (hh : A.handled = none) (hr : IsRange s.heap r a b c t u v) (hsm : Builtin.Range.small a b c = true) (hn : Builtin.Range.rangeSize a b c = (n : Int))
    (F : Fr h₀ env.locals s.heap m) (N : News h₀ env.locals s.heap news) (h0 : J 0 m news)
    (turn : ∀ i m₁ news₁ h tk t I oI, i < n → J i m₁ news₁ → (∀ p ∈ news₁, p.1 ≠ I) → Fr h₀ env.locals h (fun y => if y = x then some (.int (a + (i : Int) * c) t) else m₁ y) → News h₀ env.locals h ((I, oI) :: news₁) →
      wpAny (model prog w) A (execs body env) (TurnEnd h₀ env.locals I oI (J (i + 1)) { s with heap := h, toks := tk } Q) E { s with heap := h, toks := tk })
    (done : ∀ m₁ news₁ h tk, J n m₁ news₁ → Fr h₀ env.locals h m₁ → News h₀ env.locals h news₁ → Q .next { s with heap := h, toks := tk }) :
    wpAny (model prog w) A (pyIter (.ref r)) (fun it s₂ => LoopAtV prog w A h₀ env x body Q E it s₂) E s := by
  refine wpAny_pyIter_range hr hsm ?_
  have W : Walks prog w A s.heap.objs.size [s.heap.objs.size] [s.heap.objs.size] n (fun i v => i < n ∧ ∃ t, v = .int (a + i * c) t)
      (fun i h => IsRangeIter h s.heap.objs.size (a + (i : Nat) * c) ((n : Int) - (i : Nat)) c) := (Walks.range hh _ a c n).bound
  refine ⟨_, _, _, n, _, _, m, news, J, rfl, W, ?_, ?_, ?_, (by show IsRangeIter _ _ _ _ _; rw [hn]; simpa using Heap.get?_push_size _ rfl), F.push _, (fun p hp => ⟨Heap.get?_push_of_some _ (N p hp).1, (N p hp).2⟩), h0, ?_, ?_⟩
  · intro hm
    exact absurd F.ns.lt ((List.mem_singleton.mp hm) ▸ Nat.lt_irrefl _)
  · intro b hb
    rw [List.mem_singleton.mp hb]
    exact next_is_new F
  · intro p hp hI
    exact absurd (Heap.lt_size (N p hp).1) ((List.mem_singleton.mp hI) ▸ Nat.lt_irrefl _)
  · rintro i v m₁ news₁ s₁ own ⟨hh', tk', rfl⟩ hi ⟨_, t, rfl⟩ hJ hoff hown hget hall hst F₁ N₁
    have hI : ∃ oI, hh'.get? s.heap.objs.size = some oI := ⟨_, hst⟩
    obtain ⟨oI, hI⟩ := hI
    have hIo := hall s.heap.objs.size (List.mem_singleton.mpr rfl) (next_is_new F) oI hI
    have off' : ∀ p ∈ news₁, p.1 ≠ s.heap.objs.size := fun p hp e => hoff p hp (List.mem_singleton.mpr e)
    have N₂ : News h₀ env.locals hh' ((s.heap.objs.size, oI) :: news₁) := fun p hp => by
      rcases List.mem_cons.mp hp with rfl | hp
      · exact N₁ _ (List.mem_append_left _ hIo)
      · exact N₁ _ (List.mem_append_right _ hp)
    refine wpAny_mono (turn i m₁ news₁ hh' tk' t s.heap.objs.size oI hi hJ off' F₁ N₂) (fun f s₂ p => ?_) fun _ _ e => e
    have fin : (∃ h' tk m' news', s₂ = { s with heap := h', toks := tk } ∧ Fr h₀ env.locals h' m' ∧ News h₀ env.locals h' ((s.heap.objs.size, oI) :: news') ∧ (∀ p ∈ news', p.1 ≠ s.heap.objs.size) ∧ J (i + 1) m' news') →
        LoopStepU h₀ env.locals [s.heap.objs.size] own (J (i + 1)) { s with heap := hh', toks := tk' } .next s₂ := by
      intro hcx; (refine el_EEEEAAAA (hcx) ?_; (try clear hcx); rintro h' tk m' news' e F' N' o' J')
      refine ⟨rfl, h', tk, m', news', e, F', fun p hp => ?_, fun p hp hq => o' p hp (List.mem_singleton.mp hq), J'⟩
      rcases List.mem_append.mp hp with hp | hp
      · have h1 := List.mem_singleton.mp (hown p hp)
        have h2 := hget p hp
        rw [h1] at h2
        have h3 : p = (s.heap.objs.size, oI) := by
          obtain ⟨p1, p2⟩ := p
          dsimp only at h1 h2
          rw [h1]
          have : some oI = some p2 := hI.symm.trans h2
          rw [Option.some.inj this]
        rw [h3]
        exact N' _ List.mem_cons_self
      · exact N' _ (List.mem_cons_of_mem _ hp)
    cases f with
    | ret v => exact .ret p
    | brk => exact .brk p
    | next => exact .next (fin p)
    | cont => exact .cont (fin p)
  · rintro h' tk m' news' F' N' _ hJ
    exact done m' news' h' tk hJ F' N'

theorem iter_lst {l : Addr} {its : Array Value} {k : Nat} {m : Str → Option Value} {news : List (Addr × Obj)} (J : Nat → (Str → Option Value) → List (Addr × Obj) → Prop)
    (hh : A.handled = none) (hl : (l, listOf its k) ∈ news)
    (F : Fr h₀ env.locals s.heap m) (N : News h₀ env.locals s.heap news) (h0 : J 0 m news) (keep : ∀ i m₁ news₁, J i m₁ news₁ → (l, listOf its k) ∈ news₁)
    (turn : ∀ i m₁ news₁ h tk v I oI, its[i]? = some v → J i m₁ news₁ → (∀ p ∈ news₁, p.1 ≠ I) → Fr h₀ env.locals h (fun y => if y = x then some v else m₁ y) → News h₀ env.locals h ((I, oI) :: news₁) →
      wpAny (model prog w) A (execs body env) (TurnEnd h₀ env.locals I oI (J (i + 1)) { s with heap := h, toks := tk } Q) E { s with heap := h, toks := tk })
    (done : ∀ m₁ news₁ h tk, J its.size m₁ news₁ → Fr h₀ env.locals h m₁ → News h₀ env.locals h news₁ → Q .next { s with heap := h, toks := tk }) :
    wpAny (model prog w) A (pyIter (.ref l)) (fun it s₂ => LoopAtV prog w A h₀ env x body Q E it s₂) E s := by
  have hls : s.heap.IsList l its := ⟨_, (N _ hl).1, rfl, _, rfl⟩
  have hlt : l < s.heap.objs.size := Heap.lt_size (N _ hl).1
  have hne : l ≠ s.heap.objs.size := Nat.ne_of_lt hlt
  refine wpAny_pyIter_list hls ?_
  have W := Walks.list (prog := prog) (w := w) hh s.heap.objs.size l hne its
  refine ⟨_, _, _, its.size, _, _, m, news, J, rfl, W, ?_, ?_, ?_, ⟨⟨_, Heap.get?_push_size _ rfl, rfl, rfl⟩, hls.at fun o e => Heap.get?_push_of_some _ e⟩, F.push _, (fun p hp => ⟨Heap.get?_push_of_some _ (N p hp).1, (N p hp).2⟩), h0, ?_, ?_⟩
  · intro hm
    rcases List.mem_cons.mp hm with e | hm
    · exact absurd F.ns.lt (e ▸ Nat.lt_irrefl _)
    · exact (N _ hl).2.1 (List.mem_singleton.mp hm).symm
  · intro b hb
    rw [List.mem_singleton.mp hb]
    exact next_is_new F
  · intro p hp hI
    exact absurd (Heap.lt_size (N p hp).1) ((List.mem_singleton.mp hI) ▸ Nat.lt_irrefl _)
  · rintro i v m₁ news₁ s₁ own ⟨hh', tk', rfl⟩ hi hv hJ hoff hown hget hall hst F₁ N₁
    (refine el_EA (hst.1) ?_; rintro oI hI _)
    have hIo := hall s.heap.objs.size List.mem_cons_self (next_is_new F) oI hI
    have off' : ∀ p ∈ news₁, p.1 ≠ s.heap.objs.size := fun p hp e => hoff p hp (List.mem_singleton.mpr e)
    have N₂ : News h₀ env.locals hh' ((s.heap.objs.size, oI) :: news₁) := fun p hp => by
      rcases List.mem_cons.mp hp with rfl | hp
      · exact N₁ _ (List.mem_append_left _ hIo)
      · exact N₁ _ (List.mem_append_right _ hp)
    refine wpAny_mono (turn i m₁ news₁ hh' tk' v s.heap.objs.size oI hv hJ off' F₁ N₂) (fun f s₂ p => ?_) fun _ _ e => e
    have fin : (∃ h' tk m' news', s₂ = { s with heap := h', toks := tk } ∧ Fr h₀ env.locals h' m' ∧ News h₀ env.locals h' ((s.heap.objs.size, oI) :: news') ∧ (∀ p ∈ news', p.1 ≠ s.heap.objs.size) ∧ J (i + 1) m' news') →
        LoopStepU h₀ env.locals [s.heap.objs.size] own (J (i + 1)) { s with heap := hh', toks := tk' } .next s₂ := by
      intro hcx; (refine el_EEEEAAAA (hcx) ?_; (try clear hcx); rintro h' tk m' news' e F' N' o' J')
      refine ⟨rfl, h', tk, m', news', e, F', fun p hp => ?_, fun p hp hq => o' p hp (List.mem_singleton.mp hq), J'⟩
      rcases List.mem_append.mp hp with hp | hp
      · have h2 := hget p hp
        rcases List.mem_cons.mp (hown p hp) with h1 | h1
        · rw [h1] at h2
          have h3 : p = (s.heap.objs.size, oI) := by
            obtain ⟨p1, p2⟩ := p
            dsimp only at h1 h2
            rw [h1]
            have : some oI = some p2 := hI.symm.trans h2
            rw [Option.some.inj this]
          rw [h3]
          exact N' _ List.mem_cons_self
        · have h1 := List.mem_singleton.mp h1
          have h3 : p = (l, listOf its k) := by
            obtain ⟨p1, p2⟩ := p
            dsimp only at h1 h2
            subst h1
            have := (N₁ _ (List.mem_append_right own (keep i m₁ news₁ hJ))).1
            exact congrArg (Prod.mk p1) (Option.some.inj (h2.symm.trans this))
          rw [h3]
          exact N' _ (List.mem_cons_of_mem _ (keep _ _ _ J'))
      · exact N' _ (List.mem_cons_of_mem _ hp)
    cases f with
    | ret v => exact .ret p
    | brk => exact .brk p
    | next => exact .next (fin p)
    | cont => exact .cont (fin p)
  · rintro h' tk m' news' F' N' _ hJ
    exact done m' news' h' tk hJ F' N'
end

def Adds (news : List (Addr × Obj)) (Ex : Value → List (Addr × Obj) → Prop) (v : Value) (news' : List (Addr × Obj)) : Prop :=
  ∃ tl, news' = tl ++ news ∧ (∀ p ∈ tl, ∀ q ∈ news, @LT.lt Nat _ q.1 p.1) ∧ Ex v tl

def setM : List (Str × Value) → (Str → Option Value) → Str → Option Value
  | [], f, z => f z
  | (k, v) :: r, f, z => if z = k then some v else setM r f z
theorem setM_off {f : Str → Option Value} {z : Str} : ∀ {V : List (Str × Value)}, (∀ kv ∈ V, z ≠ kv.1) → setM V f z = f z
  | [], _ => rfl
  | (k, v) :: r, h => by
    show (if z = k then some v else setM r f z) = f z
    rw [if_neg (h (k, v) List.mem_cons_self)]
    exact setM_off fun kv hkv => h kv (List.mem_cons_of_mem _ hkv)
theorem setM_on {f g : Str → Option Value} : ∀ {V : List (Str × Value)}, (∀ kv ∈ V, g kv.1 = some kv.2) → ∀ z, (¬ ∀ kv ∈ V, z ≠ kv.1) → setM V f z = g z
  | [], _, z, hz => absurd (fun _ h => nomatch h) hz
  | (k, v) :: r, h, z, hz => by
    show (if z = k then some v else setM r f z) = g z
    by_cases e : z = k
    · rw [if_pos e, e]; exact (h (k, v) List.mem_cons_self).symm
    · rw [if_neg e]
      refine setM_on (fun kv hkv => h kv (List.mem_cons_of_mem _ hkv)) z fun h2 => hz fun kv hkv => ?_
      rcases List.mem_cons.mp hkv with rfl | hkv
      · exact e
      · exact h2 kv hkv
abbrev frM (V : List (Str × Value)) (junk : List Str) (u m : Str → Option Value) : Str → Option Value := setM V (fun z => if z ∈ junk then u z else m z)
def JV (junk : List Str) (m : Str → Option Value) (J : List (Str × Value) → List (Addr × Obj) → Prop) (m₁ : Str → Option Value) (nx : List (Addr × Obj)) : Prop :=
  ∃ V u, J V nx ∧ m₁ = frM V junk u m
theorem JV.intro {junk : List Str} {m m' : Str → Option Value} {J : List (Str × Value) → List (Addr × Obj) → Prop} {nx : List (Addr × Obj)} (V : List (Str × Value)) (hJ : J V nx) (hk : ∀ kv ∈ V, m' kv.1 = some kv.2)
    (ho : ∀ z, (∀ kv ∈ V, z ≠ kv.1) → z ∉ junk → m' z = m z) : JV junk m J m' nx := by
  refine ⟨V, m', hJ, ?_⟩
  funext z
  by_cases h : ∀ kv ∈ V, z ≠ kv.1
  · show m' z = setM V _ z
    rw [setM_off h]
    by_cases hj : z ∈ junk
    · rw [if_pos hj]
    · rw [if_neg hj]; exact ho z h hj
  · exact (setM_on hk z h).symm

section
variable {prog : Program} {w : World} {A : Around} {E : Value → Shared → Prop} {s : Shared} {env : Env} {h₀ : Heap} {x : Str} {body : List Stmt} {Q : Flow → Shared → Prop}
theorem loop_rng {r : Addr} {a b c : Int} {t u v : Tok} {n : Nat} {m : Str → Option Value} {news : List (Addr × Obj)} (junk : List Str) (V₀ : List (Str × Value)) (J : Nat → List (Str × Value) → List (Addr × Obj) → Prop)
    (hh : A.handled = none) (hr : IsRange s.heap r a b c t u v) (hsm : Builtin.Range.small a b c = true) (hn : Builtin.Range.rangeSize a b c = (n : Int))
    (F : Fr h₀ env.locals s.heap m) (N : News h₀ env.locals s.heap news) (hV : ∀ kv ∈ V₀, m kv.1 = some kv.2) (h0 : J 0 V₀ news)
    (turn : ∀ i V u news₁ h tk t I oI, i < n → J i V news₁ → (∀ p ∈ news₁, p.1 ≠ I) → Fr h₀ env.locals h (fun y => if y = x then some (.int (a + (i : Int) * c) t) else frM V junk u m y) → News h₀ env.locals h ((I, oI) :: news₁) →
      wpAny (model prog w) A (execs body env) (TurnEnd h₀ env.locals I oI (JV junk m (J (i + 1))) { s with heap := h, toks := tk } Q) E { s with heap := h, toks := tk })
    (done : ∀ V u news₁ h tk, J n V news₁ → Fr h₀ env.locals h (frM V junk u m) → News h₀ env.locals h news₁ → Q .next { s with heap := h, toks := tk }) :
    wpAny (model prog w) A (pyIter (.ref r)) (fun it s₂ => LoopAtV prog w A h₀ env x body Q E it s₂) E s := by
  refine iter_rng (fun i => JV junk m (J i)) hh hr hsm hn F N (JV.intro V₀ h0 hV fun _ _ _ => rfl) ?_ ?_
  · rintro i m₁ news₁ h tk t I oI hi ⟨V, u, hJ, rfl⟩ off F₁ N₁
    exact turn i V u news₁ h tk t I oI hi hJ off F₁ N₁
  · rintro m₁ news₁ h tk ⟨V, u, hJ, rfl⟩ F₁ N₁
    exact done V u news₁ h tk hJ F₁ N₁
theorem loop_lst {l : Addr} {its : Array Value} {k : Nat} {m : Str → Option Value} {news : List (Addr × Obj)} (junk : List Str) (V₀ : List (Str × Value)) (J : Nat → List (Str × Value) → List (Addr × Obj) → Prop)
    (hh : A.handled = none) (hl : (l, listOf its k) ∈ news)
    (F : Fr h₀ env.locals s.heap m) (N : News h₀ env.locals s.heap news) (hV : ∀ kv ∈ V₀, m kv.1 = some kv.2) (h0 : J 0 V₀ news) (keep : ∀ i V news₁, J i V news₁ → (l, listOf its k) ∈ news₁)
    (turn : ∀ i V u news₁ h tk v I oI, its[i]? = some v → J i V news₁ → (∀ p ∈ news₁, p.1 ≠ I) → Fr h₀ env.locals h (fun y => if y = x then some v else frM V junk u m y) → News h₀ env.locals h ((I, oI) :: news₁) →
      wpAny (model prog w) A (execs body env) (TurnEnd h₀ env.locals I oI (JV junk m (J (i + 1))) { s with heap := h, toks := tk } Q) E { s with heap := h, toks := tk })
    (done : ∀ V u news₁ h tk, J its.size V news₁ → Fr h₀ env.locals h (frM V junk u m) → News h₀ env.locals h news₁ → Q .next { s with heap := h, toks := tk }) :
    wpAny (model prog w) A (pyIter (.ref l)) (fun it s₂ => LoopAtV prog w A h₀ env x body Q E it s₂) E s := by
  refine iter_lst (fun i => JV junk m (J i)) hh hl F N (JV.intro V₀ h0 hV fun _ _ _ => rfl) (fun i m₁ news₁ ⟨V, u, hJ, _⟩ => keep i V news₁ hJ) ?_ ?_
  · rintro i m₁ news₁ h tk v I oI hi ⟨V, u, hJ, rfl⟩ off F₁ N₁
    exact turn i V u news₁ h tk v I oI hi hJ off F₁ N₁
  · rintro m₁ news₁ h tk ⟨V, u, hJ, rfl⟩ F₁ N₁
    exact done V u news₁ h tk hJ F₁ N₁
def WhEnd (h₀ : Heap) (L : Addr) (s : Shared) (J : Nat → (Str → Option Value) → List (Addr × Obj) → Prop) (Q : Flow → Shared → Prop) (n : Nat) : Flow → Shared → Prop := WhileStep2 h₀ L s J Q n
theorem loop_whl {L : Addr} {test : Expr} {pos : Pos} {m : Str → Option Value} {news : List (Addr × Obj)} (junk : List Str) (V₀ : List (Str × Value)) (J : Nat → List (Str × Value) → List (Addr × Obj) → Prop) (n₀ : Nat)
    (F : Fr h₀ L s.heap m) (N : News h₀ L s.heap news) (hV : ∀ kv ∈ V₀, m kv.1 = some kv.2) (h0 : J n₀ V₀ news)
    (turn : ∀ n V u news₁ h₁ tk₁, J n V news₁ → Fr h₀ L h₁ (frM V junk u m) → News h₀ L h₁ news₁ →
      wpAny (model prog w) A (isTrue test env (eval test env)) (fun b s₂ =>
        if b = true then wpAny (model prog w) A (execs body env) (WhEnd h₀ L s (fun n => JV junk m (J n)) Q n) E s₂ else Q .next s₂) E { s with heap := h₁, toks := tk₁ })
    (hE : PassesOwn (model prog w) A env E := by passes_own) :
    wpAny (model prog w) A (exec (.While test body [] pos) env) Q E s := by
  refine While_inv2 (n₀ := n₀) (fun n => JV junk m (J n)) F N (JV.intro V₀ h0 hV fun _ _ _ => rfl) ?_ hE
  rintro n m₁ news₁ h₁ tk₁ F₁ N₁ ⟨V, u, hJ, rfl⟩
  exact turn n V u news₁ h₁ tk₁ hJ F₁ N₁
end

theorem off_cons {I a : Addr} {o : Obj} {l : List (Addr × Obj)} (h : @LT.lt Nat _ I a) (k : ∀ p ∈ l, p.1 ≠ I) : ∀ p ∈ (a, o) :: l, p.1 ≠ I := fun p hp => by
  rcases List.mem_cons.mp hp with rfl | hp
  · exact Nat.ne_of_gt h
  · exact k p hp
abbrev Jlist (w : World) (its : Array Value) (news : List (Addr × Obj)) (i : Nat) (V : List (Str × Value)) (nx : List (Addr × Obj)) : Prop :=
  ∃ v tl, V = [(Str.ofString "found", v)] ∧ nx = tl ++ news ∧ (∀ p ∈ tl, ∀ q ∈ news, @LT.lt Nat _ q.1 p.1) ∧ handedIn v = true ∧ LAt w tl v (its.toList.drop (its.size - i)) (.ref 78)
theorem list_turn {h₀ h' : Heap} {L I : Addr} {oI : Obj} {w : World} {its : Array Value} {news tl : List (Addr × Obj)} {i : Nat} {x d : Addr} {t1 t2 : Tok} {xv v : Value} {m m' : Str → Option Value} {s₁ : Shared} {tk : Nat} {Q : Flow → Shared → Prop}
    (hi : i < its.size) (hx : its[((its.size : Int) - 1 + (i : Int) * -1).toNat]? = some xv) (F : Fr h₀ L h' m') (l1 : @LT.lt Nat _ I d ∧ AllLt d (tl ++ news)) (l2 : @LT.lt Nat _ d x)
    (N : News h₀ L h' ((x, instObj 99 d) :: (d, dictOf [ent w "car" t1 xv, ent w "cdr" t2 v] 2) :: (I, oI) :: (tl ++ news)))
    (offI : ∀ p ∈ tl ++ news, p.1 ≠ I) (fresh : ∀ p ∈ tl, ∀ q ∈ news, @LT.lt Nat _ q.1 p.1) (hL : LAt w tl v (its.toList.drop (its.size - i)) (.ref 78)) (hxh : handedIn xv = true) (hvh : handedIn v = true)
    (hv : m' (Str.ofString "found") = some (.ref x)) (hm : ∀ z, z ≠ Str.ofString "found" → z ≠ Str.ofString "place" → m' z = m z) :
    TurnEnd h₀ L I oI (JV [Str.ofString "place"] m (Jlist w its news (i + 1))) s₁ Q .next { s₁ with heap := h', toks := tk } := by
  refine TurnEnd.next (news' := ((x, instObj 99 d) :: (d, dictOf [ent w "car" t1 xv, ent w "cdr" t2 v] 2) :: tl) ++ news) F (fun p hp => N p ?_) ?_ (JV.intro [(Str.ofString "found", .ref x)] ⟨.ref x, _, rfl, rfl, ?_, rfl, ?_⟩ (fun kv hkv => ?_) fun z h1 h2 => ?_)
  · simp only [List.cons_append, List.mem_cons, List.mem_append] at hp ⊢
    rcases hp with h | h | h | h | h <;> simp [h]
  · exact off_cons (Nat.lt_trans l1.1 l2) (off_cons l1.1 offI)
  · intro p hp q hq
    have hd := AllLt.mem l1.2 q (List.mem_append_right _ hq)
    rcases List.mem_cons.mp hp with rfl | hp
    · exact Nat.lt_trans hd l2
    rcases List.mem_cons.mp hp with rfl | hp
    · exact hd
    exact fresh p hp q hq
  · have e : its.toList.drop (its.size - (i + 1)) = xv :: its.toList.drop (its.size - i) := by
      have h1 : ((its.size : Int) - 1 + (i : Int) * -1).toNat = its.size - (i + 1) := by omega
      rw [h1] at hx
      have h2 : its.toList[its.size - (i + 1)]? = some xv := by rw [Array.getElem?_toList]; exact hx
      obtain ⟨h3, h4⟩ := List.getElem?_eq_some_iff.mp h2
      rw [List.drop_eq_getElem_cons h3, h4]
      congr 2; omega
    rw [e]
    exact .cons List.mem_cons_self (List.mem_cons_of_mem _ List.mem_cons_self) hxh hvh (hL.mono fun p hp => List.mem_cons_of_mem _ (List.mem_cons_of_mem _ hp))
  · rw [List.mem_singleton.mp hkv]; exact hv
  · exact hm z (h1 _ List.mem_cons_self) (fun e => h2 (by simp [e]))
theorem rng_down (n : Nat) (h : n ≤ 1000) : Builtin.Range.small ((n : Int) - 1) (-1) (-1) = true ∧ Builtin.Range.rangeSize ((n : Int) - 1) (-1) (-1) = (n : Int) := by
  have e : Builtin.Range.rangeSize ((n : Int) - 1) (-1) (-1) = (n : Int) := by simp [Builtin.Range.rangeSize]; omega
  refine ⟨?_, e⟩
  unfold Builtin.Range.small
  rw [e]
  simp [Builtin.Range.rangeFitsLong]
  omega

def EndOk (e : Value) : Prop := e = .ref 78 ∨ ∃ i t, e = .int i t
abbrev Jsplit (w : World) (news : List (Addr × Obj)) (xs : List Value) (e : Value) (l : Addr) (n : Nat) (V : List (Str × Value)) (nx : List (Addr × Obj)) : Prop :=
  ∃ done rest av sv k, n = rest.length ∧ xs = done ++ rest ∧ V = [(Str.ofString "at", av), (Str.ofString "slow", sv)] ∧ nx = (l, listOf done.toArray k) :: news ∧ LAt w news av rest e ∧ LAt w news sv (xs.drop (done.length / 2)) e

def Hold (P : Prop) : Prop := P
theorem Hold.out {P : Prop} (h : Hold P) : P := h

theorem dict2_inj {a b c d a' b' c' d' : Value} {x y x' y' : Int} {n n' : Nat} (h : (dictOf [⟨x, a, b⟩, ⟨y, c, d⟩] n : Obj) = dictOf [⟨x', a', b'⟩, ⟨y', c', d'⟩] n') : b = b' ∧ d = d' := by
  have h1 : Data.dict [(⟨x, a, b⟩ : DictEntry), ⟨y, c, d⟩].toArray n = Data.dict [(⟨x', a', b'⟩ : DictEntry), ⟨y', c', d'⟩].toArray n' := congrArg Obj.data h
  injection h1 with h2 _
  have h3 := congrArg Array.toList h2
  simp only at h3
  injection h3 with h4 h5
  injection h5 with h5 _
  injection h4 with _ _ h6
  injection h5 with _ _ h7
  exact ⟨h6, h7⟩
theorem LAt.nil_cons {w : World} {imm : List (Addr × Obj)} {e v y : Value} {ys : List Value} (h78 : ∀ o, ((78 : Addr), o) ∉ imm) (he : EndOk e) (h1 : LAt w imm v [] e) (h2 : LAt w imm v (y :: ys) e) : False := by
  cases h1
  cases h2 with
  | cons m1 _ _ _ _ =>
    rcases he with h | ⟨_, _, h⟩
    · have := Value.ref.inj h; subst this; exact h78 _ m1
    · cases h
theorem LAt.len {w : World} {imm : List (Addr × Obj)} {e : Value} (fn : ∀ a o1 o2, (a, o1) ∈ imm → (a, o2) ∈ imm → o1 = o2) (h78 : ∀ o, ((78 : Addr), o) ∉ imm) (he : EndOk e) :
    ∀ {xs ys : List Value} {v : Value}, LAt w imm v xs e → LAt w imm v ys e → xs.length = ys.length
  | [], [], _, _, _ => rfl
  | [], _ :: _, _, h1, h2 => (LAt.nil_cons h78 he h1 h2).elim
  | _ :: _, [], _, h1, h2 => (LAt.nil_cons h78 he h2 h1).elim
  | x :: xs, y :: ys, v, h1, h2 => by
    cases h1 with
    | cons m1 m2 _ _ h4 =>
      cases h2 with
      | cons m3 m5 _ _ h5 =>
        have e2 := fn _ _ _ m1 m3
        have e3 := Option.some.inj (congrArg Obj.dict e2)
        subst e3
        have e4 := dict2_inj (fn _ _ _ m2 m5)
        obtain ⟨_, e6⟩ := e4
        subst e6
        simp only [List.length_cons]
        rw [LAt.len fn h78 he h4 h5]
theorem split_turn {h₀ h' : Heap} {L ll : Addr} {w : World} {news : List (Addr × Obj)} {xs done rest : List Value} {x av sv e : Value} {k : Nat} {m m' : Str → Option Value} {s₀ : Shared} {tk : Nat} {Q : Flow → Shared → Prop}
    (F : Fr h₀ L h' m') (N : News h₀ L h' ((ll, listOf (done.toArray.push x) (k + 1)) :: news)) (hxs : xs = done ++ x :: rest) (hav : LAt w news av rest e) (hsv : LAt w news sv (xs.drop ((done.length + 1) / 2)) e)
    (ha : m' (Str.ofString "at") = some av) (hs : m' (Str.ofString "slow") = some sv) (ho : ∀ z, z ≠ Str.ofString "at" → z ≠ Str.ofString "slow" → m' z = m z) :
    WhEnd h₀ L s₀ (fun n => JV [] m (Jsplit w news xs e ll n)) Q (x :: rest).length .next { s₀ with heap := h', toks := tk } := by
  rw [List.push_toArray] at N
  refine ⟨h', tk, m', _, rest.length, rfl, F, N, Nat.lt_succ_self _, JV.intro [(Str.ofString "at", av), (Str.ofString "slow", sv)] ⟨done ++ [x], rest, av, sv, k + 1, rfl, by rw [hxs]; (first | regstrif_fact | simp), rfl, ?_, hav, ?_⟩ (fun kv hkv => ?_) fun z h1 _ => ?_⟩
  · rfl
  · rw [List.length_append]; exact hsv
  · rcases List.mem_cons.mp hkv with rfl | hkv
    · exact ha
    · rw [List.mem_singleton.mp hkv]; exact hs
  · exact ho z (h1 _ List.mem_cons_self) (h1 _ (List.mem_cons_of_mem _ List.mem_cons_self))

theorem par0 {done : List Value} {x : Value} (h : ((((done.toArray.push x).size : Nat)) : Int).fmod 2 = 0) : (done.length + 1) % 2 = 0 := by
  rw [Int.fmod_eq_emod_of_nonneg _ (by omega)] at h
  simp only [Array.size_push, List.size_toArray] at h
  omega
theorem par1 {done : List Value} {x : Value} (h : ((((done.toArray.push x).size : Nat)) : Int).fmod 2 ≠ 0) : (done.length + 1) % 2 = 1 := by
  rw [Int.fmod_eq_emod_of_nonneg _ (by omega)] at h
  simp only [Array.size_push, List.size_toArray] at h
  omega

def stdOf (name : Str) : List Str :=
  if name = Str.ofString "arith-error" then [Str.ofString "arith-error", Str.ofString "error"]
  else if name = Str.ofString "overflow-error" then [Str.ofString "overflow-error", Str.ofString "range-error", Str.ofString "arith-error", Str.ofString "error"] else [name]
def std5 : List Str := [Str.ofString "error", Str.ofString "quit", Str.ofString "arith-error", Str.ofString "overflow-error", Str.ofString "nobody"]
def condsOf (D : List (Str × List Str)) (name : Str) : List Str := (D.lookup name).getD (stdOf name)

/-- what is known of the world's own objects in a ledger, in one piece -/
inductive WFacts (w : World) (c : Cfg) (σ : St) (rest : List (Addr × Obj)) : Prop
  | mk (dw : Addr) (u1 u2 u3 u4 u5 u6 u7 u8 : Tok) (u9 u10 : Value) (db : Addr) (t1 t2 : Tok) (dc : Addr) (t3 t4 : Tok) (v1 : Value) (m1 : (c.wA, instObj 518 dw) ∈ rest) (m2 : (dw, dictOf [ent w "obarray" u1 (.ref c.ob), ent w "cells" u2 (.ref c.ce), ent w "variables" u3 u9, ent w "bare" u4 u10, ent w "current" u5 .none, ent w "machine" u6 .none, ent w "last_marker" u7 (.int 0 u8)] 7) ∈ rest)
      (m3 : (c.ob, instObj 350 db) ∈ rest) (m4 : (db, dictOf [ent w "rows" t1 (.ref c.R), ent w "names" t2 (.ref c.N)] 2) ∈ rest) (m5 : (c.ce, instObj 273 dc) ∈ rest) (m6 : (dc, dictOf [ent w "functions" t3 v1, ent w "plists" t4 (.ref c.P)] 2) ∈ rest)
      (ne1 : @Ne Nat c.N c.R) (ne2 : @Ne Nat c.N c.P) (ne3 : @Ne Nat c.R c.P) (dN : σ.oN.IsDictOf (strKind PySem.Challenge.rw_ok0061_01.row.prog w) σ.ks) (dP : σ.oP.IsDictOf (intKind PySem.Challenge.rw_ok0061_01.row.prog w) σ.pl) (loN : (c.N == sysModules) = false) (loP : (c.P == sysModules) = false) (klen : σ.ks.length ≤ 17) : WFacts w c σ rest
theorem WI.facts {w : World} {c : Cfg} {σ : St} {imm rest : List (Addr × Obj)} (H : WI w c σ imm) (hs : ∀ p ∈ imm, p ∈ rest) : WFacts w c σ rest := by
  (refine el_EEEEEEEEEEEA (H.wo) ?_; rintro dw u1 u2 u3 u4 u5 u6 u7 u8 u9 u10 a1 a2)
  (refine el_EEEA (H.oo) ?_; rintro db t1 t2 a3 a4)
  (refine el_EEEEA (H.co) ?_; rintro dc t3 t4 v1 a5 a6)
  exact ⟨dw, u1, u2, u3, u4, u5, u6, u7, u8, u9, u10, db, t1, t2, dc, t3, t4, v1, hs _ a1, hs _ a2, hs _ a3, hs _ a4, hs _ a5, hs _ a6, H.ne.1, H.ne.2.1, H.ne.2.2, H.dN, H.dP, H.loN, H.loP, H.klen⟩

section
open LCg LCt
variable {prog : Program} {w : World} {A : Around} {h₀ : Heap} {L : Addr} {m : Str → Option Value} {env : Env} {elt ct : Expr} {x : Str} {scope : Scope} {cl : List (Str × Addr)} {s₁ : Shared}
theorem CompEnd.weak {s : Shared} {I : Addr} {oI : Obj} {C : Addr} {oC : Obj} {D : Addr} {oD : Obj} {S : List (Addr × Obj) → Prop} {rest rest' : Value → List (Addr × Obj) → Prop} {y : Value} {s₂ : Shared} (h : CompEnd h₀ L m s I oI C oC D oD S rest y s₂) (k : ∀ y nx, rest y nx → rest' y nx) :
    CompEnd h₀ L m s I oI C oC D oD S rest' y s₂ := by
  (refine el_EEEAAAAA (h) ?_; (try clear h); rintro h' tk nx e F N o hS r)
  exact ⟨h', tk, nx, e, F, N, o, hS, k _ _ r⟩
theorem restT {s : Shared} {its : Array Value} {S : List (Addr × Obj) → Prop} {Fin : List Value → List (Addr × Obj) → Prop} (J : Nat → List Value → List (Addr × Obj) → Prop)
    (turn : ∀ i v ys nx I oI C oC D m₂ h tk (E' : Value → Shared → Prop), its[i]? = some v → J i ys nx → NsObj oC m₂ → m₂ x = some v → Fr h₀ L h m → News h₀ L h ((I, oI) :: (C, oC) :: (D, lst ys) :: nx) → Off3 I C D nx → ((@Ne Nat I C) ∧ (@Ne Nat I D) ∧ (@Ne Nat C D)) →
      wpAny (model prog w) A (isTrue ct (compEnvC scope cl C env) (eval ct (compEnvC scope cl C env))) (fun ok s' => if ok = true then
        wpAny (model prog w) A (eval elt (compEnvC scope cl C env)) (CompEnd h₀ L m { s with heap := h, toks := tk } I oI C oC D (lst ys) S (fun y nx' => J (i + 1) (ys ++ [y]) nx')) E' s'
        else CompEnd h₀ L m { s with heap := h, toks := tk } I oI C oC D (lst ys) S (fun _ nx' => J (i + 1) ys nx') Value.none s') E' { s with heap := h, toks := tk })
    (fin : ∀ ys nx, J its.size ys nx → Fin ys nx) :
    ∀ (k i : Nat) (ys : List Value) (nx : List (Addr × Obj)), k + i = its.size → J i ys nx → CompRestT prog w A h₀ L m env ct elt x scope cl s S (fun i v => its[i]? = some v) Fin k i ys nx
  | 0, i, ys, nx, e, hJ => CompRestT.zero (fin ys nx (by rw [← e, Nat.zero_add]; exact hJ))
  | k + 1, i, ys, nx, e, hJ => CompRestT.succ fun v I oI C oC D m₂ h tk E' hv hC hx F N o ne => by
    refine wpAny_mono (turn i v ys nx I oI C oC D m₂ h tk E' hv hJ hC hx F N o ne) (fun ok s' h' => ?_) fun _ _ e => e
    cases ok with
    | true =>
      simp only [if_true] at h' ⊢
      exact wpAny_mono h' (fun y s'' h'' => CompEnd.weak h'' fun y nx' r => restT J turn fin k (i + 1) _ _ (by omega) r) fun _ _ e => e
    | false =>
      simp only [Bool.false_eq_true, if_false] at h' ⊢
      exact CompEnd.weak h' fun y nx' r => restT J turn fin k (i + 1) _ _ (by omega) r
theorem comp_T {its : Array Value} {k : Nat} {ax : Addr} {news : List (Addr × Obj)} {Fin : Shared → List Value → List (Addr × Obj) → Prop} (J : Nat → List Value → List (Addr × Obj) → Prop)
    (hh : A.handled = none) (F : Fr h₀ L s₁.heap m) (N : News h₀ L s₁.heap news) (hm : (ax, listOf its k) ∈ news) (hsz : its.size ≤ sizeLine) (h0 : J 0 [] news)
    (turn : ∀ i v ys nx I oI C oC D m₂ h tk (E' : Value → Shared → Prop), its[i]? = some v → J i ys nx → NsObj oC m₂ → m₂ x = some v → Fr h₀ L h m → News h₀ L h ((I, oI) :: (C, oC) :: (D, lst ys) :: nx) → Off3 I C D nx → ((@Ne Nat I C) ∧ (@Ne Nat I D) ∧ (@Ne Nat C D)) →
      wpAny (model prog w) A (isTrue ct (compEnvC scope cl C env) (eval ct (compEnvC scope cl C env))) (fun ok s' => if ok = true then
        wpAny (model prog w) A (eval elt (compEnvC scope cl C env)) (CompEnd h₀ L m { s₁ with heap := h, toks := tk } I oI C oC D (lst ys) (SrcAt h₀ ax its) (fun y nx' => J (i + 1) (ys ++ [y]) nx')) E' s'
        else CompEnd h₀ L m { s₁ with heap := h, toks := tk } I oI C oC D (lst ys) (SrcAt h₀ ax its) (fun _ nx' => J (i + 1) ys nx') Value.none s') E' { s₁ with heap := h, toks := tk })
    (fin : ∀ (g : Heap) ys nx, J its.size ys nx → Fin { s₁ with heap := g } ys nx) :
    CompSrcT prog w A h₀ L m env ct elt x scope cl Fin (.ref ax) s₁ :=
  CompSrcT.ledger hh F N hm hsz fun g => restT (s := { s₁ with heap := g }) J turn (fin g) its.size 0 [] news (by omega) h0
theorem restU {s : Shared} {n : Nat} {P : Nat → Value → Prop} {S : List (Addr × Obj) → Prop} {Fin : List Value → List (Addr × Obj) → Prop} (J : Nat → List Value → List (Addr × Obj) → Prop)
    (turn : ∀ i v ys nx I oI C oC D m₂ h tk (E' : Value → Shared → Prop), P i v → i < n → J i ys nx → NsObj oC m₂ → m₂ x = some v → Fr h₀ L h m → News h₀ L h ((I, oI) :: (C, oC) :: (D, lst ys) :: nx) → Off3 I C D nx → ((@Ne Nat I C) ∧ (@Ne Nat I D) ∧ (@Ne Nat C D)) →
      wpAny (model prog w) A (eval elt (compEnvC scope cl C env)) (CompEnd h₀ L m { s with heap := h, toks := tk } I oI C oC D (lst ys) S (fun y nx' => J (i + 1) (ys ++ [y]) nx')) E' { s with heap := h, toks := tk })
    (fin : ∀ ys nx, J n ys nx → Fin ys nx) :
    ∀ (k i : Nat) (ys : List Value) (nx : List (Addr × Obj)), k + i = n → J i ys nx → CompRest prog w A h₀ L m env elt x scope cl s S P Fin k i ys nx
  | 0, i, ys, nx, e, hJ => CompRest.zero (fin ys nx (by rw [← e, Nat.zero_add]; exact hJ))
  | k + 1, i, ys, nx, e, hJ => CompRest.succ fun v I oI C oC D m₂ h tk E' hv hC hx F N o ne =>
    wpAny_mono (turn i v ys nx I oI C oC D m₂ h tk E' hv (by omega) hJ hC hx F N o ne) (fun y s'' h'' => CompEnd.weak h'' fun y nx' r => restU J turn fin k (i + 1) _ _ (by omega) r) fun _ _ e => e
theorem comp_U {its : Array Value} {k : Nat} {ax : Addr} {news : List (Addr × Obj)} {Fin : Shared → List Value → List (Addr × Obj) → Prop} (J : Nat → List Value → List (Addr × Obj) → Prop)
    (hh : A.handled = none) (F : Fr h₀ L s₁.heap m) (N : News h₀ L s₁.heap news) (hm : (ax, listOf its k) ∈ news) (hsz : its.size ≤ sizeLine) (h0 : J 0 [] news)
    (turn : ∀ i v ys nx I oI C oC D m₂ h tk (E' : Value → Shared → Prop), its[i]? = some v → i < its.size → J i ys nx → NsObj oC m₂ → m₂ x = some v → Fr h₀ L h m → News h₀ L h ((I, oI) :: (C, oC) :: (D, lst ys) :: nx) → Off3 I C D nx → ((@Ne Nat I C) ∧ (@Ne Nat I D) ∧ (@Ne Nat C D)) →
      wpAny (model prog w) A (eval elt (compEnvC scope cl C env)) (CompEnd h₀ L m { s₁ with heap := h, toks := tk } I oI C oC D (lst ys) (SrcAt h₀ ax its) (fun y nx' => J (i + 1) (ys ++ [y]) nx')) E' { s₁ with heap := h, toks := tk })
    (fin : ∀ (g : Heap) ys nx, J its.size ys nx → Fin { s₁ with heap := g } ys nx) :
    CompSrc prog w A h₀ L m env elt x scope cl Fin (.ref ax) s₁ :=
  CompSrc.ledger hh F N hm hsz fun g => restU (n := its.size) (s := { s₁ with heap := g }) J turn (fin g) its.size 0 [] news (by omega) h0
theorem comp_R {r : Addr} {b : Int} {t u v : Tok} {n : Nat} {news : List (Addr × Obj)} {Fin : Shared → List Value → List (Addr × Obj) → Prop} (J : Nat → List Value → List (Addr × Obj) → Prop)
    (hh : A.handled = none) (F : Fr h₀ L s₁.heap m) (N : News h₀ L s₁.heap news) (hr : IsRange s₁.heap r 0 b 1 t u v) (hsm : Builtin.Range.small 0 b 1 = true) (hn : Builtin.Range.rangeSize 0 b 1 = ((n : Nat) : Int)) (hsz : n ≤ sizeLine) (h0 : J 0 [] news)
    (turn : ∀ i v ys nx I oI C oC D m₂ h tk (E' : Value → Shared → Prop), (∃ t, v = .int (0 + (i : Int)) t) → i < n → J i ys nx → NsObj oC m₂ → m₂ x = some v → Fr h₀ L h m → News h₀ L h ((I, oI) :: (C, oC) :: (D, lst ys) :: nx) → Off3 I C D nx → ((@Ne Nat I C) ∧ (@Ne Nat I D) ∧ (@Ne Nat C D)) →
      wpAny (model prog w) A (eval elt (compEnvC scope cl C env)) (CompEnd h₀ L m { s₁ with heap := h, toks := tk } I oI C oC D (lst ys) (fun _ => True) (fun y nx' => J (i + 1) (ys ++ [y]) nx')) E' { s₁ with heap := h, toks := tk })
    (fin : ∀ (g : Heap) ys nx, J n ys nx → Fin { s₁ with heap := g } ys nx) :
    CompSrc prog w A h₀ L m env elt x scope cl Fin (.ref r) s₁ :=
  CompSrc.range hh F N hr hsm hn hsz fun g => restU (n := n) (s := { s₁ with heap := g }) J turn (fin g) n 0 [] news (by omega) h0
end

theorem truthy_cons {prog : Program} {w : World} {A : Around} {E : Value → Shared → Prop} {s : Shared} {l : Addr} {v : Value} {vs : List Value} {Q : Bool → Shared → Prop} (hl : s.heap.IsList l (v :: vs).toArray) (hz : vs.length ≤ 1000) (h : Q true { s with toks := s.toks + 1 + 1 }) :
    wpAny (model prog w) A (truthy (.ref l)) Q E s := by
  refine wpAny_truthy_list hl (by simp only [List.size_toArray, List.length_cons]; omega) ?_
  have e : (!(v :: vs).toArray.isEmpty) = true := by simp
  rw [e]; exact h
theorem truthy_nil {prog : Program} {w : World} {A : Around} {E : Value → Shared → Prop} {s : Shared} {l : Addr} {Q : Bool → Shared → Prop} (hl : s.heap.IsList l ([] : List Value).toArray) (h : Q false { s with toks := s.toks + 1 + 1 }) :
    wpAny (model prog w) A (truthy (.ref l)) Q E s := by
  refine wpAny_truthy_list hl (by (first | regstrif_fact | simp)) ?_
  exact h

theorem News.sub {h₀ h : Heap} {L : Addr} {news news' : List (Addr × Obj)} (N : News h₀ L h news) (k : ∀ p ∈ news', p ∈ news) : News h₀ L h news' := fun p hp => N p (k p hp)

abbrev tupOf (its : Array Value) (n : Nat) : Obj := { cls := .type "tuple", data := .seq its n }
section
variable {prog : Program} {w : World} {A : Around} {E : Value → Shared → Prop} {s : Shared} {env : Env} {h₀ : Heap} {x : Str} {body : List Stmt} {Q : Flow → Shared → Prop}
theorem iter_tup {l : Addr} {its : Array Value} {k : Nat} {m : Str → Option Value} {news : List (Addr × Obj)} (J : Nat → (Str → Option Value) → List (Addr × Obj) → Prop)
    (hh : A.handled = none) (hl : (l, tupOf its k) ∈ news)
    (F : Fr h₀ env.locals s.heap m) (N : News h₀ env.locals s.heap news) (h0 : J 0 m news) (keep : ∀ i m₁ news₁, J i m₁ news₁ → (l, tupOf its k) ∈ news₁)
    (turn : ∀ i m₁ news₁ h tk v I oI, its[i]? = some v → J i m₁ news₁ → (∀ p ∈ news₁, p.1 ≠ I) → Fr h₀ env.locals h (fun y => if y = x then some v else m₁ y) → News h₀ env.locals h ((I, oI) :: news₁) →
      wpAny (model prog w) A (execs body env) (TurnEnd h₀ env.locals I oI (J (i + 1)) { s with heap := h, toks := tk } Q) E { s with heap := h, toks := tk })
    (done : ∀ m₁ news₁ h tk, J its.size m₁ news₁ → Fr h₀ env.locals h m₁ → News h₀ env.locals h news₁ → Q .next { s with heap := h, toks := tk }) :
    wpAny (model prog w) A (pyIter (.ref l)) (fun it s₂ => LoopAtV prog w A h₀ env x body Q E it s₂) E s := by
  have hls : s.heap.IsTuple l its := ⟨_, (N _ hl).1, rfl, _, rfl⟩
  have hlt : l < s.heap.objs.size := Heap.lt_size (N _ hl).1
  have hne : l ≠ s.heap.objs.size := Nat.ne_of_lt hlt
  refine wpAny_pyIter_tuple hls ?_
  have W := Walks.tuple (prog := prog) (w := w) hh s.heap.objs.size l hne its
  refine ⟨_, _, _, its.size, _, _, m, news, J, rfl, W, ?_, ?_, ?_, ⟨⟨_, Heap.get?_push_size _ rfl, rfl, rfl⟩, hls.at fun o e => Heap.get?_push_of_some _ e⟩, F.push _, (fun p hp => ⟨Heap.get?_push_of_some _ (N p hp).1, (N p hp).2⟩), h0, ?_, ?_⟩
  · intro hm
    rcases List.mem_cons.mp hm with e | hm
    · exact absurd F.ns.lt (e ▸ Nat.lt_irrefl _)
    · exact (N _ hl).2.1 (List.mem_singleton.mp hm).symm
  · intro b hb
    rw [List.mem_singleton.mp hb]
    exact next_is_new F
  · intro p hp hI
    exact absurd (Heap.lt_size (N p hp).1) ((List.mem_singleton.mp hI) ▸ Nat.lt_irrefl _)
  · rintro i v m₁ news₁ s₁ own ⟨hh', tk', rfl⟩ hi hv hJ hoff hown hget hall hst F₁ N₁
    (refine el_EA (hst.1) ?_; rintro oI hI _)
    have hIo := hall s.heap.objs.size List.mem_cons_self (next_is_new F) oI hI
    have off' : ∀ p ∈ news₁, p.1 ≠ s.heap.objs.size := fun p hp e => hoff p hp (List.mem_singleton.mpr e)
    have N₂ : News h₀ env.locals hh' ((s.heap.objs.size, oI) :: news₁) := fun p hp => by
      rcases List.mem_cons.mp hp with rfl | hp
      · exact N₁ _ (List.mem_append_left _ hIo)
      · exact N₁ _ (List.mem_append_right _ hp)
    refine wpAny_mono (turn i m₁ news₁ hh' tk' v s.heap.objs.size oI hv hJ off' F₁ N₂) (fun f s₂ p => ?_) fun _ _ e => e
    have fin : (∃ h' tk m' news', s₂ = { s with heap := h', toks := tk } ∧ Fr h₀ env.locals h' m' ∧ News h₀ env.locals h' ((s.heap.objs.size, oI) :: news') ∧ (∀ p ∈ news', p.1 ≠ s.heap.objs.size) ∧ J (i + 1) m' news') →
        LoopStepU h₀ env.locals [s.heap.objs.size] own (J (i + 1)) { s with heap := hh', toks := tk' } .next s₂ := by
      intro hcx; (refine el_EEEEAAAA (hcx) ?_; (try clear hcx); rintro h' tk m' news' e F' N' o' J')
      refine ⟨rfl, h', tk, m', news', e, F', fun p hp => ?_, fun p hp hq => o' p hp (List.mem_singleton.mp hq), J'⟩
      rcases List.mem_append.mp hp with hp | hp
      · have h2 := hget p hp
        rcases List.mem_cons.mp (hown p hp) with h1 | h1
        · rw [h1] at h2
          have h3 : p = (s.heap.objs.size, oI) := by
            obtain ⟨p1, p2⟩ := p
            dsimp only at h1 h2
            rw [h1]
            have : some oI = some p2 := hI.symm.trans h2
            rw [Option.some.inj this]
          rw [h3]
          exact N' _ List.mem_cons_self
        · have h1 := List.mem_singleton.mp h1
          have h3 : p = (l, tupOf its k) := by
            obtain ⟨p1, p2⟩ := p
            dsimp only at h1 h2
            subst h1
            have := (N₁ _ (List.mem_append_right own (keep i m₁ news₁ hJ))).1
            exact congrArg (Prod.mk p1) (Option.some.inj (h2.symm.trans this))
          rw [h3]
          exact N' _ (List.mem_cons_of_mem _ (keep _ _ _ J'))
      · exact N' _ (List.mem_cons_of_mem _ hp)
    cases f with
    | ret v => exact .ret p
    | brk => exact .brk p
    | next => exact .next (fin p)
    | cont => exact .cont (fin p)
  · rintro h' tk m' news' F' N' _ hJ
    exact done m' news' h' tk hJ F' N'
theorem loop_tup {l : Addr} {its : Array Value} {k : Nat} {m : Str → Option Value} {news : List (Addr × Obj)} (junk : List Str) (V₀ : List (Str × Value)) (J : Nat → List (Str × Value) → List (Addr × Obj) → Prop)
    (hh : A.handled = none) (hl : (l, tupOf its k) ∈ news)
    (F : Fr h₀ env.locals s.heap m) (N : News h₀ env.locals s.heap news) (hV : ∀ kv ∈ V₀, m kv.1 = some kv.2) (h0 : J 0 V₀ news) (keep : ∀ i V news₁, J i V news₁ → (l, tupOf its k) ∈ news₁)
    (turn : ∀ i V u news₁ h tk v I oI, its[i]? = some v → J i V news₁ → (∀ p ∈ news₁, p.1 ≠ I) → Fr h₀ env.locals h (fun y => if y = x then some v else frM V junk u m y) → News h₀ env.locals h ((I, oI) :: news₁) →
      wpAny (model prog w) A (execs body env) (TurnEnd h₀ env.locals I oI (JV junk m (J (i + 1))) { s with heap := h, toks := tk } Q) E { s with heap := h, toks := tk })
    (done : ∀ V u news₁ h tk, J its.size V news₁ → Fr h₀ env.locals h (frM V junk u m) → News h₀ env.locals h news₁ → Q .next { s with heap := h, toks := tk }) :
    wpAny (model prog w) A (pyIter (.ref l)) (fun it s₂ => LoopAtV prog w A h₀ env x body Q E it s₂) E s := by
  refine iter_tup (fun i => JV junk m (J i)) hh hl F N (JV.intro V₀ h0 hV fun _ _ _ => rfl) (fun i m₁ news₁ ⟨V, u, hJ, _⟩ => keep i V news₁ hJ) ?_ ?_
  · rintro i m₁ news₁ h tk v I oI hi ⟨V, u, hJ, rfl⟩ off F₁ N₁
    exact turn i V u news₁ h tk v I oI hi hJ off F₁ N₁
  · rintro m₁ news₁ h tk ⟨V, u, hJ, rfl⟩ F₁ N₁
    exact done V u news₁ h tk hJ F₁ N₁
end
theorem valueAt_stored {K : Type} [DecidableEq K] (xs : List (K × Value)) (k k' : K) (v : Value) : valueAt (stored xs k v) k' = if k = k' then some v else valueAt xs k' := by
  unfold stored
  by_cases h : (xs.any fun kv => decide (kv.1 = k)) = true
  · rw [if_pos h]
    induction xs with
    | nil => simp at h
    | cons p r ih =>
      obtain ⟨a, b⟩ := p
      unfold valueAt
      simp only [List.map_cons, List.find?_cons]
      by_cases e : a = k
      · subst e
        by_cases e2 : a = k'
        · simp [e2]
        · simp only [if_true, e2, decide_false, if_false]
          have hr : ∀ (l : List (K × Value)), (l.map fun kv => if kv.1 = a then (kv.1, v) else kv).find? (fun kv => decide (kv.1 = k')) = l.find? (fun kv => decide (kv.1 = k')) := by
            intro l
            induction l with
            | nil => rfl
            | cons q l ih2 =>
              obtain ⟨c, d⟩ := q
              simp only [List.map_cons, List.find?_cons]
              by_cases e3 : c = a
              · subst e3; simp [e2, ih2]
              · simp only [if_neg e3]
                by_cases e4 : c = k'
                · simp [e4]
                · simp [e4, ih2]
          rw [hr]
      · have h' : (r.any fun kv => decide (kv.1 = k)) = true := by simpa [e] using h
        have := ih h'
        unfold valueAt at this
        simp only [if_neg e]
        by_cases e2 : a = k'
        · have : k ≠ k' := fun q => e (e2.trans q.symm)
          simp [e2, this]
        · simp only [e2, decide_false]
          exact this
  · rw [if_neg h, valueAt_append]
    by_cases e : k = k'
    · subst e
      have : valueAt xs k = none := by
        unfold valueAt
        have : List.find? (fun kv => decide (kv.1 = k)) xs = none := List.find?_eq_none.mpr fun p hp q => h (List.any_eq_true.mpr ⟨p, hp, q⟩)
        rw [this]; rfl
      rw [this]; simp [valueAt]
    · rw [if_neg e]
      have : valueAt [(k, v)] k' = none := by simp [valueAt, e]
      rw [this, Option.or_none]
theorem stored_length {K : Type} [DecidableEq K] (xs : List (K × Value)) (k : K) (v : Value) : (stored xs k v).length ≤ xs.length + 1 := by
  unfold stored
  split
  · simp
  · simp

/-- the deck: its cells, its seed -/
structure Dk where
  vs : List Value
  ns : List Int
  kc : Nat
  sd : Int
  ts : Tok
  ks : Nat
structure DkOk (d : Dk) : Prop where
  hints : IntsAre d.vs d.ns
  lo : ∀ n ∈ d.ns, 0 ≤ n
  hi : ∀ n ∈ d.ns, n < 10 ^ 24
  len : d.ns.length ≤ 10
  s0 : 0 ≤ d.sd
  s1 : d.sd < 1100000
abbrev dkL (C S : Addr) (d : Dk) : List (Addr × Obj) := [(C, listOf d.vs.toArray d.kc), (S, listOf #[.int d.sd d.ts] d.ks)]

section
variable {prog : Program} {w : World} {A : Around} {E : Value → Shared → Prop} {s : Shared} {a b : Addr} {Q : Value → Shared → Prop}
theorem ne_nil (ha : s.heap.IsList a ([] : List Value).toArray) (hb : s.heap.IsList b ([] : List Value).toArray) (hu : A.units + 64 < cLine) (h : Q (.bool false) s) : wpAny (model prog w) A (compareOp .NotEq (.ref a) (.ref b)) Q E s :=
  ke_ne_ints ha hb IntsAre.nil IntsAre.nil hu (by simpa using h)
theorem ne_cons {v : Value} {xs : List Value} {ns : List Int} (ha : s.heap.IsList a (v :: xs).toArray) (hb : s.heap.IsList b ([] : List Value).toArray) (hi : IntsAre (v :: xs) ns) (hu : A.units + 64 < cLine) (h : Q (.bool true) s) : wpAny (model prog w) A (compareOp .NotEq (.ref a) (.ref b)) Q E s :=
  ke_ne_ints ha hb hi IntsAre.nil hu (by cases hi; simpa using h)
end

theorem pop_first {prog : Program} {w : World} {A : Around} {E : Value → Shared → Prop} {s : Shared} {h₀ : Heap} {L D : Addr} {m : Str → Option Value} {news news' : List (Addr × Obj)} {n : Nat} {u : Tok} {q : List Value} {y : Value} {Q : Value → Shared → Prop} (F : Fr h₀ L s.heap m) (N : News h₀ L s.heap news)
    (U : Upd D (listOf (y :: q).toArray n) (listOf q.toArray (n + 1)) news news') (hz : q.length ≤ 1000) (h : ∀ h', Fr h₀ L h' m → News h₀ L h' news' → Q y { s with heap := h' }) : wpAny (model prog w) A (call (.builtin "list.pop") [.ref D, .int 0 u]) Q E s := by
  refine kl_popAt (k := 0) (p := []) (q := q) (y := y) F N rfl ?_ rfl U ?_ h
  · simp [seqIndex?]
  · simp only [sizeLine_eq, List.length_cons]; omega

theorem draw_news {h₀ h' : Heap} {L C S : Addr} {vs : List Value} {kc ks : Nat} {sd : Int} {ts : Tok} {rest : List (Addr × Obj)} (g : List (Addr × Obj)) (ns : List Int) (N : News h₀ L h' (g ++ ((C, listOf vs.toArray kc) :: (S, listOf #[.int sd ts] ks) :: rest))) :
    News h₀ L h' (dkL C S ⟨vs, ns, kc, sd, ts, ks⟩ ++ rest) := fun p hp => N p (List.mem_append_right _ hp)
theorem seed_lo (a : Int) : 0 ≤ a.fmod 1000003 := fmod_lo a (by omega)
theorem seed_hi (a : Int) : a.fmod 1000003 < 1100000 := Int.lt_trans (fmod_hi a (by omega)) (by omega)

theorem draw_turn {h₀ h' : Heap} {L C S : Addr} {vs : List Value} {ns : List Int} {kc ks n tk : Nat} {sd : Int} {ts : Tok} {rest g : List (Addr × Obj)} {m m' : Str → Option Value} {s₀ : Shared} {Q : Flow → Shared → Prop} (F : Fr h₀ L h' m')
    (N : News h₀ L h' (g ++ ((C, listOf vs.toArray kc) :: (S, listOf #[.int sd ts] ks) :: rest))) (ok : DkOk ⟨vs, ns, kc, sd, ts, ks⟩) (hn : ns.length < n) (hm : ∀ z, m' z = m z) :
    WhEnd h₀ L s₀ (fun n => JV [] m ((fun n V nx => ∃ d' : Dk, V = [] ∧ DkOk d' ∧ n = d'.ns.length ∧ nx = dkL C S d' ++ rest) n)) Q n .next { s₀ with heap := h', toks := tk } :=
  ⟨h', tk, m', dkL C S ⟨vs, ns, kc, sd, ts, ks⟩ ++ rest, ns.length, rfl, F, draw_news g ns N, hn, JV.intro [] ⟨_, rfl, ok, rfl, rfl⟩ (fun _ h => nomatch h) fun z _ _ => hm z⟩

def growBy (D : List (Str × List Str)) (acc : List Str) (p : Str) : List Str := acc ++ (condsOf D p).filter (fun x => decide (x ∉ acc))
def grow (D : List (Str × List Str)) (name : Str) (parents : List Str) : List Str := parents.foldl (growBy D) [name]

theorem lt_cells {a b c : Prop} {L : Addr} {l : List (Addr × Obj)} (h : a ∧ b ∧ c ∧ AllLt L l) : (∀ p ∈ l, p.1 ≠ L + 1) ∧ ∀ p ∈ l, p.1 ≠ L + 1 + 1 :=
  ⟨fun p hp => Nat.ne_of_lt (Nat.lt_succ_of_lt (AllLt.mem h.2.2.2 p hp)), fun p hp => Nat.ne_of_lt (Nat.lt_succ_of_lt (Nat.lt_succ_of_lt (AllLt.mem h.2.2.2 p hp)))⟩

theorem Mv.weak {w : World} {c : Cfg} {fr fr' : List (Addr × Obj)} {σ σ' : St} {imm rest imm' rest' : List (Addr × Obj)} (M : Mv w c fr σ imm rest σ' imm' rest') (k : ∀ q ∈ fr', q ∈ fr) : Mv w c fr' σ imm rest σ' imm' rest' :=
  ⟨M.sub, M.hs, M.subr, fun p hp => (M.fresh p hp).imp id fun h q hq => h q (by
    simp only [List.mem_append] at hq ⊢
    rcases hq with h | h | h
    · exact .inl h
    · exact .inr (.inl (k _ h))
    · exact .inr (.inr h)), M.H, M.G⟩
theorem Mv.off {w : World} {c : Cfg} {fr : List (Addr × Obj)} {σ σ' : St} {imm rest imm' rest' : List (Addr × Obj)} (M : Mv w c fr σ imm rest σ' imm' rest') {a : Addr} {o : Obj} (hm : (a, o) ∈ fr) (ha : ∀ p ∈ rest, p.1 ≠ a) : ∀ p ∈ rest', p.1 ≠ a := fun p hp => by
  rcases M.fresh p hp with h | h
  · exact ha p h
  · exact fun e => h (a, o) (by (first | exact sub_p hm (by regstrif_slice) | simp [hm])) e.symm
structure Jd (w : World) (c : Cfg) (σ : St) (imm fr rest : List (Addr × Obj)) (name : Str) (parents : List Str) (l c1 c2 : Addr) (o1 o2 : Obj) (i : Nat) (σ' : St) (imm' rest' : List (Addr × Obj)) (acc : List Str) (ys : List Value) (k : Nat) : Prop where
  M : Mv w c fr σ imm rest σ' imm' rest'
  off : Off c (fr ++ rest')
  ol : ∀ p ∈ fr ++ rest', p.1 ≠ l
  oc1 : ∀ p ∈ fr ++ rest', p.1 ≠ c1
  oc2 : ∀ p ∈ fr ++ rest', p.1 ≠ c2
  ys : StrsAre ys acc
  acc : acc = (parents.take i).foldl (growBy σ.D) [name]
abbrev Jdef (w : World) (c : Cfg) (σ : St) (imm fr rest : List (Addr × Obj)) (name : Str) (parents : List Str) (l c1 c2 : Addr) (o1 o2 : Obj) (i : Nat) (V : List (Str × Value)) (nx : List (Addr × Obj)) : Prop :=
  ∃ σ' imm' rest' acc ys k, V = [] ∧ nx = (l, listOf ys.toArray k) :: (c2, o2) :: (c1, o1) :: (mutL c σ' ++ (fr ++ rest')) ∧ Jd w c σ imm fr rest name parents l c1 c2 o1 o2 i σ' imm' rest' acc ys k
theorem strs_get {ys : List Value} {ss : List Str} (h : StrsAre ys ss) {i : Nat} {v : Value} (e : ys[i]? = some v) : ∃ s t, v = .str s t ∧ ss[i]? = some s := by
  induction h generalizing i with
  | nil => cases e
  | cons y t _ ih =>
    cases i with
    | zero => cases e; exact ⟨y, t, rfl, rfl⟩
    | succ i => (refine el_EEA (ih (by simpa using e)) ?_; rintro s u h1 h2); exact ⟨s, u, h1, by simpa using h2⟩
theorem strs_length {ys : List Value} {ss : List Str} (h : StrsAre ys ss) : ys.length = ss.length := by
  induction h with
  | nil => rfl
  | cons _ _ _ ih => rw [List.length_cons, List.length_cons, ih]

theorem Off.cons {c : Cfg} {a : Addr} {o : Obj} {l : List (Addr × Obj)} (h1 : @Ne Nat a c.N) (h2 : @Ne Nat a c.R) (h3 : @Ne Nat a c.P) (h : Off c l) : Off c ((a, o) :: l) := by
  refine ⟨fun p hp => ?_, fun p hp => ?_, fun p hp => ?_⟩ <;> rcases List.mem_cons.mp hp with rfl | hp
  · exact h1
  · exact h.1 p hp
  · exact h2
  · exact h.2.1 p hp
  · exact h3
  · exact h.2.2 p hp

theorem extend_any {prog : Program} {w : World} {A : Around} {E : Value → Shared → Prop} {s : Shared} {h₀ : Heap} {L D b : Addr} {m : Str → Option Value} {news : List (Addr × Obj)} {n n2 : Nat} {xs ys : List Value} {Q : Value → Shared → Prop} (pre post : List (Addr × Obj)) (F : Fr h₀ L s.heap m) (N : News h₀ L s.heap news) (hb : (b, listOf ys.toArray n2) ∈ news)
    (hn : news = pre ++ (D, listOf xs.toArray n) :: post) (h1 : ∀ p ∈ pre, p.1 ≠ D) (h2 : ∀ p ∈ post, p.1 ≠ D) (hx : xs.length ≤ 1000) (hy : ys.length ≤ 1000)
    (h : ∀ h' k, Fr h₀ L h' m → News h₀ L h' (pre ++ (D, listOf (xs ++ ys).toArray k) :: post) → Q .none { s with heap := h' }) : wpAny (model prog w) A (call (.builtin "list.extend") [.ref D, .ref b]) Q E s := by
  have up : ∀ (o o' : Obj), Upd D o o' (pre ++ (D, o) :: post) (pre ++ (D, o') :: post) := by
    intro o o'
    clear hn N h
    induction pre with
    | nil => exact .head h2
    | cons p r ih => exact .tail (h1 p List.mem_cons_self) (ih fun q hq => h1 q (List.mem_cons_of_mem _ hq))
  subst hn
  have hd : ¬(!xs.toArray.isEmpty && Builtin.List.listTooLong (xs.toArray.size + ys.toArray.size)) = true := by
    have : Builtin.List.listTooLong (xs.toArray.size + ys.toArray.size) = false := by
      unfold Builtin.List.listTooLong
      rw [sizeLine_eq]
      simp only [List.size_toArray]
      exact decide_eq_false (by omega)
    rw [this, Bool.and_false]
    exact Bool.false_ne_true
  have z1 : xs.toArray.toList.length ≤ sizeLine := by rw [sizeLine_eq]; simp; omega
  have z2 : xs.toArray.size + ys.toArray.size ≤ sizeLine + 1 := by rw [sizeLine_eq]; simp; omega
  cases ys with
  | nil => exact kxn_extend F N hb rfl (up _ _) hd z1 z2 fun h' F' N' => h h' n F' (by simpa using N')
  | cons y ys => exact kl_extend F N hb rfl (by (first | regstrif_fact | simp)) (up _ _) hd z1 z2 fun h' F' N' => h h' (n + 1) F' (by simpa using N')

theorem std_good : ∀ p ∈ std5, stdOf p ≠ [] ∧ (stdOf p).Nodup ∧ ∀ x ∈ stdOf p, x ∈ uni2 := by decide
theorem conds_good {w : World} {c : Cfg} {σ : St} {imm : List (Addr × Obj)} (H : WI w c σ imm) {p : Str} (h : σ.D.lookup p = none → p ∈ std5) : condsOf σ.D p ≠ [] ∧ (condsOf σ.D p).Nodup ∧ ∀ x ∈ condsOf σ.D p, x ∈ uni2 := by
  unfold condsOf
  cases e : σ.D.lookup p with
  | none => exact std_good p (h e)
  | some l => exact H.Du _ (lookup_mem e)
theorem uni2_len {l : List Str} (h1 : l.Nodup) (h2 : ∀ x ∈ l, x ∈ uni2) : l.length ≤ 15 := nodup_sub_length l uni2 h1 h2
theorem filt_skip {l acc : List Str} {i : Nat} {s : Str} (e : l[i]? = some s) (h : (acc.any fun x => x == s) = true) : (l.take (i + 1)).filter (fun x => decide (x ∉ acc)) = (l.take i).filter (fun x => decide (x ∉ acc)) := by
  have hm : s ∈ acc := by
    (refine el_EA (List.any_eq_true.mp h) ?_; rintro x hx hs)
    exact eq_of_beq hs ▸ hx
  rw [List.take_add_one, e, List.filter_append]
  (first | regstrif_fact | simp [hm])
theorem filt_add {l acc : List Str} {i : Nat} {s : Str} (e : l[i]? = some s) (h : (acc.any fun x => x == s) = false) : (l.take (i + 1)).filter (fun x => decide (x ∉ acc)) = (l.take i).filter (fun x => decide (x ∉ acc)) ++ [s] := by
  have hm : s ∉ acc := fun hm => by
    have : (acc.any fun x => x == s) = true := List.any_eq_true.mpr ⟨s, hm, by simp⟩
    rw [h] at this; cases this
  rw [List.take_add_one, e, List.filter_append]
  (first | regstrif_fact | simp [hm])
theorem strs_append {xs ys : List Value} {ss us : List Str} (h : StrsAre xs ss) (h' : StrsAre ys us) : StrsAre (xs ++ ys) (ss ++ us) := by
  induction h with
  | nil => exact h'
  | cons y t _ ih => exact .cons y t ih
theorem growBy_good {acc l : List Str} (ha : acc.Nodup) (hl : l.Nodup) : (acc ++ l.filter (fun x => decide (x ∉ acc))).Nodup := by
  rw [List.nodup_append]
  refine ⟨ha, hl.filter _, fun x hx y hy => ?_⟩
  have := (List.mem_filter.mp hy).2
  rintro rfl
  exact (of_decide_eq_true this) hx
theorem Off.right {c : Cfg} {l r : List (Addr × Obj)} (h : Off c (l ++ r)) : Off c r := ⟨fun p hp => h.1 p (List.mem_append_right _ hp), fun p hp => h.2.1 p (List.mem_append_right _ hp), fun p hp => h.2.2 p (List.mem_append_right _ hp)⟩
theorem def_turn {g9 h' : Heap} {L I l c1 c2 : Addr} {oI o1 o2 : Obj} {w : World} {c : Cfg} {σ σ' σ2 : St} {imm rest imm' rest' imm2 rest2 fr nl : List (Addr × Obj)} {name pn : Str} {parents acc : List Str} {ys zs : List Value} {i k k' tk : Nat} {m m' : Str → Option Value} {s₁ : Shared} {Q : Flow → Shared → Prop}
    (J : Jd w c σ imm fr rest name parents l c1 c2 o1 o2 i σ' imm' rest' acc ys k) (M2 : Mv w c ([(I, oI), (l, listOf ys.toArray k), (c2, o2), (c1, o1)] ++ fr) σ' imm' rest' σ2 imm2 rest2) (off2 : Off c ([(I, oI), (l, listOf ys.toArray k), (c2, o2), (c1, o1)] ++ fr ++ rest2))
    (hpn : parents[i]? = some pn) (hzs : StrsAre zs ((condsOf σ.D pn).filter (fun x => decide (x ∉ acc)))) (F : Fr g9 L h' m') (N : News g9 L h' nl) (hnl : ∀ p ∈ (I, oI) :: (l, listOf (ys ++ zs).toArray k') :: (c2, o2) :: (c1, o1) :: (mutL c σ2 ++ (fr ++ rest2)), p ∈ nl)
    (offI : ∀ p ∈ (l, listOf ys.toArray k) :: (c2, o2) :: (c1, o1) :: (mutL c σ' ++ (fr ++ rest')), p.1 ≠ I) (hm : ∀ z, z ∉ [Str.ofString "parent"] → m' z = m z) :
    TurnEnd g9 L I oI (JV [Str.ofString "parent"] m (Jdef w c σ imm fr rest name parents l c1 c2 o1 o2 (i + 1))) s₁ Q .next { s₁ with heap := h', toks := tk } := by
  have e1 : ∀ p ∈ rest2, p.1 ≠ I := M2.off (a := I) (o := oI) (by (first | regstrif_fact | simp)) fun p hp => offI p (by (first | exact sub_p hp (by regstrif_slice) | simp [hp]))
  have e2 : ∀ p ∈ rest2, p.1 ≠ l := M2.off (a := l) (o := listOf ys.toArray k) (by (first | regstrif_fact | simp)) fun p hp => J.ol p (by (first | exact sub_p hp (by regstrif_slice) | simp [hp]))
  have e3 : ∀ p ∈ rest2, p.1 ≠ c2 := M2.off (a := c2) (o := o2) (by (first | regstrif_fact | simp)) fun p hp => J.oc2 p (by (first | exact sub_p hp (by regstrif_slice) | simp [hp]))
  have e4 : ∀ p ∈ rest2, p.1 ≠ c1 := M2.off (a := c1) (o := o1) (by (first | regstrif_fact | simp)) fun p hp => J.oc1 p (by (first | exact sub_p hp (by regstrif_slice) | simp [hp]))
  refine TurnEnd.next (news' := (l, listOf (ys ++ zs).toArray k') :: (c2, o2) :: (c1, o1) :: (mutL c σ2 ++ (fr ++ rest2))) F (News.sub N hnl) ?_ (JV.intro [] ⟨σ2, imm2, rest2, acc ++ (condsOf σ.D pn).filter (fun x => decide (x ∉ acc)), ys ++ zs, k', rfl, rfl, ⟨J.M.trans (M2.weak fun q hq => by (first | exact sub_p hq (by regstrif_slice) | simp [hq])), ?_, ?_, ?_, ?_, strs_append J.ys hzs, ?_⟩⟩ (fun _ h => nomatch h) fun z _ hz => hm z hz)
  · intro p hp
    simp only [mutL, List.cons_append, List.nil_append, List.mem_cons, List.mem_append] at hp
    rcases hp with rfl | rfl | rfl | rfl | rfl | rfl | hp | hp
    · exact offI (l, listOf ys.toArray k) List.mem_cons_self
    · exact offI (c2, o2) (by (first | regstrif_fact | simp))
    · exact offI (c1, o1) (by (first | regstrif_fact | simp))
    · exact offI (c.N, σ'.oN) (by (first | regstrif_fact | simp [mutL]))
    · exact offI (c.R, listOf (σ'.ks.map (·.2)).toArray σ'.n) (by (first | regstrif_fact | simp [mutL]))
    · exact offI (c.P, σ'.oP) (by (first | regstrif_fact | simp [mutL]))
    · exact offI p (by (first | exact sub_p hp (by regstrif_slice) | simp [hp]))
    · exact e1 p hp
  · refine ⟨fun p hp => ?_, fun p hp => ?_, fun p hp => ?_⟩
    · exact off2.1 p (sub_p hp (by regstrif_slice))
    · exact off2.2.1 p (sub_p hp (by regstrif_slice))
    · exact off2.2.2 p (sub_p hp (by regstrif_slice))
  · intro p hp
    rcases List.mem_append.mp hp with hp | hp
    · exact J.ol p (by (first | exact sub_p hp (by regstrif_slice) | simp [hp]))
    · exact e2 p hp
  · intro p hp
    rcases List.mem_append.mp hp with hp | hp
    · exact J.oc1 p (by (first | exact sub_p hp (by regstrif_slice) | simp [hp]))
    · exact e4 p hp
  · intro p hp
    rcases List.mem_append.mp hp with hp | hp
    · exact J.oc2 p (by (first | exact sub_p hp (by regstrif_slice) | simp [hp]))
    · exact e3 p hp
  · rw [List.take_add_one, hpn, List.foldl_append, ← J.acc]
    rfl

theorem fold_good {D : List (Str × List Str)} : ∀ (l : List Str) (acc : List Str), acc.Nodup → (∀ x ∈ acc, x ∈ uni2) → (∀ p ∈ l, (condsOf D p).Nodup ∧ ∀ x ∈ condsOf D p, x ∈ uni2) → (l.foldl (growBy D) acc).Nodup ∧ ∀ x ∈ l.foldl (growBy D) acc, x ∈ uni2
  | [], _, h1, h2, _ => ⟨h1, h2⟩
  | p :: l, acc, h1, h2, h => by
    obtain ⟨g1, g2⟩ := h p List.mem_cons_self
    refine fold_good l _ (growBy_good h1 g1) (fun x hx => ?_) fun q hq => h q (List.mem_cons_of_mem _ hq)
    rcases List.mem_append.mp hx with hx | hx
    · exact h2 x hx
    · exact g2 x (List.mem_filter.mp hx).1
theorem fold_ne {D : List (Str × List Str)} : ∀ (l : List Str) (acc : List Str), acc ≠ [] → l.foldl (growBy D) acc ≠ []
  | [], _, h => h
  | p :: l, acc, h => fold_ne l _ (by unfold growBy; intro e; exact h (List.append_eq_nil_iff.mp e).1)

theorem comp_off {I C D : Addr} {oI oC oD : Obj} {c : Cfg} {σ : St} {FR rest : List (Addr × Obj)} (o : LCg.Off3 I C D (mutL c σ ++ (FR ++ rest))) (h : Off c (FR ++ rest)) : Off c ([(I, oI), (C, oC), (D, oD)] ++ FR ++ rest) := by
  have hN := o.mem (c.N, σ.oN) (by (first | regstrif_fact | simp [mutL]))
  have hR := o.mem (c.R, listOf (σ.ks.map (·.2)).toArray σ.n) (by (first | regstrif_fact | simp [mutL]))
  have hP := o.mem (c.P, σ.oP) (by (first | regstrif_fact | simp [mutL]))
  exact Off.cons (Ne.symm hN.1) (Ne.symm hR.1) (Ne.symm hP.1) (Off.cons (Ne.symm hN.2.1) (Ne.symm hR.2.1) (Ne.symm hP.2.1) (Off.cons (Ne.symm hN.2.2) (Ne.symm hR.2.2) (Ne.symm hP.2.2) h))
theorem comp_off3 {I C D : Addr} {oI oC oD : Obj} {w : World} {c : Cfg} {σ σ3 : St} {FR imm rest imm3 rest3 : List (Addr × Obj)} (o : LCg.Off3 I C D (mutL c σ ++ (FR ++ rest))) (M : Mv w c ([(I, oI), (C, oC), (D, oD)] ++ FR) σ imm rest σ3 imm3 rest3) :
    LCg.Off3 I C D (mutL c σ3 ++ (FR ++ rest3)) := by
  refine LCg.Off3.of fun p hp => ?_
  have hr : ∀ q ∈ rest, q.1 ≠ I ∧ q.1 ≠ C ∧ q.1 ≠ D := fun q hq => o.mem q (by (first | exact sub_p hq (by regstrif_slice) | simp [hq]))
  simp only [mutL, List.cons_append, List.nil_append, List.mem_cons, List.mem_append] at hp
  rcases hp with rfl | rfl | rfl | hp | hp
  · exact o.mem (c.N, σ.oN) (by (first | regstrif_fact | simp [mutL]))
  · exact o.mem (c.R, listOf (σ.ks.map (·.2)).toArray σ.n) (by (first | regstrif_fact | simp [mutL]))
  · exact o.mem (c.P, σ.oP) (by (first | regstrif_fact | simp [mutL]))
  · exact o.mem p (by (first | exact sub_p hp (by regstrif_slice) | simp [hp]))
  · exact ⟨M.off (a := I) (o := oI) (by (first | regstrif_fact | simp)) (fun q hq => (hr q hq).1) p hp, M.off (a := C) (o := oC) (by (first | regstrif_fact | simp)) (fun q hq => (hr q hq).2.1) p hp, M.off (a := D) (o := oD) (by (first | regstrif_fact | simp)) (fun q hq => (hr q hq).2.2) p hp⟩
theorem Off.drop3 {c : Cfg} {a b d : Addr × Obj} {FR rest : List (Addr × Obj)} (h : Off c ([a, b, d] ++ FR ++ rest)) : Off c (FR ++ rest) := by
  have : Off c ([a, b, d] ++ (FR ++ rest)) := by rw [← List.append_assoc]; exact h
  exact this.right
theorem SymsAre.snoc {w : World} {imm : List (Addr × Obj)} : ∀ {vs : List Value} {ss : List Str} {v : Value} {s : Str} {j : Int}, SymsAre w imm vs ss → SymAt w imm v j s → SymsAre w imm (vs ++ [v]) (ss ++ [s])
  | [], [], _, _, j, _, h => ⟨⟨j, h⟩, trivial⟩
  | _ :: _, _ :: _, _, _, _, ⟨h1, r⟩, h => ⟨h1, r.snoc h⟩
  | [], _ :: _, _, _, _, h, _ => h.elim
  | _ :: _, [], _, _, _, h, _ => h.elim
theorem SymsAre.take {w : World} {imm : List (Addr × Obj)} {vs : List Value} {ss : List Str} {i : Nat} {v : Value} {s : Str} {j : Int} (h : SymsAre w imm vs (ss.take i)) (e : ss[i]? = some s) (hv : SymAt w imm v j s) : SymsAre w imm (vs ++ [v]) (ss.take (i + 1)) := by
  rw [List.take_add_one, e]; exact h.snoc hv
theorem WI.symAt {w : World} {c : Cfg} {σ : St} {imm : List (Addr × Obj)} (H : WI w c σ imm) {name : Str} {v : Value} (h : valueAt σ.ks name = some v) : ∃ j, SymAt w imm v j name := by
  obtain ⟨i, hi⟩ := valueAt_mem h
  exact ⟨_, H.syms i _ _ hi⟩
theorem SymsAre.handed {w : World} {imm : List (Addr × Obj)} : ∀ {vs : List Value} {ss : List Str}, SymsAre w imm vs ss → ∀ x ∈ vs, handedIn x = true
  | [], [], _, _, h => nomatch h
  | v :: _, _ :: _, ⟨⟨_, a, e, _⟩, r⟩, x, h => by
    rcases List.mem_cons.mp h with rfl | h
    · subst e; rfl
    · exact r.handed x h
  | [], _ :: _, h, _, _ => h.elim
  | _ :: _, [], h, _, _ => h.elim

theorem Mv.offAll {w : World} {c : Cfg} {fr : List (Addr × Obj)} {σ σ' : St} {imm rest imm' rest' : List (Addr × Obj)} (M : Mv w c fr σ imm rest σ' imm' rest') (off : Off c (fr ++ rest)) : Off c (fr ++ rest') := by
  have o2 : Off c rest' := off.right.grown M.fresh
  refine ⟨fun p hp => ?_, fun p hp => ?_, fun p hp => ?_⟩ <;> rcases List.mem_append.mp hp with hp | hp
  · exact off.1 p (List.mem_append_left _ hp)
  · exact o2.1 p hp
  · exact off.2.1 p (List.mem_append_left _ hp)
  · exact o2.2.1 p hp
  · exact off.2.2 p (List.mem_append_left _ hp)
  · exact o2.2.2 p hp

theorem drop4 {h₀ h' : Heap} {L : Addr} {a b c d : Addr × Obj} {l : List (Addr × Obj)} (N : News h₀ L h' (a :: b :: c :: d :: l)) : News h₀ L h' l := fun p hp => N p (by (first | exact sub_p hp (by regstrif_slice) | simp [hp]))

theorem put1_wi {w : World} {c : Cfg} {σ : St} {imm imm' : List (Addr × Obj)} {name : Str} {i : Nat} {v : Value} {p1 : Addr} {oP6 : Obj} (H : WI w c σ imm) (hX : σ.X = []) (hi : σ.ks[i]? = some (name, v)) (hpl : valueAt σ.pl (i : Int) = none)
    (dP6 : oP6.IsDictOf (intKind PySem.Challenge.rw_ok0061_01.row.prog w) (stored σ.pl (i : Int) (.ref p1))) (k : ∀ p ∈ imm, p ∈ imm') : WI w c ⟨σ.ks, σ.pl ++ [((i : Int), .ref p1)], σ.oN, σ.n, oP6, σ.D, [name]⟩ imm' := by
  have H' := H.mono k
  rw [stored_new hpl] at dP6
  have hlen : (σ.pl ++ [((i : Int), Value.ref p1)]).length ≤ σ.ks.length := by
    (refine el_EEAAAA (dP6) ?_; (try clear dP6); rintro es ep _ _ _ _ hn)
    have := nodup_sub_length ((σ.pl ++ [((i : Int), Value.ref p1)]).map (·.1)) ((List.range σ.ks.length).map Int.ofNat) hn (fun x hx => by
      (refine el_EA (List.mem_map.mp hx) ?_; rintro p hp rfl)
      rcases List.mem_append.mp hp with hp | hp
      · have := H.plk p hp
        exact List.mem_map.mpr ⟨p.1.toNat, List.mem_range.mpr (by omega), Int.toNat_of_nonneg (by omega)⟩
      · rw [List.mem_singleton.mp hp]
        exact List.mem_map.mpr ⟨i, List.mem_range.mpr (List.getElem?_eq_some_iff.mp hi).1, rfl⟩)
    simpa using this
  exact { wo := H'.wo, oo := H'.oo, co := H'.co, dN := H'.dN, dP := dP6, loN := H'.loN, loP := H'.loP, ne := H'.ne, syms := H'.syms, uni := H'.uni, nil0 := H'.nil0, t1 := H'.t1, Dk := H'.Dk, Du := H'.Du
          pn := by have := H.klen; dsimp only; omega
          plk := fun p hp => by
            rcases List.mem_append.mp hp with hp | hp
            · exact H.plk p hp
            · rw [List.mem_singleton.mp hp]
              have := (List.getElem?_eq_some_iff.mp hi).1
              dsimp only
              omega
          pls := fun j s' v' e hx => by
            have hs : s' ≠ name := fun q => hx (by simp [q])
            have hj : j ≠ i := by
              rintro rfl
              have e' : σ.ks[j]? = some (s', v') := e
              rw [hi] at e'
              cases e'
              exact hs rfl
            have := H'.pls j s' v' e (by rw [hX]; (first | regstrif_fact | simp))
            have hv : valueAt (σ.pl ++ [((i : Int), Value.ref p1)]) (j : Int) = valueAt σ.pl (j : Int) := by
              rw [valueAt_append]
              have : valueAt [((i : Int), Value.ref p1)] (j : Int) = none := valueAt_none fun p hp => by
                rw [List.mem_singleton.mp hp]; dsimp only; omega
              rw [this, Option.or_none]
            rw [hv]; exact this }
theorem lookup_app {α : Type} (xs ys : List (Str × α)) (k : Str) : (xs ++ ys).lookup k = (xs.lookup k).or (ys.lookup k) := by
  induction xs with
  | nil => rfl
  | cons p r ih =>
    obtain ⟨a, b⟩ := p
    rw [List.cons_append, List.lookup_cons, List.lookup_cons]
    cases k == a with
    | true => rfl
    | false => exact ih
theorem def_wi {w : World} {c : Cfg} {σ : St} {imm imm' : List (Addr × Obj)} {name : Str} {i : Nat} {v : Value} {p1 : Addr} {acc : List Str} (H : WI w c σ imm) (hX : σ.X = [name]) (hDn : σ.D.lookup name = none) (hi : σ.ks[i]? = some (name, v)) (hnd : (σ.ks.map (·.1)).Nodup)
    (hpl : valueAt σ.pl (i : Int) = some (.ref p1)) (k : ∀ p ∈ imm, p ∈ imm') (hP : PlAt w imm' σ.ks p1 acc) (ha : acc ≠ [] ∧ acc.Nodup ∧ ∀ x ∈ acc, x ∈ uni2) :
    WI w c ⟨σ.ks, σ.pl, σ.oN, σ.n, σ.oP, σ.D ++ [(name, acc)], []⟩ imm' := by
  have H' := H.mono k
  exact { wo := H'.wo, oo := H'.oo, co := H'.co, dN := H'.dN, dP := H'.dP, loN := H'.loN, loP := H'.loP, ne := H'.ne, syms := H'.syms, uni := H'.uni, nil0 := H'.nil0, t1 := H'.t1, pn := H'.pn, plk := H'.plk
          Dk := fun p hp => by
            rcases List.mem_append.mp hp with hp | hp
            · exact H.Dk p hp
            · rw [List.mem_singleton.mp hp]
              exact List.mem_map.mpr ⟨_, List.mem_of_getElem? hi, rfl⟩
          Du := fun p hp => by
            rcases List.mem_append.mp hp with hp | hp
            · exact H.Du p hp
            · rw [List.mem_singleton.mp hp]; exact ha
          pls := fun j s' v' e _ => by
            by_cases hs : s' = name
            · subst hs
              have hij : j = i := by
                have e1 : (σ.ks.map (·.1))[j]? = some s' := by rw [List.getElem?_map]; have e' : σ.ks[j]? = some (s', v') := e; rw [e']; rfl
                have e2 : (σ.ks.map (·.1))[i]? = some s' := by rw [List.getElem?_map, hi]; rfl
                exact (List.getElem?_inj (List.getElem?_eq_some_iff.mp e1).1 hnd).mp (e1.trans e2.symm)
              subst hij
              have hl : (σ.D ++ [(s', acc)]).lookup s' = some acc := by rw [lookup_app, hDn]; simp [List.lookup_cons]
              refine ⟨fun h => ?_, fun names hn => ?_⟩
              · rw [hl] at h; cases h
              · rw [hl] at hn; cases hn; exact ⟨p1, hpl, hP⟩
            · have := H'.pls j s' v' e (by rw [hX]; simpa using hs)
              have hl : (σ.D ++ [(name, acc)]).lookup s' = σ.D.lookup s' := by
                rw [lookup_app]
                have : [(name, acc)].lookup s' = none := by
                  rw [List.lookup_cons]
                  have : (s' == name) = false := by simpa using hs
                  rw [this]; rfl
                rw [this, Option.or_none]
              rw [hl]; exact this }
theorem WI.knd {w : World} {c : Cfg} {σ : St} {imm : List (Addr × Obj)} (H : WI w c σ imm) : (σ.ks.map (·.1)).Nodup := by
  (refine el_EEAAAA (H.dN) ?_; rintro es ep _ _ _ _ hn)
  exact hn

theorem Off.sub {c : Cfg} {l l' : List (Addr × Obj)} (h : Off c l) (k : ∀ p ∈ l', p ∈ l) : Off c l' := ⟨fun p hp => h.1 p (k p hp), fun p hp => h.2.1 p (k p hp), fun p hp => h.2.2 p (k p hp)⟩

theorem sym_ne {h₀ h : Heap} {L a a' d d' : Addr} {nl : List (Addr × Obj)} {w : World} {t1 t2 t3 t4 t1' t2' t3' t4' : Tok} {i i' : Int} {s s' : Str} (N : News h₀ L h nl) (h1 : (a, instObj 72 d) ∈ nl) (h2 : (d, dictOf [ent w "number" t1 (.int i t3), ent w "name" t2 (.str s t4)] 2) ∈ nl)
    (h3 : (a', instObj 72 d') ∈ nl) (h4 : (d', dictOf [ent w "number" t1' (.int i' t3'), ent w "name" t2' (.str s' t4')] 2) ∈ nl) (hs : s ≠ s') : @Ne Nat a a' := by
  rintro rfl
  have e1 := Option.some.inj ((N _ h1).1.symm.trans (N _ h3).1)
  have e2 := Option.some.inj (congrArg Obj.dict e1)
  subst e2
  have e3 := dict2_inj (Option.some.inj ((N _ h2).1.symm.trans (N _ h4).1))
  injection e3.2 with e4 _
  exact hs e4
structure Dn (w : World) (c : Cfg) (fr : List (Addr × Obj)) (σ : St) (imm rest : List (Addr × Obj)) (name : Str) (acc : List Str) (σ' : St) (imm' rest' : List (Addr × Obj)) : Prop where
  sub : ∀ p ∈ imm, p ∈ imm'
  hs : ∀ p ∈ imm', p ∈ rest'
  subr : ∀ p ∈ rest, p ∈ rest'
  fresh : ∀ p ∈ rest', p ∈ rest ∨ ∀ q ∈ mutL c σ ++ (fr ++ rest), @Ne Nat q.1 p.1
  H : WI w c σ' imm'
  X : σ'.X = []
  D : σ'.D = σ.D ++ [(name, acc)]
  K : ∃ t, σ'.ks = σ.ks ++ t
section
variable {w : World} {A : Around} {E : Value → Shared → Prop} {s : Shared} {h₀ : Heap} {L d : Addr} {o : Obj} {m : Str → Option Value} {news : List (Addr × Obj)} {t : Tok} {dflt v : Value} {x : Option Value}
theorem gm_s {kvs : List (Str × Value)} {pl : Sem Bool} {Q : Value × List Value → Shared → Prop} (N : News h₀ L s.heap news) (hp : (d, o) ∈ news) (hd : o.IsDictOf (strKind PySem.Challenge.rw_ok0061_01.row.prog w) kvs) (h : Q (.builtin "dict.get", [.ref d]) s) : wpAny (model PySem.Challenge.rw_ok0061_01.row.prog w) A (getMethod (.ref d) (Str.ofString "get") pl) Q E s := kdg_method N hp hd h
theorem gm_i {kvs : List (Int × Value)} {pl : Sem Bool} {Q : Value × List Value → Shared → Prop} (N : News h₀ L s.heap news) (hp : (d, o) ∈ news) (hd : o.IsDictOf (intKind PySem.Challenge.rw_ok0061_01.row.prog w) kvs) (h : Q (.builtin "dict.get", [.ref d]) s) : wpAny (model PySem.Challenge.rw_ok0061_01.row.prog w) A (getMethod (.ref d) (Str.ofString "get") pl) Q E s := kdg_method N hp hd h
theorem dg_s {k : Str} {kvs : List (Str × Value)} {Q : Value → Shared → Prop} (N : News h₀ L s.heap news) (hp : (d, o) ∈ news) (hd : o.IsDictOf (strKind PySem.Challenge.rw_ok0061_01.row.prog w) kvs) (lo : (d == sysModules) = false) (hl : valueAt kvs k = x) (h : Q (x.getD dflt) { s with toks := s.toks + 1 }) : wpAny (model PySem.Challenge.rw_ok0061_01.row.prog w) A (call (.builtin "dict.get") [.ref d, .str k t, dflt]) Q E s := kdg_get2 N hp hd lo (strKind_is _ _ _ _) x hl h
theorem dg_i {k : Int} {kvs : List (Int × Value)} {Q : Value → Shared → Prop} (N : News h₀ L s.heap news) (hp : (d, o) ∈ news) (hd : o.IsDictOf (intKind PySem.Challenge.rw_ok0061_01.row.prog w) kvs) (lo : (d == sysModules) = false) (hl : valueAt kvs k = x) (h : Q (x.getD dflt) { s with toks := s.toks + 1 }) : wpAny (model PySem.Challenge.rw_ok0061_01.row.prog w) A (call (.builtin "dict.get") [.ref d, .int k t, dflt]) Q E s := kdg_get2 N hp hd lo (intKind_is _ _ _ _) x hl h
theorem ks_s {k : Str} {kvs : List (Str × Value)} {g : Obj → List (Addr × Obj)} {Q : Unit → Shared → Prop} (F : Fr h₀ L s.heap m) (N : News h₀ L s.heap news) (U : UpdF d o news g) (hd : o.IsDictOf (strKind PySem.Challenge.rw_ok0061_01.row.prog w) kvs) (hsz : kvs.length ≤ sizeLine)
    (h : ∀ h' o', Fr h₀ L h' m → News h₀ L h' (g o') → o'.IsDictOf (strKind PySem.Challenge.rw_ok0061_01.row.prog w) (stored kvs k v) → Q () { s with heap := h', toks := s.toks + 1 }) : wpAny (model PySem.Challenge.rw_ok0061_01.row.prog w) A (setItem (.ref d) (.str k t) v) Q E s := kda_set F N U hd (strKind_is _ _ _ _) hsz h
theorem ks_i {k : Int} {kvs : List (Int × Value)} {g : Obj → List (Addr × Obj)} {Q : Unit → Shared → Prop} (F : Fr h₀ L s.heap m) (N : News h₀ L s.heap news) (U : UpdF d o news g) (hd : o.IsDictOf (intKind PySem.Challenge.rw_ok0061_01.row.prog w) kvs) (hsz : kvs.length ≤ sizeLine)
    (h : ∀ h' o', Fr h₀ L h' m → News h₀ L h' (g o') → o'.IsDictOf (intKind PySem.Challenge.rw_ok0061_01.row.prog w) (stored kvs k v) → Q () { s with heap := h', toks := s.toks + 1 }) : wpAny (model PySem.Challenge.rw_ok0061_01.row.prog w) A (setItem (.ref d) (.int k t) v) Q E s := kda_set F N U hd (intKind_is _ _ _ _) hsz h
theorem kd_it {k : Str} {kvs : List (Str × Value)} {value slice : PySem.Expr} {Q : Value → Shared → Prop} (N : News h₀ L s.heap news) (hp : (d, o) ∈ news) (hd : o.IsDictOf (strKind PySem.Challenge.rw_ok0061_01.row.prog w) kvs) (hl : valueAt kvs k = some v) (h : Q v { s with toks := s.toks + 1 })
    (hs : subscripted slice false (.ref d) (.str k t) = operate [.ref d, .str k t] (getItem (.ref d) (.str k t)) := by with_unfolding_all rfl) (hg : ∀ r, letTemporaryGo value (.ref d) r = pure () := by intro _; with_unfolding_all rfl) :
    wpAny (model PySem.Challenge.rw_ok0061_01.row.prog w) A (subscriptTail value slice (.ref d) (.str k t)) Q E s := kda_item N hp hd (strKind_is _ _ _ _) hl h hs hg
theorem inK {K : Frag} {h : Heap} (X : K.In h₀) (F : Fr h₀ L h m) : K.In h := Frag.In.keeps X F.keep
end
theorem szl {n : Nat} (h : n ≤ 1000) : n ≤ sizeLine := Nat.le_trans h (by rw [sizeLine_eq]; omega)
theorem len_st {K : Type} [DecidableEq K] {xs : List (K × Value)} {k : K} {v : Value} {n : Nat} (h : xs.length ≤ n) : (stored xs k v).length ≤ n + 1 := Nat.le_trans (stored_length xs k v) (Nat.succ_le_succ h)
def heldAt (a : Nat) : Bool := [48, 55, 133, 147, 152, 157, 162, 169, 174, 181, 186, 193, 270, 298, 494, 518, 533, 540, 547, 552, 559].contains a
section
variable {M : Model} {A : Around} {env : Env} {E : Value → Shared → Prop} {s : Shared} {F : Flow → Shared → Prop} {Q : Value → Shared → Prop} {r : List Stmt}
theorem hold_call {a : Addr} {vs : List Value} (_h : heldAt a = true) (k : Hold (wpAny M A (call (.ref a) vs) Q E s)) : wpAny M A (call (.ref a) vs) Q E s := k
theorem hold_if {a b c d} (k : Hold (wpAny M A (execs (Stmt.If a b c d :: r) env) F E s)) : wpAny M A (execs (Stmt.If a b c d :: r) env) F E s := k
theorem hold_for {a b c d e} (k : Hold (wpAny M A (execs (Stmt.For a b c d e :: r) env) F E s)) : wpAny M A (execs (Stmt.For a b c d e :: r) env) F E s := k
theorem hold_sub {a b c d e} (k : Hold (wpAny M A (execs (Stmt.Assign [.Subscript a b c] d e :: r) env) F E s)) : wpAny M A (execs (Stmt.Assign [.Subscript a b c] d e :: r) env) F E s := k
theorem hold_lc {a b c d e f} (k : Hold (wpAny M A (execs (Stmt.Assign a (Expr.ListComp b c d f) e :: r) env) F E s)) : wpAny M A (execs (Stmt.Assign a (Expr.ListComp b c d f) e :: r) env) F E s := k
theorem hold_ca {a b c d e f} (k : Hold (wpAny M A (execs (Stmt.Assign a (Expr.Call b c d e) f :: r) env) F E s)) : wpAny M A (execs (Stmt.Assign a (Expr.Call b c d e) f :: r) env) F E s := k
end
end
section
section
open LCg
variable {prog : Program} {w : World} {A : Around} {E : Value → Shared → Prop} {s : Shared} {h₀ : Heap} {L : Addr} {m : Str → Option Value} {env : Env}
def SrcS (prog : Program) (w : World) (A : Around) (h₀ : Heap) (L : Addr) (m : Str → Option Value) (env : Env) (elt : Expr) (x : Str) (scope : Scope) (cl : List (Str × Addr)) (Fin : Shared → List Value → List (Addr × Obj) → Prop) (xv : Value) (s₁ : Shared) : Prop :=
  ∃ y t news, xv = .str y t ∧ A.handled = none ∧ Fr h₀ L s₁.heap m ∧ News h₀ L s₁.heap news ∧ (y.cps.all (· < 128)) = true ∧ y.cps.size ≤ sizeLine ∧
    ∀ s₂ : Shared, (∃ h, s₂ = { s₁ with heap := h }) → CompRest prog w A h₀ L m env elt x scope cl s₂ (fun _ => True) (SignAt y) (Fin s₂) y.cps.size 0 [] news
theorem str_st {I : Addr} {y : Str} {t : Tok} : ∀ i (h h' : Heap) (o : Obj) (nw : List (Addr × Obj)), h.IsStrIter I "str_ascii_iterator" y t i → h.get? I = some o → h'.get? I = some o → (∀ b o, h₀.get? b = some o → h'.get? b = some o) → News h₀ L h' nw → True → h'.IsStrIter I "str_ascii_iterator" y t i :=
  fun i h h' o nw st e e' _ _ _ => by
    (refine el_EA (st) ?_; (try clear st); rintro o' q r)
    rw [e] at q; cases q
    exact ⟨o, e', r⟩
theorem ListComp_S {elt iter : Expr} {x : Str} {px : Pos} {scope : Scope} {cl : List (Str × Addr)} {pos : Pos} {Q : Value → Shared → Prop} (_F₀ : Fr h₀ L s.heap m)
    (hclos : closureFor scope env = pure cl) (hcell : ∀ y ∈ scope.names, y.2 ≠ .cell) (hkind : scope.kind = .function)
    (hnames : ∀ y ∈ scope.names, y.2 = .local → scope.names.lookup y.1 = some .local) (hx : scope.names.lookup x = some .local)
    (h : wpAny (model prog w) A (eval iter env) (SrcS prog w A h₀ L m env elt x scope cl (fun s₂ => FinE h₀ L m s₂ Q)) E s)
    (hs : ∀ x, foldedSetIterable iter env x = pure x := by intro _; rfl) :
    wpAny (model prog w) A (eval (.ListComp elt [⟨.Name x px, iter, [], 0⟩] scope pos) env) Q E s := by
  rw [eval_ListComp]
  refine wpAny_comprehension_free (use := none) rfl hs hclos hkind hnames (wpAny_mono h (fun xv s₁ h₁ => ?_) fun _ _ e => e)
  (refine el_EEEAAAAAA (h₁) ?_; (try clear h₁); rintro y t news rfl hh F N ha hsz R)
  refine wpAny_pyIter_ascii ha ?_
  refine block_U (Walks.strAscii hh _ y t) hsz (fun i h st => by (refine el_EA (st) ?_; (try clear st); rintro o e _); exact ⟨o, e⟩) str_st hcell hkind hx ⟨_, Heap.get?_push_size _ rfl, rfl, rfl⟩ (fun b hb => ?_)
    (F.keeps fun _ _ e => Heap.get?_push_of_some _ e) (N.grown fun _ _ e => Heap.get?_push_of_some _ e) (Nat.ne_of_lt F.ns.lt) (next_is_new F) (fun p hp => Nat.ne_of_lt (Heap.lt_size (N p hp).1)) trivial (R _ ⟨_, rfl⟩) ?_
  · rw [List.mem_singleton.mp hb]
    show s₁.heap.objs.size < (s₁.heap.push _).objs.size
    rw [Heap.size_push]; exact Nat.lt_succ_self _
  · intro D C h tk m' ys news' F' N' o1 hn hC₀ hD₀ hCL hDL hCD offC fin
    refine ⟨m', hn, fun h'' hs'' => fin D h'' tk (F'.change hs'' hCL hC₀) (fun p hp => ?_) o1⟩
    refine ⟨hs''.extBut _ _ ?_ (N' p hp).1, (N' p hp).2⟩
    rcases List.mem_cons.mp hp with rfl | hp
    · exact Ne.symm hCD
    · exact offC p hp
end

def AddsN (news : List (Addr × Obj)) (Ex : Value → List (Addr × Obj) → Prop) (v : Value) (news' : List (Addr × Obj)) : Prop :=
  ∃ tl, news' = tl ++ news ∧ (∀ p ∈ tl, ∀ q ∈ news, @Ne Nat q.1 p.1) ∧ Ex v tl
theorem ints_snoc {ys : List Value} {ns : List Int} (h : IntsAre ys ns) (n : Int) (t : Tok) : IntsAre (ys ++ [.int n t]) (ns ++ [n]) := by
  induction h with
  | nil => exact .cons n t .nil
  | cons k u _ ih => exact .cons k u ih
theorem ints_take {ys : List Value} {l : List Nat} {i : Nat} {c : Nat} (h : IntsAre ys ((l.take i).map Int.ofNat)) (e : l[i]? = some c) (t : Tok) : IntsAre (ys ++ [.int (Int.ofNat c) t]) ((l.take (i + 1)).map Int.ofNat) := by
  rw [List.take_add_one, e, List.map_append]
  exact ints_snoc h _ _
def TextAt (w : World) (tl : List (Addr × Obj)) (v : Value) (cs : List Int) : Prop :=
  ∃ x d t1 t2 lc k vs, v = .ref x ∧ (x, instObj 121 d) ∈ tl ∧ (d, dictOf [ent w "codes" t1 (.ref lc), ent w "spans" t2 .none] 2) ∈ tl ∧ (lc, listOf vs.toArray k) ∈ tl ∧ IntsAre vs cs

theorem addsN_use {w : World} {f : Addr} {r u : Nat} {vs : List Value} {news : List (Addr × Obj)} {dp un : Nat} {gd : Option (List Code)} {cn : Str} {cs : Scope} {a : Addr} {ccd : Value} {cl : List (Str × Addr)} {outer : List Env} {A₀ : Around} {base h₀ : Heap} {L : Addr} {m : Str → Option Value}
    {mean : ExcName → Option Value} {mg mb : Str → Option Value} {s : Shared} {Q E : Value → Shared → Prop} {Ex : Value → List (Addr × Obj) → Prop} (C : Does w f r u vs news (AddsN news Ex)) (B : Below A₀ base outer h₀) (F : Fr h₀ L s.heap m) (X : (hdz.heap_1 w.params).In h₀) (N : News h₀ L s.heap news) (T : Top hdz.view_1 lse mean mg mb h₀) (hk : cs.kind = .function)
    (hd : dp + r < recursionLimit) (hu : un + u < cLine)
    (ret : ∀ v tl h' tk', Fr h₀ L h' m → News h₀ L h' (tl ++ news) → (∀ p ∈ tl, ∀ q ∈ news, @Ne Nat q.1 p.1) → Ex v tl → Q v { s with heap := h', toks := tk' }) :
    wpAny (model PySem.Challenge.rw_ok0061_01.row.prog w) (ktrTop dp un gd cn cs L a ccd cl outer) (call (.ref f) vs) Q E s :=
  does_use C B F X N T hk hd hu fun v news' h' tk' F' N' ⟨tl, e, h1, h2⟩ => ret v tl h' tk' F' (e ▸ N') h1 h2
end
section
section
variable {prog : Program} {w : World} {A : Around} {E : Value → Shared → Prop} {s : Shared} {h₀ : Heap} {L : Addr} {m : Str → Option Value} {news : List (Addr × Obj)} {Q : Value → Shared → Prop}
theorem sort_strs_at {D : Addr} {vs : List Value} {ss : List Str} {n : Nat} (F : Fr h₀ L s.heap m) (N : News h₀ L s.heap ((D, listOf vs.toArray n) :: news)) (hne : ∀ p ∈ news, p.1 ≠ D) (hS : StrsAre vs ss) (h64 : vs.length < 64)
    (h : ∀ h' vs' ss' e, Fr h₀ L h' m → News h₀ L h' ((D, listOf vs'.toArray e) :: news) → StrsAre vs' ss' → ss'.Perm ss → Q .none { s with heap := h' }) : wpAny (model prog w) A (call (.builtin "list.sort") [.ref D]) Q E s := by
  have z := N _ List.mem_cons_self
  have ho : s.heap.get? D = some (seqObj "list" vs.toArray n) := z.1
  have hDL : @Ne Nat D L := z.2.1
  have hD0 : h₀.get? D = none := z.2.2
  refine wpAny_call_entry PyProof.Rows.slot_list_sort ⟨_, z.1, rfl⟩ PyProof.Rows.entry_list_sort (list_sort_treeK PyProof.Rows.strKind_oneLt ho hS.keysOf (fun v₁ v₂ rest e => keyKind_strs (by rw [← e]; exact hS)) h64 fun st' hp hs => ⟨.none, rfl, ?_⟩) (PyProof.Rows.args_list_sort _)
  (refine el_EAA (sorted_out_str hS hp hs) ?_; rintro ss' h1 h2 h3)
  have old : ∀ b o, b ≠ D → s.heap.get? b = some o → (sortedHeap s.heap D vs ((arrOf st').map (·.2))).get? b = some o := fun b o hb e => (sortedHeap_old hb (Heap.lt_size e)).trans e
  obtain ⟨e, he⟩ := sortedHeap_at (out := (arrOf st').map (·.2)) ho
  refine h _ ((arrOf st').map (·.2)).toList ss' e ⟨F.ns.at' fun o e => old _ _ (Ne.symm hDL) e, fun b o e => old b o (fun q => by rw [q, hD0] at e; cases e) (F.keep b o e), F.above⟩ (fun p hp => ?_) h1 h2
  rcases List.mem_cons.mp hp with rfl | hp
  · exact ⟨by rw [Array.toArray_toList]; exact he, z.2⟩
  · exact ⟨old _ _ (hne p hp) (N p (List.mem_cons_of_mem _ hp)).1, (N p (List.mem_cons_of_mem _ hp)).2⟩
theorem keys_strs {kvs : List (Str × Value)} {vs : List Value} (hl : vs.length = kvs.length) (hv : ∀ (j : Nat) (v : Value), vs[j]? = some v → ∃ k x, kvs[j]? = some (k, x) ∧ (PySem.strKind prog w).is k v = true) : StrsAre vs (kvs.map (·.1)) := by
  induction vs generalizing kvs with
  | nil => cases kvs with
    | nil => exact .nil
    | cons _ _ => simp at hl
  | cons v r ih =>
    cases kvs with
    | nil => simp at hl
    | cons p kvs =>
      (refine el_EEA (hv 0 v rfl) ?_; rintro k x hx hk)
      simp at hx
      subst hx
      obtain ⟨t, rfl⟩ := Value.isStrOf_shape hk
      exact .cons _ _ (ih (by simpa using hl) fun j v e => by simpa using hv (j + 1) v (by simpa using e))
theorem sorted_dict {d : Addr} {o : Obj} {kvs : List (Str × Value)} (hh : A.handled = none) (F : Fr h₀ L s.heap m) (N : News h₀ L s.heap news) (hm : (d, o) ∈ news) (hd : o.IsDictOf (PySem.strKind prog w) kvs) (lo : (d == sysModules) = false) (hn : kvs.length < 64)
    (h : ∀ D vs ss h' tk e, Fr h₀ L h' m → News h₀ L h' ((D, listOf vs.toArray e) :: news) → (∀ q ∈ news, q.1 < D) → StrsAre vs ss → ss.Perm (kvs.map (·.1)) → Q (.ref D) { s with heap := h', toks := tk }) :
    wpAny (model prog w) A (call (.builtin "sorted") [.ref d]) Q E s := by
  obtain ⟨ep, hat⟩ := (kda_dict N hm hd).dictAt
  refine kdu_sorted (kdl_dict (knd := PySem.strKind prog w) (kvs := kvs) (ep := ep) lo) hh F N hat (by rw [sizeLine_eq]; omega) fun D h' tk vs F' N' l1 hl hv => ?_
  have hS : StrsAre vs (kvs.map (·.1)) := keys_strs hl hv
  exact sort_strs_at F' N' (fun p hp => Nat.ne_of_lt (l1 p hp)) hS (by omega) fun h'' vs' ss' e F'' N'' a b => h D vs' ss' h'' tk e F'' N'' l1 a b
end
end
section
/-- how a loop's turns stand -/
inductive LInvT (h₀ : Heap) (L : Addr) (wr : List Addr) (n : Nat) (St : Nat → Heap → Prop) (J : Nat → (Str → Option Value) → List (Addr × Obj) → Prop) (s : Shared) (k : Nat) (s' : Shared) : Prop
  | mk (h' : Heap) (tk : Tok) (m' : Str → Option Value) (news' : List (Addr × Obj)) (i : Nat) (e : s' = { s with heap := h', toks := tk }) (hst : St i h') (F : Fr h₀ L h' m') (N : News h₀ L h' news') (hnw : ∀ p ∈ news', p.1 ∉ wr) (hJ : J i m' news') (hi : i ≤ n) (hk : k = n + 1 - i) : LInvT h₀ L wr n St J s k s'
section
variable {prog : Program} {w : World} {A : Around} {s : Shared} {env : Env} {h₀ : Heap}
theorem codeAny_forLoop_T {R : Result → Shared → Prop} {x : Str} {px : Pos} {body : List Stmt} {I : Addr} {fp wr : List Addr} {n : Nat} {P : Nat → Value → Prop} {St : Nat → Heap → Prop} {m : Str → Option Value}
    {news : List (Addr × Obj)} (W : Walks prog w A I fp wr n P St)
    (hLf : env.locals ∉ fp) (hwr : ∀ b ∈ wr, h₀.get? b = none) (hnw : ∀ p ∈ news, p.1 ∉ wr)
    (hst : St 0 s.heap) (F : Fr h₀ env.locals s.heap m) (N : News h₀ env.locals s.heap news)
    (J : Nat → (Str → Option Value) → List (Addr × Obj) → Prop) (h0 : J 0 m news)
    (step : ∀ i v m₁ news₁ s₁ own, (∃ h tk, s₁ = { s with heap := h, toks := tk }) → i < n → P i v → J i m₁ news₁ → (∀ p ∈ news₁, p.1 ∉ wr) → (∀ p ∈ own, p.1 ∈ fp) → (∀ p ∈ own, s₁.heap.get? p.1 = some p.2) → (∀ b ∈ fp, h₀.get? b = none → ∀ o, s₁.heap.get? b = some o → (b, o) ∈ own) → St (i + 1) s₁.heap →
      Fr h₀ env.locals s₁.heap m₁ → News h₀ env.locals s₁.heap (own ++ news₁) →
      wpAny (model prog w) A (storeName env x v) (fun _ s₂ => wpAny (model prog w) A (execs body env) (LoopStepV h₀ env.locals wr own (J (i + 1)) s₁ (fun v s' => R (.ok (.ret v)) s') fun s' => R (.ok .next) s') (notedBy (model prog w) A env fun e s' => R (.error e) s') s₂) (notedBy (model prog w) A env fun e s' => R (.error e) s') s₁)
    (hR : ∀ h' tk m' news', Fr h₀ env.locals h' m' → News h₀ env.locals h' news' → (∀ p ∈ news', p.1 ∉ wr) → J n m' news' → R (.ok .next) { s with heap := h', toks := tk }) :
    codeAny (model prog w) A (.forLoop (.Name x px) (.ref I) body [] env) R s := by
  have hLw : env.locals ∉ wr := fun h => hLf (W.sub _ h)
  have old : ∀ b o, h₀.get? b = some o → b ∉ wr := fun b o e hb => by rw [hwr b hb] at e; cases e
  refine codeAny_forLoop
    (LInvT h₀ env.locals wr n St J s) ?_ (n + 1)
    ⟨s.heap, s.toks, m, news, 0, rfl, hst, F, N, hnw, h0, Nat.zero_le _, rfl⟩
  rintro k s' ⟨h', tk, m', news', i, rfl, hst', F', N', hnw', hJ, hi, rfl⟩
  have next : ∀ h₁ : Heap, (∀ b o, b ∉ wr → h'.get? b = some o → h₁.get? b = some o) → Fr h₀ env.locals h₁ m' ∧ News h₀ env.locals h₁ news' := fun h₁ hk₁ =>
    ⟨⟨F'.ns.at' fun o e => hk₁ _ o hLw e, fun b o e => hk₁ b o (old b o e) (F'.keep b o e), F'.above⟩, fun p hp => ⟨hk₁ _ _ (hnw' p hp) (N' p hp).1, (N' p hp).2⟩⟩
  by_cases hlt : i < n
  · refine W.item i _ _ _ hlt hst' fun v h₁ tk₁ hP hst₁ hk₁ => ?_
    obtain ⟨F₁, N₁⟩ := next h₁ hk₁
    have Nown : News h₀ env.locals h₁ (ownOf h₀ fp h₁) := news_ownOf hLf
    refine wpAny_assign_Name (wpAny_mono (step i v m' news' _ (ownOf h₀ fp h₁) ⟨_, _, rfl⟩ hlt hP hJ hnw' ownOf_sub (fun p hp => (Nown p hp).1) (fun b hb hn o e => mem_ownOf hb hn e) hst₁ F₁ (Nown.append N₁)) (fun _ s₂ h₂ => wpAny_mono h₂ (fun f s₃ h₃ => ?_) fun _ _ e => e) fun _ _ e => e)
    have fin : LoopStepU h₀ env.locals wr (ownOf h₀ fp h₁) (J (i + 1)) { s with heap := h₁, toks := tk₁ } .next s₃ → ∃ m_1, m_1 < n + 1 - i ∧ LInvT h₀ env.locals wr n St J s m_1 s₃ := by
      rintro ⟨_, h₃', tk₃, m₂, news₂, rfl, F₃, N₃, ha₃, hJ₃⟩
      refine ⟨n + 1 - (i + 1), by omega, h₃', tk₃, m₂, news₂, i + 1, rfl, ?_, F₃, N₃.right, ha₃, hJ₃, hlt, rfl⟩
      refine W.frame _ _ _ hst₁ fun b hb o e => ?_
      cases hn : h₀.get? b with
      | some o₀ =>
        have : o₀ = o := by have := F₁.keep b o₀ hn; rw [e] at this; exact (Option.some.inj this).symm
        exact this ▸ F₃.keep b o₀ hn
      | none => exact (N₃ _ (List.mem_append_left _ (mem_ownOf hb hn e))).1
    cases f with
    | ret v => exact h₃
    | brk => exact h₃
    | cont => exact fin h₃
    | next => exact fin h₃
  · have hin : i = n := by omega
    subst hin
    refine W.done _ _ _ hst' fun h₁ tk₁ hk₁ => wpAny_execs_nil ?_
    obtain ⟨F₁, N₁⟩ := next h₁ hk₁
    exact hR h₁ tk₁ m' news' F₁ N₁ hnw' hJ

inductive LoopAtT (prog : Program) (w : World) (A : Around) (h₀ : Heap) (env : Env) (x : Str) (body : List Stmt) (Q : Flow → Shared → Prop) (E : Value → Shared → Prop) (it : Value) (s₂ : Shared) : Prop
  | mk (I : Addr) (fp wr : List Addr) (n : Nat) (P : Nat → Value → Prop) (St : Nat → Heap → Prop) (m : Str → Option Value) (news : List (Addr × Obj)) (J : Nat → (Str → Option Value) → List (Addr × Obj) → Prop)
    (e : it = .ref I) (W : Walks prog w A I fp wr n P St) (hLf : env.locals ∉ fp) (hwr : ∀ b ∈ wr, h₀.get? b = none) (hnw : ∀ p ∈ news, p.1 ∉ wr) (hst : St 0 s₂.heap) (F : Fr h₀ env.locals s₂.heap m) (N : News h₀ env.locals s₂.heap news) (h0 : J 0 m news)
    (step : ∀ i v m₁ news₁ s₁ own, (∃ h tk, s₁ = { s₂ with heap := h, toks := tk }) → i < n → P i v → J i m₁ news₁ → (∀ p ∈ news₁, p.1 ∉ wr) → (∀ p ∈ own, p.1 ∈ fp) → (∀ p ∈ own, s₁.heap.get? p.1 = some p.2) → (∀ b ∈ fp, h₀.get? b = none → ∀ o, s₁.heap.get? b = some o → (b, o) ∈ own) → St (i + 1) s₁.heap →
      Fr h₀ env.locals s₁.heap m₁ → News h₀ env.locals s₁.heap (own ++ news₁) →
      wpAny (model prog w) A (storeName env x v) (fun _ s₃ => wpAny (model prog w) A (execs body env) (LoopStepV h₀ env.locals wr own (J (i + 1)) s₁ (fun v s' => Q (.ret v) s') fun s' => Q .next s') E s₃) E s₁)
    (fin : ∀ h' tk m' news', Fr h₀ env.locals h' m' → News h₀ env.locals h' news' → (∀ p ∈ news', p.1 ∉ wr) → J n m' news' → Q .next { s₂ with heap := h', toks := tk }) : LoopAtT prog w A h₀ env x body Q E it s₂

theorem For_invT {E : Value → Shared → Prop} {Q : Flow → Shared → Prop} {x : Str} {px pos : Pos} {iter : Expr} {body : List Stmt} (h₀ : Heap)
    (h : wpAny (model prog w) A (eval iter env) (fun xv s₁ => wpAny (model prog w) A (pyIter xv) (fun it s₂ => LoopAtT prog w A h₀ env x body Q E it s₂) E s₁) E s)
    (hs : ∀ x, foldedSetIterable iter env x = pure x := by intro _; rfl)
    (hE : PassesOwn (model prog w) A env E := by passes_own) :
    wpAny (model prog w) A (exec (.For (.Name x px) iter body [] pos) env) Q E s := by
  refine wpAny_For (wpAny_mono h (fun xv s₁ h₁ => wpAny_mono h₁ (fun it s₂ h₂ => ?_) fun _ _ e => e) fun _ _ e => e) hs
  obtain ⟨I, fp, wr, n, P, St, m, news, J, rfl, W, hLf, hwr, hnw, hst, F, N, h0, step, hQ⟩ := h₂
  exact codeAny_forLoop_T (R := fun r s' => match r with | .ok f => Q f s' | .error e => cameBackBy (model prog w) A env E e s') W hLf hwr hnw hst F N J h0
    (by intros; exact wpAny_passesOwn hE (wpAny_mono (by apply step <;> assumption) (fun _ _ h => wpAny_passesOwn hE h) fun _ _ e => e)) hQ
end

section
variable {prog : Program} {w : World} {A : Around} {E : Value → Shared → Prop} {s : Shared} {env : Env} {h₀ : Heap} {x : Str} {body : List Stmt} {Q : Flow → Shared → Prop}
theorem iter_lstT {l : Addr} {its : Array Value} {k : Nat} {m : Str → Option Value} {news : List (Addr × Obj)} (J : Nat → (Str → Option Value) → List (Addr × Obj) → Prop)
    (hh : A.handled = none) (hl : (l, listOf its k) ∈ news)
    (F : Fr h₀ env.locals s.heap m) (N : News h₀ env.locals s.heap news) (h0 : J 0 m news) (keep : ∀ i m₁ news₁, J i m₁ news₁ → (l, listOf its k) ∈ news₁)
    (turn : ∀ i m₁ news₁ h tk v I oI, its[i]? = some v → J i m₁ news₁ → (∀ p ∈ news₁, p.1 ≠ I) → Fr h₀ env.locals h m₁ → News h₀ env.locals h ((I, oI) :: news₁) →
      wpAny (model prog w) A (storeName env x v) (fun _ s₃ => wpAny (model prog w) A (execs body env) (TurnEnd h₀ env.locals I oI (J (i + 1)) { s with heap := h, toks := tk } Q) E s₃) E { s with heap := h, toks := tk })
    (done : ∀ m₁ news₁ h tk, J its.size m₁ news₁ → Fr h₀ env.locals h m₁ → News h₀ env.locals h news₁ → Q .next { s with heap := h, toks := tk }) :
    wpAny (model prog w) A (pyIter (.ref l)) (fun it s₂ => LoopAtT prog w A h₀ env x body Q E it s₂) E s := by
  have hls : s.heap.IsList l its := ⟨_, (N _ hl).1, rfl, _, rfl⟩
  have hlt : l < s.heap.objs.size := Heap.lt_size (N _ hl).1
  have hne : l ≠ s.heap.objs.size := Nat.ne_of_lt hlt
  refine wpAny_pyIter_list hls ?_
  have W := Walks.list (prog := prog) (w := w) hh s.heap.objs.size l hne its
  refine ⟨_, _, _, its.size, _, _, m, news, J, rfl, W, ?_, ?_, ?_, ⟨⟨_, Heap.get?_push_size _ rfl, rfl, rfl⟩, hls.at fun o e => Heap.get?_push_of_some _ e⟩, F.push _, (fun p hp => ⟨Heap.get?_push_of_some _ (N p hp).1, (N p hp).2⟩), h0, ?_, ?_⟩
  · intro hm
    rcases List.mem_cons.mp hm with e | hm
    · exact absurd F.ns.lt (e ▸ Nat.lt_irrefl _)
    · exact (N _ hl).2.1 (List.mem_singleton.mp hm).symm
  · intro b hb
    rw [List.mem_singleton.mp hb]
    exact next_is_new F
  · intro p hp hI
    exact absurd (Heap.lt_size (N p hp).1) ((List.mem_singleton.mp hI) ▸ Nat.lt_irrefl _)
  · rintro i v m₁ news₁ s₁ own ⟨hh', tk', rfl⟩ hi hv hJ hoff hown hget hall hst F₁ N₁
    (refine el_EA (hst.1) ?_; rintro oI hI _)
    have hIo := hall s.heap.objs.size List.mem_cons_self (next_is_new F) oI hI
    have off' : ∀ p ∈ news₁, p.1 ≠ s.heap.objs.size := fun p hp e => hoff p hp (List.mem_singleton.mpr e)
    have N₂ : News h₀ env.locals hh' ((s.heap.objs.size, oI) :: news₁) := fun p hp => by
      rcases List.mem_cons.mp hp with rfl | hp
      · exact N₁ _ (List.mem_append_left _ hIo)
      · exact N₁ _ (List.mem_append_right _ hp)
    refine wpAny_mono (turn i m₁ news₁ hh' tk' v s.heap.objs.size oI hv hJ off' F₁ N₂) (fun _ s₃ h₃ => wpAny_mono h₃ (fun f s₂ p => ?_) fun _ _ e => e) fun _ _ e => e
    have fin : (∃ h' tk m' news', s₂ = { s with heap := h', toks := tk } ∧ Fr h₀ env.locals h' m' ∧ News h₀ env.locals h' ((s.heap.objs.size, oI) :: news') ∧ (∀ p ∈ news', p.1 ≠ s.heap.objs.size) ∧ J (i + 1) m' news') →
        LoopStepU h₀ env.locals [s.heap.objs.size] own (J (i + 1)) { s with heap := hh', toks := tk' } .next s₂ := by
      intro hcx; (refine el_EEEEAAAA (hcx) ?_; (try clear hcx); rintro h' tk m' news' e F' N' o' J')
      refine ⟨rfl, h', tk, m', news', e, F', fun p hp => ?_, fun p hp hq => o' p hp (List.mem_singleton.mp hq), J'⟩
      rcases List.mem_append.mp hp with hp | hp
      · have h2 := hget p hp
        rcases List.mem_cons.mp (hown p hp) with h1 | h1
        · rw [h1] at h2
          have h3 : p = (s.heap.objs.size, oI) := by
            obtain ⟨p1, p2⟩ := p
            dsimp only at h1 h2
            rw [h1]
            have : some oI = some p2 := hI.symm.trans h2
            rw [Option.some.inj this]
          rw [h3]
          exact N' _ List.mem_cons_self
        · have h1 := List.mem_singleton.mp h1
          have h3 : p = (l, listOf its k) := by
            obtain ⟨p1, p2⟩ := p
            dsimp only at h1 h2
            subst h1
            have := (N₁ _ (List.mem_append_right own (keep i m₁ news₁ hJ))).1
            exact congrArg (Prod.mk p1) (Option.some.inj (h2.symm.trans this))
          rw [h3]
          exact N' _ (List.mem_cons_of_mem _ (keep _ _ _ J'))
      · exact N' _ (List.mem_cons_of_mem _ hp)
    cases f with
    | ret v => exact .ret p
    | brk => exact .brk p
    | next => exact .next (fin p)
    | cont => exact .cont (fin p)
  · rintro h' tk m' news' F' N' _ hJ
    exact done m' news' h' tk hJ F' N'

/-- the keys of a dict of the ground -/
theorem iter_keysT {K : Type} [DecidableEq K] {knd : KeyKind prog w K} {d : Addr} {kvs : List (K × Value)} {ep : Nat} {m : Str → Option Value} {news : List (Addr × Obj)} (J : Nat → (Str → Option Value) → List (Addr × Obj) → Prop)
    (hh : A.handled = none) (lo : (d == sysModules) = false) (hd : h₀.DictAt knd d kvs ep)
    (F : Fr h₀ env.locals s.heap m) (N : News h₀ env.locals s.heap news) (h0 : J 0 m news)
    (turn : ∀ i m₁ news₁ h tk v I oI, (∃ k y, kvs[i]? = some (k, y) ∧ knd.is k v = true) → J i m₁ news₁ → (∀ p ∈ news₁, p.1 ≠ I) → Fr h₀ env.locals h m₁ → News h₀ env.locals h ((I, oI) :: news₁) →
      wpAny (model prog w) A (storeName env x v) (fun _ s₃ => wpAny (model prog w) A (execs body env) (TurnEnd h₀ env.locals I oI (J (i + 1)) { s with heap := h, toks := tk } Q) E s₃) E { s with heap := h, toks := tk })
    (done : ∀ m₁ news₁ h tk, J kvs.length m₁ news₁ → Fr h₀ env.locals h m₁ → News h₀ env.locals h news₁ → Q .next { s with heap := h, toks := tk }) :
    wpAny (model prog w) A (pyIter (.ref d)) (fun it s₂ => LoopAtT prog w A h₀ env x body Q E it s₂) E s := by
  have hds : s.heap.DictAt knd d kvs ep := hd.at' fun o e => F.keep d o e
  obtain ⟨od, hod⟩ : ∃ o, h₀.get? d = some o := by (refine el_EEA (hd) ?_; (try clear hd); rintro o es ho _); exact ⟨o, ho⟩
  have hlt : d < s.heap.objs.size := Heap.lt_size (F.keep d od hod)
  have hne : d ≠ s.heap.objs.size := Nat.ne_of_lt hlt
  refine wpAny_pyIter_dict lo hds ?_
  have W := Walks.dictKeys (prog := prog) (w := w) (knd := knd) hh s.heap.objs.size d hne kvs ep
  refine ⟨_, _, _, kvs.length, _, _, m, news, J, rfl, W, ?_, ?_, ?_, ⟨⟨_, Heap.get?_push_size _ rfl, rfl, rfl⟩, hds.at' fun o e => Heap.get?_push_of_some _ e⟩, F.push _, (fun p hp => ⟨Heap.get?_push_of_some _ (N p hp).1, (N p hp).2⟩), h0, ?_, ?_⟩
  · intro hm
    rcases List.mem_cons.mp hm with e | hm
    · exact absurd F.ns.lt (e ▸ Nat.lt_irrefl _)
    · have : h₀.get? env.locals = none := Heap.get?_none_of_le F.above
      rw [List.mem_singleton.mp hm, hod] at this; cases this
  · intro b hb
    rw [List.mem_singleton.mp hb]
    exact next_is_new F
  · intro p hp hI
    exact absurd (Heap.lt_size (N p hp).1) ((List.mem_singleton.mp hI) ▸ Nat.lt_irrefl _)
  · rintro i v m₁ news₁ s₁ own ⟨hh', tk', rfl⟩ hi hv hJ hoff hown hget hall hst F₁ N₁
    (refine el_EA (hst.1) ?_; rintro oI hI _)
    have hIo := hall s.heap.objs.size List.mem_cons_self (next_is_new F) oI hI
    have off' : ∀ p ∈ news₁, p.1 ≠ s.heap.objs.size := fun p hp e => hoff p hp (List.mem_singleton.mpr e)
    have N₂ : News h₀ env.locals hh' ((s.heap.objs.size, oI) :: news₁) := fun p hp => by
      rcases List.mem_cons.mp hp with rfl | hp
      · exact N₁ _ (List.mem_append_left _ hIo)
      · exact N₁ _ (List.mem_append_right _ hp)
    refine wpAny_mono (turn i m₁ news₁ hh' tk' v s.heap.objs.size oI hv hJ off' F₁ N₂) (fun _ s₃ h₃ => wpAny_mono h₃ (fun f s₂ p => ?_) fun _ _ e => e) fun _ _ e => e
    have fin : (∃ h' tk m' news', s₂ = { s with heap := h', toks := tk } ∧ Fr h₀ env.locals h' m' ∧ News h₀ env.locals h' ((s.heap.objs.size, oI) :: news') ∧ (∀ p ∈ news', p.1 ≠ s.heap.objs.size) ∧ J (i + 1) m' news') →
        LoopStepU h₀ env.locals [s.heap.objs.size] own (J (i + 1)) { s with heap := hh', toks := tk' } .next s₂ := by
      intro hcx; (refine el_EEEEAAAA (hcx) ?_; (try clear hcx); rintro h' tk m' news' e F' N' o' J')
      refine ⟨rfl, h', tk, m', news', e, F', fun p hp => ?_, fun p hp hq => o' p hp (List.mem_singleton.mp hq), J'⟩
      rcases List.mem_append.mp hp with hp | hp
      · have h2 := hget p hp
        rcases List.mem_cons.mp (hown p hp) with h1 | h1
        · rw [h1] at h2
          have h3 : p = (s.heap.objs.size, oI) := by
            obtain ⟨p1, p2⟩ := p
            dsimp only at h1 h2
            rw [h1]
            have : some oI = some p2 := hI.symm.trans h2
            rw [Option.some.inj this]
          rw [h3]
          exact N' _ List.mem_cons_self
        · have h4 := (N₁ p (List.mem_append_left _ hp)).2.2
          rw [List.mem_singleton.mp h1, hod] at h4; cases h4
      · exact N' _ (List.mem_cons_of_mem _ hp)
    cases f with
    | ret v => exact .ret p
    | brk => exact .brk p
    | next => exact .next (fin p)
    | cont => exact .cont (fin p)
  · rintro h' tk m' news' F' N' _ hJ
    exact done m' news' h' tk hJ F' N'

theorem loop_lstT {l : Addr} {its : Array Value} {k : Nat} {m : Str → Option Value} {news : List (Addr × Obj)} (junk : List Str) (V₀ : List (Str × Value)) (J : Nat → List (Str × Value) → List (Addr × Obj) → Prop)
    (hh : A.handled = none) (hl : (l, listOf its k) ∈ news)
    (F : Fr h₀ env.locals s.heap m) (N : News h₀ env.locals s.heap news) (hV : ∀ kv ∈ V₀, m kv.1 = some kv.2) (h0 : J 0 V₀ news) (keep : ∀ i V news₁, J i V news₁ → (l, listOf its k) ∈ news₁)
    (turn : ∀ i V u news₁ h tk v I oI, its[i]? = some v → J i V news₁ → (∀ p ∈ news₁, p.1 ≠ I) → Fr h₀ env.locals h (frM V junk u m) → News h₀ env.locals h ((I, oI) :: news₁) →
      wpAny (model prog w) A (storeName env x v) (fun _ s₃ => wpAny (model prog w) A (execs body env) (TurnEnd h₀ env.locals I oI (JV junk m (J (i + 1))) { s with heap := h, toks := tk } Q) E s₃) E { s with heap := h, toks := tk })
    (done : ∀ V u news₁ h tk, J its.size V news₁ → Fr h₀ env.locals h (frM V junk u m) → News h₀ env.locals h news₁ → Q .next { s with heap := h, toks := tk }) :
    wpAny (model prog w) A (pyIter (.ref l)) (fun it s₂ => LoopAtT prog w A h₀ env x body Q E it s₂) E s := by
  refine iter_lstT (fun i => JV junk m (J i)) hh hl F N (JV.intro V₀ h0 hV fun _ _ _ => rfl) (fun i m₁ news₁ ⟨V, u, hJ, _⟩ => keep i V news₁ hJ) ?_ ?_
  · rintro i m₁ news₁ h tk v I oI hi ⟨V, u, hJ, rfl⟩ off F₁ N₁
    exact turn i V u news₁ h tk v I oI hi hJ off F₁ N₁
  · rintro m₁ news₁ h tk ⟨V, u, hJ, rfl⟩ F₁ N₁
    exact done V u news₁ h tk hJ F₁ N₁
theorem loop_keysT {K : Type} [DecidableEq K] {knd : KeyKind prog w K} {d : Addr} {kvs : List (K × Value)} {ep : Nat} {m : Str → Option Value} {news : List (Addr × Obj)} (junk : List Str) (V₀ : List (Str × Value)) (J : Nat → List (Str × Value) → List (Addr × Obj) → Prop)
    (hh : A.handled = none) (lo : (d == sysModules) = false) (hd : h₀.DictAt knd d kvs ep)
    (F : Fr h₀ env.locals s.heap m) (N : News h₀ env.locals s.heap news) (hV : ∀ kv ∈ V₀, m kv.1 = some kv.2) (h0 : J 0 V₀ news)
    (turn : ∀ i V u news₁ h tk v I oI, (∃ k y, kvs[i]? = some (k, y) ∧ knd.is k v = true) → J i V news₁ → (∀ p ∈ news₁, p.1 ≠ I) → Fr h₀ env.locals h (frM V junk u m) → News h₀ env.locals h ((I, oI) :: news₁) →
      wpAny (model prog w) A (storeName env x v) (fun _ s₃ => wpAny (model prog w) A (execs body env) (TurnEnd h₀ env.locals I oI (JV junk m (J (i + 1))) { s with heap := h, toks := tk } Q) E s₃) E { s with heap := h, toks := tk })
    (done : ∀ V u news₁ h tk, J kvs.length V news₁ → Fr h₀ env.locals h (frM V junk u m) → News h₀ env.locals h news₁ → Q .next { s with heap := h, toks := tk }) :
    wpAny (model prog w) A (pyIter (.ref d)) (fun it s₂ => LoopAtT prog w A h₀ env x body Q E it s₂) E s := by
  refine iter_keysT (fun i => JV junk m (J i)) hh lo hd F N (JV.intro V₀ h0 hV fun _ _ _ => rfl) ?_ ?_
  · rintro i m₁ news₁ h tk v I oI hi ⟨V, u, hJ, rfl⟩ off F₁ N₁
    exact turn i V u news₁ h tk v I oI hi hJ off F₁ N₁
  · rintro m₁ news₁ h tk ⟨V, u, hJ, rfl⟩ F₁ N₁
    exact done V u news₁ h tk hJ F₁ N₁
end
end
section
set_option hygiene false
local macro_rules | `(tactic| k_mem) => `(tactic| (refine memN ?_; ktr_member))
local macro_rules | `(tactic| k_all) => `(tactic| first | with_reducible assumption | exact lt_off (by assumption) | exact lt_off1 (by assumption) | exact lt_off2 (by assumption) | exact lt_off3 (by assumption) | exact lt_off4 (by assumption) | exact lt_off5 (by assumption) | exact lt_off6 (by assumption) | exact lt_off7 (by assumption) | exact lt_off8 (by assumption))
local macro_rules | `(tactic| k_lt $h) => `(tactic| (replace $h := allLt_of $h; dsimp only [AllLt] at $h:ident; (try simp only [and_true] at $h:ident)))
local macro_rules | `(tactic| k_handed) => `(tactic| with_reducible assumption)
local macro_rules | `(tactic| walk_at "compareOp Is") => `(tactic| (k_here; refine wpAny_is_other (by rfl) (by intro x; cases x) ?_))
local macro_rules | `(tactic| k_room) => `(tactic| ktr_room)
local macro_rules | `(tactic| leaf_len) => `(tactic| (simp only [units_in1, units_deeper, Around.mark_units, units_caller]; omega))
local macro_rules | `(tactic| k_units) => `(tactic| ktr_units)
local macro_rules | `(tactic| top_reprB) => `(tactic| exact News.isList (by k_asm) (by k_mem))
local macro_rules | `(tactic| regloopunroll_open) => `(tactic| with_reducible assumption)
local macro_rules | `(tactic| size_fits) => `(tactic| ((try simp only [sizeLine_eq, List.size_toArray, List.length_map, List.length_append, List.length_cons, List.length_nil]); omega))
local macro_rules | `(tactic| walk_at "call builtin:len") => `(tactic| (k_here; (with_reducible show wpAny _ _ (call _ [Value.ref _]) _ _ _); k_dflt (focus (refine' call_len_list ?_ ?_ ?_; rotate_right 3; top_reprB; size_fits; k_whole))))
local macro_rules | `(tactic| walk_at "getMethod ref") => `(tactic| (k_here; (with_reducible show wpAny _ _ (getMethod _ (Str.ofString "get") _) _ _ _); k_dflt (first | focus (refine' gm_s ?_ ?_ ?_ ?_; rotate_right 4; k_asm; k_mem; k_asm; k_whole) | focus (refine' gm_i ?_ ?_ ?_ ?_; rotate_right 4; k_asm; k_mem; k_asm; k_whole))))
local macro_rules | `(tactic| walk_at "call builtin:dict.get") => `(tactic| (k_here; k_dflt (focus ((first | refine' dg_s ?_ ?_ ?_ ?_ ?_ ?_ | refine' dg_i ?_ ?_ ?_ ?_ ?_ ?_); rotate_right 6; k_asm; k_mem; k_asm; k_asm; regloopunroll_open; k_whole)); (try dsimp only [Option.getD])))
local macro_rules | `(tactic| walk_at "truthy ref") => `(tactic| (k_here; k_dflt (first | focus (refine' truthy_cons ?_ ?_ ?_; rotate_right 3; top_reprB; omega; k_whole) | focus (refine' truthy_nil ?_ ?_; rotate_right 2; top_reprB; k_whole))))
local macro_rules | `(tactic| one_sign) => `(tactic| (rotate_right 5; top_reprB; omega; omega; regloopunroll_open; k_whole))
local macro_rules | `(tactic| walk_at "subscriptTail") => `(tactic| (k_here; k_dflt (first | ((with_reducible show wpAny _ _ (subscriptTail _ _ _ (Value.int _ _)) _ _ _); first | focus (refine' PyProof.Rows.item_listL ?_ ?_ ?_ ?_ ?_; one_sign) | focus (refine' PyProof.Rows.item_list ?_ ?_ ?_ ?_ ?_; one_sign)) | ((with_reducible show wpAny _ _ (subscriptTail _ _ _ (Value.str _ _)) _ _ _); refine kd_it (by k_asm) (by k_mem) (by k_asm) (by regloopunroll_open) ?_))))
local macro_rules | `(tactic| walk_at "compareOp NotIn str ref") => `(tactic| (k_here; k_dflt (focus ((first | refine' notin_list_strs ?_ ?_ ?_ | refine' in_list_strs ?_ ?_ ?_); rotate_right 3; top_reprB; regloopunroll_open; k_whole))))
local macro_rules | `(tactic| walk_at "compareOp In str ref") => `(tactic| walk_at "compareOp NotIn str ref")
local macro_rules | `(tactic| top_raiseB) => `(tactic| first
  | focus (refine' evX_L ?_ ?_ ?_ ?_; rotate_right 4; k_asm; (iterate 3 rfl))
  | focus (refine' evX_C ?_ ?_ ?_ ?_ ?_ ?_; rotate_right 6; rfl; rfl; k_asm; rfl; k_mem; k_asm)
  | focus (refine' evX_K ?_ ?_ ?_ ?_ ?_ ?_; rotate_right 6; (iterate 3 k_asm); rfl; rfl; k_is)
  | focus (refine' evX_B ?_ ?_ ?_ ?_ ?_ ?_ ?_ ?_; rotate_right 8; (iterate 3 k_asm); rfl; rfl; k_is; (with_reducible boot_fast); decide))
local macro_rules | `(tactic| top_caughtB) => `(tactic| first
  | exact evL_nil
  | focus (refine' evL_name ?_ ?_; rotate_right 2; top_raiseB; top_caughtB)
  | ((first | refine evL_int ?_ | refine evL_str ?_ | refine evL_none ?_ | refine evL_bool ?_); top_caughtB))
local macro_rules | `(tactic| top_raiseB0) => `(tactic| (rotate_right 10; (iterate 3 k_asm); rfl; rfl; k_is; (with_reducible boot_fast); decide; top_caughtB; k_whole))
local macro_rules | `(tactic| walk_at "eval Call") => `(tactic| (k_here; k_dflt (first
  | focus (refine' call_own ?_ ?_ ?_ ?_ ?_ ?_ ?_ ?_ ?_ ?_; rotate_right 10; (iterate 3 k_asm); rfl; rfl; k_is; k_is; top_caughtB; rfl; k_whole)
  | focus (refine' call_own0 ?_ ?_ ?_ ?_ ?_ ?_ ?_ ?_; rotate_right 8; (iterate 3 k_asm); rfl; rfl; k_is; k_is; k_whole)
  | focus (refine' call_blt ?_ ?_ ?_ ?_ ?_ ?_ ?_ ?_ ?_ ?_; top_raiseB0) | focus (refine' call_typ ?_ ?_ ?_ ?_ ?_ ?_ ?_ ?_ ?_ ?_; top_raiseB0))))
local macro_rules | `(tactic| walk_at "eval Attribute Name") => `(tactic| (k_here; k_dflt (focus (refine' attr_ev ?_ ?_; rotate_right 2; top_raiseB; k_whole))))
local macro_rules | `(tactic| k_in) => `(tactic| first | regloopunroll_open | exact inK (by regloopunroll_open) (by regloopunroll_open))
local macro_rules | `(tactic| top_caught0) => `(tactic| (refine szl ?_; (repeat refine len_st ?_); omega))
local macro_rules | `(tactic| row_timed "SI" ($_t)) => `(tactic| (k_here; k_dflt (focus ((first | refine' ks_s ?_ ?_ ?_ ?_ ?_ ?_ | refine' ks_i ?_ ?_ ?_ ?_ ?_ ?_); rotate_right 6; k_asm; k_asm; k_updF; k_asm; top_caught0))))
local macro_rules | `(tactic| top_argsB) => `(tactic| first | exact BindsTo.of_eq rfl | exact binds_K (by k_in) rfl (by k_is) rfl rfl rfl)
local macro_rules | `(tactic| row_timed "ENA" ($_t)) => `(tactic| (rotate_right 18; exact rfl; exact rfl; (first | assumption | exact rfl); (iterate 5 k_asm); k_is; k_is; refine rm0 ?_; ktr_room; top_argsB; (first | decide | decide +kernel); (first | exact locs rfl | exact rfl); (iterate 3 exact rfl); k_whole))
local macro_rules | `(tactic| ktr_room) => `(tactic| first | ((repeat refine rmS ?_); refine rmT (by with_reducible assumption) ?_ ?_; rfl; rfl) | ((try simp only [depth_under_make, depth_under_kw, depth_in1, depth_deeper, depth_caller]); omega))
local macro_rules | `(tactic| ktr_units) => `(tactic| first | ((repeat refine rmS ?_); refine rmT (by with_reducible assumption) ?_ ?_; rfl; rfl) | leaf_len)
local macro_rules | `(tactic| walk_at "call ref") => `(tactic| (k_here; k_dflt (refine hold_call (by rfl) ?_)))
local macro_rules | `(tactic| walk_at "eval ListComp") => `(tactic| refine Hold.out ?_)
local macro_rules | `(tactic| walk_at "exec Assign cons ListComp") => `(tactic| refine Hold.out ?_)
local macro_rules | `(tactic| walk_at "CompSrcT") => `(tactic| refine Hold.out ?_)
local macro_rules | `(tactic| walk_at "CompSrc") => `(tactic| refine Hold.out ?_)
local macro_rules | `(tactic| walk_at "pyIter ref") => `(tactic| refine Hold.out ?_)
local macro_rules | `(tactic| walk_at "compareOp NotEq ref ref") => `(tactic| refine Hold.out ?_)
local macro_rules | `(tactic| walk_at "compareOp Eq ref ref") => `(tactic| refine Hold.out ?_)
local macro_rules | `(tactic| walk_at "binaryOp Add ref ref") => `(tactic| refine Hold.out ?_)
set_option hygiene true
local macro_rules | `(tactic| walk_at "setItem ref str") => `(tactic| (row_timed "SI" (fail); intro h' o' F' N' hd'; (try dsimp only at N')))
local macro_rules | `(tactic| walk_at "setItem ref int") => `(tactic| walk_at "setItem ref str")
local macro_rules | `(tactic| ktr_enter) => `(tactic| ((first | focus (refine' cdA ?_ ?_ ?_ ?_ ?_ ?_ ?_ ?_ ?_ ?_ ?_ ?_ ?_ ?_ ?_ ?_ ?_ ?_; row_timed "ENA" (fail); (iterate 9 intro _)) | focus (refine' cdC ?_ ?_ ?_ ?_ ?_ ?_ ?_ ?_ ?_ ?_ ?_ ?_ ?_ ?_ ?_ ?_ ?_ ?_; row_timed "ENA" (fail); intro g' L' h' tk' cells' FG' F' N' Y' B' X' T' l1; (try k_lt l1); k_cells Y'; (try dsimp only [List.cons_append, List.nil_append] at N'))); (try dsimp only); (try k_fold)))
local macro_rules | `(tactic| walk_at "call type:list") => `(tactic| (k_here; (with_reducible show wpAny _ _ (call _ [Value.ref _]) _ _ _); k_dflt (focus (refine' lcK ?_ ?_ ?_ ?_ ?_; rotate_right 5; k_asm; k_asm; (first | top_reprB | exact ⟨_, (Fr.keep (by k_asm) _ _ (by with_reducible assumption)), rfl, _, rfl⟩); with_reducible assumption)); intro D' c' h' F' N' l1; (try k_lt l1)))
local macro_rules | `(tactic| walk_at "call builtin:any") => `(tactic| (k_here; (with_reducible show wpAny _ _ (call _ [Value.ref _]) _ _ _); k_dflt (refine LSm.any_bools (by k_asm) (by k_asm) (by rfl) (by top_reprB) (by assumption) ?_); intro h' tk' F' N'))
section
set_option maxRecDepth 100000 in
set_option maxHeartbeats 8000000 in
theorem cons_ok (w : World) (x y : Value) (news : List (Addr × Obj)): Does w 99 1 20 [x, y] news (fun v news' => ∃ a d t1 t2, v = .ref a ∧ news' = (a, instObj 99 d) :: (d, dictOf [ent w "car" t1 x, ent w "cdr" t2 y] 2) :: news ∧ (∀ p ∈ news, p.1 < d) ∧ @LT.lt Nat _ d a) := by
  have : PySem.Challenge.rw_ok0061_01 = PySem.Challenge.rw_ok0061_01 ∧ hdz.heap_1 = hdz.heap_1 := by
    k_fill
    exact ⟨rfl, rfl⟩
  clear this
  unfold Does
  intro dp un gd cn cs a ccd cl outer A₀ base h₀ L m mean mg mb s Q E B F X N T hk hd hu hret
  k_dflt (refine' call_cls ?k1 ?k2 ?k3 ?k4 ?k5 ?k6 ?_; (case k1 => k_asm); (case k2 => k_asm); (case k3 => k_asm); (case k4 => k_is); (case k5 => k_is); (case k6 => k_is); k_whole; intro x' d' h' F' N' l1 l2; (try k_lt l1); (try k_lt2 l2); (try k_sweep); ktr_enter)
  k_steps
  exact hret _ _ _ _ (by assumption) (by assumption) ⟨_, _, _, _, rfl, rfl, by assumption, by assumption⟩
theorem cons_use {w : World} {dp un : Nat} {gd : Option (List Code)} {cn : Str} {cs : Scope} {a : Addr} {ccd : Value} {cl : List (Str × Addr)} {outer : List Env} {A₀ : Around} {base h₀ : Heap} {L : Addr} {m : Str → Option Value} {mean : ExcName → Option Value} {mg mb : Str → Option Value} {s : Shared} {Q E : Value → Shared → Prop} {x y : Value} {news : List (Addr × Obj)}
    (B : Below A₀ base outer h₀) (F : Fr h₀ L s.heap m) (X : (hdz.heap_1 w.params).In h₀) (N : News h₀ L s.heap news) (T : Top hdz.view_1 lse mean mg mb h₀) (hk : cs.kind = .function) (hd : dp + 1 < recursionLimit) (hu : un + 20 < cLine)
    (ret : ∀ (a d : Addr) (t1 t2 : Tok) h' tk', Fr h₀ L h' m → News h₀ L h' ((a, instObj 99 d) :: (d, dictOf [ent w "car" t1 x, ent w "cdr" t2 y] 2) :: news) → (∀ p ∈ news, p.1 < d) → @LT.lt Nat _ d a → Q (.ref a) { s with heap := h', toks := tk' }) :
    wpAny (model PySem.Challenge.rw_ok0061_01.row.prog w) (ktrTop dp un gd cn cs L a ccd cl outer) (call (.ref 99) [x, y]) Q E s :=
  does_use (cons_ok w x y news) B F X N T hk hd hu fun _ _ h' tk' F' N' ⟨a, d, t1, t2, e, e', l1, l2⟩ => by
    subst e e'
    exact ret a d t1 t2 h' tk' F' N' l1 l2
end
section
set_option maxRecDepth 100000 in
set_option maxHeartbeats 8000000 in
theorem plist_ok (w : World) (ce dc P a sd : Addr) (t3 t4 s1 s2 s3 s4 : Tok) (i : Nat) (name : Str) (v1 : Value) (oP : Obj) (pl : List (Int × Value)) (x : Option Value) (news : List (Addr × Obj)) (m5 : (ce, instObj 273 dc) ∈ news) (m6 : (dc, dictOf [ent w "functions" t3 v1, ent w "plists" t4 (.ref P)] 2) ∈ news)
    (q1 : (a, instObj 72 sd) ∈ news) (q2 : (sd, dictOf [ent w "number" s1 (.int (i : Nat) s3), ent w "name" s2 (.str name s4)] 2) ∈ news) (mP : (P, oP) ∈ news) (dP : oP.IsDictOf (intKind PySem.Challenge.rw_ok0061_01.row.prog w) pl) (loP : (P == sysModules) = false) (hpl : valueAt pl (i : Int) = x) :
    Does w 242 1 20 [.ref ce, .ref a] news (fun v news' => v = x.getD (.ref 78) ∧ news' = news) := by
  have : PySem.Challenge.rw_ok0061_01 = PySem.Challenge.rw_ok0061_01 ∧ hdz.heap_1 = hdz.heap_1 := by
    k_fill
    exact ⟨rfl, rfl⟩
  clear this
  unfold Does
  intro dp un gd cn cs a ccd cl outer A₀ base h₀ L m mean mg mb s Q E B F X N T hk hd hu hret
  refine wpAny_call ?_
  k_dflt ktr_enter
  k_steps
  exact hret _ _ _ _ (by assumption) (by assumption) ⟨rfl, rfl⟩
theorem plist_use {w : World} {dp un : Nat} {gd : Option (List Code)} {cn : Str} {cs : Scope} {a' : Addr} {ccd : Value} {cl : List (Str × Addr)} {outer : List Env} {A₀ : Around} {base h₀ : Heap} {L : Addr} {m : Str → Option Value} {mean : ExcName → Option Value} {mg mb : Str → Option Value} {s : Shared} {Q E : Value → Shared → Prop} {news : List (Addr × Obj)}
    {ce dc P a sd : Addr} {t3 t4 s1 s2 s3 s4 : Tok} {i : Nat} {name : Str} {v1 : Value} {oP : Obj} {pl : List (Int × Value)} {x : Option Value}
    (B : Below A₀ base outer h₀) (F : Fr h₀ L s.heap m) (X : (hdz.heap_1 w.params).In h₀) (N : News h₀ L s.heap news) (T : Top hdz.view_1 lse mean mg mb h₀) (hk : cs.kind = .function) (hd : dp + 1 < recursionLimit) (hu : un + 20 < cLine)
    (m5 : (ce, instObj 273 dc) ∈ news) (m6 : (dc, dictOf [ent w "functions" t3 v1, ent w "plists" t4 (.ref P)] 2) ∈ news)
    (q1 : (a, instObj 72 sd) ∈ news) (q2 : (sd, dictOf [ent w "number" s1 (.int (i : Nat) s3), ent w "name" s2 (.str name s4)] 2) ∈ news) (mP : (P, oP) ∈ news) (dP : oP.IsDictOf (intKind PySem.Challenge.rw_ok0061_01.row.prog w) pl) (loP : (P == sysModules) = false) (hpl : valueAt pl (i : Int) = x)
    (ret : ∀ h' tk', Fr h₀ L h' m → News h₀ L h' news → Q (x.getD (.ref 78)) { s with heap := h', toks := tk' }) :
    wpAny (model PySem.Challenge.rw_ok0061_01.row.prog w) (ktrTop dp un gd cn cs L a' ccd cl outer) (call (.ref 242) [.ref ce, .ref a]) Q E s :=
  does_use (plist_ok w ce dc P a sd t3 t4 s1 s2 s3 s4 i name v1 oP pl x news m5 m6 q1 q2 mP dP loP hpl) B F X N T hk hd hu fun _ _ h' tk' F' N' ⟨e, e'⟩ => by
    subst e e'
    exact ret h' tk' F' N'
end
section
local macro_rules | `(tactic| walk_at "call ref") => `(tactic| (k_here; (with_reducible show wpAny _ _ (call (Value.ref 99) _) _ _ _); k_dflt (focus (refine' cons_use ?_ ?_ ?_ ?_ ?_ ?_ ?_ ?_ ?_; rotate_right 9; (iterate 5 k_asm); (first | assumption | rfl); ktr_room; ktr_units)); intro x' d' t1' t2' h' tk' F' N' l1 l2; (try k_lt l1); (try k_lt2 l2)))
local macro_rules | `(tactic| walk_at "call ref") => `(tactic| (k_here; (with_reducible show wpAny _ _ (call (Value.ref 242) _) _ _ _); k_dflt (focus (refine' plist_use ?_ ?_ ?_ ?_ ?_ ?_ ?_ ?_ ?_ ?_ ?_ ?_ ?_ ?_ ?_ ?_ ?_; rotate_right 17; (iterate 5 k_asm); (first | assumption | rfl); ktr_room; ktr_units; (iterate 5 k_mem); k_asm; k_asm; regloopunroll_open; k_whole)); intro h' tk' F' N'; (try dsimp only [Option.getD])))
section
set_option maxRecDepth 100000 in
set_option maxHeartbeats 8000000 in
theorem intern_ok (w : World) (c : Cfg) (σ : St) (imm fr rest : List (Addr × Obj)) (name : Str) (tk : Tok) (hu : name ∈ uni) (H : WI w c σ imm) (hs : ∀ p ∈ imm, p ∈ rest) (off : Off c (fr ++ rest)) :
    Does w 298 3 24 [.ref c.ob, .str name tk] (mutL c σ ++ (fr ++ rest)) (Step w c σ imm fr rest fun v σ' _ => valueAt σ'.ks name = some v) := by
  have : PySem.Challenge.rw_ok0061_01 = PySem.Challenge.rw_ok0061_01 ∧ hdz.heap_1 = hdz.heap_1 := by
    k_fill
    exact ⟨rfl, rfl⟩
  clear this
  unfold Does
  intro dp un gd cn cs a ccd cl outer A₀ base h₀ L m mean mg mb s Q E B F X N T hk hd hu hret
  (refine el_AA (off) ?_; (try clear off); rintro offN offR offP)
  (refine el_EEEA (H.oo) ?_; rintro d t1 t2 m1 m2)
  replace m1 := List.mem_append_right fr (hs _ m1)
  replace m2 := List.mem_append_right fr (hs _ m2)
  (refine el_AA (H.ne) ?_; rintro ne1 ne2 ne3)
  have klen := H.klen
  have dN := H.dN
  have loN := H.loN
  dsimp only [mutL, List.cons_append, List.nil_append] at N
  refine wpAny_call ?_
  rcases hx : valueAt σ.ks name with _ | v
  · k_dflt ktr_enter
    k_steps
    (refine el_EA (intern_end (by assumption) H hs hx (by assumption) (by assumption) (by assumption) (by assumption)) ?_; rintro nw hN hS)
    exact hret _ _ _ _ (by assumption) hN hS
  · obtain ⟨av, rfl⟩ := H.ref hx
    k_dflt ktr_enter
    k_steps
    exact hret _ _ _ _ (by assumption) (by assumption) (Step.same H hs hx)
end
section
set_option maxRecDepth 100000 in
set_option maxHeartbeats 8000000 in
theorem list_of_ok (w : World) (l : Addr) (its : Array Value) (k : Nat) (news : List (Addr × Obj)) (hl : (l, listOf its k) ∈ news) (hz : its.size ≤ 1000) (hh : ∀ x ∈ its.toList, handedIn x = true) :
    Does w 133 2 24 [.ref l] news (Adds news fun v tl => LAt w tl v its.toList (.ref 78)) := by
  have : PySem.Challenge.rw_ok0061_01 = PySem.Challenge.rw_ok0061_01 ∧ hdz.heap_1 = hdz.heap_1 := by
    k_fill
    exact ⟨rfl, rfl⟩
  clear this
  unfold Does
  intro dp un gd cn cs a ccd cl outer A₀ base h₀ L m mean mg mb s Q E B F X N T hk hd hu hret
  refine wpAny_call ?_
  k_dflt ktr_enter
  k_steps
  rename IsRange _ _ _ _ _ _ _ _ => hr
  refine loop_rng [Str.ofString "place"] [(Str.ofString "found", .ref 78)] (Jlist w its news)
    rfl hr (rng_down _ hz).1 (rng_down _ hz).2 (by assumption) (by assumption) ?_ ?_ ?_ ?_
  · intro kv hkv; rw [List.mem_singleton.mp hkv]; rfl
  · refine ⟨_, [], rfl, rfl, (fun _ h => nomatch h), rfl, ?_⟩
    have : its.toList.drop (its.size - 0) = [] := by simp
    rw [this]; exact .nil
  · intro i V u news₁ h tk t I oI hi hJ offI F₁ N₁
    (refine el_EEAAAA (hJ) ?_; (try clear hJ); rintro v tl rfl rfl fresh hvh hL)
    replace hl := List.mem_append_right tl hl
    obtain ⟨xv, hx⟩ : ∃ xv, its[((its.size : Int) - 1 + (i : Int) * -1).toNat]? = some xv := by
      have h1 : ((its.size : Int) - 1 + (i : Int) * -1).toNat < its.size := by omega
      exact ⟨_, Array.getElem?_eq_getElem h1⟩
    k_steps
    refine list_turn hi hx (by assumption) (by assumption) (by assumption) (by assumption) offI fresh hL (hh xv (Array.mem_toList_iff.mpr (Array.mem_of_getElem? hx))) hvh rfl ?_
    intro z h1 h2
    simp only [if_neg h1, if_neg h2, frM, setM, List.mem_singleton]
  · intro V u news₁ h tk hJ F₁ N₁
    (refine el_EEAAAA (hJ) ?_; (try clear hJ); rintro v tl rfl rfl fresh hvh hL)
    k_steps
    refine hret _ _ _ _ (by assumption) (by assumption) ⟨tl, rfl, fresh, ?_⟩
    rw [Nat.sub_self] at hL
    exact hL
end
section
local macro_rules | `(tactic| walk_at "exec While Call cons nil") => `(tactic| refine Hold.out ?_)

def IsNe (news : List (Addr × Obj)) (v sv : Value) : Prop :=
  (∃ i t b, v = .int i t ∧ sv = .ref b) ∨ ∃ a oa b ob, v = .ref a ∧ sv = .ref b ∧ @Ne Nat a b ∧ (a = 78 ∨ (a, oa) ∈ news) ∧ (b, ob) ∈ news ∧ ob.cls ≠ .type "tuple" ∧ oa.cls ≠ .type "tuple"
def Sym78 (h : Heap) : Prop := ∃ o, h.get? 78 = some o ∧ o.cls ≠ .type "tuple"
def S78 (w : World) : Prop := ∀ g, (hdz.heap_1 w.params).In g → Sym78 g
theorem is_la {w : World} {M : Model} {A : Around} {E : Value → Shared → Prop} {s : Shared} {Q : Value → Shared → Prop} {h₀ : Heap} {L : Addr} {m : Str → Option Value} {nx news : List (Addr × Obj)} {v sv : Value} (hS : S78 w) (hX : (hdz.heap_1 w.params).In h₀) (F : Fr h₀ L s.heap m) (N : News h₀ L s.heap nx) (hs : ∀ p ∈ news, p ∈ nx) {done : List Value} {x : Value} (hI : (done.length + 1) % 2 = 0 → IsNe news v sv) (hp : ((((done.toArray.push x).size : Nat)) : Int).fmod 2 = 0)
    (hQ : Q (.bool false) s) : wpAny M A (compareOp .Is v sv) Q E s := by
  obtain ⟨o, h78, hc⟩ := hS _ hX
  rcases hI (par0 hp) with ⟨i, t, b, rfl, rfl⟩ | ⟨a, oa, b, ob, rfl, rfl, hn, ha, hb, h1, h2⟩
  · exact wpAny_is_other rfl (fun x => nomatch x) hQ
  · rcases ha with rfl | ha
    · exact wpAny_is_ref_other hn (F.keep _ _ h78) (N _ (hs _ hb)).1 hc hQ
    · exact wpAny_is_ref_other hn (N _ (hs _ ha)).1 (N _ (hs _ hb)).1 h2 hQ
theorem isne_of {w : World} {news : List (Addr × Obj)} {av sv e y : Value} {rest ys : List Value} (fn : ∀ a o1 o2, (a, o1) ∈ news → (a, o2) ∈ news → o1 = o2) (h78 : ∀ o, ((78 : Addr), o) ∉ news) (he : EndOk e) (h1 : LAt w news av rest e) (h2 : LAt w news sv (y :: ys) e) (hl : rest.length < (y :: ys).length) : IsNe news av sv := by
  cases h2 with
  | cons n1 n2 n3 n4 n5 =>
    cases h1 with
    | nil =>
      rcases he with rfl | ⟨i, t, rfl⟩
      · exact .inr ⟨78, _, _, _, rfl, rfl, fun k => h78 _ (k ▸ n1), .inl rfl, n1, (fun h => nomatch h), (fun h => nomatch h : (instObj 99 0).cls ≠ .type "tuple")⟩
      · exact .inl ⟨_, _, _, rfl, rfl⟩
    | cons m1 m2 m3 m4 m5 =>
      exact .inr ⟨_, _, _, _, rfl, rfl, fun k => by
        have e1 := LAt.len fn h78 he (LAt.cons m1 m2 m3 m4 m5) (k ▸ LAt.cons n1 n2 n3 n4 n5)
        rw [e1] at hl; exact Nat.lt_irrefl _ hl, .inr m1, n1, (fun h => nomatch h), (fun h => nomatch h)⟩
theorem tw_lt {a b : Addr} {x y : Obj} {news : List (Addr × Obj)} (h1 : ∀ q ∈ news, @LT.lt Nat _ q.1 a) (h2 : ∀ q ∈ news, @LT.lt Nat _ q.1 b) : ∀ p ∈ [(a, x), (b, y)], ∀ q ∈ news, @LT.lt Nat _ q.1 p.1 := by
  intro p hp q hq
  simp only [List.mem_cons, List.not_mem_nil, or_false] at hp
  rcases hp with rfl | rfl
  · exact h1 q hq
  · exact h2 q hq
local macro_rules | `(tactic| walk_at "compareOp Is") => `(tactic| (k_here; refine is_la (by assumption) (by assumption) (by assumption) (by assumption) (fun p hp => List.mem_cons_of_mem _ hp) (by assumption) (by assumption) ?_))
set_option maxRecDepth 100000 in
set_option maxHeartbeats 8000000 in
theorem items_of_ok (w : World) (v e : Value) (xs : List Value) (news : List (Addr × Obj)) (hv : LAt w news v xs e) (he : EndOk e) (hz : xs.length ≤ 1000) :
    Does w 147 3 40 [v] news (Adds news fun r tl => if e = .ref 78 then ∃ l k, r = .ref l ∧ (l, listOf xs.toArray k) ∈ tl else r = .none) := by
  have : PySem.Challenge.rw_ok0061_01 = PySem.Challenge.rw_ok0061_01 ∧ hdz.heap_1 = hdz.heap_1 := by
    k_fill
    exact ⟨rfl, rfl⟩
  clear this
  unfold Does
  intro dp un gd cn cs a ccd cl outer A₀ base h₀ L m mean mg mb s Q E B F X N T hk hd hu hret
  have s78 : S78 w := fun g X => ⟨_, X 78 _ (by k_is), by intro h; cases h⟩
  refine wpAny_call ?_
  k_dflt ktr_enter
  k_steps
  unfold Hold
  rename_i ll _ _ _ _ _ _ _
  have offl : ∀ p ∈ news, p.1 ≠ ll := fun p hp => Nat.ne_of_lt (‹∀ p ∈ news, p.1 < ll› p hp)
  have h78 : ∀ o, ((78 : Addr), o) ∉ news := fun o hm => by
    have h1 := X 78 _ (by k_is)
    rw [(N _ hm).2.2] at h1; cases h1
  have fn : ∀ a o1 o2, (a, o1) ∈ news → (a, o2) ∈ news → o1 = o2 := fun a o1 o2 h1 h2 => Option.some.inj ((N _ h1).1.symm.trans (N _ h2).1)
  refine loop_whl [] [(Str.ofString "at", v), (Str.ofString "slow", v)] (Jsplit w news xs e ll) xs.length (by assumption) (by assumption) ?_ ?_ ?_
  · intro kv hkv
    rcases List.mem_cons.mp hkv with rfl | hkv
    · rfl
    · rw [List.mem_singleton.mp hkv]; rfl
  · exact ⟨[], xs, v, v, _, rfl, rfl, rfl, rfl, hv, by simpa using hv⟩
  · intro n V u news₁ h₁ tk₁ hJ F₁ N₁
    (refine el_EEEEEAAAAA (hJ) ?_; (try clear hJ); rintro done rest av sv k rfl hxs rfl rfl hav hsv)
    have hlen : done.length ≤ 1000 := by have := congrArg List.length hxs; simp at this; omega
    cases hav with
    | nil =>
      have hd9 : xs = done := by simpa using hxs
      rcases he with rfl | ⟨i, t, rfl⟩
      · k_steps
        exact hret _ _ _ _ (by assumption) (by assumption) ⟨[_, _], rfl, tw_lt (AllLt.mem (‹_ ∧ AllLt _ news›).2) (by assumption), by
          dsimp only
          rw [if_pos rfl, hd9]
          exact ⟨ll, k, rfl, List.mem_cons_of_mem _ List.mem_cons_self⟩⟩
      · k_steps
        exact hret _ _ _ _ (by assumption) (by assumption) ⟨[_, _], rfl, tw_lt (AllLt.mem (‹_ ∧ AllLt _ news›).2) (by assumption), by
          dsimp only
          rw [if_neg (fun h => nomatch h)]⟩
    | cons m1 m2 hx1 hx2 hav =>
      rename_i a1 d1 t1 t2 x1 v1 rest1
      have hlen2 : xs.length = done.length + (rest1.length + 1) := by rw [hxs]; simp
      generalize hys : List.drop (done.length / 2) xs = ys at hsv
      have hysl : ys.length = xs.length - done.length / 2 := by rw [← hys]; simp
      cases hsv with
      | nil => simp at hysl; omega
      | cons n1 n2 hy1 hy2 hsv =>
        rename_i b1 d2 t3 t4 y1 sv1 ys1
        have hys1 : List.drop (done.length / 2 + 1) xs = ys1 := by
          rw [← List.tail_drop, hys]; rfl
        have hysl1 : ys1.length = xs.length - done.length / 2 - 1 := by rw [← hys1]; simp; omega
        have hIs : (done.length + 1) % 2 = 0 → IsNe news v1 sv1 := fun par => by
          cases ys1 with
          | nil => simp at hysl1; omega
          | cons y2 ys2 => exact isne_of fn h78 he hav hsv (by omega)
        k_steps
        · have par := par0 (by assumption)
          refine split_turn (by assumption) (by assumption) hxs hav (by rw [show (done.length + 1) / 2 = done.length / 2 + 1 by omega, hys1]; exact hsv) rfl rfl ?_
          intro z h1 h2
          (iterate 4 (first | refine (if_neg h1).trans ?_ | refine (if_neg h2).trans ?_))
          exact (if_neg List.not_mem_nil : (if z ∈ ([] : List Str) then u z else _) = _)
        · have par := par1 (by assumption)
          refine split_turn (by assumption) (by assumption) hxs hav (by rw [show (done.length + 1) / 2 = done.length / 2 by omega, hys]; exact LAt.cons n1 n2 hy1 hy2 hsv) rfl rfl ?_
          intro z h1 h2
          (iterate 3 (first | refine (if_neg h1).trans ?_ | refine (if_neg h2).trans ?_))
          exact (if_neg List.not_mem_nil : (if z ∈ ([] : List Str) then u z else _) = _)
end
section
set_option maxRecDepth 100000 in
set_option maxHeartbeats 8000000 in
theorem text_ok (w : World) (y : Str) (tk : Tok) (news : List (Addr × Obj)) (ha : (y.cps.all (· < 128)) = true) (hz : y.cps.size ≤ 1000) :
    Does w 152 4 40 [.str y tk] news (AddsN news fun v tl => TextAt w tl v (y.cps.toList.map Int.ofNat)) := by
  have : PySem.Challenge.rw_ok0061_01 = PySem.Challenge.rw_ok0061_01 ∧ hdz.heap_1 = hdz.heap_1 := by
    k_fill
    exact ⟨rfl, rfl⟩
  clear this
  unfold Does
  intro dp un gd cn cs a ccd cl outer A₀ base h₀ L m mean mg mb s Q E B F X N T hk hd hu hret

  refine wpAny_call ?_
  k_dflt ktr_enter
  k_steps
  unfold Hold
  refine ListComp_S (_F₀ := by k_asm) (by with_unfolding_all rfl) (by decide) (by rfl) (by decide) (by rfl) ?_
  k_steps
  refine ⟨y, _, news, rfl, rfl, by assumption, by assumption, ha, by rw [sizeLine_eq]; omega, ?_⟩
  rintro s₂ ⟨g, rfl⟩
  refine restU (n := y.cps.size) (fun i ys nx => nx = news ∧ IntsAre ys ((y.cps.toList.take i).map Int.ofNat)) ?_ ?_ y.cps.size 0 [] news (by omega) ⟨rfl, .nil⟩
  · intro i v ys nx I oI C oC D m₂ h tk E' hv hi hJ hC hx F N o ne
    obtain ⟨rfl, hys⟩ := hJ
    (refine el_EEA (hv) ?_; (try clear hv); rintro c u hc rfl)
    k_steps
    exact LCg.CompEnd.intro (by assumption) (by assumption) _ (fun p hp => hp) o trivial ⟨rfl, ints_take hys (by simpa using hc) _⟩
  · intro ys nx hJ
    obtain ⟨rfl, hys⟩ := hJ
    k_steps
    have hys' : IntsAre ys (y.cps.toList.map Int.ofNat) := by
      have e : y.cps.toList.take y.cps.size = y.cps.toList := List.take_of_length_le (by (first | regstrif_fact | simp))
      rw [e] at hys; exact hys
    have o9 := off1_mem ‹LCg.Off1 _ _›
    refine hret _ _ _ _ (by assumption) (by assumption) ⟨[_, _, _], rfl, ?_, ⟨_, _, _, _, _, _, ys, rfl, List.mem_cons_self, List.mem_cons_of_mem _ List.mem_cons_self, List.mem_cons_of_mem _ (List.mem_cons_of_mem _ List.mem_cons_self), hys'⟩⟩
    intro p hp q hq
    have l9 := ‹_ ∧ AllLt _ nx›
    simp only [List.mem_cons, List.not_mem_nil, or_false] at hp
    rcases hp with rfl | rfl | rfl
    · exact Nat.ne_of_lt (Nat.lt_trans (AllLt.mem l9.2 q hq) (by assumption))
    · exact Nat.ne_of_lt (AllLt.mem l9.2 q hq)
    · exact o9 q hq
end
section
local macro_rules | `(tactic| walk_at "IDLE") => `(tactic| skip)
local macro_rules | `(tactic| walk_at "exec While BoolOp cons nil") => `(tactic| (k_here; k_dflt (refine whl_start 100 ?_)))
local macro_rules | `(tactic| walk_at "exec While Call cons nil") => `(tactic| (k_here; k_dflt (refine whl_start 100 ?_)))

set_option maxRecDepth 100000 in
set_option maxHeartbeats 8000000 in
theorem put1_ok (w : World) (ce dc P a sd nm : Addr) (t3 t4 s1 s2 s3 s4 : Tok) (i : Nat) (name : Str) (v1 val : Value) (oP : Obj) (pl : List (Int × Value)) (rest : List (Addr × Obj)) (m5 : (ce, instObj 273 dc) ∈ rest) (m6 : (dc, dictOf [ent w "functions" t3 v1, ent w "plists" t4 (.ref P)] 2) ∈ rest)
    (q1 : (a, instObj 72 sd) ∈ rest) (q2 : (sd, dictOf [ent w "number" s1 (.int (i : Nat) s3), ent w "name" s2 (.str name s4)] 2) ∈ rest) (dP : oP.IsDictOf (intKind PySem.Challenge.rw_ok0061_01.row.prog w) pl) (loP : (P == sysModules) = false) (hpl : valueAt pl (i : Int) = none) (hz : pl.length ≤ 17)
    (offP : ∀ p ∈ rest, p.1 ≠ P) (hv : handedIn val = true) :
    Does w 270 4 40 [.ref ce, .ref a, .ref nm, val] ((P, oP) :: rest) (fun v news' => ∃ p1 pd p2 d2 u1 u2 u3 u4 oP', v = .none ∧ oP'.IsDictOf (intKind PySem.Challenge.rw_ok0061_01.row.prog w) (stored pl (i : Int) (.ref p1)) ∧
      news' = (p1, instObj 99 pd) :: (pd, dictOf [ent w "car" u1 (.ref nm), ent w "cdr" u2 (.ref p2)] 2) :: (p2, instObj 99 d2) :: (d2, dictOf [ent w "car" u3 val, ent w "cdr" u4 (.ref 78)] 2) :: (P, oP') :: rest ∧
      (@LT.lt Nat _ P d2 ∧ AllLt d2 rest) ∧ @LT.lt Nat _ d2 p2 ∧ @LT.lt Nat _ p2 pd ∧ @LT.lt Nat _ pd p1) := by
  have : PySem.Challenge.rw_ok0061_01 = PySem.Challenge.rw_ok0061_01 ∧ hdz.heap_1 = hdz.heap_1 := by
    k_fill
    exact ⟨rfl, rfl⟩
  clear this
  unfold Does
  intro dp un gd cn cs a ccd cl outer A₀ base h₀ L m mean mg mb s Q E B F X N T hk hd hu hret

  refine wpAny_call ?_
  k_dflt ktr_enter
  k_steps
  exact hret _ _ _ _ (by assumption) (by assumption) ⟨_, _, _, _, _, _, _, _, _, rfl, (by assumption), rfl, (by assumption), (by omega), (by omega), (by omega)⟩
set_option maxRecDepth 100000 in
set_option maxHeartbeats 8000000 in
theorem put2_ok (w : World) (ce dc P a sd nm nm1 nd nd1 p1 pd p2 d2 : Addr) (t3 t4 s1 s2 s3 s4 u1 u2 u3 u4 : Tok) (i : Nat) (name : Str) (v1 val0 val : Value) (oP : Obj) (pl : List (Int × Value)) (rest : List (Addr × Obj)) (m5 : (ce, instObj 273 dc) ∈ rest) (m6 : (dc, dictOf [ent w "functions" t3 v1, ent w "plists" t4 (.ref P)] 2) ∈ rest)
    (q1 : (a, instObj 72 sd) ∈ rest) (q2 : (sd, dictOf [ent w "number" s1 (.int (i : Nat) s3), ent w "name" s2 (.str name s4)] 2) ∈ rest) (dP : oP.IsDictOf (intKind PySem.Challenge.rw_ok0061_01.row.prog w) pl) (loP : (P == sysModules) = false) (hpl : valueAt pl (i : Int) = some (.ref p1))
    (r1 : (p1, instObj 99 pd) ∈ rest) (r2 : (pd, dictOf [ent w "car" u1 (.ref nm1), ent w "cdr" u2 (.ref p2)] 2) ∈ rest) (r3 : (p2, instObj 99 d2) ∈ rest) (hne : @Ne Nat nm1 nm) (r4 : (nm, instObj 72 nd) ∈ rest) (r5 : (nm1, instObj 72 nd1) ∈ rest) (jn : Int) (sn : Str) (z1 z2 z3 z4 : Tok) (r6 : (nd, dictOf [ent w "number" z1 (.int jn z3), ent w "name" z2 (.str sn z4)] 2) ∈ rest)
    (off2 : ∀ p ∈ rest, p.1 ≠ d2) (hP2 : @Ne Nat d2 P) (hv : handedIn val = true) (hv0 : handedIn val0 = true) :
    Does w 270 4 40 [.ref ce, .ref a, .ref nm, val] ((d2, dictOf [ent w "car" u3 val0, ent w "cdr" u4 (.ref 78)] 2) :: (P, oP) :: rest) (fun v news' => ∃ u5 x, v = .none ∧ handedIn x = true ∧
      news' = (d2, dictOf [ent w "car" u3 val0, ent w "cdr" u5 x] 2) :: (P, oP) :: rest) := by
  have : PySem.Challenge.rw_ok0061_01 = PySem.Challenge.rw_ok0061_01 ∧ hdz.heap_1 = hdz.heap_1 := by
    k_fill
    exact ⟨rfl, rfl⟩
  clear this
  unfold Does
  intro dp un gd cn cs a ccd cl outer A₀ base h₀ L m mean mg mb s Q E B F X N T hk hd hu hret

  refine wpAny_call ?_
  k_dflt ktr_enter
  k_steps
  exact hret _ _ _ _ (by assumption) (drop4 (by assumption)) ⟨_, _, rfl, rfl, rfl⟩
end
section
local macro_rules | `(tactic| walk_at "IDLE") => `(tactic| skip)
local macro_rules | `(tactic| walk_at "compareOp NotEq ref ref") => `(tactic| (k_here; k_dflt (first
  | focus (refine' ne_nil ?_ ?_ ?_ ?_; rotate_right 4; top_reprB; top_reprB; ktr_units; k_whole)
  | focus (refine' ne_cons ?_ ?_ ?_ ?_ ?_; rotate_right 5; top_reprB; top_reprB; (with_reducible exact IntsAre.cons _ _ (by l_ints)); ktr_units; k_whole))))
local macro_rules | `(tactic| walk_at "call builtin:list.pop") => `(tactic| (k_here; k_dflt (focus (refine' pop_first ?_ ?_ ?_ ?_ ?_; rotate_right 5; k_asm; k_asm; k_upd; omega; k_whole)); intro h' F' N'; (try dsimp only at N')))
local macro_rules | `(tactic| row_timed "PICK" ($_t)) => `(tactic| with_reducible (first | assumption | (apply And.left; (iterate 17 (first | done | assumption | apply And.right)); done) | (apply And.right; (iterate 17 (first | done | assumption | apply And.right)); done)))
local macro_rules | `(tactic| k_ne) => `(tactic| (refine neN ?_; (try dsimp only); first | exact Nat.ne_of_gt (by row_timed "PICK" (fail)) | exact Nat.ne_of_lt (by row_timed "PICK" (fail)) | exact (by row_timed "PICK" (fail)) | exact Ne.symm (by row_timed "PICK" (fail)) | omega))
local macro_rules | `(tactic| walk_at "exec While BoolOp cons nil") => `(tactic| refine Hold.out ?_)

set_option maxRecDepth 100000 in
set_option maxHeartbeats 8000000 in
theorem draw_ok (w : World) (dk C S : Addr) (kd : Nat) (d : Dk) (many : Int) (tm : Tok) (rest : List (Addr × Obj)) (hd0 : (dk, listOf #[.ref C, .ref S] kd) ∈ rest) (hCS : @Ne Nat C S)
    (offC : ∀ p ∈ rest, p.1 ≠ C) (offS : ∀ p ∈ rest, p.1 ≠ S) (ok : DkOk d) (hm0 : 1 ≤ many) (hm1 : many ≤ 1000) :
    Does w 540 2 100 [.ref dk, .int many tm] (dkL C S d ++ rest) (fun v news' => ∃ d' r t, v = .int r t ∧ 0 ≤ r ∧ r < many ∧ DkOk d' ∧ news' = dkL C S d' ++ rest) := by
  have : PySem.Challenge.rw_ok0061_01 = PySem.Challenge.rw_ok0061_01 ∧ hdz.heap_1 = hdz.heap_1 := by
    k_fill
    exact ⟨rfl, rfl⟩
  clear this
  unfold Does
  intro dp un gd cn cs a ccd cl outer A₀ base h₀ L m mean mg mb s Q E B F X N T hk hd hu hret

  obtain ⟨vs, ns, kc, sd, ts, ks⟩ := d
  obtain ⟨hints, hlo, hhi, hlen, hs0, hs1⟩ := ok
  dsimp only [dkL, List.cons_append, List.nil_append] at N hints hlo hhi hlen hs0 hs1
  refine wpAny_call ?_
  k_dflt ktr_enter
  k_steps
  unfold Hold
  refine loop_whl [] [] (fun n V nx => ∃ d' : Dk, V = [] ∧ DkOk d' ∧ n = d'.ns.length ∧ nx = dkL C S d' ++ rest) ns.length (by assumption) (by assumption) (fun _ h => nomatch h) ⟨⟨vs, ns, kc, sd, ts, ks⟩, rfl, ⟨hints, hlo, hhi, hlen, hs0, hs1⟩, rfl, rfl⟩ ?_
  intro n V u news₁ h₁ tk₁ hJ F₁ N₁
  (refine el_EAAA (hJ) ?_; (try clear hJ); rintro ⟨vs, ns, kc, sd, ts, ks⟩ rfl ⟨hints, hlo, hhi, hlen, hs0, hs1⟩ rfl rfl)
  dsimp only [dkL, List.cons_append, List.nil_append] at N₁ hints hlo hhi hlen hs0 hs1
  cases hints with
  | nil =>
    k_steps
    exact hret _ _ _ _ (by assumption) (draw_news [_, _] [] (by assumption)) ⟨_, _, _, rfl, fmod_lo _ (by omega), fmod_hi _ (by omega), ⟨.nil, (by (first | regstrif_fact | simp)), (by (first | regstrif_fact | simp)), Nat.zero_le _, seed_lo _, seed_hi _⟩, rfl⟩
  | cons x0 t0 hr =>
    rename_i vs1 ns1
    have hvl : vs1.length ≤ 1000 := by have := hr.length; simp at hlen; omega
    have hx0 := hlo x0 List.mem_cons_self
    have hx1 := hhi x0 List.mem_cons_self
    have hlen1 : ns1.length ≤ 10 := by simp at hlen; omega
    have hlen2 : ns1.length ≤ 9 := by simp at hlen; omega
    have hlo1 : ∀ n ∈ ns1, 0 ≤ n := fun n hn => hlo n (List.mem_cons_of_mem _ hn)
    have hhi1 : ∀ n ∈ ns1, n < 10 ^ 24 := fun n hn => hhi n (List.mem_cons_of_mem _ hn)
    have hq0 : 0 ≤ ((x0 :: ns1).getD (Int.toNat 0) 0).fdiv many := by
      show 0 ≤ x0.fdiv many
      rw [Int.fdiv_eq_ediv_of_nonneg _ (by omega)]; exact Int.ediv_nonneg hx0 (by omega)
    have hq1 : ((x0 :: ns1).getD (Int.toNat 0) 0).fdiv many < 10 ^ 24 := by
      show x0.fdiv many < 10 ^ 24
      rw [Int.fdiv_eq_ediv_of_nonneg _ (by omega)]; exact Int.lt_of_le_of_lt (Int.ediv_le_self _ hx0) hx1
    k_steps
    · refine draw_turn (g := [_]) (ns := ns1) (by assumption) (by assumption) ⟨hr, hlo1, hhi1, hlen1, seed_lo _, seed_hi _⟩ (Nat.lt_succ_self _) fun z => ?_
      simp only [frM, setM, List.not_mem_nil, if_false]
    · refine hret _ _ _ _ (by assumption) (draw_news [_, _] (_ :: ns1) (by assumption)) ⟨_, _, _, rfl, fmod_lo _ (by omega), fmod_hi _ (by omega), ⟨.cons _ _ hr, ?_, ?_, (by simp; omega), hs0, hs1⟩, rfl⟩
      · intro n hn
        rcases List.mem_cons.mp hn with rfl | hn
        · exact hq0
        · exact hlo1 n hn
      · intro n hn
        rcases List.mem_cons.mp hn with rfl | hn
        · exact hq1
        · exact hhi1 n hn
theorem draw_use {w : World} {C S : Addr} {many : Int} {rest news : List (Addr × Obj)} {dp un : Nat} {gd : Option (List Code)} {cn : Str} {cs : Scope} {a : Addr} {ccd : Value} {cl : List (Str × Addr)} {outer : List Env} {A₀ : Around} {base h₀ : Heap} {L : Addr} {m : Str → Option Value}
    {mean : ExcName → Option Value} {mg mb : Str → Option Value} {s : Shared} {Q E : Value → Shared → Prop} {r u : Nat} {vs : List Value}
    (D : Does w 540 r u vs news (fun v news' => ∃ d' r t, v = .int r t ∧ 0 ≤ r ∧ r < many ∧ DkOk d' ∧ news' = dkL C S d' ++ rest))
    (B : Below A₀ base outer h₀) (F : Fr h₀ L s.heap m) (X : (hdz.heap_1 w.params).In h₀) (N : News h₀ L s.heap news) (T : Top hdz.view_1 lse mean mg mb h₀) (hk : cs.kind = .function)
    (hd : dp + r < recursionLimit) (hu : un + u < cLine)
    (ret : ∀ d' (r : Int) (t : Tok) h' tk', 0 ≤ r → r < many → DkOk d' → Fr h₀ L h' m → News h₀ L h' (dkL C S d' ++ rest) → Q (.int r t) { s with heap := h', toks := tk' }) :
    wpAny (model PySem.Challenge.rw_ok0061_01.row.prog w) (ktrTop dp un gd cn cs L a ccd cl outer) (call (.ref 540) vs) Q E s :=
  does_use D B F X N T hk hd hu fun _ _ h' tk' F' N' ⟨d', r, t, e, lo, hi, ok, e'⟩ => by
    subst e e'
    exact ret d' r t h' tk' lo hi ok F' N'
end
section
local macro_rules | `(tactic| walk_at "IDLE") => `(tactic| skip)
local macro_rules | `(tactic| walk_at "IDLE") => `(tactic| skip)
local macro_rules | `(tactic| walk_at "IDLE") => `(tactic| skip)
local macro_rules | `(tactic| walk_at "IDLE") => `(tactic| skip)
local macro_rules | `(tactic| walk_at "exec For Name Tuple cons nil") => `(tactic| refine Hold.out ?_)

def nm24 : List Str := [Str.ofString "user-error", Str.ofString "wrong-type-argument", Str.ofString "args-out-of-range", Str.ofString "void-function", Str.ofString "void-variable", Str.ofString "cyclic-function-indirection", Str.ofString "cyclic-variable-indirection", Str.ofString "circular-list", Str.ofString "setting-constant", Str.ofString "invalid-read-syntax", Str.ofString "invalid-function", Str.ofString "wrong-number-of-arguments", Str.ofString "end-of-file", Str.ofString "arith-error", Str.ofString "beginning-of-buffer", Str.ofString "end-of-buffer", Str.ofString "buffer-read-only", Str.ofString "mark-inactive", Str.ofString "search-failed", Str.ofString "invalid-regexp", Str.ofString "scan-error", Str.ofString "file-error", Str.ofString "no-catch", Str.ofString "coding-system-error"]
theorem strs_of {its : List Value} {ss : List Str} : its.map (fun v => match v with | .str s _ => some s | _ => none) = ss.map some → StrsAre its ss := by
  induction its generalizing ss with
  | nil => intro h; cases ss with
    | nil => exact .nil
    | cons _ _ => cases h
  | cons v r ih =>
    intro h
    cases ss with
    | nil => cases h
    | cons s ss =>
      simp only [List.map_cons, List.cons.injEq] at h
      obtain ⟨h1, h2⟩ := h
      cases v <;> simp at h1
      subst h1
      exact .cons _ _ (ih h2)
theorem std_names {h₀ h : Heap} {L D l2 l1 d : Addr} {its : Array Value} {q e : Str} {t2 t1 : Tok} {o : Obj} {r : List (Addr × Obj)} (N : News h₀ L h ((D, tupOf its 0) :: (l2, listOf #[.str q t2] 0) :: (l1, listOf #[.str e t1] 0) :: (d, o) :: r))
    (hs : its.toList.map (fun v => match v with | .str s _ => some s | _ => none) = nm24.map some) :
    ∃ its' x2 x1, StrsAre its'.toList nm24 ∧ (∃ ys : List Value, x2 = listOf ys.toArray 0 ∧ StrsAre ys [q]) ∧ (∃ ys : List Value, x1 = listOf ys.toArray 0 ∧ StrsAre ys [e]) ∧
      News h₀ L h ((D, tupOf its' 0) :: (l2, x2) :: (l1, x1) :: (d, o) :: r) :=
  ⟨its, _, _, strs_of hs, ⟨[.str q t2], rfl, .cons _ _ .nil⟩, ⟨[.str e t1], rfl, .cons _ _ .nil⟩, N⟩
theorem nmA_t {h₀ h : Heap} {L l d : Addr} {sn er : Str} {t1 t2 : Tok} {k : Nat} {o : Obj} {b : Addr × Obj} {r : List (Addr × Obj)} (N : News h₀ L h ((l, listOf #[.str sn t1, .str er t2] k) :: b :: (d, o) :: r)) : ∃ t2', News h₀ L h ((l, listOf #[.str sn t1, .str er t2'] k) :: b :: (d, o) :: r) := ⟨_, N⟩
def Std24 (kvs : List (Str × Value)) (tl : List (Addr × Obj)) (x : Str) : Prop := ∃ l k ys, valueAt kvs x = some (.ref l) ∧ (l, listOf ys.toArray k) ∈ tl ∧ StrsAre ys [x, Str.ofString "error"]
structure Jst (w : World) (kvs0 : List (Str × Value)) (D9 : Addr) (i : Nat) (o : Obj) (kvs : List (Str × Value)) (tl : List (Addr × Obj)) : Prop where
  isd : o.IsDictOf (strKind PySem.Challenge.rw_ok0061_01.row.prog w) kvs
  len : kvs.length ≤ i + 2
  fr : ∀ p ∈ tl, @LT.lt Nat _ D9 p.1
  a : ∀ x ∈ nm24.take i, Std24 kvs tl x
  b : ∀ x, x ∉ nm24 → valueAt kvs x = valueAt kvs0 x
theorem Jst.next {w : World} {kvs0 : List (Str × Value)} {D9 l9 : Addr} {i : Nat} {o o2 : Obj} {kvs : List (Str × Value)} {tl : List (Addr × Obj)} {sn : Str} {st t2 : Tok} (J : Jst w kvs0 D9 i o kvs tl) (hsn : nm24[i]? = some sn) (hl : @LT.lt Nat _ D9 l9)
    (hd : o2.IsDictOf (strKind PySem.Challenge.rw_ok0061_01.row.prog w) (stored kvs sn (.ref l9))) : Jst w kvs0 D9 (i + 1) o2 (stored kvs sn (.ref l9)) ((l9, listOf #[.str sn st, .str (Str.ofString "error") t2] 0) :: tl) where
  isd := hd
  len := by have := stored_length kvs sn (.ref l9); have := J.len; omega
  fr := fun p hp => by
    rcases List.mem_cons.mp hp with rfl | hp
    · exact hl
    · exact J.fr p hp
  a := fun x hx => by
    by_cases e : sn = x
    · subst e
      exact ⟨l9, 0, [.str sn st, .str (Str.ofString "error") t2], by rw [valueAt_stored, if_pos rfl], List.mem_cons_self, .cons _ _ (.cons _ _ .nil)⟩
    · rw [List.take_add_one, hsn] at hx
      rcases List.mem_append.mp hx with hx | hx
      · (refine el_EEEAA (J.a x hx) ?_; rintro l k ys h1 h2 h3)
        exact ⟨l, k, ys, by rw [valueAt_stored, if_neg e]; exact h1, List.mem_cons_of_mem _ h2, h3⟩
      · simp at hx; exact absurd hx.symm e
  b := fun x hx => by
    have e : sn ≠ x := by rintro rfl; exact hx (List.mem_of_getElem? hsn)
    rw [valueAt_stored, if_neg e]; exact J.b x hx
theorem std_end {w : World} {d9 D9 l2 l1 a1 a2 a3 a4 a5 a6 : Addr} {its : Array Value} {x2 x1 X1 X2 X3 X4 X5 X6 o o6 : Obj} {kvs : List (Str × Value)} {tl news : List (Addr × Obj)}
    (hx2 : ∃ ys : List Value, x2 = listOf ys.toArray 0 ∧ StrsAre ys [Str.ofString "quit"]) (hx1 : ∃ ys : List Value, x1 = listOf ys.toArray 0 ∧ StrsAre ys [Str.ofString "error"]) (q0 : ∀ p ∈ news, p.1 < d9) (tlt : ∀ q ∈ tl, @LT.lt Nat _ d9 q.1) (q3 : @LT.lt Nat _ d9 D9) (q2 : @LT.lt Nat _ d9 l2) (q1 : @LT.lt Nat _ d9 l1)
    (J : Jst w [(Str.ofString "error", .ref l1), (Str.ofString "quit", .ref l2)] D9 24 o kvs tl) (lo : (d9 == sysModules) = false)
    (hd : o6.IsDictOf (strKind PySem.Challenge.rw_ok0061_01.row.prog w) (stored (stored (stored (stored (stored (stored kvs (Str.ofString "text-read-only") (.ref a1)) (Str.ofString "overflow-error") (.ref a2)) (Str.ofString "file-already-exists") (.ref a3)) (Str.ofString "file-missing") (.ref a4)) (Str.ofString "file-locked") (.ref a5)) (Str.ofString "minibuffer-quit") (.ref a6)))
    (k1 : @LT.lt Nat _ d9 a1) (k2 : @LT.lt Nat _ d9 a2) (k3 : @LT.lt Nat _ d9 a3) (k4 : @LT.lt Nat _ d9 a4) (k5 : @LT.lt Nat _ d9 a5) (k6 : @LT.lt Nat _ d9 a6) (hX2 : ∃ ys : List Value, X2 = listOf ys.toArray 0 ∧ StrsAre ys [Str.ofString "overflow-error", Str.ofString "range-error", Str.ofString "arith-error", Str.ofString "error"]) :
    Adds news (fun r tl => ∃ d o kvs, r = .ref d ∧ (d, o) ∈ tl ∧ (d == sysModules) = false ∧ o.IsDictOf (strKind PySem.Challenge.rw_ok0061_01.row.prog w) kvs ∧ ∀ name ∈ std5, (name = Str.ofString "nobody" ∧ valueAt kvs name = none) ∨ ∃ l k ys, valueAt kvs name = some (.ref l) ∧ (l, listOf ys.toArray k) ∈ tl ∧ StrsAre ys (stdOf name)) (.ref d9)
      ((a6, X6) :: (a5, X5) :: (a4, X4) :: (a3, X3) :: (a2, X2) :: (a1, X1) :: (d9, o6) :: (tl ++ ((D9, tupOf its 0) :: (l2, x2) :: (l1, x1) :: news))) := by
  refine ⟨(a6, X6) :: (a5, X5) :: (a4, X4) :: (a3, X3) :: (a2, X2) :: (a1, X1) :: (d9, o6) :: (tl ++ [(D9, tupOf its 0), (l2, x2), (l1, x1)]), by simp, ?_, d9, o6, _, rfl, by simp, lo, hd, ?_⟩
  · have hp9 : ∀ p ∈ (a6, X6) :: (a5, X5) :: (a4, X4) :: (a3, X3) :: (a2, X2) :: (a1, X1) :: (d9, o6) :: (tl ++ [(D9, tupOf its 0), (l2, x2), (l1, x1)]), @LE.le Nat _ d9 p.1 := by
      intro p hp
      simp only [List.mem_cons, List.mem_append, List.not_mem_nil, or_false] at hp
      rcases hp with rfl | rfl | rfl | rfl | rfl | rfl | rfl | hp | rfl | rfl | rfl
      · exact Nat.le_of_lt k6
      · exact Nat.le_of_lt k5
      · exact Nat.le_of_lt k4
      · exact Nat.le_of_lt k3
      · exact Nat.le_of_lt k2
      · exact Nat.le_of_lt k1
      · exact Nat.le_refl _
      · exact Nat.le_of_lt (tlt p hp)
      · exact Nat.le_of_lt q3
      · exact Nat.le_of_lt q2
      · exact Nat.le_of_lt q1
    intro p hp q hq
    exact Nat.lt_of_lt_of_le (q0 q hq) (hp9 p hp)
  · intro name hn
    have base : ∀ x, x ≠ Str.ofString "text-read-only" → x ≠ Str.ofString "overflow-error" → x ≠ Str.ofString "file-already-exists" → x ≠ Str.ofString "file-missing" → x ≠ Str.ofString "file-locked" → x ≠ Str.ofString "minibuffer-quit" →
        valueAt (stored (stored (stored (stored (stored (stored kvs (Str.ofString "text-read-only") (.ref a1)) (Str.ofString "overflow-error") (.ref a2)) (Str.ofString "file-already-exists") (.ref a3)) (Str.ofString "file-missing") (.ref a4)) (Str.ofString "file-locked") (.ref a5)) (Str.ofString "minibuffer-quit") (.ref a6)) x = valueAt kvs x := by
      intro x h1 h2 h3 h4 h5 h6
      rw [valueAt_stored, if_neg (Ne.symm h6), valueAt_stored, if_neg (Ne.symm h5), valueAt_stored, if_neg (Ne.symm h4), valueAt_stored, if_neg (Ne.symm h3), valueAt_stored, if_neg (Ne.symm h2), valueAt_stored, if_neg (Ne.symm h1)]
    simp only [std5, List.mem_cons, List.not_mem_nil, or_false] at hn
    rcases hn with rfl | rfl | rfl | rfl | rfl
    · right
      (refine el_EA (hx1) ?_; (try clear hx1); rintro ys rfl hys)
      exact ⟨l1, 0, ys, by rw [base _ (by decide) (by decide) (by decide) (by decide) (by decide) (by decide), J.b _ (by decide)]; rfl, by simp, hys⟩
    · right
      (refine el_EA (hx2) ?_; (try clear hx2); rintro ys rfl hys)
      exact ⟨l2, 0, ys, by rw [base _ (by decide) (by decide) (by decide) (by decide) (by decide) (by decide), J.b _ (by decide)]; rfl, by simp, hys⟩
    · right
      (refine el_EEEAA (J.a (Str.ofString "arith-error") (by decide)) ?_; rintro l k ys h1 h2 h3)
      exact ⟨l, k, ys, by rw [base _ (by decide) (by decide) (by decide) (by decide) (by decide) (by decide)]; exact h1, by (first | exact sub_p h2 (by regstrif_slice) | simp [h2]), h3⟩
    · right
      (refine el_EA (hX2) ?_; (try clear hX2); rintro ys rfl hys)
      exact ⟨a2, 0, ys, by
        rw [valueAt_stored, if_neg (by decide), valueAt_stored, if_neg (by decide), valueAt_stored, if_neg (by decide), valueAt_stored, if_neg (by decide), valueAt_stored, if_pos rfl], by simp, hys⟩
    · left
      exact ⟨rfl, by rw [base _ (by decide) (by decide) (by decide) (by decide) (by decide) (by decide), J.b _ (by decide)]; rfl⟩
section
set_option maxRecDepth 100000 in
set_option maxHeartbeats 8000000 in
theorem std_ok (w : World) (news : List (Addr × Obj)) :
    Does w 48 2 24 [] news (Adds news fun r tl => ∃ d o kvs, r = .ref d ∧ (d, o) ∈ tl ∧ (d == sysModules) = false ∧ o.IsDictOf (strKind PySem.Challenge.rw_ok0061_01.row.prog w) kvs ∧ ∀ name ∈ std5, (name = Str.ofString "nobody" ∧ valueAt kvs name = none) ∨ ∃ l k ys, valueAt kvs name = some (.ref l) ∧ (l, listOf ys.toArray k) ∈ tl ∧ StrsAre ys (stdOf name)) := by
  have : PySem.Challenge.rw_ok0061_01 = PySem.Challenge.rw_ok0061_01 ∧ hdz.heap_1 = hdz.heap_1 := by
    k_fill
    exact ⟨rfl, rfl⟩
  clear this
  unfold Does
  intro dp un gd cn cs a ccd cl outer A₀ base h₀ L m mean mg mb s Q E B F X N T hk hd hu hret

  refine wpAny_call ?_
  k_dflt ktr_enter
  k_steps
  unfold Hold
  rename_i g9 _ _ _ _ _ _ _ _ _ _ _ _ _ _ _ _ _ _ _ _ _ _ _ _ _
  with_reducible refine For_invV g9 ?hx ?hp ?hm ?hs ?hE
  case hx => exact rfl
  case hp => exact rfl
  case hs => intro _; exact rfl
  case hE => passes_own
  k_steps
  unfold Hold
  rename_i d9 _ _ _ _ _ l1 _ _ l2 _ _ _ o9 _ _ D9 _ _ _ _
  (refine el_EEEAAA (std_names ‹News g9 _ _ _› rfl) ?_; rintro its x2 x1 hits hx2 hx1 N9)
  have q0 := ‹∀ p ∈ news, p.1 < d9›
  obtain ⟨q1, q1a⟩ := ‹@LT.lt Nat _ d9 l1 ∧ AllLt l1 news›
  (refine el_AA (‹@LT.lt Nat _ l1 l2 ∧ @LT.lt Nat _ d9 l2 ∧ AllLt l2 news›) ?_; rintro q2 q2b q2a)
  (refine el_AAA (‹@LT.lt Nat _ l2 D9 ∧ @LT.lt Nat _ l1 D9 ∧ @LT.lt Nat _ d9 D9 ∧ AllLt D9 news›) ?_; rintro q3 q3b q3c q3a)
  obtain ⟨kvs0, hk0⟩ : ∃ kvs0 : List (Str × Value), kvs0 = [(Str.ofString "error", .ref l1), (Str.ofString "quit", .ref l2)] := ⟨_, rfl⟩
  have hd9 : Obj.IsDictOf (PySem.strKind PySem.Challenge.rw_ok0061_01.row.prog w) o9 kvs0 := by rw [hk0]; exact ‹Obj.IsDictOf _ o9 _›
  have hsz24 : its.size = 24 := by have := strs_length hits; simpa [nm24] using this
  have qlt : ∀ q ∈ (d9, o9) :: (l2, x2) :: (l1, x1) :: news, @LT.lt Nat _ q.1 D9 := by
    intro q hq
    simp only [List.mem_cons] at hq
    rcases hq with rfl | rfl | rfl | hq
    · exact q3c
    · exact q3
    · exact q3b
    · exact AllLt.mem q3a q hq
  refine loop_tup (its := its) [Str.ofString "name"] [] (fun i V nx => ∃ o kvs tl, V = [] ∧ nx = (d9, o) :: (tl ++ ((D9, tupOf its 0) :: (l2, x2) :: (l1, x1) :: news)) ∧ Jst w kvs0 D9 i o kvs tl) rfl (l := D9) (k := 0) (news := (d9, o9) :: ([] ++ ((D9, tupOf its 0) :: (l2, x2) :: (l1, x1) :: news))) ?m1 (by assumption) (News.sub N9 ?m2) (fun _ h => nomatch h) ⟨o9, _, [], rfl, rfl, ⟨hd9, ?b1, (fun _ h => nomatch h), ?b2, fun _ _ => rfl⟩⟩ ?keep ?turn ?done
  case m1 => exact List.mem_cons_of_mem _ List.mem_cons_self
  case m2 =>
    regstrif_slice
  case b1 => rw [hk0]; exact Nat.le.refl
  case b2 => intro x hx; simp at hx
  case keep =>
    intro i V nx hcx; (refine el_EEEAA (hcx) ?_; (try clear hcx); rintro o kvs tl rfl rfl J)
    exact List.mem_cons_of_mem _ (List.mem_append_right _ List.mem_cons_self)
  case turn =>
    intro i V u news₁ h tk' v I oI hv hJ offI F₁ N₁
    (refine el_EEEAA (hJ) ?_; (try clear hJ); rintro o kvs tl rfl rfl J)
    (refine el_EEA (strs_get hits (by simpa using hv)) ?_; rintro sn st rfl hsn)
    have hi24 : i < 24 := by have := (List.getElem?_eq_some_iff.mp hsn).1; simpa [nm24] using this
    have tlt : ∀ q ∈ tl, @LT.lt Nat _ d9 q.1 := fun q hq => Nat.lt_trans q3c (J.fr q hq)
    have offd : ∀ p ∈ tl ++ (D9, tupOf its 0) :: (l2, x2) :: (l1, x1) :: news, p.1 ≠ d9 := by
      intro p hp
      simp only [List.mem_append, List.mem_cons] at hp
      rcases hp with hp | rfl | rfl | rfl | hp
      · exact Nat.ne_of_gt (tlt p hp)
      · exact Nat.ne_of_gt q3c
      · exact Nat.ne_of_gt q2b
      · exact Nat.ne_of_gt q1
      · exact Nat.ne_of_lt (q0 p hp)
    have hid : @Ne Nat d9 I := offI (d9, o) List.mem_cons_self
    have hid2 : @Ne Nat I d9 := Ne.symm hid
    have hisd := J.isd
    have hlen := J.len
    have hkl : kvs.length ≤ 100 := by omega
    k_steps
    rename_i l9 _ _ _ _ _ o8 _ _ _
    obtain ⟨t9, N8⟩ := nmA_t ‹News g9 _ _ ((_, listOf #[Value.str sn st, _] 0) :: _)›
    (refine el_AA (‹@LT.lt Nat _ I l9 ∧ @LT.lt Nat _ d9 l9 ∧ _›) ?_; rintro l9a l9b l9c)
    have hl9 : @LT.lt Nat _ D9 l9 := AllLt.mem l9c (D9, tupOf its 0) (by (first | regstrif_fact | simp))
    refine TurnEnd.next (news' := (d9, o8) :: (((l9, listOf #[.str sn st, .str (Str.ofString "error") t9] 0) :: tl) ++ ((D9, tupOf its 0) :: (l2, x2) :: (l1, x1) :: news))) (by assumption) (News.sub N8 ?_) ?_ (JV.intro [] ⟨o8, _, _ :: tl, rfl, rfl, J.next hsn hl9 (by assumption)⟩ (fun _ h => nomatch h) ?_)
    · regstrif_slice
    · intro p hp
      simp only [List.cons_append, List.mem_cons] at hp
      rcases hp with rfl | rfl | hp
      · exact hid
      · exact Nat.ne_of_gt l9a
      · exact offI p (List.mem_cons_of_mem _ hp)
    · intro z h1 h2
      simp only [List.mem_singleton] at h2
      simp only [if_neg h2, frM, setM, List.mem_singleton]
  case done =>
    intro V u news₁ h tk' hJ F₁ N₁
    (refine el_EEEAA (hJ) ?_; (try clear hJ); rintro o kvs tl rfl rfl J)
    have tlt : ∀ q ∈ tl, @LT.lt Nat _ d9 q.1 := fun q hq => Nat.lt_trans q3c (J.fr q hq)
    have offd : ∀ p ∈ tl ++ (D9, tupOf its 0) :: (l2, x2) :: (l1, x1) :: news, p.1 ≠ d9 := by
      intro p hp
      simp only [List.mem_append, List.mem_cons] at hp
      rcases hp with hp | rfl | rfl | rfl | hp
      · exact Nat.ne_of_gt (tlt p hp)
      · exact Nat.ne_of_gt q3c
      · exact Nat.ne_of_gt q2b
      · exact Nat.ne_of_gt q1
      · exact Nat.ne_of_lt (q0 p hp)
    have hisd := J.isd
    have hlen := J.len
    rw [hsz24] at hlen
    k_steps
    rw [hsz24] at J
    subst hk0
    refine hret _ _ _ _ (by assumption) (by assumption) (std_end hx2 hx1 q0 tlt q3c q2b q1 J (by assumption) (by assumption) ?_ ?_ ?_ ?_ ?_ ?_ ⟨[.str _ _, .str _ _, .str _ _, .str _ _], rfl, .cons _ _ (.cons _ _ (.cons _ _ (.cons _ _ .nil)))⟩) <;> omega
end
theorem stdOf_nobody : stdOf (Str.ofString "nobody") = [Str.ofString "nobody"] := by decide
section
set_option maxRecDepth 100000 in
set_option maxHeartbeats 8000000 in
theorem cond_of_ok (w : World) (name : Str) (tk : Tok) (news : List (Addr × Obj)) (hn : name ∈ std5) :
    Does w 55 4 40 [.str name tk] news (Adds news fun v tl => ∃ l k ys, v = .ref l ∧ (l, listOf ys.toArray k) ∈ tl ∧ StrsAre ys (stdOf name)) := by
  have : PySem.Challenge.rw_ok0061_01 = PySem.Challenge.rw_ok0061_01 ∧ hdz.heap_1 = hdz.heap_1 := by
    k_fill
    exact ⟨rfl, rfl⟩
  clear this
  unfold Does
  intro dp un gd cn cs a ccd cl outer A₀ base h₀ L m mean mg mb s Q E B F X N T hk hd hu hret

  refine wpAny_call ?_
  k_dflt ktr_enter
  k_steps
  unfold Hold
  refine adds_use (std_ok w _) (by assumption) (by assumption) (by assumption) (by assumption) (by assumption) rfl (by ktr_room) (by ktr_units) ?_
  intro v1 tl1 h1 tk1 F1 N1 fr1 ⟨d, o, kvs, e, hd1, lo, hdd, hall⟩
  subst e
  have hd2 : (d, o) ∈ tl1 ++ news := List.mem_append_left _ hd1
  rcases hall name hn with ⟨hnn, hv⟩ | ⟨l, k, ys, hv, hl, hys⟩
  · k_steps
    have l9 := ‹∀ p ∈ tl1 ++ news, _›
    refine hret _ _ _ _ (by assumption) (by assumption) ⟨_ :: tl1, rfl, ?_, _, _, [_], rfl, List.mem_cons_self, by rw [hnn, stdOf_nobody]; exact .cons _ _ .nil⟩
    intro p hp q hq
    rcases List.mem_cons.mp hp with rfl | hp
    · exact l9 q (List.mem_append_right _ hq)
    · exact fr1 p hp q hq
  · k_steps
    have l9 := ‹∀ p ∈ tl1 ++ news, _›
    refine hret _ _ _ _ (by assumption) (by assumption) ⟨_ :: tl1, rfl, ?_, l, k, ys, rfl, List.mem_cons_of_mem _ hl, hys⟩
    intro p hp q hq
    rcases List.mem_cons.mp hp with rfl | hp
    · exact l9 q (List.mem_append_right _ hq)
    · exact fr1 p hp q hq
end
end
section
local macro_rules | `(tactic| walk_at "exec While BoolOp cons nil") => `(tactic| (k_here; k_dflt (refine whl_start 100 ?_)))


set_option maxRecDepth 100000 in
set_option maxHeartbeats 8000000 in
theorem conditions_ok (w : World) (c : Cfg) (σ : St) (imm fr rest : List (Addr × Obj)) (name : Str) (tk : Tok) (hu2 : name ∈ uni2)
    (hX : σ.X = []) (hD : σ.D.lookup name = none → name ∈ std5) (H : WI w c σ imm) (hs : ∀ p ∈ imm, p ∈ rest) (off : Off c (fr ++ rest)) :
    Does w 157 8 64 [.ref c.wA, .str name tk] (mutL c σ ++ (fr ++ rest)) (Step w c σ imm fr rest fun v σ' imm' => ∃ l k ys, v = .ref l ∧ (l, listOf ys.toArray k) ∈ imm' ∧ StrsAre ys (condsOf σ.D name)) := by
  have : PySem.Challenge.rw_ok0061_01 = PySem.Challenge.rw_ok0061_01 ∧ hdz.heap_1 = hdz.heap_1 := by
    k_fill
    exact ⟨rfl, rfl⟩
  clear this
  unfold Does
  have hu1 := uni2_sub hu2
  have hn0 := (uni2_ne hu2).1
  have hn1 := (uni2_ne hu2).2
  intro dp un gd cn cs a ccd cl outer A₀ base h₀ L m mean mg mb s Q E B F X N T hk hd hu hret

  obtain ⟨dw, u1, u2, u3, u4, u5, u6, u7, u8, u9, u10, db, t1, t2, dc, t3, t4, v2, m1, m2, m3, m4, m5, m6, ne1, ne2, ne3, dN, dP, loN, loP, klen⟩ := H.facts (fun p hp => List.mem_append_right fr (hs p hp))
  (refine el_AA (id off) ?_; rintro offN offR offP)
  dsimp only [mutL, List.cons_append, List.nil_append] at N
  refine wpAny_call ?_
  k_dflt ktr_enter
  k_steps
  unfold Hold
  refine sym_use (intern_ok w c σ imm fr rest name _ hu1 H hs off) hn0 hn1 (by assumption) (by assumption) (by assumption) (by assumption) (fun _ h => h) (by assumption) off rfl (by ktr_room) (by ktr_units) ?_
  intro a1 i1 σ1 imm1 rest1 h1 tk1 F1 N1 M1 off1 hv1 hi1 hsym1
  clear m1 m2 m3 m4 m5 m6
  obtain ⟨dw1, u1, u2, u3, u4, u5, u6, u7, u8, u9, u10, db1, t1, t2, dc1, t3, t4, v2, m1, m2, m3, m4, m5, m6, ne1, ne2, ne3, dN, dP, loN, loP, klen⟩ := M1.H.facts (fun p hp => List.mem_append_right fr (M1.hs p hp))
  (refine el_AA (id off1) ?_; rintro offN1 offR1 offP1)
  dsimp only [mutL, List.cons_append, List.nil_append] at N1
  k_steps
  unfold Hold
  refine sym_use (intern_ok w c σ1 imm1 fr rest1 (Str.ofString "error-conditions") _ (by decide) M1.H M1.hs off1) (by decide) (by decide) (by assumption) (by assumption) (by assumption) (by assumption) (fun _ h => h) (by assumption) off1 rfl (by ktr_room) (by ktr_units) ?_
  intro a2 i2 σ2 imm2 rest2 h2 tk2 F2 N2 M2 off2 hv2 hi2 hsym2
  clear m1 m2 m3 m4 m5 m6
  obtain ⟨dw2, u1, u2, u3, u4, u5, u6, u7, u8, u9, u10, db2, t1, t2, dc2, t3, t4, v2, m1, m2, m3, m4, m5, m6, ne1, ne2, ne3, dN, dP, loN, loP, klen⟩ := M2.H.facts (fun p hp => List.mem_append_right fr (M2.hs p hp))
  (refine el_AA (id off2) ?_; rintro offN2 offR2 offP2)
  have hs2 : ∀ p ∈ imm2, p ∈ fr ++ rest2 := fun p hp => List.mem_append_right fr (M2.hs p hp)
  (refine el_EEEEEA ((hsym1.mono M2.sub).mono hs2) ?_; rintro d1 s1 s2 s3 s4 q1 q2)
  dsimp only [mutL, List.cons_append, List.nil_append] at N2
  have G1 := M1.G
  have G2 := M2.G
  have H2 := M2.H
  have hi1' : σ2.ks[i1]? = some (name, .ref a1) := by
    obtain ⟨⟨t, e⟩, _⟩ := G2
    rw [e, List.getElem?_append_left (List.getElem?_eq_some_iff.mp hi1).1]; exact hi1
  have hDe : σ2.D = σ.D := (G1.trans G2).2.2.1
  have hXe : σ2.X = [] := (G1.trans G2).2.2.2.trans hX
  have hpls := H2.pls i1 name _ hi1' (by rw [hXe]; (first | regstrif_fact | simp))
  rw [hDe] at hpls
  rcases hDn : σ.D.lookup name with _ | names
  · have hpl := hpls.1 hDn
    k_steps
    unfold Hold
    refine adds_use (cond_of_ok w name _ _ (hD hDn)) (by assumption) (by assumption) (by assumption) (by assumption) (by assumption) rfl (by ktr_room) (by ktr_units) ?_
    intro v3 tl3 h3 tk3 F3 N3 fr3 ⟨l3, k3, ys3, e3, hl3, hys3⟩
    subst e3
    k_steps
    refine hret _ (mutL c σ2 ++ (fr ++ (tl3 ++ rest2))) _ _ (by assumption) (News.sub (by assumption) ?_) ⟨σ2, tl3 ++ imm2, tl3 ++ rest2, rfl, (M1.trans M2).add tl3 (fun p hp q hq => Nat.ne_of_lt (fr3 p hp q hq)), l3, k3, ys3, rfl, List.mem_append_left _ hl3, by rw [condsOf, hDn]; exact hys3⟩
    regstrif_slice
  · (refine el_EA (hpls.2 names hDn) ?_; rintro p hpl ⟨pd, r1, r2, ca, p2, d2, r3, r4, told, x, vs, b1, b2, b3, b4, b5, b6, b7, b8, b9⟩)
    rw [hv2] at b6
    cases b6
    replace b1 := hs2 _ b1
    replace b2 := hs2 _ b2
    replace b3 := hs2 _ b3
    replace b4 := hs2 _ b4
    (refine el_AA (H.Du _ (lookup_mem hDn)) ?_; rintro hne hnd hnu)
    have hnl : names.length ≤ 17 := nodup_sub_length names uni hnd (fun x hx => uni2_sub (hnu x hx))
    have hvl : vs.length = names.length := b9.length
    have b7' := b7
    cases b7 with
    | nil => 
      cases names with
      | nil => exact absurd rfl hne
      | cons _ _ => simp at hvl
    | cons g1 g2 g3 g4 g5 =>
      rename_i ta td tt1 tt2 tx tv txs
      replace g1 := hs2 _ g1
      replace g2 := hs2 _ g2
      k_steps
      unfold Hold
      refine LCt.ListComp_T (F₀ := by k_asm) (by with_unfolding_all rfl) (by decide) (by rfl) (by decide) (by rfl) ?_
      k_steps
      unfold Hold
      refine adds_use (items_of_ok w _ _ _ _ ((b7'.mono hs2).mono (imm' := (c.N, σ2.oN) :: (c.R, listOf (σ2.ks.map (·.2)).toArray σ2.n) :: (c.P, σ2.oP) :: (fr ++ rest2)) (fun p hp => by (first | exact sub_p hp (by regstrif_slice) | simp [hp]))) (.inl rfl) (by rw [hvl]; omega)) (by assumption) (by assumption) (by assumption) (by assumption) (by assumption) rfl (by ktr_room) (by ktr_units) ?_
      intro v3 tl3 h3 tk3 F3 N3 fr3 hq3
      rw [if_pos rfl] at hq3
      (refine el_EEA (hq3) ?_; (try clear hq3); rintro l3 k3 e3 hl3)
      subst e3
      replace hl3 : (l3, listOf (tx :: txs).toArray k3) ∈ tl3 ++ ((c.N, σ2.oN) :: (c.R, listOf (σ2.ks.map (·.2)).toArray σ2.n) :: (c.P, σ2.oP) :: (fr ++ rest2)) := List.mem_append_left _ hl3
      have hxl : txs.length ≤ 1000 := by simp at hvl; omega
      k_steps
      unfold Hold
      refine comp_T (fun i ys nx => nx = tl3 ++ ((c.N, σ2.oN) :: (c.R, listOf (σ2.ks.map (·.2)).toArray σ2.n) :: (c.P, σ2.oP) :: (fr ++ rest2)) ∧ StrsAre ys (names.take i)) rfl (by assumption) (by assumption) hl3 ?_ ⟨rfl, .nil⟩ ?_ ?_
      · simp only [List.size_toArray, List.length_cons, sizeLine_eq]; omega
      · intro i v ys nx I oI C oC D m₂ h tk E' hv hJ hC hx F N o ne
        obtain ⟨rfl, hys⟩ := hJ
        (refine el_EEA (b9.get (by simpa using hv)) ?_; rintro sn jn hsn hat)
        have hsu := uni2_ne (hnu sn (List.mem_of_getElem? hsn))
        (refine el_EAEEEEEA (hat.inn hsu.1 hsu.2) ?_; rintro sa rfl sd e1 e2 e3 e4 z1 z2)
        replace z1 : (sa, instObj 72 sd) ∈ tl3 ++ ((c.N, σ2.oN) :: (c.R, listOf (σ2.ks.map (·.2)).toArray σ2.n) :: (c.P, σ2.oP) :: (fr ++ rest2)) := by simp [hs2 _ z1]
        replace z2 : (sd, dictOf [ent w "number" e1 (.int jn e3), ent w "name" e2 (.str sn e4)] 2) ∈ tl3 ++ ((c.N, σ2.oN) :: (c.R, listOf (σ2.ks.map (·.2)).toArray σ2.n) :: (c.P, σ2.oP) :: (fr ++ rest2)) := by simp [hs2 _ z2]
        k_steps
        exact LCg.CompEnd.intro (by assumption) (by assumption) _ (fun p hp => hp) o (.inr ⟨_, hl3, rfl, _, rfl⟩) ⟨rfl, strs_take hys hsn _⟩
      · intro g ys nx hJ
        obtain ⟨rfl, hys⟩ := hJ
        k_steps
        rename_i D9 _ _ _ _ _ _ _ _ _
        have o9 := off1_mem ‹LCg.Off1 D9 _›
        refine hret _ (mutL c σ2 ++ (fr ++ (((D9, LCg.lst ys) :: tl3) ++ rest2))) _ _ (by assumption) (News.sub (by assumption) ?_) ⟨σ2, _, _, rfl, (M1.trans M2).add ((D9, LCg.lst ys) :: tl3) ?_, D9, ys.length, ys, rfl, by simp, ?_⟩
        · regstrif_slice
        · intro p hp q hq
          rcases List.mem_cons.mp hp with rfl | hp
          · exact o9 q (List.mem_append_right _ hq)
          · exact Nat.ne_of_lt (fr3 p hp q hq)
        · have e9 : (tx :: txs).toArray.size = names.length := by simpa using hvl
          rw [e9, List.take_length] at hys
          rw [condsOf, hDn]; exact hys
end
section
theorem lat_handed {w : World} {imm : List (Addr × Obj)} {v : Value} {xs : List Value} (h : LAt w imm v xs (.ref 78)) : handedIn v = true := by cases h <;> rfl
set_option maxRecDepth 100000 in
set_option maxHeartbeats 8000000 in
theorem define_ok (w : World) (c : Cfg) (σ : St) (imm fr rest : List (Addr × Obj)) (name : Str) (tk tm : Tok) (lp : Addr) (ps : List Value) (kp : Nat) (parents : List Str) (hu2 : name ∈ uni2) (hX : σ.X = []) (hDn : σ.D.lookup name = none)
    (hps : StrsAre ps parents) (hpl : parents.length ≤ 10) (hpu : ∀ p ∈ parents, p ∈ uni2 ∧ (σ.D.lookup p = none → p ∈ std5)) (hlp : (lp, listOf ps.toArray kp) ∈ fr)
    (H : WI w c σ imm) (hs : ∀ p ∈ imm, p ∈ rest) (off : Off c (fr ++ rest)) :
    Does w 162 10 80 [.ref c.wA, .str name tk, .str (Str.ofString "words") tm, .ref lp] (mutL c σ ++ (fr ++ rest)) (fun v news' => v = .none ∧ ∃ σ' imm' rest', news' = mutL c σ' ++ (fr ++ rest') ∧ Dn w c fr σ imm rest name (grow σ.D name parents) σ' imm' rest') := by
  have : PySem.Challenge.rw_ok0061_01 = PySem.Challenge.rw_ok0061_01 ∧ hdz.heap_1 = hdz.heap_1 := by
    k_fill
    exact ⟨rfl, rfl⟩
  clear this
  unfold Does
  intro dp un gd cn cs a ccd cl outer A₀ base h₀ L m mean mg mb s Q E B F X N T hk hd hu hret

  obtain ⟨dw, u1, u2, u3, u4, u5, u6, u7, u8, u9, u10, db, t1, t2, dc, t3, t4, v2, m1, m2, m3, m4, m5, m6, ne1, ne2, ne3, dN, dP, loN, loP, klen⟩ := H.facts (fun p hp => List.mem_append_right fr (hs p hp))
  (refine el_AA (id off) ?_; rintro offN offR offP)
  dsimp only [mutL, List.cons_append, List.nil_append] at N
  refine wpAny_call ?_
  k_dflt ktr_enter
  obtain ⟨oc1, oc2⟩ := lt_cells ‹_ ∧ _ ∧ _ ∧ AllLt _ (fr ++ rest)›
  k_steps
  rename_i g9 L9 _ _ _ _ _ _ _ _ o1 _ _ l9 _ _ _ o2 _ _ _
  (refine el_AAA (‹@LT.lt Nat _ c.N L9 ∧ _›) ?_; rintro lu1 lu2 lu3 lu4)
  (refine el_AAAAA (‹_ ∧ _ ∧ _ ∧ _ ∧ _ ∧ AllLt l9 (fr ++ rest)›) ?_; rintro lt1 lt2 lt3 lt4 lt5 lt6)
  refine For_invV g9 ?hx ?hp ?hm ?hs ?hE
  case hx => exact rfl
  case hp => exact rfl
  case hs => intro _; exact rfl
  case hE => passes_own
  k_steps
  unfold Hold
  have hpz := strs_length hps
  refine loop_lst [Str.ofString "parent"] [] (Jdef w c σ imm fr rest name parents l9 (L9 + 1) (L9 + 1 + 1) o1 o2) rfl (l := lp) (its := ps.toArray) (k := kp) ?_ (by assumption) (by assumption) (fun _ h => nomatch h) ?_ ?_ ?_ ?_
  · (first | regstrif_fact | simp [hlp])
  · exact ⟨σ, imm, rest, [name], [_], 0, rfl, rfl, ⟨Mv.refl H hs, off, lt_off lt6, oc1, oc2, .cons _ _ .nil, by simp⟩⟩
  · intro i V nx hcx; (refine el_EEEEEEAA (hcx) ?_; (try clear hcx); rintro σ' imm' rest' acc ys k rfl rfl J)
    (first | regstrif_fact | simp [hlp])
  · intro i V u news₁ h tk' v I oI hv hJ offI F₁ N₁
    (refine el_EEEEEEAA (hJ) ?_; (try clear hJ); rintro σ' imm' rest' acc ys k rfl rfl J)
    (refine el_EEA (strs_get hps (by simpa using hv)) ?_; rintro pn pt rfl hpn)
    dsimp only [mutL, List.cons_append, List.nil_append] at N₁
    clear m1 m2 m3 m4 m5 m6
    obtain ⟨dw1, x1, x2, x3, x4, x5, x6, x7, x8, x9, x10, db1, y1, y2, dc1, y3, y4, z2, m1, m2, m3, m4, m5, m6, ne1, ne2, ne3, dN, dP, loN, loP, klen⟩ := J.M.H.facts (fun p hp => List.mem_append_right fr (J.M.hs p hp))
    k_steps
    unfold Hold
    refine LCt.ListComp_T (F₀ := by k_asm) (by with_unfolding_all rfl) (by decide) (by rfl) (by decide) (by rfl) ?_
    k_steps
    unfold Hold
    have hfr : ∀ p ∈ fr ++ rest', @Ne Nat p.1 I := fun p hp => offI p (by simp only [mutL, List.cons_append, List.nil_append, List.mem_cons]; simp only [List.mem_append] at hp ⊢; simp [hp])
    have hDe : σ'.D = σ.D := J.M.G.2.2.1
    have hXe : σ'.X = [] := J.M.G.2.2.2.trans hX
    have hIN := offI (c.N, σ'.oN) (by (first | regstrif_fact | simp [mutL]))
    have hIR := offI (c.R, listOf (σ'.ks.map (·.2)).toArray σ'.n) (by (first | regstrif_fact | simp [mutL]))
    have hIP := offI (c.P, σ'.oP) (by (first | regstrif_fact | simp [mutL]))
    have hoff : Off c ([(I, oI), (l9, listOf ys.toArray k), (L9 + 1 + 1, o2), (L9 + 1, o1)] ++ fr ++ rest') :=
      Off.cons (Ne.symm hIN) (Ne.symm hIR) (Ne.symm hIP) (Off.cons (Nat.ne_of_gt lt3) (Nat.ne_of_gt lt4) (Nat.ne_of_gt lt5) (Off.cons (Nat.ne_of_gt (Nat.lt_succ_of_lt (Nat.lt_succ_of_lt lu1))) (Nat.ne_of_gt (Nat.lt_succ_of_lt (Nat.lt_succ_of_lt lu2))) (Nat.ne_of_gt (Nat.lt_succ_of_lt (Nat.lt_succ_of_lt lu3))) (Off.cons (Nat.ne_of_gt (Nat.lt_succ_of_lt lu1)) (Nat.ne_of_gt (Nat.lt_succ_of_lt lu2)) (Nat.ne_of_gt (Nat.lt_succ_of_lt lu3)) J.off)))
    refine step_use (conditions_ok w c σ' imm' ([(I, oI), (l9, listOf ys.toArray k), (L9 + 1 + 1, o2), (L9 + 1, o1)] ++ fr) rest' pn _ (hpu pn (List.mem_of_getElem? hpn)).1 hXe (by rw [hDe]; exact (hpu pn (List.mem_of_getElem? hpn)).2) J.M.H J.M.hs hoff) (by assumption) (by assumption) (by assumption) (by assumption) ?_ (by assumption) hoff rfl (by ktr_room) (by ktr_units) ?_
    · regstrif_slice
    · intro v2 σ2 imm2 rest2 h2 tk2 F2 N2 M2 off2 hv2
      (refine el_EEEAA (hv2) ?_; (try clear hv2); rintro l2 k2 ys2 rfl hl2 hys2)
      dsimp only [mutL, List.cons_append, List.nil_append] at N2
      have hl2' : (l2, listOf ys2.toArray k2) ∈ (fr ++ rest2) := List.mem_append_right _ (M2.hs _ hl2)
      k_steps
      unfold Hold
      have hys2' := hys2
      rw [hDe] at hys2'
      (refine el_AA (conds_good H (hpu pn (List.mem_of_getElem? hpn)).2) ?_; rintro cg1 cg2 cg3)
      have cgl := uni2_len cg2 cg3
      have cgl2 := strs_length hys2'
      have hysA := J.ys
      refine comp_T (ax := l2) (its := ys2.toArray) (k := k2) (fun i zs nx => nx = (c.N, σ2.oN) :: (c.R, listOf (σ2.ks.map (·.2)).toArray σ2.n) :: (c.P, σ2.oP) :: (I, oI) :: (l9, listOf ys.toArray k) :: (L9 + 1 + 1, o2) :: (L9 + 1, o1) :: (fr ++ rest2) ∧ StrsAre zs (((condsOf σ.D pn).take i).filter (fun x => decide (x ∉ acc)))) rfl (by assumption) (by assumption) (by first | regstrif_fact | simp [M2.hs _ hl2]) (by rw [sizeLine_eq]; simp only [List.size_toArray]; omega) ⟨rfl, .nil⟩ ?_ ?_
      · intro i v zs nx I oI C oC D m₂ h tk E' hv hJ hC hx F N o ne
        obtain ⟨rfl, hzs⟩ := hJ
        (refine el_EEA (strs_get hys2' (by simpa using hv)) ?_; rintro sn st rfl hsn)
        k_steps
        · exact LCg.CompEnd.intro (by assumption) (by assumption) _ (fun p hp => hp) o (.inr ⟨listOf ys2.toArray k2, by first | regstrif_fact | simp [M2.hs _ hl2], rfl, _, rfl⟩) ⟨rfl, by rw [filt_skip hsn (by assumption)]; exact hzs⟩
        · exact LCg.CompEnd.intro (by assumption) (by assumption) _ (fun p hp => hp) o (.inr ⟨listOf ys2.toArray k2, by first | regstrif_fact | simp [M2.hs _ hl2], rfl, _, rfl⟩) ⟨rfl, by rw [filt_add hsn (by assumption)]; exact strs_snoc hzs _ _⟩
      · intro g zs nx hJ
        obtain ⟨rfl, hzs⟩ := hJ
        have e9 : ys2.toArray.size = (condsOf σ.D pn).length := by simpa using cgl2
        rw [e9, List.take_length] at hzs
        k_steps
        rename_i D9 _ _ _ _ _
        (refine el_AAAAAAA (‹_ ∧ _ ∧ _ ∧ _ ∧ _ ∧ _ ∧ _ ∧ LCg.Off1 D9 (fr ++ rest2)›) ?_; rintro n1 n2 n3 n4 n5 n6 n7 n8)
        have hzl : zs.length ≤ 1000 := Nat.le_trans (Nat.le_of_eq (strs_length hzs)) (Nat.le_trans (List.length_filter_le _ _) (Nat.le_trans cgl (by decide)))
        have hyl : ys.length ≤ 1000 := by
          have hg := fold_good (D := σ.D) (parents.take i) [name] (by (first | regstrif_fact | simp)) (by simpa using hu2) (fun p hp => (conds_good H (hpu p (List.mem_of_mem_take hp)).2).2)
          rw [← J.acc] at hg
          have := uni2_len hg.1 hg.2
          have := strs_length J.ys
          omega
        refine extend_any [(D9, LCg.lst zs), (c.N, σ2.oN), (c.R, listOf (σ2.ks.map (·.2)).toArray σ2.n), (c.P, σ2.oP), (I, oI)] ((L9 + 1 + 1, o2) :: (L9 + 1, o1) :: (fr ++ rest2)) (by assumption) (by assumption) (n2 := zs.length) (ys := zs) (by (first | regstrif_fact | simp)) rfl ?_ ?_ hyl hzl ?_
        · have hI9 := offI (l9, listOf ys.toArray k) List.mem_cons_self
          intro p hp
          simp only [List.mem_cons, List.not_mem_nil, or_false] at hp
          rcases hp with rfl | rfl | rfl | rfl | rfl
          · exact Ne.symm n5
          · exact Nat.ne_of_lt lt3
          · exact Nat.ne_of_lt lt4
          · exact Nat.ne_of_lt lt5
          · exact Ne.symm hI9
        · intro p hp
          simp only [List.mem_cons, List.mem_append] at hp
          rcases hp with rfl | rfl | hp | hp
          · exact Nat.ne_of_lt lt1
          · exact Nat.ne_of_lt lt2
          · exact J.ol p (by (first | exact sub_p hp (by regstrif_slice) | simp [hp]))
          · exact M2.off (a := l9) (o := listOf ys.toArray k) (by (first | regstrif_fact | simp)) (fun p hp => J.ol p (by (first | exact sub_p hp (by regstrif_slice) | simp [hp]))) p hp
        intro h5 k5 F5 N5
        k_steps
        refine def_turn J M2 off2 hpn hzs (k' := k5) (by assumption) (by assumption) ?_ offI ?_
        · regstrif_slice
        · intro z hz
          simp only [List.mem_singleton] at hz
          simp only [if_neg hz, frM, setM, List.mem_singleton]
  · intro V u news₁ h tk' hJ F₁ N₁
    (refine el_EEEEEEAA (hJ) ?_; (try clear hJ); rintro σ' imm' rest' acc ys k rfl rfl J)
    have hpz2 : ps.toArray.size = parents.length := by simpa using hpz
    rw [hpz2] at J
    have hacc := J.acc
    rw [List.take_length] at hacc
    have hg := fold_good (D := σ.D) parents [name] (by (first | regstrif_fact | simp)) (by simpa using hu2) (fun p hp => (conds_good H (hpu p hp).2).2)
    rw [← hacc] at hg
    have hal := uni2_len hg.1 hg.2
    have hysl := strs_length J.ys
    have hDe : σ'.D = σ.D := J.M.G.2.2.1
    have hXe : σ'.X = [] := J.M.G.2.2.2.trans hX
    dsimp only [mutL, List.cons_append, List.nil_append] at N₁
    clear m1 m2 m3 m4 m5 m6
    obtain ⟨dw1, x1, x2, x3, x4, x5, x6, x7, x8, x9, x10, db1, y1, y2, dc1, y3, y4, z2, m1, m2, m3, m4, m5, m6, ne1, ne2, ne3, dN, dP, loN, loP, klen⟩ := J.M.H.facts (fun p hp => List.mem_append_right fr (J.M.hs p hp))
    have hoff : Off c ([(l9, listOf ys.toArray k), (L9 + 1 + 1, o2), (L9 + 1, o1)] ++ fr ++ rest') :=
      Off.cons (Nat.ne_of_gt lt3) (Nat.ne_of_gt lt4) (Nat.ne_of_gt lt5) (Off.cons (Nat.ne_of_gt (Nat.lt_succ_of_lt (Nat.lt_succ_of_lt lu1))) (Nat.ne_of_gt (Nat.lt_succ_of_lt (Nat.lt_succ_of_lt lu2))) (Nat.ne_of_gt (Nat.lt_succ_of_lt (Nat.lt_succ_of_lt lu3))) (Off.cons (Nat.ne_of_gt (Nat.lt_succ_of_lt lu1)) (Nat.ne_of_gt (Nat.lt_succ_of_lt lu2)) (Nat.ne_of_gt (Nat.lt_succ_of_lt lu3)) J.off))
    k_steps
    unfold Hold
    refine sym_use (intern_ok w c σ' imm' ([(l9, listOf ys.toArray k), (L9 + 1 + 1, o2), (L9 + 1, o1)] ++ fr) rest' name _ (uni2_sub hu2) J.M.H J.M.hs hoff) (uni2_ne hu2).1 (uni2_ne hu2).2 (by assumption) (by assumption) (by assumption) (by assumption) ?_ (by assumption) hoff rfl (by ktr_room) (by ktr_units) ?_
    · regstrif_slice
    intro a1 i1 σ1 imm1 rest1 h1 tk1 F1 N1 M1 off1 hv1 hi1 hsym1
    clear m1 m2 m3 m4 m5 m6
    obtain ⟨dw2, x1, x2, x3, x4, x5, x6, x7, x8, x9, x10, db2, y1, y2, dc2, y3, y4, z2, m1, m2, m3, m4, m5, m6, ne1, ne2, ne3, dN, dP, loN, loP, klen⟩ := M1.H.facts (fun p hp => List.mem_append_right fr (M1.hs p hp))
    dsimp only [mutL, List.cons_append, List.nil_append] at N1
    k_steps
    unfold Hold
    refine LCg.ListComp_U (F₀ := by k_asm) (by with_unfolding_all rfl) (by decide) (by rfl) (by decide) (by rfl) ?_
    k_steps
    unfold Hold
    refine comp_U (ax := l9) (its := ys.toArray) (k := k) (fun i zs nx => ∃ σ2 imm2 rest2, nx = mutL c σ2 ++ ([(l9, listOf ys.toArray k), (L9 + 1 + 1, o2), (L9 + 1, o1)] ++ fr ++ rest2) ∧ Mv w c ([(l9, listOf ys.toArray k), (L9 + 1 + 1, o2), (L9 + 1, o1)] ++ fr) σ1 imm1 rest1 σ2 imm2 rest2 ∧ Off c ([(l9, listOf ys.toArray k), (L9 + 1 + 1, o2), (L9 + 1, o1)] ++ fr ++ rest2) ∧ SymsAre w imm2 zs (acc.take i)) rfl (by assumption) (by assumption) (by (first | regstrif_fact | simp)) (by rw [sizeLine_eq]; simp only [List.size_toArray]; omega) ⟨σ1, imm1, rest1, rfl, Mv.refl M1.H M1.hs, off1, trivial⟩ ?_ ?_
    · intro i v zs nx I oI C oC D m₂ h tk E' hv hi hJ hC hx F N o ne
      (refine el_EEEAAA (hJ) ?_; (try clear hJ); rintro σ2 imm2 rest2 rfl M2 off2 hzs)
      (refine el_EEA (strs_get J.ys (by simpa using hv)) ?_; rintro sn st rfl hsn)
      dsimp only [mutL, List.cons_append, List.nil_append] at N
      clear m1 m2 m3 m4 m5 m6
      obtain ⟨dw3, x1, x2, x3, x4, x5, x6, x7, x8, x9, x10, db3, y1, y2, dc3, y3, y4, z2, m1, m2, m3, m4, m5, m6, ne1, ne2, ne3, dN, dP, loN, loP, klen⟩ := M2.H.facts (fun p hp => List.mem_append_right fr (M2.hs p hp))
      k_steps
      unfold Hold
      have hoff3 := comp_off (oI := oI) (oC := oC) (oD := LCg.lst zs) o off2
      refine step_use (intern_ok w c σ2 imm2 ([(I, oI), (C, oC), (D, LCg.lst zs)] ++ ([(l9, listOf ys.toArray k), (L9 + 1 + 1, o2), (L9 + 1, o1)] ++ fr)) rest2 sn _ (uni2_sub (hg.2 sn (List.mem_of_getElem? hsn))) M2.H M2.hs hoff3) (by assumption) (by assumption) (by assumption) (by assumption) ?_ (by assumption) hoff3 rfl (by ktr_room) (by ktr_units) ?_
      · regstrif_slice
      intro v3 σ3 imm3 rest3 h3 tk3 F3 N3 M3 off3 hv3
      obtain ⟨jn, hjn⟩ := M3.H.symAt hv3
      refine LCg.CompEnd.intro (by assumption) (by assumption) (mutL c σ3 ++ ([(l9, listOf ys.toArray k), (L9 + 1 + 1, o2), (L9 + 1, o1)] ++ fr ++ rest3)) ?_ (comp_off3 o M3) (.inr ⟨listOf ys.toArray k, by simp, rfl, _, rfl⟩) ⟨σ3, imm3, rest3, rfl, M2.trans (M3.weak fun q hq => List.mem_append_right _ hq), off3.drop3, (hzs.mono M3.sub).take hsn hjn⟩
      regstrif_slice
    · intro g zs nx hJ
      (refine el_EEEAAA (hJ) ?_; (try clear hJ); rintro σ2 imm2 rest2 rfl M2 off2 hzs)
      have e9 : ys.toArray.size = acc.length := by simpa using hysl
      rw [e9, List.take_length] at hzs
      have hzl := hzs.length
      dsimp only [mutL, List.cons_append, List.nil_append]
      k_steps
      unfold Hold
      rename_i D9 _ _ _ _ _
      refine adds_use (list_of_ok w D9 zs.toArray zs.length _ ?_ ?_ ?_) (by assumption) (by assumption) (by assumption) (News.sub (by assumption) (fun p hp => hp)) (by assumption) rfl (by ktr_room) (by ktr_units) ?_
      · exact List.mem_cons_self
      · simp only [List.size_toArray]; omega
      · exact hzs.handed
      intro told tl4 h4 tk4 F4 N4 fr4 hL4
      clear m1 m2 m3 m4 m5 m6
      obtain ⟨dw4, x1, x2, x3, x4, x5, x6, x7, x8, x9, x10, db4, y1, y2, dc4, y3, y4, z2, m1, m2, m3, m4, m5, m6, ne1, ne2, ne3, dN, dP, loN, loP, klen⟩ := M2.H.facts (fun p hp => List.mem_append_right fr (M2.hs p hp))
      k_steps
      unfold Hold
      have M2w : Mv w c ([(L9 + 1, o1)] ++ fr) σ1 imm1 rest1 σ2 (tl4 ++ imm2) (tl4 ++ rest2) := (M2.weak (fr' := [(L9 + 1, o1)] ++ fr) (by regstrif_slice)).add tl4 (fun p hp q hq => Nat.ne_of_lt (fr4 p hp q (sub_p hq (by regstrif_slice))))
      have hoff4 : Off c ([(L9 + 1, o1)] ++ fr ++ (tl4 ++ rest2)) := by
        have hb : Off c ((L9 + 1, o1) :: (fr ++ rest1)) := ⟨fun p hp => off1.1 p (sub_p hp (by regstrif_slice)), fun p hp => off1.2.1 p (sub_p hp (by regstrif_slice)), fun p hp => off1.2.2 p (sub_p hp (by regstrif_slice))⟩
        exact M2w.offAll hb
      refine sym_use (intern_ok w c σ2 (tl4 ++ imm2) ([(L9 + 1, o1)] ++ fr) (tl4 ++ rest2) (Str.ofString "error-conditions") _ (by decide) M2w.H M2w.hs hoff4) (by decide) (by decide) (by assumption) (by assumption) (by assumption) (by assumption) ?_ (by assumption) hoff4 rfl (by ktr_room) (by ktr_units) ?_
      · regstrif_slice
      intro a5 i5 σ5 imm5 rest5 h5 tk5 F5 N5 M5 off5 hv5 hi5 hsym5
      have hs5 : ∀ p ∈ imm5, p ∈ fr ++ rest5 := fun p hp => List.mem_append_right fr (M5.hs p hp)
      (refine el_EEEEEA (((hsym1.mono M2w.sub).mono M5.sub).mono hs5) ?_; rintro sd1 sv1 sv2 sv3 sv4 q1 q2)
      have hG5 := (J.M.G.trans M1.G).trans (M2w.G.trans M5.G)
      have hDe5 : σ5.D = σ.D := hG5.2.2.1
      have hXe5 : σ5.X = [] := hG5.2.2.2.trans hX
      have hi15 : σ5.ks[i1]? = some (name, .ref a1) := by
        obtain ⟨⟨t, e⟩, _⟩ := M2w.G.trans M5.G
        rw [e, List.getElem?_append_left (List.getElem?_eq_some_iff.mp hi1).1]; exact hi1
      have hpl5 := (M5.H.pls i1 name _ hi15 (by rw [hXe5]; (first | regstrif_fact | simp))).1 (by rw [hDe5]; exact hDn)
      have hpn5 := M5.H.pn
      clear m1 m2 m3 m4 m5 m6
      obtain ⟨dw5, x1, x2, x3, x4, x5, x6, x7, x8, x9, x10, db5, y1, y2, dc5, y3, y4, z2, m1, m2, m3, m4, m5, m6, ne1, ne2, ne3, dN, dP, loN, loP, klen⟩ := M5.H.facts hs5
      have hto : handedIn told = true := lat_handed hL4
      dsimp only [mutL, List.cons_append, List.nil_append] at N5
      k_steps
      unfold Hold
      refine does_use (put1_ok w c.ce dc5 c.P a1 sd1 a5 _ _ _ _ _ _ i1 name z2 told σ5.oP σ5.pl ((c.N, σ5.oN) :: (c.R, listOf (σ5.ks.map (·.2)).toArray σ5.n) :: (L9 + 1, o1) :: (fr ++ rest5)) (by first | regstrif_fact | simp [m5]) (by (first | regstrif_fact | (simp only [List.mem_cons]; exact .inr (.inr (.inr m6))))) (by first | regstrif_fact | simp [q1]) (by (first | regstrif_fact | (simp only [List.mem_cons]; exact .inr (.inr (.inr q2))))) dP loP hpl5 hpn5 ?_ hto) (by assumption) (by assumption) (by assumption) (News.sub (by assumption) ?_) (by assumption) rfl (by ktr_room) (by ktr_units) ?_
      · intro p hp
        simp only [List.mem_cons] at hp
        rcases hp with rfl | rfl | rfl | hp
        · exact ne2
        · exact ne3
        · exact (Nat.ne_of_gt (Nat.lt_succ_of_lt lu3))
        · exact off5.2.2 p (sub_p hp (by regstrif_slice))
      · regstrif_slice
      intro v6 nw6 h6 tk6 F6 N6 hP6
      (refine el_EEEEEEEEE (hP6) ?_; (try clear hP6); rintro p1 pd p2 d2 e1 e2 e3 e4 oP6 hcy; refine el_AAAAAA (hcy) ?_; clear hcy; rintro rfl dP6 rfl ⟨lP, lA⟩ l62 l63 l64)
      (refine el_AAA (lA) ?_; (try clear lA); rintro lN lR lC lA5)
      have H6 := put1_wi (imm' := [(p1, instObj 99 pd), (pd, dictOf [ent w "car" e1 (.ref a5), ent w "cdr" e2 (.ref p2)] 2), (p2, instObj 99 d2)] ++ imm5) M5.H hXe5 hi15 hpl5 dP6 (fun p hp => List.mem_append_right _ hp)
      have hs6 : ∀ p ∈ [(p1, instObj 99 pd), (pd, dictOf [ent w "car" e1 (.ref a5), ent w "cdr" e2 (.ref p2)] 2), (p2, instObj 99 d2)] ++ imm5, p ∈ [(p1, instObj 99 pd), (pd, dictOf [ent w "car" e1 (.ref a5), ent w "cdr" e2 (.ref p2)] 2), (p2, instObj 99 d2)] ++ rest5 := fun p hp => by
        rcases List.mem_append.mp hp with h | h
        · exact List.mem_append_left _ h
        · exact List.mem_append_right _ (M5.hs p h)
      have hoff6 : Off c ([(d2, dictOf [ent w "car" e3 told, ent w "cdr" e4 (.ref 78)] 2), (L9 + 1, o1)] ++ fr ++ ([(p1, instObj 99 pd), (pd, dictOf [ent w "car" e1 (.ref a5), ent w "cdr" e2 (.ref p2)] 2), (p2, instObj 99 d2)] ++ rest5)) := by
        have g2 := Nat.lt_trans l62 l63
        have g1 := Nat.lt_trans g2 l64
        have hb : Off c (((d2, dictOf [ent w "car" e3 told, ent w "cdr" e4 (.ref 78)] 2) :: [(p1, instObj 99 pd), (pd, dictOf [ent w "car" e1 (.ref a5), ent w "cdr" e2 (.ref p2)] 2), (p2, instObj 99 d2)]) ++ ((L9 + 1, o1) :: (fr ++ rest5))) :=
          Off.cons (Nat.ne_of_gt lN) (Nat.ne_of_gt lR) (Nat.ne_of_gt lP) (Off.cons (Nat.ne_of_gt (Nat.lt_trans lN g1)) (Nat.ne_of_gt (Nat.lt_trans lR g1)) (Nat.ne_of_gt (Nat.lt_trans lP g1)) (Off.cons (Nat.ne_of_gt (Nat.lt_trans lN g2)) (Nat.ne_of_gt (Nat.lt_trans lR g2)) (Nat.ne_of_gt (Nat.lt_trans lP g2)) (Off.cons (Nat.ne_of_gt (Nat.lt_trans lN l62)) (Nat.ne_of_gt (Nat.lt_trans lR l62)) (Nat.ne_of_gt (Nat.lt_trans lP l62)) off5)))
        exact hb.sub (by regstrif_slice)
      k_steps
      unfold Hold
      refine sym_use (intern_ok w c (⟨σ5.ks, σ5.pl ++ [((i1 : Int), .ref p1)], σ5.oN, σ5.n, oP6, σ5.D, [name]⟩ : St) ([(p1, instObj 99 pd), (pd, dictOf [ent w "car" e1 (.ref a5), ent w "cdr" e2 (.ref p2)] 2), (p2, instObj 99 d2)] ++ imm5) ([(d2, dictOf [ent w "car" e3 told, ent w "cdr" e4 (.ref 78)] 2), (L9 + 1, o1)] ++ fr) ([(p1, instObj 99 pd), (pd, dictOf [ent w "car" e1 (.ref a5), ent w "cdr" e2 (.ref p2)] 2), (p2, instObj 99 d2)] ++ rest5) (Str.ofString "error-message") _ (by decide) H6 hs6 hoff6) (by decide) (by decide) (by assumption) (by assumption) (by assumption) (by assumption) ?_ (by assumption) hoff6 rfl (by ktr_room) (by ktr_units) ?_
      · regstrif_slice
      intro a7 i7 σ7 imm7 rest7 h7 tk7 F7 N7 M7 off7 hv7 hi7 hsym7
      have hs7 : ∀ p ∈ imm7, p ∈ fr ++ rest7 := fun p hp => List.mem_append_right fr (M7.hs p hp)
      clear m1 m2 m3 m4 m5 m6
      obtain ⟨dw7, x1, x2, x3, x4, x5, x6, x7, x8, x9, x10, db7, y1, y2, dc7, y3, y4, z2, m1, m2, m3, m4, m5, m6, ne1, ne2, ne3, dN, dP, loN, loP, klen⟩ := M7.H.facts hs7
      dsimp only [mutL, List.cons_append, List.nil_append] at N7
      k_steps
      unfold Hold
      refine addsN_use (text_ok w (Str.ofString "words") _ _ (by decide +kernel) (by decide +kernel)) (by assumption) (by assumption) (by assumption) (by assumption) (by assumption) rfl (by ktr_room) (by ktr_units) ?_
      intro vt tl8 h8 tk8 F8 N8 fr8 hvx
      have hvt : handedIn vt = true := by
        (refine el_EEEEEEEA (hvx) ?_; (try clear hvx); rintro _ _ _ _ _ _ _ e _)
        rw [e]; rfl
      k_steps
      unfold Hold
      have up6 : ∀ p ∈ [(p1, instObj 99 pd), (pd, dictOf [ent w "car" e1 (.ref a5), ent w "cdr" e2 (.ref p2)] 2), (p2, instObj 99 d2)] ++ imm5, p ∈ imm7 := M7.sub
      have b1 := hs7 _ (up6 (p1, instObj 99 pd) (by (first | regstrif_fact | simp)))
      have b2 := hs7 _ (up6 (pd, dictOf [ent w "car" e1 (.ref a5), ent w "cdr" e2 (.ref p2)] 2) (by (first | regstrif_fact | simp)))
      have b3 := hs7 _ (up6 (p2, instObj 99 d2) (by (first | regstrif_fact | simp)))
      have up5 : ∀ p ∈ imm5, p ∈ imm7 := fun p hp => up6 p (List.mem_append_right _ hp)
      (refine el_EEEEEA ((hsym5.mono up5).mono hs7) ?_; rintro nd1 n1 n2 n3 n4 w1 w2)
      (refine el_EEEEEA (hsym7.mono hs7) ?_; rintro nd7 n5 n6 n7 n8 w3 w4)
      (refine el_EEEEEA ((((hsym1.mono M2w.sub).mono M5.sub).mono up5).mono hs7) ?_; rintro sd7 sw1 sw2 sw3 sw4 q3 q4)
      have hne7 : @Ne Nat a5 a7 := by
        exact sym_ne (s := Str.ofString "error-conditions") (s' := Str.ofString "error-message") N8 (List.mem_append_right _ (by simp only [List.mem_cons]; exact .inr (.inr (.inr (.inr (.inr w1)))))) (List.mem_append_right _ (by simp only [List.mem_cons]; exact .inr (.inr (.inr (.inr (.inr w2)))))) (List.mem_append_right _ (by simp only [List.mem_cons]; exact .inr (.inr (.inr (.inr (.inr w3)))))) (List.mem_append_right _ (by simp only [List.mem_cons]; exact .inr (.inr (.inr (.inr (.inr w4)))))) (by decide)
      have hpl7 : valueAt σ7.pl (i1 : Int) = some (.ref p1) := by
        rw [M7.G.2.1]
        dsimp only
        rw [valueAt_append, hpl5]; simp [valueAt]
      refine does_use (put2_ok w c.ce dc7 c.P a1 sd7 a7 a5 nd7 nd1 p1 pd p2 d2 _ _ _ _ _ _ _ _ e3 e4 i1 name z2 told vt σ7.oP σ7.pl ((c.N, σ7.oN) :: (c.R, listOf (σ7.ks.map (·.2)).toArray σ7.n) :: (L9 + 1, o1) :: (fr ++ rest7)) (by first | regstrif_fact | simp [m5]) (by (first | regstrif_fact | (simp only [List.mem_cons]; exact .inr (.inr (.inr m6))))) (by first | regstrif_fact | simp [q3]) (by (first | regstrif_fact | (simp only [List.mem_cons]; exact .inr (.inr (.inr q4))))) dP loP hpl7 (by first | regstrif_fact | simp [b1]) (by (first | regstrif_fact | (simp only [List.mem_cons]; exact .inr (.inr (.inr b2))))) (by first | regstrif_fact | simp [b3]) hne7 (by first | regstrif_fact | simp [w3]) (by first | regstrif_fact | simp [w1]) _ _ _ _ _ _ (by (first | regstrif_fact | (simp only [List.mem_cons]; exact .inr (.inr (.inr w4))))) ?_ (Nat.ne_of_gt lP) hvt hto) (by assumption) (by assumption) (by assumption) (News.sub (by assumption) ?_) (by assumption) rfl (by ktr_room) (by ktr_units) ?_
      · intro p hp
        simp only [List.mem_cons, List.mem_append] at hp
        rcases hp with rfl | rfl | rfl | hp | hp
        · exact Nat.ne_of_lt lN
        · exact Nat.ne_of_lt lR
        · exact Nat.ne_of_lt lC
        · exact lt_off lA5 p (List.mem_append_left _ hp)
        · refine M7.off (a := d2) (o := dictOf [ent w "car" e3 told, ent w "cdr" e4 (.ref 78)] 2) (by (first | regstrif_fact | simp)) (fun q hq => ?_) p hp
          simp only [List.mem_append, List.mem_cons, List.not_mem_nil, or_false] at hq
          rcases hq with (rfl | rfl | rfl) | hq
          · exact Nat.ne_of_gt (Nat.lt_trans l62 (Nat.lt_trans l63 l64))
          · exact Nat.ne_of_gt (Nat.lt_trans l62 l63)
          · exact Nat.ne_of_gt l62
          · exact lt_off lA5 q (List.mem_append_right _ hq)
      · regstrif_slice
      intro v9 nw9 h9 tk9 F9 N9 hP9
      (refine el_EEAA (hP9) ?_; (try clear hP9); rintro u9' x9' rfl hx9' rfl)
      k_steps
      have Mall : Mv w c fr σ imm rest σ5 imm5 rest5 := ((J.M.trans (M1.weak fun q hq => by (first | exact sub_p hq (by regstrif_slice) | simp [hq]))).trans (M2w.weak fun q hq => by (first | exact sub_p hq (by regstrif_slice) | simp [hq]))).trans (M5.weak fun q hq => by (first | exact sub_p hq (by regstrif_slice) | simp [hq]))
      have up8 : ∀ p ∈ imm7, p ∈ (d2, dictOf [ent w "car" e3 told, ent w "cdr" u9' x9'] 2) :: imm7 := fun p hp => List.mem_cons_of_mem _ hp
      have hi17 : σ7.ks[i1]? = some (name, .ref a1) := by
        obtain ⟨⟨t, e⟩, _⟩ := M7.G
        rw [e, List.getElem?_append_left (List.getElem?_eq_some_iff.mp hi15).1]; exact hi15
      have hD7 : σ7.D = σ.D := M7.G.2.2.1.trans hDe5
      have hL9 : LAt w tl4 told zs (.ref 78) := by simpa using hL4
      have hP8 : PlAt w ((d2, dictOf [ent w "car" e3 told, ent w "cdr" u9' x9'] 2) :: imm7) σ7.ks p1 acc :=
        ⟨pd, e1, e2, a5, p2, d2, e3, u9', told, x9', zs, up8 _ (up6 _ (by (first | regstrif_fact | simp))), up8 _ (up6 _ (by (first | regstrif_fact | simp))), up8 _ (up6 _ (by (first | regstrif_fact | simp))), List.mem_cons_self, hx9', M7.G.at hv5,
          hL9.mono (fun p hp => up8 p (up5 p (M5.sub p (List.mem_append_left _ hp)))), hto, hzs.mono (fun p hp => up8 p (up5 p (M5.sub p (List.mem_append_right _ hp))))⟩
      have hne9 : acc ≠ [] := by rw [hacc]; exact fold_ne _ _ (by (first | regstrif_fact | simp))
      have H8 := def_wi M7.H M7.G.2.2.2 (by rw [hD7]; exact hDn) hi17 M7.H.knd hpl7 up8 hP8 ⟨hne9, hg.1, hg.2⟩
      refine hret _ (mutL c ⟨σ7.ks, σ7.pl, σ7.oN, σ7.n, σ7.oP, σ7.D ++ [(name, acc)], []⟩ ++ (fr ++ ((d2, dictOf [ent w "car" e3 told, ent w "cdr" u9' x9'] 2) :: rest7))) _ _ (by assumption) (News.sub (by assumption) ?_) ⟨rfl, _, (d2, dictOf [ent w "car" e3 told, ent w "cdr" u9' x9'] 2) :: imm7, (d2, dictOf [ent w "car" e3 told, ent w "cdr" u9' x9'] 2) :: rest7, rfl, ⟨fun p hp => up8 p (up5 p (Mall.sub p hp)), ?_, fun p hp => List.mem_cons_of_mem _ (M7.subr p (List.mem_append_right _ (Mall.subr p hp))), ?_, H8, rfl, ?_, ?_⟩⟩
      · regstrif_slice
      · intro p hp
        rcases List.mem_cons.mp hp with h | h
        · exact h ▸ List.mem_cons_self
        · exact List.mem_cons_of_mem _ (M7.hs p h)
      · have lt2 : ∀ q ∈ mutL c σ ++ (fr ++ rest), @LT.lt Nat _ q.1 d2 := by
          intro q hq
          simp only [mutL, List.cons_append, List.nil_append, List.mem_cons, List.mem_append] at hq
          rcases hq with rfl | rfl | rfl | hq | hq
          · exact lN
          · exact lR
          · exact lP
          · exact AllLt.mem lA5 q (List.mem_append_left _ hq)
          · exact AllLt.mem lA5 q (List.mem_append_right _ (Mall.subr q hq))
        intro p hp
        rcases List.mem_cons.mp hp with rfl | hp
        · exact .inr fun q hq => Nat.ne_of_lt (lt2 q hq)
        · rcases M7.fresh p hp with h | h
          · simp only [List.mem_append, List.mem_cons, List.not_mem_nil, or_false] at h
            rcases h with (rfl | rfl | rfl) | h
            · exact .inr fun q hq => Nat.ne_of_lt (Nat.lt_trans (lt2 q hq) (Nat.lt_trans l62 (Nat.lt_trans l63 l64)))
            · exact .inr fun q hq => Nat.ne_of_lt (Nat.lt_trans (lt2 q hq) (Nat.lt_trans l62 l63))
            · exact .inr fun q hq => Nat.ne_of_lt (Nat.lt_trans (lt2 q hq) l62)
            · exact Mall.fresh p h
          · refine .inr (mut_lt (σ' := (⟨σ5.ks, σ5.pl ++ [((i1 : Int), .ref p1)], σ5.oN, σ5.n, oP6, σ5.D, [name]⟩ : St)) (fr := fr) (rest := rest) (rest' := [(p1, instObj 99 pd), (pd, dictOf [ent w "car" e1 (.ref a5), ent w "cdr" e2 (.ref p2)] 2), (p2, instObj 99 d2)] ++ rest5) (fun q hq => List.mem_append_right _ (Mall.subr q hq)) (fun q hq => h q ?_))
            simp only [List.mem_append] at hq ⊢
            rcases hq with hq | hq | hq
            · exact .inl hq
            · exact .inr (.inl (.inr hq))
            · exact .inr (.inr hq)
      · rw [hD7, hacc]; rfl
      · obtain ⟨⟨t, e⟩, _⟩ := Mall.G
        obtain ⟨⟨t', e'⟩, _⟩ := M7.G
        exact ⟨t ++ t', by dsimp only at e' ⊢; rw [e', e, List.append_assoc]⟩
end
section
def takes (D : List (Str × List Str)) (s name : Str) : Bool := decide (s = Str.ofString "t" ∨ s ∈ condsOf D name)
theorem any_eq {l : List Str} {s : Str} : (l.any fun x => x == s) = decide (s ∈ l) := by
  rw [Bool.eq_iff_iff]
  simp
theorem takes_in {D : List (Str × List Str)} {s name : Str} (h : s ≠ Str.ofString "t") : ((condsOf D name).any fun x => x == s) = takes D s name := by
  rw [any_eq]; simp [takes, h]
def WSym (w : World) (imm : List (Addr × Obj)) (v : Value) (s : Str) : Prop := (v = .ref 81 ∧ s = Str.ofString "t") ∨ ∃ a i, v = .ref a ∧ s ∈ uni2 ∧ SymIn w imm a i s
theorem WSym.mono {w : World} {imm imm' : List (Addr × Obj)} {v : Value} {s : Str} (h : WSym w imm v s) (k : ∀ p ∈ imm, p ∈ imm') : WSym w imm' v s := by
  rcases h with h | ⟨a, i, h1, h2, h3⟩
  · exact .inl h
  · exact .inr ⟨a, i, h1, h2, h3.mono k⟩
theorem not81 {h₀ h : Heap} {L : Addr} {news : List (Addr × Obj)} {a : Addr} {o : Obj} (N : News h₀ L h news) (hm : (a, o) ∈ news) {o' : Obj} {b : Addr} (h9 : h₀.get? b = some o') : @Ne Nat a b := by
  rintro rfl
  have h2 := (N _ hm).2.2
  simp only at h2
  rw [h9] at h2; cases h2
section
set_option maxRecDepth 100000 in
set_option maxHeartbeats 8000000 in
theorem takes_ok (w : World) (c : Cfg) (σ : St) (imm fr rest : List (Addr × Obj)) (wv : Value) (s1 : Str) (name : Str) (tk : Tok) (hu2 : name ∈ uni2)
    (hX : σ.X = []) (hD : σ.D.lookup name = none → name ∈ std5) (H : WI w c σ imm) (hs : ∀ p ∈ imm, p ∈ rest) (off : Off c (fr ++ rest)) (hw : WSym w imm wv s1) :
    Does w 169 10 80 [.ref c.wA, wv, .str name tk] (mutL c σ ++ (fr ++ rest)) (Step w c σ imm fr rest fun v σ' imm' => v = .bool (takes σ.D s1 name)) := by
  have : PySem.Challenge.rw_ok0061_01 = PySem.Challenge.rw_ok0061_01 ∧ hdz.heap_1 = hdz.heap_1 := by
    k_fill
    exact ⟨rfl, rfl⟩
  clear this
  unfold Does
  intro dp un gd cn cs a ccd cl outer A₀ base h₀ L m mean mg mb s Q E B F X N T hk hd hu hret
  rcases hw with ⟨rfl, rfl⟩ | ⟨a1, i1, rfl, hu1, hsym⟩
  · refine wpAny_call ?_
    k_dflt ktr_enter
    k_steps
    exact hret _ _ _ _ (by assumption) (by assumption) (Step.same H hs (by simp [takes]))
  · obtain ⟨hn0, hn1⟩ := uni2_ne hu1
    (refine el_EEEEEA (hsym.mono (fun p hp => List.mem_append_right fr (hs p hp))) ?_; rintro sd q1 q2 q3 q4 b1 b2)
    have n81 : @Ne Nat a1 81 := not81 N (by simp only [List.mem_append]; simp only [List.mem_append] at b1; exact .inr b1) (X 81 _ (by k_is))
    dsimp only [mutL, List.cons_append, List.nil_append] at N
    refine wpAny_call ?_
    k_dflt ktr_enter
    k_steps
    unfold Hold
    refine step_use (conditions_ok w c σ imm fr rest name _ hu2 hX hD H hs off) (by assumption) (by assumption) (by assumption) (by assumption) (fun _ h => h) (by assumption) off rfl (by ktr_room) (by ktr_units) ?_
    intro v2 σ2 imm2 rest2 h2 tk2 F2 N2 M2 off2 hv2
    (refine el_EEEAA (hv2) ?_; (try clear hv2); rintro l2 k2 ys2 rfl hl2 hys2)
    dsimp only [mutL, List.cons_append, List.nil_append] at N2
    have hl2' : (l2, listOf ys2.toArray k2) ∈ (fr ++ rest2) := List.mem_append_right _ (M2.hs _ hl2)
    k_steps
    exact hret _ _ _ _ (by assumption) (by assumption) ⟨σ2, imm2, rest2, rfl, M2, by rw [takes_in hn1]⟩
end
end
section
inductive Mixed (w : World) (imm : List (Addr × Obj)) : List Value → List Str → Prop where
  | nil : Mixed w imm [] []
  | int {n : Int} {t : Tok} {xs : List Value} {ss : List Str} : Mixed w imm xs ss → Mixed w imm (.int n t :: xs) ss
  | sym {v : Value} {s : Str} {xs : List Value} {ss : List Str} : WSym w imm v s → Mixed w imm xs ss → Mixed w imm (v :: xs) (s :: ss)
theorem Mixed.mono {w : World} {imm imm' : List (Addr × Obj)} {xs : List Value} {ss : List Str} (h : Mixed w imm xs ss) (k : ∀ p ∈ imm, p ∈ imm') : Mixed w imm' xs ss := by
  induction h with
  | nil => exact .nil
  | int _ ih => exact .int ih
  | sym h _ ih => exact .sym (h.mono k) ih
def Wants (w : World) (imm : List (Addr × Obj)) (v : Value) (taken : List Str) : Prop :=
  (∃ s, WSym w imm v s ∧ taken = [s]) ∨ (v = .ref 78 ∧ taken = []) ∨ (∃ xs n t, LAt w imm v xs (.int n t) ∧ xs ≠ [] ∧ xs.length ≤ 1000 ∧ taken = []) ∨ ∃ xs, LAt w imm v xs (.ref 78) ∧ xs ≠ [] ∧ xs.length ≤ 1000 ∧ Mixed w imm xs taken
theorem off_lt {c : Cfg} {L : Addr} {l : List (Addr × Obj)} {o1 o2 : Obj} (h : @LT.lt Nat _ c.N L ∧ @LT.lt Nat _ c.R L ∧ @LT.lt Nat _ c.P L ∧ AllLt L l) (off : Off c l) : Off c ((L + 1 + 1, o1) :: (L + 1, o2) :: l) := by
  (refine el_AAA (h) ?_; (try clear h); rintro h1 h2 h3 _)
  exact Off.cons (Nat.ne_of_gt (Nat.lt_succ_of_lt (Nat.lt_succ_of_lt h1))) (Nat.ne_of_gt (Nat.lt_succ_of_lt (Nat.lt_succ_of_lt h2))) (Nat.ne_of_gt (Nat.lt_succ_of_lt (Nat.lt_succ_of_lt h3))) (Off.cons (Nat.ne_of_gt (Nat.lt_succ_of_lt h1)) (Nat.ne_of_gt (Nat.lt_succ_of_lt h2)) (Nat.ne_of_gt (Nat.lt_succ_of_lt h3)) off)
theorem Mixed.drop {w : World} {imm : List (Addr × Obj)} {xs : List Value} {ss : List Str} {i : Nat} {v : Value} (e : xs[i]? = some v) (h : Mixed w imm (xs.drop i) ss) : (∃ n t, v = .int n t ∧ Mixed w imm (xs.drop (i + 1)) ss) ∨ ∃ s ss', ss = s :: ss' ∧ WSym w imm v s ∧ Mixed w imm (xs.drop (i + 1)) ss' := by
  obtain ⟨h1, h2⟩ := List.getElem?_eq_some_iff.mp e
  rw [List.drop_eq_getElem_cons h1, h2] at h
  cases h with
  | int h => exact .inl ⟨_, _, rfl, h⟩
  | sym h9 h => exact .inr ⟨_, _, rfl, h9, h⟩
open LSm in
theorem bools_snoc {ys : List Value} {bs : List Bool} (h : BoolsAre ys bs) (b : Bool) : BoolsAre (ys ++ [.bool b]) (bs ++ [b]) := by
  induction h with
  | nil => exact .cons b .nil
  | cons c _ ih => exact .cons c ih
section
set_option maxRecDepth 100000 in
set_option maxHeartbeats 8000000 in
theorem handled_s (w : World) (c : Cfg) (σ : St) (imm fr rest : List (Addr × Obj)) (wv : Value) (taken : List Str) (name : Str) (tk : Tok) (hu2 : name ∈ uni2)
    (hX : σ.X = []) (hD : σ.D.lookup name = none → name ∈ std5) (H : WI w c σ imm) (hs : ∀ p ∈ imm, p ∈ rest) (off : Off c (fr ++ rest)) (hw : (∃ s, WSym w imm wv s ∧ taken = [s]) ∨ (wv = .ref 78 ∧ taken = []) ∨ (∃ xs n t, LAt w imm wv xs (.int n t) ∧ xs ≠ [] ∧ xs.length ≤ 1000 ∧ taken = [])) :
    Does w 174 13 120 [.ref c.wA, wv, .str name tk] (mutL c σ ++ (fr ++ rest)) (Step w c σ imm fr rest fun v σ' imm' => v = .bool (taken.any fun s => takes σ.D s name)) := by
  have : PySem.Challenge.rw_ok0061_01 = PySem.Challenge.rw_ok0061_01 ∧ hdz.heap_1 = hdz.heap_1 := by
    k_fill
    exact ⟨rfl, rfl⟩
  clear this
  unfold Does
  intro dp un gd cn cs a ccd cl outer A₀ base h₀ L m mean mg mb s Q E B F X N T hk hd hu hret
  obtain ⟨dw, u1, u2, u3, u4, u5, u6, u7, u8, u9, u10, db, t1, t2, dc, t3, t4, v2, m1, m2, m3, m4, m5, m6, ne1, ne2, ne3, dN, dP, loN, loP, klen⟩ := H.facts (fun p hp => List.mem_append_right fr (hs p hp))
  (refine el_AA (id off) ?_; rintro offN offR offP)
  rcases hw with ⟨s1, hw, rfl⟩ | ⟨rfl, rfl⟩ | ⟨xs, n, t, hL, hne, hlen, rfl⟩
  · rcases id hw with ⟨rfl, rfl⟩ | ⟨a1, i1, rfl, hu1, hsym⟩
    · dsimp only [mutL, List.cons_append, List.nil_append] at N
      refine wpAny_call ?_
      k_dflt ktr_enter
      k_steps
      unfold Hold
      rename_i L9 _ _ _ _ _ _ _ _ oA oB _ _ _
      have hoff9 : Off c ([(L9 + 1 + 1, oA), (L9 + 1, oB)] ++ fr ++ rest) := off_lt ‹@LT.lt Nat _ c.N L9 ∧ _› off
      refine step_use (takes_ok w c σ imm ([(L9 + 1 + 1, oA), (L9 + 1, oB)] ++ fr) rest (.ref 81) _ name _ hu2 hX hD H hs hoff9 hw) (by assumption) (by assumption) (by assumption) (by assumption) (by regstrif_slice) (by assumption) hoff9 rfl (by ktr_room) (by ktr_units) ?_
      intro v2 σ2 imm2 rest2 h2 tk2 F2 N2 M2 off2 hv2
      subst hv2
      k_steps
      exact hret _ (mutL c σ2 ++ (fr ++ rest2)) _ _ (by assumption) (News.sub (by assumption) (by regstrif_slice)) ⟨σ2, imm2, rest2, rfl, M2.weak (by regstrif_slice), by simp⟩
    · (refine el_EEEEEA (hsym.mono (fun p hp => List.mem_append_right fr (hs p hp))) ?_; rintro sd q1 q2 q3 q4 b1 b2)
      have n78 : @Ne Nat a1 78 := not81 N (List.mem_append_right _ b1) (X 78 _ (by k_is))
      dsimp only [mutL, List.cons_append, List.nil_append] at N
      refine wpAny_call ?_
      k_dflt ktr_enter
      k_steps
      unfold Hold
      rename_i L9 _ _ _ _ _ _ _ _ oA oB _ _ _
      have hoff9 : Off c ([(L9 + 1 + 1, oA), (L9 + 1, oB)] ++ fr ++ rest) := off_lt ‹@LT.lt Nat _ c.N L9 ∧ _› off
      refine step_use (takes_ok w c σ imm ([(L9 + 1 + 1, oA), (L9 + 1, oB)] ++ fr) rest (.ref a1) s1 name _ hu2 hX hD H hs hoff9 hw) (by assumption) (by assumption) (by assumption) (by assumption) (by regstrif_slice) (by assumption) hoff9 rfl (by ktr_room) (by ktr_units) ?_
      intro v2 σ2 imm2 rest2 h2 tk2 F2 N2 M2 off2 hv2
      subst hv2
      k_steps
      exact hret _ (mutL c σ2 ++ (fr ++ rest2)) _ _ (by assumption) (News.sub (by assumption) (by regstrif_slice)) ⟨σ2, imm2, rest2, rfl, M2.weak (by regstrif_slice), by simp⟩
  · dsimp only [mutL, List.cons_append, List.nil_append] at N
    refine wpAny_call ?_
    k_dflt ktr_enter
    k_steps
    exact hret _ (mutL c σ ++ (fr ++ rest)) _ _ (by assumption) (News.sub (by assumption) (by regstrif_slice)) (Step.same H hs rfl)
  · dsimp only [mutL, List.cons_append, List.nil_append] at N
    have hL' := (hL.mono hs).mono (fun p hp => List.mem_append_right fr hp)
    cases xs with
    | nil => exact absurd rfl hne
    | cons x xs =>
      cases id hL' with
      | cons g1 g2 g3 g4 g5 =>
        refine wpAny_call ?_
        k_dflt ktr_enter
        k_steps
        unfold Hold
        rename_i L9 _ _ _ _ _ _ _ _ oA oB _ _ _
        have hoff9 : Off c ([(L9 + 1 + 1, oA), (L9 + 1, oB)] ++ fr ++ rest) := off_lt ‹@LT.lt Nat _ c.N L9 ∧ _› off
        refine adds_use (items_of_ok w _ _ _ _ (hL'.mono (imm' := (L9 + 1 + 1, oA) :: (L9 + 1, oB) :: (c.N, σ.oN) :: (c.R, listOf (σ.ks.map (·.2)).toArray σ.n) :: (c.P, σ.oP) :: (fr ++ rest)) (fun p hp => by (first | exact sub_p hp (by regstrif_slice) | simp [hp]))) (.inr ⟨_, _, rfl⟩) hlen) (by assumption) (by assumption) (by assumption) (by assumption) (by assumption) rfl (by ktr_room) (by ktr_units) ?_
        intro v3 tl3 h3 tk3 F3 N3 fr3 hq3
        rw [if_neg (by intro h; cases h)] at hq3
        subst hq3
        k_steps
        unfold Hold
        rename_i l9 _ _ _ _ _
        refine LCt.ListComp_T (F₀ := by k_asm) (by with_unfolding_all rfl) (by decide) (by rfl) (by decide) (by rfl) ?_
        k_steps
        unfold Hold
        refine comp_T (ax := l9) (its := ([] : List Value).toArray) (k := 0) (fun i ys nx => ys = [] ∧ nx = (l9, listOf #[] 0) :: (tl3 ++ ((L9 + 1 + 1, oA) :: (L9 + 1, oB) :: (c.N, σ.oN) :: (c.R, listOf (σ.ks.map (·.2)).toArray σ.n) :: (c.P, σ.oP) :: (fr ++ rest)))) rfl (by assumption) (by assumption) List.mem_cons_self (by (first | regstrif_fact | simp)) ⟨rfl, rfl⟩ ?_ ?_
        · intro i v ys nx I oI C oC D m₂ h tk E' hv
          simp at hv
        · intro g ys nx hJ
          obtain ⟨rfl, rfl⟩ := hJ
          have hb0 := LSm.BoolsAre.nil
          k_steps
          exact hret _ (mutL c σ ++ (fr ++ rest)) _ _ (by assumption) (News.sub (by assumption) (by regstrif_slice)) (Step.same H hs rfl)
end
end
section
section
set_option maxRecDepth 100000 in
set_option maxHeartbeats 8000000 in
theorem handled_l (w : World) (c : Cfg) (σ : St) (imm fr rest : List (Addr × Obj)) (wv : Value) (taken : List Str) (name : Str) (tk : Tok) (hu2 : name ∈ uni2)
    (hX : σ.X = []) (hD : σ.D.lookup name = none → name ∈ std5) (H : WI w c σ imm) (hs : ∀ p ∈ imm, p ∈ rest) (off : Off c (fr ++ rest)) (xs : List Value) (hL : LAt w imm wv xs (.ref 78)) (hne : xs ≠ []) (hlen : xs.length ≤ 1000) (hmix : Mixed w imm xs taken) :
    Does w 174 13 120 [.ref c.wA, wv, .str name tk] (mutL c σ ++ (fr ++ rest)) (Step w c σ imm fr rest fun v σ' imm' => v = .bool (taken.any fun s => takes σ.D s name)) := by
  have : PySem.Challenge.rw_ok0061_01 = PySem.Challenge.rw_ok0061_01 ∧ hdz.heap_1 = hdz.heap_1 := by
    k_fill
    exact ⟨rfl, rfl⟩
  clear this
  unfold Does
  intro dp un gd cn cs a ccd cl outer A₀ base h₀ L m mean mg mb s Q E B F X N T hk hd hu hret
  obtain ⟨dw, u1, u2, u3, u4, u5, u6, u7, u8, u9, u10, db, t1, t2, dc, t3, t4, v2, m1, m2, m3, m4, m5, m6, ne1, ne2, ne3, dN, dP, loN, loP, klen⟩ := H.facts (fun p hp => List.mem_append_right fr (hs p hp))
  (refine el_AA (id off) ?_; rintro offN offR offP)
  dsimp only [mutL, List.cons_append, List.nil_append] at N
  have hL' := (hL.mono hs).mono (fun p hp => List.mem_append_right fr hp)
  cases xs with
  | nil => exact absurd rfl hne
  | cons x xs =>
    cases id hL' with
    | cons g1 g2 g3 g4 g5 =>
      refine wpAny_call ?_
      k_dflt ktr_enter
      k_steps
      unfold Hold
      rename_i L9 _ _ _ _ _ _ _ _ oA oB _ _ _
      have hoff9 : Off c ([(L9 + 1 + 1, oA), (L9 + 1, oB)] ++ fr ++ rest) := off_lt ‹@LT.lt Nat _ c.N L9 ∧ _› off
      refine adds_use (items_of_ok w _ _ _ _ (hL'.mono (imm' := (L9 + 1 + 1, oA) :: (L9 + 1, oB) :: (c.N, σ.oN) :: (c.R, listOf (σ.ks.map (·.2)).toArray σ.n) :: (c.P, σ.oP) :: (fr ++ rest)) (fun p hp => by (first | exact sub_p hp (by regstrif_slice) | simp [hp]))) (.inl rfl) hlen) (by assumption) (by assumption) (by assumption) (by assumption) (by assumption) rfl (by ktr_room) (by ktr_units) ?_
      intro v3 tl3 h3 tk3 F3 N3 fr3 hq3
      rw [if_pos rfl] at hq3
      (refine el_EEA (hq3) ?_; (try clear hq3); rintro l3 k3 e3 hl3)
      subst e3
      have hl3' : (l3, listOf (x :: xs).toArray k3) ∈ tl3 ++ ((L9 + 1 + 1, oA) :: (L9 + 1, oB) :: (c.N, σ.oN) :: (c.R, listOf (σ.ks.map (·.2)).toArray σ.n) :: (c.P, σ.oP) :: (fr ++ rest)) := List.mem_append_left _ hl3
      have hxl : xs.length ≤ 1000 := by simp at hlen; omega
      k_steps
      unfold Hold
      refine LCt.ListComp_T (F₀ := by k_asm) (by with_unfolding_all rfl) (by decide) (by rfl) (by decide) (by rfl) ?_
      k_steps
      unfold Hold
      refine comp_T (ax := l3) (its := (x :: xs).toArray) (k := k3) (fun i ys nx => ∃ σ2 imm2 rest2 bs ss, nx = mutL c σ2 ++ ([(L9 + 1 + 1, oA), (L9 + 1, oB)] ++ (tl3 ++ fr) ++ rest2) ∧ Mv w c ([(L9 + 1 + 1, oA), (L9 + 1, oB)] ++ (tl3 ++ fr)) σ imm rest σ2 imm2 rest2 ∧ Off c ([(L9 + 1 + 1, oA), (L9 + 1, oB)] ++ (tl3 ++ fr) ++ rest2) ∧ LSm.BoolsAre ys bs ∧ Mixed w imm ((x :: xs).drop i) ss ∧ bs ++ ss.map (fun s => takes σ.D s name) = taken.map (fun s => takes σ.D s name)) rfl (by assumption) (News.sub (by assumption) ?_) (by (first | exact sub_p hl3 (by regstrif_slice) | simp [hl3])) (by rw [sizeLine_eq]; simp only [List.size_toArray, List.length_cons]; omega) ⟨σ, imm, rest, [], taken, rfl, Mv.refl H hs, ?_, .nil, by simpa using hmix, by simp⟩ ?_ ?_
      · regstrif_slice
      · have h3N : ∀ p ∈ tl3, ∀ q ∈ ((L9 + 1 + 1, oA) :: (L9 + 1, oB) :: (c.N, σ.oN) :: (c.R, listOf (σ.ks.map (·.2)).toArray σ.n) :: (c.P, σ.oP) :: (fr ++ rest)), @LT.lt Nat _ q.1 p.1 := fr3
        have ho3 : Off c (tl3 ++ ([(L9 + 1 + 1, oA), (L9 + 1, oB)] ++ fr ++ rest)) := by
          refine ⟨fun p hp => ?_, fun p hp => ?_, fun p hp => ?_⟩ <;> rcases List.mem_append.mp hp with hp | hp
          · exact Nat.ne_of_gt (h3N p hp (c.N, σ.oN) (by (first | regstrif_fact | simp)))
          · exact hoff9.1 p hp
          · exact Nat.ne_of_gt (h3N p hp (c.R, listOf (σ.ks.map (·.2)).toArray σ.n) (by (first | regstrif_fact | simp)))
          · exact hoff9.2.1 p hp
          · exact Nat.ne_of_gt (h3N p hp (c.P, σ.oP) (by (first | regstrif_fact | simp)))
          · exact hoff9.2.2 p hp
        exact ho3.sub (by regstrif_slice)
      · intro i v ys nx I oI C oC D m₂ h tk E' hv hJ hC hx F N o ne
        (refine el_EEEEEAAAAA (hJ) ?_; (try clear hJ); rintro σ2 imm2 rest2 bs ss rfl M2 off2 hbs hmx hbe)
        dsimp only [mutL, List.cons_append, List.nil_append] at N
        rcases hmx.drop (by simpa using hv) with ⟨n, t, rfl, hmx2⟩ | ⟨s2, ss2, rfl, hw2, hmx2⟩
        · k_steps
          exact LCg.CompEnd.intro (by assumption) (by assumption) _ (fun p hp => hp) (by simpa using o) (.inr ⟨listOf (x :: xs).toArray k3, by (first | exact sub_p hl3 (by regstrif_slice) | simp [hl3]), rfl, _, rfl⟩) ⟨σ2, imm2, rest2, bs, ss, rfl, M2, off2, hbs, hmx2, hbe⟩
        · rcases id (hw2.mono M2.sub) with ⟨rfl, hst⟩ | ⟨a2, i2, rfl, hu2', hsym2⟩
          · k_steps
            unfold Hold
            have hDe : σ2.D = σ.D := M2.G.2.2.1
            have hoff3 := comp_off (oI := oI) (oC := oC) (oD := LCg.lst ys) (FR := [(L9 + 1 + 1, oA), (L9 + 1, oB)] ++ (tl3 ++ fr)) (by simpa using o) off2
            refine step_use (takes_ok w c σ2 imm2 ([(I, oI), (C, oC), (D, LCg.lst ys)] ++ ([(L9 + 1 + 1, oA), (L9 + 1, oB)] ++ (tl3 ++ fr))) rest2 _ s2 name _ hu2 (M2.G.2.2.2.trans hX) (by rw [hDe]; exact hD) M2.H M2.hs hoff3 (hw2.mono M2.sub)) (by assumption) (by assumption) (by assumption) (by assumption) (by regstrif_slice) (by assumption) hoff3 rfl (by ktr_room) (by ktr_units) ?_
            intro v3 σ3 imm3 rest3 h3 tk3 F3 N3 M3 off3 hv3
            subst hv3
            refine LCg.CompEnd.intro (by assumption) (by assumption) (mutL c σ3 ++ ([(L9 + 1 + 1, oA), (L9 + 1, oB)] ++ (tl3 ++ fr) ++ rest3)) (by regstrif_slice) (comp_off3 (by simpa using o) M3) (.inr ⟨listOf (x :: xs).toArray k3, by (first | exact sub_p hl3 (by regstrif_slice) | simp [hl3]), rfl, _, rfl⟩) ⟨σ3, imm3, rest3, bs ++ [takes σ2.D s2 name], ss2, rfl, M2.trans (M3.weak fun q hq => List.mem_append_right _ hq), off3.drop3, bools_snoc hbs _, hmx2, ?_⟩
            rw [hDe, ← hbe]; simp
          · (refine el_EEEEEA (hsym2.mono (fun p hp => List.mem_append_right (tl3 ++ fr) (M2.hs p hp))) ?_; rintro sd2 q1 q2 q3 q4 b1 b2)
            k_steps
            unfold Hold
            have hDe : σ2.D = σ.D := M2.G.2.2.1
            have hoff3 := comp_off (oI := oI) (oC := oC) (oD := LCg.lst ys) (FR := [(L9 + 1 + 1, oA), (L9 + 1, oB)] ++ (tl3 ++ fr)) (by simpa using o) off2
            refine step_use (takes_ok w c σ2 imm2 ([(I, oI), (C, oC), (D, LCg.lst ys)] ++ ([(L9 + 1 + 1, oA), (L9 + 1, oB)] ++ (tl3 ++ fr))) rest2 _ s2 name _ hu2 (M2.G.2.2.2.trans hX) (by rw [hDe]; exact hD) M2.H M2.hs hoff3 (hw2.mono M2.sub)) (by assumption) (by assumption) (by assumption) (by assumption) (by regstrif_slice) (by assumption) hoff3 rfl (by ktr_room) (by ktr_units) ?_
            intro v3 σ3 imm3 rest3 h3 tk3 F3 N3 M3 off3 hv3
            subst hv3
            refine LCg.CompEnd.intro (by assumption) (by assumption) (mutL c σ3 ++ ([(L9 + 1 + 1, oA), (L9 + 1, oB)] ++ (tl3 ++ fr) ++ rest3)) (by regstrif_slice) (comp_off3 (by simpa using o) M3) (.inr ⟨listOf (x :: xs).toArray k3, by (first | exact sub_p hl3 (by regstrif_slice) | simp [hl3]), rfl, _, rfl⟩) ⟨σ3, imm3, rest3, bs ++ [takes σ2.D s2 name], ss2, rfl, M2.trans (M3.weak fun q hq => List.mem_append_right _ hq), off3.drop3, bools_snoc hbs _, hmx2, ?_⟩
            rw [hDe, ← hbe]; simp
      · intro g ys nx hJ
        (refine el_EEEEEAAAAA (hJ) ?_; (try clear hJ); rintro σ2 imm2 rest2 bs ss rfl M2 off2 hbs hmx hbe)
        have hsz : (x :: xs).toArray.size = (x :: xs).length := by simp
        rw [hsz, List.drop_length] at hmx
        cases hmx
        dsimp only [mutL, List.cons_append, List.nil_append]
        k_steps
        have hbe2 : bs.any id = taken.any fun s => takes σ.D s name := by
          have : bs = taken.map (fun s => takes σ.D s name) := by simpa using hbe
          rw [this, List.any_map]; rfl
        rw [hbe2]
        exact hret _ (mutL c σ2 ++ (fr ++ rest2)) _ _ (by assumption) (News.sub (by assumption) (by regstrif_slice)) ⟨σ2, imm2, rest2, rfl, M2.weak (by regstrif_slice), rfl⟩
end
theorem handled_ok (w : World) (c : Cfg) (σ : St) (imm fr rest : List (Addr × Obj)) (wv : Value) (taken : List Str) (name : Str) (tk : Tok) (hu2 : name ∈ uni2)
    (hX : σ.X = []) (hD : σ.D.lookup name = none → name ∈ std5) (H : WI w c σ imm) (hs : ∀ p ∈ imm, p ∈ rest) (off : Off c (fr ++ rest)) (hw : Wants w imm wv taken) :
    Does w 174 13 120 [.ref c.wA, wv, .str name tk] (mutL c σ ++ (fr ++ rest)) (Step w c σ imm fr rest fun v σ' imm' => v = .bool (taken.any fun s => takes σ.D s name)) := by
  rcases hw with h | h | h | ⟨xs, hL, hne, hlen, hmix⟩
  · exact handled_s w c σ imm fr rest wv taken name tk hu2 hX hD H hs off (.inl h)
  · exact handled_s w c σ imm fr rest wv taken name tk hu2 hX hD H hs off (.inr (.inl h))
  · exact handled_s w c σ imm fr rest wv taken name tk hu2 hX hD H hs off (.inr (.inr h))
  · exact handled_l w c σ imm fr rest wv taken name tk hu2 hX hD H hs off xs hL hne hlen hmix
end
section
local macro_rules | `(tactic| row_timed "PICK" ($_t)) => `(tactic| with_reducible (first | assumption | (apply And.left; (iterate 17 (first | done | assumption | apply And.right)); done) | (apply And.right; (iterate 17 (first | done | assumption | apply And.right)); done)))
local macro_rules | `(tactic| k_ne) => `(tactic| (refine neN ?_; (try dsimp only); first | exact Nat.ne_of_gt (by row_timed "PICK" (fail)) | exact Nat.ne_of_lt (by row_timed "PICK" (fail)) | exact (by row_timed "PICK" (fail)) | exact Ne.symm (by row_timed "PICK" (fail)) | omega))

def WorldPost (w : World) (news : List (Addr × Obj)) (v : Value) (news' : List (Addr × Obj)) : Prop := ∃ c σ rest0, v = .ref c.wA ∧ news' = mutL c σ ++ (news ++ rest0) ∧ (∀ p ∈ rest0, ∀ q ∈ news, @LT.lt Nat _ q.1 p.1) ∧ (∀ q ∈ news, @LT.lt Nat _ q.1 c.N ∧ @LT.lt Nat _ q.1 c.R ∧ @LT.lt Nat _ q.1 c.P) ∧ Off c rest0 ∧ WI w c σ rest0 ∧ σ.D = [] ∧ σ.X = []
theorem world_end {w : World} {news : List (Addr × Obj)} {a0 a1 a2 a3 a4 a5 a6 a7 P Fn ce dc Nn R ob db wA d : Addr} {o0 p1 p2 o1 o2 o3 p6 p7 oP oF oN : Obj} {t1 t2 t3 t4 u1 u2 u3 u4 u5 u6 u7 u8 : Tok} {v3 v4 : Value} {h₀ h : Heap} {L : Addr}
    (N : News h₀ L h ((a0, o0) :: (a1, p1) :: (a2, p2) :: (a3, o1) :: (a4, o2) :: (a5, o3) :: (a6, p6) :: (a7, p7) :: (P, oP) :: (Fn, oF) :: (ce, instObj 273 dc) :: (dc, dictOf [ent w "functions" t3 (.ref Fn), ent w "plists" t4 (.ref P)] 2) :: (Nn, oN) :: (R, listOf #[.ref 78, .ref 81] 0) :: (ob, instObj 350 db) ::
      (db, dictOf [ent w "rows" t1 (.ref R), ent w "names" t2 (.ref Nn)] 2) :: (wA, instObj 518 d) :: (d, dictOf [ent w "obarray" u1 (.ref ob), ent w "cells" u2 (.ref ce), ent w "variables" u3 v3, ent w "bare" u4 v4, ent w "current" u5 .none, ent w "machine" u6 .none, ent w "last_marker" u7 (.int 0 u8)] 7) :: news))
    (dP : oP.IsDictOf (intKind PySem.Challenge.rw_ok0061_01.row.prog w) []) (dN : oN.IsDictOf (strKind PySem.Challenge.rw_ok0061_01.row.prog w) [(Str.ofString "nil", .ref 78), (Str.ofString "t", .ref 81)]) (loP : (P == sysModules) = false) (loN : (Nn == sysModules) = false)
    (hO : @LT.lt Nat _ a1 a0 ∧ @LT.lt Nat _ a2 a1 ∧ @LT.lt Nat _ a3 a2 ∧ @LT.lt Nat _ a4 a3 ∧ @LT.lt Nat _ a5 a4 ∧ @LT.lt Nat _ a6 a5 ∧ @LT.lt Nat _ a7 a6 ∧ @LT.lt Nat _ P a7 ∧ @LT.lt Nat _ Fn P ∧ @LT.lt Nat _ ce Fn ∧ @LT.lt Nat _ dc ce ∧ @LT.lt Nat _ Nn dc ∧ @LT.lt Nat _ R Nn ∧ @LT.lt Nat _ ob R ∧ @LT.lt Nat _ db ob ∧ @LT.lt Nat _ wA db ∧ @LT.lt Nat _ d wA)
    (hn : ∀ p ∈ news, p.1 < d) :
    ∃ news', News h₀ L h news' ∧ (WorldPost w news) (.ref wA) news' := by
  (refine el_AAAAAAAAAAAAAAAA (hO) ?_; (try clear hO); rintro k1 k2 k3 k4 k5 k6 k7 k8 k9 k10 k11 k12 k13 k14 k15 k16 k17)
  have gd15 := Nat.lt_trans k17 k16
  have gd14 := Nat.lt_trans gd15 k15
  have gd13 := Nat.lt_trans gd14 k14
  have gd12 := Nat.lt_trans gd13 k13
  have gd11 := Nat.lt_trans gd12 k12
  have gd10 := Nat.lt_trans gd11 k11
  have gd9 := Nat.lt_trans gd10 k10
  have gd8 := Nat.lt_trans gd9 k9
  have gd7 := Nat.lt_trans gd8 k8
  have gd6 := Nat.lt_trans gd7 k7
  have gd5 := Nat.lt_trans gd6 k6
  have gd4 := Nat.lt_trans gd5 k5
  have gd3 := Nat.lt_trans gd4 k4
  have gd2 := Nat.lt_trans gd3 k3
  have gd1 := Nat.lt_trans gd2 k2
  have gd0 := Nat.lt_trans gd1 k1
  have gP6 := Nat.lt_trans k8 k7
  have gP5 := Nat.lt_trans gP6 k6
  have gP4 := Nat.lt_trans gP5 k5
  have gP3 := Nat.lt_trans gP4 k4
  have gP2 := Nat.lt_trans gP3 k3
  have gP1 := Nat.lt_trans gP2 k2
  have gP0 := Nat.lt_trans gP1 k1
  have sP10 := Nat.lt_trans k10 k9
  have sP11 := Nat.lt_trans k11 sP10
  have sP12 := Nat.lt_trans k12 sP11
  have sP13 := Nat.lt_trans k13 sP12
  have sP14 := Nat.lt_trans k14 sP13
  have sP15 := Nat.lt_trans k15 sP14
  have sP16 := Nat.lt_trans k16 sP15
  have sP17 := Nat.lt_trans k17 sP16
  have gNn10 := Nat.lt_trans k12 k11
  have gNn9 := Nat.lt_trans gNn10 k10
  have gNn8 := Nat.lt_trans gNn9 k9
  have gNn7 := Nat.lt_trans gNn8 k8
  have gNn6 := Nat.lt_trans gNn7 k7
  have gNn5 := Nat.lt_trans gNn6 k6
  have gNn4 := Nat.lt_trans gNn5 k5
  have gNn3 := Nat.lt_trans gNn4 k4
  have gNn2 := Nat.lt_trans gNn3 k3
  have gNn1 := Nat.lt_trans gNn2 k2
  have gNn0 := Nat.lt_trans gNn1 k1
  have sNn14 := Nat.lt_trans k14 k13
  have sNn15 := Nat.lt_trans k15 sNn14
  have sNn16 := Nat.lt_trans k16 sNn15
  have sNn17 := Nat.lt_trans k17 sNn16
  have gR11 := Nat.lt_trans k13 k12
  have gR10 := Nat.lt_trans gR11 k11
  have gR9 := Nat.lt_trans gR10 k10
  have gR8 := Nat.lt_trans gR9 k9
  have gR7 := Nat.lt_trans gR8 k8
  have gR6 := Nat.lt_trans gR7 k7
  have gR5 := Nat.lt_trans gR6 k6
  have gR4 := Nat.lt_trans gR5 k5
  have gR3 := Nat.lt_trans gR4 k4
  have gR2 := Nat.lt_trans gR3 k3
  have gR1 := Nat.lt_trans gR2 k2
  have gR0 := Nat.lt_trans gR1 k1
  have sR15 := Nat.lt_trans k15 k14
  have sR16 := Nat.lt_trans k16 sR15
  have sR17 := Nat.lt_trans k17 sR16
  refine ⟨_, News.sub N ?_, ⟨wA, ob, ce, Nn, R, P⟩, ⟨[(Str.ofString "nil", .ref 78), (Str.ofString "t", .ref 81)], [], oN, 0, oP, [], []⟩, [(a0, o0), (a1, p1), (a2, p2), (a3, o1), (a4, o2), (a5, o3), (a6, p6), (a7, p7), (Fn, oF), (ce, instObj 273 dc), (dc, dictOf [ent w "functions" t3 (.ref Fn), ent w "plists" t4 (.ref P)] 2), (ob, instObj 350 db),
      (db, dictOf [ent w "rows" t1 (.ref R), ent w "names" t2 (.ref Nn)] 2), (wA, instObj 518 d), (d, dictOf [ent w "obarray" u1 (.ref ob), ent w "cells" u2 (.ref ce), ent w "variables" u3 v3, ent w "bare" u4 v4, ent w "current" u5 .none, ent w "machine" u6 .none, ent w "last_marker" u7 (.int 0 u8)] 7)], rfl, rfl, ?_, ?_, ?_, ?_, rfl, rfl⟩
  · refine sub_a (sub_c ?_ (sub_c ?_ (sub_c ?_ sub_n))) ?_
    · regstrif_fact
    · show (R, listOf #[.ref 78, .ref 81] 0) ∈ _
      regstrif_fact
    · regstrif_fact
    · regstrif_slice
  · intro p hp q hq
    exact Nat.lt_of_lt_of_le (hn q hq) ((all_c (Nat.le_of_lt gd0) (all_c (Nat.le_of_lt gd1) (all_c (Nat.le_of_lt gd2) (all_c (Nat.le_of_lt gd3) (all_c (Nat.le_of_lt gd4) (all_c (Nat.le_of_lt gd5) (all_c (Nat.le_of_lt gd6) (all_c (Nat.le_of_lt gd7) (all_c (Nat.le_of_lt gd9) (all_c (Nat.le_of_lt gd10) (all_c (Nat.le_of_lt gd11) (all_c (Nat.le_of_lt gd14) (all_c (Nat.le_of_lt gd15) (all_c (Nat.le_of_lt k17) (all_c (Nat.le_refl _) (all_n))))))))))))))) : ∀ p ∈ _, @LE.le Nat _ d p.1) p hp)
  · intro q hq
    have h1 : @LT.lt Nat _ q.1 d := hn q hq
    exact ⟨Nat.lt_trans h1 sNn17, Nat.lt_trans h1 sR17, Nat.lt_trans h1 sP17⟩
  · exact ⟨all_c (Nat.ne_of_gt gNn0) (all_c (Nat.ne_of_gt gNn1) (all_c (Nat.ne_of_gt gNn2) (all_c (Nat.ne_of_gt gNn3) (all_c (Nat.ne_of_gt gNn4) (all_c (Nat.ne_of_gt gNn5) (all_c (Nat.ne_of_gt gNn6) (all_c (Nat.ne_of_gt gNn7) (all_c (Nat.ne_of_gt gNn9) (all_c (Nat.ne_of_gt gNn10) (all_c (Nat.ne_of_gt k12) (all_c (Nat.ne_of_lt sNn14) (all_c (Nat.ne_of_lt sNn15) (all_c (Nat.ne_of_lt sNn16) (all_c (Nat.ne_of_lt sNn17) (all_n))))))))))))))), all_c (Nat.ne_of_gt gR0) (all_c (Nat.ne_of_gt gR1) (all_c (Nat.ne_of_gt gR2) (all_c (Nat.ne_of_gt gR3) (all_c (Nat.ne_of_gt gR4) (all_c (Nat.ne_of_gt gR5) (all_c (Nat.ne_of_gt gR6) (all_c (Nat.ne_of_gt gR7) (all_c (Nat.ne_of_gt gR9) (all_c (Nat.ne_of_gt gR10) (all_c (Nat.ne_of_gt gR11) (all_c (Nat.ne_of_lt k14) (all_c (Nat.ne_of_lt sR15) (all_c (Nat.ne_of_lt sR16) (all_c (Nat.ne_of_lt sR17) (all_n))))))))))))))), all_c (Nat.ne_of_gt gP0) (all_c (Nat.ne_of_gt gP1) (all_c (Nat.ne_of_gt gP2) (all_c (Nat.ne_of_gt gP3) (all_c (Nat.ne_of_gt gP4) (all_c (Nat.ne_of_gt gP5) (all_c (Nat.ne_of_gt gP6) (all_c (Nat.ne_of_gt k8) (all_c (Nat.ne_of_lt k9) (all_c (Nat.ne_of_lt sP10) (all_c (Nat.ne_of_lt sP11) (all_c (Nat.ne_of_lt sP14) (all_c (Nat.ne_of_lt sP15) (all_c (Nat.ne_of_lt sP16) (all_c (Nat.ne_of_lt sP17) (all_n)))))))))))))))⟩
  · exact { wo := ⟨d, u1, u2, u3, u4, u5, u6, u7, u8, v3, v4, by regstrif_fact, by regstrif_fact⟩
            oo := ⟨db, t1, t2, by regstrif_fact, by regstrif_fact⟩
            co := ⟨dc, t3, t4, .ref Fn, by regstrif_fact, by regstrif_fact⟩
            dN := dN
            dP := dP
            loN := loN
            loP := loP
            ne := ⟨Nat.ne_of_gt k13, Nat.ne_of_lt gNn8, Nat.ne_of_lt gR8⟩
            syms := fun i s v e => by
              match i, e with
              | 0, e => cases e; exact ⟨78, rfl, .inl ⟨rfl, rfl, rfl⟩⟩
              | 1, e => cases e; exact ⟨81, rfl, .inr (.inl ⟨rfl, rfl, rfl⟩)⟩
            uni := fun p hp => by
              rcases List.mem_cons.mp hp with rfl | hp
              · exact (by decide : Str.ofString "nil" ∈ uni)
              · rw [List.mem_singleton.mp hp]; exact (by decide : Str.ofString "t" ∈ uni)
            pn := by simp
            nil0 := rfl
            t1 := rfl
            plk := fun _ h => nomatch h
            Dk := fun _ h => nomatch h
            Du := fun _ h => nomatch h
            pls := fun i s v e hx => ⟨fun _ => rfl, fun names hn => by cases hn⟩ }
section
set_option maxRecDepth 100000 in
set_option maxHeartbeats 8000000 in
theorem world_ok (w : World) (news : List (Addr × Obj)) :
    Does w 518 6 100 [] news (WorldPost w news) := by
  have : PySem.Challenge.rw_ok0061_01 = PySem.Challenge.rw_ok0061_01 ∧ hdz.heap_1 = hdz.heap_1 := by
    k_fill
    exact ⟨rfl, rfl⟩
  clear this
  unfold Does
  intro dp un gd cn cs a ccd cl outer A₀ base h₀ L m mean mg mb s Q E B F X N T hk hd hu hret

  k_dflt (refine' call_cls ?k1 ?k2 ?k3 ?k4 ?k5 ?k6 ?_; (case k1 => k_asm); (case k2 => k_asm); (case k3 => k_asm); (case k4 => k_is); (case k5 => k_is); (case k6 => k_is); k_whole; intro x' d' h' F' N' l1 l2; (try k_lt l1); (try k_lt2 l2); (try k_sweep); ktr_enter)
  k_steps
  (refine el_EA (world_end (by assumption) (by assumption) (by assumption) (by assumption) (by assumption) (by refine ⟨?_, ?_, ?_, ?_, ?_, ?_, ?_, ?_, ?_, ?_, ?_, ?_, ?_, ?_, ?_, ?_, ?_⟩ <;> first | row_timed "PICK" (fail) | omega) (by assumption)) ?_; rintro nw hN hS)
  exact hret _ _ _ _ (by assumption) hN hS
end
end
section
/-- Does, with a word of the ground -/
def DoesL (w : World) (f : Addr) (r u : Nat) (vs : List Value) (news : List (Addr × Obj)) (Pre : Heap → Prop) (Post : Value → List (Addr × Obj) → Prop) : Prop :=
  ∀ (dp un : Nat) (gd : Option (List Code)) (cn : Str) (cs : Scope) (a : Addr) (ccd : Value) (cl : List (Str × Addr)) (outer : List Env) (A₀ : Around) (base h₀ : Heap) (L : Addr) (m : Str → Option Value)
    (mean : ExcName → Option Value) (mg mb : Str → Option Value) (s : Shared) (Q E : Value → Shared → Prop),
    Below A₀ base outer h₀ → Fr h₀ L s.heap m → (hdz.heap_1 w.params).In h₀ → News h₀ L s.heap news → Top hdz.view_1 lse mean mg mb h₀ → cs.kind = .function → dp + r < recursionLimit → un + u < cLine → Pre h₀ →
    (∀ v news' h' tk', Fr h₀ L h' m → News h₀ L h' news' → Post v news' → Q v { s with heap := h', toks := tk' }) →
    wpAny (model PySem.Challenge.rw_ok0061_01.row.prog w) (ktrTop dp un gd cn cs L a ccd cl outer) (call (.ref f) vs) Q E s
def DeckPost (news : List (Addr × Obj)) (v : Value) (news' : List (Addr × Obj)) : Prop :=
  ∃ dk C S d, v = .ref dk ∧ news' = dkL C S d ++ ((dk, listOf #[.ref C, .ref S] 0) :: news) ∧ DkOk d ∧ (∀ q ∈ news, q.1 ≠ C ∧ q.1 ≠ S ∧ q.1 ≠ dk) ∧ @LT.lt Nat _ C S ∧ @LT.lt Nat _ S dk
theorem deck_names3 {h₀ h : Heap} {L dk S C : Addr} {x y oC : Obj} {r : List (Addr × Obj)} (_N : News h₀ L h ((dk, x) :: (S, y) :: (C, oC) :: r)) : ∃ dk' S' C' oC', dk' = dk ∧ S' = S ∧ C' = C ∧ oC' = oC := ⟨_, _, _, _, rfl, rfl, rfl, rfl⟩
theorem ints_get {ys : List Value} {ns : List Int} (h : IntsAre ys ns) {i : Nat} {v : Value} (e : ys[i]? = some v) : ∃ n t, v = .int n t ∧ ns[i]? = some n := by
  induction h generalizing i with
  | nil => cases e
  | cons y t _ ih =>
    cases i with
    | zero => cases e; exact ⟨y, t, rfl, rfl⟩
    | succ i => (refine el_EEA (ih (by simpa using e)) ?_; rintro s u h1 h2); exact ⟨s, u, h1, by simpa using h2⟩
section
set_option maxRecDepth 100000 in
set_option maxHeartbeats 8000000 in
theorem deck_ok (w : World) (sc : Addr) (xs : List Value) (ns : List Int) (hI : IntsAre xs ns) (hlen : ns.length ≤ 63) (news : List (Addr × Obj)) :
    DoesL w 533 4 100 [.ref sc] news (fun h => h.IsList sc xs.toArray) (DeckPost news) := by
  have : PySem.Challenge.rw_ok0061_01 = PySem.Challenge.rw_ok0061_01 ∧ hdz.heap_1 = hdz.heap_1 := by
    k_fill
    exact ⟨rfl, rfl⟩
  clear this
  unfold DoesL
  intro dp un gd cn cs a ccd cl outer A₀ base h₀ L m mean mg mb s Q E B F X N T hk hd hu hsc hret
  have hxl := hI.length
  have hG : ∀ g, Fr h₀ L g m → g.IsList sc xs.toArray := fun g FG => hsc.at fun o e => FG.keep _ _ e
  refine wpAny_call ?_
  k_dflt ktr_enter
  have hsc' := hG _ (by assumption)
  k_steps
  unfold Hold
  refine LCg.Assign_ListComp_U (F₀ := by k_asm) (by rfl) (by with_unfolding_all rfl) (by with_unfolding_all rfl) (by decide) (by rfl) (by decide) (by rfl) (by rfl) (by rfl) ?_
  k_steps
  unfold Hold
  rename_i D9 ws _ _ _ _ _ _ _
  have N9 := ‹News _ _ _ ((_, listOf _ 0) :: news)›
  have hws := ‹IntsAre ws (List.take 10 ns)›
  have hwl := hws.length
  have hl9 := ‹∀ p ∈ news, p.1 < D9›
  have htk : (List.take 10 ns).length ≤ 10 := by simp; omega
  refine comp_U (ax := D9) (its := ws.toArray) (k := 0) (fun i ys nx => nx = (D9, listOf ws.toArray 0) :: news ∧ ∃ ms, IntsAre ys ms ∧ ms.length = i ∧ ∀ m ∈ ms, 0 ≤ m ∧ m < 10 ^ 24) rfl (by assumption) (by assumption) List.mem_cons_self (by rw [sizeLine_eq]; simp only [List.size_toArray]; omega) ⟨rfl, [], .nil, rfl, fun _ h => nomatch h⟩ ?_ ?_
  · intro i v ys nx I oI C oC D m₂ h tk E' hv hi hJ hC hx F N o ne
    (refine el_AEAA (hJ) ?_; (try clear hJ); rintro rfl ms hms hml hmb)
    (refine el_EEA (ints_get hws (by simpa using hv)) ?_; rintro n t rfl hn)
    k_steps
    have b1 := fmod_lo (Int.natAbs n : Int) (show (0 : Int) < 10 ^ 24 by omega)
    have b2 := fmod_hi (Int.natAbs n : Int) (show (0 : Int) < 10 ^ 24 by omega)
    refine LCg.CompEnd.intro (by assumption) (by assumption) _ (fun p hp => hp) o (.inr ⟨_, List.mem_cons_self, rfl, _, rfl⟩) ⟨rfl, ms ++ [_], ints_snoc hms _ _, by (first | exact sub_p hml (by regstrif_slice) | simp [hml]), ?_⟩
    intro m hm
    rcases List.mem_append.mp hm with hm | hm
    · exact hmb m hm
    · rw [List.mem_singleton.mp hm]
      exact ⟨fmod_lo _ (show (0 : Int) < 10 ^ Int.toNat 24 by decide), fmod_hi _ (show (0 : Int) < 10 ^ Int.toNat 24 by decide)⟩
  · intro g ys nx hJ
    (refine el_AEAA (hJ) ?_; (try clear hJ); rintro rfl ms hms hml hmb)
    k_steps
    (refine el_EEEEAAA (deck_names3 ‹News _ _ _ ((_, listOf #[_, _] 0) :: (_, listOf #[_] 0) :: (_, _) :: _)›) ?_; rintro dk S C oC e1 e2 e3 e4)
    subst e1 e2 e3
    (refine el_AA (‹@LT.lt Nat _ C S ∧ @LT.lt Nat _ D9 S ∧ AllLt S news›) ?_; rintro p1 p2 p3)
    (refine el_AAA (‹@LT.lt Nat _ S dk ∧ @LT.lt Nat _ C dk ∧ @LT.lt Nat _ D9 dk ∧ AllLt dk news›) ?_; rintro p4 p5 p6 p7)
    obtain ⟨p8, p9⟩ := ‹@Ne Nat D9 C ∧ LCg.Off1 C news›
    have o9 := off1_mem p9
    have hsd := seed_hi ms.sum
    have hs0 := seed_lo ms.sum
    have hs2 := fmod_hi ms.sum (show (0 : Int) < 1000003 by omega)
    refine hret _ (dkL C S ⟨ys, ms, ys.length, 43 + ↑ns.length + ms.sum.fmod 1000003, _, 0⟩ ++ ((dk, listOf #[.ref C, .ref S] 0) :: news)) _ _ (by assumption) (News.sub (by assumption) (by regstrif_slice)) ⟨dk, C, S, _, rfl, rfl, ⟨hms, fun n hn => (hmb n hn).1, fun n hn => (hmb n hn).2, ?_, ?_, ?_⟩, fun q hq => ⟨o9 q hq, Nat.ne_of_lt (AllLt.mem p3 q hq), Nat.ne_of_lt (AllLt.mem p7 q hq)⟩, p1, p4⟩
    · simp only [List.size_toArray] at hml; dsimp only; omega
    · dsimp only; omega
    · dsimp only; omega
end
end
section
def lawDef : List Stmt × Scope := match PySem.Challenge.pw_ok0061_01.main.body.getLast? with
  | some (.FunctionDef _ _ body _ _ _ scope _ _ _) => (body, scope)
  | _ => ([], default)
def lawBody : List Stmt := lawDef.1
def lawScope : Scope := lawDef.2
abbrev lawE (L a : Addr) (cd : Value) : Env := envOfC (Str.ofString "law") lawScope L a cd
/-- what is to be shown of the law's rest from its statement n on -/
def Rest (w : World) (n : Nat) (h₀ : Heap) (L a : Addr) (cd : Value) (s : Shared) (Q : Flow → Shared → Prop) (E : Value → Shared → Prop) : Prop :=
  wpAny (model PySem.Challenge.rw_ok0061_01.row.prog w) (callerA.deeper (lawE L a cd)) (execs (lawBody.drop n) (lawE L a cd)) Q E s
structure Gr (w : World) (mean : ExcName → Option Value) (mg mb : Str → Option Value) (h₀ : Heap) (L a : Addr) (cd : Value) (E : Value → Shared → Prop) : Prop where
  B : Below callerA h₀ [] h₀
  X : (hdz.heap_1 w.params).In h₀
  T : Top hdz.view_1 lse mean mg mb h₀
  hE : PassesOwn (model PySem.Challenge.rw_ok0061_01.row.prog w) (callerA.deeper (lawE L a cd)) (lawE L a cd) E
def Ends (h₀ : Heap) (L : Addr) (s : Shared) (Q : Flow → Shared → Prop) : Prop := ∀ h' tk m' news', Fr h₀ L h' m' → News h₀ L h' news' → Q (.ret (.bool true)) { s with heap := h', toks := tk }

def lawFor (n : Nat) : List Stmt := match lawBody[n]? with
  | some (.For _ _ b _ _) => b
  | _ => []
structure Lx where
  σ : St
  imm : List (Addr × Obj)
  rest : List (Addr × Obj)
  d : Dk
  oR : Obj
  rows : List (Str × Value)
  oK : Obj
  oN : Obj
/-- what the law itself changes, but the world's -/
abbrev ownL (L C S rw : Addr) (x : Lx) : List (Addr × Obj) := [(L + 1 + 1 + 1 + 1, x.oK), (L + 1 + 1 + 1, x.oN), (rw, x.oR), (C, listOf x.d.vs.toArray x.d.kc), (S, listOf #[.int x.d.sd x.d.ts] x.d.ks)]
abbrev cellL (L : Addr) (oD oW : Obj) : List (Addr × Obj) := [(L + 1 + 1, oW), (L + 1, oD)]
abbrev lawL (c : Cfg) (L C S rw : Addr) (oD oW : Obj) (x : Lx) : List (Addr × Obj) := mutL c x.σ ++ ((ownL L C S rw x ++ cellL L oD oW) ++ x.rest)
def ownN (i : Nat) : Str := Str.ofString "own" ++ Str.ofString (toString (0 + (i : Int) * 1))
def ownNames (n : Nat) : List Str := (List.range n).map ownN
def RowAt (D : List (Str × List Str)) (rest : List (Addr × Obj)) (kv : Str × Value) : Prop := ∃ l k ys, kv.2 = .ref l ∧ (l, listOf ys.toArray k) ∈ rest ∧ StrsAre ys (condsOf D kv.1)
structure LOb (w : World) (c : Cfg) (L C S rw dk : Addr) (oD oW : Obj) (x : Lx) : Prop where
  H : WI w c x.σ x.imm
  hs : ∀ p ∈ x.imm, p ∈ x.rest
  X : x.σ.X = []
  dOk : DkOk x.d
  mdk : (dk, listOf #[.ref C, .ref S] 0) ∈ x.rest
  cD : oD.data = .cell (some (.ref dk))
  cW : oW.data = .cell (some (.ref rw))
  cK : ∃ v, x.oK.data = .cell v
  cN : ∃ v, x.oN.data = .cell v
  loR : (rw == sysModules) = false
  nd : ([L + 1 + 1 + 1 + 1, L + 1 + 1 + 1, L + 1 + 1, L + 1, C, S, rw, c.N, c.R, c.P] : List Nat).Nodup
  offs : ∀ p ∈ x.rest, ∀ a ∈ [L + 1 + 1 + 1 + 1, L + 1 + 1 + 1, L + 1 + 1, L + 1, C, S, rw, c.N, c.R, c.P], @Ne Nat p.1 a
structure LOk (w : World) (c : Cfg) (L C S rw dk : Addr) (oD oW : Obj) (x : Lx) : Prop extends LOb w c L C S rw dk oD oW x where
  isR : x.oR.IsDictOf (strKind PySem.Challenge.rw_ok0061_01.row.prog w) x.rows
  rowsOk : ∀ kv ∈ x.rows, RowAt x.σ.D x.rest kv
theorem LOb.move {w : World} {c : Cfg} {L C S rw dk : Addr} {oD oW : Obj} {x : Lx} (ok : LOb w c L C S rw dk oD oW x) {σ' : St} {imm' rest' : List (Addr × Obj)} {d' : Dk} {oR' : Obj} {rows' : List (Str × Value)} {oK' oN' : Obj}
    (H : WI w c σ' imm') (hs : ∀ p ∈ imm', p ∈ rest') (X : σ'.X = []) (subr : ∀ p ∈ x.rest, p ∈ rest') (fresh : ∀ p ∈ rest', p ∈ x.rest ∨ ∀ q ∈ lawL c L C S rw oD oW x, @Ne Nat q.1 p.1) (dOk : DkOk d') (cK : ∃ v, oK'.data = .cell v) (cN : ∃ v, oN'.data = .cell v) : LOb w c L C S rw dk oD oW ⟨σ', imm', rest', d', oR', rows', oK', oN'⟩ where
  H := H
  hs := hs
  X := X
  dOk := dOk
  mdk := subr _ ok.mdk
  cD := ok.cD
  cW := ok.cW
  cK := cK
  cN := cN
  loR := ok.loR
  nd := ok.nd
  offs := fun p hp a ha => by
    rcases fresh p hp with h | h
    · exact ok.offs p h a ha
    · have k : ∀ (b : Addr) (o : Obj), (b, o) ∈ lawL c L C S rw oD oW x → @Ne Nat p.1 b := fun b o hm => Ne.symm (h (b, o) hm)
      exact (all_c (k _ x.oK (by regstrif_fact)) (all_c (k _ x.oN (by regstrif_fact)) (all_c (k _ oW (by regstrif_fact)) (all_c (k _ oD (by regstrif_fact)) (all_c (k _ (listOf x.d.vs.toArray x.d.kc) (by regstrif_fact)) (all_c (k _ (listOf #[.int x.d.sd x.d.ts] x.d.ks) (by regstrif_fact)) (all_c (k _ x.oR (by regstrif_fact)) (all_c (k _ x.σ.oN (by regstrif_fact)) (all_c (k _ (listOf (x.σ.ks.map (·.2)).toArray x.σ.n) (by regstrif_fact)) (all_c (k _ x.σ.oP (by regstrif_fact)) (all_n)))))))))) : ∀ a ∈ ([L + 1 + 1 + 1 + 1, L + 1 + 1 + 1, L + 1 + 1, L + 1, C, S, rw, c.N, c.R, c.P] : List Nat), @Ne Nat p.1 a) a ha
theorem LOk.dk {w : World} {c : Cfg} {L C S rw dk : Addr} {oD oW : Obj} {x : Lx} (ok : LOk w c L C S rw dk oD oW x) {d' : Dk} (h : DkOk d') : LOk w c L C S rw dk oD oW { x with d := d' } :=
  { ok with dOk := h }
theorem LOk.move {w : World} {c : Cfg} {L C S rw dk : Addr} {oD oW : Obj} {x : Lx} (ok : LOk w c L C S rw dk oD oW x) {σ' : St} {imm' rest' : List (Addr × Obj)} {d' : Dk} {oR' : Obj} {rows' : List (Str × Value)} {oK' oN' : Obj}
    (H : WI w c σ' imm') (hs : ∀ p ∈ imm', p ∈ rest') (X : σ'.X = []) (subr : ∀ p ∈ x.rest, p ∈ rest') (fresh : ∀ p ∈ rest', p ∈ x.rest ∨ ∀ q ∈ lawL c L C S rw oD oW x, @Ne Nat q.1 p.1) (dOk : DkOk d') (cK : ∃ v, oK'.data = .cell v) (cN : ∃ v, oN'.data = .cell v)
    (isR : oR'.IsDictOf (strKind PySem.Challenge.rw_ok0061_01.row.prog w) rows') (rowsOk : ∀ kv ∈ rows', RowAt σ'.D rest' kv) : LOk w c L C S rw dk oD oW ⟨σ', imm', rest', d', oR', rows', oK', oN'⟩ :=
  { ok.toLOb.move H hs X subr fresh dOk cK cN with isR := isR, rowsOk := rowsOk }
/-- the ten addresses that change, pairwise apart -/
theorem LOb.nds {w : World} {c : Cfg} {L C S rw dk : Addr} {oD oW : Obj} {x : Lx} (ok : LOb w c L C S rw dk oD oW x) :
    (@Ne Nat C rw ∧ @Ne Nat S rw ∧ @Ne Nat C S ∧ @Ne Nat C c.N ∧ @Ne Nat C c.R ∧ @Ne Nat C c.P ∧ @Ne Nat S c.N ∧ @Ne Nat S c.R ∧ @Ne Nat S c.P ∧ @Ne Nat rw c.N ∧ @Ne Nat rw c.R ∧ @Ne Nat rw c.P ∧ @Ne Nat c.N c.R ∧ @Ne Nat c.N c.P ∧ @Ne Nat c.R c.P) ∧
      ∀ b ∈ ([L + 1 + 1 + 1 + 1, L + 1 + 1 + 1, L + 1 + 1, L + 1] : List Nat), @Ne Nat b C ∧ @Ne Nat b S ∧ @Ne Nat b rw ∧ @Ne Nat b c.N ∧ @Ne Nat b c.R ∧ @Ne Nat b c.P := by
  have h0 := nd_h ok.nd
  have h1 := nd_h h0.2
  have h2 := nd_h h1.2
  have h3 := nd_h h2.2
  have hC := nd_h h3.2
  have hS := nd_h hC.2
  have hw := nd_h hS.2
  have hN := nd_h hw.2
  have hR := nd_h hN.2
  exact ⟨⟨hC.1 rw (by regstrif_fact), hS.1 rw (by regstrif_fact), hC.1 S (by regstrif_fact), hC.1 c.N (by regstrif_fact), hC.1 c.R (by regstrif_fact), hC.1 c.P (by regstrif_fact), hS.1 c.N (by regstrif_fact), hS.1 c.R (by regstrif_fact), hS.1 c.P (by regstrif_fact), hw.1 c.N (by regstrif_fact), hw.1 c.R (by regstrif_fact), hw.1 c.P (by regstrif_fact), hN.1 c.R (by regstrif_fact), hN.1 c.P (by regstrif_fact), hR.1 c.P (by regstrif_fact)⟩,
    all_c ⟨h0.1 C (by regstrif_fact), h0.1 S (by regstrif_fact), h0.1 rw (by regstrif_fact), h0.1 c.N (by regstrif_fact), h0.1 c.R (by regstrif_fact), h0.1 c.P (by regstrif_fact)⟩ (all_c ⟨h1.1 C (by regstrif_fact), h1.1 S (by regstrif_fact), h1.1 rw (by regstrif_fact), h1.1 c.N (by regstrif_fact), h1.1 c.R (by regstrif_fact), h1.1 c.P (by regstrif_fact)⟩ (all_c ⟨h2.1 C (by regstrif_fact), h2.1 S (by regstrif_fact), h2.1 rw (by regstrif_fact), h2.1 c.N (by regstrif_fact), h2.1 c.R (by regstrif_fact), h2.1 c.P (by regstrif_fact)⟩ (all_c ⟨h3.1 C (by regstrif_fact), h3.1 S (by regstrif_fact), h3.1 rw (by regstrif_fact), h3.1 c.N (by regstrif_fact), h3.1 c.R (by regstrif_fact), h3.1 c.P (by regstrif_fact)⟩ all_n)))⟩
theorem ne_cons2 {a b : Addr} {o : Obj} {l : List (Addr × Obj)} (h : @Ne Nat b a) (k : ∀ p ∈ l, p.1 ≠ a) : ∀ p ∈ (b, o) :: l, p.1 ≠ a := fun p hp => by
  rcases List.mem_cons.mp hp with rfl | hp
  · exact h
  · exact k p hp
/-- an own address stands apart from the rest -/
theorem LOb.off1 {w : World} {c : Cfg} {L C S rw dk : Addr} {oD oW : Obj} {x : Lx} (ok : LOb w c L C S rw dk oD oW x) {a : Addr} (ha : a ∈ ([L + 1 + 1 + 1 + 1, L + 1 + 1 + 1, L + 1 + 1, L + 1, C, S, rw, c.N, c.R, c.P] : List Nat)) : ∀ p ∈ x.rest, p.1 ≠ a := fun p hp => ok.offs p hp a ha
theorem LOb.offc {w : World} {c : Cfg} {L C S rw dk : Addr} {oD oW : Obj} {x : Lx} (ok : LOb w c L C S rw dk oD oW x) : Off c (ownL L C S rw x ++ cellL L oD oW ++ x.rest) := by
  obtain ⟨⟨n1, n2, n3, n4, n5, n6, n7, n8, n9, n10, n11, n12, n13, n14, n15⟩, nb⟩ := ok.nds
  (refine el_AAAAA (nb (L + 1 + 1 + 1 + 1) (by (first | regstrif_fact | simp))) ?_; rintro _ _ _ a1 a2 a3)
  (refine el_AAAAA (nb (L + 1 + 1 + 1) (by (first | regstrif_fact | simp))) ?_; rintro _ _ _ b1 b2 b3)
  (refine el_AAAAA (nb (L + 1 + 1) (by (first | regstrif_fact | simp))) ?_; rintro _ _ _ d1 d2 d3)
  (refine el_AAAAA (nb (L + 1) (by (first | regstrif_fact | simp))) ?_; rintro _ _ _ e1 e2 e3)
  exact Off.cons a1 a2 a3 (Off.cons b1 b2 b3 (Off.cons n10 n11 n12 (Off.cons n4 n5 n6 (Off.cons n7 n8 n9 (Off.cons d1 d2 d3 (Off.cons e1 e2 e3 ⟨ok.off1 (by (first | regstrif_fact | simp)), ok.off1 (by (first | regstrif_fact | simp)), ok.off1 (by (first | regstrif_fact | simp))⟩))))))
abbrev drawR (c : Cfg) (L rw : Addr) (oD oW : Obj) (x : Lx) : List (Addr × Obj) := (L + 1 + 1 + 1 + 1, x.oK) :: (L + 1 + 1 + 1, x.oN) :: (rw, x.oR) :: (L + 1 + 1, oW) :: (L + 1, oD) :: (mutL c x.σ ++ x.rest)
theorem LOb.drawC {w : World} {c : Cfg} {L C S rw dk : Addr} {oD oW : Obj} {x : Lx} (ok : LOb w c L C S rw dk oD oW x) : (∀ p ∈ drawR c L rw oD oW x, p.1 ≠ C) ∧ (∀ p ∈ drawR c L rw oD oW x, p.1 ≠ S) ∧ @Ne Nat C S := by
  obtain ⟨⟨n1, n2, n3, n4, n5, n6, n7, n8, n9, n10, n11, n12, n13, n14, n15⟩, nb⟩ := ok.nds
  exact ⟨ne_cons2 (nb (L + 1 + 1 + 1 + 1) (by (first | regstrif_fact | simp))).1 (ne_cons2 (nb (L + 1 + 1 + 1) (by (first | regstrif_fact | simp))).1 (ne_cons2 (Ne.symm n1) (ne_cons2 (nb (L + 1 + 1) (by (first | regstrif_fact | simp))).1 (ne_cons2 (nb (L + 1) (by (first | regstrif_fact | simp))).1 (ne_cons2 (Ne.symm n4) (ne_cons2 (Ne.symm n5) (ne_cons2 (Ne.symm n6) (ok.off1 (by (first | regstrif_fact | simp)))))))))),
    ne_cons2 (nb (L + 1 + 1 + 1 + 1) (by (first | regstrif_fact | simp))).2.1 (ne_cons2 (nb (L + 1 + 1 + 1) (by (first | regstrif_fact | simp))).2.1 (ne_cons2 (Ne.symm n2) (ne_cons2 (nb (L + 1 + 1) (by (first | regstrif_fact | simp))).2.1 (ne_cons2 (nb (L + 1) (by (first | regstrif_fact | simp))).2.1 (ne_cons2 (Ne.symm n7) (ne_cons2 (Ne.symm n8) (ne_cons2 (Ne.symm n9) (ok.off1 (by (first | regstrif_fact | simp)))))))))), n3⟩
structure LR (n : Nat) (x : Lx) : Prop where
  rowsK : x.rows.map (·.1) = std5 ++ x.σ.D.map (·.1)
  Dn : x.σ.D.map (·.1) = ownNames n
theorem own_uni {i : Nat} (hi : i < 6) : ownN i ∈ uni2 := by
  rcases (by omega : i = 0 ∨ i = 1 ∨ i = 2 ∨ i = 3 ∨ i = 4 ∨ i = 5) with rfl | rfl | rfl | rfl | rfl | rfl <;> decide
theorem own_new {i : Nat} (hi : i < 6) : ownN i ∉ std5 ++ ownNames i := by
  rcases (by omega : i = 0 ∨ i = 1 ∨ i = 2 ∨ i = 3 ∨ i = 4 ∨ i = 5) with rfl | rfl | rfl | rfl | rfl | rfl <;> decide
theorem keys_uni {i : Nat} (hi : i ≤ 6) : ∀ p ∈ std5 ++ ownNames i, p ∈ uni2 := by
  intro p hp
  rcases List.mem_append.mp hp with h | h
  · exact (by decide : ∀ p ∈ std5, p ∈ uni2) p h
  · (refine el_EA (List.mem_map.mp h) ?_; rintro j hj rfl)
    exact own_uni (by have := List.mem_range.mp hj; omega)
theorem lookup_none {α : Type} {xs : List (Str × α)} {k : Str} (h : xs.lookup k = none) (hm : k ∈ xs.map (·.1)) : False := by
  induction xs with
  | nil => simp at hm
  | cons p r ih =>
    obtain ⟨a, b⟩ := p
    rw [List.lookup_cons] at h
    cases e : k == a with
    | true => rw [e] at h; cases h
    | false =>
      rw [e] at h
      rcases List.mem_cons.mp hm with rfl | hm
      · simp at e
      · exact ih h hm
theorem rng_up (r : Int) (h0 : 0 ≤ r) (h1 : r ≤ 1000) : Builtin.Range.small 0 r 1 = true ∧ Builtin.Range.rangeSize 0 r 1 = ((r.toNat : Nat) : Int) := by
  have e : Builtin.Range.rangeSize 0 r 1 = ((r.toNat : Nat) : Int) := by simp [Builtin.Range.rangeSize]; omega
  refine ⟨?_, e⟩
  unfold Builtin.Range.small
  rw [e]
  simp [Builtin.Range.rangeFitsLong]
  omega
theorem str_at {vs : List Value} {ss : List Str} (h : StrsAre vs ss) {r : Int} (h0 : 0 ≤ r) (h1 : r < (vs.length : Int)) : ∃ s t, vs[r.toNat]? = some (.str s t) ∧ s ∈ ss := by
  have hlt : r.toNat < vs.length := by omega
  (refine el_EEA (strs_get h (List.getElem?_eq_getElem hlt)) ?_; rintro s t e1 e2)
  exact ⟨s, t, by rw [List.getElem?_eq_getElem hlt, e1], List.mem_of_getElem? e2⟩
theorem add_two {prog : Program} {w : World} {A : Around} {E : Value → Shared → Prop} {s : Shared} {h₀ : Heap} {L l b : Addr} {m : Str → Option Value} {news : List (Addr × Obj)} {xs us : List Value} {k k2 : Nat} {Q : Value → Shared → Prop} (F : Fr h₀ L s.heap m) (N : News h₀ L s.heap news) (hl : (l, listOf xs.toArray k) ∈ news) (hb : (b, listOf us.toArray k2) ∈ news) (hz : xs.length + us.length ≤ 1000)
    (h : ∀ D h', Fr h₀ L h' m → News h₀ L h' ((D, listOf (xs ++ us).toArray 0) :: news) → (∀ q ∈ news, @LT.lt Nat _ q.1 D) → Q (.ref D) { s with heap := h' }) : wpAny (model prog w) A (binaryOp .Add (.ref l) (.ref b)) Q E s :=
  add_arrays F N ⟨_, (N _ hl).1, rfl, _, rfl⟩ ⟨_, (N _ hb).1, rfl, _, rfl⟩ (fun h' F' N' => h _ h' F' (by simpa using N') fun q hq => Heap.lt_size (N q hq).1) (by rw [sizeLine_eq]; simp only [List.size_toArray]; omega)
abbrev nameR (c : Cfg) (L C S rw : Addr) (oD oW : Obj) (x : Lx) : List (Addr × Obj) := (L + 1 + 1 + 1 + 1, x.oK) :: (rw, x.oR) :: (L + 1 + 1, oW) :: (L + 1, oD) :: (mutL c x.σ ++ (dkL C S x.d ++ x.rest))
theorem LOb.off3 {w : World} {c : Cfg} {L C S rw dk : Addr} {oD oW : Obj} {x : Lx} (ok : LOb w c L C S rw dk oD oW x) : ∀ p ∈ nameR c L C S rw oD oW x, p.1 ≠ L + 1 + 1 + 1 := by
  (refine el_AAAAA (ok.nds.2 (L + 1 + 1 + 1) (by (first | regstrif_fact | simp))) ?_; rintro z1 z2 z3 z4 z5 z6)
  exact ne_cons2 (Nat.ne_of_gt (Nat.lt_succ_self _)) (ne_cons2 (Ne.symm z3) (ne_cons2 (Nat.ne_of_lt (Nat.lt_succ_self _)) (ne_cons2 (Nat.ne_of_lt (Nat.lt_succ_of_lt (Nat.lt_succ_self _))) (ne_cons2 (Ne.symm z4) (ne_cons2 (Ne.symm z5) (ne_cons2 (Ne.symm z6) (ne_cons2 (Ne.symm z1) (ne_cons2 (Ne.symm z2) (ok.off1 (by (first | regstrif_fact | simp)))))))))))
theorem LOk.step {w : World} {c : Cfg} {L C S rw dk : Addr} {oD oW : Obj} {x : Lx} (ok : LOk w c L C S rw dk oD oW x) {fr : List (Addr × Obj)} {σ' : St} {imm' rest' : List (Addr × Obj)} (M : Mv w c fr x.σ x.imm x.rest σ' imm' rest') (hfr : ∀ q ∈ lawL c L C S rw oD oW x, q ∈ mutL c x.σ ++ (fr ++ x.rest)) :
    LOk w c L C S rw dk oD oW ⟨σ', imm', rest', x.d, x.oR, x.rows, x.oK, x.oN⟩ :=
  ok.move M.H M.hs (M.G.2.2.2.trans ok.X) M.subr (fun p hp => (M.fresh p hp).imp id fun h q hq => h q (hfr q hq)) ok.dOk ok.cK ok.cN ok.isR (fun kv hkv => by
    (refine el_EEEAA (ok.rowsOk kv hkv) ?_; rintro l kk ys h1 h2 h3)
    exact ⟨l, kk, ys, h1, M.subr _ h2, by rw [M.G.2.2.1]; exact h3⟩)
theorem LOk.name {w : World} {c : Cfg} {L C S rw dk : Addr} {oD oW : Obj} {x : Lx} (ok : LOk w c L C S rw dk oD oW x) {oN' : Obj} (h : ∃ v, oN'.data = .cell v) : LOk w c L C S rw dk oD oW ⟨x.σ, x.imm, x.rest, x.d, x.oR, x.rows, x.oK, oN'⟩ := { ok with cN := h }
theorem LR.uni {n : Nat} {x : Lx} (R : LR n x) (hn : n ≤ 6) : (∀ p ∈ x.rows.map (·.1), p ∈ uni2) ∧ ∀ p ∈ x.rows.map (·.1), x.σ.D.lookup p = none → p ∈ std5 := by
  refine ⟨by rw [R.rowsK, R.Dn]; exact keys_uni hn, fun p hp hn => ?_⟩
  rw [R.rowsK] at hp
  rcases List.mem_append.mp hp with h | h
  · exact h
  · exact (lookup_none hn h).elim
theorem eqv_strs : ∀ ss : List Str, PyData.eqvAll (ss.map .str) (ss.map .str) = true
  | [] => by simp [PyData.eqvAll]
  | s :: r => by simp [PyData.eqvAll, PyData.eqv, eqv_strs r]
theorem ok_strs {ss : List Str} (h : ∀ s ∈ ss, s ∈ uni2) : SeqAt.shaped (.list (ss.map .str)) = true := by
  have h1 : ss.all PyData.strOk = true := List.all_eq_true.mpr fun s hs => (by decide +kernel : ∀ s ∈ uni2, PyData.strOk s = true) s (h s hs)
  simp only [SeqAt.shaped, PyData.canLay0, PyData.depth, canLayAll_strs', depthAll_strs', h1]
  decide
theorem ne_strs {prog : Program} {w : World} {A : Around} {E : Value → Shared → Prop} {s : Shared} {a b : Addr} {xs ys : List Value} {ss : List Str} {Q : Value → Shared → Prop} (ha : s.heap.IsList a xs.toArray) (hb : s.heap.IsList b ys.toArray) (hx : StrsAre xs ss) (hy : StrsAre ys ss) (hs : ∀ s ∈ ss, s ∈ uni2) (hu : A.units + 64 < cLine) (h : Q (.bool false) s) :
    wpAny (model prog w) A (compareOp .NotEq (.ref a) (.ref b)) Q E s := by
  (refine el_EAAE (ha) ?_; (try clear ha); rintro oa ga ca na da)
  (refine el_EAAE (hb) ?_; (try clear hb); rintro ob gb cb nb db)
  exact ne_dataH (Reads.list ga ca da (by simpa using StrsAre.reads _ hx)) (Reads.list gb cb db (by simpa using StrsAre.reads _ hy)) (ok_strs hs) (ok_strs hs) hu (by simp only [PyData.eqv, eqv_strs]; exact h)
theorem lawL_addr {c : Cfg} {L C S rw : Addr} {oD oW : Obj} {x x' : Lx} {p : Addr × Obj} (hp : p ∈ lawL c L C S rw oD oW x') : p ∈ x'.rest ∨ ∃ o, (p.1, o) ∈ lawL c L C S rw oD oW x := by
  exact (all_a (all_c (.inr ⟨x.σ.oN, (by regstrif_fact)⟩) (all_c (.inr ⟨listOf (x.σ.ks.map (·.2)).toArray x.σ.n, (by regstrif_fact)⟩) (all_c (.inr ⟨x.σ.oP, (by regstrif_fact)⟩) (all_n)))) (all_a (all_a (all_c (.inr ⟨x.oK, (by regstrif_fact)⟩) (all_c (.inr ⟨x.oN, (by regstrif_fact)⟩) (all_c (.inr ⟨x.oR, (by regstrif_fact)⟩) (all_c (.inr ⟨listOf x.d.vs.toArray x.d.kc, (by regstrif_fact)⟩) (all_c (.inr ⟨listOf #[.int x.d.sd x.d.ts] x.d.ks, (by regstrif_fact)⟩) (all_n)))))) (all_c (.inr ⟨oW, (by regstrif_fact)⟩) (all_c (.inr ⟨oD, (by regstrif_fact)⟩) (all_n)))) (fun p hp => .inl hp)) : ∀ p ∈ lawL c L C S rw oD oW x', p ∈ x'.rest ∨ ∃ o, (p.1, o) ∈ lawL c L C S rw oD oW x) p hp
theorem doesL_use {w : World} {f : Addr} {r u : Nat} {vs : List Value} {news : List (Addr × Obj)} {dp un : Nat} {gd : Option (List Code)} {cn : Str} {cs : Scope} {a : Addr} {ccd : Value} {cl : List (Str × Addr)} {outer : List Env} {A₀ : Around} {base h₀ : Heap} {L : Addr} {m : Str → Option Value}
    {mean : ExcName → Option Value} {mg mb : Str → Option Value} {s : Shared} {Q E : Value → Shared → Prop} {Pre : Heap → Prop} {Post : Value → List (Addr × Obj) → Prop} (C : DoesL w f r u vs news Pre Post) (B : Below A₀ base outer h₀) (F : Fr h₀ L s.heap m) (X : (hdz.heap_1 w.params).In h₀) (N : News h₀ L s.heap news) (T : Top hdz.view_1 lse mean mg mb h₀) (hk : cs.kind = .function)
    (hd : dp + r < recursionLimit) (hu : un + u < cLine) (hp : Pre h₀)
    (ret : ∀ v news' h' tk', Fr h₀ L h' m → News h₀ L h' news' → Post v news' → Q v { s with heap := h', toks := tk' }) :
    wpAny (model PySem.Challenge.rw_ok0061_01.row.prog w) (ktrTop dp un gd cn cs L a ccd cl outer) (call (.ref f) vs) Q E s := C _ _ _ _ _ _ _ _ _ _ _ _ _ _ _ _ _ _ _ _ B F X N T hk hd hu hp ret
theorem fr_pin {h₀ h : Heap} {L : Addr} {m : Str → Option Value} {k : Str} {v : Value} (F : Fr h₀ L h m) (e : m k = some v) : Fr h₀ L h (fun y => if y = k then some v else m y) := by
  have : (fun y => if y = k then some v else m y) = m := by
    funext y
    by_cases h : y = k
    · rw [if_pos h, h, e]
    · rw [if_neg h]
  rw [this]; exact F
end
section
local macro_rules | `(tactic| walk_at "call builtin:sorted") => `(tactic| refine Hold.out ?_)

section
set_option maxRecDepth 100000 in
set_option maxHeartbeats 8000000 in
theorem names_ok (w : World) (rw : Addr) (oR : Obj) (rows : List (Str × Value)) (news : List (Addr × Obj)) (hm : (rw, oR) ∈ news) (isR : oR.IsDictOf (strKind PySem.Challenge.rw_ok0061_01.row.prog w) rows) (lo : (rw == sysModules) = false) (hn : rows.length < 64) :
    Does w 547 4 40 [.ref rw] news (fun v news' => ∃ D vs ss k, v = .ref D ∧ news' = (D, listOf vs.toArray k) :: news ∧ (∀ q ∈ news, @LT.lt Nat _ q.1 D) ∧ StrsAre vs ss ∧ ss.Perm (rows.map (·.1))) := by
  have : PySem.Challenge.rw_ok0061_01 = PySem.Challenge.rw_ok0061_01 ∧ hdz.heap_1 = hdz.heap_1 := by
    k_fill
    exact ⟨rfl, rfl⟩
  clear this
  unfold Does
  intro dp un gd cn cs a ccd cl outer A₀ base h₀ L m mean mg mb s Q E B F X N T hk hd hu hret
  refine wpAny_call ?_
  k_dflt ktr_enter
  k_steps
  unfold Hold
  refine sorted_dict rfl (by assumption) (by assumption) hm isR lo hn ?_
  intro D vs ss h' tk e F1 N1 hD hS hP
  k_steps
  exact hret _ _ _ _ (by assumption) (by assumption) ⟨D, vs, ss, e, rfl, rfl, hD, hS, hP⟩
end
end
section
section
set_option maxRecDepth 100000 in
set_option maxHeartbeats 8000000 in
theorem symbol_ok (w : World) (c : Cfg) (σ : St) (imm fr rest : List (Addr × Obj)) (name : Str) (tk : Tok) (hun : name ∈ uni) (H : WI w c σ imm) (hs : ∀ p ∈ imm, p ∈ rest) (off : Off c (fr ++ rest)) :
    Does w 494 5 40 [.ref c.wA, .str name tk] (mutL c σ ++ (fr ++ rest)) (Step w c σ imm fr rest fun v σ' _ => valueAt σ'.ks name = some v) := by
  have : PySem.Challenge.rw_ok0061_01 = PySem.Challenge.rw_ok0061_01 ∧ hdz.heap_1 = hdz.heap_1 := by
    k_fill
    exact ⟨rfl, rfl⟩
  clear this
  unfold Does
  intro dp un gd cn cs a ccd cl outer A₀ base h₀ L m mean mg mb s Q E B F X N T hk hd hu hret
  obtain ⟨dw, u1, u2, u3, u4, u5, u6, u7, u8, u9, u10, db, t1, t2, dc, t3, t4, v2, m1, m2, m3, m4, m5, m6, ne1, ne2, ne3, dN, dP, loN, loP, klen⟩ := H.facts (fun p hp => List.mem_append_right fr (hs p hp))
  dsimp only [mutL, List.cons_append, List.nil_append] at N
  refine wpAny_call ?_
  k_dflt ktr_enter
  k_steps
  unfold Hold
  refine step_use (intern_ok w c σ imm fr rest name _ hun H hs off) (by assumption) (by assumption) (by assumption) (by assumption) (fun _ h => h) (by assumption) off rfl (by ktr_room) (by ktr_units) ?_
  intro v1 σ1 imm1 rest1 h1 tk1 F1 N1 M1 off1 hv1
  k_steps
  exact hret _ _ _ _ (by assumption) (by assumption) ⟨σ1, imm1, rest1, rfl, M1, hv1⟩
end
end
section
local macro_rules | `(tactic| walk_at "IDLE") => `(tactic| skip)
local macro_rules | `(tactic| walk_at "execs cons") => `(tactic| with_reducible refine hold_if ?_)

section
def WSyms (w : World) (imm : List (Addr × Obj)) : List Value → List Str → Prop
  | [], [] => True
  | v :: vs, s :: ss => WSym w imm v s ∧ WSyms w imm vs ss
  | _, _ => False
theorem WSyms.mono {w : World} {imm imm' : List (Addr × Obj)} (k : ∀ p ∈ imm, p ∈ imm') : ∀ {vs : List Value} {ss : List Str}, WSyms w imm vs ss → WSyms w imm' vs ss
  | [], [], h => h
  | _ :: _, _ :: _, ⟨h, r⟩ => ⟨h.mono k, r.mono k⟩
  | [], _ :: _, h => h.elim
  | _ :: _, [], h => h.elim
theorem WSyms.snoc {w : World} {imm : List (Addr × Obj)} : ∀ {vs : List Value} {ss : List Str} {v : Value} {s : Str}, WSyms w imm vs ss → WSym w imm v s → WSyms w imm (vs ++ [v]) (ss ++ [s])
  | [], [], _, _, _, h => ⟨h, trivial⟩
  | _ :: _, _ :: _, _, _, ⟨h1, r⟩, h => ⟨h1, r.snoc h⟩
  | [], _ :: _, _, _, h, _ => h.elim
  | _ :: _, [], _, _, h, _ => h.elim
theorem WSyms.mixed {w : World} {imm : List (Addr × Obj)} : ∀ {vs : List Value} {ss : List Str} {us : List Value} {ts : List Str}, WSyms w imm vs ss → Mixed w imm us ts → Mixed w imm (vs ++ us) (ss ++ ts)
  | [], [], _, _, _, h => h
  | _ :: _, _ :: _, _, _, ⟨h1, r⟩, h => .sym h1 (r.mixed h)
  | [], _ :: _, _, _, h, _ => h.elim
  | _ :: _, [], _, _, h, _ => h.elim
theorem WSyms.length {w : World} {imm : List (Addr × Obj)} : ∀ {vs : List Value} {ss : List Str}, WSyms w imm vs ss → vs.length = ss.length
  | [], [], _ => rfl
  | _ :: _, _ :: _, ⟨_, r⟩ => by rw [List.length_cons, List.length_cons, r.length]
  | [], _ :: _, h => h.elim
  | _ :: _, [], h => h.elim
theorem WSym.handed {w : World} {imm : List (Addr × Obj)} {v : Value} {s : Str} (h : WSym w imm v s) : handedIn v = true := by
  rcases h with ⟨rfl, _⟩ | ⟨a, _, rfl, _⟩ <;> rfl
theorem WSyms.handed {w : World} {imm : List (Addr × Obj)} : ∀ {vs : List Value} {ss : List Str}, WSyms w imm vs ss → ∀ x ∈ vs, handedIn x = true
  | [], [], _, _, h => nomatch h
  | v :: _, _ :: _, ⟨h1, r⟩, x, h => by
    rcases List.mem_cons.mp h with rfl | h
    · exact h1.handed
    · exact r.handed x h
  | [], _ :: _, h, _, _ => h.elim
  | _ :: _, [], h, _, _ => h.elim
def WantPost (w : World) (c : Cfg) (C S : Addr) (d : Dk) (σ : St) (imm FR rest : List (Addr × Obj)) (nss : List Str) (v : Value) (news' : List (Addr × Obj)) : Prop :=
  ∃ σ' imm' rest' d' tup wv lt taken tys kt, v = .ref tup ∧ news' = mutL c σ' ++ ((dkL C S d' ++ FR) ++ rest') ∧ Mv w c (dkL C S d ++ FR) σ imm rest σ' imm' rest' ∧ DkOk d' ∧ (tup, tupOf #[wv, .ref lt] 0) ∈ rest' ∧ Wants w imm' wv taken ∧
    (lt, listOf tys.toArray kt) ∈ rest' ∧ StrsAre tys taken ∧ (∀ s ∈ taken, s = Str.ofString "t" ∨ s ∈ nss) ∧ taken.length ≤ 10
theorem Mv.weakA {w : World} {c : Cfg} {fr fr' : List (Addr × Obj)} {σ σ' : St} {imm rest imm' rest' : List (Addr × Obj)} (M : Mv w c fr σ imm rest σ' imm' rest') (k : ∀ q ∈ fr', ∃ o, (q.1, o) ∈ fr) : Mv w c fr' σ imm rest σ' imm' rest' :=
  ⟨M.sub, M.hs, M.subr, fun p hp => (M.fresh p hp).imp id fun h q hq => by
    simp only [List.mem_append] at hq
    rcases hq with h1 | h1 | h1
    · exact h q (List.mem_append_left _ h1)
    · obtain ⟨o, ho⟩ := k q h1
      exact h (q.1, o) (List.mem_append_right _ (List.mem_append_left _ ho))
    · exact h q (List.mem_append_right _ (List.mem_append_right _ h1)), M.H, M.G⟩
theorem want_fin {w : World} {c : Cfg} {C S : Addr} {d d5 : Dk} {σ σ2 : St} {imm FR rest imm3 rest3 : List (Addr × Obj)} {nss : List Str} {tup lt : Addr} {wv : Value} {taken : List Str} {tys : List Value} {kt : Nat} (M : Mv w c (dkL C S d ++ FR) σ imm rest σ2 imm3 rest3) (tl : List (Addr × Obj))
    (htl : ∀ p ∈ tl, ∀ q ∈ mutL c σ2 ++ ((dkL C S d5 ++ FR) ++ rest3), @Ne Nat q.1 p.1) (dOk : DkOk d5) (m1 : (tup, tupOf #[wv, .ref lt] 0) ∈ tl) (hW : Wants w (tl ++ imm3) wv taken) (m2 : (lt, listOf tys.toArray kt) ∈ tl ++ rest3) (hS : StrsAre tys taken) (ht : ∀ s ∈ taken, s = Str.ofString "t" ∨ s ∈ nss) (hl : taken.length ≤ 10) :
    WantPost w c C S d σ imm FR rest nss (.ref tup) (mutL c σ2 ++ ((dkL C S d5 ++ FR) ++ (tl ++ rest3))) :=
  ⟨σ2, tl ++ imm3, tl ++ rest3, d5, tup, wv, lt, taken, tys, kt, rfl, rfl, M.add tl fun p hp q hq => by
    rcases List.mem_append.mp hq with h | h
    · exact htl p hp q (List.mem_append_left _ h)
    have h3 : ∀ b ∈ (dkL C S d5 ++ FR) ++ rest3, @Ne Nat b.1 p.1 := fun b hb => htl p hp b (List.mem_append_right _ hb)
    rcases List.mem_append.mp h with h | h
    · rcases List.mem_append.mp h with h | h
      · have h4 : q = (C, listOf d.vs.toArray d.kc) ∨ q = (S, listOf #[.int d.sd d.ts] d.ks) := by simpa only [dkL, List.mem_cons, List.not_mem_nil, or_false] using h
        rcases h4 with rfl | rfl
        · exact h3 (C, listOf d5.vs.toArray d5.kc) (List.mem_append_left _ (List.mem_append_left _ List.mem_cons_self))
        · exact h3 (S, listOf #[.int d5.sd d5.ts] d5.ks) (List.mem_append_left _ (List.mem_append_left _ (List.mem_cons_of_mem _ List.mem_cons_self)))
      · exact h3 q (List.mem_append_left _ (List.mem_append_right _ h))
    · exact h3 q (List.mem_append_right _ h), dOk, List.mem_append_left _ m1, hW, m2, hS, ht, hl⟩
theorem names3i_t {h₀ h : Heap} {L l : Addr} {n : Int} {t : Tok} {r : List (Addr × Obj)} (N : News h₀ L h ((l, listOf #[.int n t] 0) :: r)) : ∃ t', News h₀ L h ((l, listOf #[.int n t'] 0) :: r) := ⟨_, N⟩
theorem namesI_t {w : World} {h₀ h : Heap} {L tup lt xC dC : Addr} {a b z : Obj} {nt bt : Tok} {u v : Value} {r : List (Addr × Obj)} (N : News h₀ L h ((tup, a) :: (lt, b) :: (xC, z) :: (dC, dictOf [ent w "car" nt u, ent w "cdr" bt v] 2) :: r)) : ∃ nt' bt', News h₀ L h ((tup, a) :: (lt, b) :: (xC, z) :: (dC, dictOf [ent w "car" nt' u, ent w "cdr" bt' v] 2) :: r) := ⟨_, _, N⟩
theorem names5i_t {h₀ h : Heap} {L l : Addr} {n : Int} {t : Tok} {v : Value} {r : List (Addr × Obj)} (N : News h₀ L h ((l, listOf #[.int n t, v] 0) :: r)) : ∃ t', News h₀ L h ((l, listOf #[.int n t', v] 0) :: r) := ⟨_, N⟩
theorem namesS_t {h₀ h : Heap} {L l : Addr} {n : Str} {t : Tok} {r : List (Addr × Obj)} (N : News h₀ L h ((l, listOf #[.str n t] 0) :: r)) : ∃ t', News h₀ L h ((l, listOf #[.str n t'] 0) :: r) := ⟨_, N⟩
theorem want_end {w : World} {c : Cfg} {C S : Addr} {d d5 : Dk} {σ σ2 : St} {imm FR rest imm3 rest3 RX nl : List (Addr × Obj)} {nss : List Str} {h₀ h' : Heap} {L tup lt : Addr} {wv : Value} {taken : List Str} {tys : List Value} {kt : Nat} (M : Mv w c (dkL C S d ++ FR) σ imm rest σ2 imm3 rest3) (hsub : ∀ p ∈ mutL c σ2 ++ ((dkL C S d5 ++ FR) ++ rest3), p ∈ RX) (tl : List (Addr × Obj))
    (N : News h₀ L h' nl) (hnl : ∀ p ∈ tl ++ RX, p ∈ nl) (htl : ∀ p ∈ tl, ∀ q ∈ RX, @LT.lt Nat _ q.1 p.1) (dOk : DkOk d5) (m1 : (tup, tupOf #[wv, .ref lt] 0) ∈ tl) (hW : Wants w (tl ++ imm3) wv taken) (m2 : (lt, listOf tys.toArray kt) ∈ tl ++ rest3) (hS : StrsAre tys taken) (ht : ∀ s ∈ taken, s = Str.ofString "t" ∨ s ∈ nss) (hl : taken.length ≤ 10) :
    ∃ news', News h₀ L h' news' ∧ WantPost w c C S d σ imm FR rest nss (.ref tup) news' :=
  ⟨_, News.sub N (fun p hp => hnl p (by
    rcases List.mem_append.mp hp with h | h
    · exact List.mem_append_right _ (hsub p (List.mem_append_left _ h))
    rcases List.mem_append.mp h with h1 | h1
    · exact List.mem_append_right _ (hsub p (List.mem_append_right _ (List.mem_append_left _ h1)))
    rcases List.mem_append.mp h1 with h2 | h2
    · exact List.mem_append_left _ h2
    · exact List.mem_append_right _ (hsub p (List.mem_append_right _ (List.mem_append_right _ h2))))), want_fin M tl (fun p hp q hq => Nat.ne_of_lt (htl p hp q (hsub q hq))) dOk m1 hW m2 hS ht hl⟩
theorem all2 {a b : Addr × Obj} {RX : List (Addr × Obj)} (h : @LT.lt Nat _ b.1 a.1 ∧ AllLt a.1 RX) (k : ∀ p ∈ RX, p.1 < b.1) : ∀ p ∈ [a, b], ∀ q ∈ RX, @LT.lt Nat _ q.1 p.1 := fun p hp q hq => by
  simp only [List.mem_cons, List.not_mem_nil, or_false] at hp
  rcases hp with rfl | rfl
  · exact AllLt.mem h.2 q hq
  · exact k q hq
theorem ne_str_nil {prog : Program} {w : World} {A : Around} {E : Value → Shared → Prop} {s : Shared} {a b : Addr} {xs : List Value} {ss : List Str} {Q : Value → Shared → Prop} (ha : s.heap.IsList a xs.toArray) (hb : s.heap.IsList b ([] : List Value).toArray) (hx : StrsAre xs ss) (hs : ∀ s ∈ ss, s ∈ uni2) (hu : A.units + 64 < cLine) (h : Q (.bool (!ss.isEmpty)) s) :
    wpAny (model prog w) A (compareOp .NotEq (.ref a) (.ref b)) Q E s := by
  (refine el_EAAE (ha) ?_; (try clear ha); rintro oa ga ca na da)
  (refine el_EAAE (hb) ?_; (try clear hb); rintro ob gb cb nb db)
  refine ne_dataH (Reads.list ga ca da (by simpa using StrsAre.reads _ hx)) (Reads.list gb cb db (by simpa using ReadsAll.nil)) (ok_strs hs) (by decide) hu ?_
  cases ss with
  | nil => simpa [PyData.eqv, PyData.eqvAll] using h
  | cons _ _ => simpa [PyData.eqv, PyData.eqvAll] using h
theorem cut1 {M : Model} {A : Around} {a : Stmt} {r : List Stmt} {env : Env} {F E} {g h₁ : Heap} {L : Addr} {m : Str → Option Value} {RX : List (Addr × Obj)} {ge dr tk os} (_N : News g L h₁ RX) (_F : Fr g L h₁ m) (tail : ∀ h' tk', Fr g L h' m → News g L h' RX → wpAny M A (execs r env) F E ⟨h', ge, dr, tk', os⟩)
    (k : (∀ h' tk', Fr g L h' m → News g L h' RX → wpAny M A (execs r env) F E ⟨h', ge, dr, tk', os⟩) → wpAny M A (execs (a :: r) env) F E ⟨h₁, ge, dr, tk, os⟩) : wpAny M A (execs (a :: r) env) F E ⟨h₁, ge, dr, tk, os⟩ := k tail
set_option maxRecDepth 100000 in
set_option maxHeartbeats 8000000 in
theorem wanted_ok (w : World) (c : Cfg) (σ : St) (imm FR rest : List (Addr × Obj)) (dk C S nl : Addr) (d : Dk) (nvs : List Value) (nss : List Str) (nk : Nat) (hdk : (dk, listOf #[.ref C, .ref S] 0) ∈ rest) (hnl : (nl, listOf nvs.toArray nk) ∈ rest) (hnS : StrsAre nvs nss) (hn1 : 1 ≤ nss.length) (hn2 : nss.length ≤ 20) (hnu : ∀ s ∈ nss, s ∈ uni2)
    (dOk : DkOk d) (hCS : @Ne Nat C S) (oC : ∀ p ∈ mutL c σ ++ (FR ++ rest), p.1 ≠ C) (oS : ∀ p ∈ mutL c σ ++ (FR ++ rest), p.1 ≠ S) (H : WI w c σ imm) (hs : ∀ p ∈ imm, p ∈ rest) (off : Off c (FR ++ rest)) :
    Does w 552 10 160 [.ref dk, .ref c.wA, .ref nl] (mutL c σ ++ ((dkL C S d ++ FR) ++ rest)) (WantPost w c C S d σ imm FR rest nss) := by
  have : PySem.Challenge.rw_ok0061_01 = PySem.Challenge.rw_ok0061_01 ∧ hdz.heap_1 = hdz.heap_1 := by
    k_fill
    exact ⟨rfl, rfl⟩
  clear this
  unfold Does
  intro dp un gd cn cs a ccd cl outer A₀ base h₀ L m mean mg mb s Q E B F X N T hk hd hu hret
  have N0 : News h₀ L s.heap (dkL C S d ++ (mutL c σ ++ (FR ++ rest))) := News.sub N (by regstrif_slice)
  have mdk0 : (dk, listOf #[.ref C, .ref S] 0) ∈ (mutL c σ ++ (FR ++ rest)) := by (first | exact sub_p hdk (by regstrif_slice) | simp [hdk])
  have mnl0 : (nl, listOf nvs.toArray nk) ∈ (mutL c σ ++ (FR ++ rest)) := by (first | exact sub_p hnl (by regstrif_slice) | simp [hnl])
  have hnl1 := strs_length hnS
  generalize hR0 : mutL c σ ++ (FR ++ rest) = R0 at oC oS N0 mdk0 mnl0
  clear N
  refine wpAny_call ?_
  k_dflt ktr_enter
  k_steps
  unfold Hold
  rename_i L9 _ _ _ _ _ _ _ _ oA oB oE _ _ _ _
  have lt9 := ‹∀ p ∈ dkL C S d ++ R0, p.1 < L9›
  have ltC : @LT.lt Nat _ C L9 := lt9 (C, listOf d.vs.toArray d.kc) (by (first | regstrif_fact | simp))
  have ltS : @LT.lt Nat _ S L9 := lt9 (S, listOf #[.int d.sd d.ts] d.ks) (by (first | regstrif_fact | simp))
  have N1 : News _ L9 _ (dkL C S d ++ ((L9 + 1 + 1 + 1, oA) :: (L9 + 1 + 1, oB) :: (L9 + 1, oE) :: R0)) := News.sub ‹News _ L9 _ ((_, _) :: (_, _) :: (_, _) :: (C, _) :: _)› (by regstrif_slice)
  have offC : ∀ p ∈ ((L9 + 1 + 1 + 1, oA) :: (L9 + 1 + 1, oB) :: (L9 + 1, oE) :: R0), p.1 ≠ C := ne_cons2 (by omega) (ne_cons2 (by omega) (ne_cons2 (by omega) oC))
  have offS : ∀ p ∈ ((L9 + 1 + 1 + 1, oA) :: (L9 + 1 + 1, oB) :: (L9 + 1, oE) :: R0), p.1 ≠ S := ne_cons2 (by omega) (ne_cons2 (by omega) (ne_cons2 (by omega) oS))
  generalize hRD : ((L9 + 1 + 1 + 1, oA) :: (L9 + 1 + 1, oB) :: (L9 + 1, oE) :: R0) = RD at N1 offC offS
  have mdk : (dk, listOf #[.ref C, .ref S] 0) ∈ RD := by rw [← hRD]; (first | regstrif_fact | simp [mdk0])
  have mnl : (nl, listOf nvs.toArray nk) ∈ RD := by rw [← hRD]; (first | regstrif_fact | simp [mnl0])
  have mA : (L9 + 1 + 1 + 1, oA) ∈ RD := by rw [← hRD]; (first | regstrif_fact | simp)
  have mB : (L9 + 1 + 1, oB) ∈ RD := by rw [← hRD]; (first | regstrif_fact | simp)
  have mE : (L9 + 1, oE) ∈ RD := by rw [← hRD]; (first | regstrif_fact | simp)
  clear N0
  refine draw_use (draw_ok w dk C S 0 d 7 _ RD mdk hCS offC offS dOk (by omega) (by omega)) (by assumption) (by assumption) (by assumption) (by assumption) (by assumption) rfl (by ktr_room) (by ktr_units) ?_
  intro d3 way t3 h3 tk3 wlo whi dOk3 F3 N3
  clear N1
  k_steps
  unfold Hold
  refine LCg.Assign_ListComp_U (F₀ := by k_asm) (by rfl) (by with_unfolding_all rfl) (by with_unfolding_all rfl) (by decide) (by rfl) (by decide) (by rfl) (by rfl) (by rfl) ?_
  k_steps
  unfold Hold
  refine draw_use (draw_ok w dk C S 0 d3 4 _ RD mdk hCS offC offS dOk3 (by omega) (by omega)) (by assumption) (by assumption) (by assumption) (by assumption) (by assumption) rfl (by ktr_room) (by ktr_units) ?_
  intro d4 r4 t4 h4 tk4 r4lo r4hi dOk4 F4 N4

  k_steps
  unfold Hold
  obtain ⟨rg1, rg2⟩ := rng_up r4 r4lo (by omega)
  refine comp_R (b := r4) (n := r4.toNat) (fun j ys nx => ∃ d' ps, nx = dkL C S d' ++ RD ∧ DkOk d' ∧ StrsAre ys ps ∧ ps.length = j ∧ ∀ p ∈ ps, p ∈ nss) rfl (by assumption) (by assumption) (by assumption) rg1 rg2 (by rw [sizeLine_eq]; omega) ⟨d4, [], rfl, dOk4, .nil, rfl, fun _ h => nomatch h⟩ ?_ ?_
  · intro j v ys nx I2 oI2 C2 oC2 D2 m₂ h tk E' hv hj hJ hC2 hx2 F N o ne
    (refine el_EEAAAA (hJ) ?_; (try clear hJ); rintro d5 ps rfl dOk5 hps hpl hpm)
    dsimp only [dkL, List.cons_append, List.nil_append] at N
    k_steps
    unfold Hold
    have oC5 := o.mem (C, listOf d5.vs.toArray d5.kc) (by (first | regstrif_fact | simp))
    have oS5 := o.mem (S, listOf #[.int d5.sd d5.ts] d5.ks) (by (first | regstrif_fact | simp))
    refine draw_use (draw_ok w dk C S 0 d5 (nvs.toArray.size : Nat) _ ([(I2, oI2), (C2, oC2), (D2, LCg.lst ys)] ++ RD) (by simp [mdk]) hCS (ne_cons2 (Ne.symm oC5.1) (ne_cons2 (Ne.symm oC5.2.1) (ne_cons2 (Ne.symm oC5.2.2) offC))) (ne_cons2 (Ne.symm oS5.1) (ne_cons2 (Ne.symm oS5.2.1) (ne_cons2 (Ne.symm oS5.2.2) offS))) dOk5 (by simp only [List.size_toArray]; omega) (by simp only [List.size_toArray]; omega)) (by assumption) (by assumption) (by assumption) (News.sub N (by regstrif_slice)) (by assumption) rfl (by ktr_room) (by ktr_units) ?_
    intro d6 r6 t6 h6 tk6 r6lo r6hi dOk6 F6 N6
    (refine el_EEA (str_at hnS r6lo (by simpa using r6hi)) ?_; rintro pn pt hpn hpin)
    have r6b : r6 < 1000 := by simp only [List.size_toArray] at r6hi; omega
    dsimp only [dkL, List.cons_append, List.nil_append] at N6
    clear N
    k_steps
    refine LCg.CompEnd.intro (by assumption) (by assumption) (dkL C S d6 ++ RD) (by regstrif_slice) (LCg.Off3.of fun p hp => ?_) trivial ⟨d6, ps ++ [pn], rfl, dOk6, strs_snoc hps _ _, by (first | exact sub_p hpl (by regstrif_slice) | simp [hpl]), fun p hp => ?_⟩
    · simp only [dkL, List.cons_append, List.nil_append, List.mem_cons] at hp
      rcases hp with rfl | rfl | hp
      · exact oC5
      · exact oS5
      · exact o.mem p (by (first | exact sub_p hp (by regstrif_slice) | simp [hp]))
    · rcases List.mem_append.mp hp with hp | hp
      · exact hpm p hp
      · rw [List.mem_singleton.mp hp]; exact hpin
  · intro g ys nx hJ
    (refine el_EEAAAA (hJ) ?_; (try clear hJ); rintro d5 ps rfl dOk5 hps hpl hpm)
    dsimp only [dkL, List.cons_append, List.nil_append]

    k_steps
    unfold Hold
    rename_i D9 _ _ _ _ _
    have N5 := ‹News _ L9 _ ((_, LCg.lst ys) :: _)›
    (refine el_AA (‹@Ne Nat C D9 ∧ @Ne Nat S D9 ∧ LCg.Off1 D9 RD›) ?_; rintro p1 p2 p3)
    have p4 := off1_mem p3
    have hpl4 : ps.length ≤ 4 := hpl ▸ Int.toNat_le.mpr (Int.le_of_lt r4hi)
    have hyl := strs_length hps
    have hD9 : ∀ q ∈ mutL c σ ++ (FR ++ rest), @Ne Nat q.1 D9 := fun q hq => p4 q (by rw [← hRD, ← hR0]; simp only [List.mem_cons]; exact .inr (.inr (.inr hq)))
    have ltR : ∀ q ∈ mutL c σ ++ (FR ++ rest), @LT.lt Nat _ q.1 L9 := fun q hq => lt9 q (by rw [← hR0]; exact List.mem_append_right _ hq)
    have lN := ltR (c.N, σ.oN) (by (first | regstrif_fact | simp [mutL]))
    have lR := ltR (c.R, listOf (σ.ks.map (·.2)).toArray σ.n) (by (first | regstrif_fact | simp [mutL]))
    have lP := ltR (c.P, σ.oP) (by (first | regstrif_fact | simp [mutL]))
    rw [← hR0] at oC oS
    have hoffX : Off c (((D9, LCg.lst ys) :: (L9 + 1 + 1 + 1, oA) :: (L9 + 1 + 1, oB) :: (L9 + 1, oE) :: (dkL C S d5 ++ FR)) ++ rest) :=
      Off.cons (Ne.symm (hD9 (c.N, σ.oN) (by (first | regstrif_fact | simp [mutL])))) (Ne.symm (hD9 (c.R, listOf (σ.ks.map (·.2)).toArray σ.n) (by (first | regstrif_fact | simp [mutL])))) (Ne.symm (hD9 (c.P, σ.oP) (by (first | regstrif_fact | simp [mutL]))))
        (Off.cons (Nat.ne_of_gt (Nat.lt_succ_of_lt (Nat.lt_succ_of_lt (Nat.lt_succ_of_lt lN)))) (Nat.ne_of_gt (Nat.lt_succ_of_lt (Nat.lt_succ_of_lt (Nat.lt_succ_of_lt lR)))) (Nat.ne_of_gt (Nat.lt_succ_of_lt (Nat.lt_succ_of_lt (Nat.lt_succ_of_lt lP))))
        (Off.cons (Nat.ne_of_gt (Nat.lt_succ_of_lt (Nat.lt_succ_of_lt lN))) (Nat.ne_of_gt (Nat.lt_succ_of_lt (Nat.lt_succ_of_lt lR))) (Nat.ne_of_gt (Nat.lt_succ_of_lt (Nat.lt_succ_of_lt lP)))
        (Off.cons (Nat.ne_of_gt (Nat.lt_succ_of_lt lN)) (Nat.ne_of_gt (Nat.lt_succ_of_lt lR)) (Nat.ne_of_gt (Nat.lt_succ_of_lt lP))
        (Off.cons (Ne.symm (oC (c.N, σ.oN) (by (first | regstrif_fact | simp [mutL])))) (Ne.symm (oC (c.R, listOf (σ.ks.map (·.2)).toArray σ.n) (by (first | regstrif_fact | simp [mutL])))) (Ne.symm (oC (c.P, σ.oP) (by (first | regstrif_fact | simp [mutL]))))
        (Off.cons (Ne.symm (oS (c.N, σ.oN) (by (first | regstrif_fact | simp [mutL])))) (Ne.symm (oS (c.R, listOf (σ.ks.map (·.2)).toArray σ.n) (by (first | regstrif_fact | simp [mutL])))) (Ne.symm (oS (c.P, σ.oP) (by (first | regstrif_fact | simp [mutL])))) off)))))
    have N6 : News _ L9 _ (mutL c σ ++ (((D9, LCg.lst ys) :: (L9 + 1 + 1 + 1, oA) :: (L9 + 1 + 1, oB) :: (L9 + 1, oE) :: (dkL C S d5 ++ FR)) ++ rest)) := News.sub N5 (by rw [← hRD, ← hR0]; regstrif_slice)
    clear N5
    generalize hFX : ((D9, LCg.lst ys) :: (L9 + 1 + 1 + 1, oA) :: (L9 + 1 + 1, oB) :: (L9 + 1, oE) :: (dkL C S d5 ++ FR)) = FX at N6 hoffX
    have fD : (D9, LCg.lst ys) ∈ FX := by rw [← hFX]; (first | regstrif_fact | simp)
    have fA : (L9 + 1 + 1 + 1, oA) ∈ FX := by rw [← hFX]; (first | regstrif_fact | simp)
    have fB : (L9 + 1 + 1, oB) ∈ FX := by rw [← hFX]; (first | regstrif_fact | simp)
    have fE : (L9 + 1, oE) ∈ FX := by rw [← hFX]; (first | regstrif_fact | simp)
    dsimp only [mutL, List.cons_append, List.nil_append] at N6
    refine LCg.Assign_ListComp_U (F₀ := by k_asm) (by rfl) (by with_unfolding_all rfl) (by with_unfolding_all rfl) (by decide) (by rfl) (by decide) (by rfl) (by rfl) (by rfl) ?_
    k_steps
    unfold Hold
    refine comp_U (ax := D9) (its := ys.toArray) (k := ys.length) (fun j zs nx => ∃ σ2 imm2 rest2, nx = mutL c σ2 ++ (FX ++ rest2) ∧ Mv w c FX σ imm rest σ2 imm2 rest2 ∧ Off c (FX ++ rest2) ∧ WSyms w imm2 zs (ps.take j)) rfl (by assumption) (by assumption) (by simp [fD]) (by rw [sizeLine_eq]; simp only [List.size_toArray]; omega) ⟨σ, imm, rest, rfl, Mv.refl H hs, hoffX, trivial⟩ ?_ ?_
    · intro j v zs nx I oI C2 oC2 D2 m₂ h tk E' hv hj hJ hC2 hx2 F N o ne
      (refine el_EEEAAA (hJ) ?_; (try clear hJ); rintro σ2 imm2 rest2 rfl M2 off2 hzs)
      (refine el_EEA (strs_get hps (by simpa using hv)) ?_; rintro sn st rfl hsn)
      have hsu := hnu sn (hpm sn (List.mem_of_getElem? hsn))
      obtain ⟨dw, u1, u2, u3, u4, u5, u6, u7, u8, u9, u10, _, _, _, _, _, _, _, m1, m2, _⟩ := M2.H.facts (fun p hp => List.mem_append_right FX (M2.hs p hp))
      have hoff3 := comp_off (oI := oI) (oC := oC2) (oD := LCg.lst zs) (FR := FX) o off2
      have fA2 := List.mem_append_left rest2 fA
      have fB2 := List.mem_append_left rest2 fB
      have fE2 := List.mem_append_left rest2 fE
      dsimp only [mutL, List.cons_append, List.nil_append] at N
      k_steps
      unfold Hold
      refine sym_use (symbol_ok w c σ2 imm2 ([(I, oI), (C2, oC2), (D2, LCg.lst zs)] ++ FX) rest2 sn _ (uni2_sub hsu) M2.H M2.hs hoff3) (uni2_ne hsu).1 (uni2_ne hsu).2 (by assumption) (by assumption) (by assumption) (by assumption) (by regstrif_slice) (by assumption) hoff3 rfl (by ktr_room) (by ktr_units) ?_
      intro a3 i3 σ3 imm3 rest3 h3 tk3 F3 N3 M3 off3 hv3 hi3 hsym3
      refine LCg.CompEnd.intro (by assumption) (by assumption) (mutL c σ3 ++ (FX ++ rest3)) (by regstrif_slice) (comp_off3 o M3) (.inr ⟨listOf ys.toArray ys.length, by simp [fD], rfl, _, rfl⟩) ⟨σ3, imm3, rest3, rfl, M2.trans (M3.weak fun q hq => List.mem_append_right _ hq), off3.drop3, ?_⟩
      rw [List.take_add_one, hsn]
      exact (hzs.mono M3.sub).snoc (.inr ⟨a3, _, rfl, hsu, hsym3⟩)
    · intro g zs nx hJ
      (refine el_EEEAAA (hJ) ?_; (try clear hJ); rintro σ2 imm2 rest2 rfl M2 off2 hzs)
      have e9 : ys.toArray.size = ps.length := by simpa using hyl
      rw [e9, List.take_length] at hzs
      have hzl := hzs.length
      dsimp only [mutL, List.cons_append, List.nil_append]
      k_steps
      rename_i T9 _ _ _ _ _
      have N7 := ‹News _ L9 _ ((_, LCg.lst zs) :: _)›
      (refine el_AAA (‹@Ne Nat c.N T9 ∧ @Ne Nat c.R T9 ∧ @Ne Nat c.P T9 ∧ LCg.Off1 T9 (FX ++ rest2)›) ?_; rintro t1 t2 t3' t4)
      have t5 := off1_mem t4
      have hD9c := off2.sub (l' := [(D9, LCg.lst ys)]) (fun p hp => by rw [List.mem_singleton.mp hp]; simp [fD])
      have M3 : Mv w c (dkL C S d ++ FR) σ imm rest σ2 ([(T9, LCg.lst zs), (D9, LCg.lst ys)] ++ imm2) ([(T9, LCg.lst zs), (D9, LCg.lst ys)] ++ rest2) := by
        refine (M2.weakA (fr' := dkL C S d ++ FR) fun q hq => ?_).add _ fun p hp q hq => ?_
        · rw [← hFX]
          rcases List.mem_append.mp hq with h | h
          · have h4 : q = (C, listOf d.vs.toArray d.kc) ∨ q = (S, listOf #[.int d.sd d.ts] d.ks) := by simpa only [dkL, List.mem_cons, List.not_mem_nil, or_false] using h
            rcases h4 with rfl | rfl
            · exact ⟨listOf d5.vs.toArray d5.kc, by simp⟩
            · exact ⟨listOf #[.int d5.sd d5.ts] d5.ks, by simp⟩
          · exact ⟨q.2, by (first | exact sub_p h (by regstrif_slice) | simp [h])⟩
        · have hq2 : q = (c.N, σ2.oN) ∨ q = (c.R, listOf (σ2.ks.map (·.2)).toArray σ2.n) ∨ q = (c.P, σ2.oP) ∨ q = (C, listOf d.vs.toArray d.kc) ∨ q = (S, listOf #[.int d.sd d.ts] d.ks) ∨ q ∈ FR ∨ q ∈ rest2 := by
            revert q; (intro p hp; simp only [mutL, List.cons_append, List.nil_append, List.append_assoc, List.mem_cons, List.mem_append, List.not_mem_nil, or_false, or_assoc] at hp ⊢; (repeat' (guard_hyp hp : _ ∨ _; refine Or.elim hp ?_ ?_ <;> clear hp <;> intro hp)); all_goals (first | (simp only [hp, eq_self, true_or, or_true]; done) | (repeat (first | exact hp | exact Or.inl hp | apply Or.inr))))
          rcases List.mem_cons.mp hp with rfl | hp
          · rcases hq2 with rfl | rfl | rfl | rfl | rfl | h | h
            · exact t1
            · exact t2
            · exact t3'
            · exact t5 (C, listOf d5.vs.toArray d5.kc) (by rw [← hFX]; (first | regstrif_fact | simp))
            · exact t5 (S, listOf #[.int d5.sd d5.ts] d5.ks) (by rw [← hFX]; (first | regstrif_fact | simp))
            · exact t5 q (by rw [← hFX]; (first | regstrif_fact | simp [h]))
            · exact t5 q (List.mem_append_right _ h)
          · rw [List.mem_singleton.mp hp]
            rcases hq2 with rfl | rfl | rfl | rfl | rfl | h | h
            · exact Ne.symm (hD9c.1 _ List.mem_cons_self)
            · exact Ne.symm (hD9c.2.1 _ List.mem_cons_self)
            · exact Ne.symm (hD9c.2.2 _ List.mem_cons_self)
            · exact p1
            · exact p2
            · exact hD9 q (by (first | exact sub_p h (by regstrif_slice) | simp [h]))
            · exact M2.off (a := D9) (o := LCg.lst ys) fD (fun p hp => hD9 p (by (first | exact sub_p hp (by regstrif_slice) | simp [hp]))) q h
      have hzs3 : WSyms w ([(T9, LCg.lst zs), (D9, LCg.lst ys)] ++ imm2) zs ps := hzs.mono fun p hp => List.mem_append_right _ hp
      have hsub : ∀ p ∈ mutL c σ2 ++ ((dkL C S d5 ++ FR) ++ ([(T9, LCg.lst zs), (D9, LCg.lst ys)] ++ rest2)), p ∈ (T9, LCg.lst zs) :: (mutL c σ2 ++ (FX ++ rest2)) := by
        rw [← hFX]; regstrif_slice
      have N8 : News _ L9 _ ((T9, LCg.lst zs) :: (mutL c σ2 ++ (FX ++ rest2))) := N7
      clear N7
      generalize hRX : (T9, LCg.lst zs) :: (mutL c σ2 ++ (FX ++ rest2)) = RX at N8 hsub
      have xT : (T9, LCg.lst zs) ∈ RX := by rw [← hRX]; (first | regstrif_fact | simp)
      have xD : (D9, LCg.lst ys) ∈ RX := by rw [← hRX]; (first | regstrif_fact | simp [fD])
      have xA : (L9 + 1 + 1 + 1, oA) ∈ RX := by rw [← hRX]; (first | regstrif_fact | simp [fA])
      have xB : (L9 + 1 + 1, oB) ∈ RX := by rw [← hRX]; (first | regstrif_fact | simp [fB])
      have xE : (L9 + 1, oE) ∈ RX := by rw [← hRX]; (first | regstrif_fact | simp [fE])
      have xn : (nl, listOf nvs.toArray nk) ∈ RX := by rw [← hRX]; (first | regstrif_fact | simp [M2.subr _ hnl])
      have hoffT : Off c (((T9, LCg.lst zs) :: FX) ++ rest2) := Off.cons (Ne.symm t1) (Ne.symm t2) (Ne.symm t3') off2
      have hFXa : ∀ q ∈ dkL C S d ++ FR, ∃ o, (q.1, o) ∈ FX := by
        intro q hq
        rw [← hFX]
        rcases List.mem_append.mp hq with h | h
        · have h4 : q = (C, listOf d.vs.toArray d.kc) ∨ q = (S, listOf #[.int d.sd d.ts] d.ks) := by simpa only [dkL, List.mem_cons, List.not_mem_nil, or_false] using h
          rcases h4 with rfl | rfl
          · exact ⟨listOf d5.vs.toArray d5.kc, by simp⟩
          · exact ⟨listOf #[.int d5.sd d5.ts] d5.ks, by simp⟩
        · exact ⟨q.2, by (first | exact sub_p h (by regstrif_slice) | simp [h])⟩
      clear t1 t2 t3' t4 t5 p1 p2 p3 p4 oC oS offC offS hD9 hD9c
      unfold Hold
      refine wpAny_execs_cons ?_
      k_steps
      · rename_i lt _ _ tup _ _ _ _ _ _ _ _
        (refine el_EA (want_end (lt := lt) (tup := tup) (wv := .ref 81) (taken := [Str.ofString "t"]) (tys := [_]) (kt := 0) (nss := nss) M3 hsub [(tup, tupOf #[.ref 81, .ref lt] 0), (lt, listOf #[.str (Str.ofString "t") _] 0)] ‹News h₀ L _ ((tup, _) :: (lt, _) :: RX)› (fun _ h => h) (all2 (by assumption) (by assumption)) dOk5 List.mem_cons_self (.inl ⟨_, .inl ⟨rfl, rfl⟩, rfl⟩) (List.mem_append_left _ (List.mem_cons_of_mem _ List.mem_cons_self)) (.cons _ _ .nil) (by (first | regstrif_fact | simp)) (by (first | regstrif_fact | simp))) ?_; rintro nw hN hP)
        exact hret _ _ _ _ (by assumption) hN hP
      unfold Hold
      refine wpAny_execs_cons ?_
      k_steps
      · rename_i lt _ _ tup _ _ _ _ _ _ _ _
        (refine el_EA (want_end (lt := lt) (tup := tup) (wv := .ref 78) (taken := []) (tys := []) (kt := 0) (nss := nss) M3 hsub [(tup, tupOf #[.ref 78, .ref lt] 0), (lt, listOf #[] 0)] ‹News h₀ L _ ((tup, _) :: (lt, _) :: RX)› (fun _ h => h) (all2 (by assumption) (by assumption)) dOk5 List.mem_cons_self (.inr (.inl ⟨rfl, rfl⟩)) (List.mem_append_left _ (List.mem_cons_of_mem _ List.mem_cons_self)) .nil (by (first | regstrif_fact | simp)) (by (first | regstrif_fact | simp))) ?_; rintro nw hN hP)
        exact hret _ _ _ _ (by assumption) hN hP
      obtain ⟨dw, u1, u2, u3, u4, u5, u6, u7, u8, u9, u10, _, _, _, _, _, _, _, m1, m2, _⟩ := M2.H.facts (fun p hp => List.mem_append_right FX (M2.hs p hp))
      (refine el_EEA (str_at hnS (r := 0) (by omega) (by omega)) ?_; rintro n0 nt0 hn0 hn0m)
      have y1 : (c.wA, instObj 518 dw) ∈ RX := by rw [← hRX]; simp only [List.mem_cons]; exact .inr (List.mem_append_right _ m1)
      have y2 := (by rw [← hRX]; simp only [List.mem_cons]; exact .inr (List.mem_append_right _ m2) : (dw, _) ∈ RX)
      unfold Hold
      refine wpAny_execs_cons ?_
      k_steps
      · unfold Hold
        have hsu := hnu n0 hn0m
        refine sym_use (symbol_ok w c σ2 imm2 ((T9, LCg.lst zs) :: FX) rest2 n0 _ (uni2_sub hsu) M2.H M2.hs hoffT) (uni2_ne hsu).1 (uni2_ne hsu).2 (by assumption) (by assumption) (by assumption) N8 (by rw [← hRX]; regstrif_slice) (by assumption) hoffT rfl (by ktr_room) (by ktr_units) ?_
        intro a3 i3 σ3 imm3 rest3 h3 tk3 F3 N3 M3b off3 hv3 hi3 hsym3
        have M4 : Mv w c (dkL C S d ++ FR) σ imm rest σ3 imm3 rest3 := (M2.weakA hFXa).trans (M3b.weakA fun q hq => by
          obtain ⟨o, ho⟩ := hFXa q hq
          exact ⟨o, List.mem_cons_of_mem _ ho⟩)
        have hsub2 : ∀ p ∈ mutL c σ3 ++ ((dkL C S d5 ++ FR) ++ rest3), p ∈ mutL c σ3 ++ ((T9, LCg.lst zs) :: FX ++ rest3) := by
          rw [← hFX]; regstrif_slice
        generalize hR4 : mutL c σ3 ++ ((T9, LCg.lst zs) :: FX ++ rest3) = R4 at N3 hsub2
        k_steps
        rename_i xC dC _ _ _ _ _ _ lt _ _ tup _ _ _ _ _ _ _ _
        obtain ⟨nt, bt, N10⟩ := namesI_t ‹News h₀ L _ ((_, _) :: (_, listOf #[] 0) :: (_, instObj 99 _) :: _ :: R4)›
        have q1 := ‹∀ p ∈ R4, p.1 < dC›
        have q2 : @LT.lt Nat _ dC xC := by assumption
        have q3 := ‹@LT.lt Nat _ xC lt ∧ @LT.lt Nat _ dC lt ∧ AllLt lt R4›
        have q4 := ‹@LT.lt Nat _ lt tup ∧ _›
        (refine el_EA (want_end (lt := lt) (tup := tup) (wv := .ref xC) (taken := []) (tys := []) (kt := 0) (nss := nss) M4 hsub2 [(tup, tupOf #[.ref xC, .ref lt] 0), (lt, listOf #[] 0), (xC, instObj 99 dC), (dC, dictOf [ent w "car" nt (.ref a3), ent w "cdr" bt (.int 7 _)] 2)] N10 (fun _ h => h) (fun p hp q hq => by
            have z1 := q1 q hq
            simp only [List.mem_cons, List.not_mem_nil, or_false] at hp
            rcases hp with rfl | rfl | rfl | rfl
            · exact Nat.lt_trans (AllLt.mem q3.2.2 q hq) q4.1
            · exact AllLt.mem q3.2.2 q hq
            · exact Nat.lt_trans z1 q2
            · exact z1) dOk5 List.mem_cons_self (.inr (.inr (.inl ⟨[.ref a3], 7, _, .cons (List.mem_append_left _ (List.mem_cons_of_mem _ (List.mem_cons_of_mem _ List.mem_cons_self))) (List.mem_append_left _ (List.mem_cons_of_mem _ (List.mem_cons_of_mem _ (List.mem_cons_of_mem _ List.mem_cons_self)))) rfl rfl .nil, by simp, by simp, rfl⟩))) (by (first | regstrif_fact | simp)) .nil (by (first | regstrif_fact | simp)) (by (first | regstrif_fact | simp))) ?_; rintro nw hN hP)
        exact hret _ _ _ _ (by assumption) hN hP
      unfold Hold
      refine cut1 N8 (by assumption) ?_ ?_
      · intro h7 tk7 F7 N7
        refine wpAny_execs_cons ?_
        k_steps
        · unfold Hold
          rename_i l6 _ _ _ _
          obtain ⟨t6, N9⟩ := names5i_t ‹News _ L9 _ ((_, listOf #[.int 5 _, .ref 81] 0) :: _)›
          have hl6 : ∀ p ∈ RX, @LT.lt Nat _ p.1 l6 := by first | assumption | exact fun p hp => AllLt.mem (‹_ ∧ AllLt l6 RX›).2 p hp
          replace N9 : News _ L9 _ ((l6, listOf #[.int 5 t6, .ref 81] 0) :: RX) := News.sub N9 (by regstrif_slice)
          refine add_two (xs := zs) (us := [.int 5 t6, .ref 81]) (k := zs.length) (k2 := 0) (by assumption) N9 (by (first | regstrif_fact | (simp only [List.mem_cons]; exact .inr xT))) List.mem_cons_self (by simp only [List.length_cons, List.length_nil]; omega) ?_
          intro D2 h2 F2 N2 hD2
          k_steps
          unfold Hold
          refine adds_use (list_of_ok w D2 (zs ++ [Value.int 5 t6, Value.ref 81]).toArray 0 _ List.mem_cons_self (by simp only [List.size_toArray, List.length_append, List.length_cons, List.length_nil]; omega) (fun x hx => ?_)) (by assumption) (by assumption) (by assumption) N2 (by assumption) rfl (by ktr_room) (by ktr_units) ?_
          · simp only [List.mem_append, List.mem_cons, List.not_mem_nil, or_false] at hx
            rcases hx with hx | rfl | rfl
            · exact hzs3.handed x hx
            · rfl
            · rfl
          intro v3 tl3 h3 tk3 F3 N3 fr3 hL3
          generalize hR2 : tl3 ++ ((D2, listOf (zs ++ [Value.int 5 t6, Value.ref 81]).toArray 0) :: (l6, listOf #[.int 5 t6, .ref 81] 0) :: RX) = R2 at N3
          have wD : (D9, LCg.lst ys) ∈ R2 := by rw [← hR2]; (first | regstrif_fact | simp [xD])
          k_steps
          unfold Hold
          rename_i l7 _ _ _ _
          obtain ⟨t7, N11⟩ := namesS_t ‹News _ L9 _ ((_, listOf #[.str (Str.ofString "t") _] 0) :: R2)›
          refine add_two (xs := ys) (us := [.str (Str.ofString "t") t7]) (k := ys.length) (k2 := 0) (by assumption) N11 (by (first | regstrif_fact | (simp only [List.mem_cons]; exact .inr wD))) List.mem_cons_self (by simp only [List.length_cons, List.length_nil]; omega) ?_
          intro D4 h4' F4' N4' hD4
          k_steps
          rename_i tup _ _ _ _ _ _ _ _
          have N10 := ‹News h₀ L _ ((_, _) :: (D4, _) :: _)›
          (refine el_AA (‹@LT.lt Nat _ D4 tup ∧ @LT.lt Nat _ l7 tup ∧ AllLt tup R2›) ?_; rintro w1 w2 w3)
          have hl7 := ‹∀ p ∈ R2, p.1 < l7›
          have hR3 : ∀ q ∈ RX, q ∈ R2 := fun q hq => by rw [← hR2]; (first | regstrif_fact | simp [hq])
          (refine el_EA (want_end (lt := D4) (tup := tup) (wv := v3) (taken := ps ++ [Str.ofString "t"]) (tys := ys ++ [.str (Str.ofString "t") t7]) (kt := 0) (nss := nss) M3 hsub ((tup, tupOf #[v3, .ref D4] 0) :: (D4, listOf (ys ++ [Value.str (Str.ofString "t") t7]).toArray 0) :: (tl3 ++ [(D2, listOf (zs ++ [Value.int 5 t6, Value.ref 81]).toArray 0), (l6, listOf #[.int 5 t6, .ref 81] 0)])) N10 (by rw [← hR2]; regstrif_slice) (fun p hp q hq => by
              simp only [List.mem_cons, List.mem_append, List.not_mem_nil, or_false] at hp
              rcases hp with rfl | rfl | hp | rfl | rfl
              · exact AllLt.mem w3 q (hR3 q hq)
              · exact hD4 q (List.mem_cons_of_mem _ (hR3 q hq))
              · exact fr3 p hp q (by (first | exact sub_p hq (by regstrif_slice) | simp [hq]))
              · exact hD2 q (List.mem_cons_of_mem _ hq)
              · exact hl6 q hq) dOk5 List.mem_cons_self (.inr (.inr (.inr ⟨zs ++ [Value.int 5 t6, Value.ref 81], by
                have h9 : LAt w tl3 v3 (zs ++ [Value.int 5 t6, Value.ref 81]) (.ref 78) := by simpa using hL3
                exact h9.mono fun p hp => by (first | exact sub_p hp (by regstrif_slice) | simp [hp]), by simp, by simp only [List.length_append, List.length_cons, List.length_nil]; omega,
                (hzs3.mixed (.int (.sym (.inl ⟨rfl, rfl⟩) .nil))).mono fun p hp => List.mem_append_right _ hp⟩))) (by (first | regstrif_fact | simp)) (strs_append hps (.cons _ _ .nil)) (fun s hs => by
                rcases List.mem_append.mp hs with h | h
                · exact .inr (hpm s h)
                · exact .inl (List.mem_singleton.mp h)) (by simp only [List.length_append, List.length_cons, List.length_nil]; omega)) ?_; rintro nw hN hP)
          exact hret _ _ _ _ (by assumption) hN hP
        · unfold Hold
          rename_i l6 _ _ _ _
          obtain ⟨t6, N9⟩ := names3i_t ‹News _ L9 _ ((_, listOf #[.int 3 _] 0) :: _)›
          have hl6 : ∀ p ∈ RX, @LT.lt Nat _ p.1 l6 := by first | assumption | exact fun p hp => AllLt.mem (‹_ ∧ AllLt l6 RX›).2 p hp
          replace N9 : News _ L9 _ ((l6, listOf #[.int 3 t6] 0) :: RX) := News.sub N9 (by regstrif_slice)
          refine add_two (xs := [.int 3 t6]) (us := zs) (k := 0) (k2 := zs.length) (by assumption) N9 List.mem_cons_self (by (first | regstrif_fact | (simp only [List.mem_cons]; exact .inr xT))) (by simp only [List.length_cons, List.length_nil]; omega) ?_
          intro D2 h2 F2 N2 hD2
          k_steps
          unfold Hold
          refine adds_use (list_of_ok w D2 ([Value.int 3 t6] ++ zs).toArray 0 _ List.mem_cons_self (by simp only [List.size_toArray, List.length_append, List.length_cons, List.length_nil]; omega) (fun x hx => ?_)) (by assumption) (by assumption) (by assumption) N2 (by assumption) rfl (by ktr_room) (by ktr_units) ?_
          · simp only [List.cons_append, List.nil_append, List.mem_cons] at hx
            rcases hx with rfl | hx
            · rfl
            · exact hzs3.handed x hx
          intro v3 tl3 h3 tk3 F3 N3 fr3 hL3
          k_steps
          rename_i tup _ _ _ _ _ _ _ _
          have N10 := ‹News h₀ L _ ((_, _) :: (tl3 ++ (D2, _) :: _))›
          have ht9 := ‹∀ p ∈ tl3 ++ ((D2, listOf ([Value.int 3 t6] ++ zs).toArray 0) :: (l6, listOf #[.int 3 t6] 0) :: RX), p.1 < tup›
          (refine el_EA (want_end (lt := D9) (tup := tup) (wv := v3) (taken := ps) (tys := ys) (kt := ys.length) (nss := nss) M3 hsub ((tup, tupOf #[v3, .ref D9] 0) :: (tl3 ++ [(D2, listOf ([Value.int 3 t6] ++ zs).toArray 0), (l6, listOf #[.int 3 t6] 0)])) N10 (by regstrif_slice) (fun p hp q hq => by
              simp only [List.mem_cons, List.mem_append, List.not_mem_nil, or_false] at hp
              rcases hp with rfl | hp | rfl | rfl
              · exact ht9 q (by (first | exact sub_p hq (by regstrif_slice) | simp [hq]))
              · exact fr3 p hp q (by (first | exact sub_p hq (by regstrif_slice) | simp [hq]))
              · exact hD2 q (List.mem_cons_of_mem _ hq)
              · exact hl6 q hq) dOk5 List.mem_cons_self (.inr (.inr (.inr ⟨[Value.int 3 t6] ++ zs, by
                have h9 : LAt w tl3 v3 ([Value.int 3 t6] ++ zs) (.ref 78) := by simpa using hL3
                exact h9.mono fun p hp => by (first | exact sub_p hp (by regstrif_slice) | simp [hp]), by simp, by simp only [List.length_append, List.length_cons, List.length_nil]; omega, .int (by
                have h9 := hzs3.mixed (us := []) (ts := []) .nil
                rw [List.append_nil, List.append_nil] at h9
                exact h9.mono fun p hp => List.mem_append_right _ hp)⟩))) (by (first | regstrif_fact | simp)) hps (fun s hs => .inr (hpm s hs)) (Nat.le_trans hpl4 (by decide))) ?_; rintro nw hN hP)
          exact hret _ _ _ _ (by assumption) hN hP
      · intro tail
        refine wpAny_execs_cons ?_
        k_steps
        · unfold Hold
          rename_i lE _ _ _ _
          have N9 := ‹News _ L9 _ ((_, listOf #[] 0) :: _ :: RX)›
          refine ne_str_nil (xs := ys) (ss := ps) ⟨listOf ys.toArray ys.length, (N9 _ (List.mem_cons_of_mem _ (List.mem_cons_of_mem _ xD))).1, rfl, _, rfl⟩ ⟨listOf #[] 0, (N9 _ List.mem_cons_self).1, rfl, _, rfl⟩ hps (fun s hs => hnu s (hpm s hs)) (by k_units) ?_
          replace N9 : News _ L9 _ RX := News.sub N9 (by regstrif_slice)
          cases hps with
          | nil =>
            dsimp only [List.isEmpty]
            k_steps
            exact tail _ _ (by assumption) N9
          | cons p0 pt0 hps0 =>
            cases zs with
            | nil => exact hzs3.elim
            | cons z0 zs =>
              dsimp only [List.isEmpty]
              have hz0 : (z0 :: zs)[(0 : Int).toNat]? = some z0 := rfl
              k_steps
              rename_i lt _ _ tup _ _ _ _ _ _ _ _
              (refine el_EA (want_end (lt := lt) (tup := tup) (wv := z0) (taken := [p0]) (tys := [.str p0 pt0]) (kt := 0) (nss := nss) M3 hsub [(tup, tupOf #[z0, .ref lt] 0), (lt, listOf #[.str p0 pt0] 0)] ‹News h₀ L _ ((tup, _) :: (lt, _) :: RX)› (fun _ h => h) (all2 (by assumption) (by assumption)) dOk5 List.mem_cons_self (.inl ⟨_, hzs3.1.mono fun p hp => List.mem_append_right _ hp, rfl⟩) (List.mem_append_left _ (List.mem_cons_of_mem _ List.mem_cons_self)) (.cons _ _ .nil) (fun s hs => by rw [List.mem_singleton.mp hs]; exact .inr (hpm _ List.mem_cons_self)) (by (first | regstrif_fact | simp))) ?_; rintro nw hN hP)
              exact hret _ _ _ _ (by assumption) hN hP
        · exact tail _ _ (by assumption) (News.sub (by assumption) (by regstrif_slice))
end
end
section
local macro_rules | `(tactic| walk_at "IDLE") => `(tactic| skip)
local macro_rules | `(tactic| walk_at "IDLE") => `(tactic| skip)
local macro_rules | `(tactic| walk_at "exec For Name Name") => `(tactic| refine Hold.out ?_)

section

structure Jp (w : World) (TT : List (Addr × Obj)) (rw : Addr) (rows : List (Str × Value)) (D : List (Str × List Str)) (nm : Str) (ps : List Str) (j : Nat) (oR : Obj) (la : Addr) (ka : Nat) (zs : List Value) (acc : List Str) (ex : List (Addr × Obj)) : Prop where
  isR : oR.IsDictOf (PySem.strKind PySem.Challenge.rw_ok0061_01.row.prog w) (rows ++ [(nm, .ref la)])
  la : (la, listOf zs.toArray ka) ∈ ex
  zs : StrsAre zs acc
  acc : acc = (ps.take j).foldl (growBy D) [nm]
  fr : ∀ p ∈ ex, @Ne Nat rw p.1 ∧ ∀ q ∈ TT, @Ne Nat q.1 p.1
theorem stored_last {rows : List (Str × Value)} {nm : Str} {v u : Value} (h : valueAt rows nm = none) : stored (rows ++ [(nm, v)]) nm u = rows ++ [(nm, u)] := by
  have hk : ∀ p ∈ rows, p.1 ≠ nm := fun p hp e => key_none h (by rw [← e]; exact List.mem_map_of_mem hp)
  unfold stored
  rw [if_pos (by (first | regstrif_fact | simp))]
  rw [List.map_append]
  congr 1
  · have : rows.map (fun kv => if kv.1 = nm then (kv.1, u) else kv) = rows.map id := List.map_congr_left fun p hp => by rw [if_neg (hk p hp)]; rfl
    rw [this, List.map_id]
  · simp
theorem valueAt_key {rows : List (Str × Value)} {p : Str} (h : p ∈ rows.map (·.1)) : ∃ v, valueAt rows p = some v ∧ (p, v) ∈ rows := by
  cases e : valueAt rows p with
  | none => exact (key_none e h).elim
  | some v => obtain ⟨i, hi⟩ := valueAt_mem e; exact ⟨v, rfl, List.mem_of_getElem? hi⟩
set_option maxRecDepth 100000 in
set_option maxHeartbeats 8000000 in
theorem turnC2 (w : World) (mean : ExcName → Option Value) (mg mb : Str → Option Value) (h₀ : Heap) (L a : Addr) (cd : Value) (s : Shared) (Q : Flow → Shared → Prop) (E : Value → Shared → Prop) (c : Cfg) (C S rw dk : Addr) (oD oW : Obj) (x : Lx) (m : Str → Option Value)
    (G : Gr w mean mg mb h₀ L a cd E) (ok : LOk w c L C S rw dk oD oW x) (I : Addr) (oI : Obj) (i : Nat) (hi : i < 6) (R : LR i x) (F : Fr h₀ L s.heap m) (hm : m (Str.ofString "lisp") = some (.ref c.wA)) (N : News h₀ L s.heap ((I, oI) :: lawL c L C S rw oD oW x)) (offI : ∀ p ∈ lawL c L C S rw oD oW x, p.1 ≠ I)
    (lp : Addr) (ys : List Value) (ps : List Str) (kp : Nat) (tn : Tok) (hmp : m (Str.ofString "parents") = some (.ref lp)) (hlp : (lp, listOf ys.toArray kp) ∈ x.rest) (hps : StrsAre ys ps) (hpl : ps.length ≤ 4) (hpk : ∀ p ∈ ps, p ∈ x.rows.map (·.1)) (cN : x.oN.data = .cell (some (.str (ownN i) tn)))
    (fin : ∀ h' tk m' x', Fr h₀ L h' m' → (∀ z, z ∉ [Str.ofString "parent"] → m' z = m z) → News h₀ L h' ((I, oI) :: lawL c L C S rw oD oW x') → (∀ p ∈ lawL c L C S rw oD oW x', p.1 ≠ I) → LOk w c L C S rw dk oD oW x' → LR (i + 1) x' → Q .next { s with heap := h', toks := tk }) :
    wpAny (model PySem.Challenge.rw_ok0061_01.row.prog w) (callerA.deeper (lawE L a cd)) (execs ((lawFor 2).drop 2) (lawE L a cd)) Q E s := by
  have : PySem.Challenge.rw_ok0061_01 = PySem.Challenge.rw_ok0061_01 ∧ hdz.heap_1 = hdz.heap_1 := by
    k_fill
    exact ⟨rfl, rfl⟩
  clear this
  obtain ⟨B, X, T, hE⟩ := G
  obtain ⟨⟨n1, n2, n3, n4, n5, n6, n7, n8, n9, n10, n11, n12, n13, n14, n15⟩, nb⟩ := ok.toLOb.nds
  have hIr : @Ne Nat I rw := Ne.symm (offI (rw, x.oR) (by (first | regstrif_fact | simp)))
  have qR : ∀ p ∈ ((I, oI) :: (L + 1 + 1 + 1, x.oN) :: (L + 1 + 1 + 1 + 1, x.oK) :: (L + 1 + 1, oW) :: (L + 1, oD) :: (mutL c x.σ ++ (dkL C S x.d ++ x.rest))), p.1 ≠ rw :=
    ne_cons2 hIr (ne_cons2 (nb (L + 1 + 1 + 1) (by (first | regstrif_fact | simp))).2.2.1 (ne_cons2 (nb (L + 1 + 1 + 1 + 1) (by (first | regstrif_fact | simp))).2.2.1 (ne_cons2 (nb (L + 1 + 1) (by (first | regstrif_fact | simp))).2.2.1 (ne_cons2 (nb (L + 1) (by (first | regstrif_fact | simp))).2.2.1 (ne_cons2 (Ne.symm n10) (ne_cons2 (Ne.symm n11) (ne_cons2 (Ne.symm n12) (ne_cons2 n1 (ne_cons2 n2 (ok.toLOb.off1 (by (first | regstrif_fact | simp))))))))))))
  have N2 : News h₀ L s.heap ((rw, x.oR) :: ((I, oI) :: (L + 1 + 1 + 1, x.oN) :: (L + 1 + 1 + 1 + 1, x.oK) :: (L + 1 + 1, oW) :: (L + 1, oD) :: (mutL c x.σ ++ (dkL C S x.d ++ x.rest)))) := News.sub N (by regstrif_slice)
  have cW := ok.cW
  have cD := ok.cD
  have isR := ok.isR
  have loR := ok.loR
  have hrl : x.rows.length ≤ 15 := by
    have h1 := congrArg List.length R.rowsK
    have h2 := congrArg List.length R.Dn
    simp [std5, ownNames] at h1 h2
    omega
  generalize hT : ((I, oI) :: (L + 1 + 1 + 1, x.oN) :: (L + 1 + 1 + 1 + 1, x.oK) :: (L + 1 + 1, oW) :: (L + 1, oD) :: (mutL c x.σ ++ (dkL C S x.d ++ x.rest))) = TT at qR N2
  have hmW : (L + 1 + 1, oW) ∈ TT := by rw [← hT]; (first | regstrif_fact | simp)
  have hmN : (L + 1 + 1 + 1, x.oN) ∈ TT := by rw [← hT]; (first | regstrif_fact | simp)
  have hml : (lp, listOf ys.toArray kp) ∈ TT := by rw [← hT]; (first | regstrif_fact | simp [hlp])
  replace F := fr_pin F hmp
  replace F := fr_pin F (m := fun y => if y = Str.ofString "parents" then some (.ref lp) else m y) (k := Str.ofString "lisp") hm
  have hnk : ownN i ∉ x.rows.map (·.1) := by rw [R.rowsK, R.Dn]; exact own_new hi
  have hnone : valueAt x.rows (ownN i) = none := valueAt_none fun p hp e => hnk (by rw [← e]; exact List.mem_map_of_mem hp)
  obtain ⟨nm, hnm⟩ : ∃ nm, nm = ownN i := ⟨_, rfl⟩
  rw [← hnm] at cN hnk hnone
  clear N n1 n2 n3 n4 n5 n6 n7 n8 n9 n10 n11 n12 n13 n14 n15 hIr nb
  (unfold lawE; generalize hb : (lawFor 2).drop 2 = bd; (conv at hb => lhs; whnf); subst hb; generalize hb : lawScope = bd; (conv at hb => lhs; whnf); (dsimp only at hb); subst hb)
  k_steps
  unfold Hold
  rename_i l9 _ _ _ _ _ oR1 _ _ _
  have N3 := ‹News h₀ L _ ((l9, listOf #[.str nm tn] 0) :: (rw, oR1) :: TT)›
  obtain ⟨g1, g2⟩ := ‹@LT.lt Nat _ rw l9 ∧ AllLt l9 TT›
  have isR1 := ‹Obj.IsDictOf _ oR1 _›
  rw [stored_new hnone] at isR1
  with_reducible refine For_invV h₀ ?hx ?hp ?hm ?hs ?hE
  case hx => exact rfl
  case hp => exact rfl
  case hs => intro _; exact rfl
  case hE => exact hE
  k_steps
  unfold Hold
  have hyl := strs_length hps
  refine loop_lst (l := lp) (its := ys.toArray) (k := kp) (news := (rw, oR1) :: ([(l9, listOf #[.str nm tn] 0)] ++ TT)) [Str.ofString "parent"] [] (fun j V nx => ∃ oR la ka zs acc ex, V = [] ∧ nx = (rw, oR) :: (ex ++ TT) ∧ Jp w TT rw x.rows x.σ.D nm ps j oR la ka zs acc ex) rfl (by (first | exact sub_p hml (by regstrif_slice) | simp [hml])) (by assumption) (News.sub N3 (by regstrif_slice)) (fun _ h => nomatch h)
    ⟨oR1, l9, 0, [.str nm tn], [nm], [(l9, listOf #[.str nm tn] 0)], rfl, rfl, ⟨isR1, List.mem_cons_self, .cons _ _ .nil, by simp, fun p hp => by rw [List.mem_singleton.mp hp]; exact ⟨Nat.ne_of_lt g1, fun q hq => Nat.ne_of_lt (AllLt.mem g2 q hq)⟩⟩⟩ ?_ ?_ ?_
  · intro j V nx hcx; (refine el_EEEEEEAA (hcx) ?_; (try clear hcx); rintro oR la ka zs acc ex rfl rfl J)
    (first | regstrif_fact | simp [hml])
  · intro j V u news₁ h tk v I3 oI3 hv hJ offI3 F₁ N₁
    (refine el_EEEEEEAA (hJ) ?_; (try clear hJ); rintro oR la ka zs acc ex rfl rfl J)
    (refine el_EEA (strs_get hps (by simpa using hv)) ?_; rintro pn pt rfl hpn)
    have qR2 : ∀ p ∈ ex ++ TT, p.1 ≠ rw := fun p hp => by
      rcases List.mem_append.mp hp with hp | hp
      · exact Ne.symm (J.fr p hp).1
      · exact qR p hp
    have hI3r : @Ne Nat rw I3 := offI3 (rw, oR) List.mem_cons_self
    have hI3r2 : @Ne Nat I3 rw := Ne.symm hI3r
    have mW := List.mem_append_right ex hmW
    have mN := List.mem_append_right ex hmN
    have mla := List.mem_append_left TT J.la
    have hpk' := hpk pn (List.mem_of_getElem? hpn)
    (refine el_EA (valueAt_key hpk') ?_; rintro pv hpv hpm)
    (refine el_EEEAA (ok.rowsOk _ hpm) ?_; rintro lq kq qs e9 hlq hqs)
    dsimp only at e9 hqs
    subst e9
    have mlq : (lq, listOf qs.toArray kq) ∈ ex ++ TT := List.mem_append_right ex (by rw [← hT]; (first | regstrif_fact | simp [hlq]))
    have isR2 := J.isR
    have hzs := J.zs
    have hv1 : valueAt (x.rows ++ [(nm, Value.ref la)]) nm = some (.ref la) := by rw [valueAt_append, hnone]; simp [valueAt]
    have hv2 : valueAt (x.rows ++ [(nm, Value.ref la)]) pn = some (.ref lq) := by rw [valueAt_append, hpv]; rfl
    have hrl2 : (x.rows ++ [(nm, Value.ref la)]).length ≤ 100 := by rw [List.length_append]; simp; omega
    have hkeys : ∀ p ∈ x.rows.map (·.1), p ∈ uni2 := by rw [R.rowsK, R.Dn]; exact keys_uni (by omega)
    have hlk : ∀ p ∈ x.rows.map (·.1), x.σ.D.lookup p = none → p ∈ std5 := fun p hp hn => by
      rw [R.rowsK] at hp
      rcases List.mem_append.mp hp with h | h
      · exact h
      · exact (lookup_none hn h).elim
    (refine el_AA (conds_good ok.H (hlk pn hpk')) ?_; rintro cg1 cg2 cg3)
    have cgl := uni2_len cg2 cg3
    have hql := strs_length hqs
    have hgd := fold_good (D := x.σ.D) (ps.take j) [nm] (by (first | regstrif_fact | simp)) (by rw [hnm]; simpa using own_uni hi) (fun p hp => (conds_good ok.H (hlk p (hpk p (List.mem_of_mem_take hp)))).2)
    rw [← J.acc] at hgd
    have hzl := strs_length hzs
    have hacl := uni2_len hgd.1 hgd.2
    k_steps
    unfold Hold
    refine LCt.ListComp_T (F₀ := by k_asm) (by with_unfolding_all rfl) (by decide) (by rfl) (by decide) (by rfl) ?_
    k_steps
    unfold Hold
    refine comp_T (ax := lq) (its := qs.toArray) (k := kq) (fun n us nx => nx = (I3, oI3) :: (rw, oR) :: (ex ++ TT) ∧ StrsAre us (((condsOf x.σ.D pn).take n).filter (fun x => decide (x ∉ acc)))) rfl (by assumption) (by assumption) (by (first | regstrif_fact | (simp only [List.mem_cons]; exact .inr (.inr mlq)))) (by rw [sizeLine_eq]; simp only [List.size_toArray]; omega) ⟨rfl, .nil⟩ ?_ ?_
    · intro n v us nx I oI C oC D m₂ h tk E' hv hJ hC hx F N o ne
      obtain ⟨rfl, hus⟩ := hJ
      (refine el_EEA (strs_get hqs (by simpa using hv)) ?_; rintro sn st rfl hsn)
      k_steps
      · exact LCg.CompEnd.intro (by assumption) (by assumption) _ (fun p hp => hp) o (.inr ⟨listOf qs.toArray kq, by simp only [List.mem_cons]; exact .inr (.inr mlq), rfl, _, rfl⟩) ⟨rfl, by rw [filt_skip hsn (by assumption)]; exact hus⟩
      · exact LCg.CompEnd.intro (by assumption) (by assumption) _ (fun p hp => hp) o (.inr ⟨listOf qs.toArray kq, by simp only [List.mem_cons]; exact .inr (.inr mlq), rfl, _, rfl⟩) ⟨rfl, by rw [filt_add hsn (by assumption)]; exact strs_snoc hus _ _⟩
    · intro g us nx hJ
      obtain ⟨rfl, hus⟩ := hJ
      have e9 : qs.toArray.size = (condsOf x.σ.D pn).length := by simpa using hql
      rw [e9, List.take_length] at hus
      have hul : us.length ≤ 20 := by
        have := strs_length hus
        have h2 := List.length_filter_le (fun x => decide (x ∉ acc)) (condsOf x.σ.D pn)
        omega
      k_steps
      unfold Hold
      rename_i D9 _ _ _ _ _
      have N9 := ‹News h₀ L _ ((_, LCg.lst us) :: _)›
      refine add_two (xs := zs) (us := us) (k := ka) (k2 := us.length) (by assumption) N9 (by (first | regstrif_fact | (simp only [List.mem_cons]; exact .inr (.inr (.inr mla))))) (by (first | regstrif_fact | simp)) (by omega) ?_
      intro D2 h2 F2 N2' hD2
      have d2r : @LT.lt Nat _ rw D2 := hD2 (rw, oR) (by (first | regstrif_fact | simp))
      have d2I : @LT.lt Nat _ I3 D2 := hD2 (I3, oI3) (by (first | regstrif_fact | simp))
      k_steps
      rename_i oR2 _ _ _
      have N8 := ‹News h₀ L _ ((D2, _) :: (D9, _) :: (I3, oI3) :: (rw, _) :: (ex ++ TT))›
      have isR3 := ‹Obj.IsDictOf _ oR2 _›
      rw [stored_last hnone] at isR3
      refine TurnEnd.next (news' := (rw, oR2) :: (((D2, listOf (zs ++ us).toArray 0) :: ex) ++ TT)) (by assumption) (News.sub N8 (by regstrif_slice)) ?_ (JV.intro [] ⟨oR2, D2, 0, zs ++ us, acc ++ (condsOf x.σ.D pn).filter (fun x => decide (x ∉ acc)), (D2, listOf (zs ++ us).toArray 0) :: ex, rfl, rfl, ⟨isR3, List.mem_cons_self, strs_append hzs hus, ?_, ?_⟩⟩ (fun _ h => nomatch h) fun z _ hz => ?_)
      · intro p hp
        simp only [List.cons_append, List.mem_cons] at hp
        rcases hp with rfl | rfl | hp
        · exact hI3r
        · exact Nat.ne_of_gt d2I
        · exact offI3 p (by (first | regstrif_fact | (simp only [List.mem_cons]; exact .inr hp)))
      · rw [List.take_add_one, hpn, List.foldl_append, ← J.acc]
        rfl
      · intro p hp
        rcases List.mem_cons.mp hp with rfl | hp
        · exact ⟨Nat.ne_of_lt d2r, fun q hq => Nat.ne_of_lt (hD2 q (by (first | exact sub_p hq (by regstrif_slice) | simp [hq])))⟩
        · exact J.fr p hp
      · simp only [List.mem_singleton] at hz
        simp only [if_neg hz, frM, setM, List.mem_singleton]
  · intro V u news₁ h tk hJ F₁ N₁
    (refine el_EEEEEEAA (hJ) ?_; (try clear hJ); rintro oR la ka zs acc ex rfl rfl J)
    have hps2 : ys.toArray.size = ps.length := by simpa using hyl
    rw [hps2] at J
    have hacc := J.acc
    rw [List.take_length] at hacc
    have mW := List.mem_append_right ex hmW
    have mN := List.mem_append_right ex hmN
    dsimp only
    k_steps
    unfold Hold
    have exfr : ∀ p ∈ ex, ∀ q ∈ lawL c L C S rw oD oW x, @Ne Nat q.1 p.1 := fun p hp q hq => by
      have h9 : q = (rw, x.oR) ∨ q ∈ TT := List.mem_cons.mp (by rw [← hT]; exact sub_p hq (by regstrif_slice))
      rcases h9 with rfl | h9
      · exact (J.fr p hp).1
      · exact (J.fr p hp).2 q h9
    have okx := ok.toLOb.move (σ' := x.σ) (imm' := x.imm) (rest' := ex ++ x.rest) (d' := x.d) (oR' := oR) (rows' := x.rows ++ [(nm, .ref la)]) (oK' := x.oK) (oN' := x.oN) ok.H (fun p hp => List.mem_append_right _ (ok.hs p hp)) ok.X (fun p hp => List.mem_append_right _ hp)
      (fun p hp => by
        rcases List.mem_append.mp hp with hp | hp
        · exact .inr (exfr p hp)
        · exact .inl hp) ok.dOk ok.cK ok.cN
    have hIa : ∀ b o, (b, o) ∈ lawL c L C S rw oD oW x → @Ne Nat I b := fun b o hb => Ne.symm (offI (b, o) hb)
    have hlpa := ok.offs _ hlp
    have hoff : Off c (((lp, listOf ys.toArray kp) :: (I, oI) :: (ownL L C S rw ⟨x.σ, x.imm, ex ++ x.rest, x.d, oR, x.rows ++ [(nm, .ref la)], x.oK, x.oN⟩ ++ cellL L oD oW)) ++ (ex ++ x.rest)) :=
      Off.cons (hlpa _ (by (first | regstrif_fact | simp))) (hlpa _ (by (first | regstrif_fact | simp))) (hlpa _ (by (first | regstrif_fact | simp))) (Off.cons (hIa c.N x.σ.oN (by (first | regstrif_fact | simp [lawL, mutL]))) (hIa c.R (listOf (x.σ.ks.map (·.2)).toArray x.σ.n) (by (first | regstrif_fact | simp [lawL, mutL]))) (hIa c.P x.σ.oP (by (first | regstrif_fact | simp [lawL, mutL]))) okx.offc)
    have hDn : x.σ.D.lookup nm = none := by
      cases e : x.σ.D.lookup nm with
      | none => rfl
      | some v =>
        have h1 := List.mem_map_of_mem (f := (·.1)) (lookup_mem e)
        rw [R.Dn, hnm] at h1
        exact (own_new hi (List.mem_append_right _ h1)).elim
    have hkeys : ∀ p ∈ x.rows.map (·.1), p ∈ uni2 := by rw [R.rowsK, R.Dn]; exact keys_uni (by omega)
    have hlk : ∀ p ∈ x.rows.map (·.1), x.σ.D.lookup p = none → p ∈ std5 := fun p hp hn => by
      rw [R.rowsK] at hp
      rcases List.mem_append.mp hp with h | h
      · exact h
      · exact (lookup_none hn h).elim
    refine does_use (define_ok w c x.σ x.imm ((lp, listOf ys.toArray kp) :: (I, oI) :: (ownL L C S rw ⟨x.σ, x.imm, ex ++ x.rest, x.d, oR, x.rows ++ [(nm, .ref la)], x.oK, x.oN⟩ ++ cellL L oD oW)) (ex ++ x.rest) nm _ _ lp ys kp ps (by rw [hnm]; exact own_uni hi) ok.X hDn hps (by omega) (fun p hp => ⟨hkeys p (hpk p hp), hlk p (hpk p hp)⟩) List.mem_cons_self ok.H (fun p hp => List.mem_append_right _ (ok.hs p hp)) hoff) (by assumption) (by assumption) (by assumption) (News.sub N₁ ?_) (by assumption) rfl (by ktr_room) (by ktr_units) ?_
    · rw [← hT]
      regstrif_slice
    intro v9 nw9 h9 tk9 F9 N9 hP9
    (refine el_AEEEA (hP9) ?_; (try clear hP9); rintro rfl σ' imm' rest' rfl dn)
    k_steps
    have ok9 := okx.move (oR' := oR) (rows' := x.rows ++ [(nm, .ref la)]) (oK' := x.oK) (oN' := x.oN) (d' := x.d) dn.H dn.hs dn.X dn.subr (fun p hp => (dn.fresh p hp).imp id fun h q hq => h q (by revert q; regstrif_slice)) ok.dOk ok.cK ok.cN
    refine fin _ _ _ ⟨σ', imm', rest', x.d, oR, x.rows ++ [(nm, .ref la)], x.oK, x.oN⟩ (by assumption) (fun z hz => ?_) (News.sub (by assumption) (by regstrif_slice)) ?_ { ok9 with isR := J.isR, rowsOk := ?_ } ⟨?_, ?_⟩
    · simp only [List.mem_singleton] at hz
      simp only [frM, setM, List.mem_singleton, if_neg hz]
      split
      · rename_i h; rw [h, hm]
      · split
        · rename_i h; rw [h, hmp]
        · rfl
    · intro p hp
      rcases lawL_addr (x := x) hp with hp | ⟨o, hp⟩
      · rcases dn.fresh p hp with h | h
        · rcases List.mem_append.mp h with h | h
          · have : @Ne Nat I p.1 := (J.fr p h).2 (I, oI) (by rw [← hT]; (first | regstrif_fact | simp))
            exact Ne.symm this
          · exact offI p (by (first | regstrif_fact | exact sub_p h (by regstrif_slice) | simp [lawL, h]))
        · have : @Ne Nat I p.1 := h (I, oI) (by (first | regstrif_fact | simp))
          exact Ne.symm this
      · exact offI (p.1, o) hp
    · intro kv hkv
      rcases List.mem_append.mp hkv with h | h
      · (refine el_EEEAA (ok.rowsOk kv h) ?_; rintro l kk us e1 e2 e3)
        refine ⟨l, kk, us, e1, dn.subr _ (List.mem_append_right _ e2), ?_⟩
        have hne : kv.1 ≠ nm := fun e => hnk (by rw [← e]; exact List.mem_map_of_mem h)
        rw [show condsOf σ'.D kv.1 = condsOf x.σ.D kv.1 from ?_]
        · exact e3
        · unfold condsOf
          rw [dn.D, lookup_app]
          have : [(nm, grow x.σ.D nm ps)].lookup kv.1 = none := by
            rw [List.lookup_cons]
            have : (kv.1 == nm) = false := by simpa using hne
            rw [this]; rfl
          rw [this, Option.or_none]
      · rw [List.mem_singleton.mp h]
        refine ⟨la, ka, zs, rfl, dn.subr _ (List.mem_append_left _ J.la), ?_⟩
        have : condsOf σ'.D nm = acc := by
          unfold condsOf
          rw [dn.D, lookup_app, hDn, hacc]
          simp [List.lookup_cons, grow]
        rw [this]
        exact J.zs
    · show (x.rows ++ [(nm, Value.ref la)]).map (·.1) = std5 ++ σ'.D.map (·.1)
      rw [List.map_append, R.rowsK, dn.D, List.map_append, List.append_assoc]
      rfl
    · show σ'.D.map (·.1) = _
      rw [dn.D, List.map_append, R.Dn]
      simp only [ownNames, List.range_succ, List.map_append, hnm, List.map_cons, List.map_nil]
end
end
section
local macro_rules | `(tactic| walk_at "IDLE") => `(tactic| skip)
local macro_rules | `(tactic| walk_at "IDLE") => `(tactic| skip)
local macro_rules | `(tactic| walk_at "exec For Name Name") => `(tactic| refine Hold.out ?_)
local macro_rules | `(tactic| walk_at "execs cons") => `(tactic| with_reducible refine hold_sub ?_)

section

theorem names6 {h₀ h : Heap} {L D D1 a b : Addr} {x y oN oK : Obj} {r : List (Addr × Obj)} (N : News h₀ L h ((D, x) :: (D1, y) :: (a, oN) :: (b, oK) :: r)) : News h₀ L h ((D1, y) :: (a, oN) :: (b, oK) :: r) := fun p hp => N p (List.mem_cons_of_mem _ hp)
set_option maxRecDepth 100000 in
set_option maxHeartbeats 8000000 in
theorem turnC (w : World) (mean : ExcName → Option Value) (mg mb : Str → Option Value) (h₀ : Heap) (L a : Addr) (cd : Value) (s : Shared) (Q : Flow → Shared → Prop) (E : Value → Shared → Prop) (c : Cfg) (C S rw dk : Addr) (oD oW : Obj) (x : Lx) (m : Str → Option Value)
    (G : Gr w mean mg mb h₀ L a cd E) (ok : LOk w c L C S rw dk oD oW x) (I : Addr) (oI : Obj) (i : Nat) (hi : i < 6) (t : Tok) (R : LR i x) (F : Fr h₀ L s.heap m) (hm : m (Str.ofString "lisp") = some (.ref c.wA)) (hat : m (Str.ofString "at") = some (.int (0 + (i : Int) * 1) t)) (N : News h₀ L s.heap ((I, oI) :: lawL c L C S rw oD oW x)) (offI : ∀ p ∈ lawL c L C S rw oD oW x, p.1 ≠ I)
    (fin : ∀ h' tk m' x', Fr h₀ L h' m' → (∀ z, z ∉ [Str.ofString "at", Str.ofString "parents", Str.ofString "parent"] → m' z = m z) → News h₀ L h' ((I, oI) :: lawL c L C S rw oD oW x') → (∀ p ∈ lawL c L C S rw oD oW x', p.1 ≠ I) → LOk w c L C S rw dk oD oW x' → LR (i + 1) x' → Q .next { s with heap := h', toks := tk }) :
    wpAny (model PySem.Challenge.rw_ok0061_01.row.prog w) (callerA.deeper (lawE L a cd)) (execs (lawFor 2) (lawE L a cd)) Q E s := by
  have : PySem.Challenge.rw_ok0061_01 = PySem.Challenge.rw_ok0061_01 ∧ hdz.heap_1 = hdz.heap_1 := by
    k_fill
    exact ⟨rfl, rfl⟩
  clear this
  obtain ⟨B, X, T, hE⟩ := G
  obtain ⟨⟨n1, n2, n3, n4, n5, n6, n7, n8, n9, n10, n11, n12, n13, n14, n15⟩, nb⟩ := ok.toLOb.nds
  (refine el_AAAAA (nb (L + 1 + 1 + 1) (by (first | regstrif_fact | simp))) ?_; rintro z1 z2 z3 z4 z5 z6)
  (refine el_AAAAA (nb (L + 1 + 1 + 1 + 1) (by (first | regstrif_fact | simp))) ?_; rintro y1 y2 y3 y4 y5 y6)
  have hI3 : @Ne Nat I (L + 1 + 1 + 1) := Ne.symm (offI (L + 1 + 1 + 1, x.oN) (by (first | regstrif_fact | simp)))
  have hI4 : @Ne Nat I (L + 1 + 1 + 1 + 1) := Ne.symm (offI (L + 1 + 1 + 1 + 1, x.oK) (by (first | regstrif_fact | simp)))
  have N2 : News h₀ L s.heap ((L + 1 + 1 + 1, x.oN) :: (L + 1 + 1 + 1 + 1, x.oK) :: ((I, oI) :: (rw, x.oR) :: (L + 1 + 1, oW) :: (L + 1, oD) :: (mutL c x.σ ++ (dkL C S x.d ++ x.rest)))) := News.sub N (by regstrif_slice)
  have q4 : ∀ p ∈ ((I, oI) :: (rw, x.oR) :: (L + 1 + 1, oW) :: (L + 1, oD) :: (mutL c x.σ ++ (dkL C S x.d ++ x.rest))), p.1 ≠ L + 1 + 1 + 1 + 1 :=
    ne_cons2 hI4 (ne_cons2 (Ne.symm y3) (ne_cons2 (Nat.ne_of_lt (Nat.lt_succ_of_lt (Nat.lt_succ_self _))) (ne_cons2 (Nat.ne_of_lt (Nat.lt_succ_of_lt (Nat.lt_succ_of_lt (Nat.lt_succ_self _)))) (ne_cons2 (Ne.symm y4) (ne_cons2 (Ne.symm y5) (ne_cons2 (Ne.symm y6) (ne_cons2 (Ne.symm y1) (ne_cons2 (Ne.symm y2) (ok.toLOb.off1 (by (first | regstrif_fact | simp)))))))))))
  have q3 : ∀ p ∈ (L + 1 + 1 + 1 + 1, x.oK) :: ((I, oI) :: (rw, x.oR) :: (L + 1 + 1, oW) :: (L + 1, oD) :: (mutL c x.σ ++ (dkL C S x.d ++ x.rest))), p.1 ≠ L + 1 + 1 + 1 :=
    ne_cons2 (Nat.ne_of_gt (Nat.lt_succ_self _)) (ne_cons2 hI3 (ne_cons2 (Ne.symm z3) (ne_cons2 (Nat.ne_of_lt (Nat.lt_succ_self _)) (ne_cons2 (Nat.ne_of_lt (Nat.lt_succ_of_lt (Nat.lt_succ_self _))) (ne_cons2 (Ne.symm z4) (ne_cons2 (Ne.symm z5) (ne_cons2 (Ne.symm z6) (ne_cons2 (Ne.symm z1) (ne_cons2 (Ne.symm z2) (ok.toLOb.off1 (by (first | regstrif_fact | simp))))))))))))
  obtain ⟨vN, cN⟩ := ok.cN
  obtain ⟨vK, cK⟩ := ok.cK
  have cW := ok.cW
  have cD := ok.cD
  have isR := ok.isR
  have loR := ok.loR
  have hrl : x.rows.length ≤ 15 := by
    have h1 := congrArg List.length R.rowsK
    have h2 := congrArg List.length R.Dn
    simp [std5, ownNames] at h1 h2
    omega
  generalize hT : ((I, oI) :: (rw, x.oR) :: (L + 1 + 1, oW) :: (L + 1, oD) :: (mutL c x.σ ++ (dkL C S x.d ++ x.rest))) = TT at q3 q4 N2
  have hmW : (L + 1 + 1, oW) ∈ TT := by rw [← hT]; (first | regstrif_fact | simp)
  have hmR : (rw, x.oR) ∈ TT := by rw [← hT]; (first | regstrif_fact | simp)
  replace F := fr_pin F hat
  replace F := fr_pin F (m := fun y => if y = Str.ofString "at" then some (.int (0 + (i : Int) * 1) t) else m y) (k := Str.ofString "lisp") hm
  have offIC : @Ne Nat I C := Ne.symm (offI (C, listOf x.d.vs.toArray x.d.kc) (by (first | regstrif_fact | simp)))
  have offIS : @Ne Nat I S := Ne.symm (offI (S, listOf #[.int x.d.sd x.d.ts] x.d.ks) (by (first | regstrif_fact | simp)))
  have qCt : ∀ p ∈ ((L + 1 + 1, oW) :: (L + 1, oD) :: (mutL c x.σ ++ x.rest)), p.1 ≠ C :=
    ne_cons2 (nb (L + 1 + 1) (by (first | regstrif_fact | simp))).1 (ne_cons2 (nb (L + 1) (by (first | regstrif_fact | simp))).1 (ne_cons2 (Ne.symm n4) (ne_cons2 (Ne.symm n5) (ne_cons2 (Ne.symm n6) (ok.toLOb.off1 (by (first | regstrif_fact | simp)))))))
  have qSt : ∀ p ∈ ((L + 1 + 1, oW) :: (L + 1, oD) :: (mutL c x.σ ++ x.rest)), p.1 ≠ S :=
    ne_cons2 (nb (L + 1 + 1) (by (first | regstrif_fact | simp))).2.1 (ne_cons2 (nb (L + 1) (by (first | regstrif_fact | simp))).2.1 (ne_cons2 (Ne.symm n7) (ne_cons2 (Ne.symm n8) (ne_cons2 (Ne.symm n9) (ok.toLOb.off1 (by (first | regstrif_fact | simp)))))))
  have qC : ∀ (D1 : Addr) (o1 oN oK oR : Obj), @LT.lt Nat _ C D1 → ∀ p ∈ (D1, o1) :: (L + 1 + 1 + 1, oN) :: (L + 1 + 1 + 1 + 1, oK) :: (I, oI) :: (rw, oR) :: ((L + 1 + 1, oW) :: (L + 1, oD) :: (mutL c x.σ ++ x.rest)), p.1 ≠ C :=
    fun D1 o1 oN oK oR h => ne_cons2 (Nat.ne_of_gt h) (ne_cons2 z1 (ne_cons2 y1 (ne_cons2 offIC (ne_cons2 (Ne.symm n1) qCt))))
  have qS : ∀ (D1 : Addr) (o1 oN oK oR : Obj), @LT.lt Nat _ S D1 → ∀ p ∈ (D1, o1) :: (L + 1 + 1 + 1, oN) :: (L + 1 + 1 + 1 + 1, oK) :: (I, oI) :: (rw, oR) :: ((L + 1 + 1, oW) :: (L + 1, oD) :: (mutL c x.σ ++ x.rest)), p.1 ≠ S :=
    fun D1 o1 oN oK oR h => ne_cons2 (Nat.ne_of_gt h) (ne_cons2 z2 (ne_cons2 y2 (ne_cons2 offIS (ne_cons2 (Ne.symm n2) qSt))))
  have hCS := n3
  have hmC : (C, listOf x.d.vs.toArray x.d.kc) ∈ TT := by rw [← hT]; (first | regstrif_fact | simp)
  have hmS : (S, listOf #[.int x.d.sd x.d.ts] x.d.ks) ∈ TT := by rw [← hT]; (first | regstrif_fact | simp)
  clear N n1 n2 n3 n4 n5 n6 n7 n8 n9 n10 n11 n12 n13 n14 n15 z1 z2 z3 z4 z5 z6 y1 y2 y3 y4 y5 y6
  (unfold lawE; generalize hb : lawFor 2 = bd; (conv at hb => lhs; whnf); subst hb; generalize hb : lawScope = bd; (conv at hb => lhs; whnf); (dsimp only at hb); subst hb)
  k_steps
  unfold Hold
  refine does_use (names_ok w rw x.oR x.rows _ ?_ isR loR (by omega)) (by assumption) (by assumption) (by assumption) (by assumption) (by assumption) rfl (by ktr_room) (by ktr_units) ?_
  · (first | regstrif_fact | simp [hmR])
  intro v1 nw1 h1 tk1 F1 N1 hP1
  (refine el_EEEEAAAA (hP1) ?_; (try clear hP1); rintro D1 vs ss k1 rfl rfl lt1 hS hPm)
  clear N2
  generalize hnm : Str.ofString "own" ++ Str.ofString (toString (0 + (i : Int) * 1)) = nm
  have l1a : @LT.lt Nat _ (L + 1 + 1 + 1) D1 := lt1 (L + 1 + 1 + 1, x.oN) (by (first | regstrif_fact | simp))
  have l1b : @LT.lt Nat _ (L + 1 + 1 + 1 + 1) D1 := lt1 (L + 1 + 1 + 1 + 1, x.oK) (by (first | regstrif_fact | simp))
  k_steps
  unfold Hold
  have ltC : @LT.lt Nat _ C D1 := lt1 (C, listOf x.d.vs.toArray x.d.kc) (by (first | exact sub_p hmC (by regstrif_slice) | simp [hmC]))
  have ltS : @LT.lt Nat _ S D1 := lt1 (S, listOf #[.int x.d.sd x.d.ts] x.d.ks) (by (first | exact sub_p hmS (by regstrif_slice) | simp [hmS]))
  rename_i oN9 _ _ oK9 _ _ _
  have N3 := names6 ‹News h₀ L _ ((_, _) :: (D1, listOf vs.toArray k1) :: _)›
  have cN9 := ‹oN9.data = _›
  have cK9 := ‹oK9.data = _›
  have offC := qC D1 (listOf vs.toArray k1) oN9 oK9 x.oR ltC
  have offS := qS D1 (listOf vs.toArray k1) oN9 oK9 x.oR ltS
  replace N3 : News h₀ L _ (dkL C S x.d ++ ((D1, listOf vs.toArray k1) :: (L + 1 + 1 + 1, oN9) :: (L + 1 + 1 + 1 + 1, oK9) :: (I, oI) :: (rw, x.oR) :: ((L + 1 + 1, oW) :: (L + 1, oD) :: (mutL c x.σ ++ x.rest)))) := News.sub N3 (by rw [← hT]; regstrif_slice)
  generalize hRD : ((D1, listOf vs.toArray k1) :: (L + 1 + 1 + 1, oN9) :: (L + 1 + 1 + 1 + 1, oK9) :: (I, oI) :: (rw, x.oR) :: ((L + 1 + 1, oW) :: (L + 1, oD) :: (mutL c x.σ ++ x.rest))) = RD at offC offS N3
  have mD1 : (D1, listOf vs.toArray k1) ∈ RD := by rw [← hRD]; (first | regstrif_fact | simp)
  have mL1 : (L + 1, oD) ∈ RD := by rw [← hRD]; (first | regstrif_fact | simp)
  have mL2 : (L + 1 + 1, oW) ∈ RD := by rw [← hRD]; (first | regstrif_fact | simp)
  have mL3 : (L + 1 + 1 + 1, oN9) ∈ RD := by rw [← hRD]; (first | regstrif_fact | simp)
  have mL4 : (L + 1 + 1 + 1 + 1, oK9) ∈ RD := by rw [← hRD]; (first | regstrif_fact | simp)
  have mdk : (dk, listOf #[.ref C, .ref S] 0) ∈ RD := by rw [← hRD]; (first | regstrif_fact | simp [ok.mdk])
  have dOk := ok.dOk
  have hD1 : ∀ q ∈ lawL c L C S rw oD oW x, @LT.lt Nat _ q.1 D1 := fun q hq => lt1 q (by rw [← hT]; revert q; regstrif_slice)
  have hI1 : @LT.lt Nat _ I D1 := lt1 (I, oI) (by rw [← hT]; (first | regstrif_fact | simp))
  clear q3 q4 qC qS qCt qSt nb ltC ltS lt1 l1a l1b hmC hmS hmW hmR hI3 hI4 offIC offIS
  refine LCg.Assign_ListComp_U (F₀ := by k_asm) (by rfl) (by with_unfolding_all rfl) (by with_unfolding_all rfl) (by decide) (by rfl) (by decide) (by rfl) (by rfl) (by rfl) ?_
  k_steps
  unfold Hold
  refine draw_use (draw_ok w dk C S 0 x.d 4 _ RD mdk hCS offC offS dOk (by omega) (by omega)) (by assumption) (by assumption) (by assumption) (by assumption) (by assumption) rfl (by ktr_room) (by ktr_units) ?_
  intro d4 r4 t4 h4 tk4 r4lo r4hi dOk4 F4 N4
  clear N3
  k_steps
  unfold Hold
  obtain ⟨rg1, rg2⟩ := rng_up r4 r4lo (by omega)
  have hvl : vs.length = ss.length := strs_length hS
  have hss : ss.length = x.rows.length := by rw [hPm.length_eq, List.length_map]
  have hss5 : 5 ≤ x.rows.length := by
    have h1 := congrArg List.length R.rowsK
    simp [std5] at h1
    omega
  refine comp_R (b := r4) (n := r4.toNat) (fun j ys nx => ∃ d' ps, nx = dkL C S d' ++ RD ∧ DkOk d' ∧ StrsAre ys ps ∧ ps.length = j ∧ ∀ p ∈ ps, p ∈ ss) rfl (by assumption) (by assumption) (by assumption) rg1 rg2 (by rw [sizeLine_eq]; omega) ⟨d4, [], rfl, dOk4, .nil, rfl, fun _ h => nomatch h⟩ ?_ ?_
  · intro j v ys nx I2 oI2 C2 oC2 D2 m₂ h tk E' hv hj hJ hC2 hx2 F N o ne
    (refine el_EEAAAA (hJ) ?_; (try clear hJ); rintro d5 ps rfl dOk5 hps hpl hpm)
    dsimp only [dkL, List.cons_append, List.nil_append] at N
    k_steps
    unfold Hold
    have oC5 := o.mem (C, listOf d5.vs.toArray d5.kc) (by (first | regstrif_fact | simp))
    have oS5 := o.mem (S, listOf #[.int d5.sd d5.ts] d5.ks) (by (first | regstrif_fact | simp))
    refine draw_use (draw_ok w dk C S 0 d5 (vs.toArray.size : Nat) _ ([(I2, oI2), (C2, oC2), (D2, LCg.lst ys)] ++ RD) (by simp [mdk]) hCS (ne_cons2 (Ne.symm oC5.1) (ne_cons2 (Ne.symm oC5.2.1) (ne_cons2 (Ne.symm oC5.2.2) offC))) (ne_cons2 (Ne.symm oS5.1) (ne_cons2 (Ne.symm oS5.2.1) (ne_cons2 (Ne.symm oS5.2.2) offS))) dOk5 (by simp only [List.size_toArray]; omega) (by simp only [List.size_toArray]; omega)) (by assumption) (by assumption) (by assumption) (News.sub N (by regstrif_slice)) (by assumption) rfl (by ktr_room) (by ktr_units) ?_
    intro d6 r6 t6 h6 tk6 r6lo r6hi dOk6 F6 N6
    (refine el_EEA (str_at hS r6lo (by simpa using r6hi)) ?_; rintro pn pt hpn hpin)
    have r6b : r6 < 1000 := by simp only [List.size_toArray] at r6hi; omega
    dsimp only [dkL, List.cons_append, List.nil_append] at N6
    clear N
    k_steps
    refine LCg.CompEnd.intro (by assumption) (by assumption) (dkL C S d6 ++ RD) (by regstrif_slice) (LCg.Off3.of fun p hp => ?_) trivial ⟨d6, ps ++ [pn], rfl, dOk6, strs_snoc hps _ _, by (first | exact sub_p hpl (by regstrif_slice) | simp [hpl]), fun p hp => ?_⟩
    · simp only [dkL, List.cons_append, List.nil_append, List.mem_cons] at hp
      rcases hp with rfl | rfl | hp
      · exact oC5
      · exact oS5
      · exact o.mem p (by (first | exact sub_p hp (by regstrif_slice) | simp [hp]))
    · rcases List.mem_append.mp hp with hp | hp
      · exact hpm p hp
      · rw [List.mem_singleton.mp hp]; exact hpin
  · intro g ys nx hJ
    (refine el_EEAAAA (hJ) ?_; (try clear hJ); rintro d5 ps rfl dOk5 hps hpl hpm)
    dsimp only [dkL, List.cons_append, List.nil_append]
    k_steps
    unfold Hold
    rename_i D9 _ _ _ _ _
    have N9 := ‹News h₀ L _ ((_, LCg.lst ys) :: _)›
    (refine el_AA (‹@Ne Nat C D9 ∧ @Ne Nat S D9 ∧ LCg.Off1 D9 RD›) ?_; rintro p1 p2 p3)
    have p4 := off1_mem p3
    have hD9 : ∀ q ∈ lawL c L C S rw oD oW x, @Ne Nat q.1 D9 := by
      rw [← hRD] at p4
      intro q hq
      have h9 : q ∈ (C, listOf x.d.vs.toArray x.d.kc) :: (S, listOf #[.int x.d.sd x.d.ts] x.d.ks) :: (L + 1 + 1 + 1, x.oN) :: (L + 1 + 1 + 1 + 1, x.oK) :: ((rw, x.oR) :: ((L + 1 + 1, oW) :: (L + 1, oD) :: (mutL c x.σ ++ x.rest))) := by
        revert q; regstrif_slice
      rcases (List.mem_cons.mp h9).imp id (fun h => (List.mem_cons.mp h).imp id fun h => (List.mem_cons.mp h).imp id fun h => List.mem_cons.mp h) with rfl | rfl | rfl | rfl | h9
      · exact p1
      · exact p2
      · exact p4 (L + 1 + 1 + 1, oN9) (by (first | regstrif_fact | simp))
      · exact p4 (L + 1 + 1 + 1 + 1, oK9) (by (first | regstrif_fact | simp))
      · exact p4 q (by simp only [List.mem_cons] at h9 ⊢; exact .inr (.inr (.inr (.inr h9))))
    have hI9 : @Ne Nat I D9 := p4 (I, oI) (by rw [← hRD]; (first | regstrif_fact | simp))
    have ok1 := ok.move (σ' := x.σ) (imm' := x.imm) (rest' := (D9, LCg.lst ys) :: (D1, listOf vs.toArray k1) :: x.rest) (d' := d5) (oR' := x.oR) (rows' := x.rows) (oK' := oK9) (oN' := oN9) ok.H (fun p hp => List.mem_cons_of_mem _ (List.mem_cons_of_mem _ (ok.hs p hp))) ok.X (fun p hp => List.mem_cons_of_mem _ (List.mem_cons_of_mem _ hp))
      (fun p hp => by
        rcases List.mem_cons.mp hp with rfl | hp
        · exact .inr hD9
        rcases List.mem_cons.mp hp with rfl | hp
        · exact .inr fun q hq => Nat.ne_of_lt (hD1 q hq)
        · exact .inl hp) dOk5 ⟨_, cK9⟩ ⟨_, cN9⟩ ok.isR (fun kv hkv => by
          (refine el_EEEAA (ok.rowsOk kv hkv) ?_; rintro l kk zs h1 h2 h3)
          exact ⟨l, kk, zs, h1, List.mem_cons_of_mem _ (List.mem_cons_of_mem _ h2), h3⟩)
    rw [← hnm] at cN9
    refine turnC2 w mean mg mb h₀ L a cd _ Q E c C S rw dk oD oW ⟨x.σ, x.imm, (D9, LCg.lst ys) :: (D1, listOf vs.toArray k1) :: x.rest, d5, x.oR, x.rows, oK9, oN9⟩ _ ⟨B, X, T, hE⟩ ok1 I oI i hi ⟨R.rowsK, R.Dn⟩ (by assumption) rfl (News.sub N9 (by rw [← hRD]; regstrif_slice)) ?_
      D9 ys ps ys.length _ rfl List.mem_cons_self hps (by omega) (fun p hp => hPm.mem_iff.mp (hpm p hp)) cN9 ?_
    · intro p hp
      rcases lawL_addr (x := x) hp with hp | ⟨o, hp⟩
      · rcases List.mem_cons.mp hp with rfl | hp
        · exact Ne.symm hI9
        rcases List.mem_cons.mp hp with rfl | hp
        · exact Nat.ne_of_gt hI1
        · exact offI p (by (first | regstrif_fact | exact sub_p hp (by regstrif_slice) | simp [lawL, hp]))
      · exact offI (p.1, o) hp
    · intro h' tk m' x' F' hz N' offI' ok' R'
      refine fin h' tk m' x' F' (fun z hz' => ?_) N' offI' ok' R'
      simp only [List.mem_cons, List.not_mem_nil, or_false, not_or] at hz'
      rw [hz z (by simp [hz'.2.2])]
      simp only [if_neg hz'.2.1, if_neg hz'.1]
      split
      · rename_i h; rw [h, hm]
      · rfl
end
end
section
inductive Part where
  | str (s : Str) | lst (ns : List Int) | int (n : Int) | sym (s : Str)
def InAt (w : World) (news : List (Addr × Obj)) (v : Value) : Part → Prop
  | .str s => (∃ t, v = .str s t) ∧ (s.cps.all (· < 128)) = true ∧ s.cps.size ≤ 1000
  | .lst ns => ∃ l vs k, v = .ref l ∧ (l, listOf vs.toArray k) ∈ news ∧ IntsAre vs ns ∧ ns.length ≤ 1000
  | .int n => ∃ t, v = .int n t
  | .sym s => WSym w news v s
def DatAt (w : World) (tl : List (Addr × Obj)) (v v' : Value) : Part → Prop
  | .str s => TextAt w tl v' (s.cps.toList.map Int.ofNat)
  | .lst ns => TextAt w tl v' ns
  | _ => v' = v
set_option maxRecDepth 100000 in
set_option maxHeartbeats 8000000 in
theorem datum_ok (w : World) (v : Value) (p : Part) (news : List (Addr × Obj)) (hv : InAt w news v p) :
    Does w 181 6 60 [v] news (AddsN news fun v' tl => DatAt w tl v v' p) := by
  have : PySem.Challenge.rw_ok0061_01 = PySem.Challenge.rw_ok0061_01 ∧ hdz.heap_1 = hdz.heap_1 := by
    k_fill
    exact ⟨rfl, rfl⟩
  clear this
  unfold Does
  intro dp un gd cn cs a ccd cl outer A₀ base h₀ L m mean mg mb s Q E B F X N T hk hd hu hret
  cases p with
  | str s9 =>
    (refine el_AA (hv) ?_; (try clear hv); rintro ⟨t, rfl⟩ ha hz)
    refine wpAny_call ?_
    k_dflt ktr_enter
    k_steps
    unfold Hold
    refine addsN_use (text_ok w s9 t news ha hz) (by assumption) (by assumption) (by assumption) (by assumption) (by assumption) rfl (by ktr_room) (by ktr_units) ?_
    intro v1 tl1 h1 tk1 F1 N1 fr1 hT1
    k_steps
    exact hret _ _ _ _ (by assumption) (by assumption) ⟨tl1, rfl, fr1, hT1⟩
  | lst ns =>
    (refine el_EEEAAA (hv) ?_; (try clear hv); rintro l vs k rfl hl hI hz)
    have hzL : vs.toArray.size ≤ sizeLine := by rw [sizeLine_eq]; simp only [List.size_toArray]; rw [hI.length]; omega
    refine wpAny_call ?_
    k_dflt ktr_enter
    k_steps
    refine hret _ _ _ _ (by assumption) (by assumption) ⟨[_, _, _], rfl, ?_, ⟨_, _, _, _, _, _, vs, rfl, List.mem_cons_self, List.mem_cons_of_mem _ List.mem_cons_self, List.mem_cons_of_mem _ (List.mem_cons_of_mem _ List.mem_cons_self), hI⟩⟩
    intro p hp q hq
    have l9 := ‹_ ∧ AllLt _ news›
    simp only [List.mem_cons, List.not_mem_nil, or_false] at hp
    rcases hp with rfl | rfl | rfl
    · exact Nat.ne_of_lt (Nat.lt_trans (AllLt.mem l9.2 q hq) (by assumption))
    · exact Nat.ne_of_lt (AllLt.mem l9.2 q hq)
    · refine Nat.ne_of_lt ?_
      revert q
      assumption
  | int n =>
    obtain ⟨t, rfl⟩ := hv
    refine wpAny_call ?_
    k_dflt ktr_enter
    k_steps
    exact hret _ _ _ _ (by assumption) (by assumption) ⟨[], rfl, (fun _ h => nomatch h), rfl⟩
  | sym s9 =>
    rcases hv with ⟨rfl, rfl⟩ | ⟨a9, i9, rfl, hu9, d9, t1, t2, t3, t4, m1, m2⟩
    · refine wpAny_call ?_
      k_dflt ktr_enter
      k_steps
      exact hret _ _ _ _ (by assumption) (by assumption) ⟨[], rfl, (fun _ h => nomatch h), rfl⟩
    · refine wpAny_call ?_
      k_dflt ktr_enter
      k_steps
      exact hret _ _ _ _ (by assumption) (by assumption) ⟨[], rfl, (fun _ h => nomatch h), rfl⟩
def codesOf : Part → List Int
  | .str s => s.cps.toList.map Int.ofNat
  | .lst ns => ns
  | _ => []
def SeenAt (w : World) (news : List (Addr × Obj)) (v : Value) : Part → Prop
  | .int n => ∃ t, v = .int n t
  | .sym s => WSym w news v s
  | p => TextAt w news v (codesOf p)
def BoxAt (tl : List (Addr × Obj)) (r : Value) (ns : List Int) : Prop :=
  ∃ a t b vs k k2, r = .ref a ∧ (a, listOf #[.str (Str.ofString "text") t, .ref b] k2) ∈ tl ∧ (b, listOf vs.toArray k) ∈ tl ∧ IntsAre vs ns
def ShownAt (tl : List (Addr × Obj)) (r : Value) : Part → Prop
  | .int n => ∃ t, r = .int n t
  | .sym s => ∃ t, r = .str s t
  | p => BoxAt tl r (codesOf p)
end
section
set_option maxRecDepth 100000 in
set_option maxHeartbeats 8000000 in
theorem shown_text (w : World) (v : Value) (ns : List Int) (news : List (Addr × Obj)) (hv : TextAt w news v ns) (hz : ns.length ≤ 1000) :
    Does w 559 6 60 [v] news (AddsN news fun r tl => BoxAt tl r ns) := by
  have : PySem.Challenge.rw_ok0061_01 = PySem.Challenge.rw_ok0061_01 ∧ hdz.heap_1 = hdz.heap_1 := by
    k_fill
    exact ⟨rfl, rfl⟩
  clear this
  unfold Does
  intro dp un gd cn cs a ccd cl outer A₀ base h₀ L m mean mg mb s Q E B F X N T hk hd hu hret
  (refine el_EEEEEEE (hv) ?_; (try clear hv); rintro x d t1 t2 lc k vs hcy; refine el_AAAA (hcy) ?_; clear hcy; rintro rfl m1 m2 m3 hI)
  have hzL : vs.toArray.size ≤ sizeLine := by rw [sizeLine_eq]; simp only [List.size_toArray]; rw [hI.length]; omega
  refine wpAny_call ?_
  k_dflt ktr_enter
  k_steps
  refine hret _ _ _ _ (by assumption) (by assumption) ⟨[_, _], rfl, ?_, ⟨_, _, _, vs, _, _, rfl, List.mem_cons_self, List.mem_cons_of_mem _ List.mem_cons_self, hI⟩⟩
  intro p hp q hq
  have l9 := ‹_ ∧ AllLt _ news›
  simp only [List.mem_cons, List.not_mem_nil, or_false] at hp
  rcases hp with rfl | rfl
  · exact Nat.ne_of_lt (AllLt.mem l9.2 q hq)
  · refine Nat.ne_of_lt ?_
    revert q
    assumption
set_option maxRecDepth 100000 in
set_option maxHeartbeats 8000000 in
theorem shown_ok (w : World) (v : Value) (p : Part) (news : List (Addr × Obj)) (hv : SeenAt w news v p) (hz : (codesOf p).length ≤ 1000) :
    Does w 559 6 60 [v] news (AddsN news fun r tl => ShownAt tl r p) := by
  have : PySem.Challenge.rw_ok0061_01 = PySem.Challenge.rw_ok0061_01 ∧ hdz.heap_1 = hdz.heap_1 := by
    k_fill
    exact ⟨rfl, rfl⟩
  clear this
  cases p with
  | str s9 => exact shown_text w v _ news hv hz
  | lst ns => exact shown_text w v _ news hv hz
  | int n =>
    obtain ⟨t, rfl⟩ := hv
    unfold Does
    intro dp un gd cn cs a ccd cl outer A₀ base h₀ L m mean mg mb s Q E B F X N T hk hd hu hret
    refine wpAny_call ?_
    k_dflt ktr_enter
    k_steps
    exact hret _ _ _ _ (by assumption) (by assumption) ⟨[], rfl, (fun _ h => nomatch h), _, rfl⟩
  | sym s9 =>
    unfold Does
    intro dp un gd cn cs a ccd cl outer A₀ base h₀ L m mean mg mb s Q E B F X N T hk hd hu hret
    rcases hv with ⟨rfl, rfl⟩ | ⟨a9, i9, rfl, hu9, d9, t1, t2, t3, t4, m1, m2⟩
    · refine wpAny_call ?_
      k_dflt ktr_enter
      k_steps
      exact hret _ _ _ _ (by assumption) (by assumption) ⟨[], rfl, (fun _ h => nomatch h), _, rfl⟩
    · refine wpAny_call ?_
      k_dflt ktr_enter
      k_steps
      exact hret _ _ _ _ (by assumption) (by assumption) ⟨[], rfl, (fun _ h => nomatch h), _, rfl⟩
set_option maxRecDepth 100000 in
set_option maxHeartbeats 8000000 in
theorem data_of_ok (w : World) (v e : Value) (xs : List Value) (news : List (Addr × Obj)) (hv : LAt w news v xs e) (he : EndOk e) (hz : xs.length ≤ 1000) :
    Does w 193 5 60 [v] news (Adds news fun r tl => ∃ l k ys, r = .ref l ∧ (l, listOf ys.toArray k) ∈ tl ∧ (e = .ref 78 → ys = xs) ∧ (e ≠ .ref 78 → ys = [v])) := by
  have : PySem.Challenge.rw_ok0061_01 = PySem.Challenge.rw_ok0061_01 ∧ hdz.heap_1 = hdz.heap_1 := by
    k_fill
    exact ⟨rfl, rfl⟩
  clear this
  unfold Does
  intro dp un gd cn cs a ccd cl outer A₀ base h₀ L m mean mg mb s Q E B F X N T hk hd hu hret
  refine wpAny_call ?_
  k_dflt ktr_enter
  k_steps
  unfold Hold
  refine adds_use (items_of_ok w v e xs news hv he hz) (by assumption) (by assumption) (by assumption) (by assumption) (by assumption) rfl (by ktr_room) (by ktr_units) ?_
  intro v1 tl1 h1 tk1 F1 N1 fr1 hI
  by_cases h78 : e = .ref 78
  · rw [if_pos h78] at hI
    (refine el_EEA (hI) ?_; (try clear hI); rintro l k rfl hl)
    k_steps
    exact hret _ _ _ _ (by assumption) (by assumption) ⟨tl1, rfl, fr1, l, k, xs, rfl, hl, fun _ => rfl, fun h => (h h78).elim⟩
  · rw [if_neg h78] at hI
    subst hI
    k_steps
    exact hret _ _ _ _ (by assumption) (by assumption) ⟨_ :: tl1, rfl, fun p hp q hq => by
      rcases List.mem_cons.mp hp with rfl | hp
      · have hq2 := List.mem_append_right tl1 hq
        clear hq
        revert q
        assumption
      · exact fr1 p hp q hq, _, 0, [v], rfl, List.mem_cons_self, fun h => (h78 h).elim, fun _ => rfl⟩
end
section
inductive All2 {α β : Type} (R : α → β → Prop) : List α → List β → Prop
  | nil : All2 R [] []
  | cons {a b as bs} : R a b → All2 R as bs → All2 R (a :: as) (b :: bs)
theorem All2.mono {α β : Type} {R S : α → β → Prop} (k : ∀ a b, R a b → S a b) {as : List α} {bs : List β} (h : All2 R as bs) : All2 S as bs := by
  induction h with
  | nil => exact .nil
  | cons h _ ih => exact .cons (k _ _ h) ih
theorem All2.snoc {α β : Type} {R : α → β → Prop} {as : List α} {bs : List β} {a : α} {b : β} (h : All2 R as bs) (k : R a b) : All2 R (as ++ [a]) (bs ++ [b]) := by
  induction h with
  | nil => exact .cons k .nil
  | cons h _ ih => exact .cons h ih
theorem All2.length {α β : Type} {R : α → β → Prop} {as : List α} {bs : List β} (h : All2 R as bs) : as.length = bs.length := by
  induction h with
  | nil => rfl
  | cons _ _ ih => simp [ih]
theorem All2.get {α β : Type} {R : α → β → Prop} {as : List α} {bs : List β} (h : All2 R as bs) {i : Nat} {a : α} (e : as[i]? = some a) : ∃ b, bs[i]? = some b ∧ R a b := by
  induction h generalizing i with
  | nil => simp at e
  | cons h _ ih =>
    cases i with
    | zero => simp at e; subst e; exact ⟨_, rfl, h⟩
    | succ i => simpa using ih (by simpa using e)
theorem All2.left {α β : Type} {R : α → β → Prop} {as : List α} {bs : List β} (h : All2 R as bs) {P : α → Prop} (k : ∀ a b, R a b → P a) : ∀ a ∈ as, P a := by
  induction h with
  | nil => exact fun _ h => nomatch h
  | cons h _ ih =>
    intro a ha
    rcases List.mem_cons.mp ha with rfl | ha
    · exact k _ _ h
    · exact ih a ha
theorem text_mono {w : World} {l l' : List (Addr × Obj)} (k : ∀ p ∈ l, p ∈ l') {v : Value} {cs : List Int} (h : TextAt w l v cs) : TextAt w l' v cs := by
  (refine el_EEEEEEE (h) ?_; (try clear h); rintro x d t1 t2 lc kk vs hcy; refine el_AAAA (hcy) ?_; clear hcy; rintro e h1 h2 h3 h4)
  exact ⟨x, d, t1, t2, lc, kk, vs, e, k _ h1, k _ h2, k _ h3, h4⟩
theorem seen_mono {w : World} {l l' : List (Addr × Obj)} (k : ∀ p ∈ l, p ∈ l') {v : Value} {p : Part} (h : SeenAt w l v p) : SeenAt w l' v p := by
  cases p with
  | str s => exact text_mono k h
  | lst ns => exact text_mono k h
  | int n => exact h
  | sym s => exact WSym.mono h k
theorem in_mono {w : World} {l l' : List (Addr × Obj)} (k : ∀ p ∈ l, p ∈ l') {v : Value} {p : Part} (h : InAt w l v p) : InAt w l' v p := by
  cases p with
  | str s => exact h
  | lst ns =>
    (refine el_EEEAA (h) ?_; (try clear h); rintro a vs kk e h1 h2)
    exact ⟨a, vs, kk, e, k _ h1, h2⟩
  | int n => exact h
  | sym s => exact WSym.mono h k
theorem seen_of {w : World} {l tl : List (Addr × Obj)} {v v' : Value} {p : Part} (h : InAt w l v p) (d : DatAt w tl v v' p) : SeenAt w (tl ++ l) v' p := by
  cases p with
  | str s => exact text_mono (fun p hp => List.mem_append_left _ hp) d
  | lst ns => exact text_mono (fun p hp => List.mem_append_left _ hp) d
  | int n => obtain rfl : v' = v := d; exact h
  | sym s => obtain rfl : v' = v := d; exact WSym.mono h fun p hp => List.mem_append_right _ hp
theorem seen_handed {w : World} {l : List (Addr × Obj)} {v : Value} {p : Part} (h : SeenAt w l v p) : handedIn v = true := by
  cases p with
  | str s => (refine el_EEEEEEEA (h) ?_; (try clear h); rintro x d t1 t2 lc kk vs rfl _); rfl
  | lst ns => (refine el_EEEEEEEA (h) ?_; (try clear h); rintro x d t1 t2 lc kk vs rfl _); rfl
  | int n => obtain ⟨t, rfl⟩ := h; rfl
  | sym s => exact WSym.handed h
theorem namesE_t {w : World} {h₀ h : Heap} {L x d : Addr} {z : Obj} {t1 t2 : Tok} {u v : Value} {r : List (Addr × Obj)} (N : News h₀ L h ((x, z) :: (d, dictOf [ent w "car" t1 u, ent w "cdr" t2 v] 2) :: r)) : ∃ t1' t2', News h₀ L h ((x, z) :: (d, dictOf [ent w "car" t1' u, ent w "cdr" t2' v] 2) :: r) := ⟨_, _, N⟩
set_option maxRecDepth 100000 in
set_option maxHeartbeats 8000000 in
theorem error_ok (w : World) (c : Cfg) (σ : St) (imm fr rest : List (Addr × Obj)) (name : Str) (tk : Tok) (ld : Addr) (ds : List Value) (kd : Nat) (parts : List Part) (hun : name ∈ uni2) (hld : (ld, listOf ds.toArray kd) ∈ rest) (hP : All2 (InAt w imm) ds parts) (hlen : parts.length ≤ 10) (H : WI w c σ imm) (hs : ∀ p ∈ imm, p ∈ rest) (off : Off c (fr ++ rest)) :
    Does w 186 12 120 [.ref c.wA, .str name tk, .ref ld] (mutL c σ ++ (fr ++ rest)) (Step w c σ imm fr rest fun v σ' imm' => ∃ x d t1 t2 sv lv ys, v = .ref x ∧ (x, instObj 99 d) ∈ imm' ∧ (d, dictOf [ent w "car" t1 sv, ent w "cdr" t2 lv] 2) ∈ imm' ∧ valueAt σ'.ks name = some sv ∧ LAt w imm' lv ys (.ref 78) ∧ All2 (SeenAt w imm') ys parts) := by
  have : PySem.Challenge.rw_ok0061_01 = PySem.Challenge.rw_ok0061_01 ∧ hdz.heap_1 = hdz.heap_1 := by
    k_fill
    exact ⟨rfl, rfl⟩
  clear this
  unfold Does
  intro dp un gd cn cs a ccd cl outer A₀ base h₀ L m mean mg mb s Q E B F X N T hk hd hu hret
  obtain ⟨dw, u1, u2, u3, u4, u5, u6, u7, u8, u9, u10, db, t1, t2, dc, t3, t4, v2, m1, m2, m3, m4, m5, m6, ne1, ne2, ne3, dN, dP, loN, loP, klen⟩ := H.facts (fun p hp => List.mem_append_right fr (hs p hp))
  dsimp only [mutL, List.cons_append, List.nil_append] at N
  refine wpAny_call ?_
  k_dflt ktr_enter
  k_steps
  unfold Hold
  refine step_use (intern_ok w c σ imm fr rest name _ (uni2_sub hun) H hs off) (by assumption) (by assumption) (by assumption) (by assumption) (fun _ h => h) (by assumption) off rfl (by ktr_room) (by ktr_units) ?_
  intro v1 σ1 imm1 rest1 h1 tk1 F1 N1 M1 off1 hv1
  have hld1 : (ld, listOf ds.toArray kd) ∈ mutL c σ1 ++ (fr ++ rest1) := by simp [M1.subr _ hld]
  have himm1 : ∀ p ∈ imm1, p ∈ mutL c σ1 ++ (fr ++ rest1) := fun p hp => by simp [M1.hs p hp]
  have hP1 : All2 (InAt w imm1) ds parts := hP.mono fun _ _ h => in_mono M1.sub h
  have hdl := hP.length
  obtain ⟨av, rfl⟩ := M1.H.ref hv1
  generalize hR4 : mutL c σ1 ++ (fr ++ rest1) = R4 at N1 hld1 himm1
  clear m1 m2 m3 m4 m5 m6 N ne1 ne2 ne3
  k_steps
  unfold Hold
  refine LCg.ListComp_U (F₀ := by k_asm) (by with_unfolding_all rfl) (by decide) (by rfl) (by decide) (by rfl) ?_
  k_steps
  unfold Hold
  refine comp_U (ax := ld) (its := ds.toArray) (k := kd) (fun j zs nx => ∃ tl, nx = tl ++ R4 ∧ (∀ p ∈ tl, ∀ q ∈ R4, @Ne Nat q.1 p.1) ∧ All2 (SeenAt w (tl ++ imm1)) zs (parts.take j)) rfl (by assumption) (by assumption) hld1 (by rw [sizeLine_eq]; simp only [List.size_toArray]; omega) ⟨[], rfl, (fun _ h => nomatch h), .nil⟩ ?_ ?_
  · intro j v zs nx I oI C2 oC2 D2 m₂ h tk E' hv hj hJ hC2 hx2 F N o ne
    (refine el_EAA (hJ) ?_; (try clear hJ); rintro tl rfl fr1 hz)
    (refine el_EA (hP1.get (by simpa using hv)) ?_; rintro p hp hin)
    k_steps
    unfold Hold
    refine addsN_use (datum_ok w v p _ (in_mono (l' := (I, oI) :: (C2, oC2) :: (D2, LCg.lst zs) :: (tl ++ R4)) (fun q hq => by simp [himm1 q hq]) hin)) (by assumption) (by assumption) (by assumption) (by assumption) (by assumption) rfl (by ktr_room) (by ktr_units) ?_
    intro v3 tl3 h3 tk3 F3 N3 fr3 hD
    refine LCg.CompEnd.intro (by assumption) (by assumption) ((tl3 ++ tl) ++ R4) (by regstrif_slice) (LCg.Off3.of fun q hq => ?_) (.inr ⟨listOf ds.toArray kd, List.mem_append_right _ hld1, rfl, _, rfl⟩) ⟨tl3 ++ tl, rfl, fun q hq r hr => ?_, ?_⟩
    · rw [List.append_assoc] at hq
      rcases List.mem_append.mp hq with hq | hq
      · exact ⟨Ne.symm (fr3 q hq (I, oI) (by (first | regstrif_fact | simp))), Ne.symm (fr3 q hq (C2, oC2) (by (first | regstrif_fact | simp))), Ne.symm (fr3 q hq (D2, LCg.lst zs) (by (first | regstrif_fact | simp)))⟩
      · exact o.mem q hq
    · rcases List.mem_append.mp hq with hq | hq
      · exact fr3 q hq r (by (first | exact sub_p hr (by regstrif_slice) | simp [hr]))
      · exact fr1 q hq r hr
    · rw [List.take_add_one, hp]
      refine (hz.mono fun _ _ h => seen_mono (fun q hq => sub_p hq (by regstrif_slice)) h).snoc (seen_mono (fun q hq => sub_p hq (by regstrif_slice)) (seen_of hin hD))
  · intro g zs nx hJ
    (refine el_EAA (hJ) ?_; (try clear hJ); rintro tl rfl fr1 hz)
    have e9 : ds.toArray.size = parts.length := by simpa using hdl
    rw [e9, List.take_length] at hz
    have hzl := hz.length
    k_steps
    unfold Hold
    rename_i D9 _ _ _ _ _
    have N5 := ‹News _ _ _ ((_, LCg.lst zs) :: _)›
    refine adds_use (list_of_ok w D9 zs.toArray zs.length _ List.mem_cons_self (by simp only [List.size_toArray]; omega) (fun x hx => hz.left (P := fun x => handedIn x = true) (fun _ _ h => seen_handed h) x (by simpa using hx))) (by assumption) (by assumption) (by assumption) N5 (by assumption) rfl (by ktr_room) (by ktr_units) ?_
    intro v3 tl3 h3 tk3 F3 N3 fr3 hL3
    k_steps
    rename_i xC dC _ _ _ _ _ _ _ _ _ _ _ _
    obtain ⟨b1, b2, N10⟩ := namesE_t ‹News h₀ L _ ((_, instObj 99 _) :: _ :: (tl3 ++ _))›
    have q1 := ‹∀ p ∈ tl3 ++ (D9, listOf zs.toArray zs.length) :: (tl ++ R4), p.1 < dC›
    have q2 : @LT.lt Nat _ dC xC := by assumption
    have q3 := off1_mem ‹LCg.Off1 D9 (tl ++ R4)›
    have M5 := M1.add ((xC, instObj 99 dC) :: (dC, dictOf [ent w "car" b1 (.ref av), ent w "cdr" b2 v3] 2) :: (tl3 ++ (D9, listOf zs.toArray zs.length) :: tl)) (by
      rw [hR4]
      intro p hp q hq
      have hq1 : q ∈ tl3 ++ (D9, listOf zs.toArray zs.length) :: (tl ++ R4) := by (first | exact sub_p hq (by regstrif_slice) | simp [hq])
      simp only [List.mem_cons, List.mem_append] at hp
      rcases hp with rfl | rfl | hp | rfl | hp
      · exact Nat.ne_of_lt (Nat.lt_trans (q1 q hq1) q2)
      · exact Nat.ne_of_lt (q1 q hq1)
      · exact Nat.ne_of_lt (fr3 p hp q (by (first | exact sub_p hq (by regstrif_slice) | simp [hq])))
      · exact q3 q (by (first | exact sub_p hq (by regstrif_slice) | simp [hq]))
      · exact fr1 p hp q hq)
    refine hret _ _ _ _ (by assumption) (News.sub N10 ?_) ⟨σ1, _, _, rfl, M5, xC, dC, b1, b2, .ref av, v3, zs, rfl, by simp, by simp, hv1, ?_, hz.mono fun _ _ h => seen_mono (fun q hq => sub_p hq (by regstrif_slice)) h⟩
    · rw [← hR4]
      regstrif_slice
    · have h9 : LAt w tl3 v3 zs (.ref 78) := by simpa using hL3
      exact h9.mono fun p hp => by (first | exact sub_p hp (by regstrif_slice) | simp [hp])
end
section
def pd : Part → PyData
  | .int n => .int n
  | .sym s => .str s
  | p => .list [.str (Str.ofString "text"), .list ((codesOf p).map .int)]
def symOk : Part → Bool
  | .sym s => PyData.strOk s
  | _ => true
theorem ints_reads {h : Heap} {vs : List Value} {ns : List Int} (hI : IntsAre vs ns) : ReadsAll h vs (ns.map .int) [] := by
  induction hI with
  | nil => exact .nil
  | cons n t _ ih => exact ReadsAll.cons (Reads.int n t) ih
theorem box_reads {h₀ h : Heap} {L : Addr} {news : List (Addr × Obj)} (N : News h₀ L h news) {r : Value} {ns : List Int} (hb : BoxAt news r ns) : ∃ as, Reads h r (.list [.str (Str.ofString "text"), .list (ns.map .int)]) as := by
  (refine el_EEEEEEAAA (hb) ?_; (try clear hb); rintro a t b vs k k2 rfl h1 h2 hI)
  exact ⟨_, Reads.list (N _ h1).1 rfl rfl (ReadsAll.cons (Reads.str _ t) (ReadsAll.cons (Reads.list (N _ h2).1 rfl rfl (by simpa using ints_reads hI)) ReadsAll.nil))⟩
theorem shown_reads {h₀ h : Heap} {L : Addr} {news : List (Addr × Obj)} (N : News h₀ L h news) {r : Value} {p : Part} (hb : ShownAt news r p) : ∃ as, Reads h r (pd p) as := by
  cases p with
  | str s => exact box_reads N hb
  | lst ns => exact box_reads N hb
  | int n => obtain ⟨t, rfl⟩ := hb; exact ⟨_, Reads.int n t⟩
  | sym s => obtain ⟨t, rfl⟩ := hb; exact ⟨_, Reads.str s t⟩
theorem shown_readsAll {h₀ h : Heap} {L : Addr} {news : List (Addr × Obj)} (N : News h₀ L h news) {rs : List Value} {ps : List Part} (hb : All2 (ShownAt news) rs ps) : ∃ as, ReadsAll h rs (ps.map pd) as := by
  induction hb with
  | nil => exact ⟨_, .nil⟩
  | cons h1 _ ih =>
    obtain ⟨a1, r1⟩ := shown_reads N h1
    obtain ⟨a2, r2⟩ := ih
    exact ⟨_, .cons r1 r2⟩
theorem eqv_ints : ∀ ns : List Int, PyData.eqvAll (ns.map .int) (ns.map .int) = true
  | [] => by simp [PyData.eqvAll]
  | n :: r => by simp [PyData.eqvAll, PyData.eqv, eqv_ints r]
theorem eqv_pd (p : Part) : PyData.eqv (pd p) (pd p) = true := by
  cases p <;> simp [pd, PyData.eqv, PyData.eqvAll, eqv_ints]
theorem eqv_pds : ∀ ps : List Part, PyData.eqvAll (ps.map pd) (ps.map pd) = true
  | [] => by simp [PyData.eqvAll]
  | p :: r => by simp [PyData.eqvAll, eqv_pd p, eqv_pds r]
theorem lay_pd {p : Part} (h : symOk p = true) : (pd p).canLay0 = true ∧ (pd p).depth ≤ 2 := by
  have e : PyData.strOk (Str.ofString "text") = true := by decide +kernel
  cases p <;> simp [pd, PyData.canLay0, PyData.canLayAll0, PyData.depth, PyData.depthAll, canLayAll_ints, PyProof.Rows.depthAll_ints, e]
  exact h
theorem lay_pds : ∀ {ps : List Part}, (∀ p ∈ ps, symOk p = true) → PyData.canLayAll0 (ps.map pd) = true ∧ PyData.depthAll (ps.map pd) ≤ 2
  | [], _ => by simp [PyData.canLayAll0, PyData.depthAll]
  | p :: r, h => by
    obtain ⟨a1, a2⟩ := lay_pd (h p List.mem_cons_self)
    obtain ⟨b1, b2⟩ := lay_pds (ps := r) fun q hq => h q (List.mem_cons_of_mem _ hq)
    simp only [List.map_cons, PyData.canLayAll0, PyData.depthAll, a1, b1, Bool.and_self, true_and]
    omega
theorem shaped_pds {ps : List Part} (h : ∀ p ∈ ps, symOk p = true) : SeqAt.shaped (.list (ps.map pd)) = true := by
  obtain ⟨b1, b2⟩ := lay_pds h
  simp only [SeqAt.shaped, PyData.canLay0, PyData.depth, b1, Bool.true_and]
  exact decide_eq_true (by omega)
theorem ne_shown {prog : Program} {w : World} {A : Around} {E : Value → Shared → Prop} {s : Shared} {h₀ : Heap} {L a b : Addr} {news : List (Addr × Obj)} {xs ys : List Value} {k k2 : Nat} {ps : List Part} {Q : Value → Shared → Prop} (N : News h₀ L s.heap news) (ha : (a, listOf xs.toArray k) ∈ news) (hb : (b, listOf ys.toArray k2) ∈ news)
    (hx : All2 (ShownAt news) xs ps) (hy : All2 (ShownAt news) ys ps) (hok : ∀ p ∈ ps, symOk p = true) (hu : A.units + 64 < cLine) (h : Q (.bool false) s) : wpAny (model prog w) A (compareOp .NotEq (.ref a) (.ref b)) Q E s := by
  obtain ⟨as, ra⟩ := shown_readsAll N hx
  obtain ⟨bs, rb⟩ := shown_readsAll N hy
  exact ne_dataH (Reads.list (N _ ha).1 rfl rfl (by simpa using ra)) (Reads.list (N _ hb).1 rfl rfl (by simpa using rb)) (shaped_pds hok) (shaped_pds hok) hu (by simp only [PyData.eqv, eqv_pds]; exact h)
theorem ne_ints {prog : Program} {w : World} {A : Around} {E : Value → Shared → Prop} {s : Shared} {h₀ : Heap} {L a b : Addr} {news : List (Addr × Obj)} {xs ys : List Value} {k k2 : Nat} {ns : List Int} {Q : Value → Shared → Prop} (N : News h₀ L s.heap news) (ha : (a, listOf xs.toArray k) ∈ news) (hb : (b, listOf ys.toArray k2) ∈ news)
    (hx : IntsAre xs ns) (hy : IntsAre ys ns) (hu : A.units + 64 < cLine) (h : Q (.bool false) s) : wpAny (model prog w) A (compareOp .NotEq (.ref a) (.ref b)) Q E s := by
  have hs : SeqAt.shaped (.list (ns.map .int)) = true := by
    simp only [SeqAt.shaped, PyData.canLay0, PyData.depth, canLayAll_ints, PyProof.Rows.depthAll_ints]
    decide
  exact ne_dataH (Reads.list (N _ ha).1 rfl rfl (by simpa using ints_reads hx)) (Reads.list (N _ hb).1 rfl rfl (by simpa using ints_reads hy)) hs hs hu (by simp only [PyData.eqv, eqv_ints]; exact h)
theorem eq_pair {prog : Program} {w : World} {A : Around} {E : Value → Shared → Prop} {s : Shared} {h₀ : Heap} {L a b : Addr} {news : List (Addr × Obj)} {v : Value} {k k2 : Nat} {Q : Value → Shared → Prop} (N : News h₀ L s.heap news) (ha : (a, listOf #[v] k) ∈ news) (hb : (b, listOf #[v] k2) ∈ news)
    (hu : A.units < cLine) (h : Q (.bool true) s) : wpAny (model prog w) A (compareOp .Eq (.ref a) (.ref b)) Q E s := by
  refine PySem.SeqAt.eq_listAt (e := fun _ => true) ⟨_, (N _ ha).1, rfl, _, rfl⟩ ⟨_, (N _ hb).1, rfl, _, rfl⟩ rfl hu (fun j h1 h2 => ?_) h
  have : j = 0 := by simp at h1; omega
  subst this
  exact PySem.SeqAt.EqAt.same _
end
section
local macro_rules | `(tactic| walk_at "compareOp IsNot ref ref") => `(tactic| refine Hold.out ?_)
local macro_rules | `(tactic| walk_at "execs cons") => `(tactic| with_reducible refine hold_for ?_)

section

theorem namesI2_t {h₀ h : Heap} {L l : Addr} {u n : Int} {t t2 : Tok} {r : List (Addr × Obj)} (N : News h₀ L h ((l, listOf #[.int u t, .int n t2] 0) :: r)) : ∃ t', News h₀ L h ((l, listOf #[.int u t', .int n t2] 0) :: r) := ⟨_, N⟩
set_option maxRecDepth 100000 in
set_option maxHeartbeats 8000000 in
theorem phaseK (w : World) (mean : ExcName → Option Value) (mg mb : Str → Option Value) (h₀ : Heap) (L a : Addr) (cd : Value) (s : Shared) (Q : Flow → Shared → Prop) (E : Value → Shared → Prop) (m : Str → Option Value)
    (G : Gr w mean mg mb h₀ L a cd E) (NL : List (Addr × Obj)) (num : Int) (tn : Tok) (F : Fr h₀ L s.heap m) (hm : m (Str.ofString "number") = some (.int num tn)) (N : News h₀ L s.heap NL) (end_ : Ends h₀ L s Q) : Rest w 11 h₀ L a cd s Q E := by
  have : PySem.Challenge.rw_ok0061_01 = PySem.Challenge.rw_ok0061_01 ∧ hdz.heap_1 = hdz.heap_1 := by
    k_fill
    exact ⟨rfl, rfl⟩
  clear this
  obtain ⟨B, X, T, hE⟩ := G
  replace F := fr_pin F hm
  (unfold Rest lawE; generalize hb : lawBody.drop 11 = bd; (conv at hb => lhs; whnf); subst hb; generalize hb : lawScope = bd; (conv at hb => lhs; whnf); (dsimp only at hb); subst hb)
  k_steps
  unfold Hold
  rename_i lA _ _ _ _
  obtain ⟨t4, N1⟩ := namesI2_t ‹News h₀ L _ ((_, listOf #[.int 4 _, .int num tn] 0) :: NL)›
  refine adds_use (list_of_ok w lA #[.int 4 t4, .int num tn] 0 _ List.mem_cons_self (by (first | regstrif_fact | simp)) (fun x hx => by
    simp only [List.mem_cons, List.not_mem_nil, or_false] at hx
    rcases hx with rfl | rfl <;> rfl)) (by assumption) (by assumption) (by assumption) N1 (by assumption) rfl (by ktr_room) (by ktr_units) ?_
  intro v1 tl1 h1 tk1 F1 N2 fr1 hL1
  k_steps
  unfold Hold
  refine adds_use (data_of_ok w v1 (.ref 78) [.int 4 t4, .int num tn] _ (hL1.mono fun p hp => List.mem_append_left _ hp) (.inl rfl) (by (first | regstrif_fact | simp))) (by assumption) (by assumption) (by assumption) N2 (by assumption) rfl (by ktr_room) (by ktr_units) ?_
  intro v2 tl2 h2 tk2 F2 N3 fr2 hcx; (refine el_EEEAAA (hcx) ?_; (try clear hcx); rintro l2 k2 ys rfl hl2 hy _)
  obtain rfl := hy rfl
  k_steps
  unfold Hold
  rename_i lB _ _ _ _
  obtain ⟨t5, N4⟩ := namesI2_t ‹News h₀ L _ ((_, listOf #[.int 4 _, .int num tn] 0) :: (tl2 ++ _))›
  refine ne_ints (xs := [.int 4 t4, .int num tn]) (ys := [.int 4 t5, .int num tn]) (ns := [4, num]) N4 (List.mem_cons_of_mem _ (List.mem_append_left _ hl2)) List.mem_cons_self (.cons _ _ (.cons _ _ .nil)) (.cons _ _ (.cons _ _ .nil)) (by simp only [units_in1, units_deeper, Around.mark_units, units_caller]; decide) ?_
  generalize hR1 : (lB, listOf #[.int 4 t5, .int num tn] 0) :: (tl2 ++ (tl1 ++ (lA, listOf #[.int 4 t4, .int num tn] 0) :: NL)) = R1 at N4
  k_steps
  unfold Hold
  refine adds_use (data_of_ok w (.int num tn) (.int num tn) [] _ .nil (.inr ⟨_, _, rfl⟩) (by (first | regstrif_fact | simp))) (by assumption) (by assumption) (by assumption) N4 (by assumption) rfl (by ktr_room) (by ktr_units) ?_
  intro v3 tl3 h3 tk3 F3 N5 fr3 hcx; (refine el_EEEAAA (hcx) ?_; (try clear hcx); rintro l3 k3 ys rfl hl3 _ hy)
  obtain rfl := hy (by (first | regstrif_fact | simp))
  k_steps
  unfold Hold
  rename_i lC _ _ _ _
  have N6 := ‹News h₀ L _ ((_, listOf #[.int num tn] 0) :: (tl3 ++ R1))›
  refine ne_ints (xs := [.int num tn]) (ys := [.int num tn]) (ns := [num]) N6 (List.mem_cons_of_mem _ (List.mem_append_left _ hl3)) List.mem_cons_self (.cons _ _ .nil) (.cons _ _ .nil) (by simp only [units_in1, units_deeper, Around.mark_units, units_caller]; decide) ?_
  generalize hR2 : (lC, listOf #[.int num tn] 0) :: (tl3 ++ R1) = R2 at N6
  k_steps
  unfold Hold
  refine adds_use (data_of_ok w (.ref 78) (.ref 78) [] _ .nil (.inl rfl) (by (first | regstrif_fact | simp))) (by assumption) (by assumption) (by assumption) N6 (by assumption) rfl (by ktr_room) (by ktr_units) ?_
  intro v4 tl4 h4 tk4 F4 N7 fr4 hcx; (refine el_EEEAAA (hcx) ?_; (try clear hcx); rintro l4 k4 ys rfl hl4 hy _)
  obtain rfl := hy rfl
  k_steps
  unfold Hold
  rename_i lD _ _ _ _
  have N8 := ‹News h₀ L _ ((_, listOf #[] 0) :: (tl4 ++ R2))›
  refine ne_ints (xs := []) (ys := []) (ns := []) N8 (List.mem_cons_of_mem _ (List.mem_append_left _ hl4)) List.mem_cons_self .nil .nil (by simp only [units_in1, units_deeper, Around.mark_units, units_caller]; decide) ?_
  generalize hR3 : (lD, listOf #[] 0) :: (tl4 ++ R2) = R3 at N8
  k_steps
  unfold Hold
  rename_i xC dC _ _ _ _ _ _ _ _ _
  obtain ⟨b1, b2, N9⟩ := namesE_t ‹News h₀ L _ ((_, instObj 99 _) :: _ :: R3)›
  refine adds_use (data_of_ok w (.ref xC) (.int num tn) [.int 4 _] _ (.cons List.mem_cons_self (List.mem_cons_of_mem _ List.mem_cons_self) rfl rfl .nil) (.inr ⟨_, _, rfl⟩) (by (first | regstrif_fact | simp))) (by assumption) (by assumption) (by assumption) N9 (by assumption) rfl (by ktr_room) (by ktr_units) ?_
  intro v5 tl5 h5 tk5 F5 N10 fr5 hcx; (refine el_EEEAAA (hcx) ?_; (try clear hcx); rintro l5 k5 ys rfl hl5 _ hy)
  obtain rfl := hy (by (first | regstrif_fact | simp))
  k_steps
  unfold Hold
  rename_i lE _ _ _ _
  have N11 := ‹News h₀ L _ ((_, listOf #[.ref xC] 0) :: (tl5 ++ _))›
  refine eq_pair (v := .ref xC) N11 (List.mem_cons_of_mem _ (List.mem_append_left _ hl5)) List.mem_cons_self (by simp only [units_in1, units_deeper, Around.mark_units, units_caller]; decide) ?_
  k_steps
  exact end_ _ _ _ _ (by assumption) N11
end
end
section
local macro_rules | `(tactic| walk_at "compareOp IsNot ref ref") => `(tactic| refine Hold.out ?_)
local macro_rules | `(tactic| walk_at "execs cons") => `(tactic| with_reducible refine hold_for ?_)
local macro_rules | `(tactic| walk_at "execs cons") => `(tactic| with_reducible refine hold_if ?_)

section

theorem shown_mono {l l' : List (Addr × Obj)} (k : ∀ p ∈ l, p ∈ l') {v : Value} {p : Part} (h : ShownAt l v p) : ShownAt l' v p := by
  cases p with
  | str s =>
    (refine el_EEEEEEAAA (h) ?_; (try clear h); rintro a t b vs k1 k2 e h1 h2 h3)
    exact ⟨a, t, b, vs, k1, k2, e, k _ h1, k _ h2, h3⟩
  | lst ns =>
    (refine el_EEEEEEAAA (h) ?_; (try clear h); rintro a t b vs k1 k2 e h1 h2 h3)
    exact ⟨a, t, b, vs, k1, k2, e, k _ h1, k _ h2, h3⟩
  | int n => exact h
  | sym s => exact h
theorem keepsK {σ σ' : St} {k : Str} {v v' : Value} (g : ∃ l, σ'.ks = σ.ks ++ l) (h : valueAt σ.ks k = some v) (h' : valueAt σ'.ks k = some v') : v' = v := by
  obtain ⟨l, e⟩ := g
  rw [e, valueAt_append, h] at h'
  exact (Option.some.inj h').symm
set_option maxRecDepth 100000 in
set_option maxHeartbeats 8000000 in
theorem phaseJ (w : World) (mean : ExcName → Option Value) (mg mb : Str → Option Value) (h₀ : Heap) (L a : Addr) (cd : Value) (s : Shared) (Q : Flow → Shared → Prop) (E : Value → Shared → Prop) (c : Cfg) (C S rw dk : Addr) (oD oW : Obj) (x : Lx) (m : Str → Option Value)
    (G : Gr w mean mg mb h₀ L a cd E) (ok : LOb w c L C S rw dk oD oW x) (nl : Addr) (nvs : List Value) (nss : List Str) (nk : Nat) (hnl : (nl, listOf nvs.toArray nk) ∈ x.rest) (n0 : Str) (t0 : Tok) (hz0 : nvs[(0 : Int).toNat]? = some (.str n0 t0)) (hnz : nvs.length ≤ 20) (hun : n0 ∈ uni2)
    (F : Fr h₀ L s.heap m) (hm : m (Str.ofString "lisp") = some (.ref c.wA)) (hmn : m (Str.ofString "names_own") = some (.ref nl)) (num : Int) (tn : Tok) (hmu : m (Str.ofString "number") = some (.int num tn)) (fx du : Addr) (hmf : m (Str.ofString "found") = some (.ref fx)) (hmd : m (Str.ofString "due") = some (.ref du)) (N : News h₀ L s.heap (lawL c L C S rw oD oW x))
    (fd : Addr) (b1 b2 : Tok) (sv lv : Value) (ys dvs : List Value) (kd : Nat) (parts : List Part) (hfx : (fx, instObj 99 fd) ∈ x.rest) (hfd : (fd, dictOf [ent w "car" b1 sv, ent w "cdr" b2 lv] 2) ∈ x.rest) (hsv : valueAt x.σ.ks n0 = some sv) (hL : LAt w x.rest lv ys (.ref 78)) (hys : All2 (SeenAt w x.rest) ys parts) (hdu : (du, listOf dvs.toArray kd) ∈ x.rest) (hdv : All2 (ShownAt x.rest) dvs parts)
    (hlen : parts.length ≤ 10) (hcl : ∀ p ∈ parts, (codesOf p).length ≤ 1000) (hok : ∀ p ∈ parts, symOk p = true) (end_ : Ends h₀ L s Q) : Rest w 10 h₀ L a cd s Q E := by
  have : PySem.Challenge.rw_ok0061_01 = PySem.Challenge.rw_ok0061_01 ∧ hdz.heap_1 = hdz.heap_1 := by
    k_fill
    exact ⟨rfl, rfl⟩
  clear this
  have G' := G
  obtain ⟨B, X, T, hE⟩ := G
  replace F := fr_pin F hmu
  replace F := fr_pin F (m := fun y => if y = Str.ofString "number" then some (.int num tn) else m y) (k := Str.ofString "names_own") hmn
  replace F := fr_pin F (m := fun y => if y = Str.ofString "names_own" then some (.ref nl) else if y = Str.ofString "number" then some (.int num tn) else m y) (k := Str.ofString "lisp") hm
  replace F := fr_pin F (m := fun y => if y = Str.ofString "lisp" then some (.ref c.wA) else if y = Str.ofString "names_own" then some (.ref nl) else if y = Str.ofString "number" then some (.int num tn) else m y) (k := Str.ofString "due") hmd
  replace F := fr_pin F (m := fun y => if y = Str.ofString "due" then some (.ref du) else if y = Str.ofString "lisp" then some (.ref c.wA) else if y = Str.ofString "names_own" then some (.ref nl) else if y = Str.ofString "number" then some (.int num tn) else m y) (k := Str.ofString "found") hmf
  obtain ⟨av, rfl⟩ := ok.H.ref hsv
  have hoff := ok.offc
  obtain ⟨dw, u1, u2, u3, u4, u5, u6, u7, u8, u9, u10, _, _, _, _, _, _, _, m1, m2, _⟩ := ok.H.facts ok.hs
  have rsub : ∀ p ∈ x.rest, p ∈ mutL c x.σ ++ ((ownL L C S rw x ++ cellL L oD oW) ++ x.rest) := fun p hp => List.mem_append_right _ (List.mem_append_right _ hp)
  have hS0 := symbol_ok w c x.σ x.imm (ownL L C S rw x ++ cellL L oD oW) x.rest n0 t0 (uni2_sub hun) ok.H ok.hs hoff
  have N0 : News h₀ L s.heap (mutL c x.σ ++ ((ownL L C S rw x ++ cellL L oD oW) ++ x.rest)) := N
  clear N
  generalize hNL : mutL c x.σ ++ ((ownL L C S rw x ++ cellL L oD oW) ++ x.rest) = NL at N0 rsub
  have k1 := rsub _ hfx
  have k2 := rsub _ hfd
  have k3 := rsub _ hnl
  have k4 := rsub _ m1
  have k5 := rsub _ m2
  clear m1 m2
  (unfold Rest lawE; generalize hb : lawBody.drop 10 = bd; (conv at hb => lhs; whnf); subst hb; generalize hb : lawScope = bd; (conv at hb => lhs; whnf); (dsimp only at hb); subst hb)
  refine wpAny_execs_cons ?_
  k_steps
  unfold Hold
  refine step_use hS0 (by assumption) (by assumption) (by assumption) N0 (by rw [← hNL]; exact fun _ h => h) (by assumption) hoff rfl (by ktr_room) (by ktr_units) ?_
  intro v1 σ1 imm1 rest1 h1 tk1 F1 N1 M1 off1 hv1
  obtain rfl := keepsK M1.G.1 hsv hv1
  have rsub1 : ∀ p ∈ rest1, p ∈ mutL c σ1 ++ ((ownL L C S rw x ++ cellL L oD oW) ++ rest1) := fun p hp => List.mem_append_right _ (List.mem_append_right _ hp)
  generalize hNM : mutL c σ1 ++ ((ownL L C S rw x ++ cellL L oD oW) ++ rest1) = NM at N1 rsub1
  clear k1 k2 k3 k4 k5
  have r1 : ∀ p ∈ x.rest, p ∈ NM := fun p hp => rsub1 p (M1.subr p hp)
  have k1 := r1 _ hfx
  have k2 := r1 _ hfd
  have k3 := r1 _ hdu
  have hyl := hys.length
  k_steps
  unfold Hold
  refine wpAny_isNot_ref_self ?_
  k_steps
  unfold Hold
  refine LCg.ListComp_U (F₀ := by k_asm) (by with_unfolding_all rfl) (by decide) (by rfl) (by decide) (by rfl) ?_
  k_steps
  unfold Hold
  refine adds_use (items_of_ok w lv (.ref 78) ys NM (hL.mono r1) (.inl rfl) (by omega)) (by assumption) (by assumption) (by assumption) (by assumption) (by assumption) rfl (by ktr_room) (by ktr_units) ?_
  intro v2 tl2 h2 tk2 F2 N2 fr2 hI
  rw [if_pos rfl] at hI
  (refine el_EEA (hI) ?_; (try clear hI); rintro l2 k2' rfl hl2)
  k_steps
  unfold Hold
  have hR4i : ∀ p ∈ x.rest, p ∈ tl2 ++ NM := fun p hp => List.mem_append_right _ (r1 p hp)
  have hl4 := List.mem_append_left NM hl2
  generalize hR4 : tl2 ++ NM = R4 at N2 hR4i hl4
  refine comp_U (ax := l2) (its := ys.toArray) (k := k2') (fun j zs nx => ∃ tl, nx = tl ++ R4 ∧ (∀ p ∈ tl, ∀ q ∈ R4, @Ne Nat q.1 p.1) ∧ All2 (ShownAt tl) zs (parts.take j)) rfl (by assumption) (by assumption) hl4 (by rw [sizeLine_eq]; simp only [List.size_toArray]; omega) ⟨[], rfl, (fun _ h => nomatch h), .nil⟩ ?_ ?_
  · intro j v zs nx I oI C2 oC2 D2 m₂ h tk E' hv hj hJ hC2 hx2 F N o ne
    (refine el_EAA (hJ) ?_; (try clear hJ); rintro tl rfl fr1 hz)
    (refine el_EA (hys.get (by simpa using hv)) ?_; rintro p hp hin)
    k_steps
    unfold Hold
    refine addsN_use (shown_ok w v p _ (seen_mono (l' := (I, oI) :: (C2, oC2) :: (D2, LCg.lst zs) :: (tl ++ R4)) (fun q hq => by simp [hR4i q hq]) hin) (hcl p (List.mem_of_getElem? hp))) (by assumption) (by assumption) (by assumption) (by assumption) (by assumption) rfl (by ktr_room) (by ktr_units) ?_
    intro v3 tl3 h3 tk3 F3 N3 fr3 hD
    refine LCg.CompEnd.intro (by assumption) (by assumption) ((tl3 ++ tl) ++ R4) (by regstrif_slice) (LCg.Off3.of fun q hq => ?_) (.inr ⟨listOf ys.toArray k2', List.mem_append_right _ hl4, rfl, _, rfl⟩) ⟨tl3 ++ tl, rfl, fun q hq r hr => ?_, ?_⟩
    · rw [List.append_assoc] at hq
      rcases List.mem_append.mp hq with hq | hq
      · exact ⟨Ne.symm (fr3 q hq (I, oI) (by (first | regstrif_fact | simp))), Ne.symm (fr3 q hq (C2, oC2) (by (first | regstrif_fact | simp))), Ne.symm (fr3 q hq (D2, LCg.lst zs) (by (first | regstrif_fact | simp)))⟩
      · exact o.mem q hq
    · rcases List.mem_append.mp hq with hq | hq
      · exact fr3 q hq r (by (first | exact sub_p hr (by regstrif_slice) | simp [hr]))
      · exact fr1 q hq r hr
    · rw [List.take_add_one, hp]
      exact (hz.mono fun _ _ h => shown_mono (fun q hq => List.mem_append_right _ hq) h).snoc (shown_mono (fun q hq => List.mem_append_left _ hq) hD)
  · intro g zs nx hJ
    (refine el_EAA (hJ) ?_; (try clear hJ); rintro tl rfl fr1 hz)
    have e9 : ys.toArray.size = parts.length := by simpa using hyl
    rw [e9, List.take_length] at hz
    k_steps
    unfold Hold
    rename_i D9 _ _ _ _ _
    have N5 := ‹News _ _ _ ((_, LCg.lst zs) :: _)›
    refine ne_shown N5 (xs := zs) (ys := dvs) List.mem_cons_self (List.mem_cons_of_mem _ (List.mem_append_right _ (hR4i _ hdu))) (hz.mono fun _ _ h => shown_mono (fun q hq => by (first | exact sub_p hq (by regstrif_slice) | simp [hq])) h) (hdv.mono fun _ _ h => shown_mono (fun q hq => by simp [hR4i q hq]) h) hok (by simp only [units_in1, units_deeper, Around.mark_units, units_caller]; decide) ?_
    k_steps
    unfold Hold
    refine phaseK w mean mg mb h₀ L a cd _ Q E _ G' _ num tn (by assumption) rfl N5 ?_
    exact fun h' tk m' news' F' N' => end_ h' tk m' news' F' N'
end
end
section
local macro_rules | `(tactic| walk_at "IDLE") => `(tactic| skip)
local macro_rules | `(tactic| walk_at "compareOp IsNot ref ref") => `(tactic| refine Hold.out ?_)
local macro_rules | `(tactic| walk_at "execs cons") => `(tactic| with_reducible refine hold_for ?_)
local macro_rules | `(tactic| walk_at "execs cons") => `(tactic| with_reducible refine hold_if ?_)

section

theorem lt4 {l I C D : Addr} {oI oC oD : Obj} {r : List (Addr × Obj)} (h : @LT.lt Nat _ I l ∧ @LT.lt Nat _ C l ∧ @LT.lt Nat _ D l ∧ AllLt l r) : ∀ p ∈ (I, oI) :: (C, oC) :: (D, oD) :: r, @LT.lt Nat _ p.1 l := fun p hp => by
  simp only [List.mem_cons] at hp
  rcases hp with rfl | rfl | rfl | hp
  · exact h.1
  · exact h.2.1
  · exact h.2.2.1
  · exact AllLt.mem h.2.2.2 p hp
theorem namesB_t {h₀ h : Heap} {L l D : Addr} {u : Str} {t : Tok} {us : List Value} {r : List (Addr × Obj)} (N : News h₀ L h ((l, listOf #[.str u t, .ref D] 0) :: (D, LCg.lst us) :: r)) : ∃ t', News h₀ L h ((l, listOf #[.str u t', .ref D] 0) :: (D, LCg.lst us) :: r) := ⟨_, N⟩
theorem namesB1_t {h₀ h : Heap} {L l : Addr} {u : Str} {t : Tok} {v : Value} {r : List (Addr × Obj)} (N : News h₀ L h ((l, listOf #[.str u t, v] 0) :: r)) : ∃ t', News h₀ L h ((l, listOf #[.str u t', v] 0) :: r) := ⟨_, N⟩
set_option maxRecDepth 100000 in
set_option maxHeartbeats 8000000 in
theorem phaseI (w : World) (mean : ExcName → Option Value) (mg mb : Str → Option Value) (h₀ : Heap) (L a : Addr) (cd : Value) (s : Shared) (Q : Flow → Shared → Prop) (E : Value → Shared → Prop) (c : Cfg) (C S rw dk : Addr) (oD oW : Obj) (x : Lx) (m : Str → Option Value)
    (G : Gr w mean mg mb h₀ L a cd E) (ok : LOb w c L C S rw dk oD oW x) (nl : Addr) (nvs : List Value) (nk : Nat) (hnl : (nl, listOf nvs.toArray nk) ∈ x.rest) (n0 : Str) (t0 : Tok) (hz0 : nvs[(0 : Int).toNat]? = some (.str n0 t0)) (hnz : nvs.length ≤ 20) (hun : n0 ∈ uni2)
    (F : Fr h₀ L s.heap m) (hm : m (Str.ofString "lisp") = some (.ref c.wA)) (hmn : m (Str.ofString "names_own") = some (.ref nl)) (num : Int) (tn : Tok) (hmu : m (Str.ofString "number") = some (.int num tn)) (fx ld : Addr) (hmf : m (Str.ofString "found") = some (.ref fx)) (hmd : m (Str.ofString "data") = some (.ref ld)) (N : News h₀ L s.heap (lawL c L C S rw oD oW x))
    (fd : Addr) (b1 b2 : Tok) (sv lv : Value) (ys ds : List Value) (kd : Nat) (parts : List Part) (hfx : (fx, instObj 99 fd) ∈ x.rest) (hfd : (fd, dictOf [ent w "car" b1 sv, ent w "cdr" b2 lv] 2) ∈ x.rest) (hsv : valueAt x.σ.ks n0 = some sv) (hL : LAt w x.rest lv ys (.ref 78)) (hys : All2 (SeenAt w x.rest) ys parts) (hld : (ld, listOf ds.toArray kd) ∈ x.rest) (hds : All2 (InAt w x.rest) ds parts)
    (hlen : parts.length ≤ 10) (hcl : ∀ p ∈ parts, (codesOf p).length ≤ 1000) (hok : ∀ p ∈ parts, symOk p = true) (end_ : Ends h₀ L s Q) : Rest w 9 h₀ L a cd s Q E := by
  have : PySem.Challenge.rw_ok0061_01 = PySem.Challenge.rw_ok0061_01 ∧ hdz.heap_1 = hdz.heap_1 := by
    k_fill
    exact ⟨rfl, rfl⟩
  clear this
  have G' := G
  obtain ⟨B, X, T, hE⟩ := G
  replace F := fr_pin F hmu
  replace F := fr_pin F (m := fun y => if y = Str.ofString "number" then some (.int num tn) else m y) (k := Str.ofString "names_own") hmn
  replace F := fr_pin F (m := fun y => if y = Str.ofString "names_own" then some (.ref nl) else if y = Str.ofString "number" then some (.int num tn) else m y) (k := Str.ofString "lisp") hm
  replace F := fr_pin F (m := fun y => if y = Str.ofString "lisp" then some (.ref c.wA) else if y = Str.ofString "names_own" then some (.ref nl) else if y = Str.ofString "number" then some (.int num tn) else m y) (k := Str.ofString "found") hmf
  replace F := fr_pin F (m := fun y => if y = Str.ofString "found" then some (.ref fx) else if y = Str.ofString "lisp" then some (.ref c.wA) else if y = Str.ofString "names_own" then some (.ref nl) else if y = Str.ofString "number" then some (.int num tn) else m y) (k := Str.ofString "data") hmd
  have rsub : ∀ p ∈ x.rest, p ∈ lawL c L C S rw oD oW x := fun p hp => List.mem_append_right _ (List.mem_append_right _ hp)
  generalize hNL : lawL c L C S rw oD oW x = NL at N rsub
  have k1 := rsub _ hld
  have hdl := hds.length
  (unfold Rest lawE; generalize hb : lawBody.drop 9 = bd; (conv at hb => lhs; whnf); subst hb; generalize hb : lawScope = bd; (conv at hb => lhs; whnf); (dsimp only at hb); subst hb)
  k_steps
  unfold Hold
  refine LCg.Assign_ListComp_U (F₀ := by k_asm) (by rfl) (by with_unfolding_all rfl) (by with_unfolding_all rfl) (by decide) (by rfl) (by decide) (by rfl) (by rfl) (by rfl) ?_
  k_steps
  unfold Hold
  refine comp_U (ax := ld) (its := ds.toArray) (k := kd) (fun j zs nx => ∃ tl, nx = tl ++ NL ∧ (∀ p ∈ tl, ∀ q ∈ NL, @Ne Nat q.1 p.1) ∧ All2 (ShownAt (tl ++ x.rest)) zs (parts.take j)) rfl (by assumption) (by assumption) k1 (by rw [sizeLine_eq]; simp only [List.size_toArray]; omega) ⟨[], rfl, (fun _ h => nomatch h), .nil⟩ ?_ ?_
  · intro j v zs nx I oI C2 oC2 D2 m₂ h tk E' hv hj hJ hC2 hx2 F N o ne
    (refine el_EAA (hJ) ?_; (try clear hJ); rintro tl rfl fr1 hz)
    (refine el_EA (hds.get (by simpa using hv)) ?_; rintro p hp hin)
    cases p with
    | str s9 =>
      (refine el_AA (hin) ?_; (try clear hin); rintro ⟨t9, rfl⟩ ha9 hz9)
      k_steps
      unfold Hold
      refine ListComp_S (_F₀ := by k_asm) (by with_unfolding_all rfl) (by decide) (by rfl) (by decide) (by rfl) ?_
      k_steps
      refine ⟨s9, _, _, rfl, rfl, by assumption, by assumption, ha9, by rw [sizeLine_eq]; omega, ?_⟩
      rintro s₂ ⟨g, rfl⟩
      refine restU (n := s9.cps.size) (fun i ys nx => nx = ((I, oI) :: (C2, oC2) :: (D2, LCg.lst zs) :: (tl ++ NL)) ∧ IntsAre ys ((s9.cps.toList.take i).map Int.ofNat)) ?_ ?_ s9.cps.size 0 [] _ (by omega) ⟨rfl, .nil⟩
      · intro i v ys nx I5 oI5 C5 oC5 D5 m₃ h tk E' hv hi hJ hC hx F N o ne
        obtain ⟨rfl, hys9⟩ := hJ
        (refine el_EEA (hv) ?_; (try clear hv); rintro c9 u9 hc9 rfl)
        k_steps
        exact LCg.CompEnd.intro (by assumption) (by assumption) _ (fun p hp => hp) o trivial ⟨rfl, ints_take hys9 (by simpa using hc9) _⟩
      intro us nx hJ
      obtain ⟨rfl, hus⟩ := hJ
      k_steps
      rename_i D6 _ _ _ l6 _ _ _ _
      obtain ⟨t6, N3⟩ := namesB_t ‹News h₀ L _ ((_, listOf #[.str (Str.ofString "text") _, .ref _] 0) :: (_, LCg.lst us) :: _)›
      have hus' : IntsAre us (codesOf (.str s9)) := by
        have e : s9.cps.toList.take s9.cps.size = s9.cps.toList := List.take_of_length_le (by (first | regstrif_fact | simp))
        rw [e] at hus; exact hus
      have q3 := off1_mem (l := (I, oI) :: (C2, oC2) :: (D2, LCg.lst zs) :: (tl ++ NL)) (by assumption : LCg.Off1 D6 _)
      have q4 := ‹@LT.lt Nat _ D6 l6 ∧ _›
      have fr3 : ∀ p ∈ [(l6, listOf #[.str (Str.ofString "text") t6, .ref D6] 0), (D6, LCg.lst us)], ∀ q ∈ (I, oI) :: (C2, oC2) :: (D2, LCg.lst zs) :: (tl ++ NL), @Ne Nat q.1 p.1 := fun p hp q hq => by
        simp only [List.mem_cons, List.not_mem_nil, or_false] at hp
        rcases hp with rfl | rfl
        · exact Nat.ne_of_lt (lt4 q4.2 q hq)
        · exact q3 q hq
      have hD : ShownAt [(l6, listOf #[.str (Str.ofString "text") t6, .ref D6] 0), (D6, LCg.lst us)] (.ref l6) (.str s9) := ⟨_, _, _, us, us.length, _, rfl, List.mem_cons_self, List.mem_cons_of_mem _ List.mem_cons_self, hus'⟩
      refine LCg.CompEnd.intro (by assumption) N3 (([(l6, listOf #[.str (Str.ofString "text") t6, .ref D6] 0), (D6, LCg.lst us)] ++ tl) ++ NL) (by regstrif_slice) (LCg.Off3.of fun q hq => ?_) (.inr ⟨listOf ds.toArray kd, List.mem_append_right _ k1, rfl, _, rfl⟩) ⟨[(l6, listOf #[.str (Str.ofString "text") t6, .ref D6] 0), (D6, LCg.lst us)] ++ tl, rfl, fun q hq r hr => ?_, ?_⟩
      · rw [List.append_assoc] at hq
        rcases List.mem_append.mp hq with hq | hq
        · exact ⟨Ne.symm (fr3 q hq (I, oI) (by (first | regstrif_fact | simp))), Ne.symm (fr3 q hq (C2, oC2) (by (first | regstrif_fact | simp))), Ne.symm (fr3 q hq (D2, LCg.lst zs) (by (first | regstrif_fact | simp)))⟩
        · exact o.mem q hq
      · rcases List.mem_append.mp hq with hq | hq
        · exact fr3 q hq r (by (first | exact sub_p hr (by regstrif_slice) | simp [hr]))
        · exact fr1 q hq r hr
      · rw [List.take_add_one, hp]
        exact (hz.mono fun _ _ h => shown_mono (by regstrif_slice) h).snoc (shown_mono (by regstrif_slice) hD)
    | lst ns =>
      (refine el_EEEAAA (hin) ?_; (try clear hin); rintro l9 vs9 k9 rfl hl9 hI9 hz9)
      have k2 := List.mem_append_right tl (rsub _ hl9)
      k_steps
      rename_i l6 _ _ _ _
      obtain ⟨t6, N3⟩ := namesB1_t ‹News h₀ L _ ((_, listOf #[.str (Str.ofString "text") _, .ref l9] 0) :: _)›
      have fr3 : ∀ p ∈ [(l6, listOf #[.str (Str.ofString "text") t6, .ref l9] 0)], ∀ q ∈ (I, oI) :: (C2, oC2) :: (D2, LCg.lst zs) :: (tl ++ NL), @Ne Nat q.1 p.1 := fun p hp q hq => by
        rw [List.mem_singleton.mp hp]
        first
        | exact Nat.ne_of_lt (lt4 ‹@LT.lt Nat _ I l6 ∧ _› q hq)
        | (refine Nat.ne_of_lt ?_
           revert q
           assumption)
      have hD : ShownAt ([(l6, listOf #[.str (Str.ofString "text") t6, .ref l9] 0)] ++ x.rest) (.ref l6) (.lst ns) := ⟨_, _, _, vs9, _, _, rfl, List.mem_cons_self, List.mem_cons_of_mem _ hl9, hI9⟩
      refine LCg.CompEnd.intro (by assumption) N3 (([(l6, listOf #[.str (Str.ofString "text") t6, .ref l9] 0)] ++ tl) ++ NL) (by regstrif_slice) (LCg.Off3.of fun q hq => ?_) (.inr ⟨listOf ds.toArray kd, List.mem_append_right _ k1, rfl, _, rfl⟩) ⟨[(l6, listOf #[.str (Str.ofString "text") t6, .ref l9] 0)] ++ tl, rfl, fun q hq r hr => ?_, ?_⟩
      · rw [List.append_assoc] at hq
        rcases List.mem_append.mp hq with hq | hq
        · exact ⟨Ne.symm (fr3 q hq (I, oI) (by (first | regstrif_fact | simp))), Ne.symm (fr3 q hq (C2, oC2) (by (first | regstrif_fact | simp))), Ne.symm (fr3 q hq (D2, LCg.lst zs) (by (first | regstrif_fact | simp)))⟩
        · exact o.mem q hq
      · rcases List.mem_append.mp hq with hq | hq
        · exact fr3 q hq r (by (first | exact sub_p hr (by regstrif_slice) | simp [hr]))
        · exact fr1 q hq r hr
      · rw [List.take_add_one, hp]
        exact (hz.mono fun _ _ h => shown_mono (by regstrif_slice) h).snoc (shown_mono (by regstrif_slice) hD)
    | int n9 =>
      obtain ⟨t9, rfl⟩ := hin
      k_steps
      unfold Hold
      refine addsN_use (shown_ok w _ (.int n9) _ ⟨t9, rfl⟩ (by simp [codesOf])) (by assumption) (by assumption) (by assumption) (by assumption) (by assumption) rfl (by ktr_room) (by ktr_units) ?_
      intro v3 tl3 h3 tk3 F3 N3 fr3 hD
      refine LCg.CompEnd.intro (by assumption) (by assumption) ((tl3 ++ tl) ++ NL) (by regstrif_slice) (LCg.Off3.of fun q hq => ?_) (.inr ⟨listOf ds.toArray kd, List.mem_append_right _ k1, rfl, _, rfl⟩) ⟨tl3 ++ tl, rfl, fun q hq r hr => ?_, ?_⟩
      · rw [List.append_assoc] at hq
        rcases List.mem_append.mp hq with hq | hq
        · exact ⟨Ne.symm (fr3 q hq (I, oI) (by (first | regstrif_fact | simp))), Ne.symm (fr3 q hq (C2, oC2) (by (first | regstrif_fact | simp))), Ne.symm (fr3 q hq (D2, LCg.lst zs) (by (first | regstrif_fact | simp)))⟩
        · exact o.mem q hq
      · rcases List.mem_append.mp hq with hq | hq
        · exact fr3 q hq r (by (first | exact sub_p hr (by regstrif_slice) | simp [hr]))
        · exact fr1 q hq r hr
      · rw [List.take_add_one, hp]
        exact (hz.mono fun _ _ h => shown_mono (by regstrif_slice) h).snoc (shown_mono (by regstrif_slice) hD)
    | sym s9 =>
      have hin2 : SeenAt w ((I, oI) :: (C2, oC2) :: (D2, LCg.lst zs) :: (tl ++ NL)) v (.sym s9) := WSym.mono hin fun q hq => by simp [rsub q hq]
      rcases hin with ⟨rfl, rfl⟩ | ⟨a9, i9, rfl, hu9, d9, t1, t2, t3, t4, m1, m2⟩
      · k_steps
        unfold Hold
        refine addsN_use (shown_ok w _ (.sym (Str.ofString "t")) _ hin2 (by simp [codesOf])) (by assumption) (by assumption) (by assumption) (by assumption) (by assumption) rfl (by ktr_room) (by ktr_units) ?_
        intro v3 tl3 h3 tk3 F3 N3 fr3 hD
        refine LCg.CompEnd.intro (by assumption) (by assumption) ((tl3 ++ tl) ++ NL) (by regstrif_slice) (LCg.Off3.of fun q hq => ?_) (.inr ⟨listOf ds.toArray kd, List.mem_append_right _ k1, rfl, _, rfl⟩) ⟨tl3 ++ tl, rfl, fun q hq r hr => ?_, ?_⟩
        · rw [List.append_assoc] at hq
          rcases List.mem_append.mp hq with hq | hq
          · exact ⟨Ne.symm (fr3 q hq (I, oI) (by (first | regstrif_fact | simp))), Ne.symm (fr3 q hq (C2, oC2) (by (first | regstrif_fact | simp))), Ne.symm (fr3 q hq (D2, LCg.lst zs) (by (first | regstrif_fact | simp)))⟩
          · exact o.mem q hq
        · rcases List.mem_append.mp hq with hq | hq
          · exact fr3 q hq r (by (first | exact sub_p hr (by regstrif_slice) | simp [hr]))
          · exact fr1 q hq r hr
        · rw [List.take_add_one, hp]
          exact (hz.mono fun _ _ h => shown_mono (by regstrif_slice) h).snoc (shown_mono (by regstrif_slice) hD)
      · have m3 := List.mem_append_right tl (rsub _ m1)
        have m4 := List.mem_append_right tl (rsub _ m2)
        k_steps
        unfold Hold
        refine addsN_use (shown_ok w _ (.sym s9) _ hin2 (by simp [codesOf])) (by assumption) (by assumption) (by assumption) (by assumption) (by assumption) rfl (by ktr_room) (by ktr_units) ?_
        intro v3 tl3 h3 tk3 F3 N3 fr3 hD
        refine LCg.CompEnd.intro (by assumption) (by assumption) ((tl3 ++ tl) ++ NL) (by regstrif_slice) (LCg.Off3.of fun q hq => ?_) (.inr ⟨listOf ds.toArray kd, List.mem_append_right _ k1, rfl, _, rfl⟩) ⟨tl3 ++ tl, rfl, fun q hq r hr => ?_, ?_⟩
        · rw [List.append_assoc] at hq
          rcases List.mem_append.mp hq with hq | hq
          · exact ⟨Ne.symm (fr3 q hq (I, oI) (by (first | regstrif_fact | simp))), Ne.symm (fr3 q hq (C2, oC2) (by (first | regstrif_fact | simp))), Ne.symm (fr3 q hq (D2, LCg.lst zs) (by (first | regstrif_fact | simp)))⟩
          · exact o.mem q hq
        · rcases List.mem_append.mp hq with hq | hq
          · exact fr3 q hq r (by (first | exact sub_p hr (by regstrif_slice) | simp [hr]))
          · exact fr1 q hq r hr
        · rw [List.take_add_one, hp]
          exact (hz.mono fun _ _ h => shown_mono (by regstrif_slice) h).snoc (shown_mono (by regstrif_slice) hD)
  · intro g zs nx hJ
    (refine el_EAA (hJ) ?_; (try clear hJ); rintro tl rfl fr1 hz)
    have e9 : ds.toArray.size = parts.length := by simpa using hdl
    rw [e9, List.take_length] at hz
    k_steps
    unfold Hold
    rename_i D9 _ _ _ _ _
    have N5 := ‹News _ _ _ ((_, LCg.lst zs) :: _)›
    have q3 := off1_mem (by assumption : LCg.Off1 D9 (tl ++ NL))
    have ok2 := ok.move (σ' := x.σ) (imm' := x.imm) (rest' := (D9, LCg.lst zs) :: (tl ++ x.rest)) (d' := x.d) (oR' := x.oR) (rows' := x.rows) (oK' := x.oK) (oN' := x.oN) ok.H (fun p hp => List.mem_cons_of_mem _ (List.mem_append_right _ (ok.hs p hp))) ok.X (fun p hp => List.mem_cons_of_mem _ (List.mem_append_right _ hp))
      (fun p hp => by
        rw [hNL]
        rcases List.mem_cons.mp hp with rfl | hp
        · exact .inr fun q hq => q3 q (List.mem_append_right _ hq)
        · rcases List.mem_append.mp hp with hp | hp
          · exact .inr fun q hq => fr1 p hp q hq
          · exact .inl hp) ok.dOk ok.cK ok.cN
    have rs2 : ∀ p ∈ x.rest, p ∈ (D9, LCg.lst zs) :: (tl ++ x.rest) := fun p hp => List.mem_cons_of_mem _ (List.mem_append_right _ hp)
    refine phaseJ w mean mg mb h₀ L a cd _ Q E c C S rw dk oD oW ⟨x.σ, x.imm, (D9, LCg.lst zs) :: (tl ++ x.rest), x.d, x.oR, x.rows, x.oK, x.oN⟩ _ G' ok2 nl nvs [] nk (rs2 _ hnl) n0 t0 hz0 hnz hun (by assumption) rfl rfl num tn rfl fx D9 rfl rfl (News.sub N5 (by rw [← hNL]; regstrif_slice)) fd b1 b2 sv lv ys zs _ parts (rs2 _ hfx) (rs2 _ hfd) hsv (hL.mono rs2) (hys.mono fun _ _ h => seen_mono rs2 h) List.mem_cons_self (hz.mono fun _ _ h => shown_mono (fun p hp => List.mem_cons_of_mem _ hp) h) hlen hcl hok ?_
    exact fun h' tk m' news' F' N' => end_ h' tk m' news' F' N'
end
end
section
local macro_rules | `(tactic| walk_at "IDLE") => `(tactic| skip)
local macro_rules | `(tactic| walk_at "compareOp IsNot ref ref") => `(tactic| refine Hold.out ?_)
local macro_rules | `(tactic| walk_at "execs cons") => `(tactic| with_reducible refine hold_for ?_)
local macro_rules | `(tactic| walk_at "execs cons") => `(tactic| with_reducible refine hold_if ?_)
local macro_rules | `(tactic| walk_at "execs cons") => `(tactic| with_reducible refine hold_lc ?_)

section

set_option maxRecDepth 100000 in
set_option maxHeartbeats 8000000 in
theorem phaseH (w : World) (mean : ExcName → Option Value) (mg mb : Str → Option Value) (h₀ : Heap) (L a : Addr) (cd : Value) (s : Shared) (Q : Flow → Shared → Prop) (E : Value → Shared → Prop) (c : Cfg) (C S rw dk : Addr) (oD oW : Obj) (x : Lx) (m : Str → Option Value)
    (G : Gr w mean mg mb h₀ L a cd E) (ok : LOb w c L C S rw dk oD oW x) (nl : Addr) (nvs : List Value) (nk : Nat) (hnl : (nl, listOf nvs.toArray nk) ∈ x.rest) (n0 : Str) (t0 : Tok) (hz0 : nvs[(0 : Int).toNat]? = some (.str n0 t0)) (hnz : nvs.length ≤ 20) (hun : n0 ∈ uni2)
    (F : Fr h₀ L s.heap m) (hm : m (Str.ofString "lisp") = some (.ref c.wA)) (hmn : m (Str.ofString "names_own") = some (.ref nl)) (num : Int) (tn : Tok) (hmu : m (Str.ofString "number") = some (.int num tn)) (ld : Addr) (hmd : m (Str.ofString "data") = some (.ref ld)) (N : News h₀ L s.heap (lawL c L C S rw oD oW x))
    (ds : List Value) (kd : Nat) (parts : List Part) (hld : (ld, listOf ds.toArray kd) ∈ x.imm) (hds : All2 (InAt w x.imm) ds parts)
    (hlen : parts.length ≤ 10) (hcl : ∀ p ∈ parts, (codesOf p).length ≤ 1000) (hok : ∀ p ∈ parts, symOk p = true) (end_ : Ends h₀ L s Q) : Rest w 8 h₀ L a cd s Q E := by
  have : PySem.Challenge.rw_ok0061_01 = PySem.Challenge.rw_ok0061_01 ∧ hdz.heap_1 = hdz.heap_1 := by
    k_fill
    exact ⟨rfl, rfl⟩
  clear this
  have G' := G
  obtain ⟨B, X, T, hE⟩ := G
  replace F := fr_pin F hmu
  replace F := fr_pin F (m := fun y => if y = Str.ofString "number" then some (.int num tn) else m y) (k := Str.ofString "names_own") hmn
  replace F := fr_pin F (m := fun y => if y = Str.ofString "names_own" then some (.ref nl) else if y = Str.ofString "number" then some (.int num tn) else m y) (k := Str.ofString "lisp") hm
  replace F := fr_pin F (m := fun y => if y = Str.ofString "lisp" then some (.ref c.wA) else if y = Str.ofString "names_own" then some (.ref nl) else if y = Str.ofString "number" then some (.int num tn) else m y) (k := Str.ofString "data") hmd
  have hoff := ok.offc
  have rsub : ∀ p ∈ x.rest, p ∈ mutL c x.σ ++ ((ownL L C S rw x ++ cellL L oD oW) ++ x.rest) := fun p hp => List.mem_append_right _ (List.mem_append_right _ hp)
  have hS0 := error_ok w c x.σ x.imm (ownL L C S rw x ++ cellL L oD oW) x.rest n0 t0 ld ds kd parts hun (ok.hs _ hld) hds hlen ok.H ok.hs hoff
  have N0 : News h₀ L s.heap (mutL c x.σ ++ ((ownL L C S rw x ++ cellL L oD oW) ++ x.rest)) := N
  clear N
  generalize hNL : mutL c x.σ ++ ((ownL L C S rw x ++ cellL L oD oW) ++ x.rest) = NL at N0 rsub
  have k3 := rsub _ hnl
  (unfold Rest lawE; generalize hb : lawBody.drop 8 = bd; (conv at hb => lhs; whnf); subst hb; generalize hb : lawScope = bd; (conv at hb => lhs; whnf); (dsimp only at hb); subst hb)
  k_steps
  unfold Hold
  refine step_use hS0 (by assumption) (by assumption) (by assumption) N0 (by rw [← hNL]; exact fun _ h => h) (by assumption) hoff rfl (by ktr_room) (by ktr_units) ?_
  intro v1 σ1 imm1 rest1 h1 tk1 F1 N1 M1 off1 hv1
  (refine el_EEEEEEE (hv1) ?_; (try clear hv1); rintro fx fd b1 b2 sv lv ys hcy; refine el_AAAAA (hcy) ?_; clear hcy; rintro rfl hfx hfd hsv hL hys)
  have ok2 := ok.move (σ' := σ1) (imm' := imm1) (rest' := rest1) (d' := x.d) (oR' := x.oR) (rows' := x.rows) (oK' := x.oK) (oN' := x.oN) M1.H M1.hs (M1.G.2.2.2.trans ok.X) M1.subr (fun p hp => (M1.fresh p hp).imp id fun h q hq => h q hq) ok.dOk ok.cK ok.cN
  have N2 : News h₀ L h1 (lawL c L C S rw oD oW ⟨σ1, imm1, rest1, x.d, x.oR, x.rows, x.oK, x.oN⟩) := N1
  clear N1 k3
  generalize hNM : lawL c L C S rw oD oW ⟨σ1, imm1, rest1, x.d, x.oR, x.rows, x.oK, x.oN⟩ = NM at N2
  k_steps
  unfold Hold
  refine phaseI w mean mg mb h₀ L a cd _ Q E c C S rw dk oD oW ⟨σ1, imm1, rest1, x.d, x.oR, x.rows, x.oK, x.oN⟩ _ G' ok2 nl nvs nk (M1.subr _ hnl) n0 t0 hz0 hnz hun (by assumption) rfl rfl num tn rfl fx ld rfl rfl (by rw [hNM]; assumption) fd b1 b2 sv lv ys ds kd parts (M1.hs _ hfx) (M1.hs _ hfd) hsv (hL.mono M1.hs) (hys.mono fun _ _ h => seen_mono M1.hs h) (M1.subr _ (ok.hs _ hld)) (hds.mono fun _ _ h => in_mono (fun p hp => M1.subr p (ok.hs p hp)) h) hlen hcl hok ?_
  exact fun h' tk m' news' F' N' => end_ h' tk m' news' F' N'
end
end
section
local macro_rules | `(tactic| walk_at "IDLE") => `(tactic| skip)
local macro_rules | `(tactic| walk_at "compareOp IsNot ref ref") => `(tactic| refine Hold.out ?_)
local macro_rules | `(tactic| walk_at "execs cons") => `(tactic| with_reducible refine hold_for ?_)
local macro_rules | `(tactic| walk_at "execs cons") => `(tactic| with_reducible refine hold_if ?_)
local macro_rules | `(tactic| walk_at "execs cons") => `(tactic| with_reducible refine hold_lc ?_)
local macro_rules | `(tactic| walk_at "execs cons") => `(tactic| with_reducible refine hold_ca ?_)

section

theorem namesG {h₀ h : Heap} {L l3 l3a l2 l1 la : Addr} {u : Str} {t t2 tn : Tok} {k num : Int} {r : List (Addr × Obj)} (N : News h₀ L h ((l3, listOf #[.ref l3a] 0) :: (l3a, listOf #[] 0) :: (l2, listOf #[] 0) :: (l1, listOf #[.str u t, .ref la, .int num tn, .ref 81] 0) :: (la, listOf #[.int k t2, .int num tn] 0) :: r)) :
    ∃ t' t2', News h₀ L h ((l3, listOf #[.ref l3a] 0) :: (l3a, listOf #[] 0) :: (l2, listOf #[] 0) :: (l1, listOf #[.str u t', .ref la, .int num tn, .ref 81] 0) :: (la, listOf #[.int k t2', .int num tn] 0) :: r) := ⟨_, _, N⟩
theorem namesH {h₀ h : Heap} {L lo l1 l2 l3 l4 a2 : Addr} {u : Str} {t t2 : Tok} {k : Int} {r : List (Addr × Obj)} (N : News h₀ L h ((lo, listOf #[.ref l1, .ref l2, .ref l3, .ref l4] 0) :: (l4, listOf #[.ref a2, .str u t, .int k t2] 0) :: r)) :
    ∃ t' t2', News h₀ L h ((lo, listOf #[.ref l1, .ref l2, .ref l3, .ref l4] 0) :: (l4, listOf #[.ref a2, .str u t', .int k t2'] 0) :: r) := ⟨_, _, N⟩
set_option maxRecDepth 100000 in
set_option maxHeartbeats 8000000 in
theorem phaseG (w : World) (mean : ExcName → Option Value) (mg mb : Str → Option Value) (h₀ : Heap) (L a : Addr) (cd : Value) (s : Shared) (Q : Flow → Shared → Prop) (E : Value → Shared → Prop) (c : Cfg) (C S rw dk : Addr) (oD oW : Obj) (x : Lx) (m : Str → Option Value)
    (G : Gr w mean mg mb h₀ L a cd E) (ok : LOk w c L C S rw dk oD oW x) (n : Nat) (hn : n ≤ 6) (R : LR n x) (nl : Addr) (nvs : List Value) (nss : List Str) (nk : Nat) (hnl : (nl, listOf nvs.toArray nk) ∈ x.rest) (hnS : StrsAre nvs nss) (hnP : nss.Perm (x.rows.map (·.1))) (F : Fr h₀ L s.heap m) (hm : m (Str.ofString "lisp") = some (.ref c.wA)) (hmn : m (Str.ofString "names_own") = some (.ref nl)) (N : News h₀ L s.heap (lawL c L C S rw oD oW x)) (end_ : Ends h₀ L s Q) : Rest w 6 h₀ L a cd s Q E := by
  have : PySem.Challenge.rw_ok0061_01 = PySem.Challenge.rw_ok0061_01 ∧ hdz.heap_1 = hdz.heap_1 := by
    k_fill
    exact ⟨rfl, rfl⟩
  clear this
  have G' := G
  obtain ⟨B, X, T, hE⟩ := G
  have hrl : x.rows.length ≤ 15 ∧ 1 ≤ x.rows.length := by
    have h1 := congrArg List.length R.rowsK
    have h2 := congrArg List.length R.Dn
    simp [std5, ownNames] at h1 h2
    omega
  have hnl1 : nss.length = x.rows.length := by rw [hnP.length_eq, List.length_map]
  have hnl2 := strs_length hnS
  obtain ⟨hku, hkd⟩ := R.uni hn
  (refine el_EEA (str_at hnS (r := 0) (by omega) (by omega)) ?_; rintro n0 t0 hz0 hn0m)
  have hun : n0 ∈ uni2 := hku n0 (hnP.mem_iff.mp hn0m)
  (refine el_AA (ok.toLOb.drawC) ?_; rintro offC offS hCS)
  have N2 : News h₀ L s.heap (dkL C S x.d ++ drawR c L rw oD oW x) := News.sub N (by regstrif_slice)
  have cD := ok.cD
  have dOk := ok.dOk
  obtain ⟨dw, u1, u2, u3, u4, u5, u6, u7, u8, u9, u10, _, _, _, _, _, _, _, m1, m2, _⟩ := ok.H.facts ok.hs
  generalize hRD : drawR c L rw oD oW x = RD at offC offS N2
  have mL1 : (L + 1, oD) ∈ RD := by rw [← hRD]; (first | regstrif_fact | simp)
  have mdk : (dk, listOf #[.ref C, .ref S] 0) ∈ RD := by rw [← hRD]; (first | regstrif_fact | simp [ok.mdk])
  have mw1 : (c.wA, instObj 518 dw) ∈ RD := by rw [← hRD]; (first | regstrif_fact | simp [m1])
  have mw2 := (by rw [← hRD]; simp only [List.mem_cons, List.mem_append]; exact .inr (.inr (.inr (.inr (.inr (.inr m2))))) : (dw, _) ∈ RD)
  replace F := fr_pin F hmn
  replace F := fr_pin F (m := fun y => if y = Str.ofString "names_own" then some (.ref nl) else m y) (k := Str.ofString "lisp") hm
  clear N m1 m2
  (unfold Rest lawE; generalize hb : lawBody.drop 6 = bd; (conv at hb => lhs; whnf); subst hb; generalize hb : lawScope = bd; (conv at hb => lhs; whnf); (dsimp only at hb); subst hb)
  refine wpAny_execs_cons ?_
  k_steps
  unfold Hold
  refine draw_use (draw_ok w dk C S 0 x.d 90 _ RD mdk hCS offC offS dOk (by omega) (by omega)) (by assumption) (by assumption) (by assumption) (by assumption) (by assumption) rfl (by ktr_room) (by ktr_units) ?_
  intro d4 num tn h4 tk4 nlo nhi dOk4 F4 N4
  clear N2
  have mL2 := List.mem_append_right (dkL C S d4) mL1
  have mw3 := List.mem_append_right (dkL C S d4) mw1
  have mw4 := List.mem_append_right (dkL C S d4) mw2
  generalize hR1 : dkL C S d4 ++ RD = R1 at N4 mL2 mw3 mw4
  k_steps
  unfold Hold
  rename_i la _ _ l1 _ _ l2 _ _ l3a _ _ l3 _ _ _ _
  obtain ⟨ta, tb, N5⟩ := namesG ‹News h₀ L _ ((_, listOf #[.ref _] 0) :: (_, listOf #[] 0) :: (_, listOf #[] 0) :: _ :: _ :: R1)›
  have g1 := ‹∀ p ∈ R1, p.1 < la›
  have g2 := ‹@LT.lt Nat _ la l1 ∧ AllLt l1 R1›
  have g3 := ‹@LT.lt Nat _ l1 l2 ∧ @LT.lt Nat _ la l2 ∧ AllLt l2 R1›
  have g4 := ‹@LT.lt Nat _ l2 l3a ∧ @LT.lt Nat _ l1 l3a ∧ @LT.lt Nat _ la l3a ∧ AllLt l3a R1›
  have g5 := ‹@LT.lt Nat _ l3a l3 ∧ @LT.lt Nat _ l2 l3 ∧ @LT.lt Nat _ l1 l3 ∧ @LT.lt Nat _ la l3 ∧ AllLt l3 R1›
  obtain ⟨TL, hTL⟩ : ∃ TL : List (Addr × Obj), TL = [(l3, listOf #[.ref l3a] 0), (l3a, listOf #[] 0), (l2, listOf #[] 0), (l1, listOf #[.str (Str.ofString "ab") ta, .ref la, .int num tn, .ref 81] 0), (la, listOf #[.int 97 tb, .int num tn] 0)] := ⟨_, rfl⟩
  have hlt : ∀ p ∈ TL, ∀ q ∈ R1, @LT.lt Nat _ q.1 p.1 := fun p hp q hq => by
    rw [hTL] at hp
    simp only [List.mem_cons, List.not_mem_nil, or_false] at hp
    rcases hp with rfl | rfl | rfl | rfl | rfl
    · exact AllLt.mem g5.2.2.2.2 q hq
    · exact AllLt.mem g4.2.2.2 q hq
    · exact AllLt.mem g3.2.2 q hq
    · exact AllLt.mem g2.2 q hq
    · exact g1 q hq
  have j3 : (l3, listOf #[.ref l3a] 0) ∈ TL := by rw [hTL]; (first | regstrif_fact | simp)
  have j3a : (l3a, listOf #[] 0) ∈ TL := by rw [hTL]; (first | regstrif_fact | simp)
  have j2 : (l2, listOf #[] 0) ∈ TL := by rw [hTL]; (first | regstrif_fact | simp)
  have j1 : (l1, listOf #[.str (Str.ofString "ab") ta, .ref la, .int num tn, .ref 81] 0) ∈ TL := by rw [hTL]; (first | regstrif_fact | simp)
  have ja : (la, listOf #[.int 97 tb, .int num tn] 0) ∈ TL := by rw [hTL]; (first | regstrif_fact | simp)
  replace N5 : News h₀ L _ (TL ++ R1) := News.sub N5 (by rw [hTL]; exact fun _ h => h)
  clear hTL g1 g2 g3 g4 g5 mw1 mw2 mw3 mw4 mL2
  have ok4 := ok.dk dOk4
  have inR1 : ∀ q ∈ lawL c L C S rw oD oW { x with d := d4 }, q ∈ R1 := by rw [← hR1, ← hRD]; regstrif_slice
  have off4 := ok4.toLOb.offc
  have hoffT : Off c ((TL ++ (ownL L C S rw { x with d := d4 } ++ cellL L oD oW)) ++ x.rest) := by
    rw [List.append_assoc]
    refine ⟨fun p hp => ?_, fun p hp => ?_, fun p hp => ?_⟩
    · rcases List.mem_append.mp hp with hp | hp
      · exact Nat.ne_of_gt (hlt p hp (c.N, x.σ.oN) (inR1 _ (by (first | regstrif_fact | simp [lawL, mutL]))))
      · exact off4.1 p hp
    · rcases List.mem_append.mp hp with hp | hp
      · exact Nat.ne_of_gt (hlt p hp (c.R, listOf (x.σ.ks.map (·.2)).toArray x.σ.n) (inR1 _ (by (first | regstrif_fact | simp [lawL, mutL]))))
      · exact off4.2.1 p hp
    · rcases List.mem_append.mp hp with hp | hp
      · exact Nat.ne_of_gt (hlt p hp (c.P, x.σ.oP) (inR1 _ (by (first | regstrif_fact | simp [lawL, mutL]))))
      · exact off4.2.2 p hp
  refine sym_use (symbol_ok w c x.σ x.imm (TL ++ (ownL L C S rw { x with d := d4 } ++ cellL L oD oW)) x.rest (Str.ofString "x") _ (by decide) ok.H ok.hs hoffT) (by decide) (by decide) (by assumption) (by assumption) (by assumption) N5 (by rw [← hR1, ← hRD]; regstrif_slice) (by assumption) hoffT rfl (by ktr_room) (by ktr_units) ?_
  intro a2 i2 σ2 imm2 rest2 h2 tk2 F2 N6 M2 off2 hv2 hi2 hsym2
  have ok2 : LOb w c L C S rw dk oD oW ⟨σ2, imm2, rest2, d4, x.oR, x.rows, x.oK, x.oN⟩ := (ok4.step M2 (by regstrif_slice)).toLOb
  (refine el_AA (ok2.drawC) ?_; rintro offC2 offS2 _)
  have hT2 : ∀ p ∈ TL, ∀ q ∈ lawL c L C S rw oD oW ⟨σ2, imm2, rest2, d4, x.oR, x.rows, x.oK, x.oN⟩, @Ne Nat q.1 p.1 := fun p hp q hq => by
    rcases lawL_addr (x := { x with d := d4 }) hq with hq | ⟨o, ho⟩
    · exact M2.off (a := p.1) (o := p.2) (List.mem_append_left _ hp) (fun r hr => Nat.ne_of_lt (hlt p hp r (inR1 r (by (first | regstrif_fact | exact sub_p hr (by regstrif_slice) | simp [lawL, hr]))))) q hq
    · exact Nat.ne_of_lt (hlt p hp (q.1, o) (inR1 _ ho))
  have mD2 : (L + 1, oD) ∈ mutL c σ2 ++ ((TL ++ (ownL L C S rw { x with d := d4 } ++ cellL L oD oW)) ++ rest2) := by (first | regstrif_fact | simp [cellL])
  have inR2 : ∀ q ∈ mutL c σ2 ++ ((TL ++ (ownL L C S rw { x with d := d4 } ++ cellL L oD oW)) ++ rest2), q ∈ mutL c σ2 ++ ((TL ++ (ownL L C S rw { x with d := d4 } ++ cellL L oD oW)) ++ rest2) := fun _ h => h
  generalize hR2 : mutL c σ2 ++ ((TL ++ (ownL L C S rw { x with d := d4 } ++ cellL L oD oW)) ++ rest2) = R2 at N6 mD2
  k_steps
  unfold Hold
  rename_i l4 _ _ lo _ _ _ _
  obtain ⟨tc, td, N7⟩ := namesH ‹News h₀ L _ ((_, listOf #[.ref l1, .ref l2, .ref l3, .ref _] 0) :: _ :: R2)›
  have f1 := ‹∀ p ∈ R2, p.1 < l4›
  have f2 := ‹@LT.lt Nat _ l4 lo ∧ AllLt lo R2›
  have inL2 : ∀ q ∈ lawL c L C S rw oD oW ⟨σ2, imm2, rest2, d4, x.oR, x.rows, x.oK, x.oN⟩, q ∈ R2 := by rw [← hR2]; regstrif_slice
  have inD2 : ∀ q ∈ TL ++ drawR c L rw oD oW ⟨σ2, imm2, rest2, d4, x.oR, x.rows, x.oK, x.oN⟩, q ∈ R2 := by rw [← hR2]; regstrif_slice
  have qC := inL2 (C, listOf d4.vs.toArray d4.kc) (by (first | regstrif_fact | simp [lawL]))
  have qS := inL2 (S, listOf #[.int d4.sd d4.ts] d4.ks) (by (first | regstrif_fact | simp [lawL]))
  obtain ⟨RD2, hRD2⟩ : ∃ RD2 : List (Addr × Obj), RD2 = (lo, listOf #[.ref l1, .ref l2, .ref l3, .ref l4] 0) :: (l4, listOf #[.ref a2, .str (Str.ofString "") tc, .int (0 - num) td] 0) :: (TL ++ drawR c L rw oD oW ⟨σ2, imm2, rest2, d4, x.oR, x.rows, x.oK, x.oN⟩) := ⟨_, rfl⟩
  have c1 : ∀ p ∈ RD2, p.1 ≠ C := by
    rw [hRD2]
    refine ne_cons2 (Nat.ne_of_gt (AllLt.mem f2.2 _ qC)) (ne_cons2 (Nat.ne_of_gt (f1 _ qC)) fun p hp => ?_)
    rcases List.mem_append.mp hp with hp | hp
    · exact Ne.symm (hT2 p hp (C, listOf d4.vs.toArray d4.kc) (by (first | regstrif_fact | simp [lawL])))
    · exact offC2 p hp
  have c2 : ∀ p ∈ RD2, p.1 ≠ S := by
    rw [hRD2]
    refine ne_cons2 (Nat.ne_of_gt (AllLt.mem f2.2 _ qS)) (ne_cons2 (Nat.ne_of_gt (f1 _ qS)) fun p hp => ?_)
    rcases List.mem_append.mp hp with hp | hp
    · exact Ne.symm (hT2 p hp (S, listOf #[.int d4.sd d4.ts] d4.ks) (by (first | regstrif_fact | simp [lawL])))
    · exact offS2 p hp
  refine draw_use (draw_ok w dk C S 0 d4 4 _ RD2 (by rw [hRD2]; (first | regstrif_fact | simp [ok2.mdk])) hCS c1 c2 dOk4 (by omega) (by omega)) (by assumption) (by assumption) (by assumption) (News.sub N7 (by rw [hRD2, ← hR2]; regstrif_slice)) (by assumption) rfl (by ktr_room) (by ktr_units) ?_
  intro d8 r8 t8 h8 tk8 r8lo r8hi dOk8 F8 N8
  obtain ⟨TL7, hTL7⟩ : ∃ TL7 : List (Addr × Obj), TL7 = (lo, listOf #[.ref l1, .ref l2, .ref l3, .ref l4] 0) :: (l4, listOf #[.ref a2, .str (Str.ofString "") tc, .int (0 - num) td] 0) :: TL := ⟨_, rfl⟩
  have mo : (lo, listOf #[.ref l1, .ref l2, .ref l3, .ref l4] 0) ∈ dkL C S d8 ++ RD2 := by rw [hRD2]; (first | regstrif_fact | simp)
  have hN9 : ∀ p ∈ lawL c L C S rw oD oW ⟨σ2, TL7 ++ imm2, TL7 ++ rest2, d8, x.oR, x.rows, x.oK, x.oN⟩, p ∈ dkL C S d8 ++ RD2 := by rw [hRD2, hTL7]; regstrif_slice
  have i4 : (l4, listOf #[.ref a2, .str (Str.ofString "") tc, .int (0 - num) td] 0) ∈ TL7 := by rw [hTL7]; (first | regstrif_fact | simp)
  have iT : ∀ p ∈ TL, p ∈ TL7 := fun p hp => by rw [hTL7]; (first | regstrif_fact | simp [hp])
  have ok8 : LOb w c L C S rw dk oD oW ⟨σ2, TL7 ++ imm2, TL7 ++ rest2, d8, x.oR, x.rows, x.oK, x.oN⟩ := ok2.move (ok2.H.mono fun p hp => List.mem_append_right _ hp) (fun p hp => by
    rcases List.mem_append.mp hp with h | h
    · exact List.mem_append_left _ h
    · exact List.mem_append_right _ (ok2.hs p h)) ok2.X (fun p hp => List.mem_append_right _ hp) (fun p hp => by
    rcases List.mem_append.mp hp with h | h
    · refine .inr fun q hq => ?_
      rw [hTL7] at h
      rcases List.mem_cons.mp h with rfl | h
      · exact Nat.ne_of_lt (AllLt.mem f2.2 q (inL2 q hq))
      rcases List.mem_cons.mp h with rfl | h
      · exact Nat.ne_of_lt (f1 q (inL2 q hq))
      · exact hT2 p h q hq
    · exact .inl h) dOk8 ok2.cK ok2.cN
  generalize hR9 : dkL C S d8 ++ RD2 = R9 at N8 mo hN9
  clear N7 hR2 inR2 off2 hoffT off4 ok4 offC offS mL1 mdk
  rcases (by omega : r8 = 0 ∨ r8 = 1 ∨ r8 = 2 ∨ r8 = 3) with rfl | rfl | rfl | rfl
  · have hz9 : [Value.ref l1, .ref l2, .ref l3, .ref l4][(0 : Int).toNat]? = some (.ref l1) := rfl
    k_steps
    unfold Hold
    refine phaseH w mean mg mb h₀ L a cd _ Q E c C S rw dk oD oW ⟨σ2, TL7 ++ imm2, TL7 ++ rest2, d8, x.oR, x.rows, x.oK, x.oN⟩ _ G' ok8 nl nvs nk (List.mem_append_right _ (M2.subr _ hnl)) n0 t0 hz0 (by omega) hun (by assumption) rfl rfl num tn rfl l1 rfl (News.sub (by assumption) hN9) [.str (Str.ofString "ab") ta, .ref la, .int num tn, .ref 81] 0 [.str (Str.ofString "ab"), .lst [97, num], .int num, .sym (Str.ofString "t")] (List.mem_append_left _ (iT _ j1)) (.cons ⟨⟨ta, rfl⟩, by decide +kernel, by decide +kernel⟩ (.cons ⟨la, [.int 97 tb, .int num tn], 0, rfl, List.mem_append_left _ (iT _ ja), .cons _ _ (.cons _ _ .nil), by simp⟩ (.cons ⟨tn, rfl⟩ (.cons (.inl ⟨rfl, rfl⟩) .nil)))) (by (first | regstrif_fact | simp)) ?_ ?_ ?_
    · intro p hp
      simp only [List.mem_cons, List.not_mem_nil, or_false] at hp
      rcases hp with rfl | rfl | rfl | rfl <;> simp [codesOf] <;> decide
    · intro p hp
      simp only [List.mem_cons, List.not_mem_nil, or_false] at hp
      rcases hp with rfl | rfl | rfl | rfl <;> (first | rfl | decide +kernel)
    · exact fun h' tk m' news' F' N' => end_ h' tk m' news' F' N'
  · have hz9 : [Value.ref l1, .ref l2, .ref l3, .ref l4][(1 : Int).toNat]? = some (.ref l2) := rfl
    k_steps
    unfold Hold
    refine phaseH w mean mg mb h₀ L a cd _ Q E c C S rw dk oD oW ⟨σ2, TL7 ++ imm2, TL7 ++ rest2, d8, x.oR, x.rows, x.oK, x.oN⟩ _ G' ok8 nl nvs nk (List.mem_append_right _ (M2.subr _ hnl)) n0 t0 hz0 (by omega) hun (by assumption) rfl rfl num tn rfl l2 rfl (News.sub (by assumption) hN9) [] 0 [] (List.mem_append_left _ (iT _ j2)) .nil (by (first | regstrif_fact | simp)) ?_ ?_ ?_
    · exact fun _ h => nomatch h
    · exact fun _ h => nomatch h
    · exact fun h' tk m' news' F' N' => end_ h' tk m' news' F' N'
  · have hz9 : [Value.ref l1, .ref l2, .ref l3, .ref l4][(2 : Int).toNat]? = some (.ref l3) := rfl
    k_steps
    unfold Hold
    refine phaseH w mean mg mb h₀ L a cd _ Q E c C S rw dk oD oW ⟨σ2, TL7 ++ imm2, TL7 ++ rest2, d8, x.oR, x.rows, x.oK, x.oN⟩ _ G' ok8 nl nvs nk (List.mem_append_right _ (M2.subr _ hnl)) n0 t0 hz0 (by omega) hun (by assumption) rfl rfl num tn rfl l3 rfl (News.sub (by assumption) hN9) [.ref l3a] 0 [.lst []] (List.mem_append_left _ (iT _ j3)) (.cons ⟨l3a, [], 0, rfl, List.mem_append_left _ (iT _ j3a), .nil, by simp⟩ .nil) (by (first | regstrif_fact | simp)) ?_ ?_ ?_
    · intro p hp
      simp only [List.mem_cons, List.not_mem_nil, or_false] at hp
      subst hp; simp [codesOf]
    · intro p hp
      simp only [List.mem_cons, List.not_mem_nil, or_false] at hp
      subst hp; rfl
    · exact fun h' tk m' news' F' N' => end_ h' tk m' news' F' N'
  · have hz9 : [Value.ref l1, .ref l2, .ref l3, .ref l4][(3 : Int).toNat]? = some (.ref l4) := rfl
    k_steps
    unfold Hold
    refine phaseH w mean mg mb h₀ L a cd _ Q E c C S rw dk oD oW ⟨σ2, TL7 ++ imm2, TL7 ++ rest2, d8, x.oR, x.rows, x.oK, x.oN⟩ _ G' ok8 nl nvs nk (List.mem_append_right _ (M2.subr _ hnl)) n0 t0 hz0 (by omega) hun (by assumption) rfl rfl num tn rfl l4 rfl (News.sub (by assumption) hN9) [.ref a2, .str (Str.ofString "") tc, .int (0 - num) td] 0 [.sym (Str.ofString "x"), .str (Str.ofString ""), .int (0 - num)] (List.mem_append_left _ i4) (.cons (.inr ⟨a2, i2, rfl, by decide, hsym2.mono fun p hp => List.mem_append_right _ hp⟩) (.cons ⟨⟨tc, rfl⟩, by decide +kernel, by decide +kernel⟩ (.cons ⟨td, rfl⟩ .nil))) (by (first | regstrif_fact | simp)) ?_ ?_ ?_
    · intro p hp
      simp only [List.mem_cons, List.not_mem_nil, or_false] at hp
      rcases hp with rfl | rfl | rfl <;> simp [codesOf] <;> decide
    · intro p hp
      simp only [List.mem_cons, List.not_mem_nil, or_false] at hp
      rcases hp with rfl | rfl | rfl <;> (first | rfl | decide +kernel)
    · exact fun h' tk m' news' F' N' => end_ h' tk m' news' F' N'
end
end
section
local macro_rules | `(tactic| walk_at "execs cons") => `(tactic| with_reducible refine hold_for ?_)

section

theorem wants_mono {w : World} {imm imm' : List (Addr × Obj)} (k : ∀ p ∈ imm, p ∈ imm') {v : Value} {taken : List Str} (h : Wants w imm v taken) : Wants w imm' v taken := by
  rcases h with ⟨s, h, e⟩ | h | ⟨xs, n, t, h, a⟩ | ⟨xs, h, h2, h3, h4⟩
  · exact .inl ⟨s, h.mono k, e⟩
  · exact .inr (.inl h)
  · exact .inr (.inr (.inl ⟨xs, n, t, h.mono k, a⟩))
  · exact .inr (.inr (.inr ⟨xs, h.mono k, h2, h3, h4.mono k⟩))
theorem due_eq {D : List (Str × List Str)} {nm : Str} {taken : List Str} (h : (taken.any fun x => x == Str.ofString "t") = false) : (taken.any fun s => takes D s nm) = !(taken.filter fun x => decide (x ∈ condsOf D nm)).isEmpty := by
  induction taken with
  | nil => rfl
  | cons a r ih =>
    simp only [List.any_cons, Bool.or_eq_false_iff] at h
    have h1 : a ≠ Str.ofString "t" := fun e => by rw [e] at h; simp at h
    rw [List.any_cons, ih h.2, List.filter_cons]
    by_cases k : a ∈ condsOf D nm
    · simp [takes, k]
    · simp [takes, k, h1]
theorem due_t {D : List (Str × List Str)} {nm : Str} {taken : List Str} (h : (taken.any fun x => x == Str.ofString "t") = true) : (taken.any fun s => takes D s nm) = true := by
  (refine el_EA (List.any_eq_true.mp h) ?_; rintro x hx e)
  exact List.any_eq_true.mpr ⟨x, hx, by simp [takes, eq_of_beq e]⟩
theorem keep_t {l acc : List Str} {i : Nat} {s : Str} (e : l[i]? = some s) (h : (acc.any fun x => x == s) = true) : (l.take (i + 1)).filter (fun x => decide (x ∈ acc)) = (l.take i).filter (fun x => decide (x ∈ acc)) ++ [s] := by
  have hm : s ∈ acc := by
    (refine el_EA (List.any_eq_true.mp h) ?_; rintro x hx hs)
    exact eq_of_beq hs ▸ hx
  rw [List.take_add_one, e, Option.toList_some, List.filter_append]
  (first | regstrif_fact | simp [hm])
theorem keep_f {l acc : List Str} {i : Nat} {s : Str} (e : l[i]? = some s) (h : (acc.any fun x => x == s) = false) : (l.take (i + 1)).filter (fun x => decide (x ∈ acc)) = (l.take i).filter (fun x => decide (x ∈ acc)) := by
  have hm : s ∉ acc := fun hm => by
    have : (acc.any fun x => x == s) = true := List.any_eq_true.mpr ⟨s, hm, by simp⟩
    rw [h] at this; cases this
  rw [List.take_add_one, e, Option.toList_some, List.filter_append]
  (first | regstrif_fact | simp [hm])
set_option maxRecDepth 100000 in
set_option maxHeartbeats 8000000 in
theorem turnF (w : World) (mean : ExcName → Option Value) (mg mb : Str → Option Value) (h₀ : Heap) (L a : Addr) (cd : Value) (s : Shared) (Q : Flow → Shared → Prop) (E : Value → Shared → Prop) (c : Cfg) (C S rw dk : Addr) (oD oW : Obj) (x : Lx) (m : Str → Option Value)
    (G : Gr w mean mg mb h₀ L a cd E) (ok : LOk w c L C S rw dk oD oW x) (I : Addr) (oI : Obj) (n : Nat) (hn : n ≤ 6) (R : LR n x) (nl : Addr) (nvs : List Value) (nss : List Str) (nk : Nat) (hnl : (nl, listOf nvs.toArray nk) ∈ x.rest) (hnS : StrsAre nvs nss) (hnP : nss.Perm (x.rows.map (·.1))) (F : Fr h₀ L s.heap m) (hm : m (Str.ofString "lisp") = some (.ref c.wA)) (hmn : m (Str.ofString "names_own") = some (.ref nl)) (N : News h₀ L s.heap ((I, oI) :: lawL c L C S rw oD oW x)) (offI : ∀ p ∈ lawL c L C S rw oD oW x, p.1 ≠ I)
    (fin : ∀ h' tk m' x', Fr h₀ L h' m' → (∀ z, z ∉ [Str.ofString "each", Str.ofString "wanted", Str.ofString "taken", Str.ofString "due"] → m' z = m z) → News h₀ L h' ((I, oI) :: lawL c L C S rw oD oW x') → (∀ p ∈ lawL c L C S rw oD oW x', p.1 ≠ I) → LOk w c L C S rw dk oD oW x' → LR n x' → (nl, listOf nvs.toArray nk) ∈ x'.rest → x'.rows = x.rows → Q .next { s with heap := h', toks := tk }) :
    wpAny (model PySem.Challenge.rw_ok0061_01.row.prog w) (callerA.deeper (lawE L a cd)) (execs (lawFor 5) (lawE L a cd)) Q E s := by
  have : PySem.Challenge.rw_ok0061_01 = PySem.Challenge.rw_ok0061_01 ∧ hdz.heap_1 = hdz.heap_1 := by
    k_fill
    exact ⟨rfl, rfl⟩
  clear this
  obtain ⟨B, X, T, hE⟩ := G
  (refine el_AA (ok.toLOb.drawC) ?_; rintro oC0 oS0 hCS)
  have hIC : @Ne Nat I C := Ne.symm (offI (C, listOf x.d.vs.toArray x.d.kc) (by (first | regstrif_fact | simp)))
  have hIS : @Ne Nat I S := Ne.symm (offI (S, listOf #[.int x.d.sd x.d.ts] x.d.ks) (by (first | regstrif_fact | simp)))
  obtain ⟨FR, hFR⟩ : ∃ FR, FR = (I, oI) :: (L + 1 + 1 + 1 + 1, x.oK) :: (L + 1 + 1 + 1, x.oN) :: (rw, x.oR) :: cellL L oD oW := ⟨_, rfl⟩
  have oC : ∀ p ∈ mutL c x.σ ++ (FR ++ x.rest), p.1 ≠ C := fun p hp => by
    have h : p ∈ (I, oI) :: drawR c L rw oD oW x := by rw [hFR] at hp; revert p; regstrif_slice
    exact ne_cons2 hIC oC0 p h
  have oS : ∀ p ∈ mutL c x.σ ++ (FR ++ x.rest), p.1 ≠ S := fun p hp => by
    have h : p ∈ (I, oI) :: drawR c L rw oD oW x := by rw [hFR] at hp; revert p; regstrif_slice
    exact ne_cons2 hIS oS0 p h
  have hofI : Off c ((I, oI) :: (ownL L C S rw x ++ cellL L oD oW ++ x.rest)) := Off.cons (Ne.symm (offI (c.N, x.σ.oN) (by (first | regstrif_fact | simp [lawL, mutL])))) (Ne.symm (offI (c.R, listOf (x.σ.ks.map (·.2)).toArray x.σ.n) (by (first | regstrif_fact | simp [lawL, mutL])))) (Ne.symm (offI (c.P, x.σ.oP) (by (first | regstrif_fact | simp [lawL, mutL])))) ok.toLOb.offc
  have hoff : Off c (FR ++ x.rest) := hofI.sub (by rw [hFR]; regstrif_slice)
  have hrl : x.rows.length ≤ 15 ∧ 1 ≤ x.rows.length := by
    have h1 := congrArg List.length R.rowsK
    have h2 := congrArg List.length R.Dn
    simp [std5, ownNames] at h1 h2
    omega
  have hnl1 : nss.length = x.rows.length := by rw [hnP.length_eq, List.length_map]
  obtain ⟨hku, hkd⟩ := R.uni hn
  have N2 : News h₀ L s.heap (mutL c x.σ ++ ((dkL C S x.d ++ FR) ++ x.rest)) := News.sub N (by rw [hFR]; regstrif_slice)
  have cD := ok.cD
  replace F := fr_pin F hmn
  replace F := fr_pin F (m := fun y => if y = Str.ofString "names_own" then some (.ref nl) else m y) (k := Str.ofString "lisp") hm
  clear N
  have hW0 := wanted_ok w c x.σ x.imm FR x.rest dk C S nl x.d nvs nss nk ok.mdk hnl hnS (by omega) (by omega) (fun s hs => hku s (hnP.mem_iff.mp hs)) ok.dOk hCS oC oS ok.H ok.hs hoff
  have mD : (L + 1, oD) ∈ mutL c x.σ ++ ((dkL C S x.d ++ FR) ++ x.rest) := by rw [hFR]; (first | regstrif_fact | simp)
  generalize hnew : mutL c x.σ ++ ((dkL C S x.d ++ FR) ++ x.rest) = NW at N2 hW0 mD
  (unfold lawE; generalize hb : lawFor 5 = bd; (conv at hb => lhs; whnf); subst hb; generalize hb : lawScope = bd; (conv at hb => lhs; whnf); (dsimp only at hb); subst hb)
  k_steps
  unfold Hold
  refine does_use hW0 (by assumption) (by assumption) (by assumption) (by assumption) (by assumption) rfl (by ktr_room) (by ktr_units) ?_
  intro v1 nw1 h1 tk1 F1 N1 hP1
  (refine el_EEEEEEEEEE (hP1) ?_; (try clear hP1); rintro σ1 imm1 rest1 d1 tup wv lt taken tys kt hcy; refine el_AAAAAAAAA (hcy) ?_; clear hcy; rintro rfl rfl M1 dOk1 mtup hW mlt hS htk htl)
  obtain ⟨x1, hx1⟩ : ∃ x1 : Lx, x1 = ⟨σ1, imm1, rest1, d1, x.oR, x.rows, x.oK, x.oN⟩ := ⟨_, rfl⟩
  have ok1 : LOk w c L C S rw dk oD oW x1 := by rw [hx1]; exact (ok.step M1 (by rw [hFR]; regstrif_slice)).dk dOk1
  have offI1 : ∀ p ∈ lawL c L C S rw oD oW x1, p.1 ≠ I := fun p hp => by
    rcases lawL_addr (x := x) hp with hp | ⟨o, hp⟩
    · rw [hx1] at hp
      rcases M1.fresh p hp with h | h
      · exact offI p (by (first | regstrif_fact | exact sub_p h (by regstrif_slice) | simp [lawL, h]))
      · exact Ne.symm (h (I, oI) (by rw [hFR]; (first | regstrif_fact | simp)))
    · exact offI (p.1, o) hp
  have R1 : LR n x1 := ⟨by rw [hx1]; exact (by rw [M1.G.2.2.1]; exact R.rowsK), by rw [hx1]; exact (by rw [M1.G.2.2.1]; exact R.Dn)⟩
  have hr1 : x1.rows = x.rows := by rw [hx1]
  have hnl' : (nl, listOf nvs.toArray nk) ∈ x1.rest := by rw [hx1]; exact M1.subr _ hnl
  have hW1 : Wants w x1.imm wv taken := by rw [hx1]; exact hW
  have mlt1 : (lt, listOf tys.toArray kt) ∈ x1.rest := by rw [hx1]; exact mlt
  have N3 : News h₀ L h1 ((I, oI) :: lawL c L C S rw oD oW x1) := by rw [hx1]; exact News.sub N1 (by rw [hFR]; regstrif_slice)
  have mtup1 : (tup, tupOf #[wv, .ref lt] 0) ∈ (I, oI) :: lawL c L C S rw oD oW x1 := by rw [hx1]; (first | regstrif_fact | simp [mtup])
  clear hx1 N1 N2 M1 mtup hW mlt dOk1 oC oS oC0 oS0 hoff hofI hW0 hnew mD hIC hIS cD
  generalize hT : (I, oI) :: lawL c L C S rw oD oW x1 = TT at N3 mtup1
  k_steps
  unfold Hold
  refine wpAny_execs_cons ?_
  with_reducible refine For_invT h₀ ?_ ?hs ?hE
  case hs => intro _; exact rfl
  case hE => exact hE
  k_steps
  unfold Hold
  have hnlT : (nl, listOf nvs.toArray nk) ∈ TT := by rw [← hT]; simp [hnl']
  refine loop_lstT (l := nl) (its := nvs.toArray) (k := nk) [Str.ofString "due"] [] (fun i V nx => ∃ x', V = [] ∧ nx = (I, oI) :: lawL c L C S rw oD oW x' ∧ (∀ p ∈ lawL c L C S rw oD oW x', p.1 ≠ I) ∧ LOk w c L C S rw dk oD oW x' ∧ LR n x' ∧ (nl, listOf nvs.toArray nk) ∈ x'.rest ∧ (lt, listOf tys.toArray kt) ∈ x'.rest ∧ Wants w x'.imm wv taken ∧ x'.rows = x.rows) rfl hnlT (by assumption) (by assumption) (fun _ h => nomatch h) ⟨x1, rfl, hT.symm, offI1, ok1, R1, hnl', mlt1, hW1, hr1⟩ ?_ ?_ ?_
  · intro i V nx hcx; (refine el_EAAAAAA (hcx) ?_; (try clear hcx); rintro x' rfl rfl _ _ _ h _)
    (first | regstrif_fact | simp [lawL, h])
  · intro i V u news₁ h tk v I3 oI3 hv hJ offI3 F₁ N₁
    (refine el_EAAAAAAAA (hJ) ?_; (try clear hJ); rintro x2 rfl rfl offI2 ok2 R2 hnl2 mlt2 hW2 hr2)
    (refine el_EEA (strs_get hnS (by simpa using hv)) ?_; rintro nm nt rfl hnm)
    have hnk : nm ∈ x2.rows.map (·.1) := by rw [hr2]; exact hnP.mem_iff.mp (List.mem_of_getElem? hnm)
    obtain ⟨hku2, hkd2⟩ := R2.uni hn
    have hI3 : @Ne Nat I3 (L + 1 + 1 + 1) := Ne.symm (offI3 (L + 1 + 1 + 1, x2.oN) (by (first | regstrif_fact | simp)))
    have hI9 : @Ne Nat I (L + 1 + 1 + 1) := Ne.symm (offI2 (L + 1 + 1 + 1, x2.oN) (by (first | regstrif_fact | simp)))
    have q3 : ∀ p ∈ (I3, oI3) :: (I, oI) :: nameR c L C S rw oD oW x2, p.1 ≠ L + 1 + 1 + 1 := ne_cons2 hI3 (ne_cons2 hI9 ok2.toLOb.off3)
    have N2 : News h₀ L h ((L + 1 + 1 + 1, x2.oN) :: ((I3, oI3) :: (I, oI) :: nameR c L C S rw oD oW x2)) := News.sub N₁ (by regstrif_slice)
    have cW := ok2.cW
    have cD := ok2.cD
    have isR := ok2.isR
    have loR := ok2.loR
    obtain ⟨vN, cN⟩ := ok2.cN
    (refine el_EA (valueAt_key hnk) ?_; rintro rv hrv hrm)
    (refine el_EEEAA (ok2.rowsOk _ hrm) ?_; rintro lr kr rs e9 hlr hrs)
    dsimp only at e9 hrs
    subst e9
    generalize hT2 : (I3, oI3) :: (I, oI) :: nameR c L C S rw oD oW x2 = TT2 at q3 N2
    have mW : (L + 1 + 1, oW) ∈ TT2 := by rw [← hT2]; (first | regstrif_fact | simp)
    have mR : (rw, x2.oR) ∈ TT2 := by rw [← hT2]; (first | regstrif_fact | simp)
    have mlr : (lr, listOf rs.toArray kr) ∈ TT2 := by rw [← hT2]; (first | regstrif_fact | simp [hlr])
    have mlt3 : (lt, listOf tys.toArray kt) ∈ TT2 := by rw [← hT2]; (first | regstrif_fact | simp [mlt2])
    clear N₁ hI3 hI9 hnlT hT
    k_steps
    · have hA := ‹(taken.any fun x => x == Str.ofString "t") = true›
      unfold Hold
      rename_i oN9 _ _ _ _ _
      have N3 := ‹News h₀ L _ ((L + 1 + 1 + 1, _) :: TT2)›
      have cN9 := ‹oN9.data = _›
      have ok9 := ok2.name ⟨_, cN9⟩
      have hoff : Off c (((I3, oI3) :: (I, oI) :: (ownL L C S rw ⟨x2.σ, x2.imm, x2.rest, x2.d, x2.oR, x2.rows, x2.oK, oN9⟩ ++ cellL L oD oW)) ++ x2.rest) :=
        Off.cons (Ne.symm (offI3 (c.N, x2.σ.oN) (by (first | regstrif_fact | simp [lawL, mutL])))) (Ne.symm (offI3 (c.R, listOf (x2.σ.ks.map (·.2)).toArray x2.σ.n) (by (first | regstrif_fact | simp [lawL, mutL])))) (Ne.symm (offI3 (c.P, x2.σ.oP) (by (first | regstrif_fact | simp [lawL, mutL]))))
          (Off.cons (Ne.symm (offI2 (c.N, x2.σ.oN) (by (first | regstrif_fact | simp [lawL, mutL])))) (Ne.symm (offI2 (c.R, listOf (x2.σ.ks.map (·.2)).toArray x2.σ.n) (by (first | regstrif_fact | simp [lawL, mutL])))) (Ne.symm (offI2 (c.P, x2.σ.oP) (by (first | regstrif_fact | simp [lawL, mutL])))) ok9.toLOb.offc)
      refine step_use (handled_ok w c x2.σ x2.imm ((I3, oI3) :: (I, oI) :: (ownL L C S rw ⟨x2.σ, x2.imm, x2.rest, x2.d, x2.oR, x2.rows, x2.oK, oN9⟩ ++ cellL L oD oW)) x2.rest wv taken nm _ (hku2 nm hnk) ok2.X (hkd2 nm hnk) ok2.H ok2.hs hoff hW2) (by assumption) (by assumption) (by assumption) N3 (by rw [← hT2]; regstrif_slice) (by assumption) hoff rfl (by ktr_room) (by ktr_units) ?_
      intro v2 σ2 imm2 rest2 h2 tk2 F2 N2' M2 off2 hv2
      have ok3 := ok9.step M2 (by regstrif_slice)
      subst hv2
      rw [due_t hA]
      simp only [hA] at F2
      k_steps
      refine TurnEnd.next (news' := (I, oI) :: lawL c L C S rw oD oW ⟨σ2, imm2, rest2, x2.d, x2.oR, x2.rows, x2.oK, oN9⟩) (by assumption) (News.sub (by assumption) (by regstrif_slice)) ?_ (JV.intro [] ⟨_, rfl, rfl, ?_, ok3, ⟨by rw [M2.G.2.2.1]; exact R2.rowsK, by rw [M2.G.2.2.1]; exact R2.Dn⟩, M2.subr _ hnl2, M2.subr _ mlt2, wants_mono M2.sub hW2, hr2⟩ (fun _ h => nomatch h) fun z _ hz => ?_)
      · intro p hp
        rcases List.mem_cons.mp hp with rfl | hp
        · exact offI3 (I, oI) (by (first | regstrif_fact | simp))
        rcases lawL_addr (x := x2) hp with hp | ⟨o, hp⟩
        · rcases M2.fresh p hp with h | h
          · exact offI3 p (by (first | regstrif_fact | exact sub_p h (by regstrif_slice) | simp [lawL, h]))
          · exact Ne.symm (h (I3, oI3) (by (first | regstrif_fact | simp)))
        · exact offI3 (p.1, o) (by (first | regstrif_fact | (simp only [List.mem_cons]; exact .inr hp)))
      · intro p hp
        rcases lawL_addr (x := x2) hp with hp | ⟨o, hp⟩
        · rcases M2.fresh p hp with h | h
          · exact offI2 p (by (first | regstrif_fact | exact sub_p h (by regstrif_slice) | simp [lawL, h]))
          · exact Ne.symm (h (I, oI) (by (first | regstrif_fact | simp)))
        · exact offI2 (p.1, o) hp
      · simp only [List.mem_singleton] at hz
        simp only [if_neg hz, frM, setM, List.mem_singleton]
    · have hA := ‹(taken.any fun x => x == Str.ofString "t") = false›
      unfold Hold
      rename_i oN9 _ _ _ _
      have N3 := ‹News h₀ L _ ((L + 1 + 1 + 1, _) :: TT2)›
      have cN9 := ‹oN9.data = _›
      (refine el_AA (conds_good ok2.H (hkd2 nm hnk)) ?_; rintro cg1 cg2 cg3)
      have cgl := uni2_len cg2 cg3
      have hrsl := strs_length hrs
      have htyl := strs_length hS
      refine LCt.ListComp_T (F₀ := by k_asm) (by with_unfolding_all rfl) (by decide) (by rfl) (by decide) (by rfl) ?_
      k_steps
      unfold Hold
      refine comp_T (ax := lt) (its := tys.toArray) (k := kt) (fun n us nx => nx = (L + 1 + 1 + 1, oN9) :: TT2 ∧ StrsAre us ((taken.take n).filter (fun x => decide (x ∈ condsOf x2.σ.D nm)))) rfl (by assumption) N3 (by (first | regstrif_fact | (simp only [List.mem_cons]; exact .inr mlt3))) (by rw [sizeLine_eq]; simp only [List.size_toArray]; omega) ⟨rfl, .nil⟩ ?_ ?_
      · intro n v us nx I5 oI5 C5 oC5 D5 m₂ h tk E' hv hJ hC hx F N o ne
        obtain ⟨rfl, hus⟩ := hJ
        (refine el_EEA (strs_get hS (by simpa using hv)) ?_; rintro sn st rfl hsn)
        k_steps
        · exact LCg.CompEnd.intro (by assumption) (by assumption) _ (fun p hp => hp) o (.inr ⟨listOf tys.toArray kt, by simp only [List.mem_cons]; exact .inr mlt3, rfl, _, rfl⟩) ⟨rfl, by rw [keep_t hsn (by assumption)]; exact strs_snoc hus _ _⟩
        · exact LCg.CompEnd.intro (by assumption) (by assumption) _ (fun p hp => hp) o (.inr ⟨listOf tys.toArray kt, by simp only [List.mem_cons]; exact .inr mlt3, rfl, _, rfl⟩) ⟨rfl, by rw [keep_f hsn (by assumption)]; exact hus⟩
      intro g us nx hJ
      obtain ⟨rfl, hus⟩ := hJ
      have e9 : tys.toArray.size = taken.length := by simpa using htyl
      rw [e9, List.take_length] at hus
      k_steps
      unfold Hold
      rename_i D9 _ _ _ _ _ _ _ _
      have N9 := ‹News h₀ L _ ((_, _) :: (_, LCg.lst us) :: _)›
      refine ne_str_nil (xs := us) ⟨_, (N9 _ (List.mem_cons_of_mem _ List.mem_cons_self)).1, rfl, _, rfl⟩ ⟨listOf #[] 0, (N9 _ List.mem_cons_self).1, rfl, _, rfl⟩ hus (fun s hs => cg3 s (by simpa using (List.mem_filter.mp hs).2)) (by simp only [units_in1, units_deeper, Around.mark_units, units_caller]; decide) ?_
      have N3 : News h₀ L _ ((L + 1 + 1 + 1, oN9) :: TT2) := News.sub N9 (by regstrif_slice)
      clear N9
      rw [← due_eq hA]
      k_steps
      unfold Hold
      have N3 := ‹News h₀ L _ ((L + 1 + 1 + 1, oN9) :: TT2)›
      have ok9 := ok2.name ⟨_, cN9⟩
      have hoff : Off c (((I3, oI3) :: (I, oI) :: (ownL L C S rw ⟨x2.σ, x2.imm, x2.rest, x2.d, x2.oR, x2.rows, x2.oK, oN9⟩ ++ cellL L oD oW)) ++ x2.rest) :=
        Off.cons (Ne.symm (offI3 (c.N, x2.σ.oN) (by (first | regstrif_fact | simp [lawL, mutL])))) (Ne.symm (offI3 (c.R, listOf (x2.σ.ks.map (·.2)).toArray x2.σ.n) (by (first | regstrif_fact | simp [lawL, mutL])))) (Ne.symm (offI3 (c.P, x2.σ.oP) (by (first | regstrif_fact | simp [lawL, mutL]))))
          (Off.cons (Ne.symm (offI2 (c.N, x2.σ.oN) (by (first | regstrif_fact | simp [lawL, mutL])))) (Ne.symm (offI2 (c.R, listOf (x2.σ.ks.map (·.2)).toArray x2.σ.n) (by (first | regstrif_fact | simp [lawL, mutL])))) (Ne.symm (offI2 (c.P, x2.σ.oP) (by (first | regstrif_fact | simp [lawL, mutL])))) ok9.toLOb.offc)
      refine step_use (handled_ok w c x2.σ x2.imm ((I3, oI3) :: (I, oI) :: (ownL L C S rw ⟨x2.σ, x2.imm, x2.rest, x2.d, x2.oR, x2.rows, x2.oK, oN9⟩ ++ cellL L oD oW)) x2.rest wv taken nm _ (hku2 nm hnk) ok2.X (hkd2 nm hnk) ok2.H ok2.hs hoff hW2) (by assumption) (by assumption) (by assumption) N3 (by rw [← hT2]; regstrif_slice) (by assumption) hoff rfl (by ktr_room) (by ktr_units) ?_
      intro v2 σ2 imm2 rest2 h2 tk2 F2 N2' M2 off2 hv2
      have ok3 := ok9.step M2 (by regstrif_slice)
      subst hv2
      generalize hB : (taken.any fun s => takes x2.σ.D s nm) = b at F2 ⊢
      rcases b with _ | _
      all_goals clear hB
      all_goals (
        k_steps
        refine TurnEnd.next (news' := (I, oI) :: lawL c L C S rw oD oW ⟨σ2, imm2, rest2, x2.d, x2.oR, x2.rows, x2.oK, oN9⟩) (by assumption) (News.sub (by assumption) (by regstrif_slice)) ?_ (JV.intro [] ⟨_, rfl, rfl, ?_, ok3, ⟨by rw [M2.G.2.2.1]; exact R2.rowsK, by rw [M2.G.2.2.1]; exact R2.Dn⟩, M2.subr _ hnl2, M2.subr _ mlt2, wants_mono M2.sub hW2, hr2⟩ (fun _ h => nomatch h) fun z _ hz => ?_)
        · intro p hp
          rcases List.mem_cons.mp hp with rfl | hp
          · exact offI3 (I, oI) (by (first | regstrif_fact | simp))
          rcases lawL_addr (x := x2) hp with hp | ⟨o, hp⟩
          · rcases M2.fresh p hp with h | h
            · exact offI3 p (by (first | regstrif_fact | exact sub_p h (by regstrif_slice) | simp [lawL, h]))
            · exact Ne.symm (h (I3, oI3) (by (first | regstrif_fact | simp)))
          · exact offI3 (p.1, o) (by (first | regstrif_fact | (simp only [List.mem_cons]; exact .inr hp)))
        · intro p hp
          rcases lawL_addr (x := x2) hp with hp | ⟨o, hp⟩
          · rcases M2.fresh p hp with h | h
            · exact offI2 p (by (first | regstrif_fact | exact sub_p h (by regstrif_slice) | simp [lawL, h]))
            · exact Ne.symm (h (I, oI) (by (first | regstrif_fact | simp)))
          · exact offI2 (p.1, o) hp
        · simp only [List.mem_singleton] at hz
          simp only [if_neg hz, frM, setM, List.mem_singleton])
  · intro V u news₁ h tk hJ F₁ N₁
    (refine el_EAAAAAAAA (hJ) ?_; (try clear hJ); rintro x2 rfl rfl offI2 ok2 R2 hnl2 mlt2 hW2 hr2)
    k_steps
    refine fin _ _ _ x2 F₁ (fun z hz => ?_) N₁ offI2 ok2 R2 hnl2 hr2
    simp only [List.mem_cons, List.not_mem_nil, or_false, not_or] at hz
    simp only [frM, setM, hz, List.mem_cons, List.not_mem_nil, or_false, if_false, or_self]
    by_cases z1 : z = Str.ofString "lisp"
    · rw [if_pos z1, z1, hm]
    · by_cases z2 : z = Str.ofString "names_own"
      · rw [if_neg z1, if_pos z2, z2, hmn]
      · rw [if_neg z1, if_neg z2]
set_option maxRecDepth 100000 in
set_option maxHeartbeats 8000000 in
theorem phaseF (w : World) (mean : ExcName → Option Value) (mg mb : Str → Option Value) (h₀ : Heap) (L a : Addr) (cd : Value) (s : Shared) (Q : Flow → Shared → Prop) (E : Value → Shared → Prop) (c : Cfg) (C S rw dk : Addr) (oD oW : Obj) (x : Lx) (m : Str → Option Value)
    (G : Gr w mean mg mb h₀ L a cd E) (ok : LOk w c L C S rw dk oD oW x) (n : Nat) (hn : n ≤ 6) (R : LR n x) (nl : Addr) (nvs : List Value) (nss : List Str) (nk : Nat) (hnl : (nl, listOf nvs.toArray nk) ∈ x.rest) (hnS : StrsAre nvs nss) (hnP : nss.Perm (x.rows.map (·.1))) (F : Fr h₀ L s.heap m) (hm : m (Str.ofString "lisp") = some (.ref c.wA)) (hmn : m (Str.ofString "names_own") = some (.ref nl)) (N : News h₀ L s.heap (lawL c L C S rw oD oW x)) (end_ : Ends h₀ L s Q) : Rest w 5 h₀ L a cd s Q E := by
  have : PySem.Challenge.rw_ok0061_01 = PySem.Challenge.rw_ok0061_01 ∧ hdz.heap_1 = hdz.heap_1 := by
    k_fill
    exact ⟨rfl, rfl⟩
  clear this
  have G' := G
  obtain ⟨B, X, T, hE⟩ := G
  replace F := fr_pin F hmn
  replace F := fr_pin F (m := fun y => if y = Str.ofString "names_own" then some (.ref nl) else m y) (k := Str.ofString "lisp") hm
  generalize hT : lawL c L C S rw oD oW x = TT at N
  (unfold Rest lawE; generalize hb : lawBody.drop 5 = bd; (conv at hb => lhs; whnf); subst hb; generalize hb : lawScope = bd; (conv at hb => lhs; whnf); (dsimp only at hb); subst hb)
  refine wpAny_execs_cons ?_
  with_reducible refine For_invV h₀ ?hx ?hp ?hm ?hs ?hE
  case hx => exact rfl
  case hp => exact rfl
  case hs => intro _; exact rfl
  case hE => exact hE
  k_steps
  unfold Hold
  refine loop_rng (a := 0) (b := 4) (c := 1) (n := 4) [Str.ofString "each", Str.ofString "wanted", Str.ofString "taken", Str.ofString "due"] [] (fun i V nx => ∃ x', V = [] ∧ nx = lawL c L C S rw oD oW x' ∧ LOk w c L C S rw dk oD oW x' ∧ LR n x' ∧ (nl, listOf nvs.toArray nk) ∈ x'.rest ∧ x'.rows = x.rows) (news := TT) rfl (by assumption) (by decide) (by decide) (by assumption) (by assumption) (fun _ h => nomatch h) ⟨x, rfl, hT.symm, ok, R, hnl, rfl⟩ ?_ ?_
  · intro i V u news₁ h tk t I oI hi hJ offI F₁ N₁
    (refine el_EAAAAA (hJ) ?_; (try clear hJ); rintro x' rfl rfl ok' R' hnl' hr')
    refine turnF w mean mg mb h₀ L a cd _ _ E c C S rw dk oD oW x' _ G' ok' I oI n hn R' nl nvs nss nk hnl' hnS (by rw [hr']; exact hnP) F₁ ?_ ?_ N₁ offI ?_
    · rfl
    · rfl
    · intro h' tk' m' x'' F' hz N' offI' ok'' R'' hnl'' hr''
      refine TurnEnd.next F' N' offI' (JV.intro [] ⟨x'', rfl, rfl, ok'', R'', hnl'', hr''.trans hr'⟩ (fun _ h => nomatch h) fun z _ hz' => ?_)
      rw [hz z hz']
      have h1 : z ≠ Str.ofString "each" := fun e => hz' (by simp [e])
      show (if z = Str.ofString "each" then _ else (if z ∈ [Str.ofString "each", Str.ofString "wanted", Str.ofString "taken", Str.ofString "due"] then _ else _)) = _
      rw [if_neg h1, if_neg hz']
  · intro V u news₁ h tk hJ F₁ N₁
    (refine el_EAAAAA (hJ) ?_; (try clear hJ); rintro x' rfl rfl ok' R' hnl' hr')
    dsimp only
    refine phaseG w mean mg mb h₀ L a cd _ Q E c C S rw dk oD oW x' _ G' ok' n hn R' nl nvs nss nk hnl' hnS (by rw [hr']; exact hnP) F₁ rfl rfl N₁ ?_
    exact fun h' tk m' news' F' N' => end_ h' tk m' news' F' N'
end
end
section
local macro_rules | `(tactic| walk_at "IDLE") => `(tactic| skip)
local macro_rules | `(tactic| walk_at "execs cons") => `(tactic| with_reducible refine hold_for ?_)

section

set_option maxRecDepth 100000 in
set_option maxHeartbeats 8000000 in
theorem phaseE (w : World) (mean : ExcName → Option Value) (mg mb : Str → Option Value) (h₀ : Heap) (L a : Addr) (cd : Value) (s : Shared) (Q : Flow → Shared → Prop) (E : Value → Shared → Prop) (c : Cfg) (C S rw dk : Addr) (oD oW : Obj) (x : Lx) (m : Str → Option Value)
    (G : Gr w mean mg mb h₀ L a cd E) (ok : LOk w c L C S rw dk oD oW x) (n : Nat) (hn : n ≤ 6) (R : LR n x) (nl : Addr) (nvs : List Value) (nss : List Str) (nk : Nat) (hnl : (nl, listOf nvs.toArray nk) ∈ x.rest) (hnS : StrsAre nvs nss) (hnP : nss.Perm (x.rows.map (·.1))) (F : Fr h₀ L s.heap m) (hm : m (Str.ofString "lisp") = some (.ref c.wA)) (hmn : m (Str.ofString "names_own") = some (.ref nl)) (N : News h₀ L s.heap (lawL c L C S rw oD oW x)) (end_ : Ends h₀ L s Q) : Rest w 4 h₀ L a cd s Q E := by
  have : PySem.Challenge.rw_ok0061_01 = PySem.Challenge.rw_ok0061_01 ∧ hdz.heap_1 = hdz.heap_1 := by
    k_fill
    exact ⟨rfl, rfl⟩
  clear this
  have G' := G
  obtain ⟨B, X, T, hE⟩ := G
  replace F := fr_pin F hmn
  replace F := fr_pin F (m := fun y => if y = Str.ofString "names_own" then some (.ref nl) else m y) (k := Str.ofString "lisp") hm
  (unfold Rest lawE; generalize hb : lawBody.drop 4 = bd; (conv at hb => lhs; whnf); subst hb; generalize hb : lawScope = bd; (conv at hb => lhs; whnf); (dsimp only at hb); subst hb)
  refine wpAny_execs_cons ?_
  with_reducible refine For_invT h₀ ?_ ?hs ?hE
  case hs => intro _; exact rfl
  case hE => exact hE
  k_steps
  unfold Hold
  refine loop_lstT (l := nl) (its := nvs.toArray) (k := nk) [] [] (fun i V nx => ∃ x', V = [] ∧ nx = lawL c L C S rw oD oW x' ∧ LOk w c L C S rw dk oD oW x' ∧ LR n x' ∧ (nl, listOf nvs.toArray nk) ∈ x'.rest ∧ x'.rows = x.rows) rfl (by (first | regstrif_fact | exact sub_p hnl (by regstrif_slice) | simp [lawL, hnl])) (by assumption) N (fun _ h => nomatch h) ⟨x, rfl, rfl, ok, R, hnl, rfl⟩ ?_ ?_ ?_
  · intro i V nx hcx; (refine el_EAAAAA (hcx) ?_; (try clear hcx); rintro x' rfl rfl _ _ h _)
    (first | regstrif_fact | simp [lawL, h])
  · intro i V u news₁ h tk v I oI hv hJ offI F₁ N₁
    (refine el_EAAAAA (hJ) ?_; (try clear hJ); rintro x' rfl rfl ok' R' hnl' hrows)
    (refine el_EEA (strs_get hnS (by simpa using hv)) ?_; rintro nm nt rfl hnm)
    have hnk : nm ∈ x'.rows.map (·.1) := by rw [hrows]; exact hnP.mem_iff.mp (List.mem_of_getElem? hnm)
    obtain ⟨hku, hkd⟩ := R'.uni hn
    have hI3 : @Ne Nat I (L + 1 + 1 + 1) := Ne.symm (offI (L + 1 + 1 + 1, x'.oN) (by (first | regstrif_fact | simp)))
    have q3 : ∀ p ∈ (I, oI) :: nameR c L C S rw oD oW x', p.1 ≠ L + 1 + 1 + 1 := ne_cons2 hI3 ok'.toLOb.off3
    have N2 : News h₀ L h ((L + 1 + 1 + 1, x'.oN) :: ((I, oI) :: nameR c L C S rw oD oW x')) := News.sub N₁ (by regstrif_slice)
    have cW := ok'.cW
    have cD := ok'.cD
    have isR := ok'.isR
    have loR := ok'.loR
    obtain ⟨vN, cN⟩ := ok'.cN
    (refine el_EA (valueAt_key hnk) ?_; rintro rv hrv hrm)
    (refine el_EEEAA (ok'.rowsOk _ hrm) ?_; rintro lr kr rs e9 hlr hrs)
    dsimp only at e9 hrs
    subst e9
    generalize hT : (I, oI) :: nameR c L C S rw oD oW x' = TT at q3 N2
    have mW : (L + 1 + 1, oW) ∈ TT := by rw [← hT]; (first | regstrif_fact | simp)
    have mR : (rw, x'.oR) ∈ TT := by rw [← hT]; (first | regstrif_fact | simp)
    have mlr : (lr, listOf rs.toArray kr) ∈ TT := by rw [← hT]; (first | regstrif_fact | simp [hlr])
    clear N₁ N F hI3
    k_steps
    unfold Hold
    rename_i oN9 _ _ _
    have N3 := ‹News h₀ L _ ((L + 1 + 1 + 1, _) :: TT)›
    have cN9 := ‹oN9.data = _›
    have ok9 := ok'.name ⟨_, cN9⟩
    have hoff : Off c (((I, oI) :: (ownL L C S rw ⟨x'.σ, x'.imm, x'.rest, x'.d, x'.oR, x'.rows, x'.oK, oN9⟩ ++ cellL L oD oW)) ++ x'.rest) :=
      Off.cons (Ne.symm (offI (c.N, x'.σ.oN) (by (first | regstrif_fact | simp [lawL, mutL])))) (Ne.symm (offI (c.R, listOf (x'.σ.ks.map (·.2)).toArray x'.σ.n) (by (first | regstrif_fact | simp [lawL, mutL])))) (Ne.symm (offI (c.P, x'.σ.oP) (by (first | regstrif_fact | simp [lawL, mutL])))) ok9.toLOb.offc
    refine step_use (conditions_ok w c x'.σ x'.imm ((I, oI) :: (ownL L C S rw ⟨x'.σ, x'.imm, x'.rest, x'.d, x'.oR, x'.rows, x'.oK, oN9⟩ ++ cellL L oD oW)) x'.rest nm _ (hku nm hnk) ok'.X (hkd nm hnk) ok'.H ok'.hs hoff) (by assumption) (by assumption) (by assumption) (News.sub N3 (by rw [← hT]; regstrif_slice)) (fun _ h => h) (by assumption) hoff rfl (by ktr_room) (by ktr_units) ?_
    intro v2 σ2 imm2 rest2 h2 tk2 F2 N2' M2 off2 hv2
    (refine el_EEEAA (hv2) ?_; (try clear hv2); rintro l2 k2 ys2 rfl hl2 hys2)
    have ok2 := ok9.step M2 (by regstrif_slice)
    clear N3 q3 mW mR mlr hT
    have N4 : News h₀ L h2 ((I, oI) :: (rw, x'.oR) :: (L + 1 + 1 + 1, oN9) :: (L + 1 + 1, oW) :: ((L + 1 + 1 + 1 + 1, x'.oK) :: (L + 1, oD) :: (dkL C S x'.d ++ (mutL c σ2 ++ rest2)))) := News.sub N2' (by regstrif_slice)
    have mlr2 : (lr, listOf rs.toArray kr) ∈ ((L + 1 + 1 + 1 + 1, x'.oK) :: (L + 1, oD) :: (dkL C S x'.d ++ (mutL c σ2 ++ rest2))) := by simp [M2.subr _ hlr]
    have ml2 : (l2, listOf ys2.toArray k2) ∈ ((L + 1 + 1 + 1 + 1, x'.oK) :: (L + 1, oD) :: (dkL C S x'.d ++ (mutL c σ2 ++ rest2))) := by simp [M2.hs _ hl2]
    generalize hT : ((L + 1 + 1 + 1 + 1, x'.oK) :: (L + 1, oD) :: (dkL C S x'.d ++ (mutL c σ2 ++ rest2))) = TT2 at N4 mlr2 ml2
    clear N2'
    k_steps
    unfold Hold
    (refine el_AA (conds_good ok'.H (hkd nm hnk)) ?_; rintro cg1 cg2 cg3)
    refine ne_strs (xs := ys2) (ys := rs) ⟨_, (N4 _ (by simp only [List.mem_cons]; exact .inr (.inr (.inr (.inr ml2))))).1, rfl, _, rfl⟩ ⟨_, (N4 _ (by simp only [List.mem_cons]; exact .inr (.inr (.inr (.inr mlr2))))).1, rfl, _, rfl⟩ hys2 hrs cg3 (by simp only [units_in1, units_deeper, Around.mark_units, units_caller]; decide) ?_
    k_steps
    refine TurnEnd.next (news' := lawL c L C S rw oD oW ⟨σ2, imm2, rest2, x'.d, x'.oR, x'.rows, x'.oK, oN9⟩) (by assumption) (News.sub (by assumption) (by rw [← hT]; regstrif_slice)) ?_ (JV.intro [] ⟨_, rfl, rfl, ok2, ⟨by rw [M2.G.2.2.1]; exact R'.rowsK, by rw [M2.G.2.2.1]; exact R'.Dn⟩, M2.subr _ hnl', hrows⟩ (fun _ h => nomatch h) fun z _ _ => rfl)
    intro p hp
    rcases lawL_addr (x := x') hp with hp | ⟨o, hp⟩
    · rcases M2.fresh p hp with h | h
      · exact offI p (by (first | regstrif_fact | exact sub_p h (by regstrif_slice) | simp [lawL, h]))
      · have : @Ne Nat I p.1 := h (I, oI) (by (first | regstrif_fact | simp))
        exact Ne.symm this
    · exact offI (p.1, o) hp
  · intro V u news₁ h tk hJ F₁ N₁
    (refine el_EAAAAA (hJ) ?_; (try clear hJ); rintro x' rfl rfl ok' R' hnl' hrows)
    dsimp only
    refine phaseF w mean mg mb h₀ L a cd _ Q E c C S rw dk oD oW x' _ G' ok' n hn R' nl nvs nss nk hnl' hnS (by rw [hrows]; exact hnP) F₁ rfl rfl N₁ ?_
    exact fun h' tk m' news' F' N' => end_ h' tk m' news' F' N'
set_option maxRecDepth 100000 in
set_option maxHeartbeats 8000000 in
theorem phaseD (w : World) (mean : ExcName → Option Value) (mg mb : Str → Option Value) (h₀ : Heap) (L a : Addr) (cd : Value) (s : Shared) (Q : Flow → Shared → Prop) (E : Value → Shared → Prop) (c : Cfg) (C S rw dk : Addr) (oD oW : Obj) (x : Lx) (m : Str → Option Value)
    (G : Gr w mean mg mb h₀ L a cd E) (ok : LOk w c L C S rw dk oD oW x) (n : Nat) (hn : n ≤ 6) (R : LR n x) (F : Fr h₀ L s.heap m) (hm : m (Str.ofString "lisp") = some (.ref c.wA)) (N : News h₀ L s.heap (lawL c L C S rw oD oW x)) (end_ : Ends h₀ L s Q) : Rest w 3 h₀ L a cd s Q E := by
  have : PySem.Challenge.rw_ok0061_01 = PySem.Challenge.rw_ok0061_01 ∧ hdz.heap_1 = hdz.heap_1 := by
    k_fill
    exact ⟨rfl, rfl⟩
  clear this
  have G' := G
  obtain ⟨B, X, T, hE⟩ := G
  have hrl : x.rows.length ≤ 15 := by
    have h1 := congrArg List.length R.rowsK
    have h2 := congrArg List.length R.Dn
    simp [std5, ownNames] at h1 h2
    omega
  have cW := ok.cW
  have N2 : News h₀ L s.heap ((L + 1 + 1, oW) :: lawL c L C S rw oD oW x) := News.sub N (by regstrif_slice)
  clear N
  generalize hT : lawL c L C S rw oD oW x = TT at N2
  replace F := fr_pin F hm
  (unfold Rest lawE; generalize hb : lawBody.drop 3 = bd; (conv at hb => lhs; whnf); subst hb; generalize hb : lawScope = bd; (conv at hb => lhs; whnf); (dsimp only at hb); subst hb)
  k_steps
  unfold Hold
  refine does_use (names_ok w rw x.oR x.rows _ ?_ ok.isR ok.loR (by omega)) (by assumption) (by assumption) (by assumption) (by assumption) (by assumption) rfl (by ktr_room) (by ktr_units) ?_
  · rw [← hT]; (first | regstrif_fact | simp)
  intro v1 nw1 h1 tk1 F1 N1 hP1
  (refine el_EEEEAAAA (hP1) ?_; (try clear hP1); rintro D1 vs ss k1 rfl rfl lt1 hS hPm)
  clear N2
  k_steps
  unfold Hold
  have hD1 : ∀ q ∈ lawL c L C S rw oD oW x, @Ne Nat q.1 D1 := fun q hq => Nat.ne_of_lt (lt1 q (by rw [← hT]; exact List.mem_cons_of_mem _ hq))
  have ok1 := ok.move (σ' := x.σ) (imm' := x.imm) (rest' := (D1, listOf vs.toArray k1) :: x.rest) (d' := x.d) (oR' := x.oR) (rows' := x.rows) (oK' := x.oK) (oN' := x.oN) ok.H (fun p hp => List.mem_cons_of_mem _ (ok.hs p hp)) ok.X (fun p hp => List.mem_cons_of_mem _ hp)
    (fun p hp => by
      rcases List.mem_cons.mp hp with rfl | hp
      · exact .inr hD1
      · exact .inl hp) ok.dOk ok.cK ok.cN ok.isR (fun kv hkv => by
        (refine el_EEEAA (ok.rowsOk kv hkv) ?_; rintro l kk zs h1 h2 h3)
        exact ⟨l, kk, zs, h1, List.mem_cons_of_mem _ h2, h3⟩)
  refine phaseE w mean mg mb h₀ L a cd _ Q E c C S rw dk oD oW ⟨x.σ, x.imm, (D1, listOf vs.toArray k1) :: x.rest, x.d, x.oR, x.rows, x.oK, x.oN⟩ _ G' ok1 n hn ⟨R.rowsK, R.Dn⟩ D1 vs ss k1 List.mem_cons_self hS hPm (by assumption) rfl rfl (News.sub (by assumption) (by rw [← hT]; regstrif_slice)) ?_
  exact fun h' tk m' news' F' N' => end_ h' tk m' news' F' N'
end
end
section
section

set_option maxRecDepth 100000 in
set_option maxHeartbeats 8000000 in
theorem phaseC (w : World) (mean : ExcName → Option Value) (mg mb : Str → Option Value) (h₀ : Heap) (L a : Addr) (cd : Value) (s : Shared) (Q : Flow → Shared → Prop) (E : Value → Shared → Prop) (c : Cfg) (C S rw dk : Addr) (oD oW : Obj) (x : Lx) (m : Str → Option Value)
    (G : Gr w mean mg mb h₀ L a cd E) (ok : LOk w c L C S rw dk oD oW x) (R : LR 0 x) (F : Fr h₀ L s.heap m) (hm : m (Str.ofString "lisp") = some (.ref c.wA)) (N : News h₀ L s.heap (lawL c L C S rw oD oW x)) (end_ : Ends h₀ L s Q) : Rest w 2 h₀ L a cd s Q E := by
  have : PySem.Challenge.rw_ok0061_01 = PySem.Challenge.rw_ok0061_01 ∧ hdz.heap_1 = hdz.heap_1 := by
    k_fill
    exact ⟨rfl, rfl⟩
  clear this
  have G' := G
  obtain ⟨B, X, T, hE⟩ := G
  (refine el_AA (ok.toLOb.drawC) ?_; rintro offC offS hCS)
  have N2 : News h₀ L s.heap (dkL C S x.d ++ drawR c L rw oD oW x) := News.sub N (by regstrif_slice)
  have cD := ok.cD
  have dOk := ok.dOk
  generalize hRD : drawR c L rw oD oW x = RD at offC offS N2
  have mL1 : (L + 1, oD) ∈ RD := by rw [← hRD]; (first | regstrif_fact | simp)
  have mdk : (dk, listOf #[.ref C, .ref S] 0) ∈ RD := by rw [← hRD]; (first | regstrif_fact | simp [ok.mdk])
  replace F := fr_pin F hm
  clear N
  (unfold Rest lawE; generalize hb : lawBody.drop 2 = bd; (conv at hb => lhs; whnf); subst hb; generalize hb : lawScope = bd; (conv at hb => lhs; whnf); (dsimp only at hb); subst hb)
  refine wpAny_execs_cons ?_
  with_reducible refine For_invV h₀ ?hx ?hp ?hm ?hs ?hE
  case hx => exact rfl
  case hp => exact rfl
  case hs => intro _; exact rfl
  case hE => exact hE
  k_steps
  unfold Hold
  refine draw_use (draw_ok w dk C S 0 x.d 6 _ RD mdk hCS offC offS dOk (by omega) (by omega)) (by assumption) (by assumption) (by assumption) (by assumption) (by assumption) rfl (by ktr_room) (by ktr_units) ?_
  intro d4 r4 t4 h4 tk4 r4lo r4hi dOk4 F4 N4
  clear N2
  k_steps
  unfold Hold
  obtain ⟨rg1, rg2⟩ := rng_up (1 + r4) (by omega) (by omega)
  refine loop_rng (a := 0) (b := 1 + r4) (c := 1) (n := (1 + r4).toNat) [Str.ofString "at", Str.ofString "parents", Str.ofString "parent"] [] (fun i V nx => ∃ x', V = [] ∧ nx = lawL c L C S rw oD oW x' ∧ LOk w c L C S rw dk oD oW x' ∧ LR i x') (news := lawL c L C S rw oD oW { x with d := d4 }) rfl (by assumption) rg1 rg2 (by assumption) (News.sub (by assumption) (by rw [← hRD]; regstrif_slice)) (fun _ h => nomatch h) ⟨{ x with d := d4 }, rfl, rfl, ok.dk dOk4, ⟨R.rowsK, R.Dn⟩⟩ ?_ ?_
  · intro i V u news₁ h tk t I oI hi hJ offI F₁ N₁
    (refine el_EAAA (hJ) ?_; (try clear hJ); rintro x' rfl rfl ok' R')
    refine turnC w mean mg mb h₀ L a cd _ _ E c C S rw dk oD oW x' _ G' ok' I oI i (by omega) t R' F₁ ?_ rfl N₁ offI ?_
    · rfl
    · intro h' tk' m' x'' F' hz N' offI' ok'' R''
      refine TurnEnd.next F' N' offI' (JV.intro [] ⟨x'', rfl, rfl, ok'', R''⟩ (fun _ h => nomatch h) fun z _ hz' => ?_)
      rw [hz z hz']
      have h1 : z ≠ Str.ofString "at" := fun e => hz' (by simp [e])
      show (if z = Str.ofString "at" then _ else (if z ∈ [Str.ofString "at", Str.ofString "parents", Str.ofString "parent"] then _ else _)) = _
      rw [if_neg h1, if_neg hz']
  · intro V u news₁ h tk hJ F₁ N₁
    (refine el_EAAA (hJ) ?_; (try clear hJ); rintro x' rfl rfl ok' R')
    dsimp only
    refine phaseD w mean mg mb h₀ L a cd _ Q E c C S rw dk oD oW x' _ G' ok' _ (by omega) R' F₁ rfl N₁ ?_
    exact fun h' tk m' news' F' N' => end_ h' tk m' news' F' N'
end
end
section
local macro_rules | `(tactic| walk_at "IDLE") => `(tactic| skip)
local macro_rules | `(tactic| walk_at "execs cons") => `(tactic| with_reducible refine hold_for ?_)
local macro_rules | `(tactic| walk_at "exec For Name Name") => `(tactic| refine Hold.out ?_)

section

def stdKV : List (Str × Value) := [(Str.ofString "error", .ref 524), (Str.ofString "quit", .ref 525), (Str.ofString "arith-error", .ref 526), (Str.ofString "overflow-error", .ref 527), (Str.ofString "nobody", .ref 528)]
set_option maxRecDepth 100000 in
theorem std_at {w : World} {h₀ : Heap} (X : (hdz.heap_1 w.params).In h₀) : h₀.DictAt (strKind PySem.Challenge.rw_ok0061_01.row.prog w) 523 stdKV 5 := by
  have : PySem.Challenge.rw_ok0061_01 = PySem.Challenge.rw_ok0061_01 ∧ hdz.heap_1 = hdz.heap_1 := by
    k_fill
    exact ⟨rfl, rfl⟩
  clear this
  have h1 := X 523 _ (by k_is)
  refine ⟨_, _, h1, ⟨rfl, rfl, rfl⟩, rfl, ?_, ?_, by decide⟩
  · intro e he
    simp only [List.mem_toArray, List.mem_cons, List.not_mem_nil, or_false] at he
    rcases he with rfl | rfl | rfl | rfl | rfl <;> exact ⟨_, strKind_is _ _ _ _, rfl⟩
  · exact .cons (strKind_is _ _ _ _) rfl (.cons (strKind_is _ _ _ _) rfl (.cons (strKind_is _ _ _ _) rfl (.cons (strKind_is _ _ _ _) rfl (.cons (strKind_is _ _ _ _) rfl .nil))))
theorem std_item {prog : Program} {w : World} {A : Around} {E : Value → Shared → Prop} {s : Shared} {h₀ : Heap} {L d : Addr} {m : Str → Option Value} {kvs : List (Str × Value)} {ep : Nat} {k : Str} {t : Tok} {v : Value} {value slice : PySem.Expr} {Q : Value → Shared → Prop} (F : Fr h₀ L s.heap m)
    (hd : h₀.DictAt (PySem.strKind prog w) d kvs ep) (hl : valueAt kvs k = some v) (h : Q v { s with toks := s.toks + 1 })
    (hs : subscripted slice false (.ref d) (.str k t) = operate [.ref d, .str k t] (getItem (.ref d) (.str k t)) := by with_unfolding_all rfl) (hg : ∀ r, letTemporaryGo value (.ref d) r = pure () := by intro _; with_unfolding_all rfl) :
    wpAny (model prog w) A (subscriptTail value slice (.ref d) (.str k t)) Q E s :=
  have hD : s.heap.DictOf (PySem.strKind prog w) d kvs := (hd.at' fun o e => F.keep d o e).dictOf
  subscriptTail_builtin hD.typeIs slot_dict_getitem.lookup (wpAny_getItem_of (strKind_is _ _ _ _) hD.mapOf hl h) hs hg
set_option maxRecDepth 100000 in
theorem std_rows {w : World} {h₀ : Heap} (X : (hdz.heap_1 w.params).In h₀) {i : Nat} {k : Str} {y : Value} (e : stdKV[i]? = some (k, y)) : ∃ a vs, y = .ref a ∧ h₀.get? a = some (listOf vs.toArray 0) ∧ StrsAre vs (stdOf k) ∧ std5[i]? = some k ∧ valueAt stdKV k = some y ∧ vs.length ≤ 10 := by
  have : PySem.Challenge.rw_ok0061_01 = PySem.Challenge.rw_ok0061_01 ∧ hdz.heap_1 = hdz.heap_1 := by
    k_fill
    exact ⟨rfl, rfl⟩
  clear this
  have h1 := X 524 _ (by k_is)
  have h2 := X 525 _ (by k_is)
  have h3 := X 526 _ (by k_is)
  have h4 := X 527 _ (by k_is)
  have h5 := X 528 _ (by k_is)
  have hi : i < 5 := (List.getElem?_eq_some_iff.mp e).1
  rcases (by decide : ∀ i < 5, i = 0 ∨ i = 1 ∨ i = 2 ∨ i = 3 ∨ i = 4) i hi with rfl | rfl | rfl | rfl | rfl <;> cases e
  · exact ⟨_, [_], rfl, h1, .cons _ _ .nil, rfl, rfl, by simp⟩
  · exact ⟨_, [_], rfl, h2, .cons _ _ .nil, rfl, rfl, by simp⟩
  · exact ⟨_, [_, _], rfl, h3, .cons _ _ (.cons _ _ .nil), rfl, rfl, by simp⟩
  · exact ⟨_, [_, _, _, _], rfl, h4, .cons _ _ (.cons _ _ (.cons _ _ (.cons _ _ .nil))), rfl, rfl, by simp⟩
  · exact ⟨_, [_], rfl, h5, .cons _ _ .nil, rfl, rfl, by simp⟩
local macro_rules | `(tactic| walk_at "subscriptTail") => `(tactic| (k_here; (with_reducible show wpAny _ _ (subscriptTail _ _ (Value.ref 523) (Value.str _ _)) _ _ _); k_dflt (refine std_item (by k_asm) (std_at (by assumption)) (by with_reducible assumption) ?_)))
theorem std_fresh {i : Nat} {k : Str} (e : std5[i]? = some k) : k ∉ std5.take i := by
  have hi : i < 5 := (List.getElem?_eq_some_iff.mp e).1
  rcases (by decide : ∀ i < 5, i = 0 ∨ i = 1 ∨ i = 2 ∨ i = 3 ∨ i = 4) i hi with rfl | rfl | rfl | rfl | rfl <;> cases e <;> decide
theorem RowAt.mono {D : List (Str × List Str)} {rest rest' : List (Addr × Obj)} {kv : Str × Value} (h : RowAt D rest kv) (k : ∀ p ∈ rest, p ∈ rest') : RowAt D rest' kv := by
  (refine el_EEEAA (h) ?_; (try clear h); rintro l kk ys h1 h2 h3)
  exact ⟨l, kk, ys, h1, k _ h2, h3⟩
set_option maxRecDepth 100000 in
set_option maxHeartbeats 8000000 in
theorem phaseB (w : World) (mean : ExcName → Option Value) (mg mb : Str → Option Value) (h₀ : Heap) (L a : Addr) (cd : Value) (s : Shared) (Q : Flow → Shared → Prop) (E : Value → Shared → Prop) (c : Cfg) (C S rw dk : Addr) (oD oW : Obj) (x : Lx) (m : Str → Option Value)
    (G : Gr w mean mg mb h₀ L a cd E) (ok : LOk w c L C S rw dk oD oW x) (hr : x.rows = []) (hD : x.σ.D = []) (F : Fr h₀ L s.heap m) (hm : m (Str.ofString "lisp") = some (.ref c.wA)) (N : News h₀ L s.heap (lawL c L C S rw oD oW x)) (end_ : Ends h₀ L s Q) : Rest w 1 h₀ L a cd s Q E := by
  have : PySem.Challenge.rw_ok0061_01 = PySem.Challenge.rw_ok0061_01 ∧ hdz.heap_1 = hdz.heap_1 := by
    k_fill
    exact ⟨rfl, rfl⟩
  clear this
  obtain ⟨B, X, T, hE⟩ := G
  (unfold Rest lawE; generalize hb : lawBody.drop 1 = bd; (conv at hb => lhs; whnf); subst hb; generalize hb : lawScope = bd; (conv at hb => lhs; whnf); (dsimp only at hb); subst hb)
  refine wpAny_execs_cons ?_
  with_reducible refine For_invT h₀ ?_ ?hs ?hE
  case hs => intro _; exact rfl
  case hE => exact hE
  k_steps
  unfold Hold
  refine loop_keysT (knd := strKind PySem.Challenge.rw_ok0061_01.row.prog w) (kvs := stdKV) [] [] (fun i V nx => ∃ x', V = [] ∧ nx = lawL c L C S rw oD oW x' ∧ LOk w c L C S rw dk oD oW x' ∧ x'.σ.D = [] ∧ x'.rows.map (·.1) = std5.take i) rfl (by decide) (std_at X) (by assumption) (by assumption) (fun _ h => nomatch h) ⟨x, rfl, rfl, ok, hD, by rw [hr]; rfl⟩ ?_ ?_
  · intro i V u news₁ h tk v I oI hv hJ offI F₁ N₁
    (refine el_EAAAA (hJ) ?_; (try clear hJ); rintro x' rfl rfl ok' hD' hr')
    (refine el_EEA (hv) ?_; (try clear hv); rintro k y hk hkv)
    obtain ⟨t, rfl⟩ := Value.isStrOf_shape hkv
    obtain ⟨⟨n1, n2, n3, n4, n5, n6, n7, n8, n9, n10, n11, n12, n13, n14, n15⟩, nb⟩ := ok'.toLOb.nds
    have offI' : ∀ p ∈ (L + 1 + 1 + 1, x'.oN) :: (rw, x'.oR) :: ((L + 1 + 1 + 1 + 1, x'.oK) :: (L + 1 + 1, oW) :: (L + 1, oD) :: (mutL c x'.σ ++ (dkL C S x'.d ++ x'.rest))), p.1 ≠ I := fun p hp => offI p (by revert p; regstrif_slice)
    have N2 : News h₀ L h ((I, oI) :: (L + 1 + 1 + 1, x'.oN) :: (rw, x'.oR) :: ((L + 1 + 1 + 1 + 1, x'.oK) :: (L + 1 + 1, oW) :: (L + 1, oD) :: (mutL c x'.σ ++ (dkL C S x'.d ++ x'.rest)))) := News.sub N₁ (by regstrif_slice)
    have q3 : ∀ p ∈ (rw, x'.oR) :: ((L + 1 + 1 + 1 + 1, x'.oK) :: (L + 1 + 1, oW) :: (L + 1, oD) :: (mutL c x'.σ ++ (dkL C S x'.d ++ x'.rest))), p.1 ≠ L + 1 + 1 + 1 := by
      (refine el_AAAAA (nb (L + 1 + 1 + 1) (by (first | regstrif_fact | simp))) ?_; rintro z1 z2 z3 z4 z5 z6)
      exact ne_cons2 (Ne.symm z3) (ne_cons2 (Nat.ne_of_gt (Nat.lt_succ_self _)) (ne_cons2 (Nat.ne_of_lt (Nat.lt_succ_self _)) (ne_cons2 (Nat.ne_of_lt (Nat.lt_succ_of_lt (Nat.lt_succ_self _))) (ne_cons2 (Ne.symm z4) (ne_cons2 (Ne.symm z5) (ne_cons2 (Ne.symm z6) (ne_cons2 (Ne.symm z1) (ne_cons2 (Ne.symm z2) (ok'.toLOb.off1 (by (first | regstrif_fact | simp)))))))))))
    have q4 : ∀ p ∈ ((L + 1 + 1 + 1 + 1, x'.oK) :: (L + 1 + 1, oW) :: (L + 1, oD) :: (mutL c x'.σ ++ (dkL C S x'.d ++ x'.rest))), p.1 ≠ rw := 
      ne_cons2 (nb (L + 1 + 1 + 1 + 1) (by (first | regstrif_fact | simp))).2.2.1 (ne_cons2 (nb (L + 1 + 1) (by (first | regstrif_fact | simp))).2.2.1 (ne_cons2 (nb (L + 1) (by (first | regstrif_fact | simp))).2.2.1 (ne_cons2 (Ne.symm n10) (ne_cons2 (Ne.symm n11) (ne_cons2 (Ne.symm n12) (ne_cons2 n1 (ne_cons2 n2 (ok'.toLOb.off1 (by (first | regstrif_fact | simp))))))))))
    have hI3 : @Ne Nat (L + 1 + 1 + 1) I := offI' (L + 1 + 1 + 1, x'.oN) (by (first | regstrif_fact | simp))
    have hIr : @Ne Nat rw I := offI' (rw, x'.oR) (by (first | regstrif_fact | simp))
    obtain ⟨vN, cN'⟩ := ok'.cN
    have cW := ok'.cW
    have cD := ok'.cD
    have isR := ok'.isR
    have loR := ok'.loR
    have hrl : x'.rows.length ≤ 100 := by
      have := congrArg List.length hr'
      simp only [List.length_map, List.length_take] at this
      have : std5.length = 5 := rfl
      omega
    have nb3' : @Ne Nat (L + 1 + 1 + 1) rw := (nb (L + 1 + 1 + 1) (by (first | regstrif_fact | simp))).2.2.1
    generalize hT : ((L + 1 + 1 + 1 + 1, x'.oK) :: (L + 1 + 1, oW) :: (L + 1, oD) :: (mutL c x'.σ ++ (dkL C S x'.d ++ x'.rest))) = TT at q3 q4 N2 offI'
    have hmW : (L + 1 + 1, oW) ∈ TT := by rw [← hT]; (first | regstrif_fact | simp)
    clear N₁ offI N F n1 n2 n3 n4 n5 n6 n7 n8 n9 n10 n11 n12 n13 n14 n15 nb
    (refine el_EEAAAAA (std_rows X hk) ?_; rintro ga gvs rfl hg hgs hgi hgv hgl)
    have hgz : gvs.toArray.size ≤ sizeLine := by rw [sizeLine_eq]; simp only [List.size_toArray]; omega
    k_steps
    rename_i oN9 _ _ _ _ D9 k9 _ _ _ _ _ oR9 _ _ _
    (refine el_AAA (‹@LT.lt Nat _ I D9 ∧ @LT.lt Nat _ (L + 1 + 1 + 1) D9 ∧ @LT.lt Nat _ rw D9 ∧ AllLt D9 TT›) ?_; rintro g1 g2 g3 g4)
    have hold : ∀ q ∈ lawL c L C S rw oD oW x', @Ne Nat q.1 D9 := by
      have h9 : ∀ q ∈ (L + 1 + 1 + 1, x'.oN) :: (rw, x'.oR) :: TT, @LT.lt Nat _ q.1 D9 := by
        intro q hq
        rcases List.mem_cons.mp hq with rfl | hq
        · exact g2
        rcases List.mem_cons.mp hq with rfl | hq
        · exact g3
        · exact AllLt.mem g4 q hq
      rw [← hT] at h9
      intro q hq
      exact Nat.ne_of_lt (h9 q (by revert q; regstrif_slice))
    have hnone : valueAt x'.rows k = none := valueAt_none fun p hp e => std_fresh hgi (by rw [← hr', ← e]; exact List.mem_map_of_mem hp)
    have isR9 := ‹Obj.IsDictOf _ oR9 _›
    rw [stored_new hnone] at isR9
    have ok9 := ok'.move (σ' := x'.σ) (imm' := x'.imm) (rest' := (D9, listOf gvs.toArray k9) :: x'.rest) (d' := x'.d) (oK' := x'.oK) ok'.H (fun p hp => List.mem_cons_of_mem _ (ok'.hs p hp)) ok'.X (fun p hp => List.mem_cons_of_mem _ hp)
      (fun p hp => by
        rcases List.mem_cons.mp hp with rfl | hp
        · exact .inr hold
        · exact .inl hp) ok'.dOk ok'.cK ⟨_, ‹oN9.data = _›⟩ isR9 (fun kv hkv => by
        rcases List.mem_append.mp hkv with h | h
        · exact (ok'.rowsOk kv h).mono fun p hp => List.mem_cons_of_mem _ hp
        · rw [List.mem_singleton.mp h]
          exact ⟨D9, k9, gvs, rfl, List.mem_cons_self, by rw [hD']; exact hgs⟩)
    refine TurnEnd.next (news' := lawL c L C S rw oD oW ⟨x'.σ, x'.imm, (D9, listOf gvs.toArray k9) :: x'.rest, x'.d, oR9, x'.rows ++ [(k, .ref D9)], x'.oK, oN9⟩) (by assumption) (News.sub (by assumption) ?_) ?_ (JV.intro [] ⟨_, rfl, rfl, ok9, hD', ?_⟩ (fun _ h => nomatch h) fun z _ _ => rfl)
    · rw [← hT]; regstrif_slice
    · intro p hp
      rw [← hT] at offI'
      have : p ∈ (D9, listOf gvs.toArray k9) :: (L + 1 + 1 + 1, oN9) :: (rw, oR9) :: (L + 1 + 1 + 1, x'.oN) :: (rw, x'.oR) :: ((L + 1 + 1 + 1 + 1, x'.oK) :: (L + 1 + 1, oW) :: (L + 1, oD) :: (mutL c x'.σ ++ (dkL C S x'.d ++ x'.rest))) := by
        revert p; regstrif_slice
      rcases (List.mem_cons.mp this).imp id (fun h => (List.mem_cons.mp h).imp id fun h => List.mem_cons.mp h) with rfl | rfl | rfl | hp
      · exact Nat.ne_of_gt g1
      · exact hI3
      · exact hIr
      · exact offI' p hp
    · show (x'.rows ++ [(k, Value.ref D9)]).map (·.1) = _
      rw [List.map_append, hr', List.take_add_one, hgi]
      rfl
  · intro V u news₁ h tk hJ F₁ N₁
    (refine el_EAAAA (hJ) ?_; (try clear hJ); rintro x' rfl rfl ok' hD' hr')
    dsimp only
    refine phaseC w mean mg mb h₀ L a cd _ Q E c C S rw dk oD oW x' _ ⟨B, X, T, hE⟩ ok' ⟨by rw [hr', hD']; rfl, by rw [hD']; rfl⟩ F₁ hm N₁ ?_
    exact fun h' tk m' news' F' N' => end_ h' tk m' news' F' N'
end
end
section
local macro_rules | `(tactic| walk_at "IDLE") => `(tactic| skip)
local macro_rules | `(tactic| walk_at "IDLE") => `(tactic| skip)
local macro_rules | `(tactic| walk_at "IDLE") => `(tactic| skip)
local macro_rules | `(tactic| walk_at "IDLE") => `(tactic| skip)
local macro_rules | `(tactic| walk_at "execs cons") => `(tactic| with_reducible refine hold_for ?_)

section

theorem lok0 {w : World} {c : Cfg} {L C S rw dk : Addr} {oD oW o1 o2 o3 o4 oR : Obj} {σ : St} {d : Dk} {rest0 : List (Addr × Obj)}
    (dOk : DkOk d) (hn1 : ∀ q ∈ [(L + 1 + 1 + 1 + 1, o4), (L + 1 + 1 + 1, o3), (L + 1 + 1, o2), (L + 1, o1)], q.1 ≠ C ∧ q.1 ≠ S ∧ q.1 ≠ dk) (hCS : @LT.lt Nat _ C S) (hSd : @LT.lt Nat _ S dk)
    (fr0 : ∀ p ∈ rest0, ∀ q ∈ dkL C S d ++ [(dk, listOf #[.ref C, .ref S] 0), (L + 1 + 1 + 1 + 1, o4), (L + 1 + 1 + 1, o3), (L + 1 + 1, o2), (L + 1, o1)], @LT.lt Nat _ q.1 p.1)
    (lt0 : ∀ q ∈ dkL C S d ++ [(dk, listOf #[.ref C, .ref S] 0), (L + 1 + 1 + 1 + 1, o4), (L + 1 + 1 + 1, o3), (L + 1 + 1, o2), (L + 1, o1)], @LT.lt Nat _ q.1 c.N ∧ @LT.lt Nat _ q.1 c.R ∧ @LT.lt Nat _ q.1 c.P) (off0 : Off c rest0) (H0 : WI w c σ rest0) (hX0 : σ.X = []) (h3 : o3.data = .cell none) (h4 : o4.data = .cell none)
    (isR : oR.IsDictOf (strKind PySem.Challenge.rw_ok0061_01.row.prog w) []) (loR : (rw == sysModules) = false) (cD : oD.data = .cell (some (.ref dk))) (cW : oW.data = .cell (some (.ref rw)))
    (hrw : @LT.lt Nat _ (L + 1) rw ∧ @LT.lt Nat _ (L + 1 + 1) rw ∧ @LT.lt Nat _ (L + 1 + 1 + 1 + 1) rw ∧ @LT.lt Nat _ (L + 1 + 1 + 1) rw ∧ @LT.lt Nat _ c.N rw ∧ @LT.lt Nat _ c.R rw ∧ @LT.lt Nat _ c.P rw ∧ @LT.lt Nat _ C rw ∧ @LT.lt Nat _ S rw ∧ @LT.lt Nat _ dk rw ∧ AllLt rw rest0) :
    LOk w c L C S rw dk oD oW ⟨σ, rest0, (dk, listOf #[.ref C, .ref S] 0) :: rest0, d, oR, [], o4, o3⟩ := by
  have c4 : @Ne Nat (L + 1 + 1 + 1 + 1) C ∧ @Ne Nat (L + 1 + 1 + 1 + 1) S ∧ @Ne Nat (L + 1 + 1 + 1 + 1) dk := hn1 (L + 1 + 1 + 1 + 1, o4) (by regstrif_fact)
  have c3 : @Ne Nat (L + 1 + 1 + 1) C ∧ @Ne Nat (L + 1 + 1 + 1) S ∧ @Ne Nat (L + 1 + 1 + 1) dk := hn1 (L + 1 + 1 + 1, o3) (by regstrif_fact)
  have c2 : @Ne Nat (L + 1 + 1) C ∧ @Ne Nat (L + 1 + 1) S ∧ @Ne Nat (L + 1 + 1) dk := hn1 (L + 1 + 1, o2) (by regstrif_fact)
  have c1 : @Ne Nat (L + 1) C ∧ @Ne Nat (L + 1) S ∧ @Ne Nat (L + 1) dk := hn1 (L + 1, o1) (by regstrif_fact)
  have l4 : @LT.lt Nat _ (L + 1 + 1 + 1 + 1) c.N ∧ @LT.lt Nat _ (L + 1 + 1 + 1 + 1) c.R ∧ @LT.lt Nat _ (L + 1 + 1 + 1 + 1) c.P := lt0 (L + 1 + 1 + 1 + 1, o4) (by regstrif_fact)
  have l3 : @LT.lt Nat _ (L + 1 + 1 + 1) c.N ∧ @LT.lt Nat _ (L + 1 + 1 + 1) c.R ∧ @LT.lt Nat _ (L + 1 + 1 + 1) c.P := lt0 (L + 1 + 1 + 1, o3) (by regstrif_fact)
  have l2 : @LT.lt Nat _ (L + 1 + 1) c.N ∧ @LT.lt Nat _ (L + 1 + 1) c.R ∧ @LT.lt Nat _ (L + 1 + 1) c.P := lt0 (L + 1 + 1, o2) (by regstrif_fact)
  have l1 : @LT.lt Nat _ (L + 1) c.N ∧ @LT.lt Nat _ (L + 1) c.R ∧ @LT.lt Nat _ (L + 1) c.P := lt0 (L + 1, o1) (by regstrif_fact)
  have l5 : @LT.lt Nat _ C c.N ∧ @LT.lt Nat _ C c.R ∧ @LT.lt Nat _ C c.P := lt0 (C, listOf d.vs.toArray d.kc) (by regstrif_fact)
  have l6 : @LT.lt Nat _ S c.N ∧ @LT.lt Nat _ S c.R ∧ @LT.lt Nat _ S c.P := lt0 (S, listOf #[.int d.sd d.ts] d.ks) (by regstrif_fact)
  have l7 : @LT.lt Nat _ dk c.N ∧ @LT.lt Nat _ dk c.R ∧ @LT.lt Nat _ dk c.P := lt0 (dk, listOf #[.ref C, .ref S] 0) (by regstrif_fact)
  (refine el_AA (H0.ne) ?_; rintro n1 n2 n3)
  (refine el_AAAAAAAAAA (hrw) ?_; (try clear hrw); rintro r1 r2 r3 r4 r5 r6 r7 r8 r9 r10 r11)
  have p12 : @LT.lt Nat _ (L + 1) (L + 1 + 1) := Nat.lt_succ_self _
  have p23 : @LT.lt Nat _ (L + 1 + 1) (L + 1 + 1 + 1) := Nat.lt_succ_self _
  have p34 : @LT.lt Nat _ (L + 1 + 1 + 1) (L + 1 + 1 + 1 + 1) := Nat.lt_succ_self _
  have p13 : @LT.lt Nat _ (L + 1) (L + 1 + 1 + 1) := Nat.lt_succ_of_lt p12
  have p24 : @LT.lt Nat _ (L + 1 + 1) (L + 1 + 1 + 1 + 1) := Nat.lt_succ_of_lt p23
  have p14 : @LT.lt Nat _ (L + 1) (L + 1 + 1 + 1 + 1) := Nat.lt_succ_of_lt p13
  exact { H := H0, hs := fun p hp => List.mem_cons_of_mem _ hp, X := hX0, dOk := dOk, mdk := List.mem_cons_self, cD := cD, cW := cW, cK := ⟨_, h4⟩, cN := ⟨_, h3⟩, isR := isR, loR := loR, nd := nd_c (all_c (Nat.ne_of_gt p34) (all_c (Nat.ne_of_gt p24) (all_c (Nat.ne_of_gt p14) (all_c (c4.1) (all_c (c4.2.1) (all_c (Nat.ne_of_lt r3) (all_c (Nat.ne_of_lt l4.1) (all_c (Nat.ne_of_lt l4.2.1) (all_c (Nat.ne_of_lt l4.2.2) (all_n)))))))))) (nd_c (all_c (Nat.ne_of_gt p23) (all_c (Nat.ne_of_gt p13) (all_c (c3.1) (all_c (c3.2.1) (all_c (Nat.ne_of_lt r4) (all_c (Nat.ne_of_lt l3.1) (all_c (Nat.ne_of_lt l3.2.1) (all_c (Nat.ne_of_lt l3.2.2) (all_n))))))))) (nd_c (all_c (Nat.ne_of_gt p12) (all_c (c2.1) (all_c (c2.2.1) (all_c (Nat.ne_of_lt r2) (all_c (Nat.ne_of_lt l2.1) (all_c (Nat.ne_of_lt l2.2.1) (all_c (Nat.ne_of_lt l2.2.2) (all_n)))))))) (nd_c (all_c (c1.1) (all_c (c1.2.1) (all_c (Nat.ne_of_lt r1) (all_c (Nat.ne_of_lt l1.1) (all_c (Nat.ne_of_lt l1.2.1) (all_c (Nat.ne_of_lt l1.2.2) (all_n))))))) (nd_c (all_c (Nat.ne_of_lt hCS) (all_c (Nat.ne_of_lt r8) (all_c (Nat.ne_of_lt l5.1) (all_c (Nat.ne_of_lt l5.2.1) (all_c (Nat.ne_of_lt l5.2.2) (all_n)))))) (nd_c (all_c (Nat.ne_of_lt r9) (all_c (Nat.ne_of_lt l6.1) (all_c (Nat.ne_of_lt l6.2.1) (all_c (Nat.ne_of_lt l6.2.2) (all_n))))) (nd_c (all_c (Nat.ne_of_gt r5) (all_c (Nat.ne_of_gt r6) (all_c (Nat.ne_of_gt r7) (all_n)))) (nd_c (all_c (n1) (all_c (n2) (all_n))) (nd_c (all_c (n3) (all_n)) (nd_c (all_n) (List.nodup_nil)))))))))), offs := all_c (all_c (Ne.symm c4.2.2) (all_c (Ne.symm c3.2.2) (all_c (Ne.symm c2.2.2) (all_c (Ne.symm c1.2.2) (all_c (Nat.ne_of_gt (Nat.lt_trans hCS hSd)) (all_c (Nat.ne_of_gt hSd) (all_c (Nat.ne_of_lt r10) (all_c (Nat.ne_of_lt l7.1) (all_c (Nat.ne_of_lt l7.2.1) (all_c (Nat.ne_of_lt l7.2.2) (all_n))))))))))) (fun p hp => all_c (Nat.ne_of_gt (fr0 p hp (L + 1 + 1 + 1 + 1, o4) (by regstrif_fact))) (all_c (Nat.ne_of_gt (fr0 p hp (L + 1 + 1 + 1, o3) (by regstrif_fact))) (all_c (Nat.ne_of_gt (fr0 p hp (L + 1 + 1, o2) (by regstrif_fact))) (all_c (Nat.ne_of_gt (fr0 p hp (L + 1, o1) (by regstrif_fact))) (all_c (Nat.ne_of_gt (fr0 p hp (C, listOf d.vs.toArray d.kc) (by regstrif_fact))) (all_c (Nat.ne_of_gt (fr0 p hp (S, listOf #[.int d.sd d.ts] d.ks) (by regstrif_fact))) (all_c (Nat.ne_of_lt (AllLt.mem r11 p hp)) (all_c (off0.1 p hp) (all_c (off0.2.1 p hp) (all_c (off0.2.2 p hp) (all_n))))))))))), rowsOk := fun _ h => nomatch h }
set_option maxRecDepth 100000 in
set_option maxHeartbeats 8000000 in
theorem phaseA (w : World) (mean : ExcName → Option Value) (mg mb : Str → Option Value) (h₀ : Heap) (L a : Addr) (cd : Value) (s : Shared) (Q : Flow → Shared → Prop) (E : Value → Shared → Prop) (sc : Addr) (xs : List Value) (ns : List Int) (m : Str → Option Value) (o1 o2 o3 o4 : Obj)
    (G : Gr w mean mg mb h₀ L a cd E) (hsc : h₀.IsList sc xs.toArray) (hI : IntsAre xs ns) (hlen : ns.length ≤ 63) (hm : m (Str.ofString "script") = some (.ref sc))
    (F : Fr h₀ L s.heap m) (N : News h₀ L s.heap [(L + 1 + 1 + 1 + 1, o4), (L + 1 + 1 + 1, o3), (L + 1 + 1, o2), (L + 1, o1)]) (h1 : o1.data = .cell none) (h2 : o2.data = .cell none) (h3 : o3.data = .cell none) (h4 : o4.data = .cell none)
    (end_ : Ends h₀ L s Q) : Rest w 0 h₀ L a cd s Q E := by
  have : PySem.Challenge.rw_ok0061_01 = PySem.Challenge.rw_ok0061_01 ∧ hdz.heap_1 = hdz.heap_1 := by
    k_fill
    exact ⟨rfl, rfl⟩
  clear this
  obtain ⟨B, X, T, hE⟩ := G
  replace F := fr_pin F hm
  (unfold Rest lawE; generalize hb : lawBody.drop 0 = bd; (conv at hb => lhs; whnf); subst hb; generalize hb : lawScope = bd; (conv at hb => lhs; whnf); (dsimp only at hb); subst hb)
  k_steps
  unfold Hold
  refine doesL_use (deck_ok w sc xs ns hI hlen _) (by assumption) (by assumption) (by assumption) (by assumption) (by assumption) rfl (by ktr_room) (by ktr_units) hsc ?_
  intro v1 nw1 h1' tk1 F1 N1 hP1
  (refine el_EEEEAAAAA (hP1) ?_; (try clear hP1); rintro dk C S d rfl rfl dOk hn1 hCS hSd)
  k_steps
  unfold Hold
  refine does_use (world_ok w _) (by assumption) (by assumption) (by assumption) (by assumption) (by assumption) rfl (by ktr_room) (by ktr_units) ?_
  intro v2 nw2 h2' tk2 F2 N2 hP2
  (refine el_EEEAAAAAAA (hP2) ?_; (try clear hP2); rintro c σ rest0 rfl rfl fr0 lt0 off0 H0 hD0 hX0)
  clear N1 N
  have N3 : News h₀ L h2' ((L + 1, o1) :: (L + 1 + 1, o2) :: ((L + 1 + 1 + 1 + 1, o4) :: (L + 1 + 1 + 1, o3) :: (mutL c σ ++ (dkL C S d ++ ((dk, listOf #[.ref C, .ref S] 0) :: rest0))))) := News.sub N2 (by regstrif_slice)
  have q1 : ∀ p ∈ (L + 1 + 1, o2) :: ((L + 1 + 1 + 1 + 1, o4) :: (L + 1 + 1 + 1, o3) :: (mutL c σ ++ (dkL C S d ++ ((dk, listOf #[.ref C, .ref S] 0) :: rest0)))), p.1 ≠ L + 1 := by
    intro p hp
    show @Ne Nat _ _
    simp only [mutL, dkL, List.cons_append, List.nil_append, List.mem_cons] at hp
    rcases hp with rfl | rfl | rfl | rfl | rfl | rfl | rfl | rfl | rfl | hp <;> (try dsimp only)
    · omega
    · omega
    · omega
    · exact Nat.ne_of_gt (lt0 (L + 1, o1) (by (first | regstrif_fact | simp))).1
    · exact Nat.ne_of_gt (lt0 (L + 1, o1) (by (first | regstrif_fact | simp))).2.1
    · exact Nat.ne_of_gt (lt0 (L + 1, o1) (by (first | regstrif_fact | simp))).2.2
    · exact Ne.symm (hn1 (L + 1, o1) (by (first | regstrif_fact | simp))).1
    · exact Ne.symm (hn1 (L + 1, o1) (by (first | regstrif_fact | simp))).2.1
    · exact Ne.symm (hn1 (L + 1, o1) (by (first | regstrif_fact | simp))).2.2
    · exact Nat.ne_of_gt (fr0 p hp (L + 1, o1) (by (first | regstrif_fact | simp)))
  have q2 : ∀ p ∈ ((L + 1 + 1 + 1 + 1, o4) :: (L + 1 + 1 + 1, o3) :: (mutL c σ ++ (dkL C S d ++ ((dk, listOf #[.ref C, .ref S] 0) :: rest0)))), p.1 ≠ L + 1 + 1 := by
    intro p hp
    show @Ne Nat _ _
    simp only [mutL, dkL, List.cons_append, List.nil_append, List.mem_cons] at hp
    rcases hp with rfl | rfl | rfl | rfl | rfl | rfl | rfl | rfl | hp <;> (try dsimp only)
    · omega
    · omega
    · exact Nat.ne_of_gt (lt0 (L + 1 + 1, o2) (by (first | regstrif_fact | simp))).1
    · exact Nat.ne_of_gt (lt0 (L + 1 + 1, o2) (by (first | regstrif_fact | simp))).2.1
    · exact Nat.ne_of_gt (lt0 (L + 1 + 1, o2) (by (first | regstrif_fact | simp))).2.2
    · exact Ne.symm (hn1 (L + 1 + 1, o2) (by (first | regstrif_fact | simp))).1
    · exact Ne.symm (hn1 (L + 1 + 1, o2) (by (first | regstrif_fact | simp))).2.1
    · exact Ne.symm (hn1 (L + 1 + 1, o2) (by (first | regstrif_fact | simp))).2.2
    · exact Nat.ne_of_gt (fr0 p hp (L + 1 + 1, o2) (by (first | regstrif_fact | simp)))
  dsimp only [mutL, dkL, List.cons_append, List.nil_append] at N3 q1 q2
  clear N2 F1
  k_steps
  unfold Hold
  refine phaseB w mean mg mb h₀ L a cd _ Q E c C S _ dk _ _ ⟨σ, rest0, (dk, listOf #[.ref C, .ref S] 0) :: rest0, d, _, [], o4, o3⟩ _ ⟨B, X, T, hE⟩ (lok0 dOk hn1 hCS hSd fr0 lt0 off0 H0 hX0 h3 h4 (by assumption) (by assumption) (by assumption) (by assumption) (by assumption)) rfl hD0 (by assumption) rfl (News.sub (by assumption) (by regstrif_slice)) ?_
  exact fun h' tk m' news' F' N' => end_ h' tk m' news' F' N'
end
end
end
end
end
/-! Idle names: where one of these stands, the head goes on without the twin of that name. -/
def fin.tw7958256684065218075 : Prop := True
def fin.tw13997542340519798953 : Prop := True
def fin.tw11282757955723203034 : Prop := True
def fin.tw4504814632618958902 : Prop := True
def fin.tw12027501170831983790 : Prop := True
def fin.tw11511206133448055489 : Prop := True
def fin.tw1398678351311079855 : Prop := True
def fin.tw12413561592081571828 : Prop := True
def fin.tw89727545237131050 : Prop := True
def fin.tw9453698228708602487 : Prop := True
def fin.tw2570306585012207593 : Prop := True
def fin.tw12507174853811176531 : Prop := True
def fin.tw222281983936395090 : Prop := True
def fin.tw1730452619964472563 : Prop := True
def fin.tw12030731908666236713 : Prop := True
def fin.tw9597861255099599992 : Prop := True
def fin.tw14449560505687523246 : Prop := True
def fin.tw16713330848119998941 : Prop := True
def fin.tw2524842472696088236 : Prop := True
def fin.tw15337241588996526812 : Prop := True
def fin.tw10891054232620793217 : Prop := True
def fin.tw4806268862455609328 : Prop := True
def fin.tw15566928917628492161 : Prop := True
def fin.tw11154830654865731599 : Prop := True
def fin.tw15948179056623087040 : Prop := True
def fin.tw3794220679723124481 : Prop := True
def fin.tw4721520146441956175 : Prop := True
def fin.tw10818889477481085253 : Prop := True
def fin.tw8569027658895312972 : Prop := True
def fin.tw16244113021734096601 : Prop := True
def fin.tw14333544728242365436 : Prop := True
def fin.tw10829458402184033698 : Prop := True
def fin.tw7451905468542833597 : Prop := True
def fin.tw14139026862911339306 : Prop := True
def fin.tw6525817661751114472 : Prop := True
def fin.tw6650461044873433052 : Prop := True
def fin.tw8399098705505230059 : Prop := True
def fin.tw7130589087949165531 : Prop := True
def fin.tw12567809125941998234 : Prop := True
def fin.tw12593571990418227833 : Prop := True
def fin.tw6515953530934532768 : Prop := True
def fin.tw7000300075881102575 : Prop := True
def fin.tw16252508478716706905 : Prop := True
def fin.tw6766580051018981234 : Prop := True
def fin.tw8341868167172161999 : Prop := True
def fin.tw17801579834951734752 : Prop := True
def fin.tw10391319463526535247 : Prop := True
def fin.tw15513600669972384820 : Prop := True
def fin.tw4788878847521262168 : Prop := True
def fin.tw13467322939085005891 : Prop := True
def fin.tw14831565032479261754 : Prop := True
def fin.tw670465573061467203 : Prop := True
def fin.tw5486226609284752418 : Prop := True
def fin.tw373065315874586923 : Prop := True
def fin.tw14574801432027512755 : Prop := True
def fin.tw16867096813858660809 : Prop := True
def fin.tw14856888987745899463 : Prop := True
def fin.tw5901363791540438844 : Prop := True
def fin.tw14254621764821748828 : Prop := True
def fin.tw15225332579556243176 : Prop := True
def fin.tw5776136370200156792 : Prop := True
def fin.tw5734618986648460908 : Prop := True
def fin.tw4040260094072895976 : Prop := True
def fin.tw3432132637015033673 : Prop := True
def fin.tw5071919506433949198 : Prop := True
def fin.tw8919302590299486024 : Prop := True
def fin.tw7613945582906998725 : Prop := True
def fin.tw4928979718650693569 : Prop := True
def fin.tw11209750170652599755 : Prop := True
def fin.tw4992356995671143779 : Prop := True
def fin.tw6718411051458867188 : Prop := True
def fin.tw2236755162388048479 : Prop := True
def fin.tw17512474026176034454 : Prop := True
def fin.tw7470013935711676318 : Prop := True
def fin.tw6127190174262240918 : Prop := True
def fin.tw5073790198343104882 : Prop := True
def fin.tw8590288500278120515 : Prop := True
def fin.tw15216479089859931547 : Prop := True
def fin.tw14728723275428758510 : Prop := True
def fin.tw7684487725183542926 : Prop := True
def fin.tw11454252539852477091 : Prop := True
def fin.tw13295704053362595847 : Prop := True
def fin.tw16307707646766795581 : Prop := True
def fin.tw3004984022683251337 : Prop := True
def fin.tw7334248845499685764 : Prop := True
def fin.tw14347400895652799225 : Prop := True
def fin.tw8577089030196625639 : Prop := True
def fin.tw5266742908149448401 : Prop := True
def fin.tw11336253725339858928 : Prop := True
def fin.tw6712194924023145494 : Prop := True
def fin.tw17698704350827878285 : Prop := True
def fin.tw1887099378405440850 : Prop := True
def fin.tw11414119711712004833 : Prop := True
def fin.tw14239432107786713131 : Prop := True
def fin.tw12494633076269960713 : Prop := True
def fin.tw4868334931027891882 : Prop := True
def fin.tw17204297501091165112 : Prop := True
def fin.tw14109310954907245088 : Prop := True
def fin.tw17759458363651991261 : Prop := True
def fin.tw12221555665107904926 : Prop := True
def fin.tw13814004702073501669 : Prop := True
def fin.tw3506512066687448480 : Prop := True
def fin.tw10696652717036330658 : Prop := True
def fin.tw7716820226725407877 : Prop := True
def fin.tw4588413851689716618 : Prop := True
def fin.tw16503470079419688546 : Prop := True
def fin.tw16906536467411238026 : Prop := True
def fin.tw12868640280835112553 : Prop := True
def fin.tw9113340658982188547 : Prop := True
def fin.tw4329306826757983850 : Prop := True
def fin.tw7380833856163905736 : Prop := True
def fin.tw452842511749404161 : Prop := True
def fin.tw2304379251839397102 : Prop := True
def fin.tw8656503046869711584 : Prop := True
def fin.tw6766378078585498003 : Prop := True
def fin.tw4443050520305737185 : Prop := True
def fin.tw4424551920762525699 : Prop := True
def fin.tw14279960228734115912 : Prop := True
def fin.tw18295790063311454060 : Prop := True
def fin.tw8025084765662995669 : Prop := True
def fin.tw17197158672614542318 : Prop := True
def fin.tw16205109500356779066 : Prop := True
def fin.tw6667815254911646788 : Prop := True
def fin.tw10907391636593693970 : Prop := True
def fin.tw3812028171767442716 : Prop := True
def fin.tw8126443298418566877 : Prop := True
def fin.tw216489041496292469 : Prop := True
def fin.tw7055459427971326715 : Prop := True
def fin.tw18230178534529381785 : Prop := True
def fin.tw11936995450923721628 : Prop := True
def fin.tw16934629359412608497 : Prop := True
def fin.tw3222278782482380304 : Prop := True
def fin.tw7890596953891613788 : Prop := True
def fin.tw9839346839192117915 : Prop := True
def fin.tw3767311804947220896 : Prop := True
def fin.tw7278507554335971580 : Prop := True
def fin.tw10699407837109476802 : Prop := True
def fin.tw14793013804824869981 : Prop := True
def fin.tw1105837973531982728 : Prop := True
def fin.tw12833947400113492166 : Prop := True
def fin.tw17495881415371897999 : Prop := True
def fin.tw12105171945263650130 : Prop := True
def fin.tw4598667867955821814 : Prop := True
def fin.tw13177410634674063896 : Prop := True
def fin.tw11298980531735778240 : Prop := True
def fin.tw8408514402456403777 : Prop := True
def fin.tw14210890002308233579 : Prop := True
def fin.tw13162651487661262736 : Prop := True
def fin.tw4768634762848416435 : Prop := True
def fin.tw8383268338085895543 : Prop := True
def fin.tw15688172546075569117 : Prop := True
def fin.tw13790858721211988464 : Prop := True
def fin.tw428092273266315144 : Prop := True
def fin.tw11897717083992391400 : Prop := True
def fin.tw1128348596072947701 : Prop := True
def fin.tw11607805686811502034 : Prop := True
def fin.tw6435670951450185984 : Prop := True
def fin.tw783483362715066742 : Prop := True
def fin.tw16496857829328116044 : Prop := True
def fin.tw9363291351745731410 : Prop := True
def fin.tw13700621096757390547 : Prop := True
def fin.tw2051409578822353534 : Prop := True
def fin.tw2367325634123391141 : Prop := True
def fin.tw17347454772498655404 : Prop := True
def fin.tw12171577908484138354 : Prop := True
def fin.tw5805905742469029177 : Prop := True
def fin.tw8288733244629462318 : Prop := True
def fin.tw7321584467024264148 : Prop := True
def fin.tw14578271805448956485 : Prop := True
def fin.tw16488607150827929282 : Prop := True
def fin.tw5796354222422608987 : Prop := True
def fin.tw1450881378762983150 : Prop := True
def fin.tw9725021084223525626 : Prop := True
def fin.tw15094949803261831281 : Prop := True
def fin.tw17311274769643918242 : Prop := True
def fin.tw2608567993692976607 : Prop := True
def fin.tw6878024787957991413 : Prop := True
def fin.tw4395496475954998127 : Prop := True
def fin.tw9297318355482256503 : Prop := True
def fin.tw10671828304227620169 : Prop := True
def fin.tw11040825799340251285 : Prop := True
def fin.tw4043148821406017626 : Prop := True
def fin.tw12409915417874342407 : Prop := True
def fin.tw12996517811204074000 : Prop := True
def fin.tw6058378993454661626 : Prop := True
def fin.tw876206183137641144 : Prop := True
def fin.tw3885313090954376144 : Prop := True
def fin.tw15459455144867644326 : Prop := True
def fin.tw9247658263007524724 : Prop := True
def fin.tw15144710454662140524 : Prop := True
def fin.tw2671655128345628175 : Prop := True
def fin.tw14679806638718605512 : Prop := True
def fin.tw15476544859757588837 : Prop := True
def fin.tw14345562132136545540 : Prop := True
def fin.tw1951045429614898598 : Prop := True
def fin.tw3906754673857718949 : Prop := True
def fin.tw18105942590061964161 : Prop := True
def fin.tw1560641971993327685 : Prop := True
def fin.tw3125960719983571848 : Prop := True
def fin.tw6566618420281934 : Prop := True
def fin.tw17362494058136835672 : Prop := True
def fin.tw480829909506669009 : Prop := True
def fin.tw15399907426655090358 : Prop := True
def fin.tw3955986520655104412 : Prop := True
def fin.tw4723787954990577340 : Prop := True
def fin.tw16256441300576474876 : Prop := True
def fin.tw7522001649326652513 : Prop := True
def fin.tw11227884535216515135 : Prop := True
def fin.tw10007411396671696613 : Prop := True
def fin.tw7822013112032934038 : Prop := True
def fin.tw13815853411582834384 : Prop := True
def fin.tw12780881840741157306 : Prop := True
def fin.tw17662344363894024548 : Prop := True
def fin.tw2537931557510868981 : Prop := True
def fin.tw3837020019201816242 : Prop := True
def fin.tw18164189302063226315 : Prop := True
def fin.tw6455845175183424153 : Prop := True
def fin.tw6341822008880759003 : Prop := True
def fin.tw16229209127682248589 : Prop := True
def fin.tw13929302177132474383 : Prop := True
def fin.tw9059937348426287209 : Prop := True
def fin.tw12977279227502587607 : Prop := True
def fin.tw16115155874713506467 : Prop := True
def fin.tw17701328389417463424 : Prop := True
def fin.tw757079261281740938 : Prop := True
def fin.tw2976117146107443816 : Prop := True
def fin.tw11273041486466551846 : Prop := True
def fin.tw12212933522069011988 : Prop := True
def fin.tw10895054467252067526 : Prop := True
def fin.tw612862322836996645 : Prop := True
def fin.tw8269367382603917829 : Prop := True
def fin.tw423345284130997744 : Prop := True
def fin.tw8272817396058243321 : Prop := True
def fin.tw1390109508276135513 : Prop := True
def fin.tw6454446336052903152 : Prop := True
def fin.tw9509447333196811905 : Prop := True
def fin.tw17425937995043322649 : Prop := True
def fin.tw799341379326975648 : Prop := True
def fin.tw15989303212955285315 : Prop := True
def fin.tw10875463905939285979 : Prop := True
def fin.tw17861066769153400444 : Prop := True
def fin.tw12550770813317053977 : Prop := True
def fin.tw18195182924450695511 : Prop := True
def fin.tw9735714214384596553 : Prop := True
def fin.tw1202912048536075021 : Prop := True
def fin.tw10936777179133785780 : Prop := True
def fin.tw251868834278440796 : Prop := True
def fin.tw2885147992704089249 : Prop := True
def fin.tw891787732878383699 : Prop := True
def fin.tw10098057777631523497 : Prop := True
def fin.tw11151619158091525091 : Prop := True
def fin.tw12284014389350100970 : Prop := True
def fin.tw17416127249078093707 : Prop := True
def fin.tw15344004072050561172 : Prop := True
def fin.tw5115476493328737885 : Prop := True
def fin.tw4684940682943077961 : Prop := True
def fin.tw5792265106169080782 : Prop := True
def fin.tw8896352889252549814 : Prop := True
def fin.tw14541005305830221311 : Prop := True
def fin.tw1963134401048803436 : Prop := True
def fin.tw6846200578177281708 : Prop := True
def fin.tw11953781441336167498 : Prop := True
def fin.tw11079828417688620724 : Prop := True
def fin.tw4640724917100965312 : Prop := True
def fin.tw1666694428299288667 : Prop := True
def fin.tw500868675978126160 : Prop := True
def fin.tw4180101509539245183 : Prop := True
def fin.tw16175276709679454751 : Prop := True
def fin.tw9260378047223084069 : Prop := True
def fin.tw12711679700452659978 : Prop := True
def fin.tw2503846163805864124 : Prop := True
def fin.tw7282745182861764756 : Prop := True
def fin.tw6207176494656529804 : Prop := True
def fin.tw6068950659093879613 : Prop := True
def fin.tw999798209818781672 : Prop := True
def fin.tw17963964198891936676 : Prop := True
def fin.tw6289197191216398940 : Prop := True
def fin.tw17933470926392208243 : Prop := True
def fin.tw7830629276484211593 : Prop := True
def fin.tw15533503492667675913 : Prop := True
def fin.tw5102460946473063141 : Prop := True
def fin.tw7929640520542984453 : Prop := True
def fin.tw6707113841082798463 : Prop := True
def fin.tw5293390819737331289 : Prop := True
def fin.tw8281523328739849912 : Prop := True
def fin.tw895571856199123645 : Prop := True
def fin.tw5011121235533021005 : Prop := True
def fin.tw8643116662766533202 : Prop := True
def fin.tw1635022588487117616 : Prop := True
def fin.tw1976505206021243879 : Prop := True
def fin.tw16407147864228438881 : Prop := True
def fin.tw1454475970635175518 : Prop := True
def fin.tw8018989035897545986 : Prop := True
def fin.tw6400248389586479577 : Prop := True
def fin.tw13360279666012451719 : Prop := True
def fin.tw9962418760945406050 : Prop := True
def fin.tw6449190631224713292 : Prop := True
def fin.tw15564276425815640635 : Prop := True
def fin.tw857469055436470443 : Prop := True
def fin.tw6081921254191324426 : Prop := True
def fin.tw9544026089342320630 : Prop := True
def fin.tw13326868189938593150 : Prop := True
def fin.tw15782589827461423494 : Prop := True
def fin.tw8999559765510592377 : Prop := True
def fin.tw3314143786362844604 : Prop := True
def fin.tw15741700470354863883 : Prop := True
def fin.tw1209720653154232198 : Prop := True
def fin.tw10599938827571368224 : Prop := True
def fin.tw803859442106103436 : Prop := True
def fin.tw12932903420030652473 : Prop := True
def fin.tw5196160543931855155 : Prop := True
def fin.tw17164383140453370395 : Prop := True
def fin.tw13158425560686309300 : Prop := True
def fin.tw12946824338688289833 : Prop := True
def fin.tw2512408688544751470 : Prop := True
def fin.tw8614737586434602478 : Prop := True
def fin.tw16285329926789087883 : Prop := True
def fin.tw13925877587632400325 : Prop := True
def fin.tw1088692219920020602 : Prop := True
def fin.tw12355744275394475900 : Prop := True
def fin.tw1982079694162106894 : Prop := True
def fin.tw16540275574145912595 : Prop := True
def fin.tw4265850918314828415 : Prop := True
def fin.tw7675655780812522254 : Prop := True
def fin.tw3211687289105081006 : Prop := True
def fin.tw5678346346211369953 : Prop := True
def fin.tw2086631506510373192 : Prop := True
def fin.tw16196181902256332553 : Prop := True
def fin.tw12718612220689870738 : Prop := True
def fin.tw2866121171748074186 : Prop := True
def fin.tw111200028466390044 : Prop := True
def fin.tw807531904560671035 : Prop := True
def fin.tw3112429581023547943 : Prop := True
def fin.tw7439575562449295702 : Prop := True
def fin.tw17717364068325071970 : Prop := True
def fin.tw12740692763255036000 : Prop := True
def fin.tw848606289541702500 : Prop := True
def fin.tw5679570950571409650 : Prop := True
def fin.tw744865244796547220 : Prop := True
def fin.tw17260493314774615805 : Prop := True
def fin.tw4754365596532378047 : Prop := True
def fin.tw9287935634678041813 : Prop := True
def fin.tw16510490156224867327 : Prop := True
def fin.tw6567050819087999508 : Prop := True
def fin.tw12649782002744950493 : Prop := True
def fin.tw4312942655851389009 : Prop := True
def fin.tw16889484823980962733 : Prop := True
def fin.tw10708223146118651492 : Prop := True
def fin.tw9757074474933493440 : Prop := True
def fin.tw13574545013463194659 : Prop := True
def fin.tw11192643925408225281 : Prop := True
def fin.tw10234915967203826555 : Prop := True
def fin.tw1544503264643628384 : Prop := True
def fin.tw16570786720924097770 : Prop := True
def fin.tw3762306804915933987 : Prop := True
def fin.tw7028063314416541132 : Prop := True
def fin.tw4759752924163587094 : Prop := True
def fin.tw2103456241558337223 : Prop := True
def fin.tw2377308710366028375 : Prop := True
def fin.tw3550807849831375056 : Prop := True
def fin.tw14075178694198228753 : Prop := True
def fin.tw7976502392129159676 : Prop := True
def fin.tw8331973007464152698 : Prop := True
def fin.tw2896703901015224195 : Prop := True
def fin.tw14637358334870819178 : Prop := True
def fin.tw9218923581257491847 : Prop := True
def fin.tw1249118550022496774 : Prop := True
def fin.tw11414674201277728305 : Prop := True
def fin.tw846297522682114974 : Prop := True
def fin.tw16401934584784274106 : Prop := True
def fin.tw4171678462856256454 : Prop := True
def fin.tw6531376189190222733 : Prop := True
def fin.tw2067723777617599883 : Prop := True
def fin.tw5250828734511838712 : Prop := True
def fin.tw3975253019698251321 : Prop := True
def fin.tw828056024939588000 : Prop := True
def fin.tw4013537778516871869 : Prop := True
def fin.tw1422313219903470601 : Prop := True
def fin.tw10147658903529517814 : Prop := True
def fin.tw16798467561266328274 : Prop := True
def fin.tw5647864574477489665 : Prop := True
def fin.tw13383306551100868464 : Prop := True
def fin.tw12464766053444552404 : Prop := True
def fin.tw12847644182280273618 : Prop := True
def fin.tw13870153662132920491 : Prop := True
def fin.tw4879674094562380441 : Prop := True
def fin.tw17449020081951674710 : Prop := True
def fin.tw15205425988870721313 : Prop := True
def fin.tw12180539936304867106 : Prop := True
def fin.tw3105451386036433885 : Prop := True
def fin.tw3788772014149755174 : Prop := True
def fin.tw9445451236469955387 : Prop := True
def fin.tw8330952907988395303 : Prop := True
def fin.tw5106123347721008290 : Prop := True
def fin.tw17743408960866722510 : Prop := True
def fin.tw2617349483901765261 : Prop := True
def fin.tw15583698165555649274 : Prop := True
def fin.tw6214469639950668122 : Prop := True
def fin.tw12557769604369416430 : Prop := True
def fin.tw17130245016438642246 : Prop := True
def fin.tw9913140749668108558 : Prop := True
def fin.tw17149882997012438147 : Prop := True
def fin.tw6956187926921108005 : Prop := True
def fin.tw1545086475593560577 : Prop := True
def fin.tw17974384156558142227 : Prop := True
def fin.tw11575174756993882273 : Prop := True
def fin.tw14134379338385194387 : Prop := True
def fin.tw15942684835789789487 : Prop := True
def fin.tw7613857476909055813 : Prop := True
def fin.tw2462912638960843985 : Prop := True
def fin.tw6381419901266130222 : Prop := True
def fin.tw2321816554428607280 : Prop := True
def fin.tw12829507556594621215 : Prop := True
def fin.tw10852849658779182186 : Prop := True
def fin.tw17570709534508481193 : Prop := True
def fin.tw9659392335347125073 : Prop := True
def fin.tw18082680734076937219 : Prop := True
def fin.tw17656766251404061198 : Prop := True
def fin.tw10196768644732416780 : Prop := True
def fin.tw17123178472405020103 : Prop := True
def fin.tw17108682257543074861 : Prop := True
def fin.tw4898026214463823928 : Prop := True
def fin.tw6232080684201472732 : Prop := True
def fin.tw6634307039904815820 : Prop := True
def fin.tw13337293482115323266 : Prop := True
def fin.tw14838103818555229697 : Prop := True
def fin.tw17784850919643140607 : Prop := True
def fin.tw14814673180317915700 : Prop := True
def fin.tw16708981103961760564 : Prop := True
def fin.tw4162185377826839926 : Prop := True
def fin.tw10511823565363050587 : Prop := True
def fin.tw11587955951900863698 : Prop := True
def fin.tw1035503724928835527 : Prop := True
def fin.tw982560976839675504 : Prop := True
def fin.tw17067295170570645592 : Prop := True
def fin.tw12448240930570709186 : Prop := True
def fin.tw12291753297600562012 : Prop := True
def fin.tw16448676403291746579 : Prop := True
def fin.tw13423622936843584764 : Prop := True
def fin.tw3029852977388229646 : Prop := True
def fin.tw16958243865122950064 : Prop := True
def fin.tw2316539691658765527 : Prop := True
def fin.tw6323506392446703087 : Prop := True
def fin.tw4769821431679368130 : Prop := True
def fin.tw9825859731914700964 : Prop := True
def fin.tw14166196953294261902 : Prop := True
def fin.tw10939691994893167182 : Prop := True
def fin.tw12356021495744459628 : Prop := True
def fin.tw11466478281803324712 : Prop := True
def fin.tw16584127079891442865 : Prop := True
def fin.tw15815952407149668801 : Prop := True
def fin.tw4209717502836232480 : Prop := True
def fin.tw3998398428148030388 : Prop := True
def fin.tw7773504467932542270 : Prop := True
def fin.tw14855157385224911753 : Prop := True
def fin.tw13724452099449386491 : Prop := True
def fin.tw3268265519342814607 : Prop := True
def fin.tw9746901515087519452 : Prop := True
def fin.tw11061592194353771069 : Prop := True
def fin.tw14497727239971306367 : Prop := True
def fin.tw13093503161671486093 : Prop := True
def fin.tw14560573928864763818 : Prop := True
def fin.tw10782327089294195420 : Prop := True
def fin.tw13898374239775968522 : Prop := True
def fin.tw16530489862217454893 : Prop := True
def fin.tw6380807493870290408 : Prop := True
def fin.tw7995362448368537469 : Prop := True
def fin.tw15523922138108190246 : Prop := True
def fin.tw4719063310657182621 : Prop := True
def fin.tw18373065035072037172 : Prop := True
def fin.tw220677088936066577 : Prop := True
def fin.tw10383673109516279431 : Prop := True
def fin.tw2775396313129547428 : Prop := True
def fin.tw4570111826955561243 : Prop := True
def fin.tw5227809002895711924 : Prop := True
def fin.tw2305881189932309285 : Prop := True
def fin.tw5962627729488381771 : Prop := True
def fin.tw11039862389202566683 : Prop := True
def fin.tw12141802397888321627 : Prop := True
def fin.tw1080700006314346644 : Prop := True
def fin.tw15590172107835277464 : Prop := True
def fin.tw7249652514872940865 : Prop := True
def fin.tw8416529770105884409 : Prop := True
def fin.tw3302319216010004292 : Prop := True
def fin.tw9712136527352899355 : Prop := True
def fin.tw12696600883282566439 : Prop := True
def fin.tw12494888245299231016 : Prop := True
def fin.tw17821466097196317003 : Prop := True
def fin.tw888132650186811988 : Prop := True
def fin.tw15309079848183770524 : Prop := True
def fin.tw1397303283331804279 : Prop := True
def fin.tw12962497063298326498 : Prop := True
def fin.tw9221430085559818832 : Prop := True
def fin.tw9746214513668125432 : Prop := True
def fin.tw1014637456484912126 : Prop := True
def fin.tw15201286185872193147 : Prop := True
def fin.tw10925335251469727208 : Prop := True
def fin.tw8352470293576582857 : Prop := True
def fin.tw3263211703599914710 : Prop := True
def fin.tw9806666330580929782 : Prop := True
def fin.tw884059145510264010 : Prop := True
def fin.tw9524518906428321964 : Prop := True
def fin.tw2090205506522743130 : Prop := True
def fin.tw9610726530385051774 : Prop := True
def fin.tw1613116972386908190 : Prop := True
def fin.tw7177338460636591580 : Prop := True
def fin.tw8289400949097046189 : Prop := True
def fin.tw12237877928780879103 : Prop := True
def fin.tw16269368082590959529 : Prop := True
def fin.tw5897612983314593646 : Prop := True
def fin.tw15373703851562958014 : Prop := True
def fin.tw10580198807604790814 : Prop := True
def fin.tw12809788781938459499 : Prop := True
def fin.tw1921391257341544841 : Prop := True
def fin.tw8776770756819070316 : Prop := True
def fin.tw3857263333814641470 : Prop := True
def fin.tw6577878126316647860 : Prop := True
def fin.tw2789213428527533208 : Prop := True
def fin.tw16109372258727991565 : Prop := True
def fin.tw15621619335703214680 : Prop := True
def fin.tw12869217540446652890 : Prop := True
def fin.tw15069271281064182630 : Prop := True
def fin.tw1819255440876223710 : Prop := True
def fin.tw8088732932480780420 : Prop := True
def fin.tw4100293265295638779 : Prop := True
def fin.tw3404873503106905745 : Prop := True
def fin.tw10393886385942881009 : Prop := True
def fin.tw4218790737952374519 : Prop := True
def fin.tw3599858809825778643 : Prop := True
section
local macro_rules | `(tactic| refine $f:ident (q := $q) (loose := $l) (Xt := $_xt) (XP := $_xp) $xs*) => do
  if q.raw.isIdent then Lean.Macro.throwUnsupported
  else `(tactic| refine $f (q := hdz.view_1) (loose := $l) (Xt := fun s => xlAt hdz.view_1 [] s && recOk (RowW.records PySem.Challenge.rw_ok0061_01.row.toRowW) s) (XP := XL hdz.view_1 []) $xs*)
set_option Elab.async true in
set_option maxRecDepth 100000 in
set_option maxHeartbeats 8000000 in
theorem fin : PySem.Challenge.rw_ok0061_01.Holds := by
  w_on
  o_law
  o_head (kHook hdz.heap_1 [2, 3, 15, 17, 18, 20, 21, 22, 29, 31, 32, 34, 35, 36, 37, 38, 39, 42, 44, 45, 47, 48, 49, 51, 52, 54, 55, 63, 65, 66, 68, 69, 70, 71, 72, 73, 74, 77, 78, 80, 81, 90, 92, 93, 95, 96, 97, 98, 99, 100, 101, 111, 112, 114, 115, 117, 118, 119, 120, 121, 122, 123, 126, 127, 129, 130, 132, 133, 134, 136, 137, 139, 140, 141, 143, 144, 146, 147, 148, 151, 152, 153, 156, 157, 158, 161, 162, 163, 165, 166, 168, 169, 170, 173, 174, 175, 177, 178, 180, 181, 182, 185, 186, 187, 189, 190, 192, 193, 201, 203, 204, 206, 207, 208, 210, 211, 213, 214, 215, 217, 218, 220, 221, 222, 224, 225, 227, 228, 229, 231, 232, 234, 235, 236, 238, 239, 241, 242, 243, 245, 246, 248, 249, 250, 252, 253, 255, 256, 257, 259, 260, 262, 263, 264, 266, 267, 269, 270, 271, 272, 273, 274, 275, 285, 287, 288, 290, 291, 292, 294, 295, 297, 298, 299, 301, 302, 304, 305, 306, 308, 309, 311, 312, 313, 315, 316, 318, 319, 320, 322, 323, 325, 326, 327, 329, 330, 332, 333, 334, 336, 337, 339, 340, 341, 343, 344, 346, 347, 348, 349, 350, 351, 352, 362, 364, 365, 367, 368, 369, 371, 372, 374, 375, 376, 378, 379, 381, 382, 383, 385, 386, 388, 389, 390, 392, 393, 395, 396, 397, 399, 400, 402, 403, 404, 406, 407, 409, 410, 411, 412, 413, 414, 415, 425, 427, 428, 430, 431, 432, 434, 435, 437, 438, 439, 441, 442, 444, 445, 446, 448, 449, 451, 452, 453, 455, 456, 458, 459, 460, 462, 463, 465, 466, 467, 468, 469, 470, 471, 481, 483, 484, 486, 487, 488, 490, 491, 493, 494, 495, 497, 498, 500, 501, 502, 504, 505, 507, 508, 509, 511, 512, 514, 515, 516, 517, 518, 519, 520, 523, 524, 525, 526, 527, 528, 529, 532, 533, 534, 536, 537, 539, 540, 541, 543, 544, 546, 547, 548, 551, 552, 553, 555, 556, 558, 559, 560, 563, 564] (fun _ => by kernel_rfl))
  (case hw => w_witness2)
  w_strict (
    k_go0
    (all_goals try k_fold)
    (with_unfolding_all refine Mine.phaseA _ _ _ _ _ _ _ _ _ _ _ _ _ _ _ _ _ _ _ ⟨by assumption, by assumption, by assumption, ?_⟩ (by assumption) (by assumption) ?_ ?_ (by assumption) (by assumption) ?_ ?_ ?_ ?_ ?_)
    · passes_own
    · omega
    · exact rfl
    · assumption
    · assumption
    · assumption
    · assumption
    · intro h' tk m' news' F' N'
      k_steps)
end
end Mine
theorem PySem.Challenge.cw_ok0061_01_holds : PySem.Challenge.rw_ok0061_01.Holds :=
  Mine.fin
