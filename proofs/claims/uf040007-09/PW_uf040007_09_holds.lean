import PyProof.Rows.All
import Open.Line
import Open.FastRun
import Open.FastT9
import KE.KSortTup
import KE.KDictSum
import PySem.Challenge.RW_uf040007_09
set_option Elab.async false
set_option bootstrap.genMatcherCode false
set_option linter.unusedVariables false
set_option linter.unusedSimpArgs false
set_option genSizeOfSpec false
namespace Mine.Internal
section
variable {G : Prop}
theorem xA {P1 P2 : Prop} (h : P1 /\ P2) (k : P1 -> P2 -> G) : G := k h.1 h.2
theorem xE {T0 : Sort _} {P1 : T0 -> Prop} (h : ∃ a, P1 a) (k : ∀ a, P1 a -> G) : G := Exists.elim h fun a h => k a h
theorem xAA {P1 P2 P3 : Prop} (h : P1 /\ P2 /\ P3) (k : P1 -> P2 -> P3 -> G) : G := k h.1 h.2.1 h.2.2
theorem xAE {T0 : Sort _} {P1 : Prop} {P2 : T0 -> Prop} (h : P1 /\ ∃ a, P2 a) (k : P1 -> ∀ a, P2 a -> G) : G := have q0 := h.1; Exists.elim h.2 fun a h => k q0 a h
theorem xEA {T0 : Sort _} {P1 P2 : T0 -> Prop} (h : ∃ a, P1 a /\ P2 a) (k : ∀ a, P1 a -> P2 a -> G) : G := Exists.elim h fun a h => k a h.1 h.2
theorem xEE {T0 T1 : Sort _} {P1 : T0 -> T1 -> Prop} (h : ∃ a b, P1 a b) (k : ∀ a b, P1 a b -> G) : G := Exists.elim h fun a h => Exists.elim h fun b h => k a b h
theorem xAAA {P1 P2 P3 P4 : Prop} (h : P1 /\ P2 /\ P3 /\ P4) (k : P1 -> P2 -> P3 -> P4 -> G) : G := k h.1 h.2.1 h.2.2.1 h.2.2.2
theorem xAEA {T0 : Sort _} {P1 : Prop} {P2 P3 : T0 -> Prop} (h : P1 /\ ∃ a, P2 a /\ P3 a) (k : P1 -> ∀ a, P2 a -> P3 a -> G) : G := have q0 := h.1; Exists.elim h.2 fun a h => k q0 a h.1 h.2
theorem xEAA {T0 : Sort _} {P1 P2 P3 : T0 -> Prop} (h : ∃ a, P1 a /\ P2 a /\ P3 a) (k : ∀ a, P1 a -> P2 a -> P3 a -> G) : G := Exists.elim h fun a h => k a h.1 h.2.1 h.2.2
theorem xEAE {T0 T1 : Sort _} {P1 : T0 -> Prop} {P2 : T0 -> T1 -> Prop} (h : ∃ a, P1 a /\ ∃ b, P2 a b) (k : ∀ a, P1 a -> ∀ b, P2 a b -> G) : G := Exists.elim h fun a h => have q1 := h.1; Exists.elim h.2 fun b h => k a q1 b h
theorem xEEA {T0 T1 : Sort _} {P1 P2 : T0 -> T1 -> Prop} (h : ∃ a b, P1 a b /\ P2 a b) (k : ∀ a b, P1 a b -> P2 a b -> G) : G := Exists.elim h fun a h => Exists.elim h fun b h => k a b h.1 h.2
theorem xEEE {T0 T1 T2 : Sort _} {P1 : T0 -> T1 -> T2 -> Prop} (h : ∃ a b c, P1 a b c) (k : ∀ a b c, P1 a b c -> G) : G := Exists.elim h fun a h => Exists.elim h fun b h => Exists.elim h fun c h => k a b c h
theorem xAAAA {P1 P2 P3 P4 P5 : Prop} (h : P1 /\ P2 /\ P3 /\ P4 /\ P5) (k : P1 -> P2 -> P3 -> P4 -> P5 -> G) : G := k h.1 h.2.1 h.2.2.1 h.2.2.2.1 h.2.2.2.2
theorem xEAAA {T0 : Sort _} {P1 P2 P3 P4 : T0 -> Prop} (h : ∃ a, P1 a /\ P2 a /\ P3 a /\ P4 a) (k : ∀ a, P1 a -> P2 a -> P3 a -> P4 a -> G) : G := Exists.elim h fun a h => k a h.1 h.2.1 h.2.2.1 h.2.2.2
theorem xEAEE {T0 T1 T2 : Sort _} {P1 : T0 -> Prop} {P2 : T0 -> T1 -> T2 -> Prop} (h : ∃ a, P1 a /\ ∃ b c, P2 a b c) (k : ∀ a, P1 a -> ∀ b c, P2 a b c -> G) : G := Exists.elim h fun a h => have q1 := h.1; Exists.elim h.2 fun b h => Exists.elim h fun c h => k a q1 b c h
theorem xEEAA {T0 T1 : Sort _} {P1 P2 P3 : T0 -> T1 -> Prop} (h : ∃ a b, P1 a b /\ P2 a b /\ P3 a b) (k : ∀ a b, P1 a b -> P2 a b -> P3 a b -> G) : G := Exists.elim h fun a h => Exists.elim h fun b h => k a b h.1 h.2.1 h.2.2
theorem xEEEA {T0 T1 T2 : Sort _} {P1 P2 : T0 -> T1 -> T2 -> Prop} (h : ∃ a b c, P1 a b c /\ P2 a b c) (k : ∀ a b c, P1 a b c -> P2 a b c -> G) : G := Exists.elim h fun a h => Exists.elim h fun b h => Exists.elim h fun c h => k a b c h.1 h.2
theorem xAEEAA {T0 T1 : Sort _} {P1 : Prop} {P2 P3 P4 : T0 -> T1 -> Prop} (h : P1 /\ ∃ a b, P2 a b /\ P3 a b /\ P4 a b) (k : P1 -> ∀ a b, P2 a b -> P3 a b -> P4 a b -> G) : G := have q0 := h.1; Exists.elim h.2 fun a h => Exists.elim h fun b h => k q0 a b h.1 h.2.1 h.2.2
theorem xEAAAA {T0 : Sort _} {P1 P2 P3 P4 P5 : T0 -> Prop} (h : ∃ a, P1 a /\ P2 a /\ P3 a /\ P4 a /\ P5 a) (k : ∀ a, P1 a -> P2 a -> P3 a -> P4 a -> P5 a -> G) : G := Exists.elim h fun a h => k a h.1 h.2.1 h.2.2.1 h.2.2.2.1 h.2.2.2.2
theorem xEEAAA {T0 T1 : Sort _} {P1 P2 P3 P4 : T0 -> T1 -> Prop} (h : ∃ a b, P1 a b /\ P2 a b /\ P3 a b /\ P4 a b) (k : ∀ a b, P1 a b -> P2 a b -> P3 a b -> P4 a b -> G) : G := Exists.elim h fun a h => Exists.elim h fun b h => k a b h.1 h.2.1 h.2.2.1 h.2.2.2
theorem xEEAEA {T0 T1 T2 : Sort _} {P1 : T0 -> T1 -> Prop} {P2 P3 : T0 -> T1 -> T2 -> Prop} (h : ∃ a b, P1 a b /\ ∃ c, P2 a b c /\ P3 a b c) (k : ∀ a b, P1 a b -> ∀ c, P2 a b c -> P3 a b c -> G) : G := Exists.elim h fun a h => Exists.elim h fun b h => have q2 := h.1; Exists.elim h.2 fun c h => k a b q2 c h.1 h.2
theorem xEEEAA {T0 T1 T2 : Sort _} {P1 P2 P3 : T0 -> T1 -> T2 -> Prop} (h : ∃ a b c, P1 a b c /\ P2 a b c /\ P3 a b c) (k : ∀ a b c, P1 a b c -> P2 a b c -> P3 a b c -> G) : G := Exists.elim h fun a h => Exists.elim h fun b h => Exists.elim h fun c h => k a b c h.1 h.2.1 h.2.2
theorem xEEEEA {T0 T1 T2 T3 : Sort _} {P1 P2 : T0 -> T1 -> T2 -> T3 -> Prop} (h : ∃ a b c d, P1 a b c d /\ P2 a b c d) (k : ∀ a b c d, P1 a b c d -> P2 a b c d -> G) : G := Exists.elim h fun a h => Exists.elim h fun b h => Exists.elim h fun c h => Exists.elim h fun d h => k a b c d h.1 h.2
theorem xAAAAAA {P1 P2 P3 P4 P5 P6 P7 : Prop} (h : P1 /\ P2 /\ P3 /\ P4 /\ P5 /\ P6 /\ P7) (k : P1 -> P2 -> P3 -> P4 -> P5 -> P6 -> P7 -> G) : G := k h.1 h.2.1 h.2.2.1 h.2.2.2.1 h.2.2.2.2.1 h.2.2.2.2.2.1 h.2.2.2.2.2.2
theorem xAAEEEA {T0 T1 T2 : Sort _} {P1 P2 : Prop} {P3 P4 : T0 -> T1 -> T2 -> Prop} (h : P1 /\ P2 /\ ∃ a b c, P3 a b c /\ P4 a b c) (k : P1 -> P2 -> ∀ a b c, P3 a b c -> P4 a b c -> G) : G := have q0 := h.1; have q1 := h.2.1; Exists.elim h.2.2 fun a h => Exists.elim h fun b h => Exists.elim h fun c h => k q0 q1 a b c h.1 h.2
theorem xEAAAAA {T0 : Sort _} {P1 P2 P3 P4 P5 P6 : T0 -> Prop} (h : ∃ a, P1 a /\ P2 a /\ P3 a /\ P4 a /\ P5 a /\ P6 a) (k : ∀ a, P1 a -> P2 a -> P3 a -> P4 a -> P5 a -> P6 a -> G) : G := Exists.elim h fun a h => k a h.1 h.2.1 h.2.2.1 h.2.2.2.1 h.2.2.2.2.1 h.2.2.2.2.2
theorem xEEAAAA {T0 T1 : Sort _} {P1 P2 P3 P4 P5 : T0 -> T1 -> Prop} (h : ∃ a b, P1 a b /\ P2 a b /\ P3 a b /\ P4 a b /\ P5 a b) (k : ∀ a b, P1 a b -> P2 a b -> P3 a b -> P4 a b -> P5 a b -> G) : G := Exists.elim h fun a h => Exists.elim h fun b h => k a b h.1 h.2.1 h.2.2.1 h.2.2.2.1 h.2.2.2.2
theorem xEEAEAA {T0 T1 T2 : Sort _} {P1 : T0 -> T1 -> Prop} {P2 P3 P4 : T0 -> T1 -> T2 -> Prop} (h : ∃ a b, P1 a b /\ ∃ c, P2 a b c /\ P3 a b c /\ P4 a b c) (k : ∀ a b, P1 a b -> ∀ c, P2 a b c -> P3 a b c -> P4 a b c -> G) : G := Exists.elim h fun a h => Exists.elim h fun b h => have q2 := h.1; Exists.elim h.2 fun c h => k a b q2 c h.1 h.2.1 h.2.2
theorem xEEEAAA {T0 T1 T2 : Sort _} {P1 P2 P3 P4 : T0 -> T1 -> T2 -> Prop} (h : ∃ a b c, P1 a b c /\ P2 a b c /\ P3 a b c /\ P4 a b c) (k : ∀ a b c, P1 a b c -> P2 a b c -> P3 a b c -> P4 a b c -> G) : G := Exists.elim h fun a h => Exists.elim h fun b h => Exists.elim h fun c h => k a b c h.1 h.2.1 h.2.2.1 h.2.2.2
theorem xEEEEEA {T0 T1 T2 T3 T4 : Sort _} {P1 P2 : T0 -> T1 -> T2 -> T3 -> T4 -> Prop} (h : ∃ a b c d e, P1 a b c d e /\ P2 a b c d e) (k : ∀ a b c d e, P1 a b c d e -> P2 a b c d e -> G) : G := Exists.elim h fun a h => Exists.elim h fun b h => Exists.elim h fun c h => Exists.elim h fun d h => Exists.elim h fun e h => k a b c d e h.1 h.2
theorem xEEEAAAA {T0 T1 T2 : Sort _} {P1 P2 P3 P4 P5 : T0 -> T1 -> T2 -> Prop} (h : ∃ a b c, P1 a b c /\ P2 a b c /\ P3 a b c /\ P4 a b c /\ P5 a b c) (k : ∀ a b c, P1 a b c -> P2 a b c -> P3 a b c -> P4 a b c -> P5 a b c -> G) : G := Exists.elim h fun a h => Exists.elim h fun b h => Exists.elim h fun c h => k a b c h.1 h.2.1 h.2.2.1 h.2.2.2.1 h.2.2.2.2
theorem xEEEAAEA {T0 T1 T2 T3 : Sort _} {P1 P2 : T0 -> T1 -> T2 -> Prop} {P3 P4 : T0 -> T1 -> T2 -> T3 -> Prop} (h : ∃ a b c, P1 a b c /\ P2 a b c /\ ∃ d, P3 a b c d /\ P4 a b c d) (k : ∀ a b c, P1 a b c -> P2 a b c -> ∀ d, P3 a b c d -> P4 a b c d -> G) : G := Exists.elim h fun a h => Exists.elim h fun b h => Exists.elim h fun c h => have q3 := h.1; have q4 := h.2.1; Exists.elim h.2.2 fun d h => k a b c q3 q4 d h.1 h.2
theorem xEEEEEAA {T0 T1 T2 T3 T4 : Sort _} {P1 P2 P3 : T0 -> T1 -> T2 -> T3 -> T4 -> Prop} (h : ∃ a b c d e, P1 a b c d e /\ P2 a b c d e /\ P3 a b c d e) (k : ∀ a b c d e, P1 a b c d e -> P2 a b c d e -> P3 a b c d e -> G) : G := Exists.elim h fun a h => Exists.elim h fun b h => Exists.elim h fun c h => Exists.elim h fun d h => Exists.elim h fun e h => k a b c d e h.1 h.2.1 h.2.2
theorem xEEEEEEA {T0 T1 T2 T3 T4 T5 : Sort _} {P1 P2 : T0 -> T1 -> T2 -> T3 -> T4 -> T5 -> Prop} (h : ∃ a b c d e f, P1 a b c d e f /\ P2 a b c d e f) (k : ∀ a b c d e f, P1 a b c d e f -> P2 a b c d e f -> G) : G := Exists.elim h fun a h => Exists.elim h fun b h => Exists.elim h fun c h => Exists.elim h fun d h => Exists.elim h fun e h => Exists.elim h fun f h => k a b c d e f h.1 h.2
theorem xEEAAAAAA {T0 T1 : Sort _} {P1 P2 P3 P4 P5 P6 P7 : T0 -> T1 -> Prop} (h : ∃ a b, P1 a b /\ P2 a b /\ P3 a b /\ P4 a b /\ P5 a b /\ P6 a b /\ P7 a b) (k : ∀ a b, P1 a b -> P2 a b -> P3 a b -> P4 a b -> P5 a b -> P6 a b -> P7 a b -> G) : G := Exists.elim h fun a h => Exists.elim h fun b h => k a b h.1 h.2.1 h.2.2.1 h.2.2.2.1 h.2.2.2.2.1 h.2.2.2.2.2.1 h.2.2.2.2.2.2
theorem xEEEAAEAA {T0 T1 T2 T3 : Sort _} {P1 P2 : T0 -> T1 -> T2 -> Prop} {P3 P4 P5 : T0 -> T1 -> T2 -> T3 -> Prop} (h : ∃ a b c, P1 a b c /\ P2 a b c /\ ∃ d, P3 a b c d /\ P4 a b c d /\ P5 a b c d) (k : ∀ a b c, P1 a b c -> P2 a b c -> ∀ d, P3 a b c d -> P4 a b c d -> P5 a b c d -> G) : G := Exists.elim h fun a h => Exists.elim h fun b h => Exists.elim h fun c h => have q3 := h.1; have q4 := h.2.1; Exists.elim h.2.2 fun d h => k a b c q3 q4 d h.1 h.2.1 h.2.2
theorem xEEEEAAAA {T0 T1 T2 T3 : Sort _} {P1 P2 P3 P4 P5 : T0 -> T1 -> T2 -> T3 -> Prop} (h : ∃ a b c d, P1 a b c d /\ P2 a b c d /\ P3 a b c d /\ P4 a b c d /\ P5 a b c d) (k : ∀ a b c d, P1 a b c d -> P2 a b c d -> P3 a b c d -> P4 a b c d -> P5 a b c d -> G) : G := Exists.elim h fun a h => Exists.elim h fun b h => Exists.elim h fun c h => Exists.elim h fun d h => k a b c d h.1 h.2.1 h.2.2.1 h.2.2.2.1 h.2.2.2.2
theorem xEEEEEAAA {T0 T1 T2 T3 T4 : Sort _} {P1 P2 P3 P4 : T0 -> T1 -> T2 -> T3 -> T4 -> Prop} (h : ∃ a b c d e, P1 a b c d e /\ P2 a b c d e /\ P3 a b c d e /\ P4 a b c d e) (k : ∀ a b c d e, P1 a b c d e -> P2 a b c d e -> P3 a b c d e -> P4 a b c d e -> G) : G := Exists.elim h fun a h => Exists.elim h fun b h => Exists.elim h fun c h => Exists.elim h fun d h => Exists.elim h fun e h => k a b c d e h.1 h.2.1 h.2.2.1 h.2.2.2
theorem xAEEEEAAAA {T0 T1 T2 T3 : Sort _} {P1 : Prop} {P2 P3 P4 P5 P6 : T0 -> T1 -> T2 -> T3 -> Prop} (h : P1 /\ ∃ a b c d, P2 a b c d /\ P3 a b c d /\ P4 a b c d /\ P5 a b c d /\ P6 a b c d) (k : P1 -> ∀ a b c d, P2 a b c d -> P3 a b c d -> P4 a b c d -> P5 a b c d -> P6 a b c d -> G) : G := have q0 := h.1; Exists.elim h.2 fun a h => Exists.elim h fun b h => Exists.elim h fun c h => Exists.elim h fun d h => k q0 a b c d h.1 h.2.1 h.2.2.1 h.2.2.2.1 h.2.2.2.2
theorem xEEEEAAAAA {T0 T1 T2 T3 : Sort _} {P1 P2 P3 P4 P5 P6 : T0 -> T1 -> T2 -> T3 -> Prop} (h : ∃ a b c d, P1 a b c d /\ P2 a b c d /\ P3 a b c d /\ P4 a b c d /\ P5 a b c d /\ P6 a b c d) (k : ∀ a b c d, P1 a b c d -> P2 a b c d -> P3 a b c d -> P4 a b c d -> P5 a b c d -> P6 a b c d -> G) : G := Exists.elim h fun a h => Exists.elim h fun b h => Exists.elim h fun c h => Exists.elim h fun d h => k a b c d h.1 h.2.1 h.2.2.1 h.2.2.2.1 h.2.2.2.2.1 h.2.2.2.2.2
theorem xEEEEEAAAA {T0 T1 T2 T3 T4 : Sort _} {P1 P2 P3 P4 P5 : T0 -> T1 -> T2 -> T3 -> T4 -> Prop} (h : ∃ a b c d e, P1 a b c d e /\ P2 a b c d e /\ P3 a b c d e /\ P4 a b c d e /\ P5 a b c d e) (k : ∀ a b c d e, P1 a b c d e -> P2 a b c d e -> P3 a b c d e -> P4 a b c d e -> P5 a b c d e -> G) : G := Exists.elim h fun a h => Exists.elim h fun b h => Exists.elim h fun c h => Exists.elim h fun d h => Exists.elim h fun e h => k a b c d e h.1 h.2.1 h.2.2.1 h.2.2.2.1 h.2.2.2.2
theorem xEEEEEAAAAA {T0 T1 T2 T3 T4 : Sort _} {P1 P2 P3 P4 P5 P6 : T0 -> T1 -> T2 -> T3 -> T4 -> Prop} (h : ∃ a b c d e, P1 a b c d e /\ P2 a b c d e /\ P3 a b c d e /\ P4 a b c d e /\ P5 a b c d e /\ P6 a b c d e) (k : ∀ a b c d e, P1 a b c d e -> P2 a b c d e -> P3 a b c d e -> P4 a b c d e -> P5 a b c d e -> P6 a b c d e -> G) : G := Exists.elim h fun a h => Exists.elim h fun b h => Exists.elim h fun c h => Exists.elim h fun d h => Exists.elim h fun e h => k a b c d e h.1 h.2.1 h.2.2.1 h.2.2.2.1 h.2.2.2.2.1 h.2.2.2.2.2
theorem xEEEEEEEAAA {T0 T1 T2 T3 T4 T5 T6 : Sort _} {P1 P2 P3 P4 : T0 -> T1 -> T2 -> T3 -> T4 -> T5 -> T6 -> Prop} (h : ∃ a b c d e f i, P1 a b c d e f i /\ P2 a b c d e f i /\ P3 a b c d e f i /\ P4 a b c d e f i) (k : ∀ a b c d e f i, P1 a b c d e f i -> P2 a b c d e f i -> P3 a b c d e f i -> P4 a b c d e f i -> G) : G := Exists.elim h fun a h => Exists.elim h fun b h => Exists.elim h fun c h => Exists.elim h fun d h => Exists.elim h fun e h => Exists.elim h fun f h => Exists.elim h fun i h => k a b c d e f i h.1 h.2.1 h.2.2.1 h.2.2.2
theorem xEEEEEEEAAAA {T0 T1 T2 T3 T4 T5 T6 : Sort _} {P1 P2 P3 P4 P5 : T0 -> T1 -> T2 -> T3 -> T4 -> T5 -> T6 -> Prop} (h : ∃ a b c d e f i, P1 a b c d e f i /\ P2 a b c d e f i /\ P3 a b c d e f i /\ P4 a b c d e f i /\ P5 a b c d e f i) (k : ∀ a b c d e f i, P1 a b c d e f i -> P2 a b c d e f i -> P3 a b c d e f i -> P4 a b c d e f i -> P5 a b c d e f i -> G) : G := Exists.elim h fun a h => Exists.elim h fun b h => Exists.elim h fun c h => Exists.elim h fun d h => Exists.elim h fun e h => Exists.elim h fun f h => Exists.elim h fun i h => k a b c d e f i h.1 h.2.1 h.2.2.1 h.2.2.2.1 h.2.2.2.2
theorem xEEEEEEEAAAAA {T0 T1 T2 T3 T4 T5 T6 : Sort _} {P1 P2 P3 P4 P5 P6 : T0 -> T1 -> T2 -> T3 -> T4 -> T5 -> T6 -> Prop} (h : ∃ a b c d e f i, P1 a b c d e f i /\ P2 a b c d e f i /\ P3 a b c d e f i /\ P4 a b c d e f i /\ P5 a b c d e f i /\ P6 a b c d e f i) (k : ∀ a b c d e f i, P1 a b c d e f i -> P2 a b c d e f i -> P3 a b c d e f i -> P4 a b c d e f i -> P5 a b c d e f i -> P6 a b c d e f i -> G) : G := Exists.elim h fun a h => Exists.elim h fun b h => Exists.elim h fun c h => Exists.elim h fun d h => Exists.elim h fun e h => Exists.elim h fun f h => Exists.elim h fun i h => k a b c d e f i h.1 h.2.1 h.2.2.1 h.2.2.2.1 h.2.2.2.2.1 h.2.2.2.2.2
theorem xEEEEEEEEEEAA {T0 T1 T2 T3 T4 T5 T6 T7 T8 T9 : Sort _} {P1 P2 P3 : T0 -> T1 -> T2 -> T3 -> T4 -> T5 -> T6 -> T7 -> T8 -> T9 -> Prop} (h : ∃ a b c d e f i j l m, P1 a b c d e f i j l m /\ P2 a b c d e f i j l m /\ P3 a b c d e f i j l m) (k : ∀ a b c d e f i j l m, P1 a b c d e f i j l m -> P2 a b c d e f i j l m -> P3 a b c d e f i j l m -> G) : G := Exists.elim h fun a h => Exists.elim h fun b h => Exists.elim h fun c h => Exists.elim h fun d h => Exists.elim h fun e h => Exists.elim h fun f h => Exists.elim h fun i h => Exists.elim h fun j h => Exists.elim h fun l h => Exists.elim h fun m h => k a b c d e f i j l m h.1 h.2.1 h.2.2
theorem xEEEEEEEEEEEE {T0 T1 T2 T3 T4 T5 T6 T7 T8 T9 T10 T11 : Sort _} {P1 : T0 -> T1 -> T2 -> T3 -> T4 -> T5 -> T6 -> T7 -> T8 -> T9 -> T10 -> T11 -> Prop} (h : ∃ a b c d e f i j l m n o, P1 a b c d e f i j l m n o) (k : ∀ a b c d e f i j l m n o, P1 a b c d e f i j l m n o -> G) : G := Exists.elim h fun a h => Exists.elim h fun b h => Exists.elim h fun c h => Exists.elim h fun d h => Exists.elim h fun e h => Exists.elim h fun f h => Exists.elim h fun i h => Exists.elim h fun j h => Exists.elim h fun l h => Exists.elim h fun m h => Exists.elim h fun n h => Exists.elim h fun o h => k a b c d e f i j l m n o h
theorem xEEEEAAAAAAA {T0 T1 T2 T3 : Sort _} {P1 P2 P3 P4 P5 P6 P7 P8 : T0 -> T1 -> T2 -> T3 -> Prop} (h : ∃ a b c d, P1 a b c d /\ P2 a b c d /\ P3 a b c d /\ P4 a b c d /\ P5 a b c d /\ P6 a b c d /\ P7 a b c d /\ P8 a b c d) (k : ∀ a b c d, P1 a b c d -> P2 a b c d -> P3 a b c d -> P4 a b c d -> P5 a b c d -> P6 a b c d -> P7 a b c d -> P8 a b c d -> G) : G := Exists.elim h fun a h => Exists.elim h fun b h => Exists.elim h fun c h => Exists.elim h fun d h => have q1 := h.1; have q2 := h.2.1; have q3 := h.2.2.1; have q4 := h.2.2.2.1; have q5 := h.2.2.2.2.1; have q6 := h.2.2.2.2.2.1; have q7 := h.2.2.2.2.2.2.1; k a b c d q1 q2 q3 q4 q5 q6 q7 h.2.2.2.2.2.2.2
theorem xEAEEA {T0 T1 T2 : Sort _} {P1 : T0 -> Prop} {P2 P3 : T0 -> T1 -> T2 -> Prop} (h : ∃ a, P1 a /\ ∃ b c, P2 a b c /\ P3 a b c) (k : ∀ a, P1 a -> ∀ b c, P2 a b c -> P3 a b c -> G) : G := Exists.elim h fun a h => have q1 := h.1; Exists.elim h.2 fun b h => Exists.elim h fun c h => have q2 := h.1; k a q1 b c q2 h.2
end
section
open PySem PySem.W PyProof.Rows
noncomputable def onRef (v : Option Value) (f : Addr -> Bool) : Bool := match v with
  | some v => match v with
    | .ref C => f C
    | _ => false
  | none => false
theorem isRef {v : Option Value} {f : Addr -> Bool} (h : onRef v f = true) : ∃ C, v = some (.ref C) /\ f C = true := by
  rcases v with _ | v
  case none => exact absurd h Bool.false_ne_true
  case some => cases v <;> first | exact absurd h Bool.false_ne_true | exact ⟨_, rfl, h⟩
noncomputable def excLook (excs : List (Str × List Str)) (all : List Str) (h : Heap) : Bool := excs.all fun p => onRef (h.nsMap mainGlobals p.1) fun C => match h.get? C with
  | some o => match o.data with
    | .cls cd => all.all fun j => onRef (h.nsMap mainGlobals j) fun D => cd.mro.contains (.ref D) == p.2.contains j
    | _ => false
  | none => false
noncomputable def ExcSaid (excs : List (Str × List Str)) (all : List Str) (mg : Str -> Option Value) (h : Heap) : Prop :=
  ∀ p ∈ excs, ∀ j ∈ all, ∃ C D o cd, mg p.1 = some (.ref C) /\ mg j = some (.ref D) /\ h.get? C = some o /\ o.data = .cls cd /\ cd.mro.contains (.ref D) = p.2.contains j
theorem excSaid_of {excs : List (Str × List Str)} {all : List Str} {h : Heap} (e : excLook excs all h = true) : ExcSaid excs all (h.nsMap mainGlobals) h := by
  intro p hp j hj
  have h1 := List.all_eq_true.mp e p hp
  refine xEA (isRef h1) fun C hC h1 => ?_
  rcases ho : h.get? C with _ | o <;> rw [ho] at h1
  case none => exact absurd h1 Bool.false_ne_true
  case some =>
    dsimp only at h1
    rcases hd : o.data with _ | _ | _ | _ | _ | _ | _ | _ | cd | _ <;> rw [hd] at h1 <;> try exact absurd h1 Bool.false_ne_true
    refine xEA (isRef (List.all_eq_true.mp h1 j hj)) fun D hD h2 => ?_
    exact ⟨C, D, o, cd, hC, hD, ho, hd, eq_of_beq h2⟩
theorem ExcSaid.keeps {excs : List (Str × List Str)} {all : List Str} (mg : Str -> Option Value) (h h' : Heap) (x : ExcSaid excs all mg h) (k : ∀ b o, h.get? b = some o -> h'.get? b = some o) : ExcSaid excs all mg h' :=
  fun p hp j hj => xEEEEA (x p hp j hj) fun C D o cd a q => ⟨C, D, o, cd, a, q.1, k _ _ q.2.1, q.2.2⟩
end
section
open PySem PySem.W PyProof.Rows
noncomputable def q09 : Program := view PySem.Challenge.pw_uf040007_09 [0, 2, 3, 4, 5, 6, 7, 8, 10, 11, 12, 13, 15, 16, 17, 18, 19, 20, 21, 23, 24, 25, 26, 27, 29, 30, 31, 32, 33, 34, 35, 36, 37, 38, 39, 40, 41, 42, 43]
noncomputable def ex09 : List (Str × List Str) := [("NestError", ["NestError"]), ("NoNests", ["NoNests", "NestError"]), ("NoName", ["NoName", "NestError"]), ("NoValue", ["NoValue", "NestError"]), ("NoNest", ["NoNest", "NestError"]), ("NoRoom", ["NoRoom", "NestError"]), ("Unknown", ["Unknown", "NestError"])]
noncomputable def al09 : List Str := ["NestError", "NoNests", "NoName", "NoValue", "NoNest", "NoRoom", "Unknown"]
noncomputable def xt09 (s : Shared) : Bool := (xlAt q09 [] s && recOk (RowW.records (OpenRow.toRowW PySem.Challenge.rw_uf040007_09.row)) s) && excLook ex09 al09 s.heap
theorem left09 : LeftO PySem.Challenge.pw_uf040007_09 q09 [] xt09 (Hook.obs Hook.none) (Hook.val Hook.none) 6306 := by
  intro w
  unfold openEnds fencedOpening topFrom
  rw [PySem.W.Fast.te14364793385576792824, PySem.W.Fast.te10274390034422433532, PySem.W.Fast.te14082659384304107361, PySem.W.Fast.te1435165496053646825, PySem.W.Fast.te14289696077712309145, PySem.W.Fast.te8920871248978507458, PySem.W.Fast.te4187177175401517315]
  kernel_rfl
end
end Mine.Internal
set_option genSizeOf false
set_option genSizeOfSpec false
set_option genInjectivity false
namespace Mine.Internal
section
open PySem
inductive AV where
  | none
  | bool (b : Bool)
  | int (i : Int)
  | str (s : List Nat)
  | tup (vs : List AV)
  | loc (n : Nat)
  | rng (a b s : Int)
  | scr (xs : List Int)
  | dit (n len ep : Nat)
set_option genInjectivity true in
inductive Key where
  | str (s : List Nat)
  | pair (a b : Int)
  | int (i : Int)
  deriving DecidableEq
inductive AObj where
  | list (vs : List AV)
  | dict (kvs : List (Key × AV)) (ep : Nat)
  | inst (k : Nat)
  | ns (fs : List (Str × AV))
abbrev AHeap := List AObj
abbrev Locs := List (Option AV)
inductive Res (α : Type) where
  | ok (a : α) (h : AHeap)
  | exc (k : Str) (h : AHeap)
  | bad
inductive COp where
  | eq | ne | lt | le | gt | ge | isin | notin
inductive BOp where
  | add | sub | mul | div | mod | pow
inductive BI where
  | len | sorted | list
inductive BM where
  | append | get | index | pop | remove
inductive Ty where
  | int | bool | str | tuple | list
mutual
inductive X where
  | none
  | bool (b : Bool)
  | int (i : Int)
  | str (s : List Nat)
  | loc (i : Nat)
  | bin (op : BOp) (l r : X)
  | neg (x : X)
  | not (x : X)
  | and (l r : X)
  | or (l r : X)
  | cmp (op : COp) (l r : X)
  | cmp2 (o1 o2 : COp) (l m r : X)
  | isn (b : Bool) (x : X)
  | call (f : Str) (as : Xs)
  | bi (b : BI) (as : Xs)
  | isi (x : X) (t : Ty)
  | new (as : Xs)
  | im (m : Str) (o : X) (as : Xs)
  | bm (m : BM) (o : X) (as : Xs)
  | attr (a : Str) (o : X)
  | sub (o i : X)
  | slice (o lo hi : X)
  | tup (es : Xs)
  | list (es : Xs)
  | dict0
  | dict1 (k v : X)
  | range (as : Xs)
  | keys (x : X)
  | comp (e : X) (k j : Nat) (it : X) (cs : Xs)
inductive Xs where
  | nil
  | cons (x : X) (xs : Xs)
end
mutual
inductive S where
  | expr (x : X)
  | ret (x : X)
  | asg (i : Nat) (x : X)
  | setitem (o k x : X)
  | setattr (a : Str) (o x : X)
  | iff (c : X) (a b : Ss)
  | whil (c : X) (b : Ss)
  | forr (i : Nat) (it : X) (b : Ss)
  | raise (k : Str)
  | tryx (b : Ss) (hs : Hs)
  | asgt (is : List Nat) (x : X)
  | fort (is : List Nat) (it : X) (b : Ss)
  | cont
  | bad
inductive Ss where
  | nil
  | cons (s : S) (r : Ss)
inductive Hs where
  | nil
  | cons (ks : List Str) (b : Ss) (r : Hs)
end
structure FDef where
  params : Nat
  slots : Nat
  body : Ss
end
section
open PySem
structure Cx where
  sc : Scope
  loc : List (Str × Nat)
  n : Nat
  funs : List Str
  meths : List Str
  attrs : List Str
  cls : Str
  consts : List (Str × Const)
  excs : List (Str × List Str)
  dicts : List Str
noncomputable def isLocKind : NameKind -> Bool
  | .local | .cell | .free => true
  | _ => false
noncomputable def plainName (x : Str) : Bool := x != ("__debug__" : Str) && x != ("__classdict__" : Str)
noncomputable def Cx.slot (c : Cx) (x : Str) : Option Nat := (c.sc.names.lookup x).bind fun k => if isLocKind k && plainName x then c.loc.lookup x else none
noncomputable def Cx.isGlob (c : Cx) (x : Str) : Bool := c.sc.names.lookup x == some .globalImplicit && plainName x
noncomputable def Cx.slotW (c : Cx) (x : Str) : Option Nat :=
  match c.sc.names.lookup x with
  | some .local | some .cell => c.slot x
  | _ => none
noncomputable def isComp : Expr -> Bool
  | .ListComp .. | .SetComp .. | .DictComp .. | .GeneratorExp .. => true
  | _ => false
noncomputable def compBOp : Operator -> Option BOp
  | .Add => some .add | .Sub => some .sub | .Mult => some .mul | .FloorDiv => some .div | .Mod => some .mod | .Pow => some .pow
  | _ => none
noncomputable def compCOp : CmpOp -> Option COp
  | .Eq => some .eq | .NotEq => some .ne | .Lt => some .lt | .LtE => some .le | .Gt => some .gt | .GtE => some .ge
  | .In => some .isin | .NotIn => some .notin
  | _ => none
noncomputable def biOf (x : Str) : Option BI := if x == ("len" : Str) then some .len else if x == ("sorted" : Str) then some .sorted else if x == ("list" : Str) then some .list else none
noncomputable def tyOf (x : Str) : Option Ty := if x == ("int" : Str) then some .int else if x == ("bool" : Str) then some .bool else if x == ("str" : Str) then some .str else if x == ("tuple" : Str) then some .tuple else if x == ("list" : Str) then some .list else none
noncomputable def tgtName : Expr -> Option Str
  | .Name x _ => some x
  | _ => none
noncomputable def compTy (c : Cx) (e : Expr) : Option Ty := (tgtName e).bind fun x => if c.isGlob x then tyOf x else none
noncomputable def ownNames (scope : Scope) : List Str := scope.names.filterMap fun p => if p.2 == .local && p.1 != (".0" : Str) then some p.1 else none
noncomputable def innerCx (c : Cx) (scope : Scope) : Cx :=
  { c with sc := scope, loc := (ownNames scope).zipIdx c.n ++ c.loc, n := c.n + (ownNames scope).length }
noncomputable def innerName (c : Cx) (p : Str × NameKind) : Bool := match p.2 with
  | .local => p.1 != (".0" : Str) || (c.loc.lookup p.1).isNone
  | .free => c.sc.names.lookup p.1 == some .cell && (c.slot p.1).isSome
  | .globalImplicit => true
  | _ => false
noncomputable def innerOk (c : Cx) (scope : Scope) : Bool :=
  scope.kind == .function && decide (scope.names.map (·.1)).Nodup && scope.names.all (innerName c)
noncomputable def compTyArgs (c : Cx) (as : List Expr) : Option Ty := match as with
  | [] => none
  | _ :: r => match r with
    | [] => none
    | t :: r => match r with
      | [] => compTy c t
      | _ => none
noncomputable def newOf (as : Xs) : Option X := match as with
  | .nil => none
  | as => some (.new as)
noncomputable def compCall (c : Cx) (f : Str) (as : Xs) : Option X :=
  if c.funs.contains f && !c.meths.contains f then some (.call f as)
  else if f == c.cls then newOf as
  else if f == ("range" : Str) then some (.range as)
  else match biOf f with
    | some b => some (.bi b as)
    | none => none
noncomputable def notSuper : Expr -> Bool
  | .Name .. => true
  | .Subscript .. => true
  | .Attribute .. => true
  | .Call f _ _ _ => match f with
    | .Attribute .. => true
    | _ => false
  | _ => false
noncomputable def bmOf (x : Str) : Option BM := if x == ("append" : Str) then some .append else if x == ("get" : Str) then some .get else if x == ("index" : Str) then some .index else if x == ("pop" : Str) then some .pop else if x == ("remove" : Str) then some .remove else none
noncomputable def compMeth (c : Cx) (m : Str) (o : X) (as : Xs) : Option X :=
  if c.funs.contains m && c.meths.contains m then some (.im m o as)
  else match bmOf m with
    | some b => some (.bm b o as)
    | none => none
noncomputable def compConst : Const -> Option X
  | .none => some .none
  | .bool b => some (.bool b)
  | .int i => some (.int i)
  | .str s => some (.str s.cps.toList)
  | _ => none
noncomputable def compName (c : Cx) (x : Str) : Option X :=
  match c.slot x with
  | some i => some (.loc i)
  | none => if c.isGlob x then (c.consts.lookup x).bind compConst else none
noncomputable def compUn (op : UnaryOp) (x : X) : Option X := match op with
  | .USub => some (.neg x)
  | .Not => some (.not x)
  | _ => none
noncomputable def isNone : Expr -> Bool
  | .Constant v _ _ => match v with
    | .none => true
    | _ => false
  | _ => false
noncomputable def isnOf : CmpOp -> Option Bool
  | .Is => some true
  | .IsNot => some false
  | _ => none
noncomputable def compIsn (ops : List CmpOp) (rs : List Expr) (l : X) : Option X := match ops with
  | [] => none
  | op :: r => match r with
    | [] => match rs with
      | [] => none
      | e :: q => match q with
        | [] => if isNone e then (isnOf op).map fun b => .isn b l else none
        | _ => none
    | _ => none
noncomputable def compCmp1 (ops : List CmpOp) (l : X) (rs : Xs) : Option X := match ops with
  | [] => none
  | op :: ops => match rs with
    | .nil => none
    | .cons r rs => match ops with
      | [] => match rs with
        | .nil => (compCOp op).map fun o => .cmp o l r
        | _ => none
      | op2 :: ops => match ops with
        | [] => match rs with
          | .nil => none
          | .cons r2 rs => match rs with
            | .nil => do return .cmp2 (<- compCOp op) (<- compCOp op2) l r r2
            | _ => none
        | _ => none
noncomputable def compBool (f : Expr -> Option X) (op : BoolOp) : List Expr -> Option X
  | [] => none
  | x :: r => match r with
    | [] => f x
    | _ => do
      let a <- f x
      let b <- compBool f op r
      return match op with | .And => .and a b | .Or => .or a b
noncomputable def compEs (f : Expr -> Option X) : List Expr -> Option Xs
  | [] => some .nil
  | e :: r => do return .cons (<- f e) (<- compEs f r)
noncomputable def compHead (f : Expr -> Option X) : List Expr -> Option X
  | [] => none
  | e :: _ => f e
noncomputable def compPart (f : Expr -> Option X) : Option Expr -> Option X
  | none => some .none
  | some e => f e
noncomputable def asTgt : Expr -> Option Str
  | .Name x _ => some x
  | _ => none
noncomputable def compIt (f : Expr -> Option X) (c : Cx) (it : Expr) : Option X := (f it).map fun x => if ((asTgt it).map c.dicts.contains).getD false then .keys x else x
noncomputable def compLC (f : Cx -> Expr -> Option X) (c : Cx) (elt : Expr) (gens : List Comprehension) (scope : Scope) : Option X := match gens with
  | [] => none
  | g :: r => match r with
    | [] => if g.is_async == 0 && innerOk c scope && decide (g.ifs.length <= 1) then do
        let x <- asTgt g.target
        if scope.names.lookup x == some .local then do
          return .comp (<- f (innerCx c scope) elt) (ownNames scope).length (<- (innerCx c scope).slotW x) (<- compIt (f c) c g.iter) (<- compEs (f (innerCx c scope)) g.ifs)
        else none
      else none
    | _ => none
noncomputable def compDict (f : Expr -> Option X) (ks : List (Option Expr)) (vs : List Expr) : Option X := match ks with
  | [] => if vs.isEmpty then some .dict0 else none
  | k :: r => if r.isEmpty then match vs with
    | [] => none
    | v :: q => if q.isEmpty then k.bind fun k => (f k).bind fun k => (f v).map fun v => .dict1 k v else none
    else none
noncomputable def stepE (f : Cx -> Expr -> Option X) (c : Cx) : Expr -> Option X
  | .Constant v _ _ => compConst v
  | .Name x _ => compName c x
  | .BinOp l op r _ => do return .bin (<- compBOp op) (<- f c l) (<- f c r)
  | .UnaryOp op x _ => do compUn op (<- f c x)
  | .BoolOp op vs _ => compBool (f c) op vs
  | .Compare l ops rs _ => do
    let x <- f c l
    match compIsn ops rs x with
    | some y => some y
    | none => do compCmp1 ops x (<- compEs (f c) rs)
  | .Call g as ks pos => match ks with
    | [] => match g with
      | .Name g _ => if !c.isGlob g then none
        else if g == ("isinstance" : Str) then do return .isi (<- compHead (f c) as) (<- compTyArgs c as)
        else do compCall c g (<- compEs (f c) as)
      | .Attribute o m ap => if !(ap.endLine == pos.line && notSuper o && decide (as.length < 20)) then none
        else do compMeth c m (<- f c o) (<- compEs (f c) as)
      | _ => none
    | _ => none
  | .Attribute o a _ => if c.attrs.contains a && notSuper o then do return .attr a (<- f c o) else none
  | .Subscript o i _ => match i with
    | .Slice lo hi st _ => match st with
      | none => do return .slice (<- f c o) (<- compPart (f c) lo) (<- compPart (f c) hi)
      | _ => none
    | i => do return .sub (<- f c o) (<- f c i)
  | .Tuple es _ _ => do return .tup (<- compEs (f c) es)
  | .List es _ => do return .list (<- compEs (f c) es)
  | .Dict ks vs _ => compDict (f c) ks vs
  | .ListComp elt gens scope _ => compLC f c elt gens scope
  | _ => none
noncomputable def compE : Nat -> Cx -> Expr -> Option X
  | 0, _, _ => none
  | n + 1, c, e => stepE (compE n) c e
noncomputable def deep : Nat := 30
noncomputable def putOk (c : Cx) (y : Str) (py : Pos) (v : Expr) : Bool := match v with
  | .ListComp _ _ scope pos => c.sc.names.lookup y == some .local && py.line == pos.line && !(scope.names.any fun p => p.1 == y && (p.2 == .local || p.2 == .cell))
  | _ => true
noncomputable def tgtOf (c : Cx) (t : Expr) : Option Nat := (tgtName t).bind c.slotW
noncomputable def isTup : Expr -> Bool
  | .Tuple .. => true
  | _ => false
noncomputable def tgtsOf (c : Cx) : List Expr -> Option (List Nat)
  | [] => some []
  | t :: r => do return (<- tgtOf c t) :: (<- tgtsOf c r)
noncomputable def compAsg (c : Cx) (ts : List Expr) (v : Expr) : Option S := match ts with
  | [t] => match t with
    | .Name x p => if putOk c x p v then do return .asg (<- c.slotW x) (<- compE deep c v) else none
    | .Subscript o k _ => if isComp v then none else do return .setitem (<- compE deep c o) (<- compE deep c k) (<- compE deep c v)
    | .Attribute o a _ => if c.attrs.contains a && notSuper o && !isComp v then do return .setattr a (<- compE deep c o) (<- compE deep c v) else none
    | .Tuple ts _ _ => if isComp v || isTup v then none else do return .asgt (<- tgtsOf c ts) (<- compE deep c v)
    | _ => none
  | _ => none
noncomputable def compSs (g : Stmt -> Option S) : List Stmt -> Option Ss
  | [] => some .nil
  | s :: r => do return .cons (<- g s) (<- compSs g r)
noncomputable def compExc (c : Cx) (e : Expr) : Option S := match e with
  | .Call f as ks _ => match f with
    | .Name k _ => match as with
      | [a] => match a with
        | .Constant v _ _ => match v with
          | .str _ => if ks.isEmpty && c.isGlob k && (c.excs.lookup k).isSome then some (.raise k) else none
          | _ => none
        | _ => none
      | _ => none
    | _ => none
  | _ => none
noncomputable def taken (excs : List (Str × List Str)) (j : Str) : List Str := (excs.map (·.1)).filter fun k => match excs.lookup k with
  | some ks => ks.contains j
  | none => false
noncomputable def compHs (g : Stmt -> Option S) (c : Cx) : List ExceptHandler -> Option Hs
  | [] => some .nil
  | h :: r => match h with
    | .ExceptHandler t n b _ => match t with
      | some t => match t with
        | .Name k _ => if c.isGlob k && n.isNone && !b.isEmpty && (c.excs.any fun p => p.2.contains k) then do
            return .cons (taken c.excs k) (<- compSs g b) (<- compHs g c r) else none
        | _ => none
      | none => none
noncomputable def stepS (g : Stmt -> Option S) (c : Cx) : Stmt -> Option S
  | .Expr x _ => if isComp x then none else do return .expr (<- compE deep c x)
  | .Return v _ => match v with
    | some x => do return .ret (<- compE deep c x)
    | none => none
  | .Assign ts v _ => compAsg c ts v
  | .If t a b _ => do return .iff (<- compE deep c t) (<- compSs g a) (<- compSs g b)
  | .While t b o _ => if o.isEmpty then do return .whil (<- compE deep c t) (<- compSs g b) else none
  | .For t it b o _ => if o.isEmpty then match t with
      | .Tuple ts _ _ => do return .fort (<- tgtsOf c ts) (<- compIt (compE deep c) c it) (<- compSs g b)
      | t => do return .forr (<- tgtOf c t) (<- compIt (compE deep c) c it) (<- compSs g b)
    else none
  | .Raise e cause _ => match cause with
    | some _ => none
    | none => e.bind (compExc c)
  | .Try b hs o f _ => if o.isEmpty && f.isEmpty && !hs.isEmpty then do return .tryx (<- compSs g b) (<- compHs g c hs) else none
  | .Continue _ => some .cont
  | _ => none
noncomputable def compS : Nat -> Cx -> Stmt -> Option S
  | 0, _, _ => none
  | n + 1, c, s => match stepS (compS n c) c s with
    | some x => some x
    | none => some .bad
noncomputable def slotNames (ps : List Str) (sc : Scope) : List Str :=
  ps ++ sc.names.filterMap fun p => if isLocKind p.2 && !ps.contains p.1 then some p.1 else none
noncomputable def defOk (args : Arguments) (sc : Scope) : Bool :=
  args.posonlyargs.isEmpty && args.kwonlyargs.isEmpty && args.vararg.isNone && args.kwarg.isNone && sc.kind == .function && !sc.isGenerator && !sc.isCoroutine &&
  decide (args.args.map (·.arg)).Nodup && decide (sc.names.map (·.1)).Nodup && sc.names.all (fun p => p.2 != .free) &&
  (args.args.map (·.arg)).all (fun x => sc.names.lookup x == some .local || sc.names.lookup x == some .cell)
structure Sh where
  funs : List Str
  meths : List Str
  attrs : List Str
  cls : Str
  consts : List (Str × Const)
  excs : List (Str × List Str)
  dicts : List Str
noncomputable def defCx (sh : Sh) (ps : List Str) (sc : Scope) : Cx := { sc := sc, loc := (slotNames ps sc).zipIdx, n := (slotNames ps sc).length, funs := sh.funs, meths := sh.meths, attrs := sh.attrs, cls := sh.cls, consts := sh.consts, excs := sh.excs, dicts := sh.dicts }
noncomputable def compDef (sh : Sh) (args : Arguments) (body : List Stmt) (sc : Scope) : Option FDef := do
  let ps := args.args.map (·.arg)
  let ns := slotNames ps sc
  if !defOk args sc then none
  let b <- compSs (compS deep (defCx sh ps sc)) body
  return ⟨ps.length, ns.length, b⟩
abbrev Prog := List (Str × FDef)
end
section
open PySem
noncomputable def sizeLim : Nat := 2 ^ 20
namespace Res
noncomputable def bind {α β : Type} (r : Res α) (f : α -> AHeap -> Res β) : Res β := match r with
  | .ok a h => f a h
  | .exc k h => .exc k h
  | .bad => .bad
end Res
noncomputable def Key.av : Key -> AV
  | .str s => .str s
  | .pair a b => .tup [.int a, .int b]
  | .int i => .int i
noncomputable def intOf : AV -> Option Int
  | .int i => some i
  | _ => none
noncomputable def AV.key? : AV -> Option Key
  | .str s => some (.str s)
  | .int i => some (.int i)
  | .tup xs => match xs with
    | [x, y] => (intOf x).bind fun a => (intOf y).bind fun b => some (.pair a b)
    | _ => Option.none
  | _ => Option.none
noncomputable def Key.sort : Key -> Nat
  | .str _ => 0
  | .pair _ _ => 1
  | .int _ => 2
noncomputable def sortOk (kvs : List (Key × AV)) (k : Key) : Bool := kvs.all fun p => p.1.sort == k.sort
noncomputable def and2 (a b : Option Bool) : Option Bool := a.bind fun x => b.map fun y => x && y
noncomputable def or2 (a b : Option Bool) : Option Bool := a.bind fun x => b.map fun y => x || y
noncomputable def eqAll (f : AV -> AV -> Option Bool) : List AV -> List AV -> Option Bool
  | [], ys => some ys.isEmpty
  | x :: xs, ys => match ys with
    | [] => some false
    | y :: ys => and2 (f x y) (eqAll f xs ys)
noncomputable def listAt (h : AHeap) (n : Nat) : Option (List AV) := match h[n]? with
  | some o => match o with
    | .list xs => some xs
    | _ => none
  | none => none
noncomputable def dictAt (h : AHeap) (n : Nat) : Option (List (Key × AV) × Nat) := match h[n]? with
  | some o => match o with
    | .dict kvs ep => some (kvs, ep)
    | _ => none
  | none => none
noncomputable def eqL (f : AV -> AV -> Option Bool) (a b : Option (List AV)) : Option Bool := match a, b with
  | some xs, some ys => if xs.length = ys.length then eqAll f xs ys else some false
  | _, _ => none
noncomputable def instAt (h : AHeap) (n : Nat) : Option (List (Str × AV)) := match h[n]? with
  | some o => match o with
    | .inst k => match h[k]? with
      | some o => match o with
        | .ns fs => some fs
        | _ => none
      | none => none
    | _ => none
  | none => none
noncomputable def someV (h : AHeap) (v : AV) : Option Bool := match v with
  | .int _ => some false
  | .str _ => some false
  | .tup _ => some false
  | .loc i => (listAt h i).map fun _ => false
  | _ => none
noncomputable def eqv (h : AHeap) : Nat -> AV -> AV -> Option Bool
  | 0, _, _ => none
  | n + 1, a, b => match a with
    | .none => match b with
      | .none => some true
      | b => someV h b
    | .int x => match b with
      | .int y => some (decide (x = y))
      | .none => some false
      | _ => none
    | .str x => match b with
      | .str y => some (decide (x = y))
      | .none => some false
      | _ => none
    | .tup xs => match b with
      | .tup ys => eqAll (eqv h n) xs ys
      | .none => some false
      | _ => none
    | .loc i => match b with
      | .loc j => eqL (eqv h n) (listAt h i) (listAt h j)
      | .none => (listAt h i).map fun _ => false
      | _ => none
    | _ => none
noncomputable def eqFuel : Nat := 6
noncomputable def cmpOrd (op : COp) (x y : Int) : Option Bool := match op with
  | .lt => some (decide (x < y))
  | .le => some (decide (x <= y))
  | .gt => some (decide (y < x))
  | .ge => some (decide (y <= x))
  | _ => none
noncomputable def ordAV (op : COp) (a b : AV) : Option Bool := match a with
  | .int x => match b with
    | .int y => cmpOrd op x y
    | _ => none
  | .str x => match b with
    | .str y => match op with
      | .le => some (!decide (y < x))
      | _ => none
    | _ => none
  | _ => none
noncomputable def findEq (h : AHeap) (v : AV) : List AV -> Option Bool
  | [] => some false
  | x :: r => or2 (eqv h eqFuel x v) (findEq h v r)
noncomputable def inDict (kvs : List (Key × AV)) (k : Option Key) : Option Bool := match k with
  | some k => if sortOk kvs k then some (kvs.lookup k).isSome else none
  | none => none
noncomputable def chrOf (v : AV) : Option Nat := match v with
  | .str x => match x with
    | [] => none
    | c :: r => match r with
      | [] => some c
      | _ => none
  | _ => none
noncomputable def isIn (h : AHeap) (v c : AV) : Option Bool := match c with
  | .tup xs => findEq h v xs
  | .loc n => match h[n]? with
    | some o => match o with
      | .list xs => findEq h v xs
      | .dict kvs _ => inDict kvs v.key?
      | _ => none
    | none => none
  | .str y => (chrOf v).map fun c => decide (c ∈ y)
  | _ => none
noncomputable def cmpAV (h : AHeap) (op : COp) (a b : AV) : Option Bool := match op with
  | .eq => eqv h eqFuel a b
  | .ne => (eqv h eqFuel a b).map not
  | .isin => isIn h a b
  | .notin => (isIn h a b).map not
  | op => ordAV op a b
noncomputable def mulOk (a b : Int) : Bool := decide (a.natAbs < 2 ^ 64) || decide (b.natAbs < 2 ^ 64)
noncomputable def newList (vs : List AV) (h : AHeap) : Res AV := if vs.length <= sizeLim then .ok (.loc h.length) (h ++ [.list vs]) else .bad
noncomputable def newListO (vs : Option (List AV)) (h : AHeap) : Res AV := match vs with
  | some vs => newList vs h
  | none => .bad
noncomputable def okO (v : Option AV) (h : AHeap) : Res AV := match v with
  | some v => .ok v h
  | none => .bad
noncomputable def binI (op : BOp) (x y : Int) (h : AHeap) : Res AV := match op with
  | .add => .ok (.int (x + y)) h
  | .sub => .ok (.int (x - y)) h
  | .mul => if mulOk x y then .ok (.int (x * y)) h else .bad
  | .div => if y = 0 then .bad else .ok (.int (x.fdiv y)) h
  | .mod => if y = 0 then .bad else .ok (.int (x.fmod y)) h
  | .pow => if 0 <= y /\ y <= 100 /\ x.natAbs < 2 ^ 64 then .ok (.int (x ^ y.toNat)) h else .bad
noncomputable def isAdd : BOp -> Bool
  | .add => true
  | _ => false
noncomputable def addS (x y : List Nat) (h : AHeap) : Res AV := if x.length + y.length <= sizeLim then .ok (.str (x ++ y)) h else .bad
noncomputable def catL (a b : Option (List AV)) : Option (List AV) := match a, b with
  | some xs, some ys => some (xs ++ ys)
  | _, _ => none
noncomputable def isMul : BOp -> Bool
  | .mul => true
  | _ => false
noncomputable def mulL (a : Option (List AV)) (k : Int) : Option (List AV) := a.bind fun xs => match xs with
  | [] => none
  | x :: r => if r.isEmpty && decide (0 <= k) && decide (k <= 1000) then some (List.replicate k.toNat x) else none
noncomputable def binAV (op : BOp) (a b : AV) (h : AHeap) : Res AV := match a with
  | .int x => match b with
    | .int y => binI op x y h
    | _ => .bad
  | .str x => match b with
    | .str y => if isAdd op then addS x y h else .bad
    | _ => .bad
  | .loc n => match b with
    | .loc m => if isAdd op then newListO (catL (listAt h n) (listAt h m)) h else .bad
    | .int k => if isMul op then newListO (mulL (listAt h n) k) h else .bad
    | _ => .bad
  | _ => .bad
noncomputable def negAV (a : AV) (h : AHeap) : Res AV := match a with
  | .int x => .ok (.int (-x)) h
  | _ => .bad
noncomputable def lenAV (a : AV) (h : AHeap) : Res AV := match a with
  | .str xs => if xs.length <= sizeLim then .ok (.int xs.length) h else .bad
  | .tup xs => if xs.length <= sizeLim then .ok (.int xs.length) h else .bad
  | .scr xs => if xs.length <= sizeLim then .ok (.int xs.length) h else .bad
  | .loc n => match h[n]? with
    | some o => match o with
      | .list xs => .ok (.int xs.length) h
      | .dict kvs _ => .ok (.int kvs.length) h
      | _ => .bad
    | none => .bad
  | _ => .bad
noncomputable def rngLen (a b s : Int) : Nat := if s = 1 then (b - a).toNat else if s = -1 then (a - b).toNat else 0
noncomputable def rngItems (a b s : Int) : List AV := (List.range (rngLen a b s)).map fun (k : Nat) => .int (a + s * k)
noncomputable def walkOf (h : AHeap) (n : Nat) : Option (List AV) := match h[n]? with
  | some o => match o with
    | .list xs => some xs
    | .dict kvs _ => some (kvs.map fun p => p.1.av)
    | _ => none
  | none => none
noncomputable def itemsAV (a : AV) (h : AHeap) : Option (List AV) := match a with
  | .str x => if x.all (fun c => decide (c < 128)) then some (x.map fun c => .str [c]) else none
  | .tup xs => some xs
  | .loc n => listAt h n
  | .dit n len ep => (dictAt h n).bind fun d => if d.1.length = len /\ d.2 = ep then some (d.1.map fun p => p.1.av) else none
  | .rng a b s => if (s = 1 \/ s = -1) /\ a.natAbs <= sizeLim /\ b.natAbs <= sizeLim then some (rngItems a b s) else none
  | _ => none
noncomputable def dictPut (kvs : List (Key × AV)) (k : Key) (v : AV) : List (Key × AV) :=
  if kvs.any (fun p => p.1 == k) then kvs.map (fun p => if p.1 == k then (p.1, v) else p) else kvs ++ [(k, v)]
noncomputable def setD (h : AHeap) (n : Nat) (kvs : List (Key × AV)) (ep : Nat) (v : AV) (k : Option Key) : Option AHeap := match k with
  | some k => if sortOk kvs k && decide (kvs.length < sizeLim) then some (h.set n (.dict (dictPut kvs k v) (if (kvs.lookup k).isSome then ep else ep + 1))) else none
  | none => none
noncomputable def setL (h : AHeap) (n : Nat) (xs : List AV) (v : AV) (k : Option Int) : Option AHeap := k.bind fun i => if 0 <= i /\ i < xs.length then some (h.set n (.list (xs.set i.toNat v))) else none
noncomputable def setItemAV (o k v : AV) (h : AHeap) : Option AHeap := match o with
  | .loc n => match h[n]? with
    | some ob => match ob with
      | .dict kvs ep => setD h n kvs ep v k.key?
      | .list xs => setL h n xs v (intOf k)
      | _ => none
    | none => none
  | _ => none
noncomputable def lexLt (a b : Int × Int) : Bool := decide (a.1 < b.1) || (decide (a.1 = b.1) && decide (a.2 < b.2))
noncomputable def runT {α : Type} (lt : Nat -> Nat -> Bool) : PySem.W.KasT α -> α
  | .ret a => a
  | .ask i j k => runT lt (k (lt i j))
noncomputable def pairOf (v : AV) : Option (Int × Int) := match v.key? with
  | some k => match k with
    | .pair a b => some (a, b)
    | _ => none
  | none => none
noncomputable def allOf {α : Type} (f : AV -> Option α) : List AV -> Option (List α)
  | [] => some []
  | v :: r => (f v).bind fun p => (allOf f r).bind fun ps => some (p :: ps)
noncomputable def strOf : AV -> Option (List Nat)
  | .str s => some s
  | _ => none
noncomputable def pairAV (p : Int × Int) : AV := .tup [.int p.1, .int p.2]
noncomputable def atP (ps : List (Int × Int)) (i : Nat) : Int × Int := ps.getD i (0, 0)
noncomputable def orderOf (ps : List (Int × Int)) : List Nat := (runT (fun i j => lexLt (atP ps i) (atP ps j)) (PySem.W.kas_sort ps.length)).toList
noncomputable def sortP (ps : List (Int × Int)) : Option (List AV) := if ps.length < 2 then some (ps.map pairAV)
  else if ps.length < 64 then some ((orderOf ps).map fun i => pairAV (atP ps i)) else none
noncomputable def leS (a b : List Nat) : Bool := !decide (b < a)
noncomputable def sortS (ss : List (List Nat)) : Option (List AV) := if ss.length < 64 then some ((ss.mergeSort leS).map .str) else none
noncomputable def sortI (is : List Int) : Option (List AV) := if is.length < 64 then some ((is.mergeSort fun a b => decide (a <= b)).map .int) else none
noncomputable def sortK3 (xs : List AV) : Option (List AV) := match allOf pairOf xs with
  | some ps => sortP ps
  | none => (allOf intOf xs).bind sortI
noncomputable def sortL (h : AHeap) (n : Nat) : Option (List AV) := match listAt h n with
  | some xs => (allOf strOf xs).bind sortS
  | none => (dictAt h n).bind fun d => sortK3 (d.1.map fun p => p.1.av)
noncomputable def biAV (b : BI) (as : List AV) (h : AHeap) : Res AV := match as with
  | [a] => match b with
    | .len => lenAV a h
    | .list => match a with
      | .loc n => newListO (walkOf h n) h
      | _ => .bad
    | .sorted => match a with
      | .loc n => newListO (sortL h n) h
      | _ => .bad
  | _ => .bad
noncomputable def appendAV (o : AV) (as : List AV) (h : AHeap) : Res AV := match o with
  | .loc n => match as with
    | [v] => match listAt h n with
      | some xs => if xs.length < sizeLim then .ok .none (h.set n (.list (xs ++ [v]))) else .bad
      | none => .bad
    | _ => .bad
  | _ => .bad
noncomputable def getD (kvs : List (Key × AV)) (k : Option Key) : Option AV := match k with
  | some k => if sortOk kvs k then some ((kvs.lookup k).getD .none) else none
  | none => none
noncomputable def getAV (o : AV) (as : List AV) (h : AHeap) : Res AV := match o with
  | .loc n => match as with
    | [v] => match dictAt h n with
      | some d => okO (getD d.1 v.key?) h
      | none => .bad
    | _ => .bad
  | _ => .bad
noncomputable def indexAV (o : AV) (as : List AV) (h : AHeap) : Res AV := match o with
  | .str x => match as with
    | [v] => okO (((chrOf v).bind fun c => x.findIdx? (· == c)).map fun (i : Nat) => AV.int (i : Int)) h
    | _ => .bad
  | _ => .bad
noncomputable def dropKey (kvs : List (Key × AV)) (k : Key) : List (Key × AV) := kvs.filter fun p => !(p.1 == k)
noncomputable def popD (h : AHeap) (n : Nat) (kvs : List (Key × AV)) (ep : Nat) (k : Option Key) : Res AV := match k with
  | some k => if sortOk kvs k then match kvs.lookup k with
      | some v => .ok v (h.set n (.dict (dropKey kvs k) (ep + 1)))
      | none => .bad
    else .bad
  | none => .bad
noncomputable def popAV (o : AV) (as : List AV) (h : AHeap) : Res AV := match o with
  | .loc n => match as with
    | [v] => match dictAt h n with
      | some d => popD h n d.1 d.2 v.key?
      | none => .bad
    | _ => .bad
  | _ => .bad
noncomputable def remL (xs : List AV) (v : AV) : Option (List (List Nat)) := (allOf strOf xs).bind fun ss => (strOf v).bind fun s => if s ∈ ss /\ ss.length < sizeLim then some (ss.erase s) else none
noncomputable def remO (h : AHeap) (n : Nat) (r : Option (List (List Nat))) : Res AV := match r with
  | some ss => .ok .none (h.set n (.list (ss.map .str)))
  | none => .bad
noncomputable def removeAV (o : AV) (as : List AV) (h : AHeap) : Res AV := match o with
  | .loc n => match as with
    | [v] => remO h n ((listAt h n).bind fun xs => remL xs v)
    | _ => .bad
  | _ => .bad
noncomputable def bmAV (m : BM) (o : AV) (as : List AV) (h : AHeap) : Res AV := match m with
  | .append => appendAV o as h
  | .get => getAV o as h
  | .index => indexAV o as h
  | .pop => popAV o as h
  | .remove => removeAV o as h
noncomputable def bmOk (m : BM) (v : AV) (h : AHeap) : Bool := match v with
  | .loc n => match m with
    | .append => (listAt h n).isSome
    | .get => (dictAt h n).isSome
    | .index => false
    | .pop => (dictAt h n).isSome
    | .remove => (listAt h n).isSome
  | .str _ => match m with
    | .index => true
    | _ => false
  | _ => false
noncomputable def idx? {α : Type} (xs : List α) (i : Int) : Option α :=
  if 0 <= i then xs[i.toNat]? else if 0 <= i + xs.length then xs[(i + xs.length).toNat]? else none
noncomputable def subD (kvs : List (Key × AV)) (k : Option Key) : Option AV := match k with
  | some k => if sortOk kvs k then kvs.lookup k else none
  | none => none
noncomputable def subI (xs : List AV) (i : Option Int) : Option AV := match i with
  | some i => if xs.length <= sizeLim then idx? xs i else none
  | none => none
noncomputable def subO (ob : AObj) (i : AV) (h : AHeap) : Res AV := match ob with
  | .list xs => okO (subI xs (intOf i)) h
  | .dict kvs _ => okO (subD kvs i.key?) h
  | _ => .bad
noncomputable def subAV (o i : AV) (h : AHeap) : Res AV := match o with
  | .str xs => okO (subI (xs.map fun c => .str [c]) (intOf i)) h
  | .tup xs => okO (subI xs (intOf i)) h
  | .scr xs => okO (subI (xs.map .int) (intOf i)) h
  | .loc n => match h[n]? with
    | some ob => subO ob i h
    | none => .bad
  | _ => .bad
noncomputable def cutList {α : Type} (xs : List α) (lo hi : Int) : List α := (xs.take (PySem.clipAt xs.length hi)).drop (PySem.clipAt xs.length lo)
noncomputable def loOf : AV -> Option Int
  | .none => some 0
  | .int i => some i
  | _ => none
noncomputable def hiOf (n : Nat) : AV -> Option Int
  | .none => some n
  | .int i => some i
  | _ => none
noncomputable def cutO {α : Type} (xs : List α) (lo hi : AV) : Option (List α) := if xs.length <= sizeLim then (loOf lo).bind fun a => (hiOf xs.length hi).map fun b => cutList xs a b else none
noncomputable def sliceAV (o lo hi : AV) (h : AHeap) : Res AV := match o with
  | .scr xs => newListO ((cutO xs lo hi).map fun ys => ys.map .int) h
  | .str x => okO ((cutO x lo hi).map .str) h
  | _ => .bad
noncomputable def attrAV (a : Str) (v : AV) (h : AHeap) : Res AV := match v with
  | .loc n => okO ((instAt h n).bind fun fs => fs.lookup a) h
  | _ => .bad
noncomputable def hasMeth (m : Str) (v : AV) (h : AHeap) : Bool := match v with
  | .loc n => match instAt h n with
    | some fs => (fs.lookup m).isNone
    | none => false
  | _ => false
noncomputable def nsAt (h : AHeap) (n : Nat) : Option (Nat × List (Str × AV)) := match h[n]? with
  | some o => match o with
    | .inst k => match h[k]? with
      | some o => match o with
        | .ns fs => some (k, fs)
        | _ => none
      | none => none
    | _ => none
  | none => none
noncomputable def setAttrAV (a : Str) (o v : AV) (h : AHeap) : Option AHeap := match o with
  | .loc n => (nsAt h n).map fun p => h.set p.1 (.ns ((a, v) :: p.2))
  | _ => none
noncomputable def isNoneAV : AV -> Bool
  | .none => true
  | _ => false
noncomputable def isTy (h : AHeap) (a : AV) (t : Ty) : Option Bool := match a with
  | .int _ => match t with
    | .int => some true
    | _ => some false
  | .str _ => match t with
    | .str => some true
    | _ => some false
  | .tup _ => match t with
    | .tuple => some true
    | _ => some false
  | .loc n => match t with
    | .list => (listAt h n).map fun _ => true
    | _ => none
  | _ => none
structure Ctx where
  F : Str -> List AV -> AHeap -> Res AV
  Fq : Str -> List AV -> AHeap -> Res AV
  q : Bool
  fuel : Nat
noncomputable def Ctx.quiet (c : Ctx) : Ctx := ⟨c.Fq, c.Fq, true, c.fuel⟩
noncomputable def Ctx.still {α : Type} (c : Ctx) (r : Res α) : Res α := if c.q then .bad else r
noncomputable def Res.noExc {α : Type} (r : Res α) : Res α := match r with
  | .exc _ _ => .bad
  | r => r
noncomputable def rangeOf (as : List AV) : Option AV := match as with
  | [a] => match a with
    | .int b => if b.natAbs <= sizeLim then some (.rng 0 b 1) else none
    | _ => none
  | [a, b] => match a, b with
    | .int a, .int b => if a.natAbs <= sizeLim /\ b.natAbs <= sizeLim then some (.rng a b 1) else none
    | _, _ => none
  | [a, b, s] => match a, b, s with
    | .int a, .int b, .int s => if s = -1 /\ a.natAbs <= sizeLim /\ b.natAbs <= sizeLim then some (.rng a b (-1)) else none
    | _, _, _ => none
  | _ => none
noncomputable def nextAt (src : AV) (i : Nat) (h : AHeap) : Option (Option AV) := (itemsAV src h).map fun xs => xs[i]?
noncomputable def compLoop (body : AV -> AHeap -> Res (Option AV)) (src : AV) : Nat -> Nat -> List AV -> AHeap -> Res (List AV)
  | 0, _, _, _ => .bad
  | f + 1, i, acc, h => match nextAt src i h with
    | none => .bad
    | some none => .ok acc h
    | some (some v) => (body v h).bind fun r h => match r with
      | some x => if acc.length < sizeLim then compLoop body src f (i + 1) (acc ++ [x]) h else .bad
      | none => compLoop body src f (i + 1) acc h
noncomputable def locAt (l : Locs) (i : Nat) : Option AV := match l[i]? with
  | some o => o
  | none => none
noncomputable def notAV (v : AV) (h : AHeap) : Res AV := match v with
  | .bool b => .ok (.bool !b) h
  | _ => .bad
noncomputable def condV (v : AV) (x y : Res AV) : Res AV := match v with
  | .bool b => if b then x else y
  | _ => .bad
noncomputable def boolO (r : Option Bool) (h : AHeap) : Res AV := match r with
  | some r => .ok (.bool r) h
  | none => .bad
noncomputable def inner (l : Locs) (k j : Nat) (v : AV) : Locs := (l ++ List.replicate k none).set j (some v)
noncomputable def condB (v : AV) (x y : Res Bool) : Res Bool := match v with
  | .bool b => if b then x else y
  | _ => .bad
noncomputable def ifB (b : Bool) (h : AHeap) (x : Res AV) : Res (Option AV) := if b then x.bind fun x h => .ok (some x) h else .ok none h
noncomputable def biStill : BI -> Bool
  | .len => false
  | _ => true
noncomputable def made (h : AHeap) : AHeap := h ++ [.ns [], .inst h.length]
noncomputable def initOk (n : Nat) (r : AV) (h : AHeap) : Res AV := if isNoneAV r then .ok (.loc n) h else .bad
noncomputable def cmpAnd (r : Option Bool) (h : AHeap) (k : Res AV) : Res AV := match r with
  | some b => if b then k else .ok (.bool false) h
  | none => .bad
noncomputable def keysAV (v : AV) (h : AHeap) : Res AV := match v with
  | .loc n => okO ((dictAt h n).map fun d => .dit n d.1.length d.2) h
  | _ => .bad
noncomputable def heapR (v : AV) (o : Option AHeap) : Res AV := match o with
  | some h => .ok v h
  | none => .bad
noncomputable def dict1AV (j : Nat) (k v : AV) (h : AHeap) : Res AV := heapR (.loc j) ((dictAt h j).bind fun d => setD h j d.1 d.2 v k.key?)
mutual
noncomputable def evalX (c : Ctx) : X -> Locs -> AHeap -> Res AV
  | .none, _, h => .ok .none h
  | .bool b, _, h => .ok (.bool b) h
  | .int i, _, h => .ok (.int i) h
  | .str s, _, h => .ok (.str s) h
  | .loc i, l, h => okO (locAt l i) h
  | .bin op a b, l, h => (evalX c a l h).bind fun x h => (evalX c b l h).bind fun y h => binAV op x y h
  | .neg a, l, h => (evalX c a l h).bind negAV
  | .not a, l, h => (evalX c a l h).bind notAV
  | .and a b, l, h => (evalX c a l h).bind fun x h => condV x (evalX c b l h) (.ok (.bool false) h)
  | .or a b, l, h => (evalX c a l h).bind fun x h => condV x (.ok (.bool true) h) (evalX c b l h)
  | .cmp op a b, l, h => (evalX c a l h).bind fun x h => (evalX c b l h).bind fun y h => boolO (cmpAV h op x y) h
  | .cmp2 o1 o2 a b d, l, h => (evalX c a l h).bind fun x h => (evalX c b l h).bind fun y h => cmpAnd (cmpAV h o1 x y) h ((evalX c d l h).bind fun z h => boolO (cmpAV h o2 y z) h)
  | .isn b x, l, h => (evalX c x l h).bind fun v h => .ok (.bool (isNoneAV v == b)) h
  | .call f as, l, h => (evalXs c as l h).bind fun vs h => c.F f vs h
  | .bi b as, l, h => (evalXs c as l h).bind fun vs h => if biStill b && c.q then .bad else biAV b vs h
  | .isi x t, l, h => (evalX c x l h).bind fun v h => boolO (isTy h v t) h
  | .new as, l, h => (evalXs c as l h).bind fun vs h => (c.F "__init__" (.loc (h.length + 1) :: vs) (made h)).bind fun r h' => initOk (h.length + 1) r h'
  | .im m o as, l, h => (evalX c o l h).bind fun v h => if hasMeth m v h then (evalXs c as l h).bind fun vs h => c.F m (v :: vs) h else .bad
  | .bm m o as, l, h => (evalX c o l h).bind fun v h => if bmOk m v h then (evalXs c as l h).bind fun vs h => bmAV m v vs h else .bad
  | .attr a o, l, h => (evalX c o l h).bind fun v h => attrAV a v h
  | .sub o i, l, h => (evalX c o l h).bind fun v h => (evalX c i l h).bind fun k h => subAV v k h
  | .slice o a b, l, h => (evalX c o l h).bind fun v h => (evalX c a l h).bind fun x h => (evalX c b l h).bind fun y h => sliceAV v x y h
  | .tup es, l, h => (evalXs c es l h).bind fun vs h => if vs.length <= sizeLim then .ok (.tup vs) h else .bad
  | .list es, l, h => (evalXs c es l h).bind fun vs h => newList vs h
  | .dict0, _, h => .ok (.loc h.length) (h ++ [.dict [] 0])
  | .dict1 k v, l, h => (evalX c k l (h ++ [.dict [] 0])).noExc.bind fun k h' => (evalX c v l h').noExc.bind fun v h' => dict1AV h.length k v h'
  | .keys x, l, h => (evalX c x l h).bind keysAV
  | .range as, l, h => (evalXs c as l h).bind fun vs h => okO (rangeOf vs) h
  | .comp e k j it cs, l, h => (evalX c it l h).noExc.bind fun src h => if c.q then .bad else
    (compLoop (fun v h => (evalConds c cs (inner l k j v) h).bind fun b h => ifB b h (evalX c e (inner l k j v) h)) src c.fuel 0 [] h).noExc.bind fun vs h => newList vs h
noncomputable def evalXs (c : Ctx) : Xs -> Locs -> AHeap -> Res (List AV)
  | .nil, _, h => .ok [] h
  | .cons x r, l, h => (evalX c x l h).bind fun v h => (evalXs c r l h).bind fun vs h => .ok (v :: vs) h
noncomputable def evalConds (c : Ctx) : Xs -> Locs -> AHeap -> Res Bool
  | .nil, _, h => .ok true h
  | .cons x r, l, h => (evalX c x l h).bind fun v h => condB v (evalConds c r l h) (.ok false h)
end
inductive Flow where
  | next
  | ret (v : AV)
  | cont
inductive SR where
  | ok (f : Flow) (l : Locs) (h : AHeap)
  | exc (k : Str) (l : Locs) (h : AHeap)
  | bad
noncomputable def Res.st {α : Type} (r : Res α) (l : Locs) (f : α -> AHeap -> SR) : SR := match r with
  | .ok a h => f a h
  | .exc k h => .exc k l h
  | .bad => .bad
noncomputable def heapO (l : Locs) (h : Option AHeap) : SR := match h with
  | some h => .ok .next l h
  | none => .bad
noncomputable def condS (v : AV) (x y : SR) : SR := match v with
  | .bool b => if b then x else y
  | _ => .bad
noncomputable def SR.turn (r : SR) (k : Locs -> AHeap -> SR) : SR := match r with
  | .ok f l h => match f with
    | .next => k l h
    | .ret v => .ok (.ret v) l h
    | .cont => .ok .cont l h
  | .exc k l h => .exc k l h
  | .bad => .bad
noncomputable def SR.lap (r : SR) (k : Locs -> AHeap -> SR) : SR := match r with
  | .ok f l h => match f with
    | .next => k l h
    | .ret v => .ok (.ret v) l h
    | .cont => k l h
  | .exc k l h => .exc k l h
  | .bad => .bad
noncomputable def SR.noExc (r : SR) : SR := match r with
  | .exc _ _ _ => .bad
  | r => r
noncomputable def whileLoop (test : Locs -> AHeap -> Res AV) (body : Locs -> AHeap -> SR) : Nat -> Locs -> AHeap -> SR
  | 0, _, _ => .bad
  | f + 1, l, h => (test l h).st l fun v h => condS v ((body l h).lap (whileLoop test body f)) (.ok .next l h)
noncomputable def forLoop (put : Locs -> AV -> Option Locs) (body : Locs -> AHeap -> SR) (src : AV) : Nat -> Nat -> Locs -> AHeap -> SR
  | 0, _, _, _ => .bad
  | f + 1, k, l, h => match nextAt src k h with
    | none => .bad
    | some r => match r with
      | none => .ok .next l h
      | some v => match put l v with
        | some l' => (body l' h).lap (forLoop put body src f (k + 1))
        | none => .bad
noncomputable def put1 (i : Nat) (l : Locs) (v : AV) : Option Locs := some (l.set i (some v))
noncomputable def putAll : List Nat -> List AV -> Locs -> Locs
  | i :: is, v :: vs, l => putAll is vs (l.set i (some v))
  | _, _, l => l
noncomputable def puts (is : List Nat) (l : Locs) (v : AV) : Option Locs := match v with
  | .tup vs => if is.length = vs.length then some (putAll is vs l) else none
  | _ => none
noncomputable def locsO (l : Option Locs) (h : AHeap) : SR := match l with
  | some l => .ok .next l h
  | none => .bad
mutual
noncomputable def execS (c : Ctx) : S -> Locs -> AHeap -> SR
  | .expr x, l, h => (evalX c x l h).st l fun _ h => .ok .next l h
  | .ret x, l, h => (evalX c x l h).st l fun v h => .ok (.ret v) l h
  | .asg i x, l, h => (evalX c x l h).st l fun v h => .ok .next (l.set i (some v)) h
  | .setitem o k x, l, h => (evalX c x l h).st l fun v h => (evalX c o l h).st l fun o h => (evalX c k l h).st l fun k h => heapO l (setItemAV o k v h)
  | .iff t a b, l, h => (evalX c t l h).st l fun v h => condS v (execSs c a l h) (execSs c b l h)
  | .whil t b, l, h => whileLoop (fun l h => (evalX c t l h).noExc) (fun l h => (execSs c b l h).noExc) c.fuel l h
  | .forr i it b, l, h => (evalX c it l h).st l fun src h => if c.q then .bad else forLoop (put1 i) (fun l h => execSs c b l h) src c.fuel 0 l h
  | .setattr a o x, l, h => (evalX c x l h).st l fun v h => (evalX c o l h).st l fun o h => heapO l (setAttrAV a o v h)
  | .raise k, l, h => if c.q then .bad else .exc k l h
  | .tryx b hs, l, h => if c.q then .bad else match execSs c b l h with
    | .exc k l h => handle c hs k l h
    | r => r
  | .asgt is x, l, h => (evalX c x l h).st l fun v h => if c.q then .bad else locsO (puts is l v) h
  | .fort is it b, l, h => (evalX c it l h).st l fun src h => if c.q then .bad else forLoop (puts is) (fun l h => execSs c b l h) src c.fuel 0 l h
  | .cont, l, h => .ok .cont l h
  | .bad, _, _ => .bad
noncomputable def execSs (c : Ctx) : Ss -> Locs -> AHeap -> SR
  | .nil, l, h => .ok .next l h
  | .cons s r, l, h => (execS c s l h).turn fun l h => execSs c r l h
noncomputable def handle (c : Ctx) : Hs -> Str -> Locs -> AHeap -> SR
  | .nil, _, _, _ => .bad
  | .cons ks b r, k, l, h => if ks.contains k then (execSs c.quiet b l h).noExc else handle c r k l h
end
noncomputable def retR (r : SR) : Res AV := match r with
  | .ok f _ h => match f with
    | .ret v => .ok v h
    | .next => .ok .none h
    | .cont => .bad
  | .exc k _ h => .exc k h
  | .bad => .bad
noncomputable def runDef (c : Ctx) (d : FDef) (as : List AV) (h : AHeap) : Res AV :=
  if as.length = d.params then retR (execSs c d.body (as.map some ++ List.replicate (d.slots - d.params) none) h)
  else .bad
noncomputable def fuelOf : Nat := 100000
noncomputable def semF (p : Prog) : Nat -> Bool -> Str -> List AV -> AHeap -> Res AV
  | 0 => fun _ _ _ _ => .bad
  | n + 1 => fun q f as h => match p.lookup f with
    | some d => runDef ⟨semF p n q, semF p n true, q, fuelOf⟩ d as h
    | none => .bad
noncomputable abbrev cF (p : Prog) (n F : Nat) : Ctx := ⟨semF p n false, semF p n true, false, F⟩
end
section
open PySem
theorem none_ne {α : Type} {r : α} {C : Prop} (h : none = some r) : C := nomatch h
theorem iteS [Decidable p] {α : Type} {a b : Option α} {x : α} {G : Prop} (h : (if p then a else b) = some x) (t : p -> a = some x -> G) (e : ¬ p -> b = some x -> G) : G := by
  by_cases c : p
  . exact t c ((if_pos c).symm.trans h)
  . exact e c ((if_neg c).symm.trans h)
theorem iteN {p : Prop} [Decidable p] {α : Type} {a : Option α} {x : α} (h : (if p then a else none) = some x) : p /\ a = some x := iteS h (fun c q => ⟨c, q⟩) fun _ q => none_ne q
theorem iteB {f g : Str} {α : Type} {a b : Option α} {x : α} {G : Prop} (h : (if (f == g) = true then a else b) = some x) (t : f = g -> a = some x -> G) (e : b = some x -> G) : G := iteS h (fun c => t (eq_of_beq c)) fun _ => e
section
variable {α β : Type} {a : α} {h : AHeap} {l : Locs} {c : Ctx}
theorem bok {f : α -> AHeap -> Res β} : (Res.ok a h).bind f = f a h := rfl
theorem sok {f : α -> AHeap -> SR} : (Res.ok a h).st l f = f a h := rfl
theorem bexc {f : α -> AHeap -> Res β} {k : Str} : (Res.exc k h : Res α).bind f = .exc k h := rfl
theorem sexc {f : α -> AHeap -> SR} {k : Str} : (Res.exc k h : Res α).st l f = .exc k l h := rfl
theorem turn_next {k : Locs -> AHeap -> SR} : (SR.ok .next l h).turn k = k l h := rfl
theorem turn_cont {k : Locs -> AHeap -> SR} : (SR.ok .cont l h).turn k = .ok .cont l h := rfl
theorem turn_exc {k : Locs -> AHeap -> SR} {x : Str} : (SR.exc x l h).turn k = .exc x l h := rfl
theorem lap_next {k : Locs -> AHeap -> SR} : (SR.ok .next l h).lap k = k l h := rfl
theorem lap_cont {k : Locs -> AHeap -> SR} : (SR.ok .cont l h).lap k = k l h := rfl
theorem lap_ret {k : Locs -> AHeap -> SR} {v : AV} : (SR.ok (.ret v) l h).lap k = .ok (.ret v) l h := rfl
theorem lap_exc {k : Locs -> AHeap -> SR} {x : Str} : (SR.exc x l h).lap k = .exc x l h := rfl
theorem turn_ret {k : Locs -> AHeap -> SR} {v : AV} : (SR.ok (.ret v) l h).turn k = .ok (.ret v) l h := rfl
theorem cond_t {x y : SR} : condS (.bool true) x y = x := rfl
theorem cond_f {x y : SR} : condS (.bool false) x y = y := rfl
theorem condV_t {x y : Res AV} : condV (.bool true) x y = x := rfl
theorem condV_f {x y : Res AV} : condV (.bool false) x y = y := rfl
theorem for_succ {put : Locs -> AV -> Option Locs} {body : Locs -> AHeap -> SR} {src : AV} {f k : Nat} : forLoop put body src (f + 1) k l h = (match nextAt src k h with
    | none => .bad
    | some r => match r with
      | none => .ok .next l h
      | some v => match put l v with
        | some l' => (body l' h).lap (forLoop put body src f (k + 1))
        | none => .bad) := rfl
theorem comp_succ {body : AV -> AHeap -> Res (Option AV)} {src : AV} {f i : Nat} {acc : List AV} : compLoop body src (f + 1) i acc h = (match nextAt src i h with
    | none => .bad
    | some none => .ok acc h
    | some (some v) => (body v h).bind fun r h => match r with
      | some x => if acc.length < sizeLim then compLoop body src f (i + 1) (acc ++ [x]) h else .bad
      | none => compLoop body src f (i + 1) acc h) := rfl
theorem cond_if {p : Prop} [Decidable p] {x y : SR} : condS (.bool (decide p)) x y = if p then x else y := by
  by_cases hp : p
  . rw [decide_eq_true hp, if_pos hp]; rfl
  . rw [decide_eq_false hp, if_neg hp]; rfl
theorem boolO_some {b : Bool} : boolO (some b) h = .ok (.bool b) h := rfl
theorem okO_some {b : AV} : okO (some b) h = .ok b h := rfl
theorem heapO_some : heapO l (some h) = .ok .next l h := rfl
theorem notAV_bool {b : Bool} : notAV (.bool b) h = .ok (.bool !b) h := rfl
theorem negAV_int {b : Int} : negAV (.int b) h = .ok (.int (-b)) h := rfl
theorem retR_ret {v : AV} : retR (.ok (.ret v) l h) = .ok v h := rfl
theorem retR_next : retR (.ok .next l h) = .ok .none h := rfl
theorem loc0 {o : AV} {r : Locs} : locAt (some o :: r) 0 = some o := rfl
theorem locS {o : Option AV} {r : Locs} {i : Nat} : locAt (o :: r) (i + 1) = locAt r i := rfl
theorem ss_nil : execSs c .nil l h = .ok .next l h := rfl
theorem ss_cons {s : S} {r : Ss} : execSs c (.cons s r) l h = (execS c s l h).turn fun l h => execSs c r l h := rfl
theorem s_expr {x : X} : execS c (.expr x) l h = (evalX c x l h).st l fun _ h => .ok .next l h := rfl
theorem s_ret {x : X} : execS c (.ret x) l h = (evalX c x l h).st l fun v h => .ok (.ret v) l h := rfl
theorem s_asg {i : Nat} {x : X} : execS c (.asg i x) l h = (evalX c x l h).st l fun v h => .ok .next (l.set i (some v)) h := rfl
theorem s_set {o k x : X} : execS c (.setitem o k x) l h = (evalX c x l h).st l fun v h => (evalX c o l h).st l fun o h => (evalX c k l h).st l fun k h => heapO l (setItemAV o k v h) := rfl
theorem s_iff {t : X} {x y : Ss} : execS c (.iff t x y) l h = (evalX c t l h).st l fun v h => condS v (execSs c x l h) (execSs c y l h) := rfl
theorem s_whil {t : X} {b : Ss} : execS c (.whil t b) l h = whileLoop (fun l h => (evalX c t l h).noExc) (fun l h => (execSs c b l h).noExc) c.fuel l h := rfl
theorem s_for {i : Nat} {it : X} {b : Ss} : execS c (.forr i it b) l h = (evalX c it l h).st l fun src h => if c.q then .bad else forLoop (put1 i) (fun l h => execSs c b l h) src c.fuel 0 l h := rfl
theorem s_fort {is : List Nat} {it : X} {b : Ss} : execS c (.fort is it b) l h = (evalX c it l h).st l fun src h => if c.q then .bad else forLoop (puts is) (fun l h => execSs c b l h) src c.fuel 0 l h := rfl
theorem s_asgt {is : List Nat} {x : X} : execS c (.asgt is x) l h = (evalX c x l h).st l fun v h => if c.q then .bad else locsO (puts is l v) h := rfl
theorem s_raise {k : Str} : execS c (.raise k) l h = if c.q then .bad else .exc k l h := rfl
theorem s_cont : execS c .cont l h = .ok .cont l h := rfl
theorem s_try {b : Ss} {hs : Hs} : execS c (.tryx b hs) l h = if c.q then .bad else match execSs c b l h with
    | .exc k l h => handle c hs k l h
    | r => r := rfl
theorem h_cons {ks : List Str} {b : Ss} {r : Hs} {k : Str} : handle c (.cons ks b r) k l h = if ks.contains k then (execSs c.quiet b l h).noExc else handle c r k l h := rfl
theorem s_seta {a : Str} {o x : X} : execS c (.setattr a o x) l h = (evalX c x l h).st l fun v h => (evalX c o l h).st l fun o h => heapO l (setAttrAV a o v h) := rfl
theorem x_none : evalX c .none l h = .ok .none h := rfl
theorem x_bool {b : Bool} : evalX c (.bool b) l h = .ok (.bool b) h := rfl
theorem x_int {b : Int} : evalX c (.int b) l h = .ok (.int b) h := rfl
theorem x_str {b : List Nat} : evalX c (.str b) l h = .ok (.str b) h := rfl
theorem x_loc {i : Nat} : evalX c (.loc i) l h = okO (locAt l i) h := rfl
theorem x_bin {op : BOp} {x y : X} : evalX c (.bin op x y) l h = (evalX c x l h).bind fun x h => (evalX c y l h).bind fun y h => binAV op x y h := rfl
theorem x_neg {x : X} : evalX c (.neg x) l h = (evalX c x l h).bind negAV := rfl
theorem x_not {x : X} : evalX c (.not x) l h = (evalX c x l h).bind notAV := rfl
theorem x_and {x y : X} : evalX c (.and x y) l h = (evalX c x l h).bind fun v h => condV v (evalX c y l h) (.ok (.bool false) h) := rfl
theorem x_or {x y : X} : evalX c (.or x y) l h = (evalX c x l h).bind fun v h => condV v (.ok (.bool true) h) (evalX c y l h) := rfl
theorem x_cmp {op : COp} {x y : X} : evalX c (.cmp op x y) l h = (evalX c x l h).bind fun x h => (evalX c y l h).bind fun y h => boolO (cmpAV h op x y) h := rfl
theorem x_call {f : Str} {as : Xs} : evalX c (.call f as) l h = (evalXs c as l h).bind fun vs h => c.F f vs h := rfl
theorem x_bi {b : BI} {as : Xs} : evalX c (.bi b as) l h = (evalXs c as l h).bind fun vs h => if biStill b && c.q then .bad else biAV b vs h := rfl
theorem x_isi {x : X} {t : Ty} : evalX c (.isi x t) l h = (evalX c x l h).bind fun v h => boolO (isTy h v t) h := rfl
theorem x_cmp2 {o1 o2 : COp} {x y z : X} : evalX c (.cmp2 o1 o2 x y z) l h = (evalX c x l h).bind fun x h => (evalX c y l h).bind fun y h => cmpAnd (cmpAV h o1 x y) h ((evalX c z l h).bind fun z h => boolO (cmpAV h o2 y z) h) := rfl
theorem x_isn {b : Bool} {x : X} : evalX c (.isn b x) l h = (evalX c x l h).bind fun v h => .ok (.bool (isNoneAV v == b)) h := rfl
theorem x_new {as : Xs} : evalX c (.new as) l h = (evalXs c as l h).bind fun vs h => (c.F "__init__" (.loc (h.length + 1) :: vs) (made h)).bind fun r h' => initOk (h.length + 1) r h' := rfl
theorem x_im {m : Str} {o : X} {as : Xs} : evalX c (.im m o as) l h = (evalX c o l h).bind fun v h => if hasMeth m v h then (evalXs c as l h).bind fun vs h => c.F m (v :: vs) h else .bad := rfl
theorem x_bm {m : BM} {o : X} {as : Xs} : evalX c (.bm m o as) l h = (evalX c o l h).bind fun v h => if bmOk m v h then (evalXs c as l h).bind fun vs h => bmAV m v vs h else .bad := rfl
theorem x_attr {a : Str} {o : X} : evalX c (.attr a o) l h = (evalX c o l h).bind fun v h => attrAV a v h := rfl
theorem x_dict1 {x y : X} : evalX c (.dict1 x y) l h = (evalX c x l (h ++ [.dict [] 0])).noExc.bind fun k h' => (evalX c y l h').noExc.bind fun v h' => dict1AV h.length k v h' := rfl
theorem x_keys {x : X} : evalX c (.keys x) l h = (evalX c x l h).bind keysAV := rfl
theorem x_slice {x y z : X} : evalX c (.slice x y z) l h = (evalX c x l h).bind fun v h => (evalX c y l h).bind fun x h => (evalX c z l h).bind fun y h => sliceAV v x y h := rfl
theorem x_comp {e it : X} {k j : Nat} {cs : Xs} : evalX c (.comp e k j it cs) l h = (evalX c it l h).noExc.bind fun src h => if c.q then .bad else
    (compLoop (fun v h => (evalConds c cs (inner l k j v) h).bind fun b h => ifB b h (evalX c e (inner l k j v) h)) src c.fuel 0 [] h).noExc.bind fun vs h => newList vs h := rfl
theorem x_sub {x y : X} : evalX c (.sub x y) l h = (evalX c x l h).bind fun x h => (evalX c y l h).bind fun y h => subAV x y h := rfl
theorem x_tup {as : Xs} : evalX c (.tup as) l h = (evalXs c as l h).bind fun vs h => if vs.length <= sizeLim then .ok (.tup vs) h else .bad := rfl
theorem x_list {as : Xs} : evalX c (.list as) l h = (evalXs c as l h).bind fun vs h => newList vs h := rfl
theorem x_dict0 : evalX c .dict0 l h = .ok (.loc h.length) (h ++ [.dict [] 0]) := rfl
theorem x_range {as : Xs} : evalX c (.range as) l h = (evalXs c as l h).bind fun vs h => okO (rangeOf vs) h := rfl
theorem xs_nil : evalXs c .nil l h = .ok [] h := rfl
theorem xs_cons {x : X} {xs : Xs} : evalXs c (.cons x xs) l h = (evalX c x l h).bind fun v h => (evalXs c xs l h).bind fun vs h => .ok (v :: vs) h := rfl
end
theorem semF_at {prog : Prog} {f : Str} {d : FDef} (h : prog.lookup f = some d) (n : Nat) (q : Bool) (as : List AV) (hp : AHeap) : semF prog (n + 1) q f as hp = runDef ⟨semF prog n q, semF prog n true, q, fuelOf⟩ d as hp := by
  show (match prog.lookup f with | some d => runDef ⟨semF prog n q, semF prog n true, q, fuelOf⟩ d as hp | none => .bad) = _
  rw [h]
end
section
open PySem PySem.Spec PyProof.Rows
abbrev Sg := List (Addr × Nat)
structure Bs where
  h₀ : Heap
  C : Addr
  attrs : List Str
abbrev ObjAt (h : Heap) (a : Addr) (cls : Value) (d : Data) : Prop := h.get? a = some { cls := cls, data := d }
mutual
noncomputable def RV (B : Bs) (h : Heap) (σ : Sg) : AV -> Value -> Prop
  | .none, v => v = .none
  | .bool b, v => v = .bool b
  | .int i, v => ∃ t, v = .int i t
  | .str s, v => ∃ t, v = .str ⟨s.toArray⟩ t
  | .tup xs, v => ∃ a ws n, v = .ref a /\ ObjAt h a (.type "tuple") (.seq ws n) /\ RVs B h σ xs ws.toList
  | .loc n, v => ∃ a off, v = .ref a /\ σ[n]? = some (a, off)
  | .rng a b s, v => ∃ r t u x, v = .ref r /\ IsRange h r a b s t u x
  | .scr xs, v => ∃ a items, v = .ref a /\ B.h₀.IsList a items /\ RIs xs items.toList
  | .dit n _ _, v => ∃ a off, v = .ref a /\ σ[n]? = some (a, off)
noncomputable def RVs (B : Bs) (h : Heap) (σ : Sg) : List AV -> List Value -> Prop
  | [], [] => True
  | x :: xs, w :: ws => RV B h σ x w /\ RVs B h σ xs ws
  | _, _ => False
noncomputable def RIs : List Int -> List Value -> Prop
  | [], [] => True
  | x :: xs, w :: ws => (∃ t, w = .int x t) /\ RIs xs ws
  | _, _ => False
end
noncomputable def fixed (o : Obj) : Prop := match o.data with
  | .seq _ _ => o.cls = .type "tuple"
  | .fields _ => o.cls = .type "range"
  | _ => False
noncomputable def Near (o : Obj) (r : Option Obj) : Prop := r = some o \/ ((∃ es ep, o.data = .dict es ep) /\ ∃ sl, r = some { o with slots := sl })
structure Grows (σ σ' : Sg) (X : List Addr) (h h' : Heap) : Prop where
  ext : ∃ τ, σ' = σ ++ τ /\ ∀ p ∈ τ, h.get? p.1 = none
  fix : ∀ b o, h.get? b = some o -> fixed o -> h'.get? b = some o
  oth : ∀ b o, h.get? b = some o -> b ∉ σ.map (·.1) -> b ∉ X -> Near o (h'.get? b)
  ex : ∀ b o, h.get? b = some o -> ∃ o', h'.get? b = some o'
theorem Near.refl : Near o (some o) := .inl rfl
theorem Near.trans (h1 : Near o r) (e : r = some o') (h2 : Near o' r') : Near o r' := by
  subst e
  rcases h1 with h1 | ⟨hc, sl, h1⟩
  . cases h1; exact h2
  . cases h1
    rcases h2 with h2 | ⟨_, sl', h2⟩
    . exact .inr ⟨hc, sl, h2⟩
    . exact .inr ⟨hc, sl', h2⟩
theorem Near.get (h : Near o r) : ∃ o', r = some o' /\ o'.cls = o.cls /\ o'.data = o.data /\ o'.dict = o.dict := by
  rcases h with h | ⟨_, sl, h⟩
  . exact ⟨o, h, rfl, rfl, rfl⟩
  . exact ⟨_, h, rfl, rfl, rfl⟩
theorem Grows.refl (σ : Sg) (X : List Addr) (h : Heap) : Grows σ σ X h h :=
  ⟨⟨[], by simp, fun _ hp => nomatch hp⟩, fun _ _ e _ => e, fun b o e _ _ => by rw [e]; exact .refl, fun b o e => ⟨o, e⟩⟩
theorem Grows.trans {X : List Addr} (x : Grows σ₁ σ₂ X h₁ h₂) (y : Grows σ₂ σ₃ X h₂ h₃) : Grows σ₁ σ₃ X h₁ h₃ := by
  refine xEA x.ext fun τ qq1 hτ => ?_; subst qq1
  refine xEA y.ext fun τ' qq1 hτ' => ?_; subst qq1
  refine ⟨⟨τ ++ τ', by simp, fun p hp => ?_⟩, fun b o e f => y.fix b o (x.fix b o e f) f, fun b o e h1 h2 => ?_, fun b o e => (x.ex b o e).elim fun o' e' => y.ex b o' e'⟩
  . rcases List.mem_append.mp hp with hp | hp
    . exact hτ p hp
    . rcases hq : h₁.get? p.1 with _ | o
      case none => rfl
      case some =>
        refine xE (x.ex _ o hq) fun o' e' => ?_
        rw [hτ' p hp] at e'; cases e'
  . have n := x.oth b o e h1 h2
    refine xEA n.get fun o' e' _ => ?_
    refine n.trans e' (y.oth b o' e' ?_ h2)
    rw [List.map_append, List.mem_append]
    rintro (hb | hb)
    . exact h1 hb
    . refine xEA (List.mem_map.mp hb) fun p hp qq1 => ?_; subst qq1
      rw [hτ p hp] at e; cases e
theorem Grows.drop {X Y : List Addr} (x : Grows σ σ' X h h') (hs : ∀ a ∈ X, a ∈ Y \/ h.get? a = none) : Grows σ σ' Y h h' :=
  ⟨x.ext, x.fix, fun b o e h1 h2 => x.oth b o e h1 fun hb => (hs b hb).elim h2 (fun q => by rw [q] at e; cases e), x.ex⟩
theorem Grows.more {X Y : List Addr} (x : Grows σ σ' X h h') (hs : ∀ a ∈ X, a ∈ Y) : Grows σ σ' Y h h' :=
  ⟨x.ext, x.fix, fun b o e h1 h2 => x.oth b o e h1 fun hb => h2 (hs b hb), x.ex⟩
theorem Grows.look {X : List Addr} (x : Grows σ σ' X h h') {n : Nat} (e : σ[n]? = some p) : σ'[n]? = some p := by
  refine xEA x.ext fun τ qq1 _ => ?_; subst qq1
  rw [List.getElem?_append_left (List.getElem?_eq_some_iff.mp e).1]; exact e
theorem objAt_fix {X : List Addr} (x : Grows σ σ' X h h') (o : ObjAt h a c d) (f : ∀ o : Obj, o.cls = c -> o.data = d -> fixed o) : ObjAt h' a c d :=
  x.fix a _ o (f _ rfl rfl)
theorem fixed_tuple (hc : o.cls = .type "tuple") (hd : o.data = .seq ws n) : fixed o := by
  unfold fixed; rw [hd]; exact hc
theorem fixed_fields (hd : o.data = .fields ws) (hc : o.cls = .type "range") : fixed o := by
  unfold fixed; rw [hd]; exact hc
abbrev Fixes (h h' : Heap) : Prop := ∀ b o, h.get? b = some o -> fixed o -> h'.get? b = some o
abbrev Looks' (σ σ' : Sg) : Prop := ∀ (n : Nat) p, σ[n]? = some p -> σ'[n]? = some p
mutual
theorem RV.mono (g : Fixes h h') (k : Looks' σ σ') : ∀ (x : AV) (v : Value), RV B h σ x v -> RV B h' σ' x v
  | .none, v, r => r
  | .bool b, v, r => r
  | .int i, v, r => r
  | .str s, v, r => r
  | .tup xs, v, r => xEEEAA r fun a ws n e o rs => ⟨a, ws, n, e, g a _ o (fixed_tuple rfl rfl), RVs.mono g k xs ws.toList rs⟩
  | .loc n, v, r => xEEA r fun a off e l => ⟨a, off, e, k n _ l⟩
  | .rng a b s, v, r => xEEEEA r fun r t u x e ho => ⟨r, t, u, x, e, g r _ ho (fixed_fields rfl rfl)⟩
  | .scr xs, v, r => r
  | .dit n _ _, v, r => xEEA r fun a off e l => ⟨a, off, e, k n _ l⟩
theorem RVs.mono (g : Fixes h h') (k : Looks' σ σ') : ∀ (xs : List AV) (vs : List Value), RVs B h σ xs vs -> RVs B h' σ' xs vs
  | [], [], r => r
  | x :: xs, w :: ws, r => ⟨RV.mono g k x w r.1, RVs.mono g k xs ws r.2⟩
  | [], _ :: _, r => r.elim
  | _ :: _, [], r => r.elim
end
theorem RV.grows {X : List Addr} (g : Grows σ σ' X h h') (x : AV) (v : Value) (r : RV B h σ x v) : RV B h' σ' x v := RV.mono g.fix (fun _ _ => g.look) x v r
theorem RVs.grows {X : List Addr} (g : Grows σ σ' X h h') (x : List AV) (v : List Value) (r : RVs B h σ x v) : RVs B h' σ' x v := RVs.mono g.fix (fun _ _ => g.look) x v r
theorem RV.fixes (g : Fixes h h') (x : AV) (v : Value) (r : RV B h σ x v) : RV B h' σ x v := RV.mono g (fun _ _ e => e) x v r
theorem RVs.fixes (g : Fixes h h') (x : List AV) (v : List Value) (r : RVs B h σ x v) : RVs B h' σ x v := RVs.mono g (fun _ _ e => e) x v r
theorem RVs.length : ∀ {xs : List AV} {vs : List Value}, RVs B h σ xs vs -> xs.length = vs.length
  | [], [], _ => rfl
  | _ :: _, _ :: _, r => by simp [RVs.length r.2]
  | [], _ :: _, r => r.elim
  | _ :: _, [], r => r.elim
theorem RVs.nil (r : RVs B h σ [] vs) : vs = [] := by
  rcases vs with _ | ⟨w, ws⟩
  case nil => rfl
  case cons => exact r.elim
theorem RVs.cons (r : RVs B h σ (x :: xs) vs) : ∃ w ws, vs = w :: ws /\ RV B h σ x w /\ RVs B h σ xs ws := by
  rcases vs with _ | ⟨w, ws⟩
  case nil => exact r.elim
  case cons => exact ⟨w, ws, rfl, r⟩
theorem RVs.one (r : RVs B h σ [x] vs) : ∃ w, vs = [w] /\ RV B h σ x w := by
  refine xEEAA r.cons fun w ws qq1 r1 r2 => ?_; subst qq1
  rcases r2.nil with rfl
  exact ⟨w, rfl, r1⟩
theorem RVs.size {ws : Array Value} (r : RVs B h σ xs ws.toList) : xs.length = ws.size := r.length.trans Array.length_toList
theorem RVs.get : ∀ {xs : List AV} {vs : List Value}, RVs B h σ xs vs -> ∀ {i : Nat} {x : AV}, xs[i]? = some x -> ∃ v, vs[i]? = some v /\ RV B h σ x v
  | [], [], _, i, x, e => by simp at e
  | x :: xs, w :: ws, r, 0, y, e => by
    simp at e; subst e; exact ⟨w, by simp, r.1⟩
  | x :: xs, w :: ws, r, i + 1, y, e => by
    simp at e
    refine xEA (RVs.get r.2 e) fun v h1 h2 => ?_
    exact ⟨v, by simpa using h1, h2⟩
  | [], _ :: _, r, _, _, _ => r.elim
  | _ :: _, [], r, _, _, _ => r.elim
theorem RVs.append : ∀ {xs : List AV} {vs : List Value} {ys : List AV} {ws : List Value}, RVs B h σ xs vs -> RVs B h σ ys ws -> RVs B h σ (xs ++ ys) (vs ++ ws)
  | [], [], _, _, _, r => r
  | _ :: _, _ :: _, _, _, q, r => ⟨q.1, RVs.append q.2 r⟩
  | [], _ :: _, _, _, q, _ => q.elim
  | _ :: _, [], _, _, q, _ => q.elim
noncomputable def keyHash (w : World) : Key -> Int
  | .str s => hashStr w ⟨s.toArray⟩
  | .pair a b => reduceHash (Builtin.Tuple.tupleHashOf [hashInt a, hashInt b])
  | .int i => hashInt i
noncomputable def REs (w : World) (B : Bs) (h : Heap) (σ : Sg) : List (Key × AV) -> List DictEntry -> Prop
  | [], [] => True
  | p :: ps, e :: es => (e.hash = keyHash w p.1 /\ RV B h σ p.1.av e.key /\ RV B h σ p.2 e.val) /\ REs w B h σ ps es
  | _, _ => False
structure NsR (B : Bs) (h : Heap) (σ : Sg) (fs : List (Str × AV)) (mA : Str -> Option Value) : Prop where
  has : ∀ y av, fs.lookup y = some av -> ∃ v, mA y = some v /\ RV B h σ av v
  non : ∀ y, fs.lookup y = none -> mA y = none
  within : PySem.Within mA B.attrs
noncomputable def RO (w : World) (B : Bs) (h : Heap) (σ : Sg) (a : Addr) (off : Nat) : AObj -> Prop
  | .list xs => ∃ ws n, ObjAt h a (.type "list") (.seq ws n) /\ RVs B h σ xs ws.toList /\ xs.length <= sizeLine
  | .dict kvs ep => ∃ es, ObjAt h a (.type "dict") (.dict es (off + ep)) /\ REs w B h σ kvs es.toList /\ (kvs.map (·.1)).Nodup /\ (∀ p ∈ kvs, ∀ q ∈ kvs, p.1.sort = q.1.sort) /\ kvs.length <= sizeLine
  | .inst k => ∃ o off', h.get? a = some o /\ o.cls = .ref B.C /\ (∀ c, o.data ≠ .cls c) /\ o.dict = some off /\ off ≠ a /\ σ[k]? = some (off, off') /\ ∀ v, o.data ≠ .prim v
  | .ns fs => ∃ mA, h.Ns1 a mA /\ NsR B h σ fs mA
structure St (w : World) (B : Bs) (σ : Sg) (hp : AHeap) (h : Heap) : Prop where
  len : σ.length = hp.length
  nd : (σ.map (·.1)).Nodup
  obj : ∀ (n : Nat) a off o, σ[n]? = some (a, off) -> hp[n]? = some o -> RO w B h σ a off o
  base : B.h₀.StaysIn h
  new : ∀ p ∈ σ, B.h₀.get? p.1 = none
theorem REs.mono (g : Fixes h h') (k : Looks' σ σ') : ∀ {ps : List (Key × AV)} {es : List DictEntry}, REs w B h σ ps es -> REs w B h' σ' ps es
  | [], [], r => r
  | _ :: _, _ :: _, r => ⟨⟨r.1.1, RV.mono g k _ _ r.1.2.1, RV.mono g k _ _ r.1.2.2⟩, REs.mono g k r.2⟩
  | [], _ :: _, r => r.elim
  | _ :: _, [], r => r.elim
theorem REs.grows {X : List Addr} (g : Grows σ σ' X h h') {ps : List (Key × AV)} (r : REs w B h σ ps es) : REs w B h' σ' ps es := r.mono g.fix (fun _ _ => g.look)
theorem REs.length : ∀ {ps : List (Key × AV)} {es : List DictEntry}, REs w B h σ ps es -> ps.length = es.length
  | [], [], _ => rfl
  | _ :: _, _ :: _, r => by simp [REs.length r.2]
  | [], _ :: _, r => r.elim
  | _ :: _, [], r => r.elim
theorem REs.append : ∀ {ps : List (Key × AV)} {es : List DictEntry} {qs : List (Key × AV)} {fs : List DictEntry}, REs w B h σ ps es -> REs w B h σ qs fs -> REs w B h σ (ps ++ qs) (es ++ fs)
  | [], [], _, _, _, r => r
  | _ :: _, _ :: _, _, _, q, r => ⟨q.1, REs.append q.2 r⟩
  | [], _ :: _, _, _, q, _ => q.elim
  | _ :: _, [], _, _, q, _ => q.elim
theorem REs.get : ∀ {ps : List (Key × AV)} {es : List DictEntry}, REs w B h σ ps es -> ∀ {i : Nat} {p : Key × AV}, ps[i]? = some p ->
    ∃ e, es[i]? = some e /\ e.hash = keyHash w p.1 /\ RV B h σ p.1.av e.key /\ RV B h σ p.2 e.val
  | [], [], _, i, x, e => by simp at e
  | x :: xs, w :: ws, r, 0, y, e => by
    simp at e; subst e; exact ⟨w, by simp, r.1⟩
  | x :: xs, w :: ws, r, i + 1, y, e => by
    simp at e
    refine xEA (REs.get r.2 e) fun v h1 h2 => ?_
    exact ⟨v, by simpa using h1, h2⟩
  | [], _ :: _, r, _, _, _ => r.elim
  | _ :: _, [], r, _, _, _ => r.elim
theorem ns1_same {h h' : Heap} (e : h'.get? a = h.get? a) (x : h.Ns1 a m) : h'.Ns1 a m := by
  unfold Heap.Ns1 at x |-
  rw [e]; exact x
theorem ns1_there {h : Heap} (x : h.Ns1 a m) : ∃ ob, h.get? a = some ob /\ ¬ fixed ob := by
  refine xEEEAA x.ns fun o es ep ho hd _ => ?_
  exact ⟨o, ho, by unfold fixed; rw [hd]; exact fun f => f⟩
theorem not_fixed_ref (h : o.cls = .ref C) : ¬ fixed o := by
  unfold fixed
  rw [h]
  rcases o.data with _ | _ <;> first | exact fun e => e | exact fun e => nomatch e
theorem RO.mono {h h' : Heap} (g : Fixes h h') (k : Looks' σ σ') (e : h'.get? a = h.get? a) : ∀ {o : AObj}, RO w B h σ a off o -> RO w B h' σ' a off o
  | .list xs, r => xEEAA r fun ws n o r q => ⟨ws, n, (e.trans o), RVs.mono g k _ _ r, q⟩
  | .dict kvs ep, r => xEAA r fun es o r q => ⟨es, (e.trans o), r.mono g k, q⟩
  | .inst j, r => xEEAAAAAA r fun o off' h1 h2 h3 h4 h5 h6 h7 => ⟨o, off', e.trans h1, h2, h3, h4, h5, k _ _ h6, h7⟩
  | .ns fs, r => xEA r fun mA h1 h2 => ⟨mA, ns1_same e h1, fun y av q => xEA (h2.has y av q) fun v a b => ⟨v, a, RV.mono g k _ _ b⟩, h2.non, h2.within⟩
theorem RO.keep {X : List Addr} {off : Nat} (g : Grows σ σ' X h h') (e : h'.get? a = h.get? a) (r : RO w B h σ a off o) : RO w B h' σ' a off o := r.mono g.fix (fun _ _ => g.look) e
theorem RO.fixes (g : Fixes h h') (e : h'.get? a = h.get? a) (r : RO w B h σ a off o) : RO w B h' σ a off o := r.mono g (fun _ _ e => e) e
theorem RO.there : ∀ {o : AObj}, RO w B h σ a off o -> ∃ ob, h.get? a = some ob /\ ¬ fixed ob
  | .list xs, r => xEEA r fun ws n ho r => ⟨_, ho, fun f => absurd (Value.type.inj f) (by decide)⟩
  | .dict kvs ep, r => xEA r fun es ho r => ⟨_, ho, fun f => f⟩
  | .inst j, r => xEEAA r fun o off' h1 h2 _ => ⟨o, h1, not_fixed_ref h2⟩
  | .ns fs, r => xEA r fun mA h1 h2 => ns1_there h1
theorem St.there (S : St w B σ hp h) (hm : p ∈ σ) : ∃ ob, h.get? p.1 = some ob /\ ¬ fixed ob := by
  refine xE (List.mem_iff_getElem.mp hm) fun n qq1 => ?_; refine xE qq1 fun hn e => ?_
  have e' : σ[n]? = some (p.1, p.2) := by rw [List.getElem?_eq_getElem hn, e]
  have hl : n < hp.length := S.len ▸ hn
  exact (S.obj n p.1 p.2 hp[n] e' (List.getElem?_eq_getElem hl)).there
theorem Grows.but {X : List Addr} (hs : ∀ c o, c ≠ b -> h.get? c = some o -> h'.get? c = some o) (hf : ∀ o, h.get? b = some o -> ¬ fixed o) (hm : b ∈ σ.map (·.1) \/ b ∈ X) (hself : h'.get? b = some ob) : Grows σ σ X h h' := by
  refine ⟨⟨[], (List.append_nil _).symm, fun _ hp => nomatch hp⟩, fun c o e f => hs c o (fun q => hf o (q ▸ e) f) e, fun c o e h1 h2 => ?_, fun c o e => ?_⟩
  . rw [hs c o (fun q => by subst q; exact hm.elim h1 h2) e]; exact .refl
  . by_cases q : c = b
    . subst q; exact ⟨_, hself⟩
    . exact ⟨o, hs c o q e⟩
theorem Grows.sameBut {X : List Addr} (hs : Heap.SameBut b h h') (hf : ∀ o, h.get? b = some o -> ¬ fixed o) (hm : b ∈ σ.map (·.1) \/ b ∈ X) (hself : h'.get? b = some ob) : Grows σ σ X h h' :=
  .but (fun c o q e => (hs.2 c q).trans e) hf hm hself
theorem Grows.push {X : List Addr} (o : Obj) : Grows σ σ X h (h.push o) :=
  ⟨⟨[], by simp, fun _ hp => nomatch hp⟩, fun c o' e _ => Heap.get?_push_of_some o e, fun c o' e _ _ => by rw [Heap.get?_push_of_some o e]; exact .refl, fun c o' e => ⟨o', Heap.get?_push_of_some o e⟩⟩
theorem grows_keep {X : List Addr} (hk : ∀ b o, h.get? b = some o -> h'.get? b = some o) : Grows σ σ X h h' :=
  ⟨⟨[], by simp, fun _ hp => nomatch hp⟩, fun c o e _ => hk c o e, fun c o e _ _ => by rw [hk c o e]; exact .refl, fun c o e => ⟨o, hk c o e⟩⟩
theorem push_size (h : Heap) (o : Obj) : (h.push o).objs.size = h.objs.size + 1 := by rcases h with ⟨_, _⟩; simp [Heap.push]
theorem St.step {X : List Addr} (S : St w B σ hp h) (g : Grows σ σ X h h') (same : ∀ p ∈ σ, h'.get? p.1 = h.get? p.1) (hb : B.h₀.StaysIn h') : St w B σ hp h' :=
  ⟨S.len, S.nd, fun n a off o e e' => (S.obj n a off o e e').keep g (same (a, off) (List.mem_of_getElem? e)), hb, S.new⟩
theorem St.keep {σ : Sg} (S : St w B σ hp h) (hk : ∀ b o, h.get? b = some o -> h'.get? b = some o) : St w B σ hp h' :=
  S.step (X := []) (grows_keep hk) (fun p hp => by refine xEA (S.there hp) fun ob e _ => ?_; rw [hk _ _ e, e]) fun b o e => hk b o (S.base b o e)
theorem St.push {σ : Sg} (S : St w B σ hp h) (o : Obj) : St w B σ hp (h.push o) :=
  S.step (X := []) (.push o) (fun p hp => by refine xEA (S.there hp) fun ob e _ => ?_; rw [Heap.get?_push_of_some o e, e]) fun b o' e => Heap.get?_push_of_some o (S.base b o' e)
theorem St.sameBut {X : List Addr} (S : St w B σ hp h) (hs : Heap.SameBut b h h') (hf : ∀ o, h.get? b = some o -> ¬ fixed o) (hm : b ∉ σ.map (·.1)) (hb : B.h₀.get? b = none) (hX : b ∈ X) (hself : h'.get? b = some ob) : St w B σ hp h' /\ Grows σ σ X h h' := by
  have g : Grows σ σ X h h' := .sameBut hs hf (.inr hX) hself
  refine ⟨S.step g (fun p hp => hs.2 p.1 fun q => hm (q ▸ List.mem_map_of_mem hp)) fun c o e => ?_, g⟩
  have : c ≠ b := fun q => by subst q; rw [hb] at e; cases e
  exact (hs.2 c this).trans (S.base c o e)
theorem St.fresh (S : St w B σ hp h) : h.objs.size ∉ σ.map (·.1) := fun hm => by
  refine xEA (List.mem_map.mp hm) fun p hp e => ?_
  refine xEA (S.there hp) fun ob e' _ => ?_
  have h1 : p.1 < h.objs.size := Heap.lt_size e'
  exact absurd e (Nat.ne_of_lt h1)
theorem St.adopt (S : St w B σ hp h) (hn : a ∉ σ.map (·.1)) (hb : B.h₀.get? a = none)
    (hr : Looks' σ (σ ++ [(a, off)]) -> RO w B h (σ ++ [(a, off)]) a off ao) : St w B (σ ++ [(a, off)]) (hp ++ [ao]) h := by
  have k : Looks' σ (σ ++ [(a, off)]) := fun n p e => by
    rw [List.getElem?_append_left (List.getElem?_eq_some_iff.mp e).1]; exact e
  refine ⟨by rw [List.length_append, List.length_append, S.len]; rfl, ?_, fun n b off' o' e e' => ?_, S.base, fun p hp => ?_⟩
  . rw [List.map_append, List.nodup_append]
    refine ⟨S.nd, List.pairwise_singleton _ _, fun x hx y hy e => ?_⟩
    cases List.mem_singleton.mp hy
    exact hn ((show x = a from e) ▸ hx)
  . rcases Nat.lt_trichotomy n σ.length with hl | hl | hl
    . rw [List.getElem?_append_left hl] at e
      rw [List.getElem?_append_left (S.len ▸ hl)] at e'
      exact (S.obj n b off' o' e e').mono (fun _ _ x _ => x) k rfl
    . have e1 : (σ ++ [(a, off)])[n]? = some (a, off) := by rw [hl]; exact List.getElem?_concat_length
      have e2 : (hp ++ [ao])[n]? = some ao := by rw [hl, S.len]; exact List.getElem?_concat_length
      rw [e1] at e; rw [e2] at e'
      cases e; cases e'
      exact hr k
    . exact absurd (List.getElem?_eq_some_iff.mp e).1 (by rw [List.length_append, List.length_singleton]; lia)
  . rcases List.mem_append.mp hp with hp | hp
    . exact S.new p hp
    . rcases List.mem_singleton.mp hp with rfl; exact hb
theorem Grows.adopt {X : List Addr} (g : Grows σ σ' X h h') (ha : h.get? a = none) : Grows σ (σ' ++ [(a, off)]) X h h' := by
  refine xEA g.ext fun τ qq1 hτ => ?_; subst qq1
  refine ⟨⟨τ ++ [(a, off)], (List.append_assoc ..), fun p hp => ?_⟩, g.fix, g.oth, g.ex⟩
  rcases List.mem_append.mp hp with hp | hp
  . exact hτ p hp
  . rcases List.mem_singleton.mp hp with rfl; exact ha
theorem free_size (h : Heap) : h.get? h.objs.size = none := by
  rcases hq : h.get? h.objs.size with _ | o'
  case none => rfl
  case some => exact absurd (Heap.lt_size hq) (Nat.lt_irrefl _)
theorem St.alloc {X : List Addr} {hp : AHeap} (S : St w B σ hp h) (o : Obj) (off : Nat) (ao : AObj)
    (hr : Grows σ (σ ++ [(h.objs.size, off)]) X h (h.push o) -> RO w B (h.push o) (σ ++ [(h.objs.size, off)]) h.objs.size off ao) :
    St w B (σ ++ [(h.objs.size, off)]) (hp ++ [ao]) (h.push o) /\ Grows σ (σ ++ [(h.objs.size, off)]) X h (h.push o) :=
  have g := (Grows.push (σ := σ) (X := X) o).adopt (free_size h) (off := off)
  ⟨(S.push o).adopt S.fresh S.base.fresh fun _ => hr g, g⟩
theorem St.upd {X : List Addr} (S : St w B σ hp h) (hn : σ[n]? = some (a, off)) (hs : ∀ c o, c ≠ a -> h.get? c = some o -> h'.get? c = some o) (ao : AObj)
    {ob' : Obj} (hself : h'.get? a = some ob') (hr : Grows σ σ X h h' -> RO w B h' σ a off ao) : St w B σ (hp.set n ao) h' /\ Grows σ σ X h h' := by
  have hmem := List.mem_of_getElem? hn
  refine xEA (S.there hmem) fun ob e₁ hf => ?_
  have g : Grows σ σ X h h' := .but hs (fun o e => by rw [e₁] at e; cases e; exact hf) (.inl (List.mem_map_of_mem (f := (·.1)) hmem)) hself
  refine ⟨⟨by simp [S.len], S.nd, fun k b off' o' e e' => ?_, fun c o e => ?_, S.new⟩, g⟩
  . by_cases hk : k = n
    . subst hk
      rw [hn] at e; cases e
      have hl : k < hp.length := S.len ▸ (List.getElem?_eq_some_iff.mp hn).1
      rw [List.getElem?_set_self hl] at e'
      cases e'
      exact hr g
    . rw [List.getElem?_set_ne (Ne.symm hk)] at e'
      have hne : b ≠ a := fun q => by
        have h1 : (σ.map (·.1))[k]? = some b := by rw [List.getElem?_map, e]; rfl
        have h2 : (σ.map (·.1))[n]? = some a := by rw [List.getElem?_map, hn]; rfl
        exact hk ((List.getElem?_inj (List.getElem?_eq_some_iff.mp h1).1 S.nd).mp (by rw [h1, h2, q]))
      refine xEA (S.there (List.mem_of_getElem? e)) fun ob e2 _ => ?_
      exact (S.obj k b off' o' e e').keep g ((hs b ob hne e2).trans e2.symm)
  . have : c ≠ a := fun q => by subst q; have := S.new _ hmem; rw [this] at e; cases e
    exact hs c o this (S.base c o e)
end
section
open PySem PySem.Spec PyProof.Rows
structure Par where
  prog : Program
  w : World
  B : Bs
  mg : Str -> Option Value
  mb : Str -> Option Value
  N : Addr
  mN : Str -> Option Value
  meths : List Str
noncomputable def Par.fn (P : Par) (f : Str) : Option Value := if P.meths.contains f then P.mN f else P.mg f
structure After (P : Par) (σ σ' : Sg) (X : List Addr) (hp' : AHeap) (s s' : Shared) : Prop where
  ctl : s' = { s with heap := s'.heap, toks := s'.toks }
  st : St P.w P.B σ' hp' s'.heap
  gr : Grows σ σ' X s.heap s'.heap
theorem After.trans {X : List Addr} (x : After P σ₁ σ₂ X hp₂ s₁ s₂) (y : After P σ₂ σ₃ X hp₃ s₂ s₃) : After P σ₁ σ₃ X hp₃ s₁ s₃ :=
  ⟨by rw [y.ctl, x.ctl], y.st, x.gr.trans y.gr⟩
theorem After.more {X Y : List Addr} (x : After P σ σ' X hp' s s') (hs : ∀ a ∈ X, a ∈ Y) : After P σ σ' Y hp' s s' := ⟨x.ctl, x.st, x.gr.more hs⟩
theorem After.refl {X : List Addr} (S : St P.w P.B σ hp s.heap) : After P σ σ X hp s s := ⟨rfl, S, .refl ..⟩
theorem After.tok {X : List Addr} (S : St P.w P.B σ hp s.heap) (t : Nat) : After P σ σ X hp s { s with toks := t } := ⟨rfl, S, .refl ..⟩
abbrev NE : Value -> Shared -> Prop := fun _ _ => False
structure Fly (P : Par) (σ : Sg) (h₀ : Heap) (k : Str) (e : Addr) (h : Heap) : Prop where
  obj : ∃ oe vs C, h.get? e = some oe /\ P.mg k = some (.ref C) /\ oe.cls = .ref C /\ oe.data = .fields vs /\
    (vs[1]? = some .none \/ ∃ T oT ts fl, vs[1]? = some (.ref T) /\ T ≠ e /\ h.get? T = some oT /\ oT.cls = .type "traceback" /\ oT.data = .fields ts /\ ts[3]? = some fl /\ h₀.get? T = none /\ T ∉ σ.map (·.1))
  new : h₀.get? e = none
  out : e ∉ σ.map (·.1)
inductive QE (P : Par) (σ : Sg) (s : Shared) {α : Type} (r : Res α) (v : Value) (s' : Shared) : Prop
  | mk (k : Str) (hp' : AHeap) (σ' : Sg) (e : Addr) (er : r = .exc k hp') (ev : v = .ref e) (a : After P σ σ' [] hp' s s') (f : Fly P σ' s.heap k e s'.heap)
theorem new_before {X : List Addr} (g : Grows σ σ' X h h') (e : h'.get? a = none) : h.get? a = none := by
  rcases hq : h.get? a with _ | o
  case none => rfl
  case some => refine xE (g.ex a o hq) fun o' e' => ?_; rw [e] at e'; cases e'
theorem Fly.lift {X : List Addr} (g : Grows σ σ₁ X h h₁) (f : Fly P σ' h₁ k e h') : Fly P σ' h k e h' := by
  refine xEEEAAAA f.obj fun oe vs C h1 h2 h3 h4 h5 => ?_
  exact ⟨⟨oe, vs, C, h1, h2, h3, h4, h5.imp id fun q => xEEEEAAAAAAA q fun T oT ts fl a b c d x w y z => ⟨T, oT, ts, fl, a, b, c, d, x, w, new_before g y, z⟩⟩, new_before g f.new, f.out⟩
theorem QE.lift (a : After P σ σ₁ [] hp₁ s s₁) (q : QE P σ₁ s₁ r v s') : QE P σ s r v s' := by
  obtain ⟨k, hp', σ', e, er, ev, b, f⟩ := q
  exact ⟨k, hp', σ', e, er, ev, a.trans b, f.lift a.gr⟩
theorem QE.bind {α β : Type} {r : Res α} {f : α -> AHeap -> Res β} (q : QE P σ s r v s') : QE P σ s (r.bind f) v s' := by
  obtain ⟨k, hp', σ', e, er, ev, b, fl⟩ := q
  exact ⟨k, hp', σ', e, by rw [er]; rfl, ev, b, fl⟩
inductive QV (P : Par) (σ : Sg) (s : Shared) (r : Res AV) (v : Value) (s' : Shared) : Prop
  | mk (av : AV) (hp' : AHeap) (σ' : Sg) (e : r = .ok av hp') (a : After P σ σ' [] hp' s s') (rv : RV P.B s'.heap σ' av v)
inductive QVs (P : Par) (σ : Sg) (s : Shared) (r : Res (List AV)) (v : List Value) (s' : Shared) : Prop
  | mk (av : List AV) (hp' : AHeap) (σ' : Sg) (e : r = .ok av hp') (a : After P σ σ' [] hp' s s') (rv : RVs P.B s'.heap σ' av v)
theorem QV.lift (a : After P σ σ' [] hp' s s') (q : QV P σ' s' r v s'') : QV P σ s r v s'' := by
  obtain ⟨av, hp, σ₂, e, b, rv⟩ := q
  exact ⟨av, hp, σ₂, e, a.trans b, rv⟩
structure Frm (P : Par) (h : Heap) (σ : Sg) (env : Env) (cx : Cx) (l : Locs) : Prop where
  kind : env.scope.kind = .function
  len : l.length = cx.n
  inj : ∀ x y i, cx.slot x = some i -> cx.slot y = some i -> x = y
  lt : ∀ x i, cx.slot x = some i -> i < cx.n
  glob : ∀ x, cx.isGlob x = true -> env.kindOf x = some .globalImplicit
  wr : ∀ x i, cx.slotW x = some i -> env.kindOf x ≠ some .free
  names : ∃ m, h.Ns env.locals m /\ ∀ x i, cx.slot x = some i ->
    (env.kindOf x = some .local /\ ∀ av, l[i]? = some (some av) -> ∃ v, m x = some v /\ RV P.B h σ av v) \/
    ((env.kindOf x = some .cell \/ env.kindOf x = some .free) /\ ∃ c ov, env.cells.lookup x = some c /\ h.IsCell c ov /\ ∀ av, l[i]? = some (some av) -> ∃ v, ov = some v /\ RV P.B h σ av v)
  out : env.locals ∉ σ.map (·.1) /\ ∀ p ∈ env.cells, p.2 ∉ σ.map (·.1)
  new : P.B.h₀.get? env.locals = none /\ ∀ p ∈ env.cells, P.B.h₀.get? p.2 = none
  globals : env.globals = mainGlobals
  builtins : env.builtins = builtinsNs
  cells : ∀ p ∈ env.cells, ∃ o v, h.get? p.2 = some o /\ o.data = .cell v
  apart : ∀ p ∈ env.cells, ∀ q ∈ env.cells, p.2 = q.2 -> p.1 = q.1
  kinds : ∀ x k, cx.sc.names.lookup x = some k -> k = .local \/ k = .cell -> env.kindOf x = some k
structure ArndC (n : Nat) (q : Bool) (A : Around) : Prop where
  frames : ∃ outer, A.frames = some outer
  depth : A.depth + 2 * n + 150 < recursionLimit
  units : A.units + 100 * n + 100 < cLine
  handled : q = false -> A.handled = none
structure Arnd (n : Nat) (q : Bool) (A : Around) : Prop extends ArndC n q A where
  depth1 : A.depth + 2 * n + 151 < recursionLimit
  units1 : A.units + 100 * n + 150 < cLine
  frame : ∃ f outer, A.frames = some (f :: outer) /\ f.scope.isGenerator = false /\ f.scope.isCoroutine = false /\ f.builtins = builtinsNs /\ f.globals = mainGlobals
noncomputable def Frs (P : Par) (h : Heap) (σ : Sg) (A : Around) : Prop := ∀ l, A.frames = some l -> ∀ f ∈ l, f.scope.kind ≠ .module /\ ∃ L o es ep, f.frame = some L /\ P.B.h₀.get? L = none /\ h.get? L = some o /\ o.data = .dict es ep /\ L ∉ σ.map (·.1)
structure Inv (P : Par) (cx : Cx) (n : Nat) (q : Bool) (env : Env) (A : Around) (σ : Sg) (l : Locs) (hp : AHeap) (s : Shared) : Prop where
  st : St P.w P.B σ hp s.heap
  fr : Frm P s.heap σ env cx l
  ar : Arnd n q A
  fs : Frs P s.heap σ A
theorem near_ns {h h' : Heap} (n : h.Ns a m) (hk : ∀ o, h.get? a = some o -> Near o (h'.get? a)) : h'.Ns a m := by
  refine xEEEAA n fun o es ep ho hd r => ?_
  refine xEAAA ((hk o ho).get) fun o' e _ hd' _ => ?_
  exact ⟨o', es, ep, e, hd'.trans hd, r⟩
theorem near_cell {h h' : Heap} (n : h.IsCell a v) (hk : ∀ o, h.get? a = some o -> Near o (h'.get? a)) : h'.IsCell a v := by
  refine xEA n fun o ho hd => ?_
  refine xEAAA ((hk o ho).get) fun o' e _ hd' _ => ?_
  exact ⟨o', e, hd'.trans hd⟩
theorem not_mem_grown {X : List Addr} (g : Grows σ σ' X h h') (ho : h.get? a = some o) (hn : a ∉ σ.map (·.1)) : a ∉ σ'.map (·.1) := by
  refine xEA g.ext fun τ qq1 hτ => ?_; subst qq1
  rw [List.map_append, List.mem_append]
  rintro (hb | hb)
  . exact hn hb
  . refine xEA (List.mem_map.mp hb) fun p hp qq1 => ?_; subst qq1
    rw [hτ p hp] at ho; cases ho
theorem mem_of_lookup' {α : Type} : ∀ {l : List (Str × α)} {n : Str} {c : α}, l.lookup n = some c -> (n, c) ∈ l := PySem.mem_of_lookup
theorem Frm.after (f : Frm P s.heap σ env cx l) (a : After P σ σ' [] hp' s s') : Frm P s'.heap σ' env cx l := by
  refine xEA f.names fun m hn hm => ?_
  have hL : ∀ o, s.heap.get? env.locals = some o -> Near o (s'.heap.get? env.locals) := fun o ho => a.gr.oth _ o ho f.out.1 (by simp)
  have hC : ∀ p ∈ env.cells, ∀ o, s.heap.get? p.2 = some o -> Near o (s'.heap.get? p.2) := fun p hp o ho => a.gr.oth _ o ho (f.out.2 p hp) (by simp)
  refine ⟨f.kind, f.len, f.inj, f.lt, f.glob, f.wr, ⟨m, near_ns hn hL, fun x i hx => ?_⟩, ⟨?_, fun p hp => ?_⟩, f.new, f.globals, f.builtins, fun p hp => ?_, f.apart, f.kinds⟩
  . rcases hm x i hx with ⟨hk, hv⟩ | ⟨hk, c, ov, hc, hi, hv⟩
    . exact .inl ⟨hk, fun av e => (hv av e).imp fun _ q => ⟨q.1, RV.grows a.gr _ _ q.2⟩⟩
    . exact .inr ⟨hk, c, ov, hc, near_cell hi (hC (x, c) (mem_of_lookup' hc)), fun av e => (hv av e).imp fun _ q => ⟨q.1, RV.grows a.gr _ _ q.2⟩⟩
  . refine xEEEA hn fun o _ _ ho _ => ?_
    exact not_mem_grown a.gr ho f.out.1
  . refine xEEA (f.cells p hp) fun o v ho _ => ?_
    exact not_mem_grown a.gr ho (f.out.2 p hp)
  . refine xEEA (f.cells p hp) fun o v ho hd => ?_
    refine xEAAA ((hC p hp o ho).get) fun o' e _ hd' _ => ?_
    exact ⟨o', v, e, hd'.trans hd⟩
theorem Frs.after (F : Frs P h σ A) (g : Grows σ σ' [] h h') : Frs P h' σ' A := fun l hl f hf => by
  refine xAEEEEAAAA (F l hl f hf) fun hk L o es ep h1 h2 h3 h4 h5 => ?_
  refine xEAAA ((g.oth L o h3 h5 (fun q => nomatch q)).get) fun o' e _ hd _ => ?_
  exact ⟨hk, L, o', es, ep, h1, h2, e, hd.trans h4, not_mem_grown g h3 h5⟩
theorem Inv.after (I : Inv P cx n q env A σ l hp s) (a : After P σ σ' [] hp' s s') : Inv P cx n q env A σ' l hp' s' :=
  ⟨a.st, I.fr.after a, I.ar, I.fs.after a.gr⟩
noncomputable def bltPairs : List (Str × Value) := [("len", .builtin "len"), ("isinstance", .builtin "isinstance"), ("range", .type "range"), ("sorted", .builtin "sorted"), ("list", .type "list"), ("str", .type "str"), ("int", .type "int"), ("bool", .type "bool"), ("tuple", .type "tuple")]
theorem blt_len : (("len" : Str), Value.builtin "len") ∈ bltPairs := .head _
theorem blt_isi : (("isinstance" : Str), Value.builtin "isinstance") ∈ bltPairs := .tail _ (.head _)
theorem blt_range : (("range" : Str), Value.type "range") ∈ bltPairs := .tail _ (.tail _ (.head _))
theorem blt_sorted : (("sorted" : Str), Value.builtin "sorted") ∈ bltPairs := .tail _ (.tail _ (.tail _ (.head _)))
theorem blt_list : (("list" : Str), Value.type "list") ∈ bltPairs := .tail _ (.tail _ (.tail _ (.tail _ (.head _))))
theorem blt_str : (("str" : Str), Value.type "str") ∈ bltPairs := .tail _ (.tail _ (.tail _ (.tail _ (.tail _ (.head _)))))
theorem blt_int : (("int" : Str), Value.type "int") ∈ bltPairs := .tail _ (.tail _ (.tail _ (.tail _ (.tail _ (.tail _ (.head _))))))
theorem blt_bool : (("bool" : Str), Value.type "bool") ∈ bltPairs := .tail _ (.tail _ (.tail _ (.tail _ (.tail _ (.tail _ (.tail _ (.head _)))))))
theorem blt_tuple : (("tuple" : Str), Value.type "tuple") ∈ bltPairs := .tail _ (.tail _ (.tail _ (.tail _ (.tail _ (.tail _ (.tail _ (.tail _ (.head _))))))))
structure Par.Ok (P : Par) : Prop where
  blt : ∀ x v, (x, v) ∈ bltPairs -> P.mg x = none /\ P.mb x = some v
  g : P.B.h₀.Ns mainGlobals P.mg
  b : P.B.h₀.Ns builtinsNs P.mb
  nolimit : P.B.h₀.NoLimit
  seer : P.B.h₀.NoSeer
  tree : P.prog.given.tree = none
  mods : ∃ o, P.B.h₀.get? sysModules = some o
  cls : ClsAt P.B.h₀ P.B.C P.N P.mN
  q1 : P.mN "__setattr__" = none
  q2 : P.mN "__getattribute__" = none
  q3 : P.mN "__getattr__" = none
  qa : ∀ a, P.B.attrs.contains a = true -> P.mN a = none /\ typeLookup (.type "object") a = pure none
  qm : ∀ m, P.meths.contains m = true -> ∃ y, typeLookup (.type "object") m = pure y
  few : P.B.attrs.length <= sizeLine
  init : P.meths.contains "__init__" = true
noncomputable def FSim (P : Par) (funs : List Str) (F : Str -> List AV -> AHeap -> Res AV) (n : Nat) (q : Bool) : Prop :=
  ∀ f, funs.contains f = true -> ∃ a o fd, P.fn f = some (.ref a) /\ P.B.h₀.get? a = some o /\ (P.meths.contains f = true -> o.cls = .type "function") /\ o.data = .func fd /\
    ∀ avs vs σ hp s A, St P.w P.B σ hp s.heap -> RVs P.B s.heap σ avs vs -> ArndC n q A -> Frs P s.heap σ A -> F f avs hp ≠ .bad ->
      wpAny (model P.prog P.w) A (call (.ref a) vs) (QV P σ s (F f avs hp)) (QE P σ s (F f avs hp)) s
noncomputable def ConstR (k : Const) (v : Value) : Prop := match k with
  | .int i => ∃ t, v = .int i t
  | .str x => ∃ t, v = .str x t
  | _ => False
noncomputable def excBm : List Value := [.type "ValueError", .type "Exception", .type "BaseException", .type "object"]
inductive OwnX (C : Addr) (bmB : List Value) (newId : String) (h : Heap) : Prop
  | mk (bm : List Value) (N : Addr) (nm q : Str) (bs : List Value) (hdct : Bool) (sn : List Str) (sub : List Value) (ab : Bool) (col : Option Bool) (dd : Option Addr) (k0 k1 k2 k3 k5 : Option Value) (mN : Str -> Option Value)
    (hC : h.get? C = some (excClassObj nm q C N bs bm hdct sn sub ab col dd k0 k1 k2 k3 k5 newId)) (hN : h.Ns N mN) (hq : ∀ n ∈ quietNames, mN n = none) (T : OwnTailQ h bmB bm) : OwnX C bmB newId h
theorem ownX (O : OwnClsQ x C bmB newId mg h) : OwnX C bmB newId h := by
  refine xEEEEEEEEEEEE O.obj fun bm N nm q bs hdct sn sub ab col dd k0 qq1 => ?_; refine xEEEEEAAA qq1 fun k1 k2 k3 k5 mN hC hN hq T => ?_
  exact .mk bm N nm q bs hdct sn sub ab col dd k0 k1 k2 k3 k5 mN hC hN hq T
structure ExcsR (P : Par) (excs : List (Str × List Str)) : Prop where
  own : ∀ k ks, excs.lookup k = some ks -> ∃ C, OwnClsQ k C excBm "ValueError.__new__" P.mg P.B.h₀
  cat : ∀ j, (excs.any fun p => p.2.contains j) = true -> ∃ D, OwnClsQ j D excBm "ValueError.__new__" P.mg P.B.h₀
  sub : ∀ k ks j C D o cd, excs.lookup k = some ks -> (excs.any fun p => p.2.contains j) = true -> P.mg k = some (.ref C) -> P.mg j = some (.ref D) -> P.B.h₀.get? C = some o -> o.data = .cls cd -> cd.mro.contains (.ref D) = ks.contains j
structure Sims (P : Par) (cx : Cx) (c : Ctx) (n : Nat) : Prop where
  ok : P.Ok
  f : FSim P cx.funs c.F n c.q
  fq : FSim P cx.funs c.Fq n true
  meths : cx.meths = P.meths
  attrs : cx.attrs = P.B.attrs
  cls : P.mg cx.cls = some (.ref P.B.C)
  init : cx.funs.contains "__init__" = true
  exc : ExcsR P cx.excs
  g : ∀ x k, cx.consts.lookup x = some k -> ∃ v, P.mg x = some v /\ ConstR k v
noncomputable def SimE (P : Par) (cx : Cx) (e : Expr) (x : X) : Prop :=
  ∀ c n env A σ l hp s, Sims P cx c n -> Inv P cx n c.q env A σ l hp s -> evalX c x l hp ≠ .bad ->
    wpAny (model P.prog P.w) A (eval e env) (QV P σ s (evalX c x l hp)) (QE P σ s (evalX c x l hp)) s
noncomputable def SimEs (P : Par) (cx : Cx) (es : List Expr) (xs : Xs) : Prop :=
  ∀ c n env A σ l hp s pos, Sims P cx c n -> Inv P cx n c.q env A σ l hp s -> evalXs c xs l hp ≠ .bad ->
    wpAny (model P.prog P.w) A (spliced (backTo pos (starEach es env))) (QVs P σ s (evalXs c xs l hp)) (QE P σ s (evalXs c xs l hp)) s
theorem bind_ok {α β : Type} {r : Res α} {f : α -> AHeap -> Res β} (h : r.bind f ≠ .bad) : r ≠ .bad := fun e => h (by rw [e]; rfl)
theorem slot_plain {cx : Cx} (h : cx.slot x = some i) : (x == ("__debug__" : Str)) = false /\ (x == ("__classdict__" : Str)) = false := by
  refine xEA (Option.bind_eq_some_iff.mp h) fun k _ h => ?_
  refine xA (iteN h) fun hk _ => ?_
  simp only [plainName, Bool.and_eq_true, bne_iff_ne, ne_eq] at hk
  exact ⟨beq_eq_false_iff_ne.mpr hk.2.1, beq_eq_false_iff_ne.mpr hk.2.2⟩
theorem glob_plain {cx : Cx} (h : cx.isGlob x = true) : (x == ("__debug__" : Str)) = false /\ (x == ("__classdict__" : Str)) = false := by
  simp only [Cx.isGlob, plainName, Bool.and_eq_true, bne_iff_ne, ne_eq] at h
  exact ⟨beq_eq_false_iff_ne.mpr h.2.1, beq_eq_false_iff_ne.mpr h.2.2⟩
section
variable {P : Par} {cx : Cx}
theorem sim_none : SimE P cx (.Constant .none k pos) .none := fun c n env A σ l hp s _ I _ =>
  wpAny_Constant_none ⟨.none, hp, σ, rfl, .refl I.st, rfl⟩
theorem sim_bool : SimE P cx (.Constant (.bool b) k pos) (.bool b) := fun c n env A σ l hp s _ I _ =>
  wpAny_Constant_bool ⟨.bool b, hp, σ, rfl, .refl I.st, rfl⟩
theorem sim_int : SimE P cx (.Constant (.int i) k pos) (.int i) := fun c n env A σ l hp s _ I _ =>
  wpAny_Constant_int ⟨.int i, hp, σ, rfl, .tok I.st _, _, rfl⟩
theorem sim_str : SimE P cx (.Constant (.str x) k pos) (.str x.cps.toList) := fun c n env A σ l hp s _ I _ =>
  wpAny_Constant_str ⟨.str x.cps.toList, hp, σ, rfl, .tok I.st _, _, rfl⟩
theorem sim_loc {x : Str} (hx : cx.slot x = some i) : SimE P cx (.Name x pos) (.loc i) := by
  intro c n env A σ l hp s _ I hb
  refine xA (slot_plain hx) fun hd hcl => ?_
  rw [x_loc] at hb |-
  rcases hl : locAt l i with _ | av
  case none => rw [hl] at hb; exact absurd rfl hb
  case some =>
    have hl : l[i]? = some (some av) := by
      unfold locAt at hl
      split at hl
      . rename_i o e; rw [e, hl]
      . cases hl
    refine xEA I.fr.names fun m hn hm => ?_
    refine wpAny_Name ?_ hd
    rcases hm x i hx with ⟨hk, hv⟩ | ⟨hk, cc, ov, hc, hi, hv⟩
    . refine xEA (hv av hl) fun v e rv => ?_
      exact wpAny_loadName_local I.fr.kind hk hn e ⟨av, hp, σ, rfl, .refl I.st, rv⟩
    . refine xEA (hv av hl) fun v e rv => ?_
      subst e
      rcases hk with hk | hk
      . exact wpAny_loadName_cell I.fr.kind hk hc hi ⟨av, hp, σ, rfl, .refl I.st, rv⟩
      . exact wpAny_loadName_free I.fr.kind hk hc hi ⟨av, hp, σ, rfl, .refl I.st, rv⟩ hcl
theorem const_is (h : compConst k = some x) (r : ConstR k v) : (∃ i t, x = .int i /\ v = .int i t) \/ ∃ z t, x = .str z /\ v = .str ⟨z.toArray⟩ t := by
  cases k with
  | int i => cases h; refine xE r fun t qq1 => ?_; try clear r; subst qq1; exact .inl ⟨i, t, rfl, rfl⟩
  | str z => cases h; refine xE r fun t qq1 => ?_; try clear r; subst qq1; exact .inr ⟨_, t, rfl, rfl⟩
  | _ => exact r.elim
theorem sim_glob {k : Const} (hg : cx.isGlob x = true) (hk : cx.consts.lookup x = some k) (hx : compConst k = some xx) : SimE P cx (.Name x pos) xx := by
  intro c n env A σ l hp s C I hb
  refine xA (glob_plain hg) fun hd _ => ?_
  refine xEA (C.g x k hk) fun v e1 r => ?_
  refine wpAny_Name ?_ hd
  rw [loadName_read I.fr.kind (I.fr.glob x hg)]
  have hn : s.heap.Ns env.globals P.mg := by rw [I.fr.globals]; exact C.ok.g.keeps I.st.base
  refine Calls.loadGlobal_global hn e1 ?_
  rcases const_is hx r with ⟨i, t, rfl, rfl⟩ | ⟨z, t, rfl, rfl⟩
  . exact ⟨_, hp, σ, rfl, .refl I.st, _, rfl⟩
  . exact ⟨_, hp, σ, rfl, .refl I.st, _, rfl⟩
end
end
section
open PySem PySem.Spec PyProof.Rows PySem.SeqAt
theorem isTuple_of {ws : Array Value} (o : ObjAt h a (.type "tuple") (.seq ws n)) : h.IsTuple a ws :=
  ⟨_, o, rfl, n, rfl⟩
theorem isList_of {ws : Array Value} (o : ObjAt h a (.type "list") (.seq ws n)) : h.IsList a ws :=
  ⟨_, o, rfl, n, rfl⟩
theorem St.isList (S : St w B σ hp h) {n : Nat} {a : Addr} (e : hp[n]? = some (.list xs)) (hs : σ[n]? = some (a, off)) :
    ∃ ws, h.IsList a ws /\ RVs B h σ xs ws.toList := by
  refine xEEAA (S.obj n a off _ hs e) fun ws k o r _ => ?_
  exact ⟨ws, (isList_of o), r⟩
theorem str_eq_iff (x y : List Nat) : ((⟨x.toArray⟩ : Str) == ⟨y.toArray⟩) = decide (x = y) := by
  by_cases h : x = y
  . subst h; simp
  . rw [decide_eq_false h]
    refine beq_eq_false_iff_ne.mpr fun e => h ?_
    have := Str.mk.inj e
    simpa using this
theorem and2_is (h : and2 a b = some r) : ∃ x y, a = some x /\ b = some y /\ r = (x && y) := by
  rcases a with _ | x
  . exact none_ne h
  rcases b with _ | y
  . exact none_ne h
  exact ⟨x, y, rfl, rfl, (Option.some.inj h).symm⟩
theorem eqAll_spec : ∀ {xs ys : List AV} {r : Bool}, eqAll f xs ys = some r ->
    ∃ e : Nat -> Bool, (∀ j x y, xs[j]? = some x -> ys[j]? = some y -> f x y = some (e j)) /\ r = ((List.range (min xs.length ys.length)).all e && xs.length == ys.length) := by
  intro xs
  induction xs with
  | nil =>
    intro ys r h
    refine ⟨fun _ => true, fun j x y hx => (nomatch hx), ?_⟩
    rw [<- Option.some.inj h]
    rcases ys with _ | ⟨y, ys⟩ <;> rfl
  | cons x xs ih =>
    intro ys r h
    rcases ys with _ | ⟨y, ys⟩
    . rw [<- Option.some.inj h]
      exact ⟨fun _ => true, fun j x y _ hy => (nomatch hy), rfl⟩
    refine xEEAA (and2_is h) fun b r' h1 h2 h3 => ?_
    refine xEA (ih h2) fun e he hr => ?_
    refine ⟨fun j => Nat.casesOn j b e, fun j x' y' hx hy => ?_, ?_⟩
    . rcases j with _ | j
      . rcases Option.some.inj hx with rfl; rcases Option.some.inj hy with rfl; exact h1
      . exact he j x' y' hx hy
    . rw [h3, hr]
      simp only [List.length_cons, Nat.add_min_add_right, List.range_succ_eq_map, List.all_cons, List.all_map, Bool.and_assoc]
      have e1 : (xs.length + 1 == ys.length + 1) = (xs.length == ys.length) := by simp
      rw [e1]
      rfl
section
variable {w : World} {B : Bs} {σ : Sg} {hp : AHeap} {s : Shared}
theorem eqAt_of_rc {a b : Addr} (h : RcAt A s (.ref a) (.ref b) k) (hs : a = b -> k = true) : EqAt A s (.ref a) (.ref b) k := by
  by_cases e : a = b
  . subst e; rw [hs rfl]; exact EqAt.same _
  . exact .of_refs e h
theorem eqAll_same : ∀ {xs ys : List AV} {vs : List Value} {r : Bool}, eqAll f xs ys = some r -> RVs B s.heap σ xs vs -> RVs B s.heap σ ys vs ->
    (∀ x y v r, f x y = some r -> RV B s.heap σ x v -> RV B s.heap σ y v -> r = true) -> r = true := by
  intro xs
  induction xs with
  | nil =>
    intro ys vs r h rx ry _
    rw [rx.nil] at ry
    rw [<- Option.some.inj h]
    rcases ys with _ | ⟨y, ys⟩
    . rfl
    . exact ry.elim
  | cons x xs ih =>
    intro ys vs r h rx ry H
    refine xEEAA rx.cons fun v us qq1 r1 r2 => ?_; subst qq1
    rcases ys with _ | ⟨y, ys⟩
    . exact ry.elim
    refine xEEAA (and2_is h) fun b r' h1 h2 h3 => ?_
    rw [h3, H x y v b h1 r1 ry.1, ih h2 r2 ry.2 H]; rfl
theorem St.inj (S : St w B σ hp s.heap) {i j : Nat} {a : Addr} (hi : σ[i]? = some (a, o)) (hj : σ[j]? = some (a, o')) : i = j := by
  have h1 : (σ.map (·.1))[i]? = some a := by rw [List.getElem?_map, hi]; rfl
  have h2 : (σ.map (·.1))[j]? = some a := by rw [List.getElem?_map, hj]; rfl
  exact (List.getElem?_inj (List.getElem?_eq_some_iff.mp h1).1 S.nd).mp (by rw [h1, h2])
theorem objAt_uniq {c c' : Value} (x : ObjAt h a c d) (y : ObjAt h a c' d') : c = c' /\ d = d' := by
  have := x.symm.trans y
  cases this
  exact ⟨rfl, rfl⟩
theorem listAt_is {n : Nat} {xs : List AV} (h : listAt hp n = some xs) : hp[n]? = some (.list xs) := by
  unfold listAt at h
  rcases e : hp[n]? with _ | o <;> rw [e] at h
  case none => exact none_ne h
  case some => rcases o with _ | _ <;> first | exact none_ne h | (cases h; rfl)
theorem dictAt_is {n : Nat} {d : List (Key × AV) × Nat} (h : dictAt hp n = some d) : hp[n]? = some (.dict d.1 d.2) := by
  unfold dictAt at h
  rcases e : hp[n]? with _ | o <;> rw [e] at h
  case none => exact none_ne h
  case some => rcases o with _ | _ <;> first | exact none_ne h | (cases h; rfl)
theorem eqL_spec {a b : Option (List AV)} {r : Bool} (h : eqL f a b = some r) : ∃ xs ys, a = some xs /\ b = some ys /\ ((xs.length = ys.length /\ eqAll f xs ys = some r) \/ (xs.length ≠ ys.length /\ r = false)) := by
  rcases a with _ | xs
  case none => exact none_ne h
  case some =>
    rcases b with _ | ys
    case none => exact none_ne h
    case some =>
      refine ⟨xs, ys, rfl, rfl, ?_⟩
      change (if xs.length = ys.length then _ else _) = _ at h
      by_cases e : xs.length = ys.length
      . rw [if_pos e] at h; exact .inl ⟨e, h⟩
      . rw [if_neg e] at h; exact .inr ⟨e, (Option.some.inj h).symm⟩
inductive EqK (hp : AHeap) (n : Nat) : AV -> AV -> Bool -> Prop
  | none : EqK hp n .none .none true
  | nv (b : AV) (h : someV hp b = some false) : EqK hp n .none b false
  | vn (b : AV) (h : someV hp b = some false) : EqK hp n b .none false
  | int (x y : Int) : EqK hp n (.int x) (.int y) (decide (x = y))
  | str (x y : List Nat) : EqK hp n (.str x) (.str y) (decide (x = y))
  | tup (xs ys : List AV) (r : Bool) (h : eqAll (eqv hp n) xs ys = some r) : EqK hp n (.tup xs) (.tup ys) r
  | loc (i j : Nat) (r : Bool) (h : eqL (eqv hp n) (listAt hp i) (listAt hp j) = some r) : EqK hp n (.loc i) (.loc j) r
theorem someV_is {b : AV} {r : Bool} (h : someV hp b = some r) : r = false := by
  rcases b with _ | _
  case int => cases h; rfl
  case str => cases h; rfl
  case tup => cases h; rfl
  case loc i => obtain ⟨_, _, rfl⟩ := Option.map_eq_some_iff.mp (show (listAt hp i).map (fun _ => false) = some r from h); rfl
  all_goals exact none_ne h
theorem eqv_or {a b : AV} {r : Bool} (h : eqv hp (n + 1) a b = some r) : EqK hp n a b r := by
  rcases a with _ | _
  case none =>
    rcases b with _ | _
    case none => cases (show some true = some r from h); exact .none
    case int => cases (show some false = some r from h); exact .nv _ rfl
    case str => cases (show some false = some r from h); exact .nv _ rfl
    case tup => cases (show some false = some r from h); exact .nv _ rfl
    case loc i => have h : someV hp (.loc i) = some r := h; rcases someV_is h with rfl; exact .nv _ h
    all_goals exact none_ne h
  case int x =>
    rcases b with _ | _
    case int y => cases (show some (decide (x = y)) = some r from h); exact .int x y
    case none => cases (show some false = some r from h); exact .vn _ rfl
    all_goals exact none_ne h
  case str x =>
    rcases b with _ | _
    case str y => cases (show some (decide (x = y)) = some r from h); exact .str x y
    case none => cases (show some false = some r from h); exact .vn _ rfl
    all_goals exact none_ne h
  case tup xs =>
    rcases b with _ | _
    case tup ys => exact .tup xs ys r h
    case none => cases (show some false = some r from h); exact .vn _ rfl
    all_goals exact none_ne h
  case loc i =>
    rcases b with _ | _
    case loc j => exact .loc i j r h
    case none => have h : someV hp (.loc i) = some r := h; rcases someV_is h with rfl; exact .vn _ h
    all_goals exact none_ne h
  all_goals exact none_ne h
theorem someV_ne {b : AV} {v : Value} (h : someV hp b = some false) (r : RV B s.heap σ b v) : v ≠ .none := by
  rcases b with _ | _
  case int => refine xE r fun t qq1 => ?_; try clear r; subst qq1; exact fun e => nomatch e
  case str => refine xE r fun t qq1 => ?_; try clear r; subst qq1; exact fun e => nomatch e
  case tup => refine xEEEA r fun a _ _ qq1 _ => ?_; try clear r; subst qq1; exact fun e => nomatch e
  case loc => refine xEEA r fun a _ qq1 _ => ?_; try clear r; subst qq1; exact fun e => nomatch e
  all_goals exact none_ne h
theorem eqv_same (S : St w B σ hp s.heap) : ∀ (n : Nat) (a b : AV) (v : Value) (r : Bool), eqv hp n a b = some r -> RV B s.heap σ a v -> RV B s.heap σ b v -> r = true
  | 0, _, _, _, _, h, _, _ => nomatch h
  | n + 1, a, b, v, r, h, ra, rb => by
    have H : ∀ x y v r, eqv hp n x y = some r -> RV B s.heap σ x v -> RV B s.heap σ y v -> r = true := fun x y v r => eqv_same S n x y v r
    cases eqv_or h with
    | none => rfl
    | nv => rename_i hx; exact absurd (show v = .none from ra) (someV_ne hx rb)
    | vn => rename_i hx; exact absurd (show v = .none from rb) (someV_ne hx ra)
    | int x y => refine xE ra fun t qq1 => ?_; try clear ra; subst qq1; refine xE rb fun t' e => ?_; exact decide_eq_true (Value.int.inj e).1
    | str x y =>
      refine xE ra fun t qq1 => ?_; try clear ra; subst qq1; refine xE rb fun t' e => ?_
      exact decide_eq_true (by simpa using (Value.str.inj e).1)
    | tup xs ys r h =>
      refine xEEEAA ra fun a ws k qq1 oa rx => ?_; try clear ra; subst qq1; refine xEEEAA rb fun b us k' e ob ry => ?_
      cases e
      have := (objAt_uniq oa ob).2
      cases this
      exact eqAll_same h rx ry H
    | loc i j r h =>
      refine xEEA ra fun a o qq1 e1 => ?_; try clear ra; subst qq1; refine xEEA rb fun b o' e e2 => ?_
      cases e
      obtain rfl := S.inj e1 e2
      refine xEEAA (eqL_spec h) fun xs ys h1 h2 h3 => ?_
      rw [h1] at h2; cases h2
      rcases h3 with ⟨_, h3⟩ | ⟨h3, _⟩
      . refine xEA (S.isList (listAt_is h1) e1) fun ws hl rx => ?_
        exact eqAll_same h3 rx rx H
      . exact absurd rfl h3
structure EqAll (A : Around) (s : Shared) (v u : Value) (r : Bool) : Prop where
  rc : RcAt A s v u r
  ne : RcNeAt A s v u (!r)
  eq : EqAt A s v u r
theorem eq_seq {ws us : Array Value} (H : ∀ a b r v u, eqv hp n a b = some r -> RV B s.heap σ a v -> RV B s.heap σ b u -> EqAt A s v u r) (he : eqAll (eqv hp n) xs ys = some r) (rx : RVs B s.heap σ xs ws.toList) (ry : RVs B s.heap σ ys us.toList) :
    ∃ e : Nat -> Bool, r = ((List.range (min ws.size us.size)).all e && ws.size == us.size) /\ ∀ j (h1 : j < ws.size) (h2 : j < us.size), EqAt A s ws[j] us[j] (e j) := by
  refine xEA (eqAll_spec he) fun e h1 h2 => ?_
  refine ⟨e, by rw [h2, rx.size, ry.size], fun j h3 h4 => ?_⟩
  have ex : xs[j]? = some (xs[j]'(by rw [rx.size]; exact h3)) := List.getElem?_eq_getElem _
  have ey : ys[j]? = some (ys[j]'(by rw [ry.size]; exact h4)) := List.getElem?_eq_getElem _
  refine xEA (rx.get ex) fun v' e1 q1 => ?_
  refine xEA (ry.get ey) fun u' e2 q2 => ?_
  rw [Array.getElem?_toList, Array.getElem?_eq_getElem h3] at e1
  rw [Array.getElem?_toList, Array.getElem?_eq_getElem h4] at e2
  cases e1; cases e2
  exact H _ _ _ _ _ (h1 j _ _ ex ey) q1 q2
theorem eq_tups {r : Bool} (hu : A.units < cLine) (oa : ObjAt s.heap a (.type "tuple") (.seq ws k)) (ob : ObjAt s.heap b (.type "tuple") (.seq us k')) (hr : r = ((List.range (min ws.size us.size)).all e && ws.size == us.size))
    (he : ∀ j (h1 : j < ws.size) (h2 : j < us.size), EqAt A.in1 s ws[j] us[j] (e j)) (hs : a = b -> r = true) : EqAll A s (.ref a) (.ref b) r := by
  subst hr
  have hrc := RcAt.tuples (isTuple_of oa) (isTuple_of ob) hu he
  exact ⟨hrc, RcNeAt.tuples (isTuple_of oa) (isTuple_of ob) hu he, eqAt_of_rc hrc hs⟩
theorem eq_lsts {r : Bool} (hu : A.units < cLine) (hl : s.heap.IsList a ws) (hl' : s.heap.IsList b us) (hsz : ws.size = us.size) (hr : r = ((List.range (min ws.size us.size)).all e && ws.size == us.size))
    (he : ∀ j (h1 : j < ws.size) (h2 : j < us.size), EqAt A.in1 s ws[j] us[j] (e j)) (hs : a = b -> r = true) : EqAll A s (.ref a) (.ref b) r := by
  have er : r = (List.range ws.size).all e := by rw [hr, hsz, Nat.min_self, beq_self_eq_true, Bool.and_true]
  subst er
  have hrc := RcAt.lists hl hl' hsz hu he
  exact ⟨hrc, RcNeAt.lists hl hl' hsz hu he, eqAt_of_rc hrc hs⟩
theorem eq_locs (S : St w B σ hp s.heap) {A : Around} {i j : Nat} {v u : Value} (H : ∀ a b r v u, eqv hp n a b = some r -> RV B s.heap σ a v -> RV B s.heap σ b u -> EqAt A.in1 s v u r) (hu : A.units < cLine)
    (h : eqL (eqv hp n) (listAt hp i) (listAt hp j) = some r) (ra : RV B s.heap σ (.loc i) v) (rb : RV B s.heap σ (.loc j) u) : EqAll A s v u r := by
  refine xEEA ra fun a o qq1 e1 => ?_; try clear ra; subst qq1; refine xEEA rb fun b o' qq1 e2 => ?_; try clear rb; subst qq1
  have hs : a = b -> r = true := fun q => by
    subst q
    have ij := S.inj e1 e2
    subst ij
    exact eqv_same S (n + 1) (.loc i) (.loc i) (.ref a) r h ⟨a, o, rfl, e1⟩ ⟨a, o, rfl, e1⟩
  refine xEEAA (eqL_spec h) fun xs ys hi hj hc => ?_
  refine xEA (S.isList (listAt_is hi) e1) fun ws hl rx => ?_
  refine xEA (S.isList (listAt_is hj) e2) fun us hl' ry => ?_
  rcases hc with ⟨hlen, h⟩ | ⟨hlen, hr⟩
  . refine xEA (eq_seq H h rx ry) fun e hr he => ?_
    exact eq_lsts hu hl hl' (rx.size.symm.trans (hlen.trans ry.size)) hr he hs
  . subst hr
    have hsz : (ws.size != us.size) = true := bne_iff_ne.mpr fun q => hlen (rx.size.trans (q.trans ry.size.symm))
    exact ⟨RcAt.lists_lengths hl hl' hsz hu, RcNeAt.lists_lengths hl hl' hsz hu, eqAt_of_rc (RcAt.lists_lengths hl hl' hsz hu) hs⟩
theorem eq_nv (S : St w B σ hp s.heap) {b : AV} {u : Value} (hu : A.units < cLine) (h : someV hp b = some false) (rb : RV B s.heap σ b u) : EqAll A s .none u false /\ EqAll A s u .none false := by
  rcases b with _ | _
  case int => refine xE rb fun t qq1 => ?_; try clear rb; subst qq1; exact ⟨⟨RcAt.none_int _ _, RcNeAt.none_int _ _, EqAt.none_int _ _⟩, ⟨RcAt.int_none _ _, RcNeAt.int_none _ _, EqAt.int_none _ _⟩⟩
  case str => refine xE rb fun t qq1 => ?_; try clear rb; subst qq1; exact ⟨⟨RcAt.none_str _ _, RcNeAt.none_str _ _, EqAt.none_str _ _⟩, ⟨RcAt.str_none _ _, RcNeAt.str_none _ _, EqAt.str_none _ _⟩⟩
  case tup xs =>
    refine xEEEAA rb fun a ws k qq1 oa _ => ?_; try clear rb; subst qq1
    exact ⟨⟨RcAt.none_tuple (isTuple_of oa) hu, RcNeAt.none_tuple (isTuple_of oa) hu, EqAt.none_tuple (isTuple_of oa) hu⟩, ⟨RcAt.tuple_none (isTuple_of oa) hu, RcNeAt.tuple_none (isTuple_of oa) hu, EqAt.tuple_none (isTuple_of oa) hu⟩⟩
  case loc i =>
    refine xEA (Option.map_eq_some_iff.mp (show (listAt hp i).map (fun _ => false) = some false from h)) fun xs h1 _ => ?_
    refine xEEA rb fun a o qq1 e1 => ?_; try clear rb; subst qq1
    refine xEA (S.isList (listAt_is h1) e1) fun ws hl _ => ?_
    exact ⟨⟨RcAt.none_list hl hu, RcNeAt.none_list hl hu, EqAt.none_list hl hu⟩, ⟨RcAt.list_none hl hu, RcNeAt.list_none hl hu, EqAt.list_none hl hu⟩⟩
  all_goals exact none_ne h
theorem eqv_at (S : St w B σ hp s.heap) : ∀ (n : Nat) (a b : AV) (r : Bool) (A : Around) (v u : Value), eqv hp n a b = some r -> RV B s.heap σ a v -> RV B s.heap σ b u -> A.units + n < cLine -> EqAll A s v u r
  | 0, _, _, _, _, _, _, h, _, _, _ => nomatch h
  | n + 1, a, b, r, A, v, u, h, ra, rb, hu => by
    have hu' : A.units < cLine := by lia
    have H : ∀ a b r v u, eqv hp n a b = some r -> RV B s.heap σ a v -> RV B s.heap σ b u -> EqAt A.in1 s v u r := fun a b r v u h ra rb => (eqv_at S n a b r A.in1 v u h ra rb (by show A.units + 1 + n < _; lia)).eq
    cases eqv_or h with
    | none => rcases (show v = .none from ra) with rfl; rcases (show u = .none from rb) with rfl; exact ⟨RcAt.none_none, RcNeAt.none_none, EqAt.same _⟩
    | nv => rename_i hx; rcases (show v = .none from ra) with rfl; exact (eq_nv S hu' hx rb).1
    | vn => rename_i hx; rcases (show u = .none from rb) with rfl; exact (eq_nv S hu' hx ra).2
    | int x y =>
      refine xE ra fun t qq1 => ?_; try clear ra; subst qq1; refine xE rb fun t' qq1 => ?_; try clear rb; subst qq1
      have e : (x == y) = decide (x = y) := by by_cases q : x = y <;> simp [q]
      rw [<- e]
      exact ⟨RcAt.int_int _ _ _ _, RcNeAt.int_int _ _ _ _, EqAt.int_int _ _ _ _⟩
    | str x y =>
      refine xE ra fun t qq1 => ?_; try clear ra; subst qq1; refine xE rb fun t' qq1 => ?_; try clear rb; subst qq1
      rw [<- str_eq_iff]
      exact ⟨RcAt.str_str _ _ _ _, RcNeAt.str_str _ _ _ _, EqAt.str_str _ _ _ _⟩
    | tup xs ys r he =>
      have hs := eqv_same S (n + 1) (.tup xs) (.tup ys) v r h ra
      refine xEEEAA ra fun a ws k qq1 oa rx => ?_; try clear ra; subst qq1; refine xEEEAA rb fun b us k' qq1 ob ry => ?_; try clear rb; subst qq1
      refine xEA (eq_seq H he rx ry) fun e hr he => ?_
      exact eq_tups hu' oa ob hr he fun q => hs ⟨b, us, k', by rw [q], ob, ry⟩
    | loc i j r h => exact eq_locs S H hu' h ra rb
end
end
section
open PySem PySem.Spec PyProof.Rows PySem.SeqAt
theorem sizeLim_le {n : Nat} (h : n <= sizeLim) : n <= sizeLine := Nat.le_trans h (by decide +kernel)
section
variable {P : Par} {A : Around} {σ : Sg} {hp : AHeap} {s : Shared} {E : Value -> Shared -> Prop}
theorem Par.Ok.noLimit (ok : P.Ok) (S : St P.w P.B σ hp s.heap) : s.heap.NoLimit := ok.nolimit.keeps S.base
theorem Par.Ok.noSeer (ok : P.Ok) (S : St P.w P.B σ hp s.heap) : s.heap.NoSeer := ok.seer.keeps S.base
theorem mulOk_ok {a b : Int} (h : mulOk a b = true) : IntMulOk a b := by
  simp only [mulOk, Bool.or_eq_true, decide_eq_true_eq] at h
  rcases h with h | h
  . exact IntMulOk.of_left (intBits_le_64 (by omega) (by omega))
  . exact IntMulOk.of_right (intBits_le_64 (by omega) (by omega))
theorem qv_newList (S : St P.w P.B σ hp s.heap) {ws : Array Value} (hr : RVs P.B s.heap σ vs ws.toList) (hb : newList vs hp ≠ .bad) :
    ws.size <= sizeLine /\ QV P σ s (newList vs hp) (.ref s.heap.objs.size) { s with heap := s.heap.push { cls := .type "list", data := .seq ws } } := by
  unfold newList at hb |-
  split at hb
  . rename_i hsz
    have hl := hr.size
    refine ⟨sizeLim_le (hl ▸ hsz), ?_⟩
    rw [if_pos hsz]
    refine xA (S.alloc (X := []) { cls := .type "list", data := .seq ws } 0 (.list vs) fun g => ⟨ws, 0, Heap.get?_push_size _ rfl, RVs.grows g _ _ hr, sizeLim_le hsz⟩) fun S' g => ?_
    refine ⟨_, _, _, rfl, ⟨rfl, S', g⟩, s.heap.objs.size, 0, rfl, ?_⟩
    rw [<- S.len]; simp
  . exact absurd rfl hb
theorem St.isL (S : St P.w P.B σ hp s.heap) {n : Nat} {off : Nat} (e : hp[n]? = some (.list xs)) (hs : σ[n]? = some (a, off)) :
    ∃ ws k, IsL s.heap a ws k /\ RVs P.B s.heap σ xs ws.toList := by
  refine xEEAA (S.obj n a off _ hs e) fun ws k o r _ => ?_
  exact ⟨ws, k, o, r⟩
theorem St.isLen (S : St P.w P.B σ hp s.heap) {n : Nat} {off : Nat} (e : hp[n]? = some (.list xs)) (hs : σ[n]? = some (a, off)) : xs.length <= sizeLine := by
  refine xEEAA (S.obj n a off _ hs e) fun ws k o r q => ?_
  exact q
inductive BinK : BOp -> AV -> AV -> Prop
  | int (op : BOp) (x y : Int) : BinK op (.int x) (.int y)
  | str (x y : List Nat) : BinK .add (.str x) (.str y)
  | cat (n m : Nat) : BinK .add (.loc n) (.loc m)
  | mul (n : Nat) (k : Int) : BinK .mul (.loc n) (.int k)
theorem binAV_or {h : AHeap} (hb : binAV op a b h ≠ .bad) : BinK op a b := by
  rcases a with _ | _
  case int x =>
    rcases b with _ | _
    case int y => exact .int op x y
    all_goals exact absurd rfl hb
  case str x =>
    rcases b with _ | _
    case str y => rcases op with _ | _ <;> first | exact .str x y | exact absurd rfl hb
    all_goals exact absurd rfl hb
  case loc n =>
    rcases b with _ | _
    case loc m => rcases op with _ | _ <;> first | exact .cat n m | exact absurd rfl hb
    case int k => rcases op with _ | _ <;> first | exact .mul n k | exact absurd rfl hb
    all_goals exact absurd rfl hb
  all_goals exact absurd rfl hb
theorem newListO_is {h : AHeap} (hb : newListO o h ≠ .bad) : ∃ vs, o = some vs /\ newList vs h ≠ .bad := by
  rcases o with _ | vs
  case none => exact absurd rfl hb
  case some => exact ⟨vs, rfl, hb⟩
theorem neg_if [Decidable c] {α : Type} {y : Res α} (hb : (if c then Res.bad else y) ≠ .bad) : ¬ c := fun hc => hb (if_pos hc)
theorem pos_if [Decidable c] {α : Type} {y : Res α} (hb : (if c then y else Res.bad) ≠ .bad) : c := Classical.byContradiction fun hc => hb (if_neg hc)
theorem bin_int (S : St P.w P.B σ hp s.heap) (hroom : PylongRoom (model P.prog P.w) A s) {t t' : Tok} (hop : compBOp op = some bop) (hb : binI bop x y hp ≠ .bad) : wpAny (model P.prog P.w) A (binaryOp op (.int x t) (.int y t')) (QV P σ s (binI bop x y hp)) E s := by
  rcases op with _ | _ <;> (try exact none_ne hop) <;> cases hop
  . exact add_int ⟨_, _, _, rfl, .tok S _, _, rfl⟩
  . exact sub_int ⟨_, _, _, rfl, .tok S _, _, rfl⟩
  . have hm := pos_if (c := mulOk x y = true) hb
    exact mul_int ⟨_, _, _, if_pos hm, .tok S _, _, rfl⟩ (mulOk_ok hm)
  . have hy := neg_if (c := y = 0) hb
    exact mod_int hy ⟨_, _, _, if_neg hy, .tok S _, _, rfl⟩
  . have hy := pos_if (c := 0 <= y /\ y <= 100 /\ x.natAbs < 2 ^ 64) hb
    exact pow_int_small hy.1 (Int.le_trans hy.2.1 (by decide)) hy.2.2 ⟨_, _, _, if_pos hy, .tok S _, _, rfl⟩
  . have hy := neg_if (c := y = 0) hb
    exact floordiv_int hy ⟨_, _, _, if_neg hy, .tok S _, _, rfl⟩ (.inr hroom)
theorem catL_is {vs : List AV} (h : catL a b = some vs) : ∃ xs ys, a = some xs /\ b = some ys /\ vs = xs ++ ys := by
  rcases a with _ | xs
  case none => exact none_ne h
  case some =>
    rcases b with _ | ys
    case none => exact none_ne h
    case some => exact ⟨xs, ys, rfl, rfl, (Option.some.inj h).symm⟩
theorem bin_cat (S : St P.w P.B σ hp s.heap) {v u : Value} (ra : RV P.B s.heap σ (.loc i) v) (rb : RV P.B s.heap σ (.loc j) u) (hb : newListO (catL (listAt hp i) (listAt hp j)) hp ≠ .bad) : wpAny (model P.prog P.w) A (binaryOp .Add v u) (QV P σ s (newListO (catL (listAt hp i) (listAt hp j)) hp)) E s := by
  refine xEEA ra fun a o qq1 e1 => ?_; try clear ra; subst qq1; refine xEEA rb fun b o' qq1 e2 => ?_; try clear rb; subst qq1
  refine xEA (newListO_is hb) fun vs hv hb => ?_
  rw [hv]
  refine xEEAA (catL_is hv) fun xs ys hi hj qq1 => ?_; subst qq1
  refine xEEA (S.isL (listAt_is hi) e1) fun ws k hl rx => ?_
  refine xEEA (S.isL (listAt_is hj) e2) fun us k' hl' ry => ?_
  have hr : RVs P.B s.heap σ (xs ++ ys) (ws ++ us).toList := by rw [Array.toList_append]; exact rx.append ry
  refine xA (qv_newList S hr hb) fun hsz hq => ?_
  exact PySem.P.add_list hl hl' hq (by rw [Array.size_append] at hsz; exact hsz)
theorem mulL_is {vs : List AV} {k : Int} (h : mulL a k = some vs) : ∃ x, a = some [x] /\ 0 <= k /\ k <= 1000 /\ vs = List.replicate k.toNat x := by
  refine xEA (Option.bind_eq_some_iff.mp h) fun xs hx h => ?_
  rcases xs with _ | ⟨x, r⟩
  . exact none_ne h
  refine xA (iteN h) fun hc h => ?_
  rw [Bool.and_eq_true, Bool.and_eq_true, decide_eq_true_eq, decide_eq_true_eq, List.isEmpty_iff] at hc
  rw [hc.1.1] at hx
  exact ⟨x, hx, hc.1.2, hc.2, (Option.some.inj h).symm⟩
theorem RVs.replicate {B : Bs} {h : Heap} {x : AV} {v : Value} (r : RV B h σ x v) : ∀ n, RVs B h σ (List.replicate n x) (List.replicate n v)
  | 0 => trivial
  | n + 1 => ⟨r, RVs.replicate r n⟩
theorem rep_fold (v : Value) : ∀ (n : Nat) (acc : Array Value), List.foldl (fun x1 x2 => x1 ++ x2) acc (List.replicate n #[v]) = acc ++ (List.replicate n v).toArray
  | 0, acc => by simp
  | n + 1, acc => by
    rw [List.replicate_succ, List.foldl_cons, rep_fold v n]
    apply Array.toList_inj.mp
    rw [Array.toList_append, Array.toList_append, Array.toList_append]
    simp [List.replicate_succ]
theorem bin_mul (S : St P.w P.B σ hp s.heap) {v : Value} {k : Int} {t' : Tok} (ra : RV P.B s.heap σ (.loc i) v) (hb : newListO (mulL (listAt hp i) k) hp ≠ .bad) : wpAny (model P.prog P.w) A (binaryOp .Mult v (.int k t')) (QV P σ s (newListO (mulL (listAt hp i) k) hp)) E s := by
  refine xEEA ra fun a o qq1 e1 => ?_; try clear ra; subst qq1
  refine xEA (newListO_is hb) fun vs hv hb => ?_
  rw [hv]
  refine xEAAA (mulL_is hv) fun x hi hk0 hk qq1 => ?_; subst qq1
  refine xEEA (S.isL (listAt_is hi) e1) fun ws m hl rx => ?_
  obtain ⟨wl⟩ := ws
  refine xEA (RVs.one (vs := wl) rx) fun v qq1 rx1 => ?_; subst qq1
  have hr : RVs P.B s.heap σ (List.replicate k.toNat x) (List.replicate k.toNat v).toArray.toList := RVs.replicate rx1 _
  refine xA (qv_newList S hr hb) fun hsz hq => ?_
  have hfold : (List.foldl (fun x1 x2 => x1 ++ x2) #[] (List.replicate (if (#[v] : Array Value).isEmpty = true then 0 else k.toNat) #[v])) = (List.replicate k.toNat v).toArray := (rep_fold v k.toNat #[]).trans (by simp)
  refine wpAny_binaryOp_repeat_ref (T := "list") (U := "int") (by decide) ⟨_, hl, rfl⟩ (fun s' => typeIs_int s' k t') noFill_list_mul F.fills_int_mul F.slot_int_rmul repeat_list F.slot_int_index.lookup
    (call_meets F.slot_int_rmul (typeIs_int s k t') F.entry_int_rmul (F.args_int_rmul_2 _ _) (int___rmul___int_list k t' a #[v] m)
      ⟨hl, rfl, ⟨_, hl, rfl⟩, call_meets F.slot_list_mul ⟨_, hl, rfl⟩ F.entry_list_mul (F.args_list_mul_2 _ _)
        (AutoListH.list___mul___list_int_3 a #[v] m k t' (by simp [Builtin.List.listFitsIndex]; omega) (by simp; omega) (by simp [Builtin.List.listTooLong, sizeLine]; omega))
        ⟨hl, ?_⟩⟩)
  rw [hfold]
  exact hq
theorem bin_prim (ok : P.Ok) (S : St P.w P.B σ hp s.heap) (ar : Arnd n q A) {v u : Value} (hop : compBOp op = some bop)
    (ra : RV P.B s.heap σ a v) (rb : RV P.B s.heap σ b u) (hb : binAV bop a b hp ≠ .bad) : wpAny (model P.prog P.w) A (binaryOp op v u) (QV P σ s (binAV bop a b hp)) E s := by
  cases binAV_or hb with
  | int bop x y =>
    refine xEEAAAA ar.frame fun f outer hf1 hf2 hf3 hf4 hf5 => ?_
    refine xE ra fun t qq1 => ?_; try clear ra; subst qq1; refine xE rb fun t' qq1 => ?_; try clear rb; subst qq1
    exact bin_int S (PylongRoom.of (ok.noLimit S) (by have := ar.depth; show A.depth + 100 < recursionLimit; lia) (SeerAt.of (ok.noSeer S) ok.tree hf1 hf2 hf3 hf4 hf5)) hop hb
  | str x y =>
    rcases op with _ | _ <;> (try exact none_ne hop) <;> cases hop
    refine xE ra fun t qq1 => ?_; try clear ra; subst qq1; refine xE rb fun t' qq1 => ?_; try clear rb; subst qq1
    have hsz := pos_if (c := x.length + y.length <= sizeLim) hb
    refine SB.add (fun t' k => ⟨.str (x ++ y), _, _, if_pos hsz, .tok S _, t', ?_⟩) (sizeLim_le hsz)
    show Value.str ⟨x.toArray ++ y.toArray⟩ t' = _
    rw [List.append_toArray]
  | cat i j =>
    rcases op with _ | _ <;> (try exact none_ne hop) <;> cases hop
    exact bin_cat S ra rb hb
  | mul i k =>
    rcases op with _ | _ <;> (try exact none_ne hop) <;> cases hop
    refine xE rb fun t' qq1 => ?_; try clear rb; subst qq1
    exact bin_mul S ra hb
end
end
section
open PySem PySem.Spec PyProof.Rows PySem.SeqAt
section
variable {w : World} {B : Bs} {σ : Sg} {hp : AHeap} {s : Shared}
theorem eqAll_fun : ∀ {xs ys vs : List AV} {us : List Value} {r r' : Bool}, eqAll f xs vs = some r -> eqAll f ys vs = some r' -> RVs B s.heap σ xs us -> RVs B s.heap σ ys us ->
    (∀ x y v u b b', f x v = some b -> f y v = some b' -> RV B s.heap σ x u -> RV B s.heap σ y u -> b = b') -> r = r' := by
  intro xs
  induction xs with
  | nil =>
    intro ys vs us r r' h h' rx ry _
    rw [rx.nil] at ry
    rcases ys with _ | ⟨y, ys⟩
    . rw [h] at h'; exact Option.some.inj h'
    . exact ry.elim
  | cons x xs ih =>
    intro ys vs us r r' h h' rx ry H
    refine xEEAA rx.cons fun u us qq1 r1 r2 => ?_; subst qq1
    rcases ys with _ | ⟨y, ys⟩
    . exact ry.elim
    rcases vs with _ | ⟨v, vs⟩
    . exact (Option.some.inj h).symm.trans (Option.some.inj h')
    refine xEEAA (and2_is h) fun b c h1 h2 h3 => ?_
    refine xEEAA (and2_is h') fun b' c' h1' h2' h3' => ?_
    rw [h3, h3', H x y v u b b' h1 h1' r1 ry.1, ih h2 h2' r2 ry.2 H]
noncomputable def decV : Value -> Option AV
  | .none => some .none
  | .bool b => some (.bool b)
  | .int i _ => some (.int i)
  | .str x _ => some (.str x.cps.toList)
  | _ => none
theorem RV.dec (r : RV B h σ x u) (hr : ∀ a, u ≠ .ref a) : decV u = some x := by
  rcases x with _ | b | i | t | xs | j | _
  . rw [show u = .none from r]; rfl
  . rw [show u = .bool b from r]; rfl
  . refine xE r fun t e => ?_; rw [e]; rfl
  . refine xE r fun t e => ?_; rw [e]; rfl
  . refine xEEEA r fun a _ _ e _ => ?_; exact absurd e (hr a)
  . refine xEEA r fun a _ e _ => ?_; exact absurd e (hr a)
  . refine xEEEEA r fun a _ _ _ e _ => ?_; exact absurd e (hr a)
  . refine xEEA r fun a _ e _ => ?_; exact absurd e (hr a)
  . refine xEEA r fun a _ e _ => ?_; exact absurd e (hr a)
theorem eqv_fun (S : St w B σ hp s.heap) : ∀ (n : Nat) (x y v : AV) (u : Value) (b b' : Bool), eqv hp n x v = some b -> eqv hp n y v = some b' -> RV B s.heap σ x u -> RV B s.heap σ y u -> b = b'
  | 0, _, _, _, _, _, _, h, _, _, _ => nomatch h
  | n + 1, x, y, v, u, b, b', h, h', rx, ry => by
    by_cases hr : ∃ a, u = .ref a
    . have H : ∀ x y v u b b', eqv hp n x v = some b -> eqv hp n y v = some b' -> RV B s.heap σ x u -> RV B s.heap σ y u -> b = b' := fun x y v u b b' => eqv_fun S n x y v u b b'
      refine xE hr fun a hu => ?_
      have ne : u ≠ .none := by rw [hu]; exact fun q => nomatch q
      cases eqv_or h with
      | none => exact absurd rx ne
      | nv => exact absurd rx ne
      | int => refine xE rx fun t e => ?_; rw [hu] at e; cases e
      | str => refine xE rx fun t e => ?_; rw [hu] at e; cases e
      | vn =>
        cases eqv_or h' with
        | none => exact absurd ry ne
        | nv => rename_i hv; exact none_ne hv
        | vn => rfl
      | tup xs zs b e =>
        cases eqv_or h' with
        | tup ys zs b' e' =>
          clear H hr
          refine xEEEAA rx fun a ws k qq oa rx1 => ?_
          refine xEEEAA ry fun c us k' q ob ry1 => ?_
          rw [qq] at q
          cases q
          have := (objAt_uniq oa ob).2
          cases this
          exact eqAll_fun e e' rx1 ry1 fun x y v u b b' => eqv_fun S n x y v u b b'
        | nv => exact absurd ry ne
      | loc i k b e =>
        cases eqv_or h' with
        | loc j k b' e' =>
          refine xEEA rx fun a o qq e1 => ?_
          refine xEEA ry fun c o' q e2 => ?_
          rw [qq] at q
          cases q
          obtain rfl := S.inj e1 e2
          rw [e] at e'; exact Option.some.inj e'
        | nv => exact absurd ry ne
    . have q := (rx.dec fun a e => hr ⟨a, e⟩).symm.trans (ry.dec fun a e => hr ⟨a, e⟩)
      rw [Option.some.inj q] at h
      exact Option.some.inj (h.symm.trans h')
theorem or2_is (h : or2 a b = some r) : ∃ x y, a = some x /\ b = some y /\ r = (x || y) := by
  rcases a with _ | x
  . exact none_ne h
  rcases b with _ | y
  . exact none_ne h
  exact ⟨x, y, rfl, rfl, (Option.some.inj h).symm⟩
theorem findEq_spec : ∀ {xs : List AV} {r : Bool}, findEq hp v xs = some r -> (∀ (j : Nat) x, xs[j]? = some x -> ∃ b, eqv hp eqFuel x v = some b) /\ (r = true ↔ ∃ (j : Nat) (x : AV), xs[j]? = some x /\ eqv hp eqFuel x v = some true)
  | [], r, h => by rw [<- Option.some.inj h]; simp
  | x :: xs, r, h => by
    refine xEEAA (or2_is h) fun b c h1 h2 h => ?_
    replace h := h.symm
    next =>
      next =>
        refine xA (findEq_spec h2) fun ih1 ih2 => ?_
        refine ⟨fun j y hy => ?_, ?_⟩
        . rcases j with _ | j
          case zero => simp at hy; subst hy; exact ⟨b, h1⟩
          case succ => simp at hy; exact ih1 j y hy
        . rw [<- h, Bool.or_eq_true, ih2]
          constructor
          . rintro (rfl | ⟨j, y, e1, e2⟩)
            . exact ⟨0, x, by simp, h1⟩
            . exact ⟨j + 1, y, by simpa using e1, e2⟩
          . rintro ⟨j, y, e1, e2⟩
            rcases j with _ | j
            case zero => simp at e1; subst e1; rw [h1] at e2; left; exact Option.some.inj e2
            case succ => right; exact ⟨j, y, by simpa using e1, e2⟩
open Classical in
theorem eq_items (S : St w B σ hp s.heap) {ws : Array Value} (hd : ∀ (j : Nat) x, xs[j]? = some x -> ∃ b, eqv hp eqFuel x v = some b) (rx : RVs B s.heap σ xs ws.toList) (rv : RV B s.heap σ v u) (hu : A.units + eqFuel < cLine) :
    ∃ e : Value -> Bool, (∀ y, y ∈ ws -> EqAt A s y u (e y)) /\ ∀ (j : Nat) y x, ws[j]? = some y -> xs[j]? = some x -> eqv hp eqFuel x v = some (e y) := by
  have key : ∀ (j : Nat) (y : Value) (x : AV), ws[j]? = some y -> xs[j]? = some x -> eqv hp eqFuel x v = some (decide (∃ (j : Nat) (x : AV), ws[j]? = some y /\ xs[j]? = some x /\ eqv hp eqFuel x v = some true)) := by
    intro j y x hy hx
    refine xE (hd j x hx) fun b hb => ?_
    rw [hb]
    congr 1
    rcases b with _ | _
    case true => exact (decide_eq_true ⟨j, x, hy, hx, hb⟩).symm
    case false =>
      refine (decide_eq_false ?_).symm
      rintro ⟨k, z, hy', hz, ht⟩
      refine xEA (rx.get hx) fun v1 e1 q1 => ?_
      refine xEA (rx.get hz) fun v2 e2 q2 => ?_
      rw [Array.getElem?_toList, hy] at e1
      rw [Array.getElem?_toList, hy'] at e2
      cases e1; cases e2
      exact absurd (eqv_fun S _ _ _ _ _ _ _ hb ht q1 q2) (by simp)
  refine ⟨fun y => decide (∃ (j : Nat) (x : AV), ws[j]? = some y /\ xs[j]? = some x /\ eqv hp eqFuel x v = some true), ?_, key⟩
  . intro y hy
    refine xE (Array.mem_iff_getElem.mp hy) fun j qq1 => ?_; refine xE qq1 fun hj e => ?_
    have ey : ws[j]? = some y := by rw [Array.getElem?_eq_getElem hj, e]
    have hl := rx.size
    have ex : xs[j]? = some xs[j] := List.getElem?_eq_getElem (by lia)
    refine xEA (rx.get ex) fun v1 e1 q1 => ?_
    rw [Array.getElem?_toList, ey] at e1
    cases e1
    exact (eqv_at S _ _ _ _ A _ _ (key j y _ ey ex) q1 rv hu).eq
theorem any_items {ws : Array Value} (h : findEq hp v xs = some r) (rx : RVs B s.heap σ xs ws.toList) (he : ∀ (j : Nat) y x, ws[j]? = some y -> xs[j]? = some x -> eqv hp eqFuel x v = some (e y)) : ws.any e = r := by
  refine xA (findEq_spec h) fun hd hr => ?_
  have hl := rx.size
  have : ws.any e = true ↔ r = true := by
    rw [hr, Array.any_eq_true]
    constructor
    . rintro ⟨j, hj, ht⟩
      have ex : xs[j]? = some xs[j] := List.getElem?_eq_getElem (by lia)
      exact ⟨j, _, ex, by rw [he j _ _ (Array.getElem?_eq_getElem hj) ex, ht]⟩
    . rintro ⟨j, x, hx, ht⟩
      have hj : j < ws.size := by have := (List.getElem?_eq_some_iff.mp hx).1; lia
      have := he j _ x (Array.getElem?_eq_getElem hj) hx
      rw [ht] at this
      exact ⟨j, hj, (Option.some.inj this).symm⟩
  rcases h1 : ws.any e with _ | _ <;> rcases h2 : r with _ | _ <;> simp_all
end
end
section
open PySem PySem.Spec PyProof.Rows PySem.SeqAt
section
variable {P : Par} {A : Around} {σ : Sg} {hp : AHeap} {s : Shared} {E : Value -> Shared -> Prop}
theorem key_tuple (r : RV B h σ (Key.pair a b).av v) : ∃ c, v = .ref c /\ IsTupleKey (intKind P.prog P.w) h [a, b] c := by
  refine xEEEAA r fun c ws n qq1 o rs => ?_; try clear r; subst qq1
  refine ⟨c, rfl, _, ws, n, o, rfl, rfl, ?_⟩
  obtain ⟨wl⟩ := ws
  replace rs : RVs B h σ [.int a, .int b] wl := rs
  refine xEEAA rs.cons fun x r1 qq1 qq2 rs2 => ?_; subst qq1; refine xE qq2 fun t qq1 => ?_; try clear qq2; subst qq1
  refine xEAE rs2.one fun y qq1 u qq2 => ?_; subst qq1; subst qq2
  exact .cons (by simp [intKind, Value.isInt]) (.cons (by simp [intKind, Value.isInt]) .nil)
theorem pyHash_prim (r : RV P.B s.heap σ k.av v) (hu : A.units < cLine) :
    ∃ d, ∀ (E : Value -> Shared -> Prop) (Q : Int -> Shared -> Prop), Q (keyHash P.w k) { s with toks := s.toks + d } -> wpAny (model P.prog P.w) A (pyHash v) Q E s := by
  rcases k with x | ⟨a, b⟩ | i
  case str =>
    refine xE r fun t qq1 => ?_; try clear r; subst qq1
    exact ⟨1, fun E Q h => wpAny_pyHash_str h⟩
  case int =>
    refine xE r fun t qq1 => ?_; try clear r; subst qq1
    exact ⟨1, fun E Q h => (intKind P.prog P.w).pyHash (intKind_is _ _ _ _) h⟩
  case pair =>
    refine xEA (key_tuple (P := P) r) fun c qq1 ht => ?_; subst qq1
    exact ⟨3, fun E Q h => wpAny_pyHash_tuple hu ht h⟩
theorem REs.idx : ∀ {ps : List (Key × AV)} {es : List DictEntry}, REs w B h σ ps es ->
    (∀ p e, p ∈ ps -> e.hash = keyHash w p.1 -> RV B h σ p.1.av e.key -> f e = (p.1 == k)) -> es.findIdx? f = ps.findIdx? (fun p => p.1 == k)
  | [], [], _, _ => rfl
  | p :: ps, e :: es, r, H => by
    rw [List.findIdx?_cons, List.findIdx?_cons, H p e (.head _) r.1.1 r.1.2.1, REs.idx r.2 fun p e hp => H p e (.tail _ hp)]
  | [], _ :: _, r, _ => r.elim
  | _ :: _, [], r, _ => r.elim
theorem REs.mem : ∀ {ps : List (Key × AV)} {es : List DictEntry}, REs w B h σ ps es -> ∀ e ∈ es, ∃ p ∈ ps, e.hash = keyHash w p.1 /\ RV B h σ p.1.av e.key /\ RV B h σ p.2 e.val
  | [], [], _, e, he => nomatch he
  | p :: ps, e' :: es, r, e, he => by
    rcases List.mem_cons.mp he with rfl | he
    . exact ⟨p, .head _, r.1⟩
    . refine xEA (REs.mem r.2 e he) fun q hq x => ?_
      exact ⟨q, .tail _ hq, x⟩
  | [], _ :: _, r, _, _ => r.elim
  | _ :: _, [], r, _, _ => r.elim
noncomputable def pairK : Key -> List Int
  | .pair a b => [a, b]
  | _ => []
theorem REs.pairs : ∀ {ps : List (Key × AV)} {es : List DictEntry}, REs P.w B h σ ps es -> (∀ p ∈ ps, p.1.sort = 1) ->
    ∃ xs : List (List Int × Addr × Value), es = xs.map (entryOfKey (tupleKind (intKind P.prog P.w))) /\ (∀ x ∈ xs, IsTupleKey (intKind P.prog P.w) h x.1 x.2.1) /\ xs.map (·.1) = ps.map (fun p => pairK p.1)
  | [], [], _, _ => ⟨[], rfl, fun _ hx => (nomatch hx), rfl⟩
  | p :: ps, e :: es, r, H => by
    refine xEAA (REs.pairs r.2 fun q hq => H q (.tail _ hq)) fun xs h1 h2 h3 => ?_
    obtain ⟨k, v⟩ := p
    rcases k with i | ⟨a, b⟩ | i
    case str => exact nomatch H _ (.head _)
    case int => exact nomatch H _ (.head _)
    case pair =>
      refine xEA (key_tuple (P := P) r.1.2.1) fun c hc ht => ?_
      refine ⟨([a, b], c, e.val) :: xs, ?_, ?_, ?_⟩
      . rw [List.map_cons, h1]
        congr 1
        obtain ⟨hh, hk, hv⟩ := e
        simp only [entryOfKey]
        have e1 := r.1.1
        simp only at e1 hc
        rw [e1, hc]
        rfl
      . intro x hx
        rcases List.mem_cons.mp hx with rfl | hx
        . exact ht
        . exact h2 x hx
      . rw [List.map_cons, h3]; rfl
  | [], _ :: _, r, _ => r.elim
  | _ :: _, [], r, _ => r.elim
theorem sortOk_iff : sortOk kvs k = true ↔ ∀ p ∈ kvs, p.1.sort = k.sort := by
  simp [sortOk, List.all_eq_true]
theorem pairK_inj (hk : k.sort = 1) : pairK k = [a, b] ↔ k = .pair a b := by
  rcases k with _ | ⟨x, y⟩ | _
  . exact nomatch hk
  . exact ⟨fun e => by cases e; rfl, fun e => by cases e; rfl⟩
  . exact nomatch hk
theorem findIdx_of_nodup {ps : List (Key × AV)} (hn : (ps.map (·.1)).Nodup) (h : ps[j]? = some (k, v)) : ps.findIdx? (fun p => p.1 == k) = some j := by
  refine xE (List.getElem?_eq_some_iff.mp h) fun hj e => ?_
  rw [List.findIdx?_eq_some_iff_getElem]
  refine ⟨hj, by rw [e]; simp, fun i hi => ?_⟩
  have hi' : i < ps.length := by lia
  intro q
  have q := eq_of_beq q
  have h1 : (ps.map (·.1))[i]? = some k := by rw [List.getElem?_map, List.getElem?_eq_getElem hi']; simp [q]
  have h2 : (ps.map (·.1))[j]? = some k := by rw [List.getElem?_map, h]; rfl
  have := (List.getElem?_inj (by simpa using hi') hn).mp (h1.trans h2.symm)
  lia
theorem dictFind_prim {es : Array DictEntry} (ho : s.heap.get? a = some o) (hd : o.data = .dict es ep) (re : REs P.w P.B s.heap σ kvs es.toList) (hn : (kvs.map (·.1)).Nodup)
    {k : Key} {v : Value} (r : RV P.B s.heap σ k.av v) (hs : sortOk kvs k = true) (hu : A.units < cLine) {Q : Option Nat -> Shared -> Prop} (h : Q (kvs.findIdx? fun p => p.1 == k) s) :
    wpAny (model P.prog P.w) A (dictFind a v (keyHash P.w k)) Q E s := by
  have hsort := sortOk_iff.mp hs
  rcases k with x | ⟨p, q⟩ | x
  case int =>
    refine xE r fun t qq1 => ?_; try clear r; subst qq1
    have hint : ∀ p ∈ kvs, ∃ j, p.1 = Key.int j := fun p hp => by
      have := hsort p hp
      rcases hk : p.1 with _ | _ | j <;> rw [hk] at this
      . exact nomatch this
      . exact nomatch this
      . exact ⟨j, rfl⟩
    refine wpAny_dictFind_of (knd := intKind P.prog P.w) (k := x) (intKind_is _ _ _ _) ho hd (fun e he => ?_) ?_
    . refine xEAAA (re.mem e (Array.mem_toList_iff.mpr he)) fun p hp h1 h2 h3 => ?_
      refine xE (hint p hp) fun j hj => ?_
      rw [hj] at h1 h2
      refine xE h2 fun t' h2 => ?_
      exact ⟨j, by rw [h2]; exact intKind_is _ _ _ _, h1⟩
    . have : es.findIdx? (fun e => (intKind P.prog P.w).is x e.key) = kvs.findIdx? (fun p => p.1 == Key.int x) := by
        obtain ⟨el⟩ := es
        rw [List.findIdx?_toArray]
        refine re.idx fun p e hp h1 h2 => ?_
        refine xE (hint p hp) fun j hj => ?_
        rw [hj] at h2 |-
        refine xE h2 fun t' h2 => ?_
        rw [h2]
        show ((intKind P.prog P.w).is x (.int j t')) = (Key.int j == Key.int x)
        rw [Bool.eq_iff_iff, beq_iff_eq]
        constructor
        . intro q; rw [KeyKind.is_eq_decide (intKind_is P.prog P.w j t') x, decide_eq_true_eq] at q; rw [q]
        . intro q; cases q; exact intKind_is _ _ _ _
      rw [this]; exact h
  case str =>
    refine xE r fun t qq1 => ?_; try clear r; subst qq1
    refine wpAny_dictFind_of (knd := PySem.strKind P.prog P.w) (k := ⟨x.toArray⟩) (by simp [PySem.strKind, Value.isStrOf]) ho hd (fun e he => ?_) ?_
    . refine xEAAA (re.mem e (Array.mem_toList_iff.mpr he)) fun p hp h1 h2 h3 => ?_
      have := hsort p hp
      obtain ⟨kk, vv⟩ := p
      rcases kk with _ | _
      case pair => exact nomatch this
      case int => exact nomatch this
      obtain ⟨t', h2⟩ := h2
      exact ⟨_, by rw [h2]; simp [PySem.strKind, Value.isStrOf], h1⟩
    . have : es.findIdx? (fun e => (PySem.strKind P.prog P.w).is ⟨x.toArray⟩ e.key) = kvs.findIdx? (fun p => p.1 == Key.str x) := by
        obtain ⟨el⟩ := es
        rw [List.findIdx?_toArray]
        refine re.idx fun p e hp h1 h2 => ?_
        have := hsort p hp
        obtain ⟨kk, vv⟩ := p
        rcases kk with _ | _
        case pair => exact nomatch this
        case int => exact nomatch this
        obtain ⟨t', h2⟩ := h2
        rw [h2]
        rename_i j
        show ((⟨j.toArray⟩ : Str) == ⟨x.toArray⟩) = (Key.str j == Key.str x)
        rw [str_eq_iff]
        by_cases q : j = x <;> simp [q]
      rw [this]; exact h
  case pair =>
    refine xEA (key_tuple (P := P) r) fun c qq1 ht => ?_; subst qq1
    refine xEAA (re.pairs (P := P) fun p hp => (hsort p hp).trans rfl) fun xs h1 h2 h3 => ?_
    have hlen : xs.length = kvs.length := by have := congrArg List.length h3; simpa using this
    have hnx : (xs.map (·.1)).Nodup := by
      rw [h3]
      have : kvs.map (fun p => pairK p.1) = (kvs.map (·.1)).map pairK := by simp
      rw [this]
      refine List.pairwise_map.mpr (List.Pairwise.imp_of_mem ?_ hn)
      intro x y hx hy hne e
      refine hne ?_
      refine xEA (List.mem_map.mp hx) fun p1 hp1 qq1 => ?_; subst qq1
      refine xEA (List.mem_map.mp hy) fun p2 hp2 qq1 => ?_; subst qq1
      have s1 := hsort p1 hp1
      have s2 := hsort p2 hp2
      obtain ⟨k1, _⟩ := p1
      obtain ⟨k2, _⟩ := p2
      rcases k2 with _ | ⟨x2, y2⟩ | _
      . exact nomatch s2
      . exact (pairK_inj (a := x2) (b := y2) s1).mp e
      . exact nomatch s2
    have hat : ∀ j : Nat, (∃ w, xs[j]? = some ([p, q], w)) ↔ ∃ w, kvs[j]? = some (Key.pair p q, w) := by
      intro j
      have e := congrArg (·[j]?) h3
      simp only [List.getElem?_map] at e
      constructor
      . rintro ⟨w, hw⟩
        rw [hw] at e
        rcases hk : kvs[j]? with _ | y
        case none => rw [hk] at e; cases e
        case some =>
          rw [hk] at e
          simp only [Option.map_some, Option.some.injEq] at e
          obtain ⟨k, w'⟩ := y
          have hs' := hsort _ (List.mem_of_getElem? hk)
          have := (pairK_inj (a := p) (b := q) (hs'.trans rfl)).mp e.symm
          exact ⟨w', by simp at this; rw [this]⟩
      . rintro ⟨w, hw⟩
        rw [hw] at e
        rcases hk : xs[j]? with _ | y
        case none => rw [hk] at e; cases e
        case some =>
          rw [hk] at e
          obtain ⟨k, w'⟩ := y
          exact ⟨w', by rw [show k = [p, q] from Option.some.inj e]⟩
    refine wpAny_dictFind_heap (knd := tupleKind (intKind P.prog P.w)) (k := [p, q]) hu ht ho hd h1 h2 hnx (fun hno => ?_) (fun j w hj => ?_)
    . have : kvs.findIdx? (fun y => y.1 == Key.pair p q) = none := by
        rw [List.findIdx?_eq_none_iff]
        intro y hy
        refine xE (List.mem_iff_getElem.mp hy) fun j qq1 => ?_; refine xE qq1 fun hj e => ?_
        obtain ⟨k, w⟩ := y
        simp only [beq_eq_false_iff_ne, ne_eq]
        rintro rfl
        refine xE ((hat j).mpr ⟨w, by rw [List.getElem?_eq_getElem hj, e]⟩) fun w' hw' => ?_
        exact hno j w' hw'
      rw [this] at h; exact h
    . refine xE ((hat j).mp ⟨w, hj⟩) fun w' hw' => ?_
      rw [findIdx_of_nodup hn hw'] at h
      exact h
end
end
section
open PySem PySem.Spec PyProof.Rows PySem.SeqAt
section
variable {P : Par} {A : Around} {σ : Sg} {hp : AHeap} {s : Shared} {E : Value -> Shared -> Prop}
theorem find_lookup : ∀ (kvs : List (Key × AV)), (kvs.findIdx? (fun p => p.1 == k) = none /\ kvs.lookup k = none) \/ ∃ i v, kvs.findIdx? (fun p => p.1 == k) = some i /\ kvs[i]? = some (k, v) /\ kvs.lookup k = some v
  | [] => .inl ⟨rfl, rfl⟩
  | (k', v) :: r => by
    rw [List.findIdx?_cons, List.lookup_cons]
    by_cases h : k' = k
    . subst h
      exact .inr ⟨0, v, by simp, by simp, by simp⟩
    . have h1 : (k' == k) = false := beq_eq_false_iff_ne.mpr h
      have h2 : (k == k') = false := beq_eq_false_iff_ne.mpr fun e => h e.symm
      simp only [h1, h2, Bool.false_eq_true, if_false]
      rcases find_lookup r with ⟨e1, e2⟩ | ⟨i, w, e1, e2, e3⟩
      . exact .inl ⟨by rw [e1]; rfl, e2⟩
      . exact .inr ⟨i + 1, w, by rw [e1]; rfl, by simpa using e2, e3⟩
theorem St.isDict (S : St P.w P.B σ hp s.heap) {n : Nat} (e : hp[n]? = some (.dict kvs ep)) (hs : σ[n]? = some (a, off)) :
    ∃ es, ObjAt s.heap a (.type "dict") (.dict es (off + ep)) /\ REs P.w P.B s.heap σ kvs es.toList /\ (kvs.map (·.1)).Nodup /\ (∀ p ∈ kvs, ∀ q ∈ kvs, p.1.sort = q.1.sort) /\ kvs.length <= sizeLine :=
  S.obj n a off _ hs e
theorem St.notMods (S : St P.w P.B σ hp s.heap) (ok : P.Ok) {n : Nat} (hs : σ[n]? = some (a, off)) : (a == sysModules) = false := by
  refine beq_eq_false_iff_ne.mpr fun e => ?_
  refine xE ok.mods fun o ho => ?_
  have := S.new _ (List.mem_of_getElem? hs)
  simp only at this
  rw [e, ho] at this
  cases this
theorem dictGet_prim (S : St P.w P.B σ hp s.heap) {j : Nat} (hj : hp[j]? = some (.dict kvs ep)) (hs : σ[j]? = some (a, off))
    {k : Key} {v : Value} (r : RV P.B s.heap σ k.av v) (hso : sortOk kvs k = true) (hu : A.units < cLine) :
    ∃ d, ∀ (E : Value -> Shared -> Prop) (Q : Option Value -> Shared -> Prop), (kvs.lookup k = none -> Q none { s with toks := s.toks + d }) -> (∀ x u, kvs.lookup k = some x -> RV P.B s.heap σ x u -> Q (some u) { s with toks := s.toks + d }) ->
      wpAny (model P.prog P.w) A (dictGet a v) Q E s := by
  refine xEAAA (S.isDict hj hs) fun es ho re hn _ => ?_
  refine xE (pyHash_prim (A := A) r hu) fun d hh => ?_
  refine ⟨d, fun E Q h1 h2 => ?_⟩
  unfold dictGet
  refine wpAny_holding (wpAny_bind (hh _ _ (wpAny_bind (dictFind_prim (s := { s with toks := s.toks + d }) ho rfl re hn r hso hu ?_))))
  rcases find_lookup (k := k) kvs with ⟨e1, e2⟩ | ⟨i, x, e1, e2, e3⟩
  . rw [e1]
    exact wpAny_pure (h1 e2)
  . rw [e1]
    refine wpAny_bind (wpAny_dictEntries (s := { s with toks := s.toks + d }) ho rfl ?_)
    refine xEAAA (re.get e2) fun en f1 f2 f3 f4 => ?_
    rw [Array.getElem?_toList] at f1
    rw [f1]
    exact wpAny_pure (h2 x _ e3 f4)
theorem in_dict (ok : P.Ok) (S : St P.w P.B σ hp s.heap) {j : Nat} {ep : Nat} (hj : hp[j]? = some (.dict kvs ep)) (hs : σ[j]? = some (a, off))
    {k : Key} {v : Value} (r : RV P.B s.heap σ k.av v) (hso : sortOk kvs k = true) (hu : A.units + 1 < cLine) {Q : Bool -> Shared -> Prop} (h : ∀ d, Q (kvs.lookup k).isSome { s with toks := s.toks + d }) :
    wpAny (model P.prog P.w) A (contains (.ref a) v) Q E s := by
  refine xEAAA (S.isDict hj hs) fun es ho re hn _ => ?_
  have hT : s.TypeIs (.ref a) "dict" := ⟨_, ho, rfl⟩
  refine xE (dictGet_prim (A := A.in1) S hj hs r hso (by simpa using hu)) fun d hh => ?_
  unfold contains
  try with_reducible refine wpAny_holding ?_
  refine wpAny_bind (wpAny_specialOf hT slot_dict_contains.lookup ?_)
  show wpAny _ _ (if (some (Value.builtin "dict.__contains__") == some Value.none) = true then _ else _) _ E s
  rw [if_neg (by rw [beq_builtin_none]; exact Bool.false_ne_true)]
  refine wpAny_bind (wpAny_callSpecialUnlessNone?_slot (name := Str.ofString "__contains__") hT slot_dict_contains
    (wpAny_call_entry slot_dict_contains hT entry_dict_contains ?_ (args_dict_contains _ _)))
  show wpAny _ _ (dictGet a v >>= _) _ _ s
  refine wpAny_bind (hh _ _ (fun e => ?_) (fun x u e rx => ?_))
  . show wpAny _ _ (Builtin.Dict.pendingKey? a v >>= _) _ _ _
    refine wpAny_bind (wpAny_pendingKey_other (S.notMods ok hs) (wpAny_pure ⟨_, rfl, wpAny_truthy_bool ?_⟩))
    have := h d
    rw [e] at this
    exact this
  . show wpAny _ _ (ret (.bool true)) _ _ _
    refine wpAny_pure ⟨_, rfl, wpAny_truthy_bool ?_⟩
    have := h d
    rw [e] at this
    exact this
theorem intOf_is (h : intOf x = some i) : x = .int i := by
  rcases x with _ | _ <;> first | exact none_ne h | (cases h; rfl)
theorem key_av {a : AV} (h : a.key? = some k) : a = k.av := by
  rcases a with _ | _ | i | s | vs | _ <;> try exact none_ne h
  case int => cases h; rfl
  case str => cases h; rfl
  case tup =>
    rcases vs with _ | ⟨x, _ | ⟨y, _ | ⟨z, t⟩⟩⟩ <;> try exact none_ne h
    refine xEA (Option.bind_eq_some_iff.mp h) fun a ha h => ?_
    refine xEA (Option.bind_eq_some_iff.mp h) fun b hb h => ?_
    cases h; rw [intOf_is ha, intOf_is hb]; rfl
theorem getItem_dict (ok : P.Ok) (S : St P.w P.B σ hp s.heap) {j : Nat} (hj : hp[j]? = some (.dict kvs ep)) (hs : σ[j]? = some (a, off))
    {k : Key} {v : Value} (r : RV P.B s.heap σ k.av v) (hso : sortOk kvs k = true) (hu : A.units + 1 < cLine) {x : AV} (hx : kvs.lookup k = some x) {Q : Value -> Shared -> Prop} (h : ∀ d u, RV P.B s.heap σ x u -> Q u { s with toks := s.toks + d }) :
    wpAny (model P.prog P.w) A (getItem (.ref a) v) Q E s := by
  refine xEAAA (S.isDict hj hs) fun es ho re hn _ => ?_
  have hT : s.TypeIs (.ref a) "dict" := ⟨_, ho, rfl⟩
  refine xE (dictGet_prim (A := A.in1) S hj hs r hso (by simpa using hu)) fun d hh => ?_
  unfold getItem
  try with_reducible refine wpAny_holding ?_
  refine wpAny_bind (wpAny_sequenceKey hT (by decide) ?_)
  refine wpAny_bind (wpAny_callSpecial?_slot (name := Str.ofString "__getitem__") hT slot_dict_getitem
    (wpAny_call_entry slot_dict_getitem hT entry_dict_getitem ?_ (args_dict_getitem _ _)))
  show wpAny _ _ (dictGet a v >>= _) _ _ s
  refine wpAny_bind (hh _ _ (fun e => ?_) (fun x' u e rx => ?_))
  . rw [hx] at e; cases e
  . rw [hx] at e; cases e
    exact wpAny_pure ⟨u, rfl, wpAny_pure (h d u rx)⟩
theorem REs.setAt (rv : RV B h σ x v) : ∀ {ps : List (Key × AV)} {es : List DictEntry}, REs w B h σ ps es -> ∀ {i : Nat}, ps.findIdx? (fun p => p.1 == k) = some i -> (ps.map (·.1)).Nodup ->
    REs w B h σ (ps.map (fun p => if p.1 == k then (p.1, x) else p)) (es.modify i fun e => { e with val := v })
  | p :: ps, e :: es, r, i, hi, hn => by
    rw [List.findIdx?_cons] at hi
    rw [List.map_cons, List.nodup_cons] at hn
    by_cases h : p.1 == k
    . rw [if_pos h] at hi
      cases hi
      have hrest : ps.map (fun p => if p.1 == k then (p.1, x) else p) = ps := by
        conv => rhs; rw [<- List.map_id ps]
        refine List.map_congr_left fun q hq => ?_
        have : (q.1 == k) = false := beq_eq_false_iff_ne.mpr fun e => hn.1 (by rw [eq_of_beq h, <- e]; exact List.mem_map_of_mem (f := (·.1)) hq)
        rw [if_neg (by rw [this]; simp)]; rfl
      rw [List.map_cons, if_pos h, hrest]
      exact ⟨⟨r.1.1, r.1.2.1, rv⟩, r.2⟩
    . rw [if_neg h] at hi
      rcases hj : ps.findIdx? (fun p => p.1 == k) with _ | j
      case none => rw [hj] at hi; cases hi
      case some =>
        rw [hj] at hi
        cases hi
        rw [List.map_cons, if_neg h]
        exact ⟨r.1, REs.setAt rv r.2 hj hn.2⟩
  | [], [], _, _, hi, _ => by cases hi
  | [], _ :: _, r, _, _, _ => r.elim
  | _ :: _, [], r, _, _, _ => r.elim
theorem map_put_keys (ps : List (Key × AV)) : (ps.map (fun p => if p.1 == k then (p.1, x) else p)).map (·.1) = ps.map (·.1) := by
  rw [List.map_map]
  refine List.map_congr_left fun q _ => ?_
  simp only [Function.comp]
  split <;> rfl
theorem any_eq_lookup (kvs : List (Key × AV)) : kvs.any (fun p => p.1 == k) = (kvs.lookup k).isSome := by
  induction kvs with
  | nil => rfl
  | cons p r ih =>
    obtain ⟨k', v⟩ := p
    rw [List.any_cons, List.lookup_cons, ih]
    by_cases h : k' = k
    . subst h; simp
    . have h1 : (k' == k) = false := beq_eq_false_iff_ne.mpr h
      have h2 : (k == k') = false := beq_eq_false_iff_ne.mpr fun e => h e.symm
      simp [h1, h2]
theorem dictSet_prim (S : St P.w P.B σ hp s.heap) {j : Nat} (hj : hp[j]? = some (.dict kvs ep)) (hs : σ[j]? = some (a, off))
    {k : Key} {v : Value} (r : RV P.B s.heap σ k.av v) (hso : sortOk kvs k = true) (hu : A.units < cLine) (hsz : kvs.length < sizeLim) {x : AV} {u : Value} (rx : RV P.B s.heap σ x u) {Q : Unit -> Shared -> Prop}
    (h : ∀ s', After P σ σ [] (hp.set j (.dict (dictPut kvs k x) (if (kvs.lookup k).isSome then ep else ep + 1))) s s' -> Q () s') :
    wpAny (model P.prog P.w) A (dictSet a v u) Q E s := by
  refine xEAAAA (S.isDict hj hs) fun es ho re hn hone hle => ?_
  refine xE (pyHash_prim (A := A) r hu) fun d hh => ?_
  have hlen := re.length.trans Array.length_toList
  unfold dictSet
  refine wpAny_holding (wpAny_bind (hh _ _ ?_))
  unfold dictSetHashed
  refine wpAny_holding (wpAny_bind (dictFind_prim (s := { s with toks := s.toks + d }) ho rfl re hn r hso hu ?_))
  rcases find_lookup (k := k) kvs with ⟨e1, e2⟩ | ⟨i, x', e1, e2, e3⟩
  . rw [e1]
    have hs' : Heap.SameBut a s.heap (s.heap.update a (Obj.mapDictKeys fun es => es.push ⟨keyHash P.w k, v, u⟩)) := .update ..
    have hput : dictPut kvs k x = kvs ++ [(k, x)] := by unfold dictPut; rw [any_eq_lookup, e2]; rfl
    refine wpAny_bind (wpAny_rule (wpAny_updateDictKeys (s := { s with toks := s.toks + d }) ho rfl ?_ (hz := by have := sizeLim_le (Nat.le_of_lt hsz); lia)))
    refine xA (S.upd (X := []) hs hs'.extBut (.dict (dictPut kvs k x) (if (kvs.lookup k).isSome then ep else ep + 1)) (Heap.get?_update_self _ ho rfl) fun g => by
      refine ⟨es.push ⟨keyHash P.w k, v, u⟩, ?_, ?_, ?_, ?_, ?_⟩
      . rw [e2]
        exact Heap.get?_update_self _ ho rfl
      . rw [hput, Array.toList_push]
        exact (re.grows g).append ⟨⟨rfl, RV.grows g _ _ r, RV.grows g _ _ rx⟩, trivial⟩
      . rw [hput, List.map_append, List.nodup_append]
        refine ⟨hn, by simp, fun y hy z hz e => ?_⟩
        simp at hz; subst hz; subst e
        refine xEA (List.mem_map.mp hy) fun p hp' qq1 => ?_; subst qq1
        have := (List.findIdx?_eq_none_iff.mp e1) p hp'
        simp at this
      . rw [hput]
        have hk := sortOk_iff.mp hso
        have : ∀ p ∈ kvs ++ [(k, x)], p.1.sort = k.sort := fun p hp' => by
          rcases List.mem_append.mp hp' with hp' | hp'
          . exact hk p hp'
          . simp at hp'; subst hp'; rfl
        exact fun p hp' q hq => (this p hp').trans (this q hq).symm
      . rw [hput, List.length_append]
        have := sizeLim_le hsz
        simpa using this) fun S' g => ?_
    exact h _ ⟨rfl, S', g⟩
  . rw [e1]
    have hs' : Heap.SameBut a s.heap (s.heap.update a (Obj.mapDict fun es => es.modify i fun e => { e with val := u })) := .update ..
    have hput : dictPut kvs k x = kvs.map (fun p => if p.1 == k then (p.1, x) else p) := by unfold dictPut; rw [any_eq_lookup, e3]; rfl
    refine wpAny_bind (wpAny_rule (wpAny_bind (wpAny_updateDict (s := { s with toks := s.toks + d }) ho rfl (wpAny_point ?_) (hz := by simp))))
    refine xA (S.upd (X := []) hs hs'.extBut (.dict (dictPut kvs k x) (if (kvs.lookup k).isSome then ep else ep + 1)) (Heap.get?_update_self _ ho rfl) fun g => by
      refine ⟨es.modify i fun e => { e with val := u }, ?_, ?_, ?_, ?_, ?_⟩
      . rw [e3]
        exact Heap.get?_update_self _ ho rfl
      . rw [hput]
        have := REs.setAt (RV.grows g _ _ rx) (re.grows g) e1 hn
        obtain ⟨el⟩ := es
        simpa using this
      . rw [hput, map_put_keys]; exact hn
      . rw [hput]
        have hk := sortOk_iff.mp hso
        have : ∀ p ∈ kvs.map (fun p => if p.1 == k then (p.1, x) else p), p.1.sort = k.sort := fun p hp' => by
          refine xEA (List.mem_map.mp hp') fun q hq qq1 => ?_; subst qq1
          split <;> exact hk q hq
        exact fun p hp' q hq => (this p hp').trans (this q hq).symm
      . rw [hput, List.length_map]; exact hle) fun S' g => ?_
    exact h _ ⟨rfl, S', g⟩
theorem setItem_dict (S : St P.w P.B σ hp s.heap) {j : Nat} (hj : hp[j]? = some (.dict kvs ep)) (hs : σ[j]? = some (a, off))
    {k : Key} {v : Value} (r : RV P.B s.heap σ k.av v) (hso : sortOk kvs k = true) (hu : A.units + 1 < cLine) (hsz : kvs.length < sizeLim) {x : AV} {u : Value} (rx : RV P.B s.heap σ x u) {Q : Unit -> Shared -> Prop}
    (h : ∀ s', After P σ σ [] (hp.set j (.dict (dictPut kvs k x) (if (kvs.lookup k).isSome then ep else ep + 1))) s s' -> Q () s') :
    wpAny (model P.prog P.w) A (setItem (.ref a) v u) Q E s := by
  refine xEAAA (S.isDict hj hs) fun es ho re hn _ => ?_
  have hT : s.TypeIs (.ref a) "dict" := ⟨_, ho, rfl⟩
  unfold setItem
  try with_reducible refine wpAny_holding ?_
  refine wpAny_bind (wpAny_sequenceKey hT (by decide) ?_)
  refine wpAny_bind (wpAny_callSpecial?_slot (name := Str.ofString "__setitem__") hT slot_dict_setitem
    (wpAny_call_entry slot_dict_setitem hT entry_dict_setitem ?_ (args_dict_setitem _ _ _)))
  show wpAny _ _ (Builtin.Dict.notOrdered "__setitem__" ⟨[.ref a, v, u], []⟩ >>= _) _ _ s
  refine wpAny_bind (wpAny_notOrdered_dict hT ?_)
  show wpAny _ _ (dictSet a v u >>= _) _ _ s
  exact wpAny_bind (dictSet_prim (A := A.in1) S hj hs r hso (by simpa using hu) hsz rx fun s' a => wpAny_pure ⟨.none, rfl, wpAny_pure (h s' a)⟩)
end
end
section
open PySem PySem.Spec PyProof.Rows PySem.SeqAt
inductive QB (P : Par) (σ : Sg) (hp : AHeap) (s : Shared) (r : Option Bool) (c : Value) (s' : Shared) : Prop
  | mk (b : Bool) (e : c = .bool b) (er : r = some b) (a : After P σ σ [] hp s s')
section
variable {P : Par} {A : Around} {σ : Sg} {hp : AHeap} {s : Shared} {E : Value -> Shared -> Prop}
theorem inDict_is (h : inDict kvs o = some r) : ∃ k, o = some k /\ sortOk kvs k = true /\ r = (kvs.lookup k).isSome := by
  rcases o with _ | k
  case none => exact none_ne h
  case some => exact xA (iteN h) fun hs e => ⟨_, rfl, hs, (Option.some.inj e).symm⟩
theorem chrOf_is (h : chrOf v = some c) : v = .str [c] := by
  rcases v with _ | _
  case str x =>
    rcases x with _ | ⟨a, r⟩
    case nil => exact none_ne h
    case cons =>
      rcases r with _ | ⟨_, _⟩
      case nil => cases (show some a = some c from h); rfl
      case cons => exact none_ne h
  all_goals exact none_ne h
inductive InK (hp : AHeap) (a : AV) (r : Bool) : AV -> Prop
  | tup (xs : List AV) (h : findEq hp a xs = some r) : InK hp a r (.tup xs)
  | lst (j : Nat) (xs : List AV) (hj : hp[j]? = some (.list xs)) (h : findEq hp a xs = some r) : InK hp a r (.loc j)
  | dct (j : Nat) (kvs : List (Key × AV)) (ep : Nat) (hj : hp[j]? = some (.dict kvs ep)) (h : inDict kvs a.key? = some r) : InK hp a r (.loc j)
  | str (y : List Nat) (c : Nat) (h : a = .str [c]) (hr : r = decide (c ∈ y)) : InK hp a r (.str y)
theorem isIn_or (h : isIn hp a b = some r) : InK hp a r b := by
  rcases b with _ | _
  case tup xs => exact .tup xs h
  case str y =>
    refine xEA (Option.map_eq_some_iff.mp (show (chrOf a).map (fun c => decide (c ∈ y)) = some r from h)) fun c hc hr => ?_
    exact .str y c (chrOf_is hc) hr.symm
  case loc j =>
    delta isIn at h
    dsimp only at h
    rcases hj : hp[j]? with _ | o
    case none => rw [hj] at h; exact none_ne h
    case some =>
      rw [hj] at h
      rcases o with _ | _
      case list xs => exact .lst j xs hj h
      case dict kvs ep => exact .dct j kvs ep hj h
      all_goals exact none_ne h
  all_goals exact none_ne h
theorem in_prim (ok : P.Ok) (S : St P.w P.B σ hp s.heap) (ar : Arnd n q A) (ra : RV P.B s.heap σ a v) (rb : RV P.B s.heap σ b u) (h : isIn hp a b = some r) :
    wpAny (model P.prog P.w) A (compareOp .In v u) (QB P σ hp s (some r)) E s /\ wpAny (model P.prog P.w) A (compareOp .NotIn v u) (QB P σ hp s (some (!r))) E s := by
  have hu : A.in1.units + eqFuel < cLine := by have := ar.units; show A.units + 1 + 6 < _; lia
  have hk0 := isIn_or h
  clear h
  cases hk0 with
  | tup xs h =>
    refine xEEEAA rb fun c ws k qq1 ob rx => ?_; try clear rb; subst qq1
    refine xEA (eq_items S (A := A.in1) (findEq_spec h).1 rx ra hu) fun e h1 h2 => ?_
    have h3 := any_items h rx h2
    exact ⟨in_tupleAt e (isTuple_of ob) h1 ⟨r, by rw [h3], rfl, .refl S⟩, notIn_tupleAt e (isTuple_of ob) h1 ⟨!r, by rw [h3], rfl, .refl S⟩⟩
  | str y c ha hr =>
    subst ha hr
    refine xE ra fun t qq1 => ?_; try clear ra; subst qq1; refine xE rb fun t' qq1 => ?_; try clear rb; subst qq1
    have hf := StrLaws.found_one ⟨y.toArray⟩ c
    exact ⟨PySem.P.in_str ⟨_, by rw [hf], rfl, .refl S⟩, PySem.P.notIn_str ⟨_, by rw [hf], rfl, .refl S⟩⟩
  | lst j xs hj h =>
    refine xEEA rb fun c o qq1 e1 => ?_; try clear rb; subst qq1
    refine xEA (S.isList hj e1) fun ws hl rx => ?_
    refine xEA (eq_items S (A := A.in1) (findEq_spec h).1 rx ra hu) fun e h1 h2 => ?_
    have h3 := any_items h rx h2
    exact ⟨in_listAt e hl h1 ⟨r, by rw [h3], rfl, .refl S⟩, notIn_listAt e hl h1 ⟨!r, by rw [h3], rfl, .refl S⟩⟩
  | dct j kvs ep hj h =>
    refine xEEA rb fun c o qq1 e1 => ?_; try clear rb; subst qq1
    refine xEAA (inDict_is h) fun k hk hso qq1 => ?_; subst qq1
    have hu' : A.units + 1 < cLine := by have := ar.units; lia
    rw [key_av hk] at ra
    constructor
    . show wpAny _ _ (contains (Value.ref c) v >>= fun b => pure (Value.bool b)) _ _ _
      exact wpAny_bind (in_dict ok S hj e1 ra hso hu' fun d => wpAny_pure ⟨_, rfl, rfl, .tok S _⟩)
    . show wpAny _ _ (contains (Value.ref c) v >>= fun b => pure (Value.bool (!b))) _ _ _
      exact wpAny_bind (in_dict ok S hj e1 ra hso hu' fun d => wpAny_pure ⟨_, rfl, rfl, .tok S _⟩)
theorem ordAV_is (h : ordAV op a b = some r) : (∃ x y, a = .int x /\ b = .int y /\ cmpOrd op x y = some r) \/ (op = .le /\ ∃ x y, a = .str x /\ b = .str y /\ r = !decide (y < x)) := by
  rcases a with _ | _ <;> try exact none_ne h
  . rcases b with _ | _ <;> try exact none_ne h
    exact .inl ⟨_, _, rfl, rfl, h⟩
  . rcases b with _ | _ <;> try exact none_ne h
    rcases op with _ | _ <;> try exact none_ne h
    exact .inr ⟨rfl, _, _, rfl, rfl, (Option.some.inj h).symm⟩
theorem instAt_is (h : instAt hp j = some fs) : ∃ k, hp[j]? = some (.inst k) /\ hp[k]? = some (.ns fs) := by
  delta instAt at h
  rcases hj : hp[j]? with _ | o
  case none => rw [hj] at h; exact none_ne h
  case some =>
    rw [hj] at h
    rcases o with _ | _
    case inst i =>
      dsimp only at h
      rcases hi : hp[i]? with _ | o
      case none => rw [hi] at h; exact none_ne h
      case some =>
        rw [hi] at h
        rcases o with _ | _
        case ns gs => cases (show some gs = some fs from h); exact ⟨i, rfl, hi⟩
        all_goals exact none_ne h
    all_goals exact none_ne h
theorem cmp_prim (ok : P.Ok) (S : St P.w P.B σ hp s.heap) (ar : Arnd n q A) (hop : compCOp op = some cop) (ra : RV P.B s.heap σ a v) (rb : RV P.B s.heap σ b u) (h : cmpAV hp cop a b = some r) :
    wpAny (model P.prog P.w) A (compareOp op v u) (QB P σ hp s (some r)) E s := by
  have hu : A.units + eqFuel < cLine := by have := ar.units; show A.units + 6 < _; lia
  have ord : ∀ {o : COp}, o ≠ .le -> ordAV o a b = some r -> ∃ x y t t', v = .int x t /\ u = .int y t' /\ cmpOrd o x y = some r := fun hne h => by
    obtain ⟨x, y, rfl, rfl, h⟩ := (ordAV_is h).resolve_right fun q => hne q.1
    refine xE ra fun t qq1 => ?_; try clear ra; subst qq1; refine xE rb fun t' qq1 => ?_; try clear rb; subst qq1
    exact ⟨x, y, t, t', rfl, rfl, h⟩
  rcases op with _ | _ <;> (try exact none_ne hop) <;> cases hop
  . exact (eqv_at S _ _ _ _ A _ _ h ra rb hu).rc _ _ _ _ ⟨r, rfl, rfl, .refl S⟩
  . refine xEA (Option.map_eq_some_iff.mp (show (eqv hp eqFuel a b).map not = some r from h)) fun k he qq1 => ?_; subst qq1
    exact (eqv_at S _ _ _ _ A _ _ he ra rb hu).ne _ _ _ _ ⟨!k, rfl, rfl, .refl S⟩
  . obtain ⟨x, y, t, t', rfl, rfl, h⟩ := ord (o := .lt) (fun q => nomatch q) h; cases h; exact PySem.P.lt_int ⟨_, rfl, rfl, .refl S⟩
  . rcases ordAV_is (op := .le) h with ⟨x, y, rfl, rfl, h⟩ | ⟨_, x, y, rfl, rfl, hr⟩
    . refine xE ra fun t qq1 => ?_; try clear ra; subst qq1; refine xE rb fun t' qq1 => ?_; try clear rb; subst qq1
      cases h; exact PySem.P.le_int ⟨_, rfl, rfl, .refl S⟩
    . refine xE ra fun t qq1 => ?_; try clear ra; subst qq1; refine xE rb fun t' qq1 => ?_; try clear rb; subst qq1
      exact PySem.P.le_str ⟨_, by rw [hr], rfl, .refl S⟩
  . obtain ⟨x, y, t, t', rfl, rfl, h⟩ := ord (o := .gt) (fun q => nomatch q) h; cases h; exact PySem.P.gt_int ⟨_, rfl, rfl, .refl S⟩
  . obtain ⟨x, y, t, t', rfl, rfl, h⟩ := ord (o := .ge) (fun q => nomatch q) h; cases h; exact PySem.P.ge_int ⟨_, rfl, rfl, .refl S⟩
  . exact (in_prim ok S ar ra rb h).1
  . refine xEA (Option.map_eq_some_iff.mp (show (isIn hp a b).map not = some r from h)) fun k he qq1 => ?_; subst qq1
    exact (in_prim ok S ar ra rb he).2
end
end
section
open PySem PySem.Spec PyProof.Rows PySem.SeqAt
section
variable {P : Par} {A : Around} {σ : Sg} {hp : AHeap} {s : Shared} {E : Value -> Shared -> Prop}
theorem lim_int (h : n <= sizeLim) : (n : Int) < 2 ^ 63 := by have : sizeLim = 1048576 := rfl; lia
theorem line_int (h : n <= sizeLine) : (n : Int) < 2 ^ 63 := by have : sizeLine = 16777216 := rfl; lia
theorem RIs.length : ∀ {xs : List Int} {vs : List Value}, RIs xs vs -> xs.length = vs.length
  | [], [], _ => rfl
  | _ :: _, _ :: _, r => by simp [RIs.length r.2]
  | [], _ :: _, r => r.elim
  | _ :: _, [], r => r.elim
theorem RIs.rvs : ∀ {xs : List Int} {vs : List Value}, RIs xs vs -> RVs B h σ (xs.map .int) vs
  | [], [], r => trivial
  | _ :: _, _ :: _, r => ⟨r.1, RIs.rvs r.2⟩
  | [], _ :: _, r => r.elim
  | _ :: _, [], r => r.elim
theorem len_dict_prim (ok : P.Ok) (S : St P.w P.B σ hp s.heap) {j : Nat} (hj : hp[j]? = some (.dict kvs ep)) (hs : σ[j]? = some (a, off))
    (h : ∀ t k, Q (.int kvs.length t) { s with toks := k }) : wpAny (model P.prog P.w) A (call (.builtin "len") [.ref a]) Q E s := by
  refine xEAAAA (S.isDict hj hs) fun es ho re hn hone hle => ?_
  have hT : s.TypeIs (.ref a) "dict" := ⟨_, ho, rfl⟩
  have hlen := re.length.trans Array.length_toList
  have hfit := line_int hle
  refine Calls.call_function_entry kind_len plain_len entry_len (args_len1 _) ?_
  unfold Builtin.«len»
  refine wpAny_bind (m := oneArg "len" _) (wpAny_pure ?_)
  refine wpAny_bind (m := callSpecial? (.ref a) (Str.ofString "__len__")) (wpAny_callSpecial?_slot (name := Str.ofString "__len__") hT F.slot_dict_len
    (wpAny_call_entry F.slot_dict_len hT F.entry_dict_len ?_ (F.args_dict_len_1 _)))
  show wpAny _ _ (dictSize a >>= _) _ _ s
  unfold dictSize
  refine wpAny_bind (wpAny_bind (wpAny_dictEntries ho rfl (wpAny_pure ?_)))
  show wpAny _ _ (Builtin.Dict.pendingCount a >>= _) _ _ s
  refine wpAny_bind (wpAny_pendingCount_other (S.notMods ok hs) ?_)
  refine wpAny_ret_mkInt ?_
  rw [Nat.add_zero, <- hlen]
  refine wpAny_bind (wpAny_holding (wpAny_pure ?_))
  refine wpAny_bind (wpAny_letGo ?_)
  show wpAny _ _ (if ((kvs.length : Nat) : Int) < 0 then _ else _) _ _ _
  rw [if_neg (by lia)]
  show wpAny _ _ (if ((kvs.length : Nat) : Int) >= 2 ^ 63 then _ else _) _ _ _
  rw [if_neg (by lia)]
  exact wpAny_bind (wpAny_mkInt (wpAny_pure ⟨_, rfl, h _ _⟩))
theorem scr_list (S : St P.w P.B σ hp s.heap) (h : P.B.h₀.IsList a items) : s.heap.IsList a items := by
  refine xEA h fun o ho r => ?_
  exact ⟨o, S.base a o ho, r⟩
theorem lim_if [Decidable p] {r : Res AV} (h : (if p then r else .bad) ≠ .bad) : p := Classical.byContradiction fun n => h (if_neg n)
theorem len_prim (ok : P.Ok) (S : St P.w P.B σ hp s.heap) {v : Value} (ra : RV P.B s.heap σ a v) (hb : lenAV a hp ≠ .bad) : wpAny (model P.prog P.w) A (call (.builtin "len") [v]) (QV P σ s (lenAV a hp)) E s := by
  rcases a with _ | _
  case str x =>
    refine xE ra fun t qq1 => ?_; try clear ra; subst qq1
    have hsz := lim_if hb
    rw [show lenAV (.str x) hp = .ok (.int x.length) hp from if_pos hsz]
    have hl : (⟨x.toArray⟩ : Str).length = x.length := List.size_toArray
    have := lim_int hsz
    exact PySem.P.len_str (by rw [hl]; lia) ⟨_, _, _, rfl, .tok S _, s.toks + 1, by rw [hl]⟩
  case tup xs =>
    refine xEEEAA ra fun a ws n qq1 o rx => ?_; try clear ra; subst qq1
    have hsz := lim_if hb
    rw [show lenAV (.tup xs) hp = .ok (.int xs.length) hp from if_pos hsz]
    have hl := rx.size
    have := lim_int hsz
    exact PySem.P.len_tuple o (by lia) ⟨_, _, _, rfl, .tok S _, s.toks + 1, by rw [hl]⟩
  case scr xs =>
    refine xEEAA ra fun a items qq1 hl rx => ?_; try clear ra; subst qq1
    have hsz := lim_if hb
    rw [show lenAV (.scr xs) hp = .ok (.int xs.length) hp from if_pos hsz]
    have hx := rx.length.trans Array.length_toList
    have := lim_int hsz
    exact len_list (scr_list S hl) (by lia) ⟨_, _, _, rfl, .tok S _, s.toks + 1, by rw [hx]⟩
  case loc j =>
    refine xEEA ra fun a o qq1 e1 => ?_; try clear ra; subst qq1
    delta lenAV at hb |-
    dsimp only at hb |-
    rcases hj : hp[j]? with _ | ob
    case none => rw [hj] at hb; exact absurd rfl hb
    case some =>
      rw [hj] at hb
      rcases ob with _ | _
      case list xs =>
        refine xEEA (S.isL hj e1) fun ws k hl rx => ?_
        have hx := rx.size
        have := line_int (S.isLen hj e1)
        exact len_list (isList_of hl) (by lia) ⟨_, _, _, rfl, .tok S _, s.toks + 1, by rw [hx]⟩
      case dict kvs ep => exact len_dict_prim ok S hj e1 fun t k => ⟨_, _, _, rfl, .tok S _, _, rfl⟩
      all_goals exact absurd rfl hb
  all_goals exact absurd rfl hb
theorem idx_seq {α : Type} {xs : List α} {x : α} (h : idx? xs k = some x) : ∃ j, seqIndex? k xs.length = some j /\ xs[j]? = some x /\ -(xs.length : Int) <= k /\ k < xs.length /\ (0 <= k -> j = k.toNat) /\ (k < 0 -> j = (k + xs.length).toNat) := by
  unfold idx? at h
  split at h
  . rename_i h0
    have hlt := (List.getElem?_eq_some_iff.mp h).1
    refine ⟨k.toNat, ?_, h, by lia, by lia, fun _ => rfl, fun h => by lia⟩
    unfold seqIndex?
    have h1 : ¬ k < 0 := by lia
    have h2 : k < (xs.length : Int) := by lia
    simp [h1, h0, h2]
  . split at h
    . rename_i h0 h1
      have hlt := (List.getElem?_eq_some_iff.mp h).1
      refine ⟨(k + xs.length).toNat, ?_, h, by lia, by lia, fun h => by lia, fun _ => rfl⟩
      unfold seqIndex?
      have h2 : k < 0 := by lia
      have h3 : k + (xs.length : Int) < (xs.length : Int) := by lia
      simp [h2, h1, h3]
    . cases h
theorem subI_is (h : subI xs (intOf i) = some x) : ∃ k, i = .int k /\ xs.length <= sizeLim /\ idx? xs k = some x := by
  rcases i with _ | _ | k | _ <;> try exact none_ne h
  exact xA (iteN h) fun hs h => ⟨_, rfl, hs, h⟩
theorem subD_is (h : subD kvs o = some x) : ∃ k, o = some k /\ sortOk kvs k = true /\ kvs.lookup k = some x := by
  rcases o with _ | k
  case none => exact none_ne h
  case some => exact xA (iteN h) fun hs h => ⟨_, rfl, hs, h⟩
theorem okO_is (hb : okO o h ≠ .bad) : ∃ v, o = some v := by
  rcases o with _ | v
  case none => exact absurd rfl hb
  case some => exact ⟨v, rfl⟩
inductive SubK (hp : AHeap) (i : AV) : AV -> AV -> Prop
  | str (xs : List Nat) (x : AV) (h : subI (xs.map fun c => .str [c]) (intOf i) = some x) : SubK hp i (.str xs) x
  | tup (xs : List AV) (x : AV) (h : subI xs (intOf i) = some x) : SubK hp i (.tup xs) x
  | scr (xs : List Int) (x : AV) (h : subI (xs.map .int) (intOf i) = some x) : SubK hp i (.scr xs) x
  | lst (j : Nat) (xs : List AV) (x : AV) (hj : hp[j]? = some (.list xs)) (h : subI xs (intOf i) = some x) : SubK hp i (.loc j) x
  | dct (j : Nat) (kvs : List (Key × AV)) (ep : Nat) (x : AV) (hj : hp[j]? = some (.dict kvs ep)) (h : subD kvs i.key? = some x) : SubK hp i (.loc j) x
theorem okO_eq (hb : okO o h ≠ .bad) : ∃ v, o = some v /\ okO o h = .ok v h := by
  rcases o with _ | v
  case none => exact absurd rfl hb
  case some => exact ⟨v, rfl, rfl⟩
theorem sub_kind (hb : subAV a i hp ≠ .bad) : ∃ x, subAV a i hp = .ok x hp /\ SubK hp i a x := by
  rcases a with _ | _
  case str xs => refine xEA (okO_eq hb) fun x hx e => ?_; exact ⟨x, e, .str xs x hx⟩
  case tup xs => refine xEA (okO_eq hb) fun x hx e => ?_; exact ⟨x, e, .tup xs x hx⟩
  case scr xs => refine xEA (okO_eq hb) fun x hx e => ?_; exact ⟨x, e, .scr xs x hx⟩
  case loc j =>
    delta subAV at hb |-
    dsimp only at hb |-
    rcases hj : hp[j]? with _ | ob
    case none => rw [hj] at hb; exact absurd rfl hb
    case some =>
      rw [hj] at hb
      rcases ob with _ | _
      case list xs => refine xEA (okO_eq hb) fun x hx e => ?_; exact ⟨x, e, .lst j xs x hj hx⟩
      case dict kvs ep => refine xEA (okO_eq hb) fun x hx e => ?_; exact ⟨x, e, .dct j kvs ep x hj hx⟩
      all_goals exact absurd rfl hb
  all_goals exact absurd rfl hb
theorem getItem_listAt {a : Addr} (hl : s.heap.IsList a ws) (rx : RVs P.B s.heap σ xs ws.toList) (hsz : xs.length <= sizeLim) (hi : idx? xs k = some x) {Q : Value -> Shared -> Prop} (h : ∀ w, RV P.B s.heap σ x w -> Q w s) :
    wpAny (model P.prog P.w) A (getItem (.ref a) (.int k t)) Q E s := by
  refine xEAAAAA (idx_seq hi) fun i h1 h2 h3 h4 h5 h6 => ?_
  have hlen := rx.size
  refine xEA (rx.get h2) fun w e rw' => ?_
  rw [Array.getElem?_toList] at e
  have := lim_int hsz
  by_cases h0 : 0 <= k
  . exact wpAny_getItem_list hl h0 (by lia) (by rw [<- h5 h0]; exact e) (h w rw')
  . exact wpAny_getItem_list_neg hl (by lia) (by lia) (by lia) (by rw [<- hlen, <- h6 (by lia)]; exact e) (h w rw')
theorem sub_prim (ok : P.Ok) (S : St P.w P.B σ hp s.heap) {q : Bool} (ar : Arnd n q A) {v u : Value} (ra : RV P.B s.heap σ a v) (rb : RV P.B s.heap σ b u) (hb : subAV a b hp ≠ .bad) : wpAny (model P.prog P.w) A (getItem v u) (QV P σ s (subAV a b hp)) E s := by
  refine xEA (sub_kind hb) fun x e K => ?_
  rw [e]
  cases K with
  | str xs x h =>
    refine xEAA (subI_is h) fun k qq1 hsz hi => ?_; subst qq1
    refine xE ra fun t qq1 => ?_; try clear ra; subst qq1
    refine xE rb fun t' qq1 => ?_; try clear rb; subst qq1
    refine xEAAAA (idx_seq hi) fun j h1 h2 h3 h4 _ => ?_
    rw [List.length_map] at h1 h3 h4 hsz
    rw [List.getElem?_map] at h2
    refine xEA (Option.map_eq_some_iff.mp h2) fun c hc qq1 => ?_; subst qq1
    have := lim_int hsz
    have hr : (decide (k < -(2 ^ 63 : Int)) || decide (k >= 2 ^ 63)) = false := by
      rw [decide_eq_false (by lia), decide_eq_false (by lia)]; rfl
    refine PySem.P.getItem_str (c := c) hr ?_ ⟨_, _, _, rfl, .tok S _, s.toks, rfl⟩
    have hl : (⟨xs.toArray⟩ : Str).length = xs.length := List.size_toArray
    rw [hl, h1]
    exact (List.getElem?_toArray ..).trans hc
  | tup xs x h =>
    refine xEAA (subI_is h) fun k qq1 hsz hi => ?_; subst qq1
    refine xEEEAA ra fun a ws m qq1 o rx => ?_; try clear ra; subst qq1
    refine xE rb fun t qq1 => ?_; try clear rb; subst qq1
    refine xEAAAA (idx_seq hi) fun j h1 h2 h3 h4 _ => ?_
    have hl := rx.size
    refine xEA (rx.get h2) fun w e rw' => ?_
    rw [Array.getElem?_toList] at e
    have := lim_int hsz
    exact getItem_tuple (isTuple_of o) (by lia) (by lia) (by rw [<- hl]; exact h1) e ⟨_, _, _, rfl, .refl S, rw'⟩
  | scr xs x h =>
    refine xEAA (subI_is h) fun k qq1 hsz hi => ?_; subst qq1
    refine xEEAA ra fun a items qq1 hl rx => ?_; try clear ra; subst qq1
    refine xE rb fun t' qq1 => ?_; try clear rb; subst qq1
    exact getItem_listAt (scr_list S hl) rx.rvs hsz hi fun w rw' => ⟨_, _, _, rfl, .refl S, rw'⟩
  | lst j xs x hj h =>
    refine xEAA (subI_is h) fun k qq1 hsz hi => ?_; subst qq1
    refine xEEA ra fun a o qq1 e1 => ?_; try clear ra; subst qq1
    refine xE rb fun t' qq1 => ?_; try clear rb; subst qq1
    refine xEA (S.isList hj e1) fun ws hl rx => ?_
    exact getItem_listAt hl rx hsz hi fun w rw' => ⟨_, _, _, rfl, .refl S, rw'⟩
  | dct j kvs ep x hj h =>
    refine xEAA (subD_is h) fun k hk hso hx => ?_
    refine xEEA ra fun a o qq1 e1 => ?_; try clear ra; subst qq1
    rw [key_av hk] at rb
    exact getItem_dict ok S hj e1 rb hso (by have := ar.units; lia) hx fun d w rw' => ⟨_, _, _, rfl, .tok S _, rw'⟩
end
end
section
open PySem PySem.Spec PyProof.Rows PySem.SeqAt
section
variable {P : Par} {A : Around} {σ : Sg} {hp : AHeap} {s : Shared} {E : Value -> Shared -> Prop}
theorem clip_full (n : Nat) : clipAt n (n : Int) = n := by rw [clipAt_nat]; lia
theorem clip_zero (n : Nat) : clipAt n 0 = 0 := by have := clipAt_nat n 0; simpa using this
noncomputable def partOf : AV -> Option Int
  | .int i => some i
  | _ => none
theorem part_is (r : RV P.B s.heap σ a v) (h : loOf a = some n) : IsPart v (partOf a) /\ ∃ p : Option (Int × Tok), v = partValue p /\ p.map (·.1) = partOf a := by
  rcases a with _ | _
  case none => rcases (show v = .none from r) with rfl; exact ⟨.none, none, rfl, rfl⟩
  case int i => refine xE r fun t qq1 => ?_; try clear r; subst qq1; exact ⟨.int _ _, some (_, t), rfl, rfl⟩
  all_goals exact none_ne h
theorem hi_lo (h : hiOf n a = some m) : ∃ k, loOf a = some k := by
  rcases a with _ | _
  case none => exact ⟨_, rfl⟩
  case int i => exact ⟨_, rfl⟩
  all_goals exact none_ne h
theorem lo_part (h : loOf a = some m) : (partOf a).elim 0 (clipAt n) = clipAt n m := by
  rcases a with _ | _
  case none => cases (show some (0 : Int) = some m from h); exact (clip_zero n).symm
  case int i => cases (show some i = some m from h); rfl
  all_goals exact none_ne h
theorem hi_part (h : hiOf n a = some m) : (partOf a).elim n (clipAt n) = clipAt n m := by
  rcases a with _ | _
  case none => cases (show some (n : Int) = some m from h); exact (clip_full n).symm
  case int i => cases (show some i = some m from h); rfl
  all_goals exact none_ne h
theorem RVs.drop : ∀ {xs : List AV} {vs : List Value}, RVs B h σ xs vs -> ∀ n, RVs B h σ (xs.drop n) (vs.drop n)
  | _, _, r, 0 => r
  | [], [], r, _ + 1 => r
  | _ :: _, _ :: _, r, n + 1 => RVs.drop r.2 n
  | [], _ :: _, r, _ => r.elim
  | _ :: _, [], r, _ => r.elim
theorem RVs.take : ∀ {xs : List AV} {vs : List Value}, RVs B h σ xs vs -> ∀ n, RVs B h σ (xs.take n) (vs.take n)
  | [], [], r, 0 => r
  | _ :: _, _ :: _, _, 0 => trivial
  | [], [], r, _ + 1 => r
  | _ :: _, _ :: _, r, n + 1 => ⟨r.1, RVs.take r.2 n⟩
  | [], _ :: _, r, _ => r.elim
  | _ :: _, [], r, _ => r.elim
theorem cut_eq {α : Type} (xs : List α) (lo hi : Int) : cutList xs lo hi = (xs.drop (clipAt xs.length lo)).take (clipAt xs.length hi - clipAt xs.length lo) := by
  unfold cutList
  rw [List.drop_take]
theorem RVs.cut (r : RVs B h σ xs vs) (lo hi : Int) : RVs B h σ (cutList xs lo hi) ((vs.drop (clipAt xs.length lo)).take (clipAt xs.length hi - clipAt xs.length lo)) := by
  rw [cut_eq]
  exact (r.drop _).take _
theorem str_pick (x : List Nat) (lo hi : Option Int) : (Builtin.Str.strSliceIndices lo hi 1 x.length).filterMap ((⟨x.toArray⟩ : Str).cps[·]?) = (x.drop (lo.elim 0 (clipAt x.length))).take (hi.elim x.length (clipAt x.length) - lo.elim 0 (clipAt x.length)) := by
  have h : Builtin.Str.strSliceIndices lo hi 1 x.length = sliceRange (lo.elim 0 (clipAt x.length) : Nat) (hi.elim x.length (clipAt x.length) : Nat) 1 := by
    unfold Builtin.Str.strSliceIndices
    rcases lo with _ | _ <;> rcases hi with _ | _ <;> simp [clipAt_cast]
  rw [h, sliceRange_one, pick_run]
theorem cutO_is {α : Type} {xs : List α} {lo hi : AV} {ys : List α} (h : cutO xs lo hi = some ys) : xs.length <= sizeLim /\ ∃ m k, loOf lo = some m /\ hiOf xs.length hi = some k /\ ys = cutList xs m k := by
  unfold cutO at h
  split at h
  . rename_i hl
    refine xEA (Option.bind_eq_some_iff.mp h) fun m hm h => ?_
    refine xEA (Option.map_eq_some_iff.mp h) fun k hk h => ?_
    exact ⟨hl, m, k, hm, hk, h.symm⟩
  . cases h
theorem clamp_le (n : Nat) (i : Int) : clipAt n i <= n := by have := clipAt_cast n i; omega
theorem cut_full {n a b : Nat} (h : b - a = n) (h2 : b <= n) : min (b - a) (n - a) = n := by lia
abbrev slObj (vl vu : Value) : Obj := { cls := .type "slice", data := .fields #[vl, vu, .none] }
theorem slice_str (S : St P.w P.B σ hp s.heap) {t : Tok} {lo hi : AV} {vl vu : Value} (rl : RV P.B s.heap σ lo vl) (rh : RV P.B s.heap σ hi vu) (h : cutO x lo hi = some y) :
    wpAny (model P.prog P.w) A (getItem (.str ⟨x.toArray⟩ t) (.ref s.heap.objs.size)) (QV P σ s (.ok (.str y) hp)) E { s with heap := s.heap.push (slObj vl vu) } := by
  have S₁ := S.push (slObj vl vu)
  have a₁ : After P σ σ [] hp s { s with heap := s.heap.push (slObj vl vu) } := ⟨rfl, S₁, .push _⟩
  refine xAEEAA (cutO_is h) fun hxl m k hl hh qq1 => ?_; subst qq1
  refine xAEA (part_is rl hl) fun _ p qq1 hp1 => ?_; subst qq1
  refine xE (hi_lo hh) fun k' hk' => ?_
  refine xAEA (part_is rh hk') fun _ q qq1 hq1 => ?_; subst qq1
  have hlen : (⟨x.toArray⟩ : Str).length = x.length := List.size_toArray
  refine wpAny_getItem_str_slice (l := p) (u := q) (st := none) ⟨_, Heap.get?_push_size _ rfl, rfl, rfl⟩ rfl ?_
  unfold sliceMade slicePicked
  rw [hp1, hq1, hlen]
  have hpick := str_pick x (partOf lo) (partOf hi)
  rw [lo_part hl, hi_part hh, <- cut_eq] at hpick
  split
  . rename_i hw
    have hle : (Builtin.Str.strSliceIndices (partOf lo) (partOf hi) 1 x.length).length = x.length := beq_iff_eq.mp (Bool.and_eq_true_iff.mp hw).2
    have hidx : cutList x m k = x := by
      refine List.Sublist.eq_of_length ((List.drop_sublist ..).trans (List.take_sublist ..)) ?_
      have hs : Builtin.Str.strSliceIndices (partOf lo) (partOf hi) 1 x.length = (List.range (clipAt x.length k - clipAt x.length m)).map (clipAt x.length m + ·) := by
        rw [<- lo_part (n := x.length) hl, <- hi_part hh, <- sliceRange_one]
        unfold Builtin.Str.strSliceIndices
        rcases partOf lo with _ | _ <;> rcases partOf hi with _ | _ <;> simp [clipAt_cast]
      have h2 := clamp_le x.length k
      rw [hs, List.length_map, List.length_range] at hle
      show (cutList x m k).length = _
      rw [cut_eq, List.length_take, List.length_drop]
      exact cut_full hle h2
    exact ⟨_, _, _, rfl, a₁, t, by rw [hidx]⟩
  . have hsz : (⟨(cutList x m k).toArray⟩ : Str).length <= sizeLine := by
      have h1 : (cutList x m k).length <= x.length := by rw [cut_eq, List.length_take, List.length_drop]; lia
      exact Nat.le_trans (Nat.le_of_eq List.size_toArray) (Nat.le_trans h1 (sizeLim_le hxl))
    show _ /\ _
    have e1 : (none : Option (Int × Tok)).map (·.1) = none := rfl
    rw [e1, Option.getD_none, hpick]
    exact ⟨hsz, _, _, _, rfl, a₁.trans (.tok S₁ _), _, rfl⟩
theorem slice_scr (S : St P.w P.B σ hp s.heap) {v : Value} {lo hi : AV} {vl vu : Value} (ra : RV P.B s.heap σ (.scr xs) v) (rl : RV P.B s.heap σ lo vl) (rh : RV P.B s.heap σ hi vu) (h : cutO xs lo hi = some ys) (hb : newList (ys.map .int) hp ≠ .bad) :
    wpAny (model P.prog P.w) A (getItem v (.ref s.heap.objs.size)) (QV P σ s (newList (ys.map .int) hp)) E { s with heap := s.heap.push (slObj vl vu) } := by
  have S₁ := S.push (slObj vl vu)
  have a₁ : After P σ σ [] hp s { s with heap := s.heap.push (slObj vl vu) } := ⟨rfl, S₁, .push _⟩
  refine xAEEAA (cutO_is h) fun hxl m k hl hh qq1 => ?_; subst qq1
  refine xEEAA ra fun a items qq1 hl0 rx => ?_; try clear ra; subst qq1
  refine xA (part_is rl hl) fun ip _ => ?_
  refine xE (hi_lo hh) fun k' hk' => ?_
  refine xA (part_is rh hk') fun iq _ => ?_
  have hlen := rx.length.trans Array.length_toList
  have hr : RVs P.B (s.heap.push (slObj vl vu)) σ ((cutList xs m k).map .int) (slicePick items (partOf lo) (partOf hi) none).toList := by
    rw [slicePick_plain]
    show RVs _ _ _ _ ((items.toList.drop _).take _)
    rw [<- hlen, lo_part hl, hi_part hh]
    have := RVs.cut (B := P.B) (h := s.heap.push (slObj vl vu)) (σ := σ) rx.rvs m k
    rw [List.length_map] at this
    have e : cutList (xs.map AV.int) m k = (cutList xs m k).map AV.int := by unfold cutList; rw [List.length_map, <- List.map_take, <- List.map_drop]
    rw [e] at this
    exact this
  refine xA (qv_newList (s := { s with heap := s.heap.push (slObj vl vu) }) S₁ hr hb) fun hsz hq => ?_
  exact wpAny_getItem_list_slice (scr_list (s := { s with heap := s.heap.push (slObj vl vu) }) S₁ hl0) (.new ..) ip iq .none (by simp) (hq.lift a₁) (by have := sizeLim_le hxl; lia)
theorem slice_prim (S : St P.w P.B σ hp s.heap) {a lo hi : AV} (ra : RV P.B s.heap σ a v) (rl : RV P.B s.heap σ lo vl) (rh : RV P.B s.heap σ hi vu) (hb : sliceAV a lo hi hp ≠ .bad) :
    wpAny (model P.prog P.w) A (getItem v (.ref s.heap.objs.size)) (QV P σ s (sliceAV a lo hi hp)) E { s with heap := s.heap.push (slObj vl vu) } := by
  rcases a with _ | _
  case str x =>
    refine xEA (okO_eq (show okO ((cutO x lo hi).map AV.str) hp ≠ .bad from hb)) fun y hy e => ?_
    refine xEA (Option.map_eq_some_iff.mp hy) fun z hz qq1 => ?_; subst qq1
    refine xE ra fun t qq1 => ?_; try clear ra; subst qq1
    rw [show sliceAV (.str x) lo hi hp = .ok (.str z) hp from e]
    exact slice_str S rl rh hz
  case scr xs =>
    refine xEA (newListO_is (show newListO ((cutO xs lo hi).map fun ys => ys.map AV.int) hp ≠ .bad from hb)) fun y hy hb2 => ?_
    refine xEA (Option.map_eq_some_iff.mp hy) fun z hz qq1 => ?_; subst qq1
    have e : sliceAV (.scr xs) lo hi hp = newList (z.map .int) hp := by
      show newListO ((cutO xs lo hi).map fun ys => ys.map AV.int) hp = _
      rw [hz]; rfl
    rw [e]
    exact slice_scr S ra rl rh hz hb2
  all_goals exact absurd rfl hb
end
end
section
open PySem PySem.Spec PyProof.Rows PySem.SeqAt
noncomputable def tyName : Ty -> String
  | .int => "int" | .bool => "bool" | .str => "str" | .tuple => "tuple" | .list => "list"
section
variable {P : Par} {A : Around} {σ : Sg} {hp : AHeap} {s : Shared} {E : Value -> Shared -> Prop}
theorem isi_prim (S : St P.w P.B σ hp s.heap) {r : Bool} (ra : RV P.B s.heap σ a v) (h : isTy hp a t = some r) :
    wpAny (model P.prog P.w) A (call (.builtin "isinstance") [v, .type (tyName t)]) (QB P σ hp s (some r)) E s := by
  have q1 : ∀ b k, QB P σ hp s (some b) (.bool b) { s with toks := k } := fun b k => ⟨b, rfl, rfl, .tok S _⟩
  have q0 : ∀ b, QB P σ hp s (some b) (.bool b) s := fun b => ⟨b, rfl, rfl, .refl S⟩
  rcases a with _ | _
  case int =>
    refine xE ra fun _ qq1 => ?_; try clear ra; subst qq1
    rcases t with _ | _ <;> cases h
    . exact IsiPair.int_int (q0 _)
    . exact IsiPair.int_bool (q1 _ _)
    . exact IsiPair.int_str (q1 _ _)
    . exact IsiPair.int_tuple (q1 _ _)
    . exact IsiPair.int_list (q1 _ _)
  case str =>
    refine xE ra fun _ qq1 => ?_; try clear ra; subst qq1
    rcases t with _ | _ <;> cases h
    . exact IsiPair.str_int (q1 _ _)
    . exact IsiPair.str_bool (q1 _ _)
    . exact IsiPair.str_str (q0 _)
    . exact IsiPair.str_tuple (q1 _ _)
    . exact IsiPair.str_list (q1 _ _)
  case tup =>
    refine xEEEAA ra fun _ _ _ qq1 o _ => ?_; try clear ra; subst qq1
    rcases t with _ | _ <;> cases h
    . exact IsiPair.tuple_int o rfl (q1 _ _)
    . exact IsiPair.tuple_bool o rfl (q1 _ _)
    . exact IsiPair.tuple_str o rfl (q1 _ _)
    . exact IsiPair.tuple_tuple o rfl (q0 _)
    . exact IsiPair.tuple_list o rfl (q1 _ _)
  case loc j =>
    refine xEEA ra fun a off qq1 e1 => ?_; try clear ra; subst qq1
    rcases t with _ | _ <;> (try exact none_ne h)
    refine xEA (Option.map_eq_some_iff.mp h) fun xs hx qq1 => ?_; subst qq1
    refine xEEA (S.isL (listAt_is hx) e1) fun ws n hL _ => ?_
    exact IsiPair.list_list hL rfl (q0 _)
  all_goals exact none_ne h
inductive RangeK : List AV -> AV -> Prop
  | one (b : Int) : RangeK [.int b] (.rng 0 b 1)
  | two (a b : Int) : RangeK [.int a, .int b] (.rng a b 1)
  | down (a b : Int) : RangeK [.int a, .int b, .int (-1)] (.rng a b (-1))
theorem some_if [Decidable c] {α : Type} {x y : α} (h : (if c then some x else none) = some y) : c /\ x = y := by
  by_cases hc : c
  . rw [if_pos hc] at h; exact ⟨hc, Option.some.inj h⟩
  . rw [if_neg hc] at h; cases h
theorem range_or {r : AV} (h : rangeOf as = some r) : RangeK as r := by
  rcases as with _ | ⟨a, r1⟩
  case nil => exact none_ne h
  case cons =>
    rcases a with _ | _
    case int a =>
      rcases r1 with _ | ⟨b, r2⟩
      case nil => refine xA (some_if (show (if a.natAbs <= sizeLim then some (AV.rng 0 a 1) else none) = some r from h)) fun _ qq1 => ?_; subst qq1; exact .one a
      case cons =>
        rcases b with _ | _
        case int b =>
          rcases r2 with _ | ⟨c, r3⟩
          case nil => refine xA (some_if (show (if a.natAbs <= sizeLim /\ b.natAbs <= sizeLim then some (AV.rng a b 1) else none) = some r from h)) fun _ qq1 => ?_; subst qq1; exact .two a b
          case cons =>
            rcases r3 with _ | ⟨_, _⟩
            case cons => exact none_ne h
            case nil =>
              rcases c with _ | _
              case int c => refine xA (some_if (show (if c = -1 /\ a.natAbs <= sizeLim /\ b.natAbs <= sizeLim then some (AV.rng a b (-1)) else none) = some r from h)) fun hc qq1 => ?_; subst qq1; rw [hc.1]; exact .down a b
              all_goals exact none_ne h
        all_goals (cases r2 with | nil => exact none_ne h | cons c r3 => rcases r3 with _ | _ <;> exact none_ne h)
    all_goals (cases r1 with | nil => exact none_ne h | cons b r2 => cases r2 with | nil => exact none_ne h | cons c r3 => rcases r3 with _ | _ <;> exact none_ne h)
theorem range_prim (S : St P.w P.B σ hp s.heap) (ok : P.Ok) (ar : Arnd n q A) {r : AV} (ra : RVs P.B s.heap σ as vs) (h : rangeOf as = some r) :
    wpAny (model P.prog P.w) A (call (.type "range") vs) (QV P σ s (.ok r hp)) E s := by
  have push : ∀ (o : Obj) (k : Nat), After P σ σ [] hp s { s with heap := s.heap.push o, toks := k } := fun o k => ⟨rfl, S.push o, .push o⟩
  refine xEEAAAA ar.frame fun f outer hf1 hf2 hf3 hf4 hf5 => ?_
  have hroom : PylongRoom (model P.prog P.w) A s := PylongRoom.of (ok.noLimit S) (by have := ar.depth; show A.depth + 100 < recursionLimit; lia) (SeerAt.of (ok.noSeer S) ok.tree hf1 hf2 hf3 hf4 hf5)
  cases range_or h with
  | one b =>
    refine xEAE ra.one fun v qq1 t qq2 => ?_; subst qq1; subst qq2
    exact call_range_1 ⟨_, _, _, rfl, push _ _, _, _, _, _, rfl, IsRange.new ..⟩
  | two a b =>
    refine xEEAA ra.cons fun _ _ qq1 qq2 ra2 => ?_; subst qq1; refine xE qq2 fun t qq1 => ?_; try clear qq2; subst qq1
    refine xEAE ra2.one fun _ qq1 t' qq2 => ?_; subst qq1; subst qq2
    exact call_range_2 ⟨_, _, _, rfl, push _ _, _, _, _, _, rfl, IsRange.new ..⟩
  | down a b =>
    refine xEEAA ra.cons fun _ _ qq1 qq2 ra2 => ?_; subst qq1; refine xE qq2 fun t qq1 => ?_; try clear qq2; subst qq1
    refine xEEAA ra2.cons fun _ _ qq1 qq2 ra3 => ?_; subst qq1; refine xE qq2 fun t' qq1 => ?_; try clear qq2; subst qq1
    refine xEAE ra3.one fun _ qq1 t'' qq2 => ?_; subst qq1; subst qq2
    exact call_range_3 (by decide) ⟨_, _, _, rfl, push _ _, _, _, _, _, rfl, IsRange.new ..⟩ (.inr hroom)
theorem append_prim (S : St P.w P.B σ hp s.heap) (hj : hp[j]? = some (.list xs)) (e1 : σ[j]? = some (a, off)) (hsz : xs.length < sizeLim) {v : Value} (rx : RV P.B s.heap σ x v) :
    ∃ ws n, ws.size <= sizeLine /\ IsL s.heap a ws n /\ After P σ σ [] (hp.set j (.list (xs ++ [x]))) s { s with heap := s.heap.update a (Obj.mapSeq fun xs => xs.push v) } := by
  refine xEEA (S.isL hj e1) fun ws n hl r => ?_
  have hlen := r.size
  have hs' : Heap.SameBut a s.heap (s.heap.update a (Obj.mapSeq fun xs => xs.push v)) := .update ..
  refine xA (S.upd (X := []) e1 hs'.extBut (.list (xs ++ [x])) (IsL.update hl _) fun g =>
    ⟨ws.push v, _, IsL.update hl _, by rw [Array.toList_push]; exact (RVs.grows g _ _ r).append ⟨RV.grows g _ _ rx, trivial⟩, by rw [List.length_append]; exact sizeLim_le hsz⟩) fun S' g => ?_
  exact ⟨ws, n, by have := sizeLim_le (Nat.le_of_lt hsz); lia, hl, rfl, S', g⟩
theorem occ_idx {x : List Nat} {c i : Nat} (h : x.findIdx? (· == c) = some i) : ∃ rest, Builtin.Str.occurrences ⟨x.toArray⟩ ⟨#[c]⟩ 0 (⟨x.toArray⟩ : Str).length 1 = i :: rest := by
  refine xEA (List.findIdx?_eq_some_iff_getElem.mp h) fun hi he hn => ?_
  have hat : ∀ j, StrLaws.At (⟨x.toArray⟩ : Str) ⟨#[c]⟩ (⟨x.toArray⟩ : Str).length j ↔ x[j]? = some c := fun j => by
    have := StrLaws.subAt_one (⟨x.toArray⟩ : Str) c j
    simpa [StrLaws.At] using this
  have hc : x[i]? = some c := by rw [List.getElem?_eq_getElem hi, eq_of_beq he]
  rcases StrLaws.occ_head (⟨x.toArray⟩ : Str) ⟨#[c]⟩ 1 (Nat.le_refl 1) with ⟨_, h0⟩ | ⟨k, r, e, ha, hb⟩
  . exact absurd ((hat i).mpr hc) (h0 i)
  . have hk : k = i := by
      rcases Nat.lt_trichotomy k i with hlt | heq | hgt
      . have h1 := (hat k).mp ha
        refine xE (List.getElem?_eq_some_iff.mp h1) fun hk e' => ?_
        have := hn k hlt
        rw [e'] at this
        simp at this
      . exact heq
      . exact absurd ((hat i).mpr hc) (hb i hgt)
    subst hk
    exact ⟨r, e⟩
end
end
section
open PySem PySem.Spec PyProof.Rows PySem.SeqAt
abbrev KeyIter (h : Heap) (it d : Addr) (i n ep : Nat) : Prop := h.IsKeyIter it d i n ep
section
variable {P : Par} {A : Around} {σ : Sg} {hp : AHeap} {s : Shared} {E : Value -> Shared -> Prop}
theorem After.made (S : St P.w P.B σ hp s.heap) {a : Addr} (hk : ∀ b o, s.heap.get? b = some o -> h'.get? b = some o) (ha : s.heap.get? a = none) {ws : Array Value} (ho : ObjAt h' a (.type "list") (.seq ws n))
    {vs : List AV} (hr : RVs P.B h' σ vs ws.toList) (hb : newList vs hp ≠ .bad) : QV P σ s (newList vs hp) (.ref a) { s with heap := h', toks := t } := by
  unfold newList at hb |-
  split at hb
  . rename_i hsz
    rw [if_pos hsz]
    have hn : a ∉ σ.map (·.1) := fun hm => by
      refine xEA (List.mem_map.mp hm) fun p hp qq1 => ?_; subst qq1
      refine xEA (S.there hp) fun ob e _ => ?_
      rw [ha] at e; cases e
    have hb0 : P.B.h₀.get? a = none := by
      rcases e : P.B.h₀.get? a with _ | o
      case none => rfl
      case some => rw [S.base a o e] at ha; cases ha
    have S' := (S.keep hk).adopt (off := 0) (ao := .list vs) hn hb0 fun k => ⟨ws, n, ho, RVs.mono (fun _ _ x _ => x) k _ _ hr, sizeLim_le hsz⟩
    refine ⟨_, _, _, rfl, ⟨rfl, S', (grows_keep hk).adopt ha⟩, a, 0, rfl, ?_⟩
    rw [<- S.len]; exact List.getElem?_concat_length
  . exact absurd rfl hb
theorem list_prim (S : St P.w P.B σ hp s.heap) {j : Nat} {xs : List AV} {a : Addr} (hj : hp[j]? = some (.list xs)) (e1 : σ[j]? = some (a, off)) (hb : newList xs hp ≠ .bad) :
    wpAny (model P.prog P.w) A (call (.type "list") [.ref a]) (QV P σ s (newList xs hp)) E s := by
  refine xEEA (S.isL hj e1) fun ws n hl r => ?_
  have hlen := r.size
  have hle := S.isLen hj e1
  exact call_list_seq a (.inl rfl) hl rfl rfl (fun h' c' hk ho => After.made (t := s.toks) S hk (free_size _) ho (RVs.fixes (fun b o e _ => hk b o e) _ _ r) hb) (by lia)
theorem ris_of {vs : List Value} {xs : List Int} (h : IntsAre vs xs) : RIs xs vs := by
  induction h with
  | nil => trivial
  | cons n t r ih => exact ⟨⟨t, rfl⟩, ih⟩
theorem iterD {es : Array DictEntry} {ep : Nat} (hm : (d == sysModules) = false) (ho : ObjAt s.heap d (.type "dict") (.dict es ep))
    (hQ : Q (.ref s.heap.objs.size) { s with heap := s.heap.push { cls := .type "dict_keyiterator", data := .fields #[.ref d, .int 0 0, .int es.size 0, .int ep 0] } }) : wpAny (model P.prog P.w) A (pyIter (.ref d)) Q E s := by
  have hT : s.TypeIs (.ref d) "dict" := ⟨_, ho, rfl⟩
  refine wpAny_pyIter_slot hT F.slot_dict_iter (wpAny_call_entry F.slot_dict_iter hT F.entry_dict_iter ?_ (F.args_dict_iter_1 _))
  unfold Builtin.«dict.__iter__» Builtin.Dict.dictSlotNone
  refine wpAny_bind (wpAny_bind (wpAny_notOrdered_dict hT (wpAny_pure ?_)))
  show wpAny _ _ (Builtin.Dict.showsAll d >>= _) _ _ s
  unfold Builtin.Dict.showsAll
  rw [if_neg (by rw [hm]; exact Bool.false_ne_true)]
  refine wpAny_bind (wpAny_pure (wpAny_bind (wpAny_dictEntries ho rfl (wpAny_bind (wpAny_dictEpoch ho rfl ?_)))))
  exact wpAny_bind (wpAny_newObj_type (wpAny_pure ⟨_, rfl, "dict_keyiterator", _, ⟨_, Heap.get?_push_size _ rfl, rfl⟩, F.slot_dict_keyiterator_next.lookup, hQ⟩))
theorem nextD {i ep : Nat} {es : Array DictEntry} (hit : KeyIter s.heap it d i es.size ep) (ho : ObjAt s.heap d (.type "dict") (.dict es ep)) (hh : A.handled = none)
    (hitem : ∀ e h', es[i]? = some e -> KeyIter h' it d (i + 1) es.size ep -> Heap.SameBut it s.heap h' -> Q (some e.key) { s with heap := h' }) (hend : es[i]? = none -> ∀ h', Heap.ExtBut it s.heap h' -> Q none { s with heap := h' }) :
    wpAny (model P.prog P.w) A (pyNext (.ref it)) Q E s := by
  refine xEAA (id hit) fun oi hoi hci hdi => ?_
  have hown : Builtin.Dict_items.ownsTuple "dict_keyiterator" = false := by decide
  unfold pyNext
  refine wpAny_bind (wpAny_attempt (wpAny_callSpecial?_slot (name := Str.ofString "__next__") hit.typeIs F.slot_dict_keyiterator_next
    (wpAny_call_entry F.slot_dict_keyiterator_next hit.typeIs F.entry_dict_keyiterator_next ?_ (F.args_dict_keyiterator_next_1 _))))
  refine wpAny_bind (wpAny_pure ?_)
  refine wpAny_bind (wpAny_bind (wpAny_bind (wpAny_typeNameOfWhole_keyiter hit.typeIs (wpAny_pure ?_))))
  refine wpAny_bind (wpAny_fieldsOf hoi hdi ?_)
  rw [hown]
  show wpAny _ _ (if (Value.ref d == Value.none) = true then _ else _) _ _ s
  rw [if_neg (show ¬ ((Value.ref d == Value.none) = true) from Bool.false_ne_true)]
  refine wpAny_bind (wpAny_pure (wpAny_bind (wpAny_dictEntries ho rfl ?_)))
  rw [if_neg (by simp)]
  refine wpAny_bind (wpAny_pure (wpAny_bind (wpAny_dictEpoch ho rfl ?_)))
  rw [if_neg (by simp)]
  refine wpAny_pure ?_
  dsimp only
  rw [if_neg (Int.not_lt.mpr (Int.natCast_nonneg i)), Int.toNat_natCast]
  rcases he : es[i]? with _ | e
  case some =>
    refine wpAny_bind (wpAny_bind (wpAny_typeNameOfWhole_keyiter hit.typeIs (wpAny_pure ?_)))
    refine wpAny_bind (wpAny_isOneOf_keyiter hit.typeIs ?_)
    show wpAny _ _ (setField (.ref it) 1 (rawInt ((i : Int) + 1)) >>= _) _ _ s
    refine wpAny_bind (wpAny_setField hoi hdi (by simp) ?_)
    have hit' : KeyIter (s.heap.update it (Obj.mapFields (·.setIfInBounds 1 (rawInt ((i : Int) + 1))))) it d (i + 1) es.size ep :=
      ⟨_, Heap.get?_update_self _ hoi (Obj.isFreed_of_fields (Obj.data_mapFields hdi _)), (Obj.cls_mapFields ..).trans hci, by rw [Obj.data_mapFields hdi]; simp [rawInt]⟩
    refine wpAny_bind (wpAny_holding ?_)
    refine wpAny_bind (wpAny_isOneOf_keyiter (s := { s with heap := s.heap.update it (Obj.mapFields (·.setIfInBounds 1 (rawInt ((i : Int) + 1)))) }) hit'.typeIs ?_)
    show wpAny _ _ (pure e.key) _ _ _
    exact wpAny_pure (wpAny_pure ⟨_, rfl, wpAny_pure (hitem e _ he hit' (Heap.SameBut.update ..))⟩)
  case none =>
    refine wpAny_bind (wpAny_bind (wpAny_typeNameOfWhole_keyiter hit.typeIs (wpAny_pure ?_)))
    show wpAny _ _ (setField (.ref it) 0 .none >>= _) _ _ s
    refine wpAny_bind (wpAny_setField hoi hdi (by simp) ?_)
    show wpAny _ _ (newExc (.type "StopIteration") [] >>= _) _ _ _
    refine wpAny_bind ?_
    delta newExc newTuple
    refine wpAny_bind (wpAny_newObj_type ?_ (by size_fits))
    refine wpAny_bind (m := firstArgMember _ _) (wpAny_of_eq (a := Value.none) (by first | rfl | (simp only [firstArgMember]; rfl)) ?_)
    refine wpAny_newObj_type ?_ (by size_fits)
    show wpAny _ _ (handled >>= _) _ _ _
    refine wpAny_bind (wpAny_handled ?_)
    rw [show A.in1.handled = none from hh]
    refine wpAny_bind (wpAny_pure (wpAny_throw ?_))
    refine wpAny_bind (wpAny_isInstance (T := "StopIteration") (b := true) ⟨_, Heap.get?_push_size _ rfl, rfl⟩ isSubtype_stop ?_)
    exact wpAny_pure (hend he _ (((Heap.SameBut.update ..).extBut.push _).push _))
theorem walks_raw (hh : A.handled = none) (I d : Addr) (hne : d ≠ I) (es : Array DictEntry) (ep : Nat) :
    Walks P.prog P.w A I [I, d] [I] es.size (fun i v => ∃ e, es[i]? = some e /\ e.key = v) (fun i h => KeyIter h I d i es.size ep /\ ObjAt h d (.type "dict") (.dict es ep)) where
  sub := fun b hb => by rw [List.mem_singleton.mp hb]; exact List.mem_cons_self
  frame := fun _ _ _ st hk => ⟨st.1.at fun o e => hk I List.mem_cons_self o e, hk d (List.mem_cons_of_mem _ List.mem_cons_self) _ st.2⟩
  item := fun i s Q E hi st hQ => nextD (P := P) st.1 st.2 hh (fun e h' he hit' hs' => hQ e.key h' s.toks ⟨e, he, rfl⟩ ⟨hit', (hs'.2 d hne).trans st.2⟩ fun b o hb e => (hs'.2 b fun h => hb (List.mem_singleton.mpr h)).trans e)
    (fun he => absurd he (by rw [Array.getElem?_eq_getElem hi]; exact fun e => nomatch e))
  done := fun s Q E st hQ => nextD (P := P) st.1 st.2 hh (fun e h' he => absurd he (by rw [Array.getElem?_eq_none (Nat.le_refl _)]; exact fun e => nomatch e)) (fun _ h' he' => hQ h' s.toks fun b o hb e => he' b o (fun h => hb (List.mem_singleton.mpr h)) e)
  self := fun _ _ _ _ st hQ => wpAny_pyIter_keyiter st.1 hQ
theorem src_raw (lo : (d == sysModules) = false) (es : Array DictEntry) (ep : Nat) : W.KdlSrc P.prog P.w "dict" d d es.size (fun i v => ∃ e, es[i]? = some e /\ e.key = v) (fun h => ObjAt h d (.type "dict") (.dict es ep)) where
  type := fun _ hm => ⟨_, hm, rfl⟩
  there := fun _ hm => ⟨Heap.lt_size hm, Heap.lt_size hm⟩
  keep := fun _ _ hm hk => hk d (.inl rfl) _ hm
  notList := by decide
  notTuple := by decide
  hint := fun _ _ _ _ hm hq => W.kdl_hint_dict ⟨_, hm, rfl⟩ hq
  iter := fun _ _ hh hm => ⟨_, _, (fun _ _ hq => iterD (P := P) lo hm hq), walks_raw hh _ d (Nat.ne_of_lt (Heap.lt_size hm)) es ep, ⟨⟨_, Heap.get?_push_size _ rfl, rfl, rfl⟩, Heap.get?_push_of_some _ hm⟩⟩
theorem REs.keys {w : World} {B : Bs} : ∀ {ps : List (Key × AV)} {es : List DictEntry}, REs w B h σ ps es -> RVs B h σ (ps.map fun p => p.1.av) (es.map fun e => e.key)
  | [], [], _ => trivial
  | _ :: _, _ :: _, r => ⟨r.1.2.1, REs.keys r.2⟩
  | [], _ :: _, r => r.elim
  | _ :: _, [], r => r.elim
theorem items_keys {es acc : Array Value} {n : Nat} {ds : Array DictEntry} (h : ItemsOf (fun i v => ∃ e, ds[i]? = some e /\ e.key = v) acc ds.size) : acc.toList = ds.toList.map fun e => e.key := by
  refine List.ext_getElem? fun i => ?_
  rw [List.getElem?_map, Array.getElem?_toList, Array.getElem?_toList]
  rcases hi : acc[i]? with _ | v
  case none =>
    have : ds[i]? = none := by rw [Array.getElem?_eq_none_iff] at hi |-; rw [h.1] at hi; exact hi
    rw [this]; rfl
  case some =>
    refine xEA (h.2 i v hi) fun e h1 h2 => ?_
    rw [h1, <- h2]; rfl
inductive WalkK (hp : AHeap) (j : Nat) : List AV -> Prop
  | lst (xs : List AV) (hj : hp[j]? = some (.list xs)) : WalkK hp j xs
  | dct (kvs : List (Key × AV)) (ep : Nat) (hj : hp[j]? = some (.dict kvs ep)) : WalkK hp j (kvs.map fun p => p.1.av)
theorem walkOf_is {j : Nat} (h : walkOf hp j = some xs) : WalkK hp j xs := by
  delta walkOf at h
  rcases hj : hp[j]? with _ | o
  case none => rw [hj] at h; exact none_ne h
  case some =>
    rw [hj] at h
    rcases o with _ | _
    case list ys => cases (show some ys = some xs from h); exact .lst _ hj
    case dict kvs ep => cases (show some (kvs.map fun p => p.1.av) = some xs from h); exact .dct _ _ hj
    all_goals exact none_ne h
theorem list_call (ok : P.Ok) (S : St P.w P.B σ hp s.heap) (hh : A.handled = none) {j : Nat} {xs : List AV} {v : Value} (rv : RV P.B s.heap σ (.loc j) v) (hx : walkOf hp j = some xs) (hb : newList xs hp ≠ .bad) :
    wpAny (model P.prog P.w) A (call (.type "list") [v]) (QV P σ s (newList xs hp)) E s := by
  refine xEEA rv fun a off qq1 e1 => ?_; try clear rv; subst qq1
  cases walkOf_is hx with
  | lst xs hj => exact list_prim S hj e1 hb
  | dct kvs ep hj =>
    refine xEAAAA (S.isDict hj e1) fun es ho re hnd hone hle => ?_
    have hlen := re.length.trans Array.length_toList
    refine W.kdl_call (src_raw (P := P) (S.notMods ok e1) es (off + ep)) hh ho (by lia) fun h' tk acc' c' hk hS' hacc => After.made (t := tk) S hk (free_size _) hS' ?_ hb
    rw [items_keys (es := acc') (n := 0) hacc]
    exact RVs.fixes (fun b o e _ => hk b o e) _ _ re.keys
theorem REs.dropAt {B : Bs} {h : Heap} : ∀ {ps : List (Key × AV)} {es : List DictEntry}, REs w B h σ ps es -> ∀ {i : Nat}, ps.findIdx? (fun p => p.1 == k) = some i -> (ps.map (·.1)).Nodup ->
    REs w B h σ (dropKey ps k) (es.eraseIdx i)
  | p :: ps, e :: es, r, i, hi, hn => by
    rw [List.findIdx?_cons] at hi
    rw [List.map_cons, List.nodup_cons] at hn
    unfold dropKey
    by_cases h : p.1 == k
    . rw [if_pos h] at hi
      cases hi
      have hrest : ps.filter (fun p => !(p.1 == k)) = ps := by
        refine List.filter_eq_self.mpr fun q hq => ?_
        have : (q.1 == k) = false := beq_eq_false_iff_ne.mpr fun e => hn.1 (by rw [eq_of_beq h, <- e]; exact List.mem_map_of_mem (f := (·.1)) hq)
        rw [this]; rfl
      rw [List.filter_cons_of_neg (by rw [h]; exact Bool.false_ne_true), hrest]
      exact r.2
    . rw [if_neg h] at hi
      rcases hj : ps.findIdx? (fun p => p.1 == k) with _ | j
      case none => rw [hj] at hi; cases hi
      case some =>
        rw [hj] at hi
        cases hi
        rw [List.filter_cons_of_pos (by simpa using h)]
        exact ⟨r.1, REs.dropAt r.2 hj hn.2⟩
  | [], [], _, _, hi, _ => by cases hi
  | [], _ :: _, r, _, _, _ => r.elim
  | _ :: _, [], r, _, _, _ => r.elim
theorem drop_keys {ps : List (Key × AV)} (h : (ps.map (·.1)).Nodup) : ((dropKey ps k).map (·.1)).Nodup := (List.filter_sublist.map _).nodup h
theorem REs.at {w : World} {B : Bs} : ∀ {ps : List (Key × AV)} {es : List DictEntry}, REs w B h σ ps es -> ∀ {i : Nat} {k : Key} {v : AV}, ps[i]? = some (k, v) -> ∃ e, es[i]? = some e /\ RV B h σ v e.val
  | p :: ps, e :: es, r, 0, k, v, hi => by rcases (Option.some.inj hi) with rfl; exact ⟨e, rfl, r.1.2.2⟩
  | p :: ps, e :: es, r, i + 1, k, v, hi => REs.at r.2 (i := i) hi
  | [], [], _, _, _, _, hi => by cases hi
  | [], _ :: _, r, _, _, _, _ => r.elim
  | _ :: _, [], r, _, _, _, _ => r.elim
theorem pop_call (ok : P.Ok) (S : St P.w P.B σ hp s.heap) (hu : A.units + 1 < cLine) (hj : hp[j]? = some (.dict kvs ep)) (e1 : σ[j]? = some (a, off)) {k : Key} {y : AV} (rx : RV P.B s.heap σ k.av u) (hso : sortOk kvs k = true) (hy : kvs.lookup k = some y) :
    wpAny (model P.prog P.w) A (call (.builtin "dict.pop") [.ref a, u]) (QV P σ s (.ok y (hp.set j (.dict (dropKey kvs k) (ep + 1))))) E s := by
  refine xEAAAA (S.isDict hj e1) fun es ho re hnd hone hle => ?_
  have hT : s.TypeIs (.ref a) "dict" := ⟨_, ho, rfl⟩
  refine xE (pyHash_prim (A := A.in1) rx (by show A.units + 1 < _; exact hu)) fun d hh => ?_
  have hlen := re.length.trans Array.length_toList
  obtain ⟨i, y', f1, f2, f3⟩ : ∃ i v, kvs.findIdx? (fun p => p.1 == k) = some i /\ kvs[i]? = some (k, v) /\ kvs.lookup k = some v := by
    rcases find_lookup (k := k) kvs with ⟨_, e2⟩ | h
    . rw [e2] at hy; cases hy
    . exact h
  rw [hy] at f3; cases f3
  refine xEA (re.at f2) fun e he rv => ?_
  have he' : es[i]? = some e := by rw [<- he]; obtain ⟨l⟩ := es; simp
  have hi : i < es.size := (Array.getElem?_eq_some_iff.mp he').1
  refine wpAny_call_entry F.slot_dict_pop hT F.entry_dict_pop ?_ (F.args_dict_pop_2 _ _)
  unfold Builtin.«dict.pop»
  refine wpAny_bind ?_
  unfold Builtin.Dict.keyAndDefault
  refine wpAny_bind (wpAny_notOrdered_dict hT ?_)
  show wpAny _ _ (pure (a, u, none)) _ _ s
  refine wpAny_pure ?_
  have hs' : Heap.SameBut a s.heap (s.heap.update a (Obj.mapDictKeys fun es => es.eraseIdxIfInBounds i)) := .update ..
  have hle2 : (dropKey kvs k).length <= kvs.length := List.length_filter_le ..
  refine xA (S.upd (X := []) e1 hs'.extBut (.dict (dropKey kvs k) (ep + 1)) (Heap.get?_update_self _ ho rfl) fun g => by
    refine ⟨es.eraseIdxIfInBounds i, Heap.get?_update_self _ ho rfl, ?_, drop_keys hnd, fun p hp' q hq => hone p (List.mem_filter.mp hp').1 q (List.mem_filter.mp hq).1, by lia⟩
    have := (re.grows g).dropAt f1 hnd
    obtain ⟨el⟩ := es
    simpa using this) fun S' g => ?_
  have htake : wpAny (model P.prog P.w) A.in1 (Builtin.Dict.takeOut a u) (fun old s' => old = some e /\ s' = { s with heap := s.heap.update a (Obj.mapDictKeys fun es => es.eraseIdxIfInBounds i), toks := s.toks + d }) E s := by
    unfold Builtin.Dict.takeOut
    refine wpAny_holding (wpAny_bind (hh _ _ ?_))
    refine wpAny_bind (dictFind_prim (s := { s with toks := s.toks + d }) ho rfl re hnd rx hso (by show A.units + 1 < _; exact hu) ?_)
    rw [f1]
    refine wpAny_bind (wpAny_dictEntries (s := { s with toks := s.toks + d }) ho rfl ?_)
    rw [he']
    exact wpAny_bind (wpAny_updateDictKeys (s := { s with toks := s.toks + d }) ho rfl (wpAny_pure ⟨rfl, rfl⟩) (hz := by lia))
  have hne : es.isEmpty = false := by
    rcases q : es.isEmpty with _ | _
    case false => rfl
    case true => rw [Array.isEmpty_iff.mp q] at hi; exact absurd hi (Nat.not_lt_zero _)
  dsimp only
  split
  case' isTrue => refine wpAny_bind (wpAny_pure ?_)
  case' isFalse =>
    refine wpAny_bind (wpAny_dictEntries ho rfl ?_)
    rw [hne]
    refine wpAny_bind (wpAny_pure ?_)
  all_goals
    rw [if_neg Bool.false_ne_true]
    refine wpAny_bind (wpAny_mono htake ?_ fun _ _ q => q)
    rintro _ _ ⟨rfl, rfl⟩
    exact wpAny_bind (wpAny_letGo (wpAny_pure ⟨e.val, rfl, _, _, _, rfl, ⟨rfl, S', g⟩, RV.grows g _ _ rv⟩))
theorem get_call (ok : P.Ok) (S : St P.w P.B σ hp s.heap) (hu : A.units + 1 < cLine) {off : Nat} (hj : dictAt hp j = some d) (e1 : σ[j]? = some (a, off)) {x y : AV} (rx : RV P.B s.heap σ x u) (hy : getD d.1 x.key? = some y) :
    wpAny (model P.prog P.w) A (call (.builtin "dict.get") [.ref a, u]) (QV P σ s (.ok y hp)) E s := by
  refine xEAAA (S.isDict (dictAt_is hj) e1) fun es ho re hnd _ => ?_
  have hT : s.TypeIs (.ref a) "dict" := ⟨_, ho, rfl⟩
  have hk : ∃ k, x.key? = some k /\ sortOk d.1 k = true /\ y = (d.1.lookup k).getD .none := by
    rcases hq : x.key? with _ | k <;> rw [hq] at hy
    case none => exact none_ne hy
    case some => exact xA (iteN hy) fun hs h => ⟨_, rfl, hs, (Option.some.inj h).symm⟩
  obtain ⟨k, hk, hso, rfl⟩ := hk
  rw [key_av hk] at rx
  refine xE (dictGet_prim (A := A.in1) S (dictAt_is hj) e1 rx hso (by show A.units + 1 < _; exact hu)) fun n hg => ?_
  refine wpAny_call_entry F.slot_dict_get hT F.entry_dict_get ?_ (F.args_dict_get_2 _ _)
  show wpAny _ _ (dictGet a u >>= _) _ _ s
  refine wpAny_bind (hg _ _ (fun e => ?_) (fun z w e rz => ?_))
  . rw [e]
    show wpAny _ _ (Builtin.Dict.missed a u >>= _) _ _ _
    exact wpAny_bind (wpAny_missed_other (S.notMods ok e1) (wpAny_pure ⟨.none, rfl, _, _, _, rfl, .tok S _, rfl⟩))
  . rw [e]
    exact wpAny_pure ⟨w, rfl, _, _, _, rfl, .tok S _, rz⟩
end
end
section
open PySem PySem.Spec PyProof.Rows PySem.SeqAt
section
variable {P : Par} {A : Around} {σ : Sg} {hp : AHeap} {s : Shared} {E : Value -> Shared -> Prop}
theorem nsAt_is (h : nsAt hp j = some (k, fs)) : hp[j]? = some (.inst k) /\ hp[k]? = some (.ns fs) := by
  delta nsAt at h
  rcases hj : hp[j]? with _ | o
  case none => rw [hj] at h; exact none_ne h
  case some =>
    rw [hj] at h
    rcases o with _ | _
    case inst i =>
      dsimp only at h
      rcases hi : hp[i]? with _ | o
      case none => rw [hi] at h; exact none_ne h
      case some =>
        rw [hi] at h
        rcases o with _ | _
        case ns gs => cases (show some (i, gs) = some (k, fs) from h); exact ⟨rfl, hi⟩
        all_goals exact none_ne h
    all_goals exact none_ne h
structure InstIs (P : Par) (σ : Sg) (h : Heap) (x dx : Addr) (fs : List (Str × AV)) (mA : Str -> Option Value) : Prop where
  inst : h.Inst x P.B.C mA
  ns : NsR P.B h σ fs mA
  obj : ∃ o, h.get? x = some o /\ o.dict = some dx
  ne : dx ≠ x
theorem inst_of (S : St P.w P.B σ hp s.heap) {j k : Nat} (hj : hp[j]? = some (.inst k)) (hk : hp[k]? = some (.ns fs)) (e1 : σ[j]? = some (x, off)) : ∃ mA off', σ[k]? = some (off, off') /\ InstIs P σ s.heap x off fs mA := by
  refine xEEAAAAAA (S.obj j x off _ e1 hj) fun o off' h1 h2 h3 h4 h5 h6 _ => ?_
  refine xEA (S.obj k off off' _ h6 hk) fun mA n1 n2 => ?_
  exact ⟨mA, off', h6, ⟨⟨o, h1, h2, h3, .inr ⟨off, h4, h5, n1⟩⟩, n2, ⟨o, h1, h4⟩, h5⟩⟩
theorem RV.handed : ∀ {x : AV} {v : Value}, RV B h σ x v -> handedOut v = pure v
  | .none, v, r => by rcases (show v = .none from r) with rfl; rfl
  | .bool b, v, r => by rcases (show v = .bool b from r) with rfl; rfl
  | .int i, v, r => by refine xE r fun t qq1 => ?_; try clear r; subst qq1; rfl
  | .str i, v, r => by refine xE r fun t qq1 => ?_; try clear r; subst qq1; rfl
  | .tup i, v, r => by refine xEEEA r fun a _ _ qq1 _ => ?_; try clear r; subst qq1; rfl
  | .loc i, v, r => by refine xEEA r fun a _ qq1 _ => ?_; try clear r; subst qq1; rfl
  | .rng .., v, r => by refine xEEEEA r fun a _ _ _ qq1 _ => ?_; try clear r; subst qq1; rfl
  | .scr i, v, r => by refine xEEA r fun a _ qq1 _ => ?_; try clear r; subst qq1; rfl
  | .dit .., v, r => by refine xEEA r fun a _ qq1 _ => ?_; try clear r; subst qq1; rfl
theorem attr_prim (ok : P.Ok) (S : St P.w P.B σ hp s.heap) (hn : P.B.attrs.contains n = true) (rv : RV P.B s.heap σ a v) (hb : attrAV n a hp ≠ .bad) : wpAny (model P.prog P.w) A (getAttr v n true) (QV P σ s (attrAV n a hp)) E s := by
  rcases a with _ | _
  case loc j =>
    refine xEEA rv fun x off qq1 e1 => ?_; try clear rv; subst qq1
    refine xEA (okO_eq hb) fun y hy e => ?_
    rw [show attrAV n (.loc j) hp = .ok y hp from e]
    refine xEA (Option.bind_eq_some_iff.mp hy) fun fs hf hl => ?_
    refine xEA (instAt_is hf) fun k hj hk => ?_
    refine xEEA (inst_of S hj hk e1) fun mA off' e2 I => ?_
    refine xEA (I.ns.has n y hl) fun u hu ru => ?_
    refine xEEEEEEEEEEEE ((ok.cls.keeps S.base).obj) fun nm q bs sn sub col dd k0 k1 k2 k3 k5 hC => ?_
    refine xA (ok.qa n hn) fun q1 q2 => ?_
    exact load_attr hC (ok.cls.keeps S.base).ns ok.q2 q1 q2 I.inst hu ru.handed ⟨_, _, _, rfl, .tok S _, ru⟩
  all_goals exact absurd rfl hb
theorem setattr_prim (ok : P.Ok) (S : St P.w P.B σ hp s.heap) (hn : P.B.attrs.contains n = true) {a y : AV} (rv : RV P.B s.heap σ a v) (ru : RV P.B s.heap σ y u) (hs : setAttrAV n a y hp = some hp')
    (h : ∀ s', After P σ σ [] hp' s s' -> Q () s') : wpAny (model P.prog P.w) A (setAttr v n u) Q E s := by
  rcases a with _ | _
  case loc j =>
    refine xEA (Option.map_eq_some_iff.mp (show (nsAt hp j).map (fun p => hp.set p.1 (.ns ((n, y) :: p.2))) = some hp' from hs)) fun qq1 hk qq2 => ?_; obtain ⟨k, fs⟩ := qq1; subst qq2
    refine xA (nsAt_is hk) fun hj hk => ?_
    refine xEEA rv fun x off qq1 e1 => ?_; try clear rv; subst qq1
    refine xEEA (inst_of S hj hk e1) fun mA off' e2 I => ?_
    refine xEEEEEEEEEEEE ((ok.cls.keeps S.base).obj) fun nm q bs sn sub col dd k0 k1 k2 k3 k5 hC => ?_
    refine xA (ok.qa n hn) fun q1 q2 => ?_
    refine xEA I.obj fun o hx hd => ?_
    have hxC : x ≠ P.B.C := fun e => by
      refine xEEEEEEEEEEEE ok.cls.obj fun _ _ _ _ _ _ _ _ _ _ _ _ hC0 => ?_
      have := S.new _ (List.mem_of_getElem? e1)
      rw [show ((x, off) : Addr × Nat).1 = x from rfl, e] at this
      rw [this] at hC0; cases hC0
    refine store_attr PySem.F.store_object hC (ok.cls.keeps S.base).ns ok.q1 q1 q2 hxC I.inst (fun h' tk' I' hk' hsame => ?_) I.ns.within ok.few
    refine xEAAAA (hsame o hx) fun o₁ e₁ c₁ d₁ s₁ dk₁ => ?_
    have eo : o₁ = o := by
      have hd1 := dk₁ off hd
      rcases o with ⟨_, _, _, _⟩; rcases o₁ with ⟨_, _, _, _⟩
      cases c₁; cases d₁; cases s₁
      cases hd; cases hd1; rfl
    subst eo
    have hk2 : ∀ b ob, b ≠ off -> s.heap.get? b = some ob -> h'.get? b = some ob := fun b ob hb e => by
      by_cases q : b = x
      . subst q; rw [hx] at e; cases e; exact e₁
      . exact hk' b ob q (fun o₀ dx q1 q2 => by rw [hx] at q1; cases q1; rw [hd] at q2; cases q2; exact hb) e
    refine xEAAA I' fun o2 e2' _ _ hdd => ?_
    rw [e₁] at e2'; cases e2'
    have hns : h'.Ns1 off (fun y => if y = n then some u else mA y) := by
      rcases hdd with ⟨hn0, _⟩ | ⟨d', hd', _, hns'⟩
      . rw [hd] at hn0; cases hn0
      . rw [hd] at hd'; cases hd'; exact hns'
    refine xEA (ns1_there hns) fun ob hob _ => ?_
    have hN : ∀ g : Grows σ σ [] s.heap h', NsR P.B h' σ ((n, y) :: fs) (fun y => if y = n then some u else mA y) := fun g => by
      refine ⟨fun z av hz => ?_, fun z hz => ?_, fun z hz => ?_⟩
      . rw [List.lookup_cons] at hz
        rcases hq : z == n with _ | _
        case true =>
          rw [hq] at hz; cases hz
          exact ⟨u, if_pos (beq_iff_eq.mp hq), RV.grows g _ _ ru⟩
        case false =>
          rw [hq] at hz
          refine xEA (I.ns.has z av hz) fun w h1 h2 => ?_
          exact ⟨w, (if_neg (beq_eq_false_iff_ne.mp hq)).trans h1, RV.grows g _ _ h2⟩
      . rw [List.lookup_cons] at hz
        rcases hq : z == n with _ | _
        case true => rw [hq] at hz; cases hz
        case false =>
          rw [hq] at hz
          exact (if_neg (beq_eq_false_iff_ne.mp hq)).trans (I.ns.non z hz)
      . by_cases q : z = n
        . subst q; exact List.contains_iff_mem.mp hn
        . exact I.ns.within z (fun e => hz ((if_neg q).trans e))
    refine xA (S.upd (X := []) e2 hk2 (.ns ((n, y) :: fs)) hob fun g => ⟨_, hns, hN g⟩) fun S' g => ?_
    exact h _ ⟨rfl, S', g⟩
  all_goals exact none_ne hs
theorem St.made (S : St P.w P.B σ hp s.heap) (M : Heap.MadeObj s.heap h' x dx P.B.C) (hpl : ∀ o, h'.get? x = some o -> ∀ v, o.data ≠ .prim v) :
    St P.w P.B (σ ++ [(dx, 0)] ++ [(x, dx)]) (made hp) h' /\ Grows σ (σ ++ [(dx, 0)] ++ [(x, dx)]) [] s.heap h' := by
  refine xEAAA M.inst fun ox hx hcx hncx hdx => ?_
  have hdd := M.dict ox hx
  have hnsd : h'.Ns1 dx fun _ => none := by
    rcases hdx with ⟨hn0, _⟩ | ⟨d', hd', _, hns'⟩
    . rw [hn0] at hdd; cases hdd
    . rw [hdd] at hd'; cases hd'; exact hns'
  have hne : dx ≠ x := by
    rcases hdx with ⟨hn0, _⟩ | ⟨d', hd', hne', _⟩
    . rw [hn0] at hdd; cases hdd
    . rw [hdd] at hd'; cases hd'; exact hne'
  have free : ∀ b, s.heap.get? b = none -> b ∉ σ.map (·.1) /\ P.B.h₀.get? b = none := fun b hb => by
    refine ⟨fun hm => ?_, ?_⟩
    . refine xEA (List.mem_map.mp hm) fun p hp qq1 => ?_; subst qq1
      refine xEA (S.there hp) fun ob e _ => ?_
      rw [hb] at e; cases e
    . rcases hq : P.B.h₀.get? b with _ | o
      case none => rfl
      case some => have := S.base b o hq; rw [hb] at this; cases this
  have S1 := (S.keep M.keeps).adopt (off := 0) (ao := .ns []) (free dx M.newD).1 (free dx M.newD).2 fun _ => ⟨_, hnsd, ⟨fun y av e => (nomatch (show none = some av from e)), fun y _ => rfl, fun y hy => absurd rfl hy⟩⟩
  have hx2 : x ∉ (σ ++ [(dx, 0)]).map (fun p : Addr × Nat => p.1) := by
    rw [List.map_append, List.mem_append]
    rintro (q | q)
    . exact (free x M.newX).1 q
    . exact hne (List.mem_singleton.mp q).symm
  have hlook : (σ ++ [(dx, 0)] ++ [(x, dx)])[hp.length]? = some (dx, 0) := by
    rw [List.getElem?_append_left (by rw [List.length_append, S.len]; exact Nat.lt_succ_self _), <- S.len]; exact List.getElem?_concat_length
  have S2 := S1.adopt (off := dx) (ao := .inst hp.length) hx2 (free x M.newX).2 fun _ => ⟨ox, 0, hx, hcx, hncx, hdd, hne, hlook, hpl ox hx⟩
  refine ⟨?_, ((grows_keep M.keeps).adopt M.newD).adopt M.newX⟩
  have e : Mine.Internal.made hp = hp ++ [.ns []] ++ [.inst hp.length] := by unfold Mine.Internal.made; rw [List.append_assoc]; rfl
  rw [e]; exact S2
end
end
section
open PySem PySem.Spec PyProof.Rows PySem.SeqAt
noncomputable def IterAt (P : Par) (h : Heap) (σ : Sg) (it : Addr) (src : AV) (i : Nat) : Prop := match src with
  | .rng a b s => IsRangeIter h it (a + s * i) ((rngLen a b s : Int) - i) s
  | .str x => ∃ t, h.IsStrIter it "str_ascii_iterator" ⟨x.toArray⟩ t i
  | .tup xs => ∃ a ws n, ObjAt h a (.type "tuple") (.seq ws n) /\ RVs P.B h σ xs ws.toList /\ h.IsTupleIter it a i
  | .loc j => ∃ a off, σ[j]? = some (a, off) /\ h.IsListIter it a i
  | .dit j len ep => ∃ a off, σ[j]? = some (a, off) /\ KeyIter h it a i len (off + ep)
  | _ => False
noncomputable def owners : List String := ["enumerate", "zip", "dict_itemiterator", "dict_reverseitemiterator", "odict_iterator", "itertools.zip_longest", "itertools.pairwise"]
noncomputable def iterClass (T : String) : Prop := T ≠ "range" /\ owners.contains T = false
noncomputable def IterObj (h : Heap) (it : Addr) : Prop := ∃ o T fs, h.get? it = some o /\ o.cls = .type T /\ iterClass T /\ o.data = .fields fs
theorem IterObj.notFixed (x : IterObj h it) : ∃ o, h.get? it = some o /\ ¬ fixed o := by
  refine xEEEAAA x fun o T fs ho hc ht hd => ?_
  refine ⟨o, ho, ?_⟩
  unfold fixed
  rw [hd]
  dsimp only
  rw [hc]
  exact fun e => ht.1 (Value.type.inj e)
section
variable {P : Par} {cx : Cx} {A : Around} {E : Value -> Shared -> Prop} {σ : Sg} {hp : AHeap} {s : Shared}
theorem IterAt.obj (x : IterAt P h σ it src i) : IterObj h it := by
  have ne : ∀ T : String, T ≠ "range" -> owners.contains T = false -> iterClass T := fun T a b => ⟨a, b⟩
  rcases src with _ | _
  case rng => exact ⟨_, _, _, x, rfl, ne _ (by decide) (by decide), rfl⟩
  case tup => refine xEEEAAEAA x fun _ _ _ _ _ o h1 h2 h3 => ?_; exact ⟨o, _, _, h1, h2, ne _ (by decide) (by decide), h3⟩
  case str => refine xEEAA x fun _ o h1 h2 h3 => ?_; exact ⟨o, _, _, h1, h2, ne _ (by decide) (by decide), h3⟩
  case loc => refine xEEAEAA x fun _ _ _ o h1 h2 h3 => ?_; exact ⟨o, _, _, h1, h2, ne _ (by decide) (by decide), h3⟩
  case dit => refine xEEAEAA x fun _ _ _ o h1 h2 h3 => ?_; exact ⟨o, _, _, h1, h2, ne _ (by decide) (by decide), h3⟩
  all_goals exact x.elim
theorem IterAt.keep {X : List Addr} (g : Grows σ σ' X h h') (hq : h'.get? it = h.get? it) (x : IterAt P h σ it src i) : IterAt P h' σ' it src i := by
  rcases src with _ | _
  case rng => exact hq.trans x
  case tup => refine xEEEAAEA x fun a ws n h1 h2 o h3 h4 => ?_; exact ⟨a, ws, n, objAt_fix g h1 (fun _ hc hd => fixed_tuple hc hd), RVs.grows g _ _ h2, o, hq.trans h3, h4⟩
  case str => refine xEEA x fun t o h3 h4 => ?_; exact ⟨t, o, hq.trans h3, h4⟩
  case loc => refine xEEAEA x fun a off h1 o h3 h4 => ?_; exact ⟨a, off, g.look h1, o, hq.trans h3, h4⟩
  case dit => refine xEEAEA x fun a off h1 o h3 h4 => ?_; exact ⟨a, off, g.look h1, o, hq.trans h3, h4⟩
  all_goals exact x.elim
theorem After.extBut {X : List Addr} (a : After P σ σ' X hp s₀ s) (hs : Heap.ExtBut it s.heap h') (h0 : s₀.heap.get? it = none) (hσ : it ∉ σ'.map (·.1)) (hb : P.B.h₀.get? it = none) (ho : ∃ o, s.heap.get? it = some o /\ ¬ fixed o) :
    After P σ σ' X hp s₀ { s with heap := h', toks := t } /\ (∀ x v, RV P.B s.heap σ' x v -> RV P.B h' σ' x v) /\ (∀ b o, b ≠ it -> s.heap.get? b = some o -> h'.get? b = some o) := by
  refine xEA ho fun o e hf => ?_
  have hne : ∀ b ob, s.heap.get? b = some ob -> fixed ob -> b ≠ it := fun b ob e' f q => by subst q; rw [e] at e'; cases e'; exact hf f
  -- as if the iterator might turn
  have hx : ∀ x v, RV P.B s.heap σ' x v -> RV P.B h' σ' x v := by
    have hfix : ∀ b ob, s.heap.get? b = some ob -> fixed ob -> h'.get? b = some ob := fun b ob e' f => hs b ob (hne b ob e' f) e'
    intro x v r
    exact RV.fixes (fun b ob e' f => hfix b ob e' f) x v r
  refine ⟨⟨by rw [a.ctl], ?_, ?_⟩, hx, fun b o hb' e' => hs b o hb' e'⟩
  . refine ⟨a.st.len, a.st.nd, fun n b off ob e1 e2 => ?_, fun b ob e' => ?_, a.st.new⟩
    . have hbi : b ≠ it := fun q => by subst q; exact hσ (List.mem_map_of_mem (f := (·.1)) (List.mem_of_getElem? e1))
      refine xEA (a.st.there (List.mem_of_getElem? e1)) fun o' e3 _ => ?_
      exact RO.fixes (fun b ob e' f => hs b ob (hne b ob e' f) e') ((hs b o' hbi e3).trans e3.symm) (a.st.obj n b off ob e1 e2)
    . have hbi : b ≠ it := fun q => by subst q; rw [hb] at e'; cases e'
      exact hs b ob hbi (a.st.base b ob e')
  . refine ⟨a.gr.ext, fun b ob e' f => ?_, fun b ob e' h1 h2 => ?_, fun b ob e' => ?_⟩
    . have hbi : b ≠ it := fun q => by subst q; rw [h0] at e'; cases e'
      exact hs b ob hbi (a.gr.fix b ob e' f)
    . have hbi : b ≠ it := fun q => by subst q; rw [h0] at e'; cases e'
      have nn := a.gr.oth b ob e' h1 h2
      refine xEA nn.get fun o' e1 _ => ?_
      rw [e1] at nn
      show Near ob (h'.get? b)
      rw [hs b o' hbi e1]; exact nn
    . have hbi : b ≠ it := fun q => by subst q; rw [h0] at e'; cases e'
      refine xE (a.gr.ex b ob e') fun o' e1 => ?_
      exact ⟨o', hs b o' hbi e1⟩
theorem rng_len (hc : c = 1 \/ c = -1) : Builtin.Range.rangeSize a b c = (rngLen a b c : Int) := by
  unfold Builtin.Range.rangeSize rngLen
  rcases hc with rfl | rfl
  . simp
    split <;> lia
  . simp
    split <;> lia
theorem fits_long (h : x.natAbs <= 3000000) : Builtin.Range.rangeFitsLong x = true := by
  unfold Builtin.Range.rangeFitsLong
  rw [Bool.and_eq_true]
  exact ⟨decide_eq_true (by lia), decide_eq_true (by omega)⟩
theorem rng_small (hc : c = 1 \/ c = -1) (ha : a.natAbs <= sizeLim) (hb : b.natAbs <= sizeLim) : Builtin.Range.small a b c = true := by
  have hl : sizeLim = 1048576 := rfl
  have hr := rng_len (a := a) (b := b) hc
  have hlen : rngLen a b c <= 3000000 := by unfold rngLen; rcases hc with rfl | rfl <;> simp <;> omega
  unfold Builtin.Range.small
  rw [hr]
  have fb := fits_long (Nat.le_trans hb (by decide))
  rw [fits_long (Nat.le_trans ha (by decide)), fb, fits_long (x := c) (by rcases hc with rfl | rfl <;> decide), fits_long (x := (rngLen a b c : Int)) hlen]
  simp only [Bool.true_and, Bool.or_eq_true]
  right
  rcases hc with rfl | rfl
  . simp [fb]
  . simp [fb]
inductive Items (hp : AHeap) : AV -> List AV -> Prop
  | tup (xs : List AV) : Items hp (.tup xs) xs
  | lst (j : Nat) (xs : List AV) (hj : hp[j]? = some (.list xs)) : Items hp (.loc j) xs
  | str (x : List Nat) (h : x.all (fun c => decide (c < 128)) = true) : Items hp (.str x) (x.map fun c => .str [c])
  | rng (a b c : Int) (hc : c = 1 \/ c = -1) (h1 : a.natAbs <= sizeLim) (h2 : b.natAbs <= sizeLim) : Items hp (.rng a b c) (rngItems a b c)
  | dit (j ep : Nat) (kvs : List (Key × AV)) (hj : hp[j]? = some (.dict kvs ep)) : Items hp (.dit j kvs.length ep) (kvs.map fun p => p.1.av)
theorem items_or (hi : itemsAV src hp = some xs) : Items hp src xs := by
  rcases src with _ | _
  case tup ys => cases (show some ys = some xs from hi); exact .tup _
  case loc j => exact .lst j xs (listAt_is hi)
  case dit j len ep =>
    refine xEA (Option.bind_eq_some_iff.mp hi) fun d hd hi => ?_
    refine xA (iteN hi) fun hc hi => ?_
    rcases Option.some.inj hi with rfl
    rw [<- hc.1, <- hc.2]
    exact .dit j d.2 d.1 (dictAt_is hd)
  case str x =>
    by_cases hc : x.all (fun c => decide (c < 128)) = true
    . cases (show some (x.map fun c => AV.str [c]) = some xs from (if_pos hc).symm.trans hi); exact .str x hc
    . exact none_ne ((if_neg hc).symm.trans hi)
  case rng a b c =>
    by_cases hc : (c = 1 \/ c = -1) /\ a.natAbs <= sizeLim /\ b.natAbs <= sizeLim
    . cases (show some (rngItems a b c) = some xs from (if_pos hc).symm.trans hi); exact .rng a b c hc.1 hc.2.1 hc.2.2
    . exact none_ne ((if_neg hc).symm.trans hi)
  all_goals exact none_ne hi
theorem iter_prim (ok : P.Ok) (S : St P.w P.B σ hp s.heap) (ra : RV P.B s.heap σ src v) (hi : itemsAV src hp = some xs)
    (h : ∀ it s', s.heap.get? it = none -> it ∉ σ.map (·.1) -> P.B.h₀.get? it = none -> After P σ σ [] hp s s' -> IterAt P s'.heap σ it src 0 -> Q (.ref it) s') : wpAny (model P.prog P.w) A (pyIter v) Q E s := by
  have push : ∀ (o : Obj), After P σ σ [] hp s { s with heap := s.heap.push o } := fun o => ⟨rfl, S.push o, .push o⟩
  have fin : ∀ (o : Obj), IterAt P (s.heap.push o) σ s.heap.objs.size src 0 -> Q (.ref s.heap.objs.size) { s with heap := s.heap.push o } := fun o hit =>
    h s.heap.objs.size _ (free_size _) S.fresh S.base.fresh (push o) hit
  cases items_or hi with
  | tup xs =>
    refine xEEEAA ra fun a ws n qq1 o rx => ?_; try clear ra; subst qq1
    have g := (push { cls := .type "tuple_iterator", data := .fields #[.ref a, .int 0 0] }).gr
    exact wpAny_pyIter_tuple (isTuple_of o) (fin _ ⟨a, ws, n, Heap.get?_push_of_some _ o, RVs.grows g _ _ rx, _, Heap.get?_push_size _ rfl, rfl, rfl⟩)
  | lst j xs hj =>
    refine xEEA ra fun a off qq1 e1 => ?_; try clear ra; subst qq1
    refine xEEA (S.isL hj e1) fun ws k hl _ => ?_
    exact wpAny_pyIter_list (isList_of hl) (fin _ ⟨a, off, e1, _, Heap.get?_push_size _ rfl, rfl, rfl⟩)
  | dit j ep kvs hj =>
    refine xEEA ra fun a off qq1 e1 => ?_; try clear ra; subst qq1
    refine xEAA (S.isDict hj e1) fun es ho re _ => ?_
    have hlen := re.length.trans Array.length_toList
    exact iterD (S.notMods ok e1) ho (fin _ ⟨a, off, e1, _, Heap.get?_push_size _ rfl, rfl, by rw [hlen]; rfl⟩)
  | str x hx =>
    refine xE ra fun t qq1 => ?_; try clear ra; subst qq1
    have ha : x.toArray.all (· < 128) = true := by rw [List.all_toArray]; exact hx
    exact wpAny_pyIter_ascii ha (fin _ ⟨t, _, Heap.get?_push_size _ rfl, rfl, rfl⟩)
  | rng a b c hc h1 h2 =>
    refine xEEEEA ra fun r t u x qq1 hr => ?_; try clear ra; subst qq1
    refine wpAny_pyIter_range hr (rng_small hc h1 h2) (fin _ ?_)
    rw [rng_len hc]
    show IsRangeIter _ _ (a + c * ((0 : Nat) : Int)) ((rngLen a b c : Int) - ((0 : Nat) : Int)) c
    rw [show c * ((0 : Nat) : Int) = 0 from Int.mul_zero c, Int.add_zero, show (rngLen a b c : Int) - ((0 : Nat) : Int) = rngLen a b c from Int.sub_zero _]
    exact Heap.get?_push_size _ rfl
theorem next_is (hn : nextAt src i hp = some r) : ∃ xs, itemsAV src hp = some xs /\ xs[i]? = r := Option.map_eq_some_iff.mp hn
structure NextQ (P : Par) (σ : Sg) (s : Shared) (it : Addr) (src : AV) (i : Nat) (r : Option AV) (Q : Option Value -> Shared -> Prop) : Prop where
  fin : r = none -> ∀ h', Heap.ExtBut it s.heap h' -> Q none { s with heap := h' }
  item : ∀ av v h' t, r = some av -> RV P.B s.heap σ av v -> Heap.ExtBut it s.heap h' -> (∀ (g : Fixes s.heap h'), IterAt P h' σ it src (i + 1)) -> Q (some v) { s with heap := h', toks := t }
section
variable {it a : Addr} {i n : Nat} {Q : Option Value -> Shared -> Prop} {xs : List AV} {ws : Array Value}
theorem none_at (rx : RVs P.B s.heap σ xs ws.toList) (h : xs[i]? = none) : ws[i]? = none :=
  Array.getElem?_eq_none (Nat.le_trans (Nat.le_of_eq rx.size.symm) (List.getElem?_eq_none_iff.mp h))
theorem next_tupP (hh : A.handled = none) (o : ObjAt s.heap a (.type "tuple") (.seq ws n)) (rx : RVs P.B s.heap σ xs ws.toList) (hI : s.heap.IsTupleIter it a i) (N : NextQ P σ s it (.tup xs) i xs[i]? Q) : wpAny (model P.prog P.w) A (pyNext (.ref it)) Q E s := by
  rcases hc : xs[i]? with _ | av
  case none => exact wpAny_pyNext_tuple_end hh hI (isTuple_of o) (none_at rx hc) (N.fin hc)
  case some =>
    refine xEA (rx.get hc) fun v e1 rv => ?_
    rw [Array.getElem?_toList] at e1
    exact wpAny_pyNext_tuple_item hI (isTuple_of o) e1 fun h' hI' hs => N.item av v h' s.toks hc rv hs.extBut fun g => ⟨a, ws, n, g a _ o (fixed_tuple rfl rfl), RVs.fixes g _ _ rx, hI'⟩
theorem next_lstP (hh : A.handled = none) (e1 : σ[j]? = some (a, off)) (hl : IsL s.heap a ws n) (rx : RVs P.B s.heap σ xs ws.toList) (hI : s.heap.IsListIter it a i) (N : NextQ P σ s it (.loc j) i xs[i]? Q) : wpAny (model P.prog P.w) A (pyNext (.ref it)) Q E s := by
  rcases hc : xs[i]? with _ | av
  case none => exact wpAny_pyNext_list_end hh hI (isList_of hl) (none_at rx hc) (N.fin hc)
  case some =>
    refine xEA (rx.get hc) fun v e2 rv => ?_
    rw [Array.getElem?_toList] at e2
    exact wpAny_pyNext_list_item hI (isList_of hl) e2 fun h' hI' hs => N.item av v h' s.toks hc rv hs.extBut fun g => ⟨a, off, e1, hI'⟩
theorem next_strP (hh : A.handled = none) (hI : s.heap.IsStrIter it "str_ascii_iterator" ⟨x.toArray⟩ t i) (N : NextQ P σ s it (.str x) i (x.map fun c => AV.str [c])[i]? Q) : wpAny (model P.prog P.w) A (pyNext (.ref it)) Q E s := by
  rw [List.getElem?_map] at N
  rcases hc : x[i]? with _ | c
  case none =>
    rw [hc] at N
    exact wpAny_pyNext_ascii_end hh hI ((List.getElem?_toArray ..).trans hc) (N.fin rfl)
  case some =>
    rw [hc] at N
    exact wpAny_pyNext_ascii_item hI (c := c) ((List.getElem?_toArray ..).trans hc) (fun h' hI' hs => N.item (.str [c]) _ h' _ rfl ⟨_, rfl⟩ hs.extBut fun _ => ⟨t, hI'⟩)
theorem next_rngP (hh : A.handled = none) (hit : IsRangeIter s.heap it (x + c * i) ((rngLen x y c : Int) - i) c) (N : NextQ P σ s it (.rng x y c) i (rngItems x y c)[i]? Q) : wpAny (model P.prog P.w) A (pyNext (.ref it)) Q E s := by
  have hget : (rngItems x y c)[i]? = ((List.range (rngLen x y c))[i]?).map fun (k : Nat) => AV.int (x + c * k) := List.getElem?_map ..
  rcases Nat.lt_or_ge i (rngLen x y c) with hlt | hge
  . rw [List.getElem?_range hlt] at hget
    refine wpAny_pyNext_range_item hit (by lia) fun h' hI' hs => N.item _ _ h' _ hget ⟨_, rfl⟩ hs.extBut fun g => ?_
    show IsRangeIter h' it (x + c * ((i + 1 : Nat) : Int)) ((rngLen x y c : Int) - ((i + 1 : Nat) : Int)) c
    rw [Int.natCast_add, Int.mul_add, <- Int.add_assoc, <- Int.sub_sub]
    have e1 : c * ((1 : Nat) : Int) = c := Int.mul_one c
    rw [e1]
    exact hI'
  . rw [List.getElem?_eq_none (l := List.range (rngLen x y c)) (by rw [List.length_range]; exact hge)] at hget
    exact wpAny_pyNext_range_end hh hit (by lia) (N.fin hget)
end
theorem next_prim (S : St P.w P.B σ hp s.heap) (hh : A.handled = none) (hit : IterAt P s.heap σ it src i) (hn : nextAt src i hp = some r)
    (hend : r = none -> ∀ h', Heap.ExtBut it s.heap h' -> Q none { s with heap := h' })
    (hitem : ∀ av v h' t, r = some av -> RV P.B s.heap σ av v -> Heap.ExtBut it s.heap h' -> (∀ (g : Fixes s.heap h'), IterAt P h' σ it src (i + 1)) -> Q (some v) { s with heap := h', toks := t }) :
    wpAny (model P.prog P.w) A (pyNext (.ref it)) Q E s := by
  have N : NextQ P σ s it src i r Q := ⟨hend, hitem⟩
  refine xEA (next_is hn) fun xs hx qq1 => ?_; subst qq1
  cases items_or hx with
  | tup xs =>
    refine xEEEAA hit fun a ws n o rx hI => ?_
    exact next_tupP hh o rx hI N
  | lst j xs hj =>
    refine xEEA hit fun a off e1 hI => ?_
    refine xEEA (S.isL hj e1) fun ws k hl rx => ?_
    exact next_lstP hh e1 hl rx hI N
  | dit j ep kvs hj =>
    refine xEEA hit fun a off e1 hI => ?_
    refine xEAA (S.isDict hj e1) fun es ho re _ => ?_
    have hlen := re.length.trans Array.length_toList
    rw [hlen] at hI
    refine nextD hI ho hh (fun e h' he hI' sb => ?_) fun he h' hx => ?_
    . refine xEA (re.keys.get (i := i) (x := (kvs.map fun p => p.1.av)[i]'(by rw [List.length_map, hlen]; exact (Array.getElem?_eq_some_iff.mp he).1)) (List.getElem?_eq_getElem _)) fun v hv rv => ?_
      have : v = e.key := by
        rw [List.getElem?_map, Array.getElem?_toList, he] at hv
        exact (Option.some.inj hv).symm
      subst this
      exact N.item _ _ _ _ (List.getElem?_eq_getElem _) rv sb.extBut fun _ => ⟨a, off, e1, by rw [hlen]; exact hI'⟩
    . refine N.fin ?_ h' hx
      rw [List.getElem?_eq_none]
      rw [List.length_map, hlen]
      exact Array.getElem?_eq_none_iff.mp he
  | str x hx =>
    refine xE hit fun t hI => ?_
    exact next_strP hh hI N
  | rng a b c hc h1 h2 => exact next_rngP hh hit N
end
end
section
open PySem PySem.Spec PyProof.Rows PySem.SeqAt
section
variable {P : Par}
theorem seqV {γ : Type} {f : AV -> AHeap -> Res γ} {G : Res γ -> Value -> Shared -> Prop} (a₀ : After P σ₀ σ [] hp s₀ s)
    (h : wpAny (model P.prog P.w) A m (QV P σ s r) (QE P σ s r) s) (hb : r.bind f ≠ .bad)
    (hk : ∀ av hp' σ' v s', After P σ₀ σ' [] hp' s₀ s' -> After P σ σ' [] hp' s s' -> RV P.B s'.heap σ' av v -> f av hp' ≠ .bad -> G (f av hp') v s') :
    wpAny (model P.prog P.w) A m (G (r.bind f)) (QE P σ₀ s₀ (r.bind f)) s :=
  wpAny_mono h (fun v s' ⟨av, hp', σ', e, a, rv⟩ => by subst e; exact hk av hp' σ' v s' (a₀.trans a) a rv hb) (fun _ _ q => (q.bind).lift a₀)
theorem seqVs {γ : Type} {f : List AV -> AHeap -> Res γ} {G : Res γ -> List Value -> Shared -> Prop} (a₀ : After P σ₀ σ [] hp s₀ s)
    (h : wpAny (model P.prog P.w) A m (QVs P σ s r) (QE P σ s r) s) (hb : r.bind f ≠ .bad)
    (hk : ∀ av hp' σ' v s', After P σ₀ σ' [] hp' s₀ s' -> After P σ σ' [] hp' s s' -> RVs P.B s'.heap σ' av v -> f av hp' ≠ .bad -> G (f av hp') v s') :
    wpAny (model P.prog P.w) A m (G (r.bind f)) (QE P σ₀ s₀ (r.bind f)) s :=
  wpAny_mono h (fun v s' ⟨av, hp', σ', e, a, rv⟩ => by subst e; exact hk av hp' σ' v s' (a₀.trans a) a rv hb) (fun _ _ q => (q.bind).lift a₀)
theorem boolO_is (hb : boolO o h ≠ .bad) : ∃ b, o = some b := by
  rcases o with _ | b
  case none => exact absurd rfl hb
  case some => exact ⟨b, rfl⟩
theorem condV_is (hb : condV v x y ≠ .bad) : ∃ b, v = .bool b := by
  rcases v with _ | _ <;> first | exact absurd rfl hb | exact ⟨_, rfl⟩
theorem notAV_is (hb : notAV v h ≠ .bad) : ∃ b, v = .bool b := by
  rcases v with _ | _ <;> first | exact absurd rfl hb | exact ⟨_, rfl⟩
theorem negAV_is (hb : negAV v h ≠ .bad) : ∃ i, v = .int i := by
  rcases v with _ | _ <;> first | exact absurd rfl hb | exact ⟨_, rfl⟩
variable {cx : Cx}
theorem sim_bin {xl xr : X} {pos : Pos} (hop : compBOp op = some bop) (hl : SimE P cx l xl) (hr : SimE P cx r xr) : SimE P cx (.BinOp l op r pos) (.bin bop xl xr) := by
  intro c n env A σ loc hp s C I hb
  rw [x_bin] at hb |-
  refine wpAny_BinOp (seqV (G := fun R a s₁ => wpAny (model P.prog P.w) A (eval r env) (fun b s₂ => wpAny (model P.prog P.w) A (binaryOp op a b) (QV P σ s R) (QE P σ s R) s₂) (QE P σ s R) s₁) (.refl I.st) (hl c n env A σ loc hp s C I (bind_ok hb)) hb ?_)
  intro av hp₁ σ₁ v s₁ a₁ _ rv hb
  have I₁ := I.after a₁
  refine seqV (G := fun R b s₂ => wpAny (model P.prog P.w) A (binaryOp op v b) (QV P σ s R) (QE P σ s R) s₂) a₁ (hr c n env A σ₁ loc hp₁ s₁ C I₁ (bind_ok hb)) hb ?_
  intro bv hp₂ σ₂ u s₂ a₂ a₁₂ ru hb
  exact wpAny_mono (bin_prim C.ok a₂.st I.ar hop (RV.grows a₁₂.gr _ _ rv) ru hb) (fun _ _ q => q.lift a₂) (fun _ _ q => q)
theorem sim_neg {xx : X} {pos : Pos} (hx : SimE P cx x xx) : SimE P cx (.UnaryOp .USub x pos) (.neg xx) := by
  intro c n env A σ loc hp s C I hb
  rw [x_neg] at hb |-
  refine wpAny_UnaryOp (seqV (G := fun R a s₁ => wpAny (model P.prog P.w) A (unaryOp .USub a) (QV P σ s R) (QE P σ s R) s₁) (.refl I.st) (hx c n env A σ loc hp s C I (bind_ok hb)) hb ?_)
  intro av hp₁ σ₁ v s₁ a₁ _ rv hb
  obtain ⟨i, rfl⟩ := negAV_is hb
  refine xE rv fun t qq1 => ?_; try clear rv; subst qq1
  exact PySem.P.neg_int (QV.lift a₁ ⟨_, _, _, rfl, .tok a₁.st _, _, rfl⟩)
theorem sim_not {xx : X} {pos : Pos} (hx : SimE P cx x xx) : SimE P cx (.UnaryOp .Not x pos) (.not xx) := by
  intro c n env A σ loc hp s C I hb
  rw [x_not] at hb |-
  refine wpAny_UnaryOp (seqV (G := fun R a s₁ => wpAny (model P.prog P.w) A (unaryOp .Not a) (QV P σ s R) (QE P σ s R) s₁) (.refl I.st) (hx c n env A σ loc hp s C I (bind_ok hb)) hb ?_)
  intro av hp₁ σ₁ v s₁ a₁ _ rv hb
  obtain ⟨b, rfl⟩ := notAV_is hb
  rcases (show v = .bool b from rv) with rfl
  exact not_value (wpAny_truthy_bool (QV.lift a₁ ⟨_, _, _, rfl, .refl a₁.st, rfl⟩))
noncomputable def SimB (P : Par) (cx : Cx) (op : BoolOp) (es : List Expr) (x : X) : Prop :=
  ∀ c n env A σ l hp s pos, Sims P cx c n -> Inv P cx n c.q env A σ l hp s -> evalX c x l hp ≠ .bad ->
    wpAny (model P.prog P.w) A (boolOp pos op (evalEach es env)) (QV P σ s (evalX c x l hp)) (QE P σ s (evalX c x l hp)) s
theorem sim_boolop (h : SimB P cx op es x) : SimE P cx (.BoolOp op es pos) x := by
  intro c n env A σ loc hp s C I hb
  rw [arm_eval_BoolOp]
  exact h c n env A σ loc hp s pos C I hb
theorem simB_one (h : SimE P cx e x) : SimB P cx op [e] x := by
  intro c n env A σ loc hp s pos C I hb
  exact h c n env A σ loc hp s C I hb
theorem simB_and {es : List Expr} {x y : X} (h : SimE P cx e x) (hr : SimB P cx .And (e' :: es) y) : SimB P cx .And (e :: e' :: es) (.and x y) := by
  intro c n env A σ loc hp s pos C I hb
  rw [x_and] at hb |-
  show wpAny _ _ (eval e env >>= fun v => standAt pos >>= fun _ => holding [v] (truthy v) >>= fun t => match BoolOp.And, t with | .And, false | .Or, true => pure v | _, _ => boolOp pos .And (evalEach (e' :: es) env)) _ _ _
  refine wpAny_bind (seqV (G := fun R v s₁ => wpAny (model P.prog P.w) A (standAt pos >>= fun _ => holding [v] (truthy v) >>= fun t => match BoolOp.And, t with | .And, false | .Or, true => pure v | _, _ => boolOp pos .And (evalEach (e' :: es) env)) (QV P σ s R) (QE P σ s R) s₁) (.refl I.st) (h c n env A σ loc hp s C I (bind_ok hb)) hb ?_)
  intro av hp₁ σ₁ v s₁ a₁ _ rv hb
  refine xE (condV_is hb) fun b qq1 => ?_; subst qq1
  rcases (show v = .bool b from rv) with rfl
  refine wpAny_bind (wpAny_standAt (wpAny_bind (wpAny_holding (wpAny_truthy_bool ?_))))
  rcases b with _ | _
  case false => exact wpAny_pure (QV.lift a₁ ⟨_, _, _, rfl, .refl a₁.st, rfl⟩)
  case true => exact wpAny_mono (hr c n env A σ₁ loc hp₁ s₁ pos C (I.after a₁) hb) (fun _ _ q => q.lift a₁) (fun _ _ q => q.lift a₁)
theorem simB_or {es : List Expr} {x y : X} (h : SimE P cx e x) (hr : SimB P cx .Or (e' :: es) y) : SimB P cx .Or (e :: e' :: es) (.or x y) := by
  intro c n env A σ loc hp s pos C I hb
  rw [x_or] at hb |-
  show wpAny _ _ (eval e env >>= fun v => standAt pos >>= fun _ => holding [v] (truthy v) >>= fun t => match BoolOp.Or, t with | .And, false | .Or, true => pure v | _, _ => boolOp pos .Or (evalEach (e' :: es) env)) _ _ _
  refine wpAny_bind (seqV (G := fun R v s₁ => wpAny (model P.prog P.w) A (standAt pos >>= fun _ => holding [v] (truthy v) >>= fun t => match BoolOp.Or, t with | .And, false | .Or, true => pure v | _, _ => boolOp pos .Or (evalEach (e' :: es) env)) (QV P σ s R) (QE P σ s R) s₁) (.refl I.st) (h c n env A σ loc hp s C I (bind_ok hb)) hb ?_)
  intro av hp₁ σ₁ v s₁ a₁ _ rv hb
  refine xE (condV_is hb) fun b qq1 => ?_; subst qq1
  rcases (show v = .bool b from rv) with rfl
  refine wpAny_bind (wpAny_standAt (wpAny_bind (wpAny_holding (wpAny_truthy_bool ?_))))
  rcases b with _ | _
  case true => exact wpAny_pure (QV.lift a₁ ⟨_, _, _, rfl, .refl a₁.st, rfl⟩)
  case false => exact wpAny_mono (hr c n env A σ₁ loc hp₁ s₁ pos C (I.after a₁) hb) (fun _ _ q => q.lift a₁) (fun _ _ q => q.lift a₁)
theorem notMarks (h : compE k cx r = some x) : behindInMarks op r = false := by
  rcases k with _ | k
  case zero => exact none_ne h
  case succ => rcases r with _ | _ <;> first | exact rfl | exact none_ne h
theorem sim_cmp {xl xr : X} {pos : Pos} (hop : compCOp op = some cop) (hm : behindInMarks op r = false) (hl : SimE P cx l xl) (hr : SimE P cx r xr) : SimE P cx (.Compare l [op] [r] pos) (.cmp cop xl xr) := by
  intro c n env A σ loc hp s C I hb
  rw [x_cmp] at hb |-
  refine wpAny_Compare1 (seqV (G := fun R a s₁ => wpAny (model P.prog P.w) A (eval r env) (fun b s₂ => wpAny (model P.prog P.w) A (compareOp op a b) (QV P σ s R) (QE P σ s R) s₂) (QE P σ s R) s₁) (.refl I.st) (hl c n env A σ loc hp s C I (bind_ok hb)) hb ?_) hm
  intro av hp₁ σ₁ v s₁ a₁ _ rv hb
  have I₁ := I.after a₁
  refine seqV (G := fun R b s₂ => wpAny (model P.prog P.w) A (compareOp op v b) (QV P σ s R) (QE P σ s R) s₂) a₁ (hr c n env A σ₁ loc hp₁ s₁ C I₁ (bind_ok hb)) hb ?_
  intro bv hp₂ σ₂ u s₂ a₂ a₁₂ ru hb
  refine xE (boolO_is hb) fun k hc => ?_
  rw [hc]
  refine wpAny_mono (cmp_prim C.ok a₂.st I.ar hop (RV.grows a₁₂.gr _ _ rv) ru hc) (fun w s₃ q => ?_) (fun _ _ q => q)
  obtain ⟨b, rfl, e, a₃⟩ := q
  cases e
  exact ⟨_, _, _, rfl, a₂.trans a₃, rfl⟩
theorem cmpAnd_is (hb : cmpAnd o h k ≠ .bad) : ∃ b, o = some b := by
  rcases o with _ | b
  case none => exact absurd rfl hb
  case some => exact ⟨b, rfl⟩
theorem cc2 : compareChain pos v [o1, o2] [a, b] = (do
    let rv <- holding [v] a
    standAt pos
    let c <- holding [v, rv] (compareOp o1 v rv)
    release [v, rv] [c]
    if <- holding [c, rv] (truthy c) then compareChain pos rv [o2] [b] else pure c) := rfl
theorem cc1 : compareChain pos v [o] [a] = (do
    let rv <- holding [v] a
    standAt pos
    operate [v, rv] (compareOp o v rv)) := rfl
theorem sim_cmp2 {xl xm xr : X} {pos : Pos} (h1 : compCOp o1 = some c1) (h2 : compCOp o2 = some c2) (hm : behindInMarks o2 r = false) (hl : SimE P cx l xl) (hmm : SimE P cx m xm) (hr : SimE P cx r xr) :
    SimE P cx (.Compare l [o1, o2] [m, r] pos) (.cmp2 c1 c2 xl xm xr) := by
  intro c n env A σ loc hp s C I hb
  rw [x_cmp2] at hb |-
  rw [arm_eval_Compare]
  have hmark : markedEach [o1, o2] [m, r] (evalEach [m, r] env) = [eval m env, eval r env] := by
    show [eval m env, markedBehindIn o2 r (eval r env)] = _
    rw [markedBehindIn_of_false hm]
  rw [hmark]
  refine wpAny_bind (seqV (G := fun R a s₁ => wpAny (model P.prog P.w) A (compareChain pos a [o1, o2] [eval m env, eval r env]) (QV P σ s R) (QE P σ s R) s₁) (.refl I.st) (hl c n env A σ loc hp s C I (bind_ok hb)) hb ?_)
  intro av hp₁ σ₁ v s₁ a₁ _ rv hb
  have I₁ := I.after a₁
  rw [cc2]
  . refine wpAny_bind (wpAny_holding (seqV (G := fun R b s₂ => wpAny (model P.prog P.w) A (standAt pos >>= fun _ => holding [v, b] (compareOp o1 v b) >>= fun cc => release [v, b] [cc] >>= fun _ => holding [cc, b] (truthy cc) >>= fun t => if t = true then compareChain pos b [o2] [eval r env] else pure cc) (QV P σ s R) (QE P σ s R) s₂) a₁ (hmm c n env A σ₁ loc hp₁ s₁ C I₁ (bind_ok hb)) hb ?_))
    intro bv hp₂ σ₂ u s₂ a₂ a₁₂ ru hb
    have I₂ := I.after a₂
    refine xE (cmpAnd_is hb) fun k hc => ?_
    rw [hc] at hb |-
    refine wpAny_bind (wpAny_standAt (wpAny_bind (wpAny_holding (wpAny_mono (cmp_prim C.ok a₂.st I.ar h1 (RV.grows a₁₂.gr _ _ rv) ru hc) (fun w s₃ q => ?_) (fun _ _ q => q)))))
    obtain ⟨b, rfl, e, a₃⟩ := q
    cases e
    refine wpAny_bind (wpAny_release (wpAny_bind (wpAny_holding (wpAny_truthy_bool ?_))))
    rcases k with _ | _
    case false => exact wpAny_pure (QV.lift (a₂.trans a₃) ⟨_, _, _, rfl, .refl a₃.st, rfl⟩)
    case true =>
      rw [if_pos rfl]
      have I₃ := I₂.after a₃
      rw [cc1]
      refine wpAny_bind (wpAny_holding (seqV (G := fun R z s₄ => wpAny (model P.prog P.w) A (standAt pos >>= fun _ => operate [u, z] (compareOp o2 u z)) (QV P σ s R) (QE P σ s R) s₄) (f := fun z h => boolO (cmpAV h c2 bv z) h) (a₂.trans a₃) (hr c n env A σ₂ loc hp₂ s₃ C I₃ (bind_ok hb)) hb ?_))
      intro zv hp₄ σ₄ z s₄ a₄ a₃₄ rz hb
      refine xE (boolO_is hb) fun k2 hc2 => ?_
      rw [hc2]
      refine wpAny_bind (wpAny_standAt (wpAny_operating (wpAny_mono (cmp_prim C.ok a₄.st I.ar h2 (RV.grows a₃₄.gr _ _ (RV.grows a₃.gr _ _ ru)) rz hc2) (fun w s₅ q => ?_) (fun _ _ q => q))))
      obtain ⟨b, rfl, e, a₅⟩ := q
      cases e
      exact ⟨_, _, _, rfl, a₄.trans a₅, rfl⟩
theorem is_none_iff (ra : RV P.B h σ a v) : (v == Value.none) = isNoneAV a := by
  rcases a with _ | _
  case dit => refine xEEA ra fun _ _ qq1 _ => ?_; try clear ra; subst qq1; rfl
  case none => rcases (show v = .none from ra) with rfl; rfl
  case bool b => rcases (show v = .bool b from ra) with rfl; rfl
  case int => refine xE ra fun _ qq1 => ?_; try clear ra; subst qq1; rfl
  case str => refine xE ra fun _ qq1 => ?_; try clear ra; subst qq1; rfl
  case tup => refine xEEEA ra fun _ _ _ qq1 _ => ?_; try clear ra; subst qq1; rfl
  case loc => refine xEEA ra fun _ _ qq1 _ => ?_; try clear ra; subst qq1; rfl
  case rng => refine xEEEEA ra fun _ _ _ _ qq1 _ => ?_; try clear ra; subst qq1; rfl
  case scr => refine xEEA ra fun _ _ qq1 _ => ?_; try clear ra; subst qq1; rfl
theorem sim_isn {xl : X} {pos : Pos} (hop : isnOf op = some b) (hr : isNone r = true) (hl : SimE P cx l xl) : SimE P cx (.Compare l [op] [r] pos) (.isn b xl) := by
  intro c n env A σ loc hp s C I hb
  obtain ⟨k, q, rfl⟩ : ∃ k q, r = .Constant .none k q := by
    rcases r with _ | _
    case Constant v k q => rcases v with _ | _ <;> first | exact ⟨_, _, rfl⟩ | exact absurd hr Bool.false_ne_true
    all_goals exact absurd hr Bool.false_ne_true
  rw [x_isn] at hb |-
  refine wpAny_Compare1 (seqV (G := fun R a s₁ => wpAny (model P.prog P.w) A (eval (.Constant .none k q) env) (fun b s₂ => wpAny (model P.prog P.w) A (compareOp op a b) (QV P σ s R) (QE P σ s R) s₂) (QE P σ s R) s₁) (.refl I.st) (hl c n env A σ loc hp s C I (bind_ok hb)) hb ?_) rfl
  intro av hp₁ σ₁ v s₁ a₁ _ rv hb
  refine wpAny_Constant_none ?_
  rcases op with _ | _ <;> (try exact none_ne hop) <;> cases hop
  . exact is_none ⟨_, _, _, rfl, a₁, by rw [is_none_iff rv]; show _ = Value.bool _; rcases isNoneAV av with _ | _ <;> rfl⟩
  . exact isNot_none ⟨_, _, _, rfl, a₁, by rw [is_none_iff rv]; show _ = Value.bool _; rcases isNoneAV av with _ | _ <;> rfl⟩
end
end
section
open PySem PySem.Spec PyProof.Rows PySem.SeqAt
theorem not_starred (h : compE k cx e = some x) : ∀ env rest, starEach (e :: rest) env = (false, eval e env) :: starEach rest env := by
  intro env rest
  rcases k with _ | k
  case zero => cases h
  case succ => rcases e with _ | _ <;> first | rfl | (cases h)
section
variable {P : Par} {cx : Cx}
theorem simEs_nil : SimEs P cx [] .nil := by
  intro c n env A σ loc hp s pos C I hb
  exact wpAny_items_nil ⟨[], hp, σ, rfl, .refl I.st, trivial⟩
theorem simEs_cons (hs : ∀ env rest, starEach (e :: rest) env = (false, eval e env) :: starEach rest env) (h : SimE P cx e x) (hr : SimEs P cx es xs) : SimEs P cx (e :: es) (.cons x xs) := by
  intro c n env A σ loc hp s pos C I hb
  rw [xs_cons] at hb |-
  refine wpAny_items_cons (seqV (G := fun R v s₁ => wpAny (model P.prog P.w) A (spliced (backTo pos (starEach es env))) (fun vs s₂ => QVs P σ s R (v :: vs) s₂) (QE P σ s R) s₁) (.refl I.st) (h c n env A σ loc hp s C I (bind_ok hb)) hb ?_) (hs env es)
  intro av hp₁ σ₁ v s₁ a₁ _ rv hb
  refine seqVs (G := fun R vs s₂ => QVs P σ s R (v :: vs) s₂) a₁ (hr c n env A σ₁ loc hp₁ s₁ pos C (I.after a₁) (bind_ok hb)) hb ?_
  intro avs hp₂ σ₂ vs s₂ a₂ a₁₂ rvs hb
  exact ⟨_, _, _, rfl, a₂, RV.grows a₁₂.gr _ _ rv, rvs⟩
theorem sim_tup (h : SimEs P cx es xs) : SimE P cx (.Tuple es k pos) (.tup xs) := by
  intro c n env A σ loc hp s C I hb
  rw [x_tup] at hb |-
  refine wpAny_Tuple (seqVs (G := fun R vs s₁ => vs.length <= sizeLine /\ QV P σ s R (.ref s₁.heap.objs.size) { s₁ with heap := s₁.heap.push { cls := .type "tuple", data := .seq vs.toArray } }) (.refl I.st) (h c n env A σ loc hp s pos C I (bind_ok hb)) hb ?_)
  intro avs hp₁ σ₁ vs s₁ a₁ _ rv hb
  have hl := rv.length
  split at hb
  . rename_i hsz
    rw [if_pos hsz]
    have S₂ := a₁.st.push { cls := .type "tuple", data := .seq vs.toArray }
    have g₂ : Grows σ₁ σ₁ [] s₁.heap (s₁.heap.push { cls := .type "tuple", data := .seq vs.toArray }) := .push _
    exact ⟨hl ▸ sizeLim_le hsz, _, _, _, rfl, a₁.trans ⟨rfl, S₂, g₂⟩, s₁.heap.objs.size, vs.toArray, 0, rfl, Heap.get?_push_size _ rfl, RVs.grows g₂ _ _ rv⟩
  . exact absurd rfl hb
theorem sim_list (h : SimEs P cx es xs) : SimE P cx (.List es pos) (.list xs) := by
  intro c n env A σ loc hp s C I hb
  rw [x_list] at hb |-
  refine wpAny_List (seqVs (G := fun R vs s₁ => vs.length <= sizeLine /\ QV P σ s R (.ref s₁.heap.objs.size) { s₁ with heap := s₁.heap.push { cls := .type "list", data := .seq vs.toArray } }) (.refl I.st) (h c n env A σ loc hp s pos C I (bind_ok hb)) hb ?_)
  intro avs hp₁ σ₁ vs s₁ a₁ _ rv hb
  refine xA (qv_newList (ws := vs.toArray) a₁.st rv hb) fun h1 h2 => ?_
  exact ⟨by simpa using h1, h2.lift a₁⟩
theorem list_type {s : Shared} (S : St P.w P.B σ hp s.heap) (ra : RV P.B s.heap σ (.loc j) v) (hj : hp[j]? = some (.list xs)) : s.TypeIs v "list" := by
  refine xEEA ra fun b o qq1 e1 => ?_; try clear ra; subst qq1
  refine xEA (S.isList hj e1) fun ws hl _ => ?_
  exact hl.typeIs
theorem rv_type {s : Shared} (S : St P.w P.B σ hp s.heap) (ra : RV P.B s.heap σ a v) (hb : subAV a i hp ≠ .bad) :
    ∃ T id, s.TypeIs v T /\ typeLookup (.type T) "__getitem__" = pure (some (.builtin id)) := by
  refine xEA (sub_kind hb) fun x _ K => ?_
  cases K with
  | str => refine xE ra fun t qq1 => ?_; try clear ra; subst qq1; exact ⟨"str", _, rfl, F.slot_str_getitem.lookup⟩
  | tup => refine xEEEAA ra fun b ws k qq1 o _ => ?_; try clear ra; subst qq1; exact ⟨"tuple", _, ⟨_, o, rfl⟩, F.slot_tuple_getitem.lookup⟩
  | scr => refine xEEAA ra fun b items qq1 hl _ => ?_; try clear ra; subst qq1; exact ⟨"list", _, (scr_list S hl).typeIs, slot_list_getitem.lookup⟩
  | lst j xs x hj => exact ⟨"list", _, list_type S ra hj, slot_list_getitem.lookup⟩
  | dct j kvs ep x hj =>
    refine xEEA ra fun b o qq1 e1 => ?_; try clear ra; subst qq1
    refine xEA (S.isDict hj e1) fun es hl _ => ?_
    exact ⟨"dict", _, ⟨_, hl, rfl⟩, slot_dict_getitem.lookup⟩
theorem subs_is (slice : Expr) (o i : Value) : ∃ l, subscripted slice false o i = operate l (getItem o i) := by
  rcases slice with _ | _
  case Slice lo hi st p => rcases st with _ | _ <;> exact ⟨_, rfl⟩
  all_goals exact ⟨_, rfl⟩
theorem sub_tail {T id : String} (hT : s.TypeIs o T)
    (hl : typeLookup (.type T) "__getitem__" = pure (some (.builtin id))) (h : wpAny (model P.prog P.w) A (getItem o i) Q E s) :
    wpAny (model P.prog P.w) A (subscriptTail value slice o i) Q E s := by
  unfold subscriptTail
  refine wpAny_bind ?_
  rw [getitemInPython_of_ne hT.not_modules]
  refine wpAny_bind (wpAny_specialOf hT hl ?_)
  have tail : ∀ l : List Value, wpAny (model P.prog P.w) A (operate l (getItem o i)) (fun r s₃ => wpAny (model P.prog P.w) A (letTemporaryGo value o r >>= fun _ => pure r) Q E s₃) E s := fun l =>
    wpAny_operating (wpAny_mono h (fun r s₃ hr => wpAny_bind (wpAny_letTemporaryGo (wpAny_pure hr))) fun _ _ x => x)
  refine wpAny_pure ?_
  refine wpAny_bind ?_
  refine xE (subs_is slice o i) fun l e => ?_
  rw [e]
  exact tail l
theorem sim_sub (ho : SimE P cx o xo) (hi : SimE P cx i xi) : SimE P cx (.Subscript o i pos) (.sub xo xi) := by
  intro c n env A σ loc hp s C I hb
  rw [x_sub] at hb |-
  refine Subscript_ (seqV (G := fun R v s₁ => wpAny (model P.prog P.w) A (eval i env) (fun u s₂ => wpAny (model P.prog P.w) A (subscriptTail o i v u) (QV P σ s R) (QE P σ s R) s₂) (QE P σ s R) s₁) (.refl I.st) (ho c n env A σ loc hp s C I (bind_ok hb)) hb ?_)
  intro av hp₁ σ₁ v s₁ a₁ _ rv hb
  refine seqV (G := fun R u s₂ => wpAny (model P.prog P.w) A (subscriptTail o i v u) (QV P σ s R) (QE P σ s R) s₂) a₁ (hi c n env A σ₁ loc hp₁ s₁ C (I.after a₁) (bind_ok hb)) hb ?_
  intro bv hp₂ σ₂ u s₂ a₂ a₁₂ ru hb
  have rv' := RV.grows a₁₂.gr _ _ rv
  refine xEEA (rv_type a₂.st rv' hb) fun T id hT hl => ?_
  exact sub_tail hT hl (wpAny_mono (sub_prim C.ok a₂.st I.ar rv' ru hb) (fun _ _ q => q.lift a₂) (fun _ _ q => q))
theorem sim_part (hx : compPart (compE k cx) o = some x) (h : ∀ e, o = some e -> SimE P cx e x) :
    ∀ c n env A σ l hp s, Sims P cx c n -> Inv P cx n c.q env A σ l hp s -> evalX c x l hp ≠ .bad -> wpAny (model P.prog P.w) A (evalPart o env) (QV P σ s (evalX c x l hp)) (QE P σ s (evalX c x l hp)) s := by
  intro c n env A σ l hp s C I hb
  rcases o with _ | e
  case none =>
    cases (show some X.none = some x from hx)
    exact wpAny_evalPart_none ⟨_, _, _, rfl, .refl I.st, rfl⟩
  case some => exact wpAny_evalPart_some (h e rfl c n env A σ l hp s C I hb)
theorem slice_type {s : Shared} (S : St P.w P.B σ hp s.heap) (ra : RV P.B s.heap σ a v) (hb : sliceAV a i j hp ≠ .bad) :
    ∃ T id, s.TypeIs v T /\ typeLookup (.type T) "__getitem__" = pure (some (.builtin id)) := by
  rcases a with _ | _
  case str => refine xE ra fun t qq1 => ?_; try clear ra; subst qq1; exact ⟨"str", _, rfl, F.slot_str_getitem.lookup⟩
  case scr => refine xEEAA ra fun b items qq1 hl _ => ?_; try clear ra; subst qq1; exact ⟨"list", _, (scr_list S hl).typeIs, slot_list_getitem.lookup⟩
  all_goals exact absurd rfl hb
theorem sim_slice {lo hi : Option Expr} (ho : SimE P cx o xo) (hxl : compPart (compE k cx) lo = some xl) (hl : ∀ e, lo = some e -> SimE P cx e xl) (hxh : compPart (compE k cx) hi = some xh) (hh : ∀ e, hi = some e -> SimE P cx e xh) :
    SimE P cx (.Subscript o (.Slice lo hi none p) pos) (.slice xo xl xh) := by
  intro c n env A σ loc hp s C I hb
  rw [x_slice] at hb |-
  refine Subscript_ (seqV (G := fun R v s₁ => wpAny (model P.prog P.w) A (eval (.Slice lo hi none p) env) (fun u s₂ => wpAny (model P.prog P.w) A (subscriptTail o (.Slice lo hi none p) v u) (QV P σ s R) (QE P σ s R) s₂) (QE P σ s R) s₁) (.refl I.st) (ho c n env A σ loc hp s C I (bind_ok hb)) hb ?_)
  intro av hp₁ σ₁ v s₁ a₁ _ rv hb
  refine wpAny_Slice (seqV (G := fun R vl s₂ => wpAny (model P.prog P.w) A (evalPart hi env) (fun vh s₃ => wpAny (model P.prog P.w) A (evalPart none env) (fun st s₄ => (fun u s₅ => wpAny (model P.prog P.w) A (subscriptTail o (.Slice lo hi none p) v u) (QV P σ s R) (QE P σ s R) s₅) (.ref s₄.heap.objs.size) { s₄ with heap := s₄.heap.push { cls := .type "slice", data := .fields #[vl, vh, st] } }) (QE P σ s R) s₃) (QE P σ s R) s₂) a₁ (sim_part hxl hl c n env A σ₁ loc hp₁ s₁ C (I.after a₁) (bind_ok hb)) hb ?_)
  intro lv hp₂ σ₂ vl s₂ a₂ a₁₂ rl hb
  refine seqV (G := fun R vh s₃ => wpAny (model P.prog P.w) A (evalPart none env) (fun st s₄ => (fun u s₅ => wpAny (model P.prog P.w) A (subscriptTail o (.Slice lo hi none p) v u) (QV P σ s R) (QE P σ s R) s₅) (.ref s₄.heap.objs.size) { s₄ with heap := s₄.heap.push { cls := .type "slice", data := .fields #[vl, vh, st] } }) (QE P σ s R) s₃) a₂ (sim_part hxh hh c n env A σ₂ loc hp₂ s₂ C (I.after a₂) (bind_ok hb)) hb ?_
  intro hv hp₃ σ₃ vh s₃ a₃ a₂₃ rh hb
  refine wpAny_evalPart_none ?_
  have rv' := RV.grows a₂₃.gr _ _ (RV.grows a₁₂.gr _ _ rv)
  have rl' := RV.grows a₂₃.gr _ _ rl
  have S₄ := a₃.st.push (slObj vl vh)
  have g₄ : Grows σ₃ σ₃ [] s₃.heap (s₃.heap.push (slObj vl vh)) := .push _
  refine xEEA (slice_type (s := { s₃ with heap := s₃.heap.push (slObj vl vh) }) S₄ (RV.grows g₄ _ _ rv') hb) fun T id hT hlk => ?_
  exact sub_tail hT hlk (wpAny_mono (slice_prim a₃.st rv' rl' rh hb) (fun _ _ q => q.lift a₃) (fun _ _ q => q))
end
end
end Mine.Internal
set_option maxRecDepth 100000
namespace Mine.Internal
section
open PySem PyProof.Rows
section
variable {prog : Program} {w : World} {A : Around} {E : Value -> Shared -> Prop} {h : Heap} {g : Array GenState} {d : Drawn} {t : Nat} {os : OsState}
variable {nm q : Str} {C N : Addr} {bs : List Value} {sn : List Str} {sub : List Value} {col : Option Bool} {dd : Option Addr} {k0 k1 k2 k3 k5 : Option Value} {newId : String}
abbrev bornH (h : Heap) (C : Addr) : Heap := (h.push { cls := .type "dict", data := .dict #[] }).push { cls := .ref C, dict := some h.objs.size, data := .plain }
theorem born_at : (bornH h C).get? (h.objs.size + 1) = some { cls := .ref C, dict := some h.objs.size, data := .plain } := by heap_get
theorem born_made : Heap.MadeObj h (bornH h C) (h.objs.size + 1) h.objs.size C := by
  have hgd : (bornH h C).get? h.objs.size = some { cls := .type "dict", data := .dict #[] } := Heap.get?_push_of_some _ (Heap.get?_push_at rfl rfl)
  exact ⟨fun b o hb => Heap.get?_push_of_some _ (Heap.get?_push_of_some _ hb), Heap.get?_none_of_le (Nat.le_succ _), Heap.get?_none_of_le (Nat.le_refl _),
    ⟨_, born_at, rfl, fun c => by simp, .inr ⟨h.objs.size, rfl, Nat.ne_of_lt (Nat.lt_succ_self _), Heap.Ns1.of_empty ⟨_, #[], _, hgd, rfl, fun e he => absurd he (by simp), fun _ => rfl⟩⟩⟩,
    fun o ho => by obtain rfl := Option.some.inj (born_at.symm.trans ho); rfl, by simp only [Heap.size_push]; lia⟩
theorem born_init (F : ObjNewFacts newId)
    (hC : h.get? C = some (excClassObj nm q C N bs [.type "object"] true sn sub false col dd k0 k1 k2 k3 k5 newId)) (hn : h.Ns N mN) (hi : mN "__init__" = some (.ref fI)) (hfI : h.get? fI = some oI) (hfc : oI.cls = .type "function")
    (hq : wpAny (model prog w) A (call (.ref fI) (.ref (h.objs.size + 1) :: rest)) (fun r s' => r = .none /\ Q (.done (.ret (.ref (h.objs.size + 1)))) s') E ⟨bornH h C, g, d, t, os⟩) :
    wpAny (model prog w) A (Builtin.«type.__call__» ⟨.ref C :: rest, []⟩) Q E ⟨h, g, d, t, os⟩ := by
  have hmro : mroOf (.type "object") = pure [.type "object"] := by kernel_rfl
  have hlk : typeLookup (.type "object") "__init__" = pure (some (.builtin "object.__init__")) := by rw [typeLookup_type, builtinLookup_eq_fast]; kernel_rfl
  repeat (first | with_reducible refine wpAny_loadPart_at hC ?_ | with_reducible refine wpAny_madeBy_exc hC ?_ | wp_step)
  refine codeAny_call_builtin_code (Code.quiet_builtin _ F.quiet) (wpAny_check_obj_new F hC ?_)
  refine codeAny_obj_new F hC hn hi ?_
  show wpAny _ _ _ _ _ _
  have hk := (born_made (h := h) (C := C)).keeps
  have hC₁ := hk _ _ hC
  have hfI₁ := hk _ _ hfI
  have hn₁ : (bornH h C).Ns N mN := hn.keeps hk
  have hget := born_at (h := h) (C := C)
  have hcC : (Value.ref C :: [Value.type "object"]).contains (.ref C) = true := by simp
  unfold isInstance
  repeat (first | with_reducible refine wpAny_loadPart_at hget ?_ | (with_reducible refine wpAny_isSubtype_exc hC₁ ?_; rw [hcC]) | wp_step)
  show wpAny _ _ (typeLookup (.ref C) _) _ _ _
  refine wpAny_typeLookup_exc hC₁ hn₁ hmro hlk ?_
  rw [hi]
  refine wpAny_holding (wpAny_bind ?_)
  unfold bindSpecial
  refine wpAny_bind (wpAny_typeOf (T := "function") ⟨_, hfI₁, hfc⟩ ?_)
  rw [if_pos (by decide)]
  refine wpAny_pure (wpAny_bind (wpAny_mono hq (fun r s' hr => ?_) fun _ _ x => x))
  refine xA hr fun qq1 hQ => ?_; try clear hr; subst qq1
  wp_walk
  exact hQ
theorem born_call (F : ObjNewFacts newId)
    (hC : h.get? C = some (excClassObj nm q C N bs [.type "object"] true sn sub false col dd k0 k1 k2 k3 k5 newId)) (hn : h.Ns N mN) (hi : mN "__init__" = some (.ref fI)) (hfI : h.get? fI = some oI) (hfc : oI.cls = .type "function")
    (hq : wpAny (model prog w) (A.under (.builtin "type.__call__" ⟨.ref C :: rest, []⟩)) (call (.ref fI) (.ref (h.objs.size + 1) :: rest)) (fun r s' => r = .none /\ Q (.ref (h.objs.size + 1)) s') E ⟨bornH h C, g, d, t, os⟩) :
    wpAny (model prog w) A (call (.ref C) rest) Q E ⟨h, g, d, t, os⟩ := by
  have f1 := tc_lookup
  have f2 := tc_bind (.ref C)
  have hT : (⟨h, g, d, t, os⟩ : Shared).TypeIs (.ref C) "type" := ⟨_, hC, rfl⟩
  refine wpAny_call (codeAny_of_tree ?_)
  show wpAny _ _ (callAny (.ref C) _) _ _ _
  repeat (any_goals (first | assumption | with_reducible refine wpAny_loadPart_at hC ?_ | wp_step))
  refine ⟨rfl, ?_⟩
  exact codeAny_call_builtin_at (Code.quiet_builtin _ (by decide +kernel)) entry_typeCall (wpAny_check_type_call_sub hC (born_init F hC hn hi hfI hfc hq))
end
end
section
open PySem PySem.Spec PyProof.Rows PySem.W PySem.SeqAt
section
variable {α β : Type} {n : Nat}
noncomputable def KOk (n : Nat) (R : α -> Prop) : KasT α -> Prop
  | .ret a => R a
  | .ask i j k => i < n /\ j < n /\ ∀ b, KOk n R (k b)
theorem KOk.bind (hf : ∀ a, R a -> KOk n R' (f a)) : ∀ {t : KasT α}, KOk n R t -> KOk n R' (t.bind f)
  | .ret a, h => hf a h
  | .ask i j k, h => ⟨h.1, h.2.1, fun b => KOk.bind hf (h.2.2 b)⟩
theorem KOk.run : ∀ {t : KasT α}, KOk n R t -> R (runT lt t)
  | .ret a, h => h
  | .ask i j k, h => show R (runT lt (k (lt i j))) from KOk.run (t := k (lt i j)) (h.2.2 (lt i j))
theorem KOk.wp (hc : ∀ i j, i < n -> j < n -> ∀ C : Bool -> Shared -> Prop, C (lt i j) s -> cmp i j C s) :
    ∀ {t : KasT α}, KOk n R t -> Q (runT lt t) s -> t.kasWp cmp Q s
  | .ret a, h, hq => hq
  | .ask i j k, h, hq => hc i j h.1 h.2.1 _ (KOk.wp hc (h.2.2 (lt i j)) hq)
structure Bd (n : Nat) (p : Array Nat) : Prop where
  pos : 0 < n
  same : p.toList.Perm (List.range n)
theorem Bd.size (h : Bd n p) : p.size = n := by have := h.same.length_eq; rwa [List.length_range, Array.length_toList] at this
theorem Bd.lt (h : Bd n p) (x : Nat) (hx : x ∈ p) : x < n := List.mem_range.mp (h.same.mem_iff.mp (Array.mem_toList_iff.mpr hx))
theorem Bd.get (h : Bd n p) (i : Nat) : p.getD i 0 < n := by
  unfold Array.getD
  split
  . exact h.lt _ (Array.getElem_mem _)
  . exact h.pos
theorem Bd.perm (h : Bd n p) (hp : q.Perm p) : Bd n q := ⟨h.pos, (Array.perm_iff_toList_perm.mp hp).trans h.same⟩
theorem Bd.rev (h : Bd n p) (i j : Nat) : Bd n (kas_rev p i j) := h.perm (mirror_perm ..)
theorem asc_ok (h : Bd n p) : ∀ f m, KOk n (fun _ => True) (kas_asc p f m)
  | 0, _ => trivial
  | f + 1, m => ⟨h.get _, h.get _, fun b => by
    rcases b with _ | _
    case true => exact trivial
    case false => exact asc_ok h f (m + 1)⟩
theorem desc_ok : ∀ f (p : Array Nat) m q, Bd n p -> KOk n (fun r => Bd n r.1) (kas_desc f p m q)
  | 0, _, _, _, h => h
  | f + 1, p, m, q, h => ⟨h.get _, h.get _, fun b => by
    rcases b with _ | _
    case true =>
      show KOk n _ (if q > 0 then _ else _)
      split
      . exact desc_ok f _ _ _ (h.rev ..)
      . exact desc_ok f _ _ _ h
    case false => exact ⟨h.get _, h.get _, fun d => by
        rcases d with _ | _
        case true => exact h
        case false => exact desc_ok f _ _ _ h⟩⟩
theorem tail_ok (h : Bd n p) (m k : Nat) : KOk n (fun r => Bd n r.2) (kas_tail3 m k p) := by
  unfold kas_tail3
  refine KOk.bind (R := fun _ => True) (fun m _ => ?_) (asc_ok (h.rev ..) _ _)
  exact h.rev ..
theorem descPart_ok (h : Bd n p) (m k : Nat) : KOk n (fun r => Bd n r.2) (kas_descPart m k p) := by
  unfold kas_descPart
  refine KOk.bind (R := fun r => Bd n r.1) (fun r hr => ?_) (desc_ok _ _ _ _ h)
  split
  . exact tail_ok (hr.rev ..) _ _
  . exact tail_ok hr _ _
theorem count_ok (h : Bd n p) (k : Nat) : KOk n (fun r => Bd n r.2) (kas_count k p) := by
  unfold kas_count
  refine KOk.bind (R := fun _ => True) (fun m _ => ?_) (asc_ok h _ _)
  split
  . exact h
  . split
    . exact ⟨h.get _, h.get _, fun b => by
        rcases b with _ | _
        case true => exact h
        case false => exact descPart_ok (h.rev ..) _ _⟩
    . exact descPart_ok h _ _
theorem place_ok (h : Bd n p) (k : Nat) : ∀ f l r, KOk n (fun _ => True) (kas_place p k f l r)
  | 0, _, _ => trivial
  | f + 1, l, r => by
    unfold kas_place
    split
    . exact trivial
    . exact ⟨h.get _, h.get _, fun b => by
        rcases b with _ | _
        case true => exact place_ok h k f _ _
        case false => exact place_ok h k f _ _⟩
theorem bin_ok : ∀ f (p : Array Nat) k, Bd n p -> KOk n (Bd n) (kas_bin f p k)
  | 0, _, _, h => h
  | f + 1, p, k, h => KOk.bind (fun l _ => bin_ok f _ _ (h.perm (bubble_perm ..))) (place_ok h _ _ _ _)
theorem sort_ok (h : 0 < n) : KOk n (Bd n) (kas_sort n) := by
  unfold kas_sort
  refine KOk.bind (R := fun r => Bd n r.2) (fun r hr => ?_) (count_ok ⟨h, List.Perm.refl _⟩ _)
  split
  . exact bin_ok _ _ _ hr
  . exact hr
end
theorem order_len (h : 0 < ps.length) : (orderOf ps).length = ps.length := (Array.length_toList ..).trans (sort_ok h).run.size
theorem order_lt (h : 0 < ps.length) (hi : i ∈ orderOf ps) : i < ps.length := (sort_ok h).run.lt i (Array.mem_toList_iff.mp hi)
theorem order_perm (h : 0 < ps.length) : (orderOf ps).Perm (List.range ps.length) := (sort_ok h).run.same
section
variable {prog : Program} {w : World} {A : Around} {E : Value -> Shared -> Prop} {s : Shared}
noncomputable def PairAt (h : Heap) (p : Int × Int) (v : Value) : Prop := ∃ a n t u, v = .ref a /\ h.get? a = some { cls := .type "tuple", data := .seq #[.int p.1 t, .int p.2 u] n }
structure PairsAt (h : Heap) (ps : List (Int × Int)) (vs : List Value) : Prop where
  len : ps.length = vs.length
  at_ : ∀ i v, vs[i]? = some v -> PairAt h (atP ps i) v
theorem PairsAt.get (x : PairsAt h ps vs) (hi : i < ps.length) : PairAt h (atP ps i) (vs.getD i Value.none) := by
  refine x.at_ i _ ?_
  rw [x.len] at hi
  rw [List.getD_eq_getElem?_getD, List.getElem?_eq_getElem hi]; rfl
theorem lt_pair (hv : PairAt s.heap p v) (hu : PairAt s.heap q u) (h : Q (lexLt p q) s) : wpAny (model prog w) A (keyLt' (tuples' true) v u) Q E s := by
  refine xEEEEA hv fun a n t1 t2 qq1 ha => ?_; try clear hv; subst qq1
  refine xEEEEA hu fun b m u1 u2 qq1 hb => ?_; try clear hu; subst qq1
  refine kat_lt ha rfl hb rfl ?_
  refine kat_cons (EqAt.int_int _ _ _ _ _ _ _ _ ?_)
  by_cases e1 : p.1 = q.1
  . rw [show (p.1 == q.1) = true from beq_iff_eq.mpr e1]
    refine kat_yes (kat_cons (EqAt.int_int _ _ _ _ _ _ _ _ ?_))
    by_cases e2 : p.2 = q.2
    . rw [show (p.2 == q.2) = true from beq_iff_eq.mpr e2]
      refine kat_yes (kat_nil ?_)
      have : lexLt p q = false := by
        unfold lexLt
        rw [decide_eq_false (by lia), decide_eq_true e1, decide_eq_false (by lia)]; rfl
      rw [this] at h
      exact h
    . rw [show (p.2 == q.2) = false from beq_eq_false_iff_ne.mpr e2]
      refine kat_no (kat_one _ _ (PySem.P.lt_int ?_))
      have : lexLt p q = decide (p.2 < q.2) := by
        unfold lexLt
        rw [decide_eq_false (by lia), decide_eq_true e1]; rfl
      rw [this] at h
      exact h
  . rw [show (p.1 == q.1) = false from beq_eq_false_iff_ne.mpr e1]
    refine kat_no (oneLt_int ?_)
    have : lexLt p q = decide (p.1 < q.1) := by
      unfold lexLt
      rw [decide_eq_false e1]; exact Bool.or_false _
    rw [this] at h
    exact h
theorem tups_of : ∀ {vs : List Value}, (∀ v ∈ vs, ∃ p, PairAt h p v) -> ∃ fs : List Value, KatTups h vs fs /\ fs.length = vs.length /\ ∀ f ∈ fs, ∃ i t, f = .int i t
  | [], _ => ⟨[], trivial, rfl, fun f hf => nomatch hf⟩
  | v :: vs, H => by
    refine xEAA (tups_of fun x hx => H x (List.mem_cons_of_mem _ hx)) fun fs h1 h2 h3 => ?_
    refine xEEEEEA (H v List.mem_cons_self) fun p a n t u qq1 ha => ?_; subst qq1
    refine ⟨.int p.1 t :: fs, .cons ha rfl rfl rfl h1, by rw [List.length_cons, h2]; rfl, fun f hf => ?_⟩
    rcases List.mem_cons.mp hf with rfl | hf
    . exact ⟨_, _, rfl⟩
    . exact h3 f hf
theorem list_sort_pairs (ho : s.heap.get? a = some (seqObj "list" vs.toArray n)) (hp : PairsAt s.heap ps vs) (h2 : 2 <= vs.length) (h64 : vs.length < 64)
    (h : P (.done (.ret .none)) { s with heap := sortedHeap s.heap a vs (List.toArray ((orderOf ps).map fun i => vs.getD i Value.none)) }) :
    wpAny (model prog w) A (Builtin.«list.sort» ⟨[.ref a], []⟩) P E s := by
  have ha : a < s.heap.objs.size := Heap.lt_size ho
  have hlen := hp.len
  obtain ⟨e1, ho1⟩ : ∃ e1, (s.heap.update a (Obj.mapSeq fun _ => (#[] : Array Value))).get? a = some (seqObj "list" #[] e1) := ⟨_, get?_update_seq ho fun _ => #[]⟩
  rw [list_sort_plain]
  refine wpAny_bind (listItems_at ho rfl ?_)
  refine wpAny_bind (listUpdate_at ho rfl ?_ (by rw [List.size_toArray, sizeLine_eq]; lia) (Nat.zero_le _))
  refine wpAny_bind (seqEpoch_at ho1 rfl ?_)
  refine wpAny_bind (wpAny_newTuple ?_ (by show vs.length <= _; rw [sizeLine_eq]; lia))
  refine wpAny_bind (wpAny_newList ?_ (Nat.zero_le _))
  refine wpAny_holding ?_
  have ho6 : (((s.heap.update a (Obj.mapSeq fun _ => #[])).push (seqObj "tuple" vs.toArray 0)).push (seqObj "list" #[] 0)).get? a = some (seqObj "list" #[] e1) := by
    rw [Heap.get?_push_ne _ _ _ (by rw [size_push', Heap.size_update]; exact Nat.ne_of_lt (Nat.lt_succ_of_lt ha)), Heap.get?_push_ne _ _ _ (by rw [Heap.size_update]; exact Nat.ne_of_lt ha)]
    exact ho1
  show wpAny (model prog w) A _ P E { s with heap := ((s.heap.update a (Obj.mapSeq fun _ => #[])).push (seqObj "tuple" vs.toArray 0)).push (seqObj "list" #[] 0) }
  have hold : ∀ p v, PairAt s.heap p v -> PairAt (((s.heap.update a (Obj.mapSeq fun _ => #[])).push (seqObj "tuple" vs.toArray 0)).push (seqObj "list" #[] 0)) p v := by
    rintro p v ⟨b, m, t, u, rfl, hb⟩
    have hne : b ≠ a := fun q => by subst q; rw [ho] at hb; exact absurd (congrArg Obj.cls (Option.some.inj hb)) (fun e => absurd (Value.type.inj e) (by decide))
    exact ⟨b, m, t, u, rfl, Heap.get?_push_of_some _ (Heap.get?_push_of_some _ ((Heap.get?_update_ne _ _ _ _ hne).trans hb))⟩
  have hp6 : PairsAt (((s.heap.update a (Obj.mapSeq fun _ => #[])).push (seqObj "tuple" vs.toArray 0)).push (seqObj "list" #[] 0)) ps vs := ⟨hp.len, fun i v hv => hold _ _ (hp.at_ i v hv)⟩
  obtain ⟨fs, t1, t2, t3⟩ := tups_of (vs := vs) fun v hv => by
    refine xE (List.mem_iff_getElem.mp hv) fun i qq1 => ?_; refine xE qq1 fun hi e => ?_
    exact ⟨_, hp6.at_ i v (by rw [List.getElem?_eq_getElem hi, e])⟩
  have hn2 : ¬ vs.toArray.size < 2 := by rw [List.size_toArray]; lia
  dsimp only
  rw [if_neg hn2, if_neg hn2]
  refine wpAny_bind (kat_kind (T := .type "int") (s := { s with heap := ((s.heap.update a (Obj.mapSeq fun _ => #[])).push (seqObj "tuple" vs.toArray 0)).push (seqObj "list" #[] 0) }) t1 (by lia) (fun f hf => by refine xEE (t3 f hf) fun i t qq1 => ?_; subst qq1; exact Looks.of_pure rfl) rfl ?_)
  have hord := (sort_ok (n := ps.length) (by lia)).run (lt := fun i j => lexLt (atP ps i) (atP ps j))
  refine wpAny_bind (wpAny_mono (kat_run (κ := tuples' true) (G := fun p s' => p = runT (fun i j => lexLt (atP ps i) (atP ps j)) (kas_sort ps.length) /\ s' = { s with heap := ((s.heap.update a (Obj.mapSeq fun _ => #[])).push (seqObj "tuple" vs.toArray 0)).push (seqObj "list" #[] 0) })
    (Q := fun st' s' => ∃ p : Array Nat, arrOf st' = p.map (kas_item (vs.toArray.zip vs.toArray)) /\ failedOf st' = none /\ p = runT (fun i j => lexLt (atP ps i) (atP ps j)) (kas_sort ps.length) /\ s' = { s with heap := ((s.heap.update a (Obj.mapSeq fun _ => #[])).push (seqObj "tuple" vs.toArray 0)).push (seqObj "list" #[] 0) })
    rfl h2 h64 (fun p' st' s' _ a2 a3 a4 => ⟨p', a2, a3, a4⟩) (hlen ▸ KOk.wp (n := ps.length) (fun i j hi hj C hC => lt_pair (hp6.get hi) (hp6.get hj) hC) (sort_ok (by lia)) ⟨rfl, rfl⟩)) ?_ fun _ _ e => e)
  rintro ⟨⟨⟩, st'⟩ s' ⟨p, har, hf, rfl, rfl⟩
  dsimp only
  have hout := kat_snds (vs := vs) rfl har
  rw [hout]
  refine wpAny_bind (seqEpoch_at ho6 rfl ?_)
  refine wpAny_bind (listUpdate_at ho6 rfl ?_ (Nat.zero_le _) (by rw [List.size_toArray, List.length_map, Array.length_toList, hord.size, sizeLine_eq]; lia))
  rw [hf, bne_self_eq_false]
  exact wpAny_pure h
theorem list_sort_few (ho : s.heap.get? a = some (seqObj "list" vs.toArray n)) (h2 : vs.length < 2) (h : P (.done (.ret .none)) { s with heap := sortedHeap s.heap a vs vs.toArray }) :
    wpAny (model prog w) A (Builtin.«list.sort» ⟨[.ref a], []⟩) P E s := by
  have ha : a < s.heap.objs.size := Heap.lt_size ho
  obtain ⟨e1, ho1⟩ : ∃ e1, (s.heap.update a (Obj.mapSeq fun _ => (#[] : Array Value))).get? a = some (seqObj "list" #[] e1) := ⟨_, get?_update_seq ho fun _ => #[]⟩
  have ho6 : (((s.heap.update a (Obj.mapSeq fun _ => #[])).push (seqObj "tuple" vs.toArray 0)).push (seqObj "list" #[] 0)).get? a = some (seqObj "list" #[] e1) := by
    rw [Heap.get?_push_ne _ _ _ (by rw [size_push', Heap.size_update]; exact Nat.ne_of_lt (Nat.lt_succ_of_lt ha)), Heap.get?_push_ne _ _ _ (by rw [Heap.size_update]; exact Nat.ne_of_lt ha)]
    exact ho1
  have hn2 : vs.toArray.size < 2 := by rw [List.size_toArray]; omega
  have hzip : (vs.toArray.zip vs.toArray).map (·.2) = vs.toArray := by
    apply Array.toList_inj.mp
    rw [Array.toList_map, Array.toList_zip, List.map_snd_zip (Nat.le_refl _)]
  rw [list_sort_plain]
  refine wpAny_bind (listItems_at ho rfl ?_)
  refine wpAny_bind (listUpdate_at ho rfl ?_ (by rw [List.size_toArray, sizeLine_eq]; lia) (Nat.zero_le _))
  refine wpAny_bind (seqEpoch_at ho1 rfl ?_)
  refine wpAny_bind (wpAny_newTuple ?_ (by show vs.length <= _; rw [sizeLine_eq]; lia))
  refine wpAny_bind (wpAny_newList ?_ (Nat.zero_le _))
  refine wpAny_holding ?_
  show wpAny (model prog w) A _ P E { s with heap := ((s.heap.update a (Obj.mapSeq fun _ => #[])).push (seqObj "tuple" vs.toArray 0)).push (seqObj "list" #[] 0) }
  dsimp only
  rw [if_pos hn2, if_pos hn2]
  refine wpAny_bind (wpAny_pure ?_)
  rw [StateT.run_pure]
  refine wpAny_bind (wpAny_pure ?_)
  dsimp only
  refine wpAny_bind (seqEpoch_at ho6 rfl ?_)
  have e2 : (arrOf (SortSt.mk' general' (vs.toArray.zip vs.toArray) #[] 7 none)).map (·.2) = vs.toArray := hzip
  rw [e2]
  refine wpAny_bind (listUpdate_at ho6 rfl ?_ (Nat.zero_le _) (by rw [List.size_toArray, sizeLine_eq]; lia))
  rw [bne_self_eq_false]
  exact wpAny_pure h
end
end
section
open PySem PySem.Spec PyProof.Rows PySem.SeqAt
section
variable {P : Par} {A : Around} {σ : Sg} {hp : AHeap} {s : Shared} {E : Value -> Shared -> Prop}
theorem pairOf_is {v : AV} (h : pairOf v = some p) : v = pairAV p := by
  unfold pairOf at h
  rcases hk : v.key? with _ | k <;> rw [hk] at h
  . exact none_ne h
  rcases k with _ | _
  case pair => cases h; exact key_av hk
  all_goals exact none_ne h
theorem strOf_is {v : AV} (h : strOf v = some x) : v = .str x := by
  rcases v with _ | _ <;> first | exact none_ne h | (cases h; rfl)
theorem allOf_is {α : Type} {f : AV -> Option α} {g : α -> AV} (hf : ∀ {v p}, f v = some p -> v = g p) : ∀ {xs : List AV} {ps : List α}, allOf f xs = some ps -> xs = ps.map g
  | [], ps, h => by cases h; rfl
  | x :: xs, ps, h => by
    refine xEA (Option.bind_eq_some_iff.mp h) fun p h1 h => ?_
    refine xEA (Option.bind_eq_some_iff.mp h) fun qs h2 h => ?_
    cases h
    rw [hf h1, allOf_is hf h2]; rfl
theorem pairAt_of {h : Heap} {p : Int × Int} (r : RV B h σ (pairAV p) v) : PairAt h p v := by
  refine xEEEAA r fun c qq1 n qq2 o rs => ?_; try clear r; obtain ⟨ws⟩ := qq1; subst qq2
  replace rs : RVs B h σ [.int p.1, .int p.2] ws := rs
  refine xEEAA rs.cons fun x r1 qq1 qq2 rs2 => ?_; subst qq1; refine xE qq2 fun t qq1 => ?_; try clear qq2; subst qq1
  refine xEAE rs2.one fun y qq1 u qq2 => ?_; subst qq1; subst qq2
  exact ⟨c, n, t, u, rfl, o⟩
theorem atP_map {ps : List (Int × Int)} (hi : i < ps.length) : (ps.map pairAV)[i]? = some (pairAV (atP ps i)) := by
  rw [List.getElem?_map, List.getElem?_eq_getElem hi]
  unfold atP
  rw [List.getD_eq_getElem?_getD, List.getElem?_eq_getElem hi]; rfl
theorem pairsAt_of {h : Heap} {ps : List (Int × Int)} (r : RVs B h σ (ps.map pairAV) vs) : PairsAt h ps vs := by
  have hl := r.length
  rw [List.length_map] at hl
  refine ⟨hl, fun i v hv => ?_⟩
  have hi : i < ps.length := by rw [hl]; exact (List.getElem?_eq_some_iff.mp hv).1
  refine xEA (r.get (atP_map hi)) fun u h1 h2 => ?_
  rw [hv] at h1; cases h1
  exact pairAt_of h2
theorem rvs_order {h : Heap} {ps : List (Int × Int)} (r : RVs B h σ (ps.map pairAV) vs) : ∀ (is : List Nat), (∀ i ∈ is, i < ps.length) -> RVs B h σ (is.map fun i => pairAV (atP ps i)) (is.map fun i => vs.getD i Value.none)
  | [], _ => trivial
  | i :: is, H => by
    refine xEA (r.get (atP_map (H i List.mem_cons_self))) fun u h1 h2 => ?_
    refine ⟨?_, rvs_order r is fun k hk => H k (List.mem_cons_of_mem _ hk)⟩
    show RV B h σ (pairAV (atP ps i)) (vs.getD i Value.none)
    rw [List.getD_eq_getElem?_getD, h1]
    exact h2
theorem sorted_tail (S : St P.w P.B σ hp s.heap) {vs : List Value} {ys : List AV} (hk : ∀ b o, s.heap.get? b = some o -> h'.get? b = some o) (hb : newList ys hp ≠ .bad)
    (hr : RVs P.B h' σ ys out.toList) : QV P σ s (newList ys hp) (.ref h'.objs.size) { s with heap := sortedHeap (h'.push (seqObj "list" vs.toArray 0)) h'.objs.size vs out, toks := tk } := by
  have hoL : (h'.push (seqObj "list" vs.toArray 0)).get? h'.objs.size = some (seqObj "list" vs.toArray 0) := Heap.get?_push_size _ rfl
  have hnew : s.heap.get? h'.objs.size = none := by
    rcases e : s.heap.get? h'.objs.size with _ | o
    case none => rfl
    case some => have := hk _ o e; rw [free_size] at this; cases this
  have hk2 : ∀ b o, h'.get? b = some o -> (sortedHeap (h'.push (seqObj "list" vs.toArray 0)) h'.objs.size vs out).get? b = some o := fun b o e => by
    have hlt := Heap.lt_size e
    rw [sortedHeap_old (Nat.ne_of_lt hlt) (by rw [push_size]; exact Nat.lt_succ_of_lt hlt)]
    exact Heap.get?_push_of_some _ e
  refine xE (sortedHeap_at (out := out) hoL) fun e he => ?_
  exact After.made (t := tk) S (fun b o e => hk2 b o (hk b o e)) hnew he (RVs.fixes (fun b o e _ => hk2 b o e) _ _ hr) hb
theorem ints_are {h : Heap} : ∀ {is : List Int} {vs : List Value}, RVs B h σ (is.map .int) vs -> IntsAre vs is
  | [], [], _ => .nil
  | i :: is, v :: vs, r => by
    refine xE r.1 fun t e => ?_
    rw [e]
    exact .cons _ t (ints_are r.2)
  | [], _ :: _, r => r.elim
  | _ :: _, [], r => r.elim
theorem ints_back {h : Heap} {is : List Int} {vs : List Value} (r : IntsAre vs is) : RVs B h σ (is.map .int) vs := (ris_of r).rvs
theorem sort_ints {ns is : List Int} (hp : ns.Perm is) (hs : ns.Pairwise (· <= ·)) : ns = is.mergeSort fun a b => decide (a <= b) := by
  refine List.Perm.eq_of_pairwise (le := (· <= ·)) (fun x y _ _ h1 h2 => Int.le_antisymm h1 h2) hs ?_ (hp.trans (List.mergeSort_perm _ _).symm)
  have hs : (is.mergeSort fun a b => decide (a <= b)).Pairwise (fun a b => decide (a <= b) = true) := List.pairwise_mergeSort (le := fun a b : Int => decide (a <= b)) (fun a b c h1 h2 => decide_eq_true (Int.le_trans (of_decide_eq_true h1) (of_decide_eq_true h2))) (fun a b => by simp only [Bool.or_eq_true, decide_eq_true_eq]; omega) is
  exact hs.imp fun h => of_decide_eq_true h
theorem sorted_dict (ok : P.Ok) (S : St P.w P.B σ hp s.heap) (hh : A.handled = none) {j : Nat} {kvs : List (Key × AV)} {ep : Nat} {a : Addr} {off : Nat} (hj : hp[j]? = some (.dict kvs ep)) (e1 : σ[j]? = some (a, off)) {ys : List AV} (hy : sortK3 (kvs.map fun p => p.1.av) = some ys) (hb : newList ys hp ≠ .bad) :
    wpAny (model P.prog P.w) A (call (.builtin "sorted") [.ref a]) (QV P σ s (newList ys hp)) E s := by
  refine xEAAAA (S.isDict hj e1) fun es ho re hnd hone hle => ?_
  have hlen := re.length.trans Array.length_toList
  refine Calls.call_function_entry kind_sorted plain_sorted entry_sorted (args_sorted1 _) ?_
  unfold Builtin.«sorted»
  refine wpAny_bind (m := checkCount "sorted" 1 1 _) (wpAny_pure ?_)
  refine wpAny_bind (W.kdu_collect (A := A.in1) (src_raw (P := P) (S.notMods ok e1) es (off + ep)) hh ho (by rw [<- hlen]; exact hle) fun h' tk acc hk hacc => ?_)
  have rv : RVs P.B h' σ (kvs.map fun p => p.1.av) acc.toList := by
    rw [items_keys (es := acc) (n := 0) hacc]
    exact RVs.fixes (fun b o e _ => hk b o e) _ _ re.keys
  generalize acc.toList = vs at *
  generalize (kvs.map fun p => p.1.av) = xs at *
  have hl := rv.length
  have h64 : xs.length < 64 := by
    unfold sortK3 at hy
    rcases hps : allOf pairOf xs with _ | ps <;> rw [hps] at hy
    . refine xEA (Option.bind_eq_some_iff.mp hy) fun is hi hy => ?_
      rw [allOf_is intOf_is hi, List.length_map]
      exact (iteN hy).1
    . rw [allOf_is pairOf_is hps, List.length_map]
      exact iteS hy (fun _ _ => by lia) fun _ hy => (iteN hy).1
  refine wpAny_bind (wpAny_newList ?_ (by show _ <= 16777216; lia))
  have hoL : (h'.push (seqObj "list" vs.toArray 0)).get? h'.objs.size = some (seqObj "list" vs.toArray 0) := Heap.get?_push_size _ rfl
  have hk1 : ∀ b o, h'.get? b = some o -> (h'.push (seqObj "list" vs.toArray 0)).get? b = some o := fun b o e => Heap.get?_push_of_some _ e
  unfold sortK3 at hy
  rcases hps : allOf pairOf xs with _ | ps <;> rw [hps] at hy
  . refine xEA (Option.bind_eq_some_iff.mp hy) fun is hi hy2 => ?_
    have := allOf_is intOf_is hi
    subst this
    have hys := Option.some.inj (iteN hy2).2
    subst hys
    refine wpAny_bind (wpAny_holding (wpAny_call_entry slot_list_sort ⟨_, hoL, rfl⟩ entry_list_sort (list_sort_tree hoL (ints_are rv) (by lia) fun out ns' a1 a2 a3 => ⟨_, rfl, ?_⟩) (args_list_sort _)))
    rw [<- sort_ints a2 a3] at hb |-
    exact wpAny_pure ⟨_, rfl, sorted_tail S hk hb (ints_back a1)⟩
  . have := allOf_is pairOf_is hps
    subst this
    rw [List.length_map] at hl
    refine iteS hy (fun h2 hy => ?_) fun h2 hy => ?_
    . rcases Option.some.inj hy with rfl
      refine wpAny_bind (wpAny_holding (wpAny_call_entry slot_list_sort ⟨_, hoL, rfl⟩ entry_list_sort (list_sort_few hoL (by lia) ⟨_, rfl, ?_⟩) (args_list_sort _)))
      exact wpAny_pure ⟨_, rfl, sorted_tail S hk hb rv⟩
    . refine xA (iteN hy) fun h3 hy => ?_
      rcases Option.some.inj hy with rfl
      have rv1 := RVs.fixes (fun b o e _ => hk1 b o e) _ _ rv
      refine wpAny_bind (wpAny_holding (wpAny_call_entry slot_list_sort ⟨_, hoL, rfl⟩ entry_list_sort (list_sort_pairs hoL (pairsAt_of rv1) (by lia) (by lia) ⟨_, rfl, ?_⟩) (args_list_sort _)))
      exact wpAny_pure ⟨_, rfl, sorted_tail S hk hb (rvs_order rv _ fun i hi => order_lt (by lia) hi)⟩
theorem strs_of {h : Heap} : ∀ {ss : List (List Nat)} {vs : List Value}, RVs B h σ (ss.map .str) vs -> StrsAre vs (ss.map fun x => ⟨x.toArray⟩)
  | [], [], _ => .nil
  | x :: ss, v :: vs, r => by
    refine xE r.1 fun t e => ?_
    rw [e]
    exact .cons _ t (strs_of r.2)
  | [], _ :: _, r => r.elim
  | _ :: _, [], r => r.elim
theorem of_strs {B : Bs} {h : Heap} {vs : List Value} {ss : List Str} (r : StrsAre vs ss) : RVs B h σ (ss.map fun x => .str x.cps.toList) vs := by
  induction r with
  | nil => trivial
  | cons x t r ih => exact ⟨⟨t, rfl⟩, ih⟩
theorem rising_pw : ∀ (p : Str) (l : List Str), risingS p l = true -> (p :: l).Pairwise fun a b => a.cps.toList <= b.cps.toList
  | p, [], _ => List.pairwise_singleton _ _
  | p, x :: r, h => by
    have h1 : (!ltCps x.cps.toList p.cps.toList && risingS x r) = true := h
    rw [Bool.and_eq_true, ltCps_eq, Bool.not_eq_true', decide_eq_false_iff_not] at h1
    have ih := rising_pw x r h1.2
    refine List.pairwise_cons.mpr ⟨fun b hb => ?_, ih⟩
    rcases List.mem_cons.mp hb with rfl | hb
    . exact h1.1
    . exact List.le_trans (l₂ := x.cps.toList) h1.1 (List.rel_of_pairwise_cons ih hb)
theorem leS_iff {a b : List Nat} : leS a b = true ↔ a <= b := by
  unfold leS
  rw [Bool.not_eq_true', decide_eq_false_iff_not]
  exact Iff.rfl
theorem mergeS_pw (ss : List (List Nat)) : (ss.mergeSort leS).Pairwise fun a b => a <= b := by
  have := List.pairwise_mergeSort (le := leS) (fun a b c h1 h2 => leS_iff.mpr (List.le_trans (leS_iff.mp h1) (leS_iff.mp h2))) (fun a b => by
    rcases List.le_total a b with h | h
    . rw [leS_iff.mpr h]; rfl
    . rw [leS_iff.mpr h]; exact Bool.or_true _) ss
  exact this.imp fun h => leS_iff.mp h
theorem sort_one {ss ts : List (List Nat)} (hp : ts.Perm ss) (hs : ts.Pairwise fun a b => a <= b) : ts = ss.mergeSort leS :=
  List.Perm.eq_of_pairwise (fun a b _ _ h1 h2 => List.le_antisymm h1 h2) hs (mergeS_pw ss) (hp.trans (List.mergeSort_perm ss leS).symm)
theorem sorted_strs_call (S : St P.w P.B σ hp s.heap) {j : Nat} {xs : List AV} {a : Addr} {off : Nat} (hj : hp[j]? = some (.list xs)) (e1 : σ[j]? = some (a, off)) {ys : List AV} (hy : (allOf strOf xs).bind sortS = some ys) (hb : newList ys hp ≠ .bad) :
    wpAny (model P.prog P.w) A (call (.builtin "sorted") [.ref a]) (QV P σ s (newList ys hp)) E s := by
  refine xEA (Option.bind_eq_some_iff.mp hy) fun ss hs hy2 => ?_
  have := allOf_is strOf_is hs
  subst this
  refine xEA (S.isList hj e1) fun ws hl rx => ?_
  refine xA (iteN hy2) fun h64 hy => ?_
  have hlen := rx.size
  rw [List.length_map] at hlen
  refine sorted_strs (vs := ws.toList) (by rw [Array.toArray_toList]; exact hl) (strs_of rx) (by rw [Array.length_toList]; lia) fun out ss' a1 a2 a3 => ?_
  have hss : ss'.map (fun x => x.cps.toList) = ss.mergeSort leS := by
    refine sort_one ?_ (List.pairwise_map.mpr ?_)
    . have := a2.map fun x => x.cps.toList
      rw [List.map_map] at this
      have e : ((fun x : Str => x.cps.toList) ∘ fun x : List Nat => (⟨x.toArray⟩ : Str)) = id := rfl
      rwa [e, List.map_id] at this
    . rcases ss' with _ | ⟨x, r⟩
      . exact .nil
      . exact rising_pw x r a3
  have hys : ys = ss'.map fun x => AV.str x.cps.toList := by
    rw [<- hss, List.map_map] at hy
    exact (Option.some.inj hy).symm
  subst hys
  refine xE (sortedAll_at s.heap ws.toList out) fun e he => ?_
  exact After.made (t := s.toks) S (fun _ _ => sortedAll_old) (Heap.get?_none_of_le (Nat.le_succ _)) he (of_strs a1) hb
end
end
section
open PySem PySem.Spec PyProof.Rows PySem.SeqAt
theorem opt_bind {α β : Type} {a : Option α} {f : α -> Option β} {b : β} (h : (a >>= f) = some b) : ∃ x, a = some x /\ f x = some b := Option.bind_eq_some_iff.mp h
theorem opt_pure {α : Type} {a b : α} (h : (pure a : Option α) = some b) : a = b := Option.some.inj h
theorem plain_es {cx : Cx} {k : Nat} : ∀ {es : List Expr} {xs : Xs}, compEs (compE k cx) es = some xs -> ∀ env pos, (backTo pos (starEach es env)).any (·.1) = false
  | [], _, _, _, _ => rfl
  | e :: es, xs, h, env, pos => by
    refine xEA (opt_bind h) fun x hx h => ?_
    refine xEA (opt_bind h) fun ys hy _ => ?_
    rw [not_starred hx env es]
    exact plain_es hy env pos
section
variable {P : Par} {cx : Cx}
theorem evalArgs_es (hp : (backTo pos (starEach es env)).any (·.1) = false)
    (h : wpAny (model P.prog P.w) A (spliced (backTo pos (starEach es env))) (fun vs s' => Q ⟨vs, []⟩ s') E s) : wpAny (model P.prog P.w) A (evalArgs f true (backTo pos (starEach es env)) []) Q E s := by
  rcases hb : backTo pos (starEach es env) with _ | ⟨p, r⟩
  case nil =>
    rw [hb] at h
    unfold evalArgs
    show wpAny _ _ (spliced [] >>= _) Q E s
    refine wpAny_bind (wpAny_mono h (fun vs s' h' => ?_) fun _ _ x => x)
    refine wpAny_holding ?_
    exact wpAny_bind (wpAny_pure (wpAny_bind (wpAny_pure (wpAny_pure h'))))
  case cons =>
    obtain ⟨b, t⟩ := p
    rw [hb] at hp h
    simp only [List.any_cons, Bool.or_eq_false_iff] at hp
    have : b = false := hp.1
    subst this
    exact Calls.evalArgs_plain h
theorem load_glob (C : Sims P cx c n) (I : Inv P cx n c.q env A σ l hp s) (hg : cx.isGlob x = true) (hv : P.mg x = some v) (h : Q v s) :
    wpAny (model P.prog P.w) A (eval (.Name x pos) env) Q E s := by
  refine xA (glob_plain hg) fun hd _ => ?_
  refine wpAny_Name ?_ hd
  rw [loadName_read I.fr.kind (I.fr.glob x hg)]
  have hn : s.heap.Ns env.globals P.mg := by rw [I.fr.globals]; exact C.ok.g.keeps I.st.base
  exact Calls.loadGlobal_global hn hv h
theorem load_blt (C : Sims P cx c n) (I : Inv P cx n c.q env A σ l hp s) (hg : cx.isGlob x = true) (hv : (x, v) ∈ bltPairs) (h : Q v s) :
    wpAny (model P.prog P.w) A (eval (.Name x pos) env) Q E s := by
  refine xA (glob_plain hg) fun hd _ => ?_
  refine wpAny_Name ?_ hd
  rw [loadName_read I.fr.kind (I.fr.glob x hg)]
  have hn : s.heap.Ns env.globals P.mg := by rw [I.fr.globals]; exact C.ok.g.keeps I.st.base
  have hb : s.heap.Ns env.builtins P.mb := by rw [I.fr.builtins]; exact C.ok.b.keeps I.st.base
  refine xA (C.ok.blt x v hv) fun h1 h2 => ?_
  exact Calls.loadGlobal_builtin hn h1 hb h2 h
theorem call_eq : eval (.Call (.Name f p) es [] pos) env = (eval (.Name f p) env >>= fun fv => callWith pos fv [] (backTo pos (starEach es env)) []) := rfl
theorem sim_call (hg : cx.isGlob f = true) (hf : cx.funs.contains f = true) (hm : cx.meths.contains f = false) (hc : compEs (compE k cx) es = some xs) (h : SimEs P cx es xs) : SimE P cx (.Call (.Name f p) es [] pos) (.call f xs) := by
  intro c n env A σ loc hp s C I hb
  rw [x_call] at hb |-
  rw [call_eq]
  refine xEEEAAAA (C.f f hf) fun a o fd hm2 ho _ hd hcall => ?_
  have hm : P.mg f = some (.ref a) := by
    unfold Par.fn at hm2
    rw [<- C.meths, hm] at hm2
    exact hm2
  refine wpAny_bind (load_glob C I hg hm (Calls.callWith_function (o := o) (fd := fd) (evalArgs_es (plain_es hc env pos) (seqVs (G := fun R vs s₁ => (s₁.heap.get? a = some o /\ o.data = .func fd) /\ wpAny (model P.prog P.w) A (call (.ref a) ([] ++ vs) []) (QV P σ s R) (QE P σ s R) s₁) (.refl I.st) (h c n env A σ loc hp s pos C I (bind_ok hb)) hb ?_))))
  intro avs hp₁ σ₁ vs s₁ a₁ _ rv hb
  refine ⟨⟨a₁.st.base a o ho, hd⟩, ?_⟩
  exact wpAny_mono (hcall avs vs σ₁ hp₁ s₁ A a₁.st rv I.ar.toArndC (I.fs.after a₁.gr) hb) (fun _ _ q => q.lift a₁) (fun _ _ q => q.lift a₁)
noncomputable def Prim (P : Par) (st : Bool) (v : Value) (r : List AV -> AHeap -> Res AV) : Prop :=
  ∀ n q A σ hp s avs vs, P.Ok -> Arnd n q A -> (st = true -> q = false) -> St P.w P.B σ hp s.heap -> RVs P.B s.heap σ avs vs -> r avs hp ≠ .bad -> wpAny (model P.prog P.w) A (call v vs) (QV P σ s (r avs hp)) NE s
theorem sim_fn {id : String} {st : Bool} (hx : ∀ c l h, evalX c x l h = (evalXs c xs l h).bind fun vs h => if st && c.q then .bad else r vs h) (hv : (f, Value.builtin id) ∈ bltPairs) (H : Prim P st (.builtin id) r)
    (hg : cx.isGlob f = true) (hc : compEs (compE k cx) es = some xs) (h : SimEs P cx es xs) : SimE P cx (.Call (.Name f p) es [] pos) x := by
  intro c n env A σ loc hp s C I hb
  rw [hx] at hb |-
  rw [call_eq]
  refine wpAny_bind (load_blt C I hg hv (Calls.callWith_builtin (plain_es hc env pos) (evalArgs_es (plain_es hc env pos) (seqVs (G := fun R vs s₁ => wpAny (model P.prog P.w) A (call (.builtin id) ([] ++ vs) []) (QV P σ s R) (QE P σ s R) s₁) (.refl I.st) (h c n env A σ loc hp s pos C I (bind_ok hb)) hb ?_))))
  intro avs hp₁ σ₁ vs s₁ a₁ _ rv hb
  have hq := neg_if hb
  rw [if_neg hq] at hb |-
  exact wpAny_mono (H n c.q A σ₁ hp₁ s₁ avs vs C.ok I.ar (fun h => by rw [h, Bool.true_and, Bool.not_eq_true] at hq; exact hq) a₁.st rv hb) (fun _ _ q => q.lift a₁) (fun _ _ q => q.elim)
theorem sim_ty {id : String} {st : Bool} (hx : ∀ c l h, evalX c x l h = (evalXs c xs l h).bind fun vs h => if st && c.q then .bad else r vs h) (hv : (f, Value.type id) ∈ bltPairs) (H : Prim P st (.type id) r)
    (hg : cx.isGlob f = true) (hc : compEs (compE k cx) es = some xs) (h : SimEs P cx es xs) : SimE P cx (.Call (.Name f p) es [] pos) x := by
  intro c n env A σ loc hp s C I hb
  rw [hx] at hb |-
  rw [call_eq]
  refine wpAny_bind (load_blt C I hg hv (PySem.callWith_type (plain_es hc env pos) (evalArgs_es (plain_es hc env pos) (seqVs (G := fun R vs s₁ => wpAny (model P.prog P.w) A (call (.type id) ([] ++ vs) []) (QV P σ s R) (QE P σ s R) s₁) (.refl I.st) (h c n env A σ loc hp s pos C I (bind_ok hb)) hb ?_))))
  intro avs hp₁ σ₁ vs s₁ a₁ _ rv hb
  have hq := neg_if hb
  rw [if_neg hq] at hb |-
  exact wpAny_mono (H n c.q A σ₁ hp₁ s₁ avs vs C.ok I.ar (fun h => by rw [h, Bool.true_and, Bool.not_eq_true] at hq; exact hq) a₁.st rv hb) (fun _ _ q => q.lift a₁) (fun _ _ q => q.elim)
theorem bi_one (hb : biAV b as h ≠ .bad) : ∃ a, as = [a] := by
  rcases as with _ | ⟨a, r⟩
  case nil => exact absurd rfl hb
  case cons =>
    rcases r with _ | ⟨c, r⟩
    case nil => exact ⟨a, rfl⟩
    case cons => exact absurd rfl hb
theorem prim_len : Prim P false (.builtin "len") (biAV .len) := fun n q A σ hp s avs vs ok ar _ S rv hb => by
  refine xE (bi_one hb) fun a qq1 => ?_; subst qq1
  refine xEA rv.one fun v qq1 rv1 => ?_; subst qq1
  exact len_prim ok S rv1 hb
theorem loc_of (hb : biAV b [a] h ≠ .bad) (hne : b ≠ .len) : ∃ n, a = .loc n := by
  rcases b with _ | _
  . exact absurd rfl hne
  all_goals rcases a with _ | _ <;> first | exact ⟨_, rfl⟩ | exact absurd rfl hb
theorem prim_list : Prim P true (.type "list") (biAV .list) := fun n q A σ hp s avs vs ok ar hq S rv hb => by
  refine xE (bi_one hb) fun a qq1 => ?_; subst qq1
  refine xE (loc_of hb fun q => nomatch q) fun j qq1 => ?_; subst qq1
  refine xEA rv.one fun v qq1 rv1 => ?_; subst qq1
  have hb : newListO (walkOf hp j) hp ≠ .bad := hb
  show wpAny _ _ _ (QV P σ s (newListO (walkOf hp j) hp)) _ _
  refine xEA (newListO_is hb) fun xs hx hb => ?_
  rw [hx]
  exact list_call ok S (ar.handled (hq rfl)) rv1 hx hb
theorem prim_sorted : Prim P true (.builtin "sorted") (biAV .sorted) := fun n q A σ hp s avs vs ok ar hq S rv hb => by
  refine xE (bi_one hb) fun a qq1 => ?_; subst qq1
  refine xE (loc_of hb fun q => nomatch q) fun j qq1 => ?_; subst qq1
  refine xEA rv.one fun v qq1 rv1 => ?_; subst qq1
  have hb : newListO (sortL hp j) hp ≠ .bad := hb
  show wpAny _ _ _ (QV P σ s (newListO (sortL hp j) hp)) _ _
  refine xEA (newListO_is hb) fun ys hy hb => ?_
  rw [hy]
  refine xEEA rv1 fun a off qq1 e1 => ?_; try clear rv rv1; subst qq1
  unfold sortL at hy
  rcases hl : listAt hp j with _ | xs <;> rw [hl] at hy
  . refine xEA (Option.bind_eq_some_iff.mp hy) fun d hd hy => ?_
    exact sorted_dict ok S (ar.handled (hq rfl)) (dictAt_is hd) e1 hy hb
  . exact sorted_strs_call S (listAt_is hl) e1 hy hb
theorem prim_range : Prim P false (.type "range") (fun vs h => okO (rangeOf vs) h) := fun n q A σ hp s avs vs ok ar _ S rv hb => by
  refine xE (okO_is hb) fun r hr => ?_
  show wpAny _ _ _ (QV P σ s (okO (rangeOf avs) hp)) _ _
  rw [hr]
  exact range_prim S ok ar rv hr
theorem sim_isi (hg : cx.isGlob "isinstance" = true) (hgT : cx.isGlob T = true) (hT : (T, Value.type (tyName t)) ∈ bltPairs) (hs : ∀ env rest, starEach (e :: rest) env = (false, eval e env) :: starEach rest env) (h : SimE P cx e x) :
    SimE P cx (.Call (.Name "isinstance" p) [e, .Name T q] [] pos) (.isi x t) := by
  intro c n env A σ loc hp s C I hb
  rw [x_isi] at hb |-
  rw [call_eq]
  have hplain : (backTo pos (starEach [e, .Name T q] env)).any (·.1) = false := by
    rw [hs]; rfl
  refine wpAny_bind (load_blt C I hg blt_isi (Calls.callWith_builtin hplain (evalArgs_es hplain ?_)))
  refine wpAny_items_cons (seqV (G := fun R v s₁ => wpAny (model P.prog P.w) A (spliced (backTo pos (starEach [.Name T q] env))) (fun vs s₂ => wpAny (model P.prog P.w) A (call (.builtin "isinstance") ([] ++ (v :: vs)) []) (QV P σ s R) (QE P σ s R) s₂) (QE P σ s R) s₁) (.refl I.st) (h c n env A σ loc hp s C I (bind_ok hb)) hb ?_) (hs env _)
  intro av hp₁ σ₁ v s₁ a₁ _ rv hb
  refine wpAny_items_cons (load_blt C (I.after a₁) hgT hT (wpAny_items_nil ?_))
  refine xE (boolO_is hb) fun r hr => ?_
  rw [hr]
  refine wpAny_mono (isi_prim a₁.st rv hr) (fun w s₂ qb => ?_) (fun _ _ q => q)
  obtain ⟨b, rfl, e2, a₂⟩ := qb
  cases e2
  exact ⟨_, _, _, rfl, a₁.trans a₂, rfl⟩
theorem Arnd.make (ar : Arnd n q A) (C : Addr) (vs : List Value) : ArndC n q (A.under (.builtin "type.__call__" ⟨.ref C :: vs, []⟩)) := by
  refine xEEA ar.frame fun f outer hf _ => ?_
  refine ⟨⟨f :: outer, hf⟩, ?_, ?_, ar.handled⟩
  . have := ar.depth1
    rw [depth_under_make]; lia
  . have := ar.units1
    rw [units_under_make]; lia
theorem initOk_is (hb : initOk n r h ≠ .bad) : r = .none /\ initOk n r h = .ok (.loc n) h := by
  have h1 : isNoneAV r = true := pos_if hb
  refine ⟨?_, if_pos h1⟩
  rcases r with _ | _ <;> first | rfl | exact absurd h1 Bool.false_ne_true
theorem new_prim (C : Sims P cx c n) (S : St P.w P.B σ hp s.heap) (ar : Arnd n c.q A) (fs : Frs P s.heap σ A) (rv : RVs P.B s.heap σ avs vs)
    (hb : ((c.F "__init__" (.loc (hp.length + 1) :: avs) (made hp)).bind fun r h' => initOk (hp.length + 1) r h') ≠ .bad) :
    wpAny (model P.prog P.w) A (call (.ref P.B.C) vs) (QV P σ s ((c.F "__init__" (.loc (hp.length + 1) :: avs) (made hp)).bind fun r h' => initOk (hp.length + 1) r h')) (QE P σ s ((c.F "__init__" (.loc (hp.length + 1) :: avs) (made hp)).bind fun r h' => initOk (hp.length + 1) r h')) s := by
  refine xEEEAAAA (C.f "__init__" C.init) fun fI oI fd hm ho hfc hd hcall => ?_
  have hi : P.mN "__init__" = some (.ref fI) := by
    unfold Par.fn at hm
    rw [C.ok.init] at hm
    exact hm
  refine xEEEEEEEEEEEE ((C.ok.cls.keeps S.base).obj) fun nm q bs sn sub col dd k0 k1 k2 k3 k5 hC => ?_
  have ho' := S.base _ _ ho
  have hns := (C.ok.cls.keeps S.base).ns
  obtain ⟨hh, g, d, t, os⟩ := s
  refine born_call PySem.F.objNew hC hns hi ho' (hfc C.ok.init) ?_
  have M := born_made (h := hh) (C := P.B.C)
  have hpl : ∀ o, (bornH hh P.B.C).get? (hh.objs.size + 1) = some o -> ∀ v, o.data ≠ .prim v := fun o ho v => by rw [born_at] at ho; cases ho; exact fun e => nomatch e
  refine xA (St.made (s := ⟨hh, g, d, t, os⟩) S M hpl) fun S' g' => ?_
  have hx : (σ ++ [(hh.objs.size, 0)] ++ [(hh.objs.size + 1, hh.objs.size)])[hp.length + 1]? = some (hh.objs.size + 1, hh.objs.size) := by
    have e : hp.length + 1 = (σ ++ [(hh.objs.size, 0)]).length := by rw [List.length_append, S.len]; rfl
    rw [e]; exact List.getElem?_concat_length
  refine wpAny_mono (hcall (.loc (hp.length + 1) :: avs) (.ref (hh.objs.size + 1) :: vs) _ (made hp) ⟨bornH hh P.B.C, g, d, t, os⟩ _ S' ⟨⟨hh.objs.size + 1, hh.objs.size, rfl, hx⟩, RVs.grows g' _ _ rv⟩ (ar.make P.B.C vs) (fs.after g') (bind_ok hb)) (fun r s' qv => ?_) fun _ _ q => q.bind.lift (After.mk (s := ⟨hh, g, d, t, os⟩) (s' := ⟨bornH hh P.B.C, g, d, t, os⟩) rfl S' g')
  obtain ⟨av, hp₃, σ₃, e, a₃, rr⟩ := qv
  rw [e, bok] at hb |-
  refine xA (initOk_is hb) fun qq1 e2 => ?_; subst qq1
  rw [e2]
  exact ⟨rr, _, _, _, rfl, (After.mk (s := ⟨hh, g, d, t, os⟩) (s' := ⟨bornH hh P.B.C, g, d, t, os⟩) rfl S' g').trans a₃, hh.objs.size + 1, hh.objs.size, rfl, a₃.gr.look hx⟩
theorem sim_new (hg : cx.isGlob cx.cls = true) (hs : ∀ env rest, starEach (e :: rest) env = (false, eval e env) :: starEach rest env) (hc : compEs (compE k cx) (e :: es) = some xs) (h : SimEs P cx (e :: es) xs) :
    SimE P cx (.Call (.Name cx.cls p) (e :: es) [] pos) (.new xs) := by
  intro c n env A σ loc hp s C I hb
  rw [x_new] at hb |-
  rw [call_eq]
  have hpl := plain_es hc env pos
  rw [hs env es] at hpl
  refine wpAny_bind (load_glob C I hg C.cls (callWith_cls C.ok.cls ?_ (hs env es) (Bool.or_eq_false_iff.mp hpl).2))
  refine seqVs (G := fun R vs s₁ => (∀ b o, P.B.h₀.get? b = some o -> s₁.heap.get? b = some o) /\ wpAny (model P.prog P.w) A (call (.ref P.B.C) vs) (QV P σ s R) (QE P σ s R) s₁) (.refl I.st) (h c n env A σ loc hp s pos C I (bind_ok hb)) hb ?_
  intro avs hp₁ σ₁ vs s₁ a₁ _ rv hb
  exact ⟨a₁.st.base, wpAny_mono (new_prim C a₁.st I.ar (I.fs.after a₁.gr) rv hb) (fun _ _ q => q.lift a₁) (fun _ _ q => q.lift a₁)⟩
end
end
section
open PySem PySem.Spec PyProof.Rows PySem.SeqAt
theorem base_plain (h : notSuper o = true) (attr : Str) (env : Env) (whole : Sem Value) : attributeBase o attr env whole = whole := by
  rcases o with _ | _
  case Name => rfl
  case Subscript => rfl
  case Attribute => rfl
  case Call f _ _ _ => rcases f with _ | _ <;> first | rfl | exact absurd h Bool.false_ne_true
  all_goals exact absurd h Bool.false_ne_true
section
variable {P : Par} {cx : Cx}
theorem few_es (hc : compEs (compE k cx) es = some xs) (hl : es.length < 20) (env : Env) (pos : Pos) : ((backTo pos (starEach es env)).all (fun x => !x.1) && (backToKw pos (keywordEach [] env)).all (fun x => x.1.isSome)
      && decide (es.length + ([] : List Keyword).length + (if ([] : List Keyword).isEmpty then 0 else 1) < 30)) = true := by
  have h1 := plain_es hc env pos
  have h2 : (backTo pos (starEach es env)).all (fun x => !x.1) = true := by
    rw [List.all_eq_true]
    intro x hx
    have := List.any_eq_false.mp h1 x hx
    simpa using this
  rw [h2]
  exact decide_eq_true (show es.length + 0 + 0 < 30 from Nat.lt_trans hl (by decide))
theorem meth_gen (I : Inv P cx n qq env A σ loc hp s) {T id : String}
    (pa : PlainAttrs T) (slot : Slot T name id) (hty : typeOf (.builtin id) = pure (.type "method_descriptor")) (hns : notSuper o = true) (hc : compEs (compE k cx) es = some xs) (hl : es.length < 20) (hline : (ap.endLine == pos.line) = true)
    {r : Res AV} {f : AV -> AHeap -> Res AV} (ho : wpAny (model P.prog P.w) A (eval o env) (QV P σ s r) (QE P σ s r) s) (hb : r.bind f ≠ .bad)
    (hk : ∀ av hp' σ' v s', r = .ok av hp' -> After P σ σ' [] hp' s s' -> RV P.B s'.heap σ' av v -> f av hp' ≠ .bad ->
      s'.TypeIs v T /\ (∀ a, v = .ref a -> ∃ ob, s'.heap.get? a = some ob /\ ob.dict = none) /\
      wpAny (model P.prog P.w) A (evalArgs (.builtin id) true (backTo pos (starEach es env)) []) (fun a s₁ => wpAny (model P.prog P.w) A (call (.builtin id) ([v] ++ a.pos) a.kw) (QV P σ s (f av hp')) (QE P σ s (f av hp')) s₁) (QE P σ s (f av hp')) s') :
    wpAny (model P.prog P.w) A (eval (.Call (.Attribute o name ap) es [] pos) env) (QV P σ s (r.bind f)) (QE P σ s (r.bind f)) s := by
  refine wpAny_Call_method (base_plain hns _ _ _) (few_es hc hl env pos) hline pa slot hty (wpAny_mono ho (fun v s' ⟨av, hp', σ', e, a, rv⟩ => ?_) fun _ _ q => q.bind)
  subst e
  refine xAA (hk av hp' σ' v s' rfl a rv hb) fun h1 h2 h3 => ?_
  exact ⟨h1, h2, Calls.callWith_builtin (plain_es hc env pos) h3⟩
theorem append_is (hb : appendAV (.loc j) as h ≠ .bad) : ∃ x xs, as = [x] /\ h[j]? = some (.list xs) /\ xs.length < sizeLim /\ appendAV (.loc j) as h = .ok .none (h.set j (.list (xs ++ [x]))) := by
  rcases as with _ | ⟨x, _ | ⟨_, _⟩⟩
  . exact absurd rfl hb
  . unfold appendAV at hb |-
    dsimp only at hb |-
    rcases hx : listAt h j with _ | xs <;> rw [hx] at hb
    case none => exact absurd rfl hb
    case some =>
      have hsz := lim_if hb
      exact ⟨_, _, rfl, listAt_is hx, hsz, if_pos hsz⟩
  . exact absurd rfl hb
theorem sim_bm {T id : String} (pa : PlainAttrs T) (slot : Slot T name id) (hty : typeOf (.builtin id) = pure (.type "method_descriptor"))
    (hT : ∀ {σ : Sg} {hp : AHeap} {s : Shared} {av : AV} {v : Value}, St P.w P.B σ hp s.heap -> RV P.B s.heap σ av v -> bmOk m av hp = true -> s.TypeIs v T /\ ∀ a, v = .ref a -> ∃ ob, s.heap.get? a = some ob /\ ob.dict = none)
    (H : ∀ {n : Nat} {q : Bool} {A : Around} {σ : Sg} {hp : AHeap} {s : Shared} {av : AV} {v : Value} {avs : List AV} {vs : List Value}, P.Ok -> Arnd n q A -> St P.w P.B σ hp s.heap -> RV P.B s.heap σ av v -> RVs P.B s.heap σ avs vs -> bmAV m av avs hp ≠ .bad -> wpAny (model P.prog P.w) A (call (.builtin id) (v :: vs)) (QV P σ s (bmAV m av avs hp)) NE s)
    {o : Expr} {es : List Expr} {xo : X} {xs : Xs} {ap pos : Pos} {k : Nat} (hns : notSuper o = true) (hc : compEs (compE k cx) es = some xs) (hl : es.length < 20) (hline : (ap.endLine == pos.line) = true) (ho : SimE P cx o xo) (hes : SimEs P cx es xs) :
    SimE P cx (.Call (.Attribute o name ap) es [] pos) (.bm m xo xs) := by
  intro c n env A σ loc hp s C I hb
  rw [x_bm] at hb |-
  refine meth_gen I pa slot hty hns hc hl hline (ho c n env A σ loc hp s C I (bind_ok hb)) hb ?_
  intro av hp₁ σ₁ v s₁ hr a₁ rv hb
  have hk := lim_if hb
  rw [if_pos hk] at hb |-
  refine xA (hT a₁.st rv hk) fun h1 h2 => ?_
  refine ⟨h1, h2, ?_⟩
  refine evalArgs_es (plain_es hc env pos) (seqVs (G := fun R vs s₂ => wpAny (model P.prog P.w) A (call (.builtin id) ([v] ++ vs) []) (QV P σ s R) (QE P σ s R) s₂) a₁ (hes c n env A σ₁ loc hp₁ s₁ pos C (I.after a₁) (bind_ok hb)) hb ?_)
  intro avs hp₂ σ₂ vs s₂ a₂ a₁₂ rvs hb
  exact wpAny_mono (H C.ok I.ar a₂.st (RV.grows a₁₂.gr _ _ rv) rvs hb) (fun _ _ q => q.lift a₂) (fun _ _ q => q.elim)
theorem bm_append (ok : P.Ok) (ar : Arnd n q A) (S : St P.w P.B σ hp s.heap) (rv : RV P.B s.heap σ av v) (rvs : RVs P.B s.heap σ avs vs) (hb : bmAV .append av avs hp ≠ .bad) :
    wpAny (model P.prog P.w) A (call (.builtin "list.append") (v :: vs)) (QV P σ s (bmAV .append av avs hp)) NE s := by
  rcases av with _ | _
  case loc j =>
    refine xEEA rv fun a off qq1 e1 => ?_; try clear rv; subst qq1
    refine xEEAAA (append_is hb) fun x zs qq1 hj hsz er => ?_; subst qq1
    rw [show bmAV .append (.loc j) [x] hp = _ from er]
    refine xEA rvs.one fun u qq1 ru => ?_; subst qq1
    refine xEEAA (append_prim S hj e1 hsz ru) fun us m' h1 h2 h3 => ?_
    exact call_meets F.slot_list_append ⟨_, h2, rfl⟩ F.entry_list_append (F.args_list_append_2 _ _) (list_append a us m' u h1) ⟨h2, _, _, _, rfl, h3, rfl⟩
  all_goals exact absurd rfl hb
theorem bm_get (ok : P.Ok) (ar : Arnd n q A) (S : St P.w P.B σ hp s.heap) (rv : RV P.B s.heap σ av v) (rvs : RVs P.B s.heap σ avs vs) (hb : bmAV .get av avs hp ≠ .bad) :
    wpAny (model P.prog P.w) A (call (.builtin "dict.get") (v :: vs)) (QV P σ s (bmAV .get av avs hp)) NE s := by
  rcases av with _ | _
  case loc j =>
    refine xEEA rv fun a off qq1 e1 => ?_; try clear rv; subst qq1
    rcases avs with _ | ⟨x, r⟩
    case nil => exact absurd rfl hb
    case cons =>
      rcases r with _ | ⟨_, _⟩
      case cons => exact absurd rfl hb
      case nil =>
        refine xEA rvs.one fun u qq1 ru => ?_; subst qq1
        change getAV (.loc j) [x] hp ≠ .bad at hb
        show wpAny _ _ _ (QV P σ s (getAV (.loc j) [x] hp)) _ _
        delta getAV at hb |-
        dsimp only at hb |-
        rcases hd : dictAt hp j with _ | d
        case none => rw [hd] at hb; exact absurd rfl hb
        case some =>
          rw [hd] at hb
          refine xEA (okO_eq (show okO (getD d.1 x.key?) hp ≠ .bad from hb)) fun y hy e => ?_
          show wpAny _ _ _ (QV P σ s (okO (getD d.1 x.key?) hp)) _ _
          rw [e]
          exact get_call ok S (by have := ar.units; lia) hd e1 ru hy
  all_goals exact absurd rfl hb
theorem bm_pop (ok : P.Ok) (ar : Arnd n q A) (S : St P.w P.B σ hp s.heap) (rv : RV P.B s.heap σ av v) (rvs : RVs P.B s.heap σ avs vs) (hb : bmAV .pop av avs hp ≠ .bad) :
    wpAny (model P.prog P.w) A (call (.builtin "dict.pop") (v :: vs)) (QV P σ s (bmAV .pop av avs hp)) NE s := by
  rcases av with _ | _
  case loc j =>
    refine xEEA rv fun a off qq1 e1 => ?_; try clear rv; subst qq1
    rcases avs with _ | ⟨x, r⟩
    case nil => exact absurd rfl hb
    case cons =>
      rcases r with _ | ⟨_, _⟩
      case cons => exact absurd rfl hb
      case nil =>
        refine xEA rvs.one fun u qq1 ru => ?_; subst qq1
        change popAV (.loc j) [x] hp ≠ .bad at hb
        show wpAny _ _ _ (QV P σ s (popAV (.loc j) [x] hp)) _ _
        delta popAV at hb |-
        dsimp only at hb |-
        rcases hd : dictAt hp j with _ | d
        case none => rw [hd] at hb; exact absurd rfl hb
        case some =>
          rw [hd] at hb
          change popD hp j d.1 d.2 x.key? ≠ .bad at hb
          show wpAny _ _ _ (QV P σ s (popD hp j d.1 d.2 x.key?)) _ _
          rcases hk : x.key? with _ | k
          case none => rw [hk] at hb; exact absurd rfl hb
          case some =>
            rw [hk] at hb
            delta popD at hb |-
            dsimp only at hb |-
            have hso := lim_if hb
            rw [if_pos hso] at hb |-
            rcases hy : d.1.lookup k with _ | y
            case none => rw [hy] at hb; exact absurd rfl hb
            case some =>
              rw [key_av hk] at ru
              exact pop_call ok S (by have := ar.units; lia) (dictAt_is hd) e1 ru hso hy
  all_goals exact absurd rfl hb
theorem bm_index (ok : P.Ok) (ar : Arnd n q A) (S : St P.w P.B σ hp s.heap) (rv : RV P.B s.heap σ av v) (rvs : RVs P.B s.heap σ avs vs) (hb : bmAV .index av avs hp ≠ .bad) :
    wpAny (model P.prog P.w) A (call (.builtin "str.index") (v :: vs)) (QV P σ s (bmAV .index av avs hp)) NE s := by
  rcases av with _ | _
  case str x =>
    refine xE rv fun t qq1 => ?_; try clear rv; subst qq1
    rcases avs with _ | ⟨y, r⟩
    case nil => exact absurd rfl hb
    case cons =>
      rcases r with _ | ⟨_, _⟩
      case cons => exact absurd rfl hb
      case nil =>
        refine xEA rvs.one fun u qq1 ru => ?_; subst qq1
        refine xEA (okO_eq (show okO (((chrOf y).bind fun c => x.findIdx? (· == c)).map fun (i : Nat) => AV.int (i : Int)) hp ≠ .bad from hb)) fun z hz e => ?_
        rw [show bmAV .index (.str x) [y] hp = .ok z hp from e]
        refine xEA (Option.map_eq_some_iff.mp hz) fun i hi1 qq1 => ?_; subst qq1
        refine xEA (Option.bind_eq_some_iff.mp hi1) fun c hc hi => ?_
        rw [chrOf_is hc] at ru
        refine xE ru fun t' qq1 => ?_; try clear ru; subst qq1
        refine xE (occ_idx hi) fun rest hocc => ?_
        exact SC.index hocc ⟨_, _, _, rfl, .tok S _, _, rfl⟩
  all_goals exact absurd rfl hb
noncomputable def isS (s : List Nat) : Value -> Bool
  | .str x _ => x.cps.toList == s
  | _ => false
theorem RVs.erase {h : Heap} : ∀ {xs : List AV} {vs : List Value}, RVs B h σ xs vs -> ∀ n, RVs B h σ (xs.eraseIdx n) (vs.eraseIdx n)
  | [], [], _, _ => trivial
  | _ :: _, _ :: _, r, 0 => r.2
  | _ :: _, _ :: _, r, n + 1 => ⟨r.1, RVs.erase r.2 n⟩
theorem er_map {α β : Type} (f : α -> β) : ∀ (l : List α) n, (l.eraseIdx n).map f = (l.map f).eraseIdx n
  | [], _ => rfl
  | _ :: _, 0 => rfl
  | _ :: l, n + 1 => congrArg _ (er_map f l n)
theorem rvs_strs {h : Heap} : ∀ {ss : List (List Nat)} {vs : List Value}, RVs B h σ (ss.map AV.str) vs -> ∀ y ∈ vs, ∃ x t, y = .str ⟨x⟩ t
  | [], [], _, _, m => nomatch m
  | _ :: _, _ :: _, r, y, m => by
    rcases List.mem_cons.mp m with e | m
    . refine xE r.1 fun t e1 => ?_
      exact ⟨_, t, e.trans e1⟩
    . exact rvs_strs r.2 y m
theorem remL_is (h : remL xs v = some ss) : ∃ (zs : List (List Nat)) (s : List Nat), xs = zs.map AV.str /\ v = .str s /\ s ∈ zs /\ zs.length < sizeLim /\ ss = zs.erase s := by
  refine xEA (Option.bind_eq_some_iff.mp h) fun zs h1 h2 => ?_
  refine xEA (Option.bind_eq_some_iff.mp h2) fun s h3 h4 => ?_
  refine xA (iteN h4) fun h5 h6 => ?_
  exact ⟨zs, s, allOf_is strOf_is h1, strOf_is h3, h5.1, h5.2, (Option.some.inj h6).symm⟩
theorem remO_is (hb : remO h n r ≠ .bad) : ∃ ss, r = some ss /\ remO h n r = .ok .none (h.set n (.list (ss.map .str))) := by
  rcases r with _ | ss
  . exact absurd rfl hb
  . exact ⟨ss, rfl, rfl⟩
theorem bm_remove (ok : P.Ok) (ar : Arnd n q A) (S : St P.w P.B σ hp s.heap) (rv : RV P.B s.heap σ av v) (rvs : RVs P.B s.heap σ avs vs) (hb : bmAV .remove av avs hp ≠ .bad) :
    wpAny (model P.prog P.w) A (call (.builtin "list.remove") (v :: vs)) (QV P σ s (bmAV .remove av avs hp)) NE s := by
  rcases av with _ | _
  case loc j =>
    refine xEEA rv fun a off qq1 e1 => ?_; try clear rv; subst qq1
    rcases avs with _ | ⟨x, r⟩
    case nil => exact absurd rfl hb
    case cons =>
      rcases r with _ | ⟨_, _⟩
      case cons => exact absurd rfl hb
      case nil =>
        refine xEA rvs.one fun u qq1 ru => ?_; subst qq1
        refine xEA (remO_is (show remO hp j ((listAt hp j).bind fun xs => remL xs x) ≠ .bad from hb)) fun ss hss er => ?_
        rw [show bmAV .remove (.loc j) [x] hp = _ from er]
        refine xEA (Option.bind_eq_some_iff.mp hss) fun xs hx hr => ?_
        refine xEEAAAA (remL_is hr) fun zs w q1 q2 hm hsz q3 => ?_
        subst q1; subst q2; subst q3
        refine xE ru fun t q1 => ?_; subst q1
        refine xEEA (S.isL (listAt_is hx) e1) fun ws m hl r => ?_
        have hlen : zs.length = ws.size := by rw [<- r.size, List.length_map]
        have hi := List.idxOf_lt_length_of_mem hm
        have hat : ∀ i (hi : i < ws.size) , isS w ws[i] = (zs[i]'(hlen ▸ hi) == w) := fun i hi => by
          have h0 : (zs.map AV.str)[i]? = some (.str (zs[i]'(hlen ▸ hi))) := by rw [List.getElem?_map, List.getElem?_eq_getElem (hlen ▸ hi)]; rfl
          refine xEA (r.get h0) fun v h1 h2 => ?_
          refine xE h2 fun t' e => ?_
          have : ws[i] = v := by
            have h3 := List.getElem?_eq_some_iff.mp h1
            exact h3.2 ▸ rfl
          rw [this, e]; rfl
        have hs' : Heap.SameBut a s.heap (s.heap.update a (Obj.mapSeq fun xs => xs.eraseIdxIfInBounds (zs.idxOf w))) := .update ..
        refine xA (S.upd (X := []) e1 hs'.extBut (.list ((zs.erase w).map .str)) (IsL.update hl _) fun g =>
          ⟨ws.eraseIdxIfInBounds (zs.idxOf w), _, IsL.update hl _, by
            rw [Array.toList_eraseIdxIfInBounds, List.erase_eq_eraseIdx_of_idxOf rfl, er_map]
            exact (RVs.grows g _ _ r).erase _, by
            rw [List.length_map]; exact Nat.le_trans (List.length_erase_le) (sizeLim_le (Nat.le_of_lt hsz))⟩) fun S' g => ?_
        exact call_meets F.slot_list_remove ⟨_, hl, rfl⟩ F.entry_list_remove (F.args_list_remove_2 _ _)
          (MeetsSeq.list_remove a ws m (.str ⟨w.toArray⟩ t) (isS w) (fun y hy => by
            refine xEE (rvs_strs r y (by simpa using hy)) fun x t' e => ?_
            rw [e]
            exact SeqRoads2.EqGives.str ⟨x⟩ ⟨w.toArray⟩ t' t) (zs.idxOf w) (hlen ▸ hi) (by rw [hat, List.getElem_idxOf]; exact beq_self_eq_true _)
            (fun k hk hlt => by rw [hat]; exact List.not_of_lt_findIdx hlt) (hlen ▸ sizeLim_le (Nat.le_of_lt hsz))) ⟨hl, _, _, _, rfl, ⟨rfl, S', g⟩, rfl⟩
  all_goals exact absurd rfl hb
theorem bmT_append {s : Shared} (S : St P.w P.B σ hp s.heap) (rv : RV P.B s.heap σ av v) (h : bmOk .append av hp = true) : s.TypeIs v "list" /\ ∀ a, v = .ref a -> ∃ ob, s.heap.get? a = some ob /\ ob.dict = none := by
  rcases av with _ | _
  case loc j =>
    refine xEEA rv fun a off qq1 e1 => ?_; try clear rv; subst qq1
    refine xE (Option.isSome_iff_exists.mp h) fun xs hx => ?_
    refine xEEA (S.isL (listAt_is hx) e1) fun ws m hL _ => ?_
    exact ⟨⟨_, hL, rfl⟩, fun b e => by cases e; exact ⟨_, hL, rfl⟩⟩
  all_goals exact absurd h Bool.false_ne_true
theorem bmT_remove {s : Shared} (S : St P.w P.B σ hp s.heap) (rv : RV P.B s.heap σ av v) (h : bmOk .remove av hp = true) : s.TypeIs v "list" /\ ∀ a, v = .ref a -> ∃ ob, s.heap.get? a = some ob /\ ob.dict = none := by
  rcases av with _ | _
  case loc j => exact bmT_append S rv h
  all_goals exact absurd h Bool.false_ne_true
theorem bmT_get {s : Shared} (S : St P.w P.B σ hp s.heap) (rv : RV P.B s.heap σ av v) (h : bmOk .get av hp = true) : s.TypeIs v "dict" /\ ∀ a, v = .ref a -> ∃ ob, s.heap.get? a = some ob /\ ob.dict = none := by
  rcases av with _ | _
  case loc j =>
    refine xEEA rv fun a off qq1 e1 => ?_; try clear rv; subst qq1
    refine xE (Option.isSome_iff_exists.mp h) fun d hx => ?_
    refine xEA (S.isDict (dictAt_is hx) e1) fun es hL _ => ?_
    exact ⟨⟨_, hL, rfl⟩, fun b e => by cases e; exact ⟨_, hL, rfl⟩⟩
  all_goals exact absurd h Bool.false_ne_true
theorem bmT_pop {s : Shared} (S : St P.w P.B σ hp s.heap) (rv : RV P.B s.heap σ av v) (h : bmOk .pop av hp = true) : s.TypeIs v "dict" /\ ∀ a, v = .ref a -> ∃ ob, s.heap.get? a = some ob /\ ob.dict = none := by
  rcases av with _ | _
  case loc j => exact bmT_get S rv h
  all_goals exact absurd h Bool.false_ne_true
theorem bmT_index {s : Shared} (S : St P.w P.B σ hp s.heap) (rv : RV P.B s.heap σ av v) (h : bmOk .index av hp = true) : s.TypeIs v "str" /\ ∀ a, v = .ref a -> ∃ ob, s.heap.get? a = some ob /\ ob.dict = none := by
  rcases av with _ | _
  case str x => refine xE rv fun t qq1 => ?_; try clear rv; subst qq1; exact ⟨rfl, fun b e => nomatch e⟩
  all_goals exact absurd h Bool.false_ne_true
theorem sim_attr (ha : cx.attrs.contains a = true) (hns : notSuper o = true) (ho : SimE P cx o xo) : SimE P cx (.Attribute o a pos) (.attr a xo) := by
  intro c n env A σ loc hp s C I hb
  rw [x_attr] at hb |-
  have he : eval (.Attribute o a pos) env = (do
      let o' <- eval o env
      standAt pos.atName
      let r <- holding [o'] (getAttr o' a true)
      letTemporaryGo o o' r
      pure r) := by rw [arm_eval_Attribute, base_plain hns]
  refine Attribute_any_ (seqV (G := fun R v s₁ => wpAny (model P.prog P.w) A (getAttr v a true) (QV P σ s R) (QE P σ s R) s₁) (.refl I.st) (ho c n env A σ loc hp s C I (bind_ok hb)) hb ?_) he
  intro av hp₁ σ₁ v s₁ a₁ _ rv hb
  exact wpAny_mono (attr_prim C.ok a₁.st (C.attrs ▸ ha) rv hb) (fun _ _ q => q.lift a₁) (fun _ _ q => q)
theorem hasMeth_is (hb : hasMeth m v h = true) : ∃ j fs, v = .loc j /\ instAt h j = some fs /\ fs.lookup m = none := by
  rcases v with _ | _
  case loc j =>
    delta hasMeth at hb
    dsimp only at hb
    rcases hi : instAt h j with _ | fs
    case none => rw [hi] at hb; exact absurd hb Bool.false_ne_true
    case some => rw [hi] at hb; exact ⟨j, fs, rfl, hi, Option.isNone_iff_eq_none.mp hb⟩
  all_goals exact absurd hb Bool.false_ne_true
theorem sim_im (hf : cx.funs.contains m = true) (hm : cx.meths.contains m = true) (hns : notSuper o = true) (hc : compEs (compE k cx) es = some xs) (hl : es.length < 20) (hline : (ap.endLine == pos.line) = true) (ho : SimE P cx o xo) (hes : SimEs P cx es xs) :
    SimE P cx (.Call (.Attribute o m ap) es [] pos) (.im m xo xs) := by
  intro c n env A σ loc hp s C I hb
  rw [x_im] at hb |-
  rw [arm_eval_Call, base_plain hns]
  refine xEEEAAAA (C.f m hf) fun f of fd hfn hfo hfc hd hcall => ?_
  have hmN : P.mN m = some (.ref f) := by
    unfold Par.fn at hfn
    rw [<- C.meths, hm] at hfn
    exact hfn
  refine wpAny_bind (seqV (G := fun R v s₁ => wpAny (model P.prog P.w) A (standAt ap.atName >>= fun _ => methodCall o m ap pos env v (es.length + ([] : List Keyword).length) (backTo pos (starEach es env)) (backToKw pos (keywordEach [] env))) (QV P σ s R) (QE P σ s R) s₁) (.refl I.st) (ho c n env A σ loc hp s C I (bind_ok hb)) hb ?_)
  intro av hp₁ σ₁ v s₁ a₁ _ rv hb
  have hk := lim_if hb
  rw [if_pos hk] at hb |-
  refine xEEAA (hasMeth_is hk) fun j fs qq1 hi hno => ?_; subst qq1
  refine xEEA rv fun x off qq1 e1 => ?_; try clear rv; subst qq1
  refine xEA (instAt_is hi) fun q hj hq => ?_
  refine xEEA (inst_of a₁.st hj hq e1) fun mA off' e2 Ins => ?_
  refine xEEEEEEEEEEEE ((C.ok.cls.keeps a₁.st.base).obj) fun nm qq bs sn sub col dd k0 k1 k2 k3 k5 hC => ?_
  refine xE (C.ok.qm m (C.meths ▸ hm)) fun y hy => ?_
  refine wpAny_bind (wpAny_standAt ?_)
  have hform : methodCallForm (es.length + ([] : List Keyword).length) (backTo pos (starEach es env)) (backToKw pos (keywordEach [] env)) = true := few_es hc hl env pos
  have hpos : methodCallPos true o env ap pos = pure pos := by unfold methodCallPos; simp [hline]
  unfold methodCall
  rw [hform]
  refine wpAny_bind (wpAny_holding (method_of hC (C.ok.cls.keeps a₁.st.base).ns C.ok.q2 C.ok.q3 hmN (a₁.st.base _ _ hfo) (hfc (C.meths ▸ hm)) hy Ins.inst (Ins.ns.non m hno) ?_))
  refine wpAny_bind (wpAny_of_eq hpos ?_)
  refine Calls.callWith_function (o := of) (fd := fd) (evalArgs_es (plain_es hc env pos) (seqVs (G := fun R vs s₂ => (s₂.heap.get? f = some of /\ of.data = .func fd) /\ wpAny (model P.prog P.w) A (call (.ref f) ([Value.ref x] ++ vs) []) (QV P σ s R) (QE P σ s R) s₂) a₁ (hes c n env A σ₁ loc hp₁ s₁ pos C (I.after a₁) (bind_ok hb)) hb ?_))
  intro avs hp₂ σ₂ vs s₂ a₂ a₁₂ rvs hb
  refine ⟨⟨a₂.st.base _ _ hfo, hd⟩, ?_⟩
  exact wpAny_mono (hcall (.loc j :: avs) (.ref x :: vs) σ₂ hp₂ s₂ A a₂.st ⟨⟨x, off, rfl, a₁₂.gr.look e1⟩, rvs⟩ I.ar.toArndC (I.fs.after a₂.gr) hb) (fun _ _ q => q.lift a₂) (fun _ _ q => q.lift a₂)
end
end
section
open PySem PySem.Spec PyProof.Rows PySem.SeqAt
section
variable {P : Par} {cx : Cx}
theorem sim_dict0 {pos : Pos} : SimE P cx (.Dict [] [] pos) .dict0 := by
  intro c n env A σ loc hp s C I hb
  rw [x_dict0]
  refine wpAny_Dict_empty ?_
  refine xA (I.st.alloc (X := []) { cls := .type "dict", data := .dict #[] } 0 (.dict [] 0) fun g => ⟨#[], Heap.get?_push_size _ rfl, trivial, List.Pairwise.nil, (fun p hp => nomatch hp), Nat.zero_le _⟩) fun S' g => ?_
  refine ⟨_, _, _, rfl, ⟨rfl, S', g⟩, _, 0, rfl, ?_⟩
  rw [<- I.st.len]; exact List.getElem?_concat_length
theorem setD_is {j : Nat} {kvs : List (Key × AV)} {ep : Nat} {v : AV} {o : Option Key} {h' : AHeap} (h : setD hp j kvs ep v o = some h') : ∃ k, o = some k /\ sortOk kvs k = true /\ kvs.length < sizeLim /\ h' = hp.set j (.dict (dictPut kvs k v) (if (kvs.lookup k).isSome then ep else ep + 1)) := by
  rcases o with _ | k
  case none => exact none_ne h
  case some =>
    refine xA (iteN h) fun hs h => ?_
    rw [Bool.and_eq_true, decide_eq_true_eq] at hs
    exact ⟨_, rfl, hs.1, hs.2, (Option.some.inj h).symm⟩
theorem noExc_of {α : Type} {r : Res α} {f : α -> AHeap -> Res AV} (hb : r.noExc.bind f ≠ .bad) : ∃ x h, r = .ok x h /\ r.noExc.bind f = f x h := by
  rcases r with _ | _
  case ok x h => exact ⟨x, h, rfl, rfl⟩
  all_goals exact absurd rfl hb
theorem heapR_is (hb : heapR v o ≠ .bad) : ∃ h, o = some h /\ heapR v o = .ok v h := by
  rcases o with _ | h
  . exact absurd rfl hb
  . exact ⟨h, rfl, rfl⟩
theorem sim_dict1 {k v : Expr} {xk xv : X} {pos : Pos} (hk : SimE P cx k xk) (hv : SimE P cx v xv) : SimE P cx (.Dict [some k] [v] pos) (.dict1 xk xv) := by
  intro c n env A σ loc hp s C I hb
  rw [x_dict1] at hb |-
  refine xEEA (noExc_of hb) fun kv hp₁ hr er => ?_
  rw [er] at hb |-
  refine xEEA (noExc_of hb) fun vv hp₂ hr2 er2 => ?_
  rw [er2] at hb |-
  refine xEA (heapR_is hb) fun hp₃ hset er3 => ?_
  rw [show dict1AV hp.length kv vv hp₂ = _ from er3]
  refine xEA (Option.bind_eq_some_iff.mp hset) fun d hd hsd => ?_
  refine xEAAA (setD_is hsd) fun key hkey hso hsz e3 => ?_
  generalize hQ : QV P σ s (.ok (.loc hp.length) hp₃) = Q
  rw [arm_eval_Dict]
  have hshape : (evalEachOpt [some k] env).zip ((evalEach [v] env).map fun v => do let x <- v; standAt pos; pure x) = ([(eval k env, do let x <- eval v env; standAt pos; pure x)] : List (Sem Value × Sem Value)).map fun p => (some p.1, p.2) := rfl
  rw [hshape, dictDisplay_pairs _ (List.cons_ne_nil _ _) (by show 1 < 17; decide)]
  refine wpAny_bind (wpAny_standAt (wpAny_bind ?_))
  unfold subDict
  refine wpAny_bind (wpAny_alloc ?_)
  refine wpAny_bind (wpAny_holding ?_)
  rw [if_pos (by show 1 <= 15; decide)]
  refine xA (I.st.alloc (X := []) { cls := .type "dict", data := .dict #[] } 0 (.dict [] 0) fun g => ⟨#[], Heap.get?_push_size _ rfl, trivial, List.Pairwise.nil, (fun p hp => nomatch hp), Nat.zero_le _⟩) fun S' g => ?_
  have hsj : (σ ++ [(s.heap.objs.size, 0)])[hp.length]? = some (s.heap.objs.size, 0) := by rw [<- I.st.len]; exact List.getElem?_concat_length
  have a₀ : After P σ (σ ++ [(s.heap.objs.size, 0)]) [] (hp ++ [.dict [] 0]) s { s with heap := s.heap.push { cls := .type "dict", data := .dict #[] } } := ⟨rfl, S', g⟩
  clear S' g
  generalize s.heap.objs.size = D at hsj a₀ |-
  have hk' := hk c n env A (σ ++ [(D, 0)]) loc (hp ++ [.dict [] 0]) _ C (I.after a₀) (by rw [hr]; exact fun e => nomatch e)
  rw [hr] at hk'
  refine wpAny_bind (wpAny_bind (wpAny_mono hk' (fun u s₁ q => ?_) (fun _ _ q => by obtain ⟨_, _, _, _, e, _⟩ := q; exact nomatch e)))
  obtain ⟨_, _, σ₁, e, a₀₁, ru⟩ := q
  cases e
  have a₁ := a₀.trans a₀₁
  have hv' := hv c n env A σ₁ loc hp₁ s₁ C (I.after a₁) (by rw [hr2]; exact fun e => nomatch e)
  rw [hr2] at hv'
  refine wpAny_bind (wpAny_holding (wpAny_bind (wpAny_mono hv' (fun w s₂ q => ?_) (fun _ _ q => by obtain ⟨_, _, _, _, e, _⟩ := q; exact nomatch e))))
  obtain ⟨_, _, σ₂, e, a₁₂, rw'⟩ := q
  cases e
  have a₂ := a₁.trans a₁₂
  refine wpAny_bind (wpAny_standAt (wpAny_pure (wpAny_bind (wpAny_holding (wpAny_pure (wpAny_pure ?_))))))
  refine wpAny_holding ?_
  rw [List.forIn_cons]
  have ru2 : RV P.B s₂.heap σ₂ key.av u := by rw [<- key_av hkey]; exact RV.grows a₁₂.gr _ _ ru
  have hs2 := a₁₂.gr.look (a₀₁.gr.look hsj)
  refine wpAny_bind (wpAny_bind (wpAny_bind (dictSet_prim (A := A) a₂.st (dictAt_is hd) hs2 ru2 hso (by have := I.ar.units; lia) hsz rw' fun s₃ a₃ => ?_)))
  refine wpAny_pure ?_
  dsimp only
  rw [List.forIn_nil]
  refine wpAny_pure (wpAny_pure (wpAny_pure (wpAny_pure ?_)))
  rw [<- hQ, e3]
  exact ⟨_, _, _, rfl, a₂.trans a₃, D, 0, rfl, hs2⟩
theorem keysAV_is (hb : keysAV v h ≠ .bad) : ∃ j d, v = .loc j /\ dictAt h j = some d /\ keysAV v h = .ok (.dit j d.1.length d.2) h := by
  rcases v with _ | _
  case loc j =>
    refine xEA (okO_eq (show okO ((dictAt h j).map fun d => AV.dit j d.1.length d.2) h ≠ .bad from hb)) fun z hz e => ?_
    refine xEA (Option.map_eq_some_iff.mp hz) fun d hd e2 => ?_
    subst e2
    exact ⟨j, d, rfl, hd, e⟩
  all_goals exact absurd rfl hb
theorem sim_keys {e : Expr} {x : X} (he : SimE P cx e x) : SimE P cx e (.keys x) := by
  intro c n env A σ loc hp s C I hb
  rw [x_keys] at hb |-
  refine seqV (G := fun R v s' => QV P σ s R v s') (.refl I.st) (he c n env A σ loc hp s C I (bind_ok hb)) hb ?_
  intro av hp₁ σ₁ v s₁ a₁ _ rv hb
  refine xEEAA (keysAV_is hb) fun j d q1 hd er => ?_
  subst q1
  rw [er]
  exact ⟨_, _, _, rfl, a₁, rv⟩
end
end
section
open PySem PySem.Spec PyProof.Rows PySem.SeqAt
noncomputable def FX (env : Env) : List Addr := env.locals :: env.cells.map (·.2)
noncomputable def RF (B : Bs) (h : Heap) (σ : Sg) : Flow -> PySem.Flow -> Prop
  | .next, f => f = .next
  | .ret av, f => ∃ v, f = .ret v /\ RV B h σ av v
  | .cont, f => f = .cont
inductive QS (P : Par) (env : Env) (cx : Cx) (σ : Sg) (s : Shared) (r : SR) (f : PySem.Flow) (s' : Shared) : Prop
  | mk (fl : Flow) (l' : Locs) (hp' : AHeap) (σ' : Sg) (e : r = .ok fl l' hp') (a : After P σ σ' (FX env) hp' s s') (rf : RF P.B s'.heap σ' fl f) (fr : Frm P s'.heap σ' env cx l')
inductive QES (P : Par) (env : Env) (cx : Cx) (σ : Sg) (s : Shared) (r : SR) (v : Value) (s' : Shared) : Prop
  | mk (k : Str) (l' : Locs) (hp' : AHeap) (σ' : Sg) (e : Addr) (er : r = .exc k l' hp') (ev : v = .ref e) (a : After P σ σ' (FX env) hp' s s') (f : Fly P σ' s.heap k e s'.heap) (fr : Frm P s'.heap σ' env cx l')
section
variable {P : Par} {cx : Cx} {env : Env} {A : Around} {E : Value -> Shared -> Prop} {σ : Sg} {l : Locs} {hp : AHeap} {s : Shared}
theorem Frm.nsObj (f : Frm P s.heap σ env cx l) : ∃ o es ep, s.heap.get? env.locals = some o /\ o.data = .dict es ep := by
  refine xEA f.names fun m qq1 _ => ?_; refine xEEEAA qq1 fun o es ep ho hd _ => ?_
  exact ⟨o, es, ep, ho, hd⟩
theorem Frm.cell_ne (f : Frm P s.heap σ env cx l) (hp : p ∈ env.cells) : p.2 ≠ env.locals := fun e => by
  refine xEEA (f.cells p hp) fun o v ho hd => ?_
  refine xEEEA f.nsObj fun o' es ep ho' hd' => ?_
  rw [e, ho'] at ho
  cases ho
  rw [hd'] at hd
  cases hd
theorem slot_len (f : Frm P s.heap σ env cx l) (hx : cx.slot x = some i) : i < l.length := by rw [f.len]; exact f.lt x i hx
theorem slotW_slot (h : cx.slotW x = some i) : cx.slot x = some i := by
  unfold Cx.slotW at h
  rcases hq : cx.sc.names.lookup x with _ | k <;> rw [hq] at h
  case none => exact none_ne h
  case some => cases k <;> first | exact h | exact none_ne h
theorem store_in {X : List Addr} (S : St P.w P.B σ hp s.heap) (f : Frm P s.heap σ env cx l) (hw : cx.slotW x = some i) (rv : RV P.B s.heap σ av v) (hL : env.kindOf x = some .local -> env.locals ∈ X) (hC : env.kindOf x ≠ some .local -> ∀ p ∈ env.cells, p.2 ∈ X)
    (h : ∀ s', After P σ σ X hp s s' -> Frm P s'.heap σ env cx (l.set i (some av)) -> RV P.B s'.heap σ av v -> Q () s') : wpAny (model P.prog P.w) A (storeName env x v) Q E s := by
  refine xEA f.names fun m hn hm => ?_
  have hx := slotW_slot hw
  have hfree := f.wr x i hw
  have hil := slot_len f hx
  have hget : ∀ y j, cx.slot y = some j -> y ≠ x -> (l.set i (some av))[j]? = l[j]? := fun y j hy hne => by
    rw [List.getElem?_set_ne]
    intro e; subst e; exact hne (f.inj y x i hy hx)
  rcases hm x i hx with ⟨hk, _⟩ | ⟨hk, c, ov, hc, hi, _⟩
  . refine wpAny_storeName_local hk hn (fun h' hn' hs => ?_) (by rw [f.kind]; rfl)
    refine xEEEA f.nsObj fun o es ep ho hd => ?_
    refine xEEEA (id hn') fun o₁ _ _ ho₁ _ => ?_
    refine xA (S.sameBut (X := X) hs (fun o' ho' => by rw [ho] at ho'; cases ho'; unfold fixed; rw [hd]; simp) f.out.1 f.new.1 (hL hk) ho₁) fun S' g => ?_
    have hcell : ∀ p ∈ env.cells, h'.get? p.2 = s.heap.get? p.2 := fun p hp => hs.2 p.2 (f.cell_ne hp)
    refine h { s with heap := h', toks := s.toks + 1 } ⟨rfl, S', g⟩ ⟨f.kind, by rw [List.length_set]; exact f.len, f.inj, f.lt, f.glob, f.wr, ⟨_, hn', fun y j hy => ?_⟩, f.out, f.new, f.globals, f.builtins, fun p hp => ?_, f.apart, f.kinds⟩ (RV.grows g _ _ rv)
    . by_cases hyx : y = x
      . subst hyx
        rw [hx] at hy; cases hy
        refine .inl ⟨hk, fun av' e => ?_⟩
        rw [List.getElem?_set_self hil] at e
        cases e
        exact ⟨v, by simp, RV.grows g _ _ rv⟩
      . rw [hget y j hy hyx]
        rcases hm y j hy with ⟨hk', hv⟩ | ⟨hk', c, ov, hc, hi, hv⟩
        . exact .inl ⟨hk', fun av' e => (hv av' e).imp fun _ q => ⟨by rw [if_neg hyx]; exact q.1, RV.grows g _ _ q.2⟩⟩
        . refine xEA hi fun oc hoc hdc => ?_
          exact .inr ⟨hk', c, ov, hc, ⟨oc, (hcell (y, c) (mem_of_lookup' hc)).trans hoc, hdc⟩, fun av' e => (hv av' e).imp fun _ q => ⟨q.1, RV.grows g _ _ q.2⟩⟩
    . refine xEEA (f.cells p hp) fun oc vc hoc hdc => ?_
      exact ⟨oc, vc, (hcell p hp).trans hoc, hdc⟩
  . rcases hk with hk | hk
    . refine wpAny_storeName_cell f.kind hk hc hi fun h' hi' hs => ?_
      have hmem := mem_of_lookup' hc
      refine xEA hi fun oc hoc hdc => ?_
      refine xEA (id hi') fun o₁ ho₁ _ => ?_
      refine xA (S.sameBut (X := X) hs (fun o' ho' => by rw [hoc] at ho'; cases ho'; unfold fixed; rw [hdc]; simp) (f.out.2 _ hmem) (f.new.2 _ hmem) (hC (fun q => by rw [hk] at q; cases q) _ hmem) ho₁) fun S' g => ?_
      have hloc : h'.get? env.locals = s.heap.get? env.locals := hs.2 _ (Ne.symm (f.cell_ne hmem))
      refine xEEEAA hn fun o es ep ho hd hrest => ?_
      refine h { s with heap := h' } ⟨rfl, S', g⟩ ⟨f.kind, by rw [List.length_set]; exact f.len, f.inj, f.lt, f.glob, f.wr, ⟨m, ⟨o, es, ep, hloc.trans ho, hd, hrest⟩, fun y j hy => ?_⟩, f.out, f.new, f.globals, f.builtins, fun p hp => ?_, f.apart, f.kinds⟩ (RV.grows g _ _ rv)
      . by_cases hyx : y = x
        . subst hyx
          rw [hx] at hy; cases hy
          refine .inr ⟨.inl hk, c, some v, hc, hi', fun av' e => ?_⟩
          rw [List.getElem?_set_self hil] at e
          cases e
          exact ⟨v, rfl, RV.grows g _ _ rv⟩
        . rw [hget y j hy hyx]
          rcases hm y j hy with ⟨hk', hv⟩ | ⟨hk', c', ov', hc', hi₂, hv⟩
          . exact .inl ⟨hk', fun av' e => (hv av' e).imp fun _ q => ⟨q.1, RV.grows g _ _ q.2⟩⟩
          . have hne : c' ≠ c := fun e => hyx (f.apart (y, c') (mem_of_lookup' hc') (x, c) hmem e)
            refine xEA hi₂ fun oc' hoc' hdc' => ?_
            exact .inr ⟨hk', c', ov', hc', ⟨oc', (hs.2 c' hne).trans hoc', hdc'⟩, fun av' e => (hv av' e).imp fun _ q => ⟨q.1, RV.grows g _ _ q.2⟩⟩
      . by_cases e : p.2 = c
        . refine xEA hi' fun o' ho' hd' => ?_
          exact ⟨o', _, e ▸ ho', hd'⟩
        . refine xEEA (f.cells p hp) fun oc' vc hoc' hdc' => ?_
          exact ⟨oc', vc, (hs.2 p.2 e).trans hoc', hdc'⟩
    . exact absurd hk hfree
theorem store_prim (S : St P.w P.B σ hp s.heap) (f : Frm P s.heap σ env cx l) (hw : cx.slotW x = some i) (rv : RV P.B s.heap σ av v)
    (h : ∀ s', After P σ σ (FX env) hp s s' -> Frm P s'.heap σ env cx (l.set i (some av)) -> RV P.B s'.heap σ av v -> Q () s') : wpAny (model P.prog P.w) A (storeName env x v) Q E s :=
  store_in S f hw rv (fun _ => List.mem_cons_self) (fun _ p hp => List.mem_cons_of_mem _ (List.mem_map_of_mem hp)) h
end
end
section
open PySem PySem.Spec PyProof.Rows PySem.SeqAt
inductive QT (P : Par) (σ : Sg) (s : Shared) (r : Res AV) (b : Bool) (s' : Shared) : Prop
  | mk (hp' : AHeap) (σ' : Sg) (e : r = .ok (.bool b) hp') (a : After P σ σ' [] hp' s s')
noncomputable def BoolR (r : Res AV) : Prop := ∀ av h, r = .ok av h -> ∃ b, av = .bool b
noncomputable def SimT (P : Par) (cx : Cx) (e : Expr) (x : X) : Prop :=
  ∀ c n env A σ l hp s, Sims P cx c n -> Inv P cx n c.q env A σ l hp s -> evalX c x l hp ≠ .bad -> BoolR (evalX c x l hp) ->
    wpAny (model P.prog P.w) A (isTrue e env (eval e env)) (QT P σ s (evalX c x l hp)) (QE P σ s (evalX c x l hp)) s
noncomputable def SimTs (P : Par) (cx : Cx) (op : BoolOp) (es : List Expr) (x : X) : Prop :=
  ∀ c n env A σ l hp s, Sims P cx c n -> Inv P cx n c.q env A σ l hp s -> evalX c x l hp ≠ .bad -> BoolR (evalX c x l hp) ->
    wpAny (model P.prog P.w) A (allTrue op es env) (QT P σ s (evalX c x l hp)) (QE P σ s (evalX c x l hp)) s
section
variable {P : Par} {cx : Cx}
theorem QT.lift (a : After P σ σ' [] hp' s s') (q : QT P σ' s' r v s'') : QT P σ s r v s'' := by
  obtain ⟨hp, σ₂, e, b⟩ := q
  exact ⟨hp, σ₂, e, a.trans b⟩
theorem simT_val (hv : ∀ env whole, isTrue e env whole = (do let v <- whole; standAt e.pos; holding [v] (truthy v))) (h : SimE P cx e x) : SimT P cx e x := by
  intro c n env A σ l hp s C I hb hr
  refine wpAny_isTrue_value (wpAny_mono (h c n env A σ l hp s C I hb) (fun v s' ⟨av, hp', σ', e, a, rv⟩ => ?_) fun _ _ q => q) (hv env _)
  refine xE (hr av hp' e) fun b qq1 => ?_; subst qq1
  rcases (show v = .bool b from rv) with rfl
  exact wpAny_truthy_bool ⟨hp', σ', e, a⟩
theorem simT_not (hx : SimT P cx x xx) : SimT P cx (.UnaryOp .Not x pos) (.not xx) := by
  intro c n env A σ loc hp s C I hb hr
  rw [x_not] at hb hr |-
  have hbr : BoolR (evalX c xx loc hp) := fun av h e => by
    rw [e, bok] at hb
    exact notAV_is hb
  refine wpAny_isTrue_Not (wpAny_mono (hx c n env A σ loc hp s C I (bind_ok hb) hbr) (fun b s' ⟨hp', σ', e, a⟩ => ?_) fun _ _ q => q.bind)
  rw [e]
  exact ⟨hp', σ', rfl, a⟩
theorem simT_boolop (h : SimTs P cx op es x) : SimT P cx (.BoolOp op es pos) x := by
  intro c n env A σ loc hp s C I hb hr
  exact wpAny_isTrue_BoolOp (h c n env A σ loc hp s C I hb hr)
theorem simTs_one (h : SimT P cx e x) : SimTs P cx op [e] x := by
  intro c n env A σ loc hp s C I hb hr
  have hh := h c n env A σ loc hp s C I hb hr
  rcases op with _ | _
  case And =>
    refine wpAny_allTrue_And_cons (wpAny_mono hh (fun b s' q => ?_) fun _ _ q => q)
    rcases b with _ | _
    case true => rw [if_pos rfl]; exact wpAny_allTrue_And_nil q
    case false => exact q
  case Or =>
    refine wpAny_allTrue_Or_cons (wpAny_mono hh (fun b s' q => ?_) fun _ _ q => q)
    rcases b with _ | _
    case true => exact q
    case false => exact wpAny_allTrue_Or_nil q
theorem simTs_and (h : SimT P cx e x) (hr : SimTs P cx .And es y) : SimTs P cx .And (e :: es) (.and x y) := by
  intro c n env A σ loc hp s C I hb hbr
  rw [x_and] at hb hbr |-
  have hb1 : BoolR (evalX c x loc hp) := fun av h e => by
    rw [e, bok] at hb
    exact condV_is hb
  refine wpAny_allTrue_And_cons (wpAny_mono (h c n env A σ loc hp s C I (bind_ok hb) hb1) (fun b s' ⟨hp', σ', e, a⟩ => ?_) fun _ _ q => q.bind)
  rw [e] at hb hbr |-
  rcases b with _ | _
  case true =>
    rw [if_pos rfl]
    exact wpAny_mono (hr c n env A σ' loc hp' s' C (I.after a) hb hbr) (fun _ _ q => q.lift a) (fun _ _ q => q.lift a)
  case false => exact ⟨hp', σ', rfl, a⟩
theorem simTs_or (h : SimT P cx e x) (hr : SimTs P cx .Or es y) : SimTs P cx .Or (e :: es) (.or x y) := by
  intro c n env A σ loc hp s C I hb hbr
  rw [x_or] at hb hbr |-
  have hb1 : BoolR (evalX c x loc hp) := fun av h e => by
    rw [e, bok] at hb
    exact condV_is hb
  refine wpAny_allTrue_Or_cons (wpAny_mono (h c n env A σ loc hp s C I (bind_ok hb) hb1) (fun b s' ⟨hp', σ', e, a⟩ => ?_) fun _ _ q => q.bind)
  rw [e] at hb hbr |-
  rcases b with _ | _
  case false =>
    exact wpAny_mono (hr c n env A σ' loc hp' s' C (I.after a) hb hbr) (fun _ _ q => q.lift a) (fun _ _ q => q.lift a)
  case true => exact ⟨hp', σ', rfl, a⟩
theorem simT_cmp (hop : compCOp op = some cop) (hm : behindInMarks op r = false) (hl : SimE P cx l xl) (hr : SimE P cx r xr) : SimT P cx (.Compare l [op] [r] pos) (.cmp cop xl xr) := by
  intro c n env A σ loc hp s C I hb hbr
  rw [x_cmp] at hb hbr |-
  refine wpAny_isTrue_Compare1 (seqV (G := fun R a s₁ => wpAny (model P.prog P.w) A (eval r env) (fun b s₂ => wpAny (model P.prog P.w) A (compareOp op a b) (fun c s₃ => wpAny (model P.prog P.w) A (truthy c) (QT P σ s R) (QE P σ s R) s₃) (QE P σ s R) s₂) (QE P σ s R) s₁) (.refl I.st) (hl c n env A σ loc hp s C I (bind_ok hb)) hb ?_) hm
  intro av hp₁ σ₁ v s₁ a₁ _ rv hb
  refine seqV (G := fun R b s₂ => wpAny (model P.prog P.w) A (compareOp op v b) (fun c s₃ => wpAny (model P.prog P.w) A (truthy c) (QT P σ s R) (QE P σ s R) s₃) (QE P σ s R) s₂) a₁ (hr c n env A σ₁ loc hp₁ s₁ C (I.after a₁) (bind_ok hb)) hb ?_
  intro bv hp₂ σ₂ u s₂ a₂ a₁₂ ru hb
  refine xE (boolO_is hb) fun k hc => ?_
  rw [hc]
  refine wpAny_mono (cmp_prim C.ok a₂.st I.ar hop (RV.grows a₁₂.gr _ _ rv) ru hc) (fun w s₃ q => ?_) (fun _ _ q => q)
  obtain ⟨b, rfl, e, a₃⟩ := q
  cases e
  exact wpAny_truthy_bool ⟨_, _, rfl, a₂.trans a₃⟩
theorem simT_isn (hop : isnOf op = some b) (hr : isNone r = true) (hl : SimE P cx l xl) : SimT P cx (.Compare l [op] [r] pos) (.isn b xl) := by
  intro c n env A σ loc hp s C I hb hbr
  obtain ⟨k, q, rfl⟩ : ∃ k q, r = .Constant .none k q := by
    rcases r with _ | _
    case Constant v k q => rcases v with _ | _ <;> first | exact ⟨_, _, rfl⟩ | exact absurd hr Bool.false_ne_true
    all_goals exact absurd hr Bool.false_ne_true
  rw [x_isn] at hb hbr |-
  refine wpAny_isTrue_Compare1 (seqV (G := fun R a s₁ => wpAny (model P.prog P.w) A (eval (.Constant .none k q) env) (fun b s₂ => wpAny (model P.prog P.w) A (compareOp op a b) (fun c s₃ => wpAny (model P.prog P.w) A (truthy c) (QT P σ s R) (QE P σ s R) s₃) (QE P σ s R) s₂) (QE P σ s R) s₁) (.refl I.st) (hl c n env A σ loc hp s C I (bind_ok hb)) hb ?_) rfl
  intro av hp₁ σ₁ v s₁ a₁ _ rv hb
  refine wpAny_Constant_none ?_
  rcases op with _ | _ <;> (try exact none_ne hop) <;> cases hop
  . refine is_none (wpAny_truthy_bool ?_)
    rw [is_none_iff rv, show (isNoneAV av == true) = isNoneAV av by rcases isNoneAV av with _ | _ <;> rfl]
    exact ⟨_, _, rfl, a₁⟩
  . refine isNot_none (wpAny_truthy_bool ?_)
    rw [is_none_iff rv, show (isNoneAV av == false) = !isNoneAV av by rcases isNoneAV av with _ | _ <;> rfl]
    exact ⟨_, _, rfl, a₁⟩
theorem tc2 : testChain pos v [o1, o2] [a, b] = (do
    let rv <- holding [v] a
    standAt pos
    let c <- holding [v, rv] (compareOp o1 v rv)
    release [v, rv] [c]
    if <- holding [c, rv] (truthy c) then testChain pos rv [o2] [b] else pure false) := rfl
theorem tc1 : testChain pos v [o] [a] = (do
    let rv <- holding [v] a
    standAt pos
    let c <- operate [v, rv] (compareOp o v rv)
    holding [c] (truthy c)) := rfl
theorem simT_cmp2 (h1 : compCOp o1 = some c1) (h2 : compCOp o2 = some c2) (hm : behindInMarks o2 r = false) (hl : SimE P cx l xl) (hmm : SimE P cx m xm) (hr : SimE P cx r xr) :
    SimT P cx (.Compare l [o1, o2] [m, r] pos) (.cmp2 c1 c2 xl xm xr) := by
  intro c n env A σ loc hp s C I hb hbr
  rw [x_cmp2] at hb hbr |-
  show wpAny _ _ (eval l env >>= fun a => testChain pos a [o1, o2] (markedEach [o1, o2] [m, r] (evalEach [m, r] env))) _ _ _
  have hmark : markedEach [o1, o2] [m, r] (evalEach [m, r] env) = [eval m env, eval r env] := by
    show [eval m env, markedBehindIn o2 r (eval r env)] = _
    rw [markedBehindIn_of_false hm]
  rw [hmark]
  refine wpAny_bind (seqV (G := fun R a s₁ => wpAny (model P.prog P.w) A (testChain pos a [o1, o2] [eval m env, eval r env]) (QT P σ s R) (QE P σ s R) s₁) (.refl I.st) (hl c n env A σ loc hp s C I (bind_ok hb)) hb ?_)
  intro av hp₁ σ₁ v s₁ a₁ _ rv hb
  have I₁ := I.after a₁
  rw [tc2]
  . refine wpAny_bind (wpAny_holding (seqV (G := fun R b s₂ => wpAny (model P.prog P.w) A (standAt pos >>= fun _ => holding [v, b] (compareOp o1 v b) >>= fun cc => release [v, b] [cc] >>= fun _ => holding [cc, b] (truthy cc) >>= fun t => if t = true then testChain pos b [o2] [eval r env] else pure false) (QT P σ s R) (QE P σ s R) s₂) a₁ (hmm c n env A σ₁ loc hp₁ s₁ C I₁ (bind_ok hb)) hb ?_))
    intro bv hp₂ σ₂ u s₂ a₂ a₁₂ ru hb
    have I₂ := I.after a₂
    refine xE (cmpAnd_is hb) fun k hc => ?_
    rw [hc] at hb |-
    refine wpAny_bind (wpAny_standAt (wpAny_bind (wpAny_holding (wpAny_mono (cmp_prim C.ok a₂.st I.ar h1 (RV.grows a₁₂.gr _ _ rv) ru hc) (fun w s₃ q => ?_) (fun _ _ q => q)))))
    obtain ⟨b, rfl, e, a₃⟩ := q
    cases e
    refine wpAny_bind (wpAny_release (wpAny_bind (wpAny_holding (wpAny_truthy_bool ?_))))
    rcases k with _ | _
    case false => exact wpAny_pure ⟨_, _, rfl, a₂.trans a₃⟩
    case true =>
      rw [if_pos rfl]
      have I₃ := I₂.after a₃
      rw [tc1]
      refine wpAny_bind (wpAny_holding (seqV (G := fun R z s₄ => wpAny (model P.prog P.w) A (standAt pos >>= fun _ => operate [u, z] (compareOp o2 u z) >>= fun cc => holding [cc] (truthy cc)) (QT P σ s R) (QE P σ s R) s₄) (f := fun z h => boolO (cmpAV h c2 bv z) h) (a₂.trans a₃) (hr c n env A σ₂ loc hp₂ s₃ C I₃ (bind_ok hb)) hb ?_))
      intro zv hp₄ σ₄ z s₄ a₄ a₃₄ rz hb
      refine xE (boolO_is hb) fun k2 hc2 => ?_
      rw [hc2]
      refine wpAny_bind (wpAny_standAt (wpAny_bind (wpAny_operating (wpAny_mono (cmp_prim C.ok a₄.st I.ar h2 (RV.grows a₃₄.gr _ _ (RV.grows a₃.gr _ _ ru)) rz hc2) (fun w s₅ q => ?_) (fun _ _ q => q)))))
      obtain ⟨b, rfl, e, a₅⟩ := q
      cases e
      exact wpAny_holding (wpAny_truthy_bool ⟨_, _, rfl, a₄.trans a₅⟩)
end
end
section
open PySem PySem.Spec PyProof.Rows
structure FlyT (P : Par) (σ : Sg) (h₀ : Heap) (k : Str) (e : Addr) (h : Heap) : Prop where
  obj : ∃ oe vs C T oT ts fl, h.get? e = some oe /\ P.mg k = some (.ref C) /\ oe.cls = .ref C /\ oe.data = .fields vs /\ vs[1]? = some (.ref T) /\ T ≠ e /\ h.get? T = some oT /\ oT.cls = .type "traceback" /\ oT.data = .fields ts /\ ts[3]? = some fl /\ h₀.get? T = none /\ T ∉ σ.map (·.1)
  new : h₀.get? e = none
  out : e ∉ σ.map (·.1)
theorem FlyT.fly (f : FlyT P σ h₀ k e h) : Fly P σ h₀ k e h := by
  refine xEEEEEEEAAAA f.obj fun oe vs C T oT ts fl h1 h2 h3 h4 h5 => ?_
  exact ⟨⟨oe, vs, C, h1, h2, h3, h4, .inr ⟨T, oT, ts, fl, h5⟩⟩, f.new, f.out⟩
structure Tch (σ : Sg) (h₀ : Heap) (Fs D : List Addr) (h h' : Heap) : Prop where
  new : ∀ d ∈ D, h₀.get? d = none /\ d ∉ σ.map (·.1) /\ ∀ o, h.get? d = some o -> ∃ vs, o.data = .fields vs /\ o.cls ≠ .type "range"
  keep : ∀ b o, b ∉ D -> h.get? b = some o -> (b ∉ Fs -> h'.get? b = some o) /\ ∃ sl, h'.get? b = some { o with slots := sl }
  ex : ∀ d ∈ D, ∀ o, h.get? d = some o -> ∃ o', h'.get? d = some o'
theorem Tch.trans (x : Tch σ h₀ Fs D h h₁) (y : Tch σ h₀ Fs D' h₁ h₂) : Tch σ h₀ Fs (D ++ D') h h₂ := by
  refine ⟨fun d hd => ?_, fun b o hb ho => ?_, fun d hd o ho => ?_⟩
  . rcases List.mem_append.mp hd with h1 | h1
    . exact x.new d h1
    . refine xAA (y.new d h1) fun a b c => ?_
      refine ⟨a, b, fun o ho => ?_⟩
      by_cases hD : d ∈ D
      . exact (x.new d hD).2.2 o ho
      . refine xAE (x.keep d o hD ho) fun _ sl e => ?_
        refine xEA (c _ e) fun vs q1 q2 => ?_
        exact ⟨vs, q1, q2⟩
  . rw [List.mem_append, not_or] at hb
    refine xAE (x.keep b o hb.1 ho) fun k1 sl e1 => ?_
    refine xAE (y.keep b _ hb.2 e1) fun k2 sl2 e2 => ?_
    refine ⟨fun hF => ?_, sl2, e2⟩
    have := k1 hF
    exact (y.keep b o hb.2 this).1 hF
  . by_cases hD : d ∈ D
    . refine xE (x.ex d hD o ho) fun o1 e1 => ?_
      by_cases hD' : d ∈ D'
      . exact y.ex d hD' o1 e1
      . refine xAE (y.keep d o1 hD' e1) fun _ sl e2 => ?_; exact ⟨_, e2⟩
    . refine xAE (x.keep d o hD ho) fun _ sl e1 => ?_
      by_cases hD' : d ∈ D'
      . exact y.ex d hD' _ e1
      . refine xAE (y.keep d _ hD' e1) fun _ sl e2 => ?_; exact ⟨_, e2⟩
section
variable {P : Par} {A : Around} {E : Value -> Shared -> Prop} {s s₀ : Shared} {σ σ' : Sg} {hp' : AHeap} {X : List Addr} {h' : Heap} {Fs D : List Addr}
noncomputable def places (l : List Env) : List Addr := l.filterMap (·.frame)
theorem Frs.fun (F : Frs P h σ A) (hl : A.frames = some l) : h.FunFrames P.B.h₀ l := by
  have : ∀ l' : List Env, (∀ f ∈ l', f ∈ l) -> h.FunFrames P.B.h₀ l' := by
    intro l'
    induction l' with
    | nil => intro _; trivial
    | cons f r ih =>
      intro hs
      refine xAEEEEAAAA (F l hl f (hs f (List.mem_cons_self ..))) fun hk L o es ep h1 h2 h3 h4 h5 => ?_
      exact ⟨hk, ⟨L, o, h1, h2, h3, fun vs q => by rw [h4] at q; cases q⟩, ih fun g hg => hs g (List.mem_cons_of_mem _ hg)⟩
  exact this l fun _ h => h
theorem Frs.place (F : Frs P h σ A) (hl : A.frames = some l) (hb : b ∈ places l) : P.B.h₀.get? b = none /\ b ∉ σ.map (·.1) /\ ∃ o es ep, h.get? b = some o /\ o.data = .dict es ep := by
  refine xEA (List.mem_filterMap.mp hb) fun f hf e => ?_
  refine xAEEEEAAAA (F l hl f hf) fun hk L o es ep h1 h2 h3 h4 h5 => ?_
  rw [h1] at e; cases e
  exact ⟨h2, h5, o, es, ep, h3, h4⟩
theorem Tch.fixes (t : Tch σ s₀.heap Fs D s.heap h') (hF : ∀ b ∈ Fs, ∃ o es ep, s.heap.get? b = some o /\ o.data = .dict es ep) : Fixes s.heap h' := fun b o ho hf => by
  have hD : b ∉ D := fun hd => by
    refine xEA ((t.new b hd).2.2 o ho) fun vs h1 h2 => ?_
    unfold fixed at hf; rw [h1] at hf; exact h2 hf
  refine (t.keep b o hD ho).1 fun hb => ?_
  refine xEEEA (hF b hb) fun o' es ep e hd => ?_
  rw [ho] at e; cases e
  unfold fixed at hf; rw [hd] at hf; exact hf
theorem After.touch (a : After P σ σ' X hp' s₀ s) (hB : P.B.h₀.StaysIn s₀.heap) (t : Tch σ' s₀.heap Fs D s.heap h') (hF : ∀ b ∈ Fs, P.B.h₀.get? b = none /\ b ∉ σ'.map (·.1) /\ ∃ o es ep, s.heap.get? b = some o /\ o.data = .dict es ep) : After P σ σ' X hp' s₀ { s with heap := h' } := by
  have fx := t.fixes fun b hb => (hF b hb).2.2
  have oldS : ∀ p ∈ σ', h'.get? p.1 = s.heap.get? p.1 := fun p hp => by
    refine xEA (a.st.there hp) fun ob e _ => ?_
    have hm := List.mem_map_of_mem (f := (·.1)) hp
    rw [e]
    exact (t.keep p.1 ob (fun hd => (t.new _ hd).2.1 hm) e).1 fun hb => (hF _ hb).2.1 hm
  refine ⟨by rw [a.ctl], ⟨a.st.len, a.st.nd, fun n b off o e1 e2 => (a.st.obj n b off o e1 e2).fixes fx (oldS (b, off) (List.mem_of_getElem? e1)), fun b o e => ?_, a.st.new⟩, ?_⟩
  . have ho := a.st.base b o e
    refine (t.keep b o (fun hd => ?_) ho).1 fun hb => ?_
    . have := hB b o e
      rw [(t.new b hd).1] at this; cases this
    . rw [(hF b hb).1] at e; cases e
  . refine ⟨a.gr.ext, fun b o e f => fx b o (a.gr.fix b o e f) f, fun b o e h1 h2 => ?_, fun b o e => ?_⟩
    . have n := a.gr.oth b o e h1 h2
      refine xEAAA n.get fun o' e' _ hd' _ => ?_
      have hD : b ∉ D := fun hd => by rw [(t.new b hd).1] at e; cases e
      refine n.trans e' ?_
      refine xAE (t.keep b o' hD e') fun k1 sl k2 => ?_
      by_cases hb : b ∈ Fs
      . refine xEEEA ((hF b hb).2.2) fun o2 es ep e2 hd2 => ?_
        rw [e'] at e2; cases e2
        exact .inr ⟨⟨es, ep, hd2⟩, sl, k2⟩
      . exact .inl (k1 hb)
    . refine xE (a.gr.ex b o e) fun o' e' => ?_
      have hD : b ∉ D := fun hd => by rw [(t.new b hd).1] at e; cases e
      refine xAE (t.keep b o' hD e') fun _ sl k2 => ?_
      exact ⟨_, k2⟩
theorem Frm.touch (f : Frm P s.heap σ' env cx l) (t : Tch σ' s₀.heap Fs D s.heap h') (hF : ∀ b ∈ Fs, ∃ o es ep, s.heap.get? b = some o /\ o.data = .dict es ep) (hL : env.locals ∉ D) (hC : ∀ p ∈ env.cells, p.2 ∉ D) : Frm P h' σ' env cx l := by
  have fx := t.fixes hF
  refine xEA f.names fun m hn hm => ?_
  have near : ∀ b o, b ∉ D -> s.heap.get? b = some o -> Near o (h'.get? b) := fun b o hb ho => by
    refine xAE (t.keep b o hb ho) fun k1 sl k2 => ?_
    by_cases hf : b ∈ Fs
    . refine xEEEA (hF b hf) fun o2 es ep e2 hd2 => ?_
      rw [ho] at e2; cases e2
      exact .inr ⟨⟨es, ep, hd2⟩, sl, k2⟩
    . exact .inl (k1 hf)
  refine ⟨f.kind, f.len, f.inj, f.lt, f.glob, f.wr, ⟨m, near_ns hn fun o ho => near _ o hL ho, fun x i hx => ?_⟩, f.out, f.new, f.globals, f.builtins, fun p hp => ?_, f.apart, f.kinds⟩
  . rcases hm x i hx with ⟨hk, hv⟩ | ⟨hk, c, ov, hc, hi, hv⟩
    . exact .inl ⟨hk, fun av e => (hv av e).imp fun _ q => ⟨q.1, RV.fixes fx _ _ q.2⟩⟩
    . exact .inr ⟨hk, c, ov, hc, near_cell hi fun o ho => near _ o (hC (x, c) (mem_of_lookup' hc)) ho, fun av e => (hv av e).imp fun _ q => ⟨q.1, RV.fixes fx _ _ q.2⟩⟩
  . refine xEEA (f.cells p hp) fun o v ho hd => ?_
    refine xEAAA ((near _ o (hC p hp) ho).get) fun o' e _ hd' _ => ?_
    exact ⟨o', v, e, hd'.trans hd⟩
theorem entry_fly (hfr : A.frames = some (env :: outer)) (F : Frs P s.heap σ A) (hf : env.frame = some L)
    (hd₀ : ∀ b, s.heap.get? b = none -> h₀.get? b = none) (hσ : ∀ p ∈ σ, s.heap.get? p.1 ≠ none) (he : s.heap.get? e = some oe) (hg : P.mg k = some (.ref C)) (hc : oe.cls = .ref C) (hd : oe.data = .fields vs) (hsz : 1 < vs.size) (h0 : h₀.get? e = none) (hout : e ∉ σ.map (·.1))
    (hQ : ∀ h', Tch σ h₀ (places (env :: outer)) [e] s.heap h' -> FlyT P σ h₀ k e h' -> Q () { s with heap := h' }) :
    wpAny (model P.prog P.w) A (do let a <- frameOf env; let pl <- entryPlaceOf L hadNext; let b <- EntryCells.newEntry head a .none (rawInt L) .none pl; setField (.ref e) 1 b) Q E s := by
  have hene : e ∉ places (env :: outer) := fun hm => by
    refine xAAEEEA (F.place hfr hm) fun _ _ o es ep ho hq => ?_
    rw [he] at ho; cases ho; rw [hd] at hq; cases hq
  refine wpAny_bind (wpAny_frameOf_fun hfr (F.fun hfr) hf fun h₁ hs₁ => ?_)
  refine wpAny_bind (wpAny_entryPlaceOf fun pl hpl => ?_)
  unfold EntryCells.newEntry newFields
  refine wpAny_bind (wpAny_newObj_type ?_ (hpl.sizeOk5 _ _ _ _ _))
  have he₁ : h₁.get? e = some oe := (hs₁.2.1 e hene).trans he
  generalize hT : ({ cls := .type "traceback", dict := none, data := .fields ([head, .ref L, .none, rawInt L, .none] ++ (if pl.isEmpty then List.replicate 6 Value.none else pl)).toArray } : Obj) = oT
  have he₂ := Heap.get?_push_of_some (h := h₁) oT he₁
  refine wpAny_setField he₂ hd hsz (hQ _ ?_ ?_)
  . refine ⟨fun d hm => ?_, fun b o hb ho => ?_, fun d hm o ho => ?_⟩
    . rcases List.mem_singleton.mp hm with rfl
      exact ⟨h0, hout, fun o ho => by rw [he] at ho; cases ho; exact ⟨vs, hd, by rw [hc]; exact fun q => nomatch q⟩⟩
    . have hbe : b ≠ e := fun q => hb (by rw [q]; exact List.mem_singleton.mpr rfl)
      refine xE (hs₁.2.2 b o ho) fun sl e1 => ?_
      have up : ∀ o', h₁.get? b = some o' -> ((h₁.push oT).update e (Obj.mapFields (·.setIfInBounds 1 (Value.ref h₁.objs.size)))).get? b = some o' := fun o' h' => by
        rw [Heap.get?_update_other _ _ (Ne.symm hbe)]; exact Heap.get?_push_of_some _ h'
      exact ⟨fun hF => up o ((hs₁.2.1 b hF).trans ho), sl, up _ e1⟩
    . rcases List.mem_singleton.mp hm with rfl
      have hd₃ := Obj.data_mapFields hd (·.setIfInBounds 1 (Value.ref h₁.objs.size))
      exact ⟨_, Heap.get?_update_self _ he₂ (Obj.isFreed_of_fields hd₃)⟩
  . have hTe : h₁.objs.size ≠ e := Nat.ne_of_gt (Heap.lt_size he₁)
    have hd₃ := Obj.data_mapFields hd (·.setIfInBounds 1 (Value.ref h₁.objs.size))
    have hfree : s.heap.get? h₁.objs.size = none := Heap.get?_none_of_le (by rw [hs₁.1]; exact Nat.le_refl _)
    refine ⟨⟨_, _, C, h₁.objs.size, oT, ([head, .ref L, .none, rawInt L, .none] ++ (if pl.isEmpty then List.replicate 6 Value.none else pl)).toArray, rawInt L, Heap.get?_update_self _ he₂ (Obj.isFreed_of_fields hd₃), hg, (Obj.cls_mapFields _ _).trans hc, hd₃, by simp [hsz], hTe, ?_, by rw [<- hT], by rw [<- hT], by simp, hd₀ _ hfree, fun hm => ?_⟩, h0, hout⟩
    . rw [Heap.get?_update_other _ _ (Ne.symm hTe)]; exact Heap.get?_push_size h₁ (by rw [<- hT]; rfl)
    . refine xEA (List.mem_map.mp hm) fun p hp e => ?_
      exact hσ p hp (by rw [e]; exact hfree)
theorem note_fly (hfr : A.frames = some (env :: outer)) (F : Frs P s.heap σ A) (hf : env.frame = some L)
    (hd₀ : ∀ b, s.heap.get? b = none -> h₀.get? b = none) (hσ : ∀ p ∈ σ, s.heap.get? p.1 ≠ none) (fl : Fly P σ h₀ k e s.heap)
    (hQ : ∀ h' D, Tch σ h₀ (places (env :: outer)) D s.heap h' -> FlyT P σ h₀ k e h' -> Q () { s with heap := h' }) : wpAny (model P.prog P.w) A (noteFrame (.ref e) env) Q E s := by
  refine xEEEAAAA fl.obj fun oe vs C he hg hc hd ht => ?_
  unfold noteFrame
  simp only [hf]
  rcases ht with h1 | ⟨T, oT, ts, fv, h1, hTe, hT, hcT, hdT, h3, hnT, hoT⟩
  . refine wpAny_bind (wpAny_field he hd h1 ?_)
    rw [if_neg (by decide)]
    exact entry_fly hfr F hf hd₀ hσ he hg hc hd (Array.getElem?_eq_some_iff.mp h1).1 fl.new fl.out fun h' t ft => hQ h' [e] t ft
  . refine wpAny_bind (wpAny_field he hd h1 ?_)
    rw [if_pos (show (Value.ref T != Value.none) = true from by simp)]
    refine wpAny_bind (wpAny_field hT hdT h3 ?_)
    by_cases hv : (fv == rawInt L) = true
    . rw [if_pos hv]
      exact wpAny_pure (hQ s.heap [] ⟨(fun d hm => nomatch hm), (fun b o _ ho => ⟨fun _ => ho, o.slots, ho⟩), (fun d hm => nomatch hm)⟩ ⟨⟨oe, vs, C, T, oT, ts, fv, he, hg, hc, hd, h1, hTe, hT, hcT, hdT, h3, hnT, hoT⟩, fl.new, fl.out⟩)
    . rw [if_neg hv]
      refine wpAny_bind (wpAny_setField hT hdT (Array.getElem?_eq_some_iff.mp h3).1 ?_)
      have other : ∀ b, b ≠ T -> (s.heap.update T (Obj.mapFields (·.setIfInBounds 3 Value.none))).get? b = s.heap.get? b := fun b hb => Heap.get?_update_other _ _ (Ne.symm hb)
      have hTn : (s.heap.update T (Obj.mapFields (·.setIfInBounds 3 Value.none))).get? T = some (oT.mapFields (·.setIfInBounds 3 Value.none)) := Heap.get?_update_self _ hT (Obj.isFreed_of_fields (Obj.data_mapFields hdT _))
      have t1 : Tch σ h₀ (places (env :: outer)) [T] s.heap (s.heap.update T (Obj.mapFields (·.setIfInBounds 3 Value.none))) := by
        refine ⟨fun d hm => ?_, fun b o hb ho => ?_, fun d hm o ho => ?_⟩
        . rcases List.mem_singleton.mp hm with rfl
          exact ⟨hnT, hoT, fun o ho => by rw [hT] at ho; cases ho; exact ⟨ts, hdT, by rw [hcT]; exact fun q => absurd (Value.type.inj q) (by decide)⟩⟩
        . have hbT : b ≠ T := fun q => hb (by rw [q]; exact List.mem_singleton.mpr rfl)
          exact ⟨fun _ => (other b hbT).trans ho, o.slots, (other b hbT).trans ho⟩
        . rcases List.mem_singleton.mp hm with rfl
          exact ⟨_, hTn⟩
      have ndT : ∀ b o es ep, s.heap.get? b = some o -> o.data = .dict es ep -> b ≠ T := fun b o es ep ho hq q => by
        rw [q, hT] at ho; cases ho; rw [hdT] at hq; cases hq
      refine entry_fly (s := { s with heap := s.heap.update T (Obj.mapFields (·.setIfInBounds 3 Value.none)) }) hfr ?_ hf ?_ ?_ ((other e (Ne.symm hTe)).trans he) hg hc hd (Array.getElem?_eq_some_iff.mp h1).1 fl.new fl.out fun h' t ft => ?_
      . intro l hl f hm
        refine xAEEEEAAAA (F l hl f hm) fun hk L' o es ep q1 q2 q3 q4 q5 => ?_
        exact ⟨hk, L', o, es, ep, q1, q2, (other L' (ndT L' o es ep q3 q4)).trans q3, q4, q5⟩
      . intro b hb
        by_cases q : b = T
        . subst q; exact hnT
        . exact hd₀ b ((other b q).symm.trans hb)
      . intro p hp hb
        by_cases q : p.1 = T
        . exact hoT (q ▸ List.mem_map_of_mem hp)
        . exact hσ p hp ((other _ q).symm.trans hb)
      . exact hQ h' _ (t1.trans t) ft
theorem flight_fly (fl : FlyT P σ h₀ k e s.heap) (hQ : ∀ h' D, Tch σ h₀ Fs D s.heap h' -> FlyT P σ h₀ k e h' -> Q () { s with heap := h' }) : wpAny (model P.prog P.w) A (setFlight (.ref e) fr) Q E s := by
  refine xEEEEEEEAAAAA fl.obj fun oe vs C T oT ts fv he hg hc hd h1 qq1 => ?_; refine xAAAAAA qq1 fun hTe hT hcT hdT h3 hnT hoT => ?_
  unfold setFlight
  refine wpAny_bind (wpAny_field he hd h1 ?_)
  rw [if_pos (show (Value.ref T != Value.none) = true from by simp)]
  have hsz : 3 < ts.size := (Array.getElem?_eq_some_iff.mp h3).1
  refine wpAny_setField hT hdT hsz (hQ _ [T] ?_ ?_)
  . refine ⟨fun d hm => ?_, fun b o hb ho => ?_, fun d hm o ho => ?_⟩
    . rcases List.mem_singleton.mp hm with rfl
      exact ⟨hnT, hoT, fun o ho => by rw [hT] at ho; cases ho; exact ⟨ts, hdT, by rw [hcT]; exact fun q => absurd (Value.type.inj q) (by decide)⟩⟩
    . have hbT : b ≠ T := fun q => hb (by rw [q]; exact List.mem_singleton.mpr rfl)
      have := (Heap.get?_update_other s.heap (Obj.mapFields (·.setIfInBounds 3 (fr.elim Value.none fun f => rawInt f))) (Ne.symm hbT)).trans ho
      exact ⟨fun _ => this, o.slots, this⟩
    . rcases List.mem_singleton.mp hm with rfl
      exact ⟨_, Heap.get?_update_self _ hT (Obj.isFreed_of_fields (Obj.data_mapFields hdT _))⟩
  . refine ⟨⟨oe, vs, C, T, _, _, (fr.elim Value.none fun f => rawInt f), (Heap.get?_update_other _ _ hTe).trans he, hg, hc, hd, h1, hTe, Heap.get?_update_self _ hT (Obj.isFreed_of_fields (Obj.data_mapFields hdT _)), (Obj.cls_mapFields _ _).trans hcT, Obj.data_mapFields hdT _, by simp [hsz], hnT, hoT⟩, fl.new, fl.out⟩
theorem leave_fly (hfr : A.frames = some (env :: outer)) (F : Frs P s.heap σ A) (hf : env.frame = some L)
    (hd₀ : ∀ b, s.heap.get? b = none -> h₀.get? b = none) (hσ : ∀ p ∈ σ, s.heap.get? p.1 ≠ none) (fl : Fly P σ h₀ k e s.heap)
    (hQ : ∀ h' D, Tch σ h₀ (places (env :: outer)) D s.heap h' -> FlyT P σ h₀ k e h' -> Q () { s with heap := h' }) : wpAny (model P.prog P.w) A (noteFrame (.ref e) env) (fun _ s₂ => wpAny (model P.prog P.w) A (setFlight (.ref e) fr) Q E s₂) E s :=
  note_fly hfr F hf hd₀ hσ fl fun h' D t ft => flight_fly (s := { s with heap := h' }) ft fun h'' D' t' ft' => hQ h'' _ (t.trans t') ft'
theorem back_fly (fl : FlyT P σ h₀ k e s.heap) (hQ : ∀ h' D, Tch σ h₀ Fs D s.heap h' -> FlyT P σ h₀ k e h' -> E (.ref e) { s with heap := h' }) : cameBackBy (model P.prog P.w) A env E (.ref e) s := by
  refine xEEEEEEEAAAAA fl.obj fun oe vs C T oT ts fv he hg hc hd h1 r => ?_
  unfold cameBackBy
  refine wpAny_bind (wpAny_field he hd h1 ?_)
  rw [if_neg (show ¬ (Value.ref T == Value.none) = true from by simp)]
  exact flight_fly fl hQ
theorem alive (a : After P σ σ' X hp' s₀ s) : (∀ b, s.heap.get? b = none -> s₀.heap.get? b = none) /\ ∀ p ∈ σ', s.heap.get? p.1 ≠ none :=
  ⟨fun b hb => new_before a.gr hb, fun p hp => by refine xEA (a.st.there hp) fun o e _ => ?_; rw [e]; exact fun q => nomatch q⟩
end
end
section
open PySem PySem.Spec PyProof.Rows PySem.SeqAt
structure InvS (P : Par) (cx : Cx) (n : Nat) (q : Bool) (env : Env) (A : Around) (σ : Sg) (l : Locs) (hp : AHeap) (s : Shared) : Prop extends Inv P cx n q env A σ l hp s where
  top : ∃ outer, A.frames = some (env :: outer)
  own : env.frame = some env.locals
noncomputable def SimSt (P : Par) (cx : Cx) (st : Stmt) (x : S) : Prop :=
  ∀ c n env A σ l hp s, Sims P cx c n -> InvS P cx n c.q env A σ l hp s -> execS c x l hp ≠ .bad ->
    wpAny (model P.prog P.w) A (exec st env) (QS P env cx σ s (execS c x l hp)) (QES P env cx σ s (execS c x l hp)) s
noncomputable def SimSs (P : Par) (cx : Cx) (st : List Stmt) (x : Ss) : Prop :=
  ∀ c n env A σ l hp s, Sims P cx c n -> InvS P cx n c.q env A σ l hp s -> execSs c x l hp ≠ .bad ->
    wpAny (model P.prog P.w) A (execs st env) (QS P env cx σ s (execSs c x l hp)) (QES P env cx σ s (execSs c x l hp)) s
section
variable {P : Par} {cx : Cx} {env : Env} {A : Around} {σ σ' : Sg} {l l' : Locs} {hp hp' : AHeap} {s s' : Shared} {n : Nat} {q : Bool}
theorem Frs.afterX (F : Frs P s.heap σ A) (g : Grows σ σ' (FX env) s.heap s'.heap) (f : Frm P s.heap σ env cx l) (f' : Frm P s'.heap σ' env cx l') : Frs P s'.heap σ' A := fun fr hl e hm => by
  refine xAEEEEAAAA (F fr hl e hm) fun hk L o es ep h1 h2 h3 h4 h5 => ?_
  by_cases hL : L = env.locals
  . refine xEEEA f'.nsObj fun o' es' ep' ho' hd' => ?_
    exact ⟨hk, L, o', es', ep', h1, h2, hL ▸ ho', hd', not_mem_grown g h3 h5⟩
  . have hX : L ∉ FX env := fun hx => by
      rcases List.mem_cons.mp hx with q | hx
      . exact hL q
      . refine xEA (List.mem_map.mp hx) fun p hp q => ?_
        refine xEEA (f.cells p hp) fun o' v ho' hd' => ?_
        rw [q, h3] at ho'; cases ho'; rw [h4] at hd'; cases hd'
    refine xEAAA ((g.oth L o h3 h5 hX).get) fun o' e' _ hd' _ => ?_
    exact ⟨hk, L, o', es, ep, h1, h2, e', hd'.trans h4, not_mem_grown g h3 h5⟩
theorem InvS.afterX (I : InvS P cx n q env A σ l hp s) (a : After P σ σ' (FX env) hp' s s') (f : Frm P s'.heap σ' env cx l') : InvS P cx n q env A σ' l' hp' s' := ⟨⟨a.st, f, I.ar, I.fs.afterX a.gr I.fr f⟩, I.top, I.own⟩
theorem InvS.after (I : InvS P cx n q env A σ l hp s) (a : After P σ σ' [] hp' s s') : InvS P cx n q env A σ' l hp' s' := ⟨I.toInv.after a, I.top, I.own⟩
theorem QS.lift (a : After P σ σ' (FX env) hp' s s') (q : QS P env cx σ' s' r f s'') : QS P env cx σ s r f s'' := by
  obtain ⟨fl, l', h2, σ₂, e, b, rf, fr⟩ := q
  exact ⟨fl, l', h2, σ₂, e, a.trans b, rf, fr⟩
theorem QES.lift (a : After P σ σ' (FX env) hp' s s') (q : QES P env cx σ' s' r v s'') : QES P env cx σ s r v s'' := by
  obtain ⟨k, l', h2, σ₂, e, er, ev, b, fl, fr⟩ := q
  exact ⟨k, l', h2, σ₂, e, er, ev, a.trans b, fl.lift a.gr, fr⟩
theorem After.toX {X : List Addr} (a : After P σ σ' [] hp' s s') : After P σ σ' X hp' s s' := a.more fun _ h => nomatch h
theorem st_ok {α : Type} {r : Res α} {f : α -> AHeap -> SR} (h : r.st l f ≠ .bad) : r ≠ .bad := fun e => h (by rw [e]; rfl)
theorem turn_ok {r : SR} (h : r.turn f ≠ .bad) : r ≠ .bad := fun e => h (by rw [e]; rfl)
theorem lap_ok {r : SR} (h : r.lap f ≠ .bad) : r ≠ .bad := fun e => h (by rw [e]; rfl)
theorem condS_is (hb : condS v x y ≠ .bad) : ∃ b, v = .bool b := by
  rcases v with _ | _ <;> first | exact absurd rfl hb | exact ⟨_, rfl⟩
theorem boolR_of {x y : AV -> AHeap -> SR} (hb : (r.st l fun v h => condS v (x v h) (y v h)) ≠ .bad) : BoolR r := fun av h e => by
  rw [e] at hb
  exact condS_is hb
theorem QE.st {α : Type} {r : Res α} {f : α -> AHeap -> SR} (fr : Frm P s.heap σ env cx l) (q : QE P σ s r v s'') : QES P env cx σ s (r.st l f) v s'' := by
  obtain ⟨k, h2, σ₂, e, er, ev, b, fl⟩ := q
  exact ⟨k, l, h2, σ₂, e, by rw [er]; rfl, ev, b.toX, fl, fr.after b⟩
theorem seqS {m : Sem Value} {r : Res AV} {G : SR -> Value -> Shared -> Prop} (a₀ : After P σ₀ σ [] hp₀ s₀ s) (f₀ : Frm P s.heap σ env cx l)
    (h : wpAny (model P.prog P.w) A m (QV P σ s r) (QE P σ s r) s) (hb : r.st l f ≠ .bad)
    (hk : ∀ av hp' σ' v s', After P σ σ' [] hp' s s' -> RV P.B s'.heap σ' av v -> f av hp' ≠ .bad -> G (f av hp') v s') :
    wpAny (model P.prog P.w) A m (G (r.st l f)) (QES P env cx σ₀ s₀ (r.st l f)) s :=
  wpAny_mono h (fun v s' ⟨av, hp', σ', e, a, rv⟩ => by subst e; exact hk av hp' σ' v s' a rv hb) (fun _ _ q => (q.st f₀).lift a₀.toX)
theorem not_inter (I : Inv P cx n q env A σ l hp s) : interactive env = false := by
  unfold interactive; rw [I.fr.kind]; rfl
theorem swaps_no (h : isComp e = false) : swapsWith e t k env = pure false := by
  unfold swapsWith
  rcases e with _ | _ <;> first | rfl | (cases h; done)
theorem simSt_expr {x : X} {pos : Pos} (hc : isComp e = false) (h : SimE P cx e x) : SimSt P cx (.Expr e pos) (.expr x) := by
  intro c n env A σ l hp s C I hb
  rw [s_expr] at hb |-
  refine wpAny_Expr_any (seqS (G := fun R v s' => QS P env cx σ s R .next s') (.refl I.st) I.fr (h c n env A σ l hp s C I.toInv (st_ok hb)) hb ?_) (not_inter I.toInv) (swaps_no hc)
  intro av hp' σ' v s' a rv hb
  exact ⟨_, _, _, _, rfl, a.toX, rfl, I.fr.after a⟩
theorem simSt_ret {x : X} {pos : Pos} (h : SimE P cx e x) : SimSt P cx (.Return (some e) pos) (.ret x) := by
  intro c n env A σ l hp s C I hb
  rw [s_ret] at hb |-
  refine wpAny_Return_some (seqS (G := fun R v s' => QS P env cx σ s R (.ret v) s') (.refl I.st) I.fr (h c n env A σ l hp s C I.toInv (st_ok hb)) hb ?_)
  intro av hp' σ' v s' a rv hb
  exact ⟨_, _, _, _, rfl, a.toX, ⟨v, rfl, rv⟩, I.fr.after a⟩
theorem simSt_asg {x : X} {p pos : Pos} (hw : cx.slotW y = some i) (hc : isComp e = false) (h : SimE P cx e x) : SimSt P cx (.Assign [.Name y p] e pos) (.asg i x) := by
  intro c n env A σ l hp s C I hb
  rw [s_asg] at hb |-
  refine wpAny_Assign_Name (seqS (G := fun R v s' => wpAny (model P.prog P.w) A (storeName env y v) (fun _ => QS P env cx σ s R .next) (QES P env cx σ s R) s') (.refl I.st) I.fr (h c n env A σ l hp s C I.toInv (st_ok hb)) hb ?_) (swaps_no hc)
  intro av hp' σ' v s' a rv hb
  refine store_prim a.st (I.fr.after a) hw rv fun s'' a2 fr _ => ?_
  exact ⟨_, _, _, _, rfl, a.toX.trans a2, rfl, fr⟩
theorem RVs.set {B : Bs} {h : Heap} {x : AV} {w : Value} (r : RV B h σ x w) : ∀ {xs : List AV} {vs : List Value}, RVs B h σ xs vs -> ∀ i, RVs B h σ (xs.set i x) (vs.set i w)
  | [], [], _, _ => trivial
  | _ :: _, _ :: _, q, 0 => ⟨r, q.2⟩
  | _ :: _, _ :: _, q, i + 1 => ⟨q.1, RVs.set r q.2 i⟩
theorem setL_is {n : Nat} {xs : List AV} {v : AV} {k : AV} {h' : AHeap} (h : setL hp n xs v (intOf k) = some h') : ∃ i : Nat, k = .int i /\ i < xs.length /\ h' = hp.set n (.list (xs.set i v)) := by
  refine xEA (Option.bind_eq_some_iff.mp h) fun i h1 h2 => ?_
  refine xA (iteN h2) fun h3 h4 => ?_
  refine xE (Int.eq_ofNat_of_zero_le h3.1) fun m e => ?_
  subst e
  exact ⟨m, intOf_is h1, Int.ofNat_lt.mp h3.2, (Option.some.inj h4).symm⟩
theorem setItem_at {l : Addr} {ws : Array Value} {k : Int} {t : Tok} {v : Value} {E : Value -> Shared -> Prop} {Q : Unit -> Shared -> Prop} (hl : IsL s.heap l ws m)
    (h0 : 0 <= k) (hfit : k < 2 ^ 63) (hn : k < ws.size) (hQ : Q () { s with heap := s.heap.update l (Obj.mapSeq (·.setIfInBounds k.toNat v)) }) :
    wpAny (model P.prog P.w) A (setItem (.ref l) (.int k t) v) Q E s := by
  have hT : s.TypeIs (.ref l) "list" := ⟨_, hl, rfl⟩
  unfold setItem
  try with_reducible refine wpAny_holding ?_
  first | refine wpAny_bind (wpAny_pure ?_) | skip
  refine wpAny_bind (wpAny_sequenceKey hT (by decide) ?_)
  refine wpAny_bind (wpAny_callSpecial?_slot (name := Str.ofString "__setitem__") hT slot_list_setitem
    (wpAny_call_entry slot_list_setitem hT entry_list_setitem ?_ (args_list_setitem _ _ _)))
  show wpAny _ _ (Builtin.List.listSubscript? (.int k t) >>= _) _ _ s
  refine wpAny_bind (wpAny_listSubscript_int (fitsIndex_of h0 hfit) ?_)
  clear hfit
  refine xE (Int.eq_ofNat_of_zero_le h0) fun j e => ?_
  subst e
  have hj : j < ws.size := by lia
  have hx' : ws[j]? = some ws[j] := Array.getElem?_eq_getElem hj
  show wpAny _ _ ((seqItemAt l j >>= fun r => pure (r.map (j, ·))) >>= _) _ _ s
  refine wpAny_bind (wpAny_bind (wpAny_seqItemAt hl rfl (wpAny_pure ?_)))
  rw [hx']
  show wpAny _ _ (setSeqItemAt l j v >>= _) _ _ s
  refine wpAny_bind (wpAny_setSeqItemAt hl rfl ?_)
  first
    | exact wpAny_bind (wpAny_pure (wpAny_pure ⟨.none, rfl, wpAny_pure hQ⟩))
    | exact wpAny_pure ⟨.none, rfl, wpAny_pure hQ⟩
theorem setItem_list (S : St P.w P.B σ hp s.heap) {j : Nat} {xs : List AV} {a : Addr} {off : Nat} (hj : hp[j]? = some (.list xs)) (e1 : σ[j]? = some (a, off)) {k x : AV} {u v : Value} (ru : RV P.B s.heap σ k u) (rx : RV P.B s.heap σ x v) (hset : setL hp j xs x (intOf k) = some hp') {Q : Unit -> Shared -> Prop}
    (h : ∀ s', After P σ σ [] hp' s s' -> Q () s') : wpAny (model P.prog P.w) A (setItem (.ref a) u v) Q E s := by
  refine xEAA (setL_is hset) fun i e2 hi e3 => ?_
  subst e2; subst e3
  refine xE ru fun t e2 => ?_
  subst e2
  refine xEEA (S.isL hj e1) fun ws n hl r => ?_
  have hlen := r.size
  have hfit := line_int (S.isLen hj e1)
  have hs' : Heap.SameBut a s.heap (s.heap.update a (Obj.mapSeq fun xs => xs.setIfInBounds i v)) := .update ..
  refine setItem_at hl (Int.natCast_nonneg i) (Int.lt_trans (Int.ofNat_lt.mpr hi) hfit) (Int.ofNat_lt.mpr (hlen ▸ hi)) (h _ ?_)
  refine xA (S.upd (X := []) e1 hs'.extBut (.list (xs.set i x)) (IsL.update hl _) fun g =>
    ⟨ws.setIfInBounds i v, _, IsL.update hl _, by
      rw [Array.toList_setIfInBounds]
      exact RVs.set (RV.grows g _ _ rx) (RVs.grows g _ _ r) i, by rw [List.length_set]; exact S.isLen hj e1⟩) fun S' g => ?_
  exact ⟨rfl, S', g⟩
theorem setItem_prim (S : St P.w P.B σ hp s.heap) (ar : Arnd n q A) (ro : RV P.B s.heap σ o v) (rk : RV P.B s.heap σ k u) (rx : RV P.B s.heap σ x w) (h : setItemAV o k x hp = some hp')
    (hq : ∀ s', After P σ σ [] hp' s s' -> Q () s') : wpAny (model P.prog P.w) A (setItem v u w) Q E s := by
  rcases o with _ | _
  case loc j =>
    refine xEEA ro fun a off qq1 e1 => ?_; try clear ro; subst qq1
    delta setItemAV at h
    dsimp only at h
    rcases hj : hp[j]? with _ | ob
    case none => rw [hj] at h; exact none_ne h
    case some =>
      rw [hj] at h
      rcases ob with _ | _
      case list xs => exact setItem_list S hj e1 rk rx h hq
      case dict kvs ep =>
        refine xEAAA (setD_is h) fun key hkey hso hsz qq1 => ?_; subst qq1
        rw [key_av hkey] at rk
        exact setItem_dict S hj e1 rk hso (by have := ar.units; lia) hsz rx hq
      all_goals exact none_ne h
  all_goals exact none_ne h
theorem simSt_seta {a : Str} {p pos : Pos} (ha : cx.attrs.contains a = true) (hc : isComp e = false) (ho : SimE P cx o xo) (h : SimE P cx e x) : SimSt P cx (.Assign [.Attribute o a p] e pos) (.setattr a xo x) := by
  intro c n env A σ l hp s C I hb
  rw [s_seta] at hb |-
  refine plainObj_wpAny_Assign_Attribute (seqS (G := fun R v s₁ => wpAny (model P.prog P.w) A (eval o env) (fun ov s₂ => wpAny (model P.prog P.w) A (setAttr ov a v) (fun _ => QS P env cx σ s R .next) (QES P env cx σ s R) s₂) (QES P env cx σ s R) s₁) (.refl I.st) I.fr (h c n env A σ l hp s C I.toInv (st_ok hb)) hb ?_) (swaps_no hc)
  intro av hp₁ σ₁ v s₁ a₁ rv hb
  have I₁ := I.after a₁
  refine seqS (G := fun R ov s₂ => wpAny (model P.prog P.w) A (setAttr ov a v) (fun _ => QS P env cx σ s R .next) (QES P env cx σ s R) s₂) a₁ I₁.fr (ho c n env A σ₁ l hp₁ s₁ C I₁.toInv (st_ok hb)) hb ?_
  intro ov hp₂ σ₂ u s₂ a₂ ru hb
  rcases hset : setAttrAV a ov av hp₂ with _ | hp₃
  case none => rw [hset] at hb; exact absurd rfl hb
  case some =>
    refine setattr_prim C.ok a₂.st (C.attrs ▸ ha) ru (RV.grows a₂.gr _ _ rv) hset fun s₃ a₃ => ?_
    have a := (a₁.trans a₂).trans a₃
    exact ⟨_, _, _, _, rfl, a.toX, rfl, I.fr.after a⟩
theorem simSt_set {xo xk x : X} {p pos : Pos} (hc : isComp e = false) (ho : SimE P cx o xo) (hk : SimE P cx k xk) (h : SimE P cx e x) : SimSt P cx (.Assign [.Subscript o k p] e pos) (.setitem xo xk x) := by
  intro c n env A σ l hp s C I hb
  rw [s_set] at hb |-
  refine wpAny_Assign_Subscript (seqS (G := fun R v s₁ => wpAny (model P.prog P.w) A (eval o env) (fun ov s₂ => wpAny (model P.prog P.w) A (eval k env) (fun iv s₃ => wpAny (model P.prog P.w) A (setItem ov iv v) (fun _ => QS P env cx σ s R .next) (QES P env cx σ s R) s₃) (QES P env cx σ s R) s₂) (QES P env cx σ s R) s₁) (.refl I.st) I.fr (h c n env A σ l hp s C I.toInv (st_ok hb)) hb ?_) (swaps_no hc)
  intro av hp₁ σ₁ v s₁ a₁ rv hb
  have I₁ := I.after a₁
  refine seqS (G := fun R ov s₂ => wpAny (model P.prog P.w) A (eval k env) (fun iv s₃ => wpAny (model P.prog P.w) A (setItem ov iv v) (fun _ => QS P env cx σ s R .next) (QES P env cx σ s R) s₃) (QES P env cx σ s R) s₂) a₁ I₁.fr (ho c n env A σ₁ l hp₁ s₁ C I₁.toInv (st_ok hb)) hb ?_
  intro ov hp₂ σ₂ u s₂ a₂ ru hb
  have I₂ := I₁.after a₂
  refine seqS (G := fun R iv s₃ => wpAny (model P.prog P.w) A (setItem u iv v) (fun _ => QS P env cx σ s R .next) (QES P env cx σ s R) s₃) (a₁.trans a₂) I₂.fr (hk c n env A σ₂ l hp₂ s₂ C I₂.toInv (st_ok hb)) hb ?_
  intro kv hp₃ σ₃ w s₃ a₃ rw' hb
  rcases hset : setItemAV ov kv av hp₃ with _ | hp₄
  case none => rw [hset] at hb; exact absurd rfl hb
  case some =>
    refine setItem_prim a₃.st I.ar (RV.grows a₃.gr _ _ ru) rw' (RV.grows a₃.gr _ _ (RV.grows a₂.gr _ _ rv)) hset fun s₄ a₄ => ?_
    have a := ((a₁.trans a₂).trans a₃).trans a₄
    exact ⟨_, _, _, _, rfl, a.toX, rfl, I.fr.after a⟩
theorem simSt_if {x : X} {b o : List Stmt} {xb xo : Ss} {pos : Pos} (ht : SimT P cx t x) (hb : SimSs P cx b xb) (ho : SimSs P cx o xo) : SimSt P cx (.If t b o pos) (.iff x xb xo) := by
  intro c n env A σ l hp s C I hbad
  rw [s_iff] at hbad |-
  refine wpAny_If (wpAny_mono (ht c n env A σ l hp s C I.toInv (st_ok hbad) (boolR_of hbad)) (fun k s' ⟨hp', σ', e, a⟩ => ?_) fun _ _ q => q.st I.fr)
  rw [e] at hbad |-
  have I' := I.after a
  rcases k with _ | _
  case true =>
    rw [if_pos rfl]
    exact wpAny_mono (hb c n env A σ' l hp' s' C I' hbad) (fun _ _ q => q.lift a.toX) (fun _ _ q => q.lift a.toX)
  case false =>
    exact wpAny_mono (ho c n env A σ' l hp' s' C I' hbad) (fun _ _ q => q.lift a.toX) (fun _ _ q => q.lift a.toX)
theorem simSs_nil : SimSs P cx [] .nil := by
  intro c n env A σ l hp s C I hb
  exact wpAny_execs_nil ⟨_, _, _, _, rfl, .refl I.st, rfl, I.fr⟩
theorem QES.turn (q : QES P env cx σ s r v s'') : QES P env cx σ s (r.turn f) v s'' := by
  obtain ⟨k, l', h2, σ₂, e, er, ev, b, fl, fr⟩ := q
  exact ⟨k, l', h2, σ₂, e, by rw [er]; rfl, ev, b, fl, fr⟩
theorem simSs_cons {st : Stmt} {x : S} (h : SimSt P cx st x) (hr : SimSs P cx sts xs) : SimSs P cx (st :: sts) (.cons x xs) := by
  intro c n env A σ l hp s C I hb
  rw [ss_cons] at hb |-
  refine wpAny_execs_cons (wpAny_mono (h c n env A σ l hp s C I (turn_ok hb)) (fun f s' q => ?_) (fun _ _ q => q.turn))
  obtain ⟨fl, l', hp', σ', e, a, rf, fr⟩ := q
  rw [e] at hb |-
  rcases fl with _ | av | _
  case next =>
    rcases (show f = .next from rf) with rfl
    exact wpAny_mono (hr c n env A σ' l' hp' s' C (I.afterX a fr) hb) (fun _ _ q => q.lift a) (fun _ _ q => q.lift a)
  case ret =>
    refine xEA rf fun v qq1 rv => ?_; try clear rf; subst qq1
    exact ⟨_, _, _, _, rfl, a, ⟨v, rfl, rv⟩, fr⟩
  case cont =>
    rcases (show f = .cont from rf) with rfl
    exact ⟨_, _, _, _, rfl, a, rfl, fr⟩
theorem noExc_ok {α : Type} {r : Res α} (h : r.noExc ≠ .bad) : r ≠ .bad /\ (∀ k h', r ≠ .exc k h') /\ r.noExc = r := by
  rcases r with ⟨a, h'⟩ | ⟨k, h'⟩ | _
  case ok => exact ⟨(fun e => nomatch e), (fun _ _ e => nomatch e), rfl⟩
  case exc => exact absurd rfl h
  case bad => exact absurd rfl h
theorem noExcS_ok {r : SR} (h : r.noExc ≠ .bad) : r ≠ .bad /\ (∀ k l' h', r ≠ .exc k l' h') /\ r.noExc = r := by
  rcases r with ⟨f, l', h'⟩ | ⟨k, l', h'⟩ | _
  case ok => exact ⟨(fun e => nomatch e), (fun _ _ _ e => nomatch e), rfl⟩
  case exc => exact absurd rfl h
  case bad => exact absurd rfl h
theorem QE.none {α : Type} {r : Res α} (h : ∀ k h', r ≠ .exc k h') (q : QE P σ s r v s'') : False := by
  obtain ⟨k, h2, σ₂, e, er, _⟩ := q
  exact h _ _ er
theorem QES.none (h : ∀ k l' h', r ≠ .exc k l' h') (q : QES P env cx σ s r v s'') : False := by
  obtain ⟨k, l', h2, σ₂, e, er, _⟩ := q
  exact h _ _ _ er
inductive WhInv (P : Par) (cx : Cx) (env : Env) (c : Ctx) (x : X) (xb : Ss) (σ : Sg) (s : Shared) (R : SR) (f : Nat) (s' : Shared) : Prop
  | mk (l' : Locs) (hp' : AHeap) (σ' : Sg) (hR : whileLoop (fun l h => (evalX c x l h).noExc) (fun l h => (execSs c xb l h).noExc) f l' hp' = R) (a : After P σ σ' (FX env) hp' s s') (fr : Frm P s'.heap σ' env cx l') : WhInv P cx env c x xb σ s R f s'
theorem simSt_while {b : List Stmt} {xb : Ss} {pos : Pos} (ht : SimT P cx t x) (hbody : SimSs P cx b xb) : SimSt P cx (.While t b [] pos) (.whil x xb) := by
  intro c n env A σ l hp s C I hb
  rw [s_whil] at hb |-
  generalize hR : whileLoop (fun l h => (evalX c x l h).noExc) (fun l h => (execSs c xb l h).noExc) c.fuel l hp = R at hb |-
  refine wpAny_While (codeAny_whileLoop (WhInv P cx env c x xb σ s R) ?_ c.fuel ⟨l, hp, σ, hR, .refl I.st, I.fr⟩)
  rintro f s' ⟨l', hp', σ', hR', a, fr⟩
  rcases f with _ | f
  case zero => exact absurd hR'.symm hb
  case succ =>
    have hR' : ((evalX c x l' hp').noExc.st l' fun v h => condS v (((execSs c xb l' h).noExc).lap (whileLoop (fun l h => (evalX c x l h).noExc) (fun l h => (execSs c xb l h).noExc) f)) (.ok .next l' h)) = R := hR'
    have hb' := hR'.symm ▸ hb
    refine xAA (noExc_ok (st_ok hb')) fun hx1 hx2 hx3 => ?_
    rw [hx3] at hR' hb'
    refine wpAny_mono (ht c n env A σ' l' hp' s' C (I.afterX a fr).toInv hx1 (boolR_of hb')) (fun k s₂ ⟨hp₂, σ₂, e, a₂⟩ => ?_) fun _ _ q => (q.none hx2).elim
    rw [e] at hR' hb'
    have fr₂ := fr.after a₂
    have a₂ := a.trans a₂.toX
    rcases k with _ | _
    case false =>
      refine wpAny_execs_nil ?_
      rw [<- hR']
      exact ⟨_, _, _, _, rfl, a₂, rfl, fr₂⟩
    case true =>
      have hR' : ((execSs c xb l' hp₂).noExc).lap (whileLoop (fun l h => (evalX c x l h).noExc) (fun l h => (execSs c xb l h).noExc) f) = R := hR'
      rw [if_pos rfl]
      refine xAA (noExcS_ok (lap_ok (hR'.symm ▸ hb))) fun hy1 hy2 hy3 => ?_
      rw [hy3] at hR'
      refine wpAny_mono (hbody c n env A σ₂ l' hp₂ s₂ C (I.afterX a₂ fr₂) hy1) (fun fl s₃ q => ?_) fun _ _ q => (q.none hy2).elim
      obtain ⟨fl', l₃, hp₃, σ₃, e₃, a₃, rf, fr₃⟩ := q
      rw [e₃] at hR'
      have a₃ := a₂.trans a₃
      rcases fl' with _ | av | _
      case next => rcases (show fl = .next from rf) with rfl; exact ⟨f, Nat.lt_succ_self f, l₃, hp₃, σ₃, hR', a₃, fr₃⟩
      case cont => rcases (show fl = .cont from rf) with rfl; exact ⟨f, Nat.lt_succ_self f, l₃, hp₃, σ₃, hR', a₃, fr₃⟩
      case ret =>
        refine xEA rf fun v qq1 rv => ?_; try clear rf; subst qq1
        show QS P env cx σ s R (.ret v) s₃
        rw [<- hR']
        exact ⟨_, _, _, _, rfl, a₃, ⟨v, rfl, rv⟩, fr₃⟩
theorem folded_ok (h : compE k cx e = some x) (v : Value) : foldedSetIterable e env v = pure v := by
  rcases k with _ | k
  case zero => exact none_ne h
  case succ => rcases e with _ | _ <;> first | exact rfl | exact none_ne h
theorem frm_iter (f : Frm P s.heap σ env cx l) (h : IterObj s.heap it) : it ∉ FX env := by
  refine xEEEAAA h fun o T fs ho hc _ hd => ?_
  intro hm
  simp only [FX, List.mem_cons, List.mem_map] at hm
  rcases hm with rfl | ⟨p, hp, rfl⟩
  . refine xEEEA f.nsObj fun o' es ep ho' hd' => ?_
    rw [ho] at ho'; cases ho'; rw [hd] at hd'; cases hd'
  . refine xEEA (f.cells p hp) fun o' v ho' hd' => ?_
    rw [ho] at ho'; cases ho'; rw [hd] at hd'; cases hd'
theorem Frm.extBut (f : Frm P s.heap σ env cx l) (hn : it ∉ FX env) (hx : ∀ x v, RV P.B s.heap σ x v -> RV P.B h' σ x v) (hk : ∀ b o, b ≠ it -> s.heap.get? b = some o -> h'.get? b = some o) : Frm P h' σ env cx l := by
  simp only [FX, List.mem_cons, List.mem_map, not_or, not_exists, not_and] at hn
  refine xEA f.names fun m qq1 hm => ?_; refine xEEEAA qq1 fun o es ep ho hd hr => ?_
  refine ⟨f.kind, f.len, f.inj, f.lt, f.glob, f.wr, ⟨m, ⟨o, es, ep, hk _ o (fun e => hn.1 e.symm) ho, hd, hr⟩, fun x i hxs => ?_⟩, f.out, f.new, f.globals, f.builtins, fun p hp => ?_, f.apart, f.kinds⟩
  . rcases hm x i hxs with ⟨hk', hv⟩ | ⟨hk', c, ov, hc, ⟨oc, hoc, hdc⟩, hv⟩
    . exact .inl ⟨hk', fun av e => (hv av e).imp fun _ q => ⟨q.1, hx _ _ q.2⟩⟩
    . exact .inr ⟨hk', c, ov, hc, ⟨oc, hk _ oc (fun e => hn.2 _ (mem_of_lookup' hc) e) hoc, hdc⟩, fun av e => (hv av e).imp fun _ q => ⟨q.1, hx _ _ q.2⟩⟩
  . refine xEEA (f.cells p hp) fun o' v ho' hd' => ?_
    exact ⟨o', v, hk _ o' (fun e => hn.2 p hp e) ho', hd'⟩
end
end
section
open PySem PySem.Spec PyProof.Rows PySem.SeqAt
noncomputable def Tgt (P : Par) (cx : Cx) (t : Expr) (put : Locs -> AV -> Option Locs) : Prop :=
  ∀ (env : Env) (A : Around) (σ : Sg) (l l' : Locs) (hp : AHeap) (s : Shared) (av : AV) (v : Value) (Q : Unit -> Shared -> Prop) (E : Value -> Shared -> Prop), A.handled = none -> St P.w P.B σ hp s.heap -> Frm P s.heap σ env cx l -> RV P.B s.heap σ av v -> put l av = some l' ->
    (∀ s', After P σ σ (FX env) hp s s' -> Frm P s'.heap σ env cx l' -> Q () s') -> wpAny (model P.prog P.w) A (assign t env v) Q E s
section
variable {P : Par} {cx : Cx} {env : Env} {A : Around} {σ σ' : Sg} {l l' : Locs} {hp hp' : AHeap} {s s' : Shared} {n : Nat} {q : Bool}
theorem tgt_name (hw : cx.slotW y = some i) : Tgt P cx (.Name y p) (put1 i) := fun env A σ l l' hp s av v Q E hh S f rv hp' h => by
  cases hp'
  exact wpAny_assign_Name (store_prim S f hw rv fun s' a fr _ => h s' a fr)
theorem tup_of {B : Bs} (rv : RV B h σ (.tup xs) v) : ∃ a ws, v = .ref a /\ h.IsTuple a ws /\ RVs B h σ xs ws.toList := by
  refine xEEEAA rv fun a ws n qq1 o r => ?_; try clear rv; subst qq1
  exact ⟨a, ws, rfl, isTuple_of o, r⟩
theorem tgtsOf_is : ∀ {ts : List Expr} {is : List Nat}, tgtsOf cx ts = some is -> ts.length = is.length /\ ∀ env, (assignEach ts env).length = is.length /\ (assignEach ts env).findIdx? (·.1) = none
  | [], is, h => by cases h; exact ⟨rfl, fun env => ⟨rfl, rfl⟩⟩
  | t :: r, is, h => by
    refine xEA (opt_bind h) fun i hi h => ?_
    refine xEA (opt_bind h) fun js hj h => ?_
    rcases opt_pure h with rfl
    refine xA (tgtsOf_is hj) fun h1 h2 => ?_
    refine xEA (opt_bind hi) fun y hy hw => ?_
    rcases t with _ | _
    case Name y' p =>
      refine ⟨by rw [List.length_cons, List.length_cons, h1], fun env => ?_⟩
      refine xA (h2 env) fun q1 q2 => ?_
      show ((false, assign (.Name y' p) env) :: assignEach r env).length = _ /\ ((false, assign (.Name y' p) env) :: assignEach r env).findIdx? (·.1) = none
      rw [List.length_cons, List.length_cons, q1, List.findIdx?_cons, q2]
      exact ⟨rfl, rfl⟩
    all_goals exact none_ne hy
theorem assign_all : ∀ {ts : List Expr} {is : List Nat}, tgtsOf cx ts = some is -> ∀ {avs : List AV} {vs : List Value} {σ : Sg} {l : Locs} {hp : AHeap} {s : Shared} {Q : Unit -> Shared -> Prop} {E : Value -> Shared -> Prop}, is.length = avs.length -> RVs P.B s.heap σ avs vs -> St P.w P.B σ hp s.heap -> Frm P s.heap σ env cx l ->
    (∀ s', After P σ σ (FX env) hp s s' -> Frm P s'.heap σ env cx (putAll is avs l) -> Q () s') -> wpAny (model P.prog P.w) A (assignInOrder ((assignEach ts env).map (·.2)) vs) Q E s
  | [], is, h, avs, vs, σ, l, hp, s, Q, E, hl, rv, S, f, k => by
    cases h
    rcases avs with _ | ⟨_, _⟩
    case cons => exact nomatch hl
    case nil =>
      rcases rv.nil with rfl
      exact wpAny_pure (k s (.refl S) f)
  | t :: r, is, h, avs, vs, σ, l, hp, s, Q, E, hl, rv, S, f, k => by
    refine xEA (opt_bind h) fun i hi h => ?_
    refine xEA (opt_bind h) fun js hj h => ?_
    rcases opt_pure h with rfl
    refine xEA (opt_bind hi) fun y hy hw => ?_
    rcases avs with _ | ⟨av, avs⟩
    case nil => exact nomatch hl
    case cons =>
      refine xEEAA rv.cons fun v ws qq1 r1 r2 => ?_; subst qq1
      rcases t with _ | _
      case Name y' p =>
        cases hy
        show wpAny _ _ (do holding ws (assign (.Name y p) env v); assignInOrder ((assignEach r env).map (·.2)) ws) _ _ _
        refine wpAny_bind (wpAny_holding (wpAny_assign_Name (store_prim S f hw r1 fun s' a fr _ => ?_)))
        exact assign_all hj (Nat.succ.inj hl) (RVs.grows a.gr _ _ r2) a.st fr fun s'' a' fr' => k s'' (a.trans a') fr'
      all_goals exact none_ne hy
theorem puts_is (h : puts is l v = some l') : ∃ vs, v = .tup vs /\ is.length = vs.length /\ l' = putAll is vs l := by
  rcases v with _ | _
  case tup vs =>
    have h : (if is.length = vs.length then some (putAll is vs l) else none) = some l' := h
    split at h
    . rename_i hl; cases h; exact ⟨vs, rfl, hl, rfl⟩
    . cases h
  all_goals exact none_ne h
theorem tgt_tuple {ts : List Expr} (ht : tgtsOf cx ts = some is) : Tgt P cx (.Tuple ts x1 p) (puts is) := fun env A σ l l' hp s av v Q E hh S f rv hp' h => by
  refine xEAA (puts_is hp') fun vs qq1 hl qq2 => ?_; subst qq1; subst qq2
  refine xEEAA (tup_of rv) fun a ws qq1 hT rvs => ?_; subst qq1
  refine xA (tgtsOf_is ht) fun _ h2 => ?_
  refine wpAny_assign_Tuple hh hT ((h2 env).1.trans (hl.trans rvs.size)) (h2 env).2 fun h' hx => ?_
  have hk : ∀ b o, s.heap.get? b = some o -> h'.get? b = some o := fun b o e => hx b o (Nat.ne_of_lt (Heap.lt_size e)) e
  have a₁ : After P σ σ [] hp s { s with heap := h' } := ⟨rfl, S.keep hk, grows_keep hk⟩
  exact assign_all ht hl (RVs.grows a₁.gr _ _ rvs) a₁.st (f.after a₁) fun s' a' fr' => h s' (a₁.toX.trans a') fr'
theorem loopT {body : List Stmt} (I : Nat -> Shared -> Prop)
    (turn : ∀ n s, I n s -> wpAny (model prog w) A (pyNext it) (fun r s₁ => match r with
      | none => R (.ok .next) s₁
      | some v => wpAny (model prog w) A (letOwnedTupleGo target it v) (fun _ s₁ => wpAny (model prog w) A (assign target env v) (fun _ s₂ => wpAny (model prog w) A (execs body env) (fun f s₃ => match f with
          | .next | .cont => ∃ m, m < n /\ I m s₃
          | .brk => R (.ok .next) s₃
          | .ret v => R (.ok (.ret v)) s₃) (notedBy (model prog w) A env fun e s' => R (.error e) s') s₂) (notedBy (model prog w) A env fun e s' => R (.error e) s') s₁) (notedBy (model prog w) A env fun e s' => R (.error e) s') s₁) (notedBy (model prog w) A env fun e s' => R (.error e) s') s)
    (n : Nat) (h : I n s) : codeAny (model prog w) A (.forLoop target it body [] env) R s := by
  refine codeAny_loop' rfl I (fun n s hI => ?_) n h
  show wpAny _ _ ((forTurn target it body [] env).onRaise (fun x => do noteFrame x env; theTreesLotGoes x)) _ _ s
  refine wpAny_noted ?_
  simp only [forTurn]
  refine wpAny_bind (wpAny_standAt (wpAny_bind (wpAny_onRaise (wpAny_mono (turn n s hI) (fun r s₁ h₁ => ?_) fun _ _ h' => wpAny_standAt h'))))
  rcases r with _ | v
  case none => exact wpAny_pure (.inr ⟨rfl, codeAny_block (wpAny_execs_nil h₁)⟩)
  case some =>
    refine wpAny_bind (wpAny_mono h₁ (fun _ s₂ h₂ => wpAny_bind (wpAny_mono h₂ (fun _ s₂ h₂ => wpAny_bind (wpAny_mono h₂ (fun f s₃ h₃ => ?_) fun _ _ h' => h')) fun _ _ h' => h')) fun _ _ h' => h')
    rcases f with _ | _ | _ | v
    case next => exact wpAny_pure (.inl ⟨rfl, h₃⟩)
    case cont => exact wpAny_pure (.inl ⟨rfl, h₃⟩)
    case brk => exact wpAny_pure h₃
    case ret => exact wpAny_pure h₃
theorem owned_go {it a : Addr} (x : IterObj s.heap it) (h : Q () s) : wpAny (model P.prog P.w) A (letOwnedTupleGo target (.ref it) v) Q E s := by
  refine xEEEAAA x fun o T fs ho hc ht hd => ?_
  have tail : ∀ {r : Addr}, wpAny (model P.prog P.w) A (load it >>= fun o => match o.cls, o.data with
      | .type n, .fields vs => if (["enumerate", "zip", "dict_itemiterator", "dict_reverseitemiterator", "odict_iterator", "itertools.zip_longest", "itertools.pairwise"].contains n && vs[0]? == some (rawInt r)) = true then (do rule "for.unpacks-the-owned-tuple"; updateField it 0 .none) else pure ()
      | _, _ => pure ()) Q E s := fun {r} => by
    refine wpAny_bind (wpAny_load ho ?_)
    rw [hc, hd]
    dsimp only
    rw [if_neg (by rw [show (["enumerate", "zip", "dict_itemiterator", "dict_reverseitemiterator", "odict_iterator", "itertools.zip_longest", "itertools.pairwise"].contains T) = false from ht.2, Bool.false_and]; exact Bool.false_ne_true)]
    exact wpAny_pure h
  unfold letOwnedTupleGo
  rcases target with _ | _
  case Tuple => rcases v with _ | _ <;> first | exact tail | exact wpAny_pure h
  case List => rcases v with _ | _ <;> first | exact tail | exact wpAny_pure h
  all_goals exact wpAny_pure h
theorem iter_same {X : List Addr} {it : Addr} {src : AV} {k : Nat} (g : Grows σ σ' X s.heap s'.heap) (hn : it ∉ σ.map (·.1)) (hX : it ∉ X) (x : IterAt P s.heap σ it src k) : IterAt P s'.heap σ' it src k /\ it ∉ σ'.map (·.1) := by
  refine xEEEAAA x.obj fun o T fs ho hc ht hd => ?_
  have : s'.heap.get? it = some o := by
    rcases g.oth it o ho hn hX with q | ⟨hcf, _⟩
    . exact q
    . obtain ⟨_, _, hcf⟩ := hcf; rw [hd] at hcf; cases hcf
  exact ⟨x.keep g (this.trans ho.symm), not_mem_grown g ho hn⟩
theorem items_of {src : AV} (hb : forLoop put f src fuel k l hp ≠ .bad) : ∃ xs, itemsAV src hp = some xs := by
  rcases hi : itemsAV src hp with _ | xs
  case some => exact ⟨xs, rfl⟩
  case none =>
    exfalso; apply hb
    rcases fuel with _ | f
    case zero => rfl
    case succ => rw [for_succ]; delta nextAt; rw [hi]; rfl
theorem if_q (h : (if q = true then SR.bad else x) ≠ .bad) : q = false := by
  rcases q with _ | _
  case false => rfl
  case true => exact absurd rfl h
structure Held (P : Par) (env : Env) (cx : Cx) (σ : Sg) (s : Shared) (k : Str) (e : Addr) (l' : Locs) (hp' : AHeap) (σ' : Sg) (s' : Shared) : Prop where
  a : After P σ σ' (FX env) hp' s s'
  f : FlyT P σ' s.heap k e s'.heap
  fr : Frm P s'.heap σ' env cx l'
theorem InvS.fresh (I : InvS P cx n q env A σ l hp s) (h : s.heap.get? d = none) : d ≠ env.locals /\ ∀ p ∈ env.cells, p.2 ≠ d := by
  refine ⟨fun e => ?_, fun p hp e => ?_⟩
  . refine xEEEA I.fr.nsObj fun o _ _ ho _ => ?_
    rw [<- e, h] at ho; cases ho
  . refine xEEA (I.fr.cells p hp) fun o _ ho _ => ?_
    rw [e, h] at ho; cases ho
theorem Held.touch (I : InvS P cx n q env A σ l hp s) (hfr : A.frames = some (env :: outer)) {σ' : Sg} (a : After P σ σ' (FX env) hp' s s') (fr : Frm P s'.heap σ' env cx l')
    (t : Tch σ' s.heap (places (env :: outer)) D s'.heap h') (ft : FlyT P σ' s.heap k e h') : Held P env cx σ s k e l' hp' σ' { s' with heap := h' } := by
  have F := I.fs.afterX a.gr I.fr fr
  refine ⟨a.touch I.st.base t fun b hb => F.place hfr hb, ft, fr.touch (s₀ := s) t (fun b hb => (F.place hfr hb).2.2) (fun hd => (I.fresh (t.new _ hd).1).1 rfl) fun p hp hd => (I.fresh (t.new _ hd).1).2 p hp rfl⟩
theorem QES.out (I : InvS P cx n q env A σ l hp s) (hr : ∀ k l h, r = .exc k l h -> R = .exc k l h) (q : QES P env cx σ s r v s'') :
    notedBy (model P.prog P.w) A env (fun e s' => cameBackBy (model P.prog P.w) A env (QES P env cx σ s R) e s') v s'' := by
  obtain ⟨k, l₂, h2, σ₂, e, er, rfl, b, fl, fr⟩ := q
  refine xE I.top fun outer hfr => ?_
  refine xA (alive b) fun al1 al2 => ?_
  have F := I.fs.afterX b.gr I.fr fr
  refine note_fly hfr F I.own al1 al2 fl fun h' D t ft => back_fly (s := { s'' with heap := h' }) (Fs := places (env :: outer)) ft fun h'' D' t' ft' => ?_
  have H := Held.touch I hfr b fr (t.trans t') ft'
  exact ⟨k, l₂, h2, σ₂, e, hr _ _ _ er, rfl, H.a, H.f.fly, H.fr⟩
inductive ForInv (P : Par) (cx : Cx) (env : Env) (put : Locs -> AV -> Option Locs) (c : Ctx) (xb : Ss) (src : AV) (σ : Sg) (s : Shared) (it : Addr) (R : SR) (f : Nat) (s' : Shared) : Prop
  | mk (k : Nat) (l' : Locs) (hp' : AHeap) (σ' : Sg) (hR : forLoop put (fun l h => execSs c xb l h) src f k l' hp' = R) (a : After P σ σ' (FX env) hp' s s') (fr : Frm P s'.heap σ' env cx l') (hit : IterAt P s'.heap σ' it src k) (hn : it ∉ σ'.map (·.1)) : ForInv P cx env put c xb src σ s it R f s'
theorem simFor {b : List Stmt} (ht : Tgt P cx t put) (hce : ∃ x, compE kk cx e = some x) (h : SimE P cx e x) (hbody : SimSs P cx b xb)
    (hy : ∀ c l h, execS c y l h = (evalX c x l h).st l fun src h => if c.q then .bad else forLoop put (fun l h => execSs c xb l h) src c.fuel 0 l h) : SimSt P cx (.For t e b [] pos) y := by
  intro c n env A σ l hp s C I hb
  rw [hy] at hb |-
  refine wpAny_For (seqS (G := fun R v s₁ => wpAny (model P.prog P.w) A (pyIter v) (fun it s₂ => codeAny (model P.prog P.w) A (.forLoop t it b [] env) (fun r s' => match r with | .ok f => QS P env cx σ s R f s' | .error e => cameBackBy (model P.prog P.w) A env (QES P env cx σ s R) e s') s₂) (QES P env cx σ s R) s₁) (.refl I.st) I.fr (h c n env A σ l hp s C I.toInv (st_ok hb)) hb ?_) (fun v => hce.elim fun _ q => folded_ok q v)
  intro src hp₁ σ₁ v s₁ a₁ rv hb
  have hq := if_q hb
  rw [if_neg (by rw [hq]; exact Bool.false_ne_true)] at hb |-
  have hh := I.ar.handled hq
  refine xE (items_of hb) fun xs hi => ?_
  refine iter_prim C.ok a₁.st rv hi fun it s₂ hn0 hnσ hnb a₂ hit => ?_
  generalize hR : forLoop put (fun l h => execSs c xb l h) src c.fuel 0 l hp₁ = R at hb |-
  have hn₀ : s.heap.get? it = none := new_before a₁.gr hn0
  refine loopT (ForInv P cx env put c xb src σ s it R) ?_ c.fuel
    ⟨0, l, hp₁, σ₁, hR, (a₁.trans a₂).toX, (I.fr.after (a₁.trans a₂)), hit, hnσ⟩
  rintro f s' ⟨k, l', hp', σ', hR', a, fr, hit, hnσ'⟩
  have ho := hit.obj
  rcases f with _ | f
  case zero => exact absurd hR'.symm hb
  case succ =>
    rw [for_succ] at hR'
    rcases hnx : nextAt src k hp' with _ | r
    case none => rw [hnx] at hR'; exact absurd hR'.symm hb
    case some =>
      rw [hnx] at hR'
      refine next_prim a.st hh hit hnx (fun er h' hs => ?_) (fun av u h' tt er ru hs hit' => ?_)
      . subst er
        refine xAA (a.extBut (t := s'.toks) hs hn₀ hnσ' hnb ho.notFixed) fun a' hx' hk' => ?_
        show QS P env cx σ s R .next _
        rw [<- hR']
        exact ⟨_, _, _, _, rfl, a', rfl, fr.extBut (frm_iter fr ho) hx' hk'⟩
      . subst er
        have hR' : (match put l' av with | some l' => (execSs c xb l' hp').lap (forLoop put (fun l h => execSs c xb l h) src f (k + 1)) | none => SR.bad) = R := hR'
        obtain ⟨lb, hpt⟩ : ∃ lb, put l' av = some lb := by
          rcases hpt : put l' av with _ | lb
          case none => rw [hpt] at hR'; exact absurd hR'.symm hb
          case some => exact ⟨lb, rfl⟩
        rw [hpt] at hR'
        have hR' : (execSs c xb lb hp').lap (forLoop put (fun l h => execSs c xb l h) src f (k + 1)) = R := hR'
        refine xAA (a.extBut (t := tt) hs hn₀ hnσ' hnb ho.notFixed) fun a' hx' hk' => ?_
        have hit2 := hit' fun b o e f => hk' b o (fun q => by
          subst q
          refine xEA ho.notFixed fun o2 e2 hf2 => ?_
          rw [e2] at e; cases e; exact hf2 f) e
        have fr' := fr.extBut (frm_iter fr ho) hx' hk'
        refine owned_go (s := { s' with heap := h', toks := tt }) (a := 0) hit2.obj ?_
        refine ht env A σ' l' lb hp' { s' with heap := h', toks := tt } av u _ _ hh a'.st fr' (hx' _ _ ru) hpt fun s₃ a₃ fr₃ => ?_
        refine xA (iter_same (s := { s' with heap := h', toks := tt }) a₃.gr hnσ' (frm_iter (s := { s' with heap := h', toks := tt }) fr' hit2.obj) hit2) fun hit3 hn3 => ?_
        have a4 := a'.trans a₃
        refine wpAny_mono (hbody c n env A σ' lb hp' s₃ C (I.afterX a4 fr₃) (lap_ok (hR'.symm ▸ hb))) (fun fl s₄ q => ?_) (fun _ _ q => (q.lift a4).out I fun k l h er => by rw [<- hR', er]; rfl)
        obtain ⟨fl', l₄, hp₄, σ₄, e4, a₄, rf, fr₄⟩ := q
        rw [e4] at hR'
        have a5 := a4.trans a₄
        rcases fl' with _ | av | _
        case next =>
          rcases (show fl = .next from rf) with rfl
          refine xA (iter_same a₄.gr hn3 (frm_iter fr₃ hit3.obj) hit3) fun hit4 hn4 => ?_
          exact ⟨f, Nat.lt_succ_self f, ⟨k + 1, l₄, hp₄, σ₄, hR', a5, fr₄, hit4, hn4⟩⟩
        case cont =>
          rcases (show fl = .cont from rf) with rfl
          refine xA (iter_same a₄.gr hn3 (frm_iter fr₃ hit3.obj) hit3) fun hit4 hn4 => ?_
          exact ⟨f, Nat.lt_succ_self f, ⟨k + 1, l₄, hp₄, σ₄, hR', a5, fr₄, hit4, hn4⟩⟩
        case ret =>
          refine xEA rf fun v qq1 rv => ?_; try clear rf; subst qq1
          show QS P env cx σ s R (.ret v) s₄
          rw [<- hR']
          exact ⟨_, _, _, _, rfl, a5, ⟨v, rfl, rv⟩, fr₄⟩
theorem simSt_asgt {x1 : Nat} (ht : tgtsOf cx ts = some is) (hc : isComp e = false) (hnt : isTup e = false) (h : SimE P cx e x) : SimSt P cx (.Assign [.Tuple ts x1 p] e pos) (.asgt is x) := by
  intro c n env A σ l hp s C I hb
  rw [s_asgt] at hb |-
  have hw : swappedStores [.Tuple ts x1 p] e env = pure none := by
    unfold swappedStores
    rcases e with _ | _ <;> first | rfl | (cases hnt; done)
  refine wpAny_Assign_stores (seqS (G := fun R v s₁ => wpAny (model P.prog P.w) A (assign (.Tuple ts x1 p) env v) (fun _ => QS P env cx σ s R .next) (QES P env cx σ s R) s₁) (.refl I.st) I.fr (h c n env A σ l hp s C I.toInv (st_ok hb)) hb ?_) (show swapsWithSole [.Tuple ts x1 p] e pos.line env = pure false from swaps_no (env := env) (t := some (.Tuple ts x1 p)) (k := pos.line) hc) hw
  intro av hp₁ σ₁ v s₁ a₁ rv hb
  have hq := if_q hb
  rw [if_neg (by rw [hq]; exact Bool.false_ne_true)] at hb |-
  rcases hpt : puts is l av with _ | l'
  case none => rw [hpt] at hb; exact absurd rfl hb
  case some =>
    refine tgt_tuple ht env A σ₁ l l' hp₁ s₁ av v _ _ (I.ar.handled hq) a₁.st (I.fr.after a₁) rv hpt fun s' a fr => ?_
    exact ⟨_, _, _, _, rfl, a₁.toX.trans a, rfl, fr⟩
theorem simSt_bad {st : Stmt} : SimSt P cx st .bad := fun c n env A σ l hp s C I hb => absurd rfl hb
theorem simSt_cont : SimSt P cx (.Continue pos) .cont := by
  intro c n env A σ l hp s C I hb
  have he : exec (.Continue pos) env = (do standAt pos; pure .cont) := rfl
  rw [he]
  exact wpAny_bind (wpAny_standAt (wpAny_pure ⟨_, _, _, _, rfl, .refl I.st, rfl, I.fr⟩))
theorem simSt_raise (hg : cx.isGlob k = true) (hk : (cx.excs.lookup k).isSome = true) : SimSt P cx (.Raise (some (.Call (.Name k np) [.Constant (.str w) m cp] [] cpos)) none pos) (.raise k) := by
  intro c n env A σ l hp s C I hb
  rw [s_raise] at hb |-
  have hq := if_q hb
  rw [if_neg (by rw [hq]; exact Bool.false_ne_true)]
  refine xE (Option.isSome_iff_exists.mp hk) fun ks hks => ?_
  refine xE (C.exc.own k ks hks) fun D O => ?_
  rcases ownX (O.keeps I.st.base) with ⟨bm, N, nm, qn, bs, hdct, sn, sub, ab, col, dd, k0, k1, k2, k3, k5, mN, hC, hN, hqn, T⟩
  refine wpAny_Raise_call_subT (C := D) (nm := nm) (q := qn) (N := N) (bs := bs) (bm := bm) (hdct := hdct) (sn := sn) (sub := sub) (ab := ab) (col := col) (dd := dd) (k0 := k0) (k1 := k1) (k2 := k2) (k3 := k3) (k5 := k5) (mN := mN) F.excBase_ValueError (T.tail.hasType (b := true) (by decide)) (I.ar.handled hq) rfl (hqn _ (.head _)) (load_glob C I.toInv hg O.bound ⟨rfl, ?_⟩)
  refine evalArgs_es (P := P) rfl (wpAny_items_cons (wpAny_Constant_str (wpAny_items_nil ?_)))
  refine ⟨rfl, Nat.le_trans (show 1 <= 1 from Nat.le_refl _) (by decide), hC, hN, T.tail, fun h' e M => ?_⟩
  refine xEAA M.there fun t he htn ht => ?_
  have a : After P σ σ (FX env) hp s { s with heap := h', toks := s.toks + 1 } := ⟨rfl, I.st.keep M.keeps, grows_keep M.keeps⟩
  refine ⟨k, l, hp, σ, e, rfl, rfl, a, ⟨⟨_, _, D, he, O.bound, rfl, rfl, .inl rfl⟩, M.new, fun hm => ?_⟩, I.fr.after (s' := { s with heap := h', toks := s.toks + 1 }) (hp' := hp) ⟨rfl, I.st.keep M.keeps, grows_keep M.keeps⟩⟩
  refine xEA (List.mem_map.mp hm) fun p hp q => ?_
  refine xEA (I.st.there hp) fun o e' _ => ?_
  rw [q, M.new] at e'; cases e'
end
end
section
open PySem PySem.Spec PyProof.Rows PySem.SeqAt
section
variable {M : Model} {A : Around} {E : Value -> Shared -> Prop}
theorem exc_match {h : Heap} {g : Array GenState} {d : Drawn} {t : Nat} {os : OsState} {C D e N N' : Addr} {oe : Obj} {b : Bool} {nm q nm' q' : Str} {bs bm bs' bm' : List Value} {hdct hdct' : Bool} {sn sn' : List Str} {sub sub' : List Value} {ab ab' : Bool} {col col' : Option Bool} {dd dd' : Option Addr} {k0 k1 k2 k3 k5 l0 l1 l2 l3 l5 : Option Value} {newId newId' : String} {Q : Bool -> Shared -> Prop}
    (hC : h.get? C = some (excClassObj nm q C N bs bm hdct sn sub ab col dd k0 k1 k2 k3 k5 newId)) (hD : h.get? D = some (excClassObj nm' q' D N' bs' bm' hdct' sn' sub' ab' col' dd' l0 l1 l2 l3 l5 newId')) (he : h.get? e = some oe) (hcls : oe.cls = .ref C)
    (hbase : bm'.contains (.type "BaseException") = true) (hm : (Value.ref C :: bm).contains (.ref D) = b) (hq : Q b ⟨h, g, d, t, os⟩) : wpAny M A (excMatches (.ref e) (.ref D)) Q E ⟨h, g, d, t, os⟩ := by
  have hcB : (Value.ref D :: bm').contains (.type "BaseException") = true := by rw [List.contains_cons, hbase, Bool.or_true]
  have f := tc_notTuple
  unfold excMatches
  repeat (first | (with_reducible refine wpAny_loadPart_at he ?_; rw [hcls]) | with_reducible refine wpAny_loadPart_at hD ?_ | (with_reducible refine wpAny_isSubtype_exc hD ?_; rw [hcB]) | (with_reducible refine wpAny_isSubtype_exc hC ?_; rw [hm]) | wp_step)
  rcases b with _ | _ <;> (wp_walk; exact hq)
end
inductive HSim (P : Par) (cx : Cx) : List ExceptHandler -> Hs -> Prop
  | nil : HSim P cx [] .nil
  | cons {j : Str} {np hpos : Pos} {b₀ : Stmt} {bs : List Stmt} {xb : Ss} {hs : List ExceptHandler} {xr : Hs} (hg : cx.isGlob j = true) (ha : (cx.excs.any fun p => p.2.contains j) = true) (hb : SimSs P cx (b₀ :: bs) xb) (hr : HSim P cx hs xr) :
      HSim P cx (.ExceptHandler (some (.Name j np)) none (b₀ :: bs) hpos :: hs) (.cons (taken cx.excs j) xb xr)
section
variable {P : Par} {cx : Cx} {env : Env} {A : Around} {σ σ' : Sg} {l l' : Locs} {hp hp' : AHeap} {s s' : Shared} {n : Nat} {q : Bool}
theorem taken_is {excs : List (Str × List Str)} {j k : Str} {ks : List Str} (h : excs.lookup k = some ks) : (taken excs j).contains k = ks.contains j := by
  have hm : k ∈ excs.map (·.1) := List.mem_map.mpr ⟨_, mem_of_lookup' h, rfl⟩
  rcases hc : ks.contains j with _ | _
  case true => exact List.contains_iff_mem.mpr (List.mem_filter.mpr ⟨hm, by rw [h]; exact hc⟩)
  case false =>
    rcases hq : (taken excs j).contains k with _ | _
    case false => rfl
    case true =>
      have := (List.mem_filter.mp (List.contains_iff_mem.mp hq)).2
      rw [h] at this
      exact absurd (hc.symm.trans this) Bool.false_ne_true
theorem taken_known {excs : List (Str × List Str)} {j k : Str} (h : (taken excs j).contains k = true) : ∃ ks, excs.lookup k = some ks := by
  have := (List.mem_filter.mp (List.contains_iff_mem.mp h)).2
  rcases hq : excs.lookup k with _ | ks
  case none => rw [hq] at this; exact absurd this Bool.false_ne_true
  case some => exact ⟨ks, rfl⟩
theorem handle_known {c : Ctx} {k : Str} {hs : List ExceptHandler} {xs : Hs} (H : HSim P cx hs xs) (hb : handle c xs k l hp ≠ .bad) : ∃ ks, cx.excs.lookup k = some ks := by
  induction H with
  | nil => exact absurd rfl hb
  | cons hg ha hbd hr ih =>
    rw [h_cons] at hb
    split at hb
    . rename_i hq; exact taken_known hq
    . exact ih hb
theorem Arnd.mark {v : Value} (ar : Arnd n q A) : Arnd n true (A.mark (some v)) := ⟨⟨ar.frames, ar.depth, ar.units, fun e => nomatch e⟩, ar.depth1, ar.units1, ar.frame⟩
theorem Sims.quiet {c : Ctx} (C : Sims P cx c n) : Sims P cx c.quiet n := ⟨C.ok, C.fq, C.fq, C.meths, C.attrs, C.cls, C.init, C.exc, C.g⟩
theorem Held.inv (I : InvS P cx n q env A σ l hp s) {k : Str} {e : Addr} {l₁ : Locs} {hp₁ : AHeap} {σ₁ : Sg} {s₁ : Shared} (H : Held P env cx σ s k e l₁ hp₁ σ₁ s₁) : InvS P cx n true env (A.mark (some (.ref e))) σ₁ l₁ hp₁ s₁ :=
  ⟨⟨H.a.st, H.fr, I.ar.mark, I.fs.afterX H.a.gr I.fr H.fr⟩, I.top, I.own⟩
theorem handle_sim {c : Ctx} (C : Sims P cx c n) (I : InvS P cx n c.q env A σ l hp s) {k : Str} {e : Addr} {l₁ : Locs} {hp₁ : AHeap} {σ₁ : Sg} {ks : List Str} (hk : cx.excs.lookup k = some ks) {hs : List ExceptHandler} {xs : Hs} (H : HSim P cx hs xs) :
    ∀ {s₁ : Shared}, Held P env cx σ s k e l₁ hp₁ σ₁ s₁ -> handle c xs k l₁ hp₁ ≠ .bad -> wpAny (model P.prog P.w) A (handleBy (.ref e) env hs) (QS P env cx σ s (handle c xs k l₁ hp₁)) (QES P env cx σ s (handle c xs k l₁ hp₁)) s₁ := by
  induction H with
  | nil => intro s₁ _ hb; exact absurd rfl hb
  | @cons j np hpos b₀ bs xb hs xr hg ha hbd hr ih =>
    intro s₁ H hb
    rw [h_cons, taken_is hk] at hb |-
    refine xE (C.exc.cat j ha) fun D O => ?_
    refine xE I.top fun outer hfr => ?_
    have I₁ := H.inv I
    refine wpAny_handleBy_cons (codeAny_handlers_test (load_glob C.quiet I₁.toInv hg O.bound ?_)) (by intro q; cases q)
    refine xEEEEEEEAAA H.f.obj fun oe vs C' T oT ts fv he hgk hc r => ?_
    refine xE (C.exc.own k ks hk) fun K OK => ?_
    have : C' = K := by have := OK.bound; rw [hgk] at this; cases this; rfl
    subst this
    have hm := C.exc.sub k ks j C' D
    rcases ownX (O.keeps H.a.st.base) with ⟨bmD, _, _, _, _, _, _, _, _, _, _, _, _, _, _, _, _, hD, _, _, TD⟩
    rcases ownX OK with ⟨bmC, _, _, _, _, _, _, _, _, _, _, _, _, _, _, _, _, hC0, _, _, _⟩
    have hC := H.a.st.base _ _ hC0
    have hsub := hm _ _ hk ha hgk O.bound hC0 rfl
    obtain ⟨hh, g, d, t, os⟩ := s₁
    refine exc_match hC hD he hc (TD.tail.hasType (b := true) (by decide)) hsub ?_
    rcases hj : ks.contains j with _ | _
    case false =>
      rw [hj] at hb
      exact ih H hb
    case true =>
      rw [hj] at hb
      refine xAA (noExcS_ok (show (execSs c.quiet xb l₁ hp₁).noExc ≠ .bad from hb)) fun hy1 hy2 hy3 => ?_
      show codeAny _ _ (.handlers (.ref e) [.ExceptHandler none none (b₀ :: bs) hpos] env) _ _
      refine codeAny_handlers_suite (flight_fly (Fs := places (env :: outer)) H.f fun h' Dd tt ft => ?_)
      have H₂ := Held.touch I hfr H.a H.fr tt ft
      refine wpAny_mono (hbd c.quiet n env _ σ₁ l₁ hp₁ _ C.quiet (H₂.inv I) hy1) (fun fl s₃ q => ?_) (fun _ _ q => (q.none hy2).elim)
      show QS P env cx σ s (execSs c.quiet xb l₁ hp₁).noExc fl s₃
      rw [hy3]
      exact q.lift H₂.a
theorem simSt_try {b : List Stmt} {xb : Ss} {h₀ : ExceptHandler} {hs : List ExceptHandler} {xs : Hs} {pos : Pos} (hb : SimSs P cx b xb) (H : HSim P cx (h₀ :: hs) xs) : SimSt P cx (.Try b (h₀ :: hs) [] [] pos) (.tryx xb xs) := by
  intro c n env A σ l hp s C I hbad
  rw [s_try] at hbad |-
  have hq := if_q hbad
  rw [if_neg (by rw [hq]; exact Bool.false_ne_true)] at hbad |-
  have hb1 : execSs c xb l hp ≠ .bad := fun e => hbad (by rw [e])
  refine wpAny_Try_except (wpAny_mono (hb c n env A σ l hp s C I hb1) (fun fl s' q => ?_) (fun v s' q => ?_))
  . obtain ⟨fl', l', hp', σ', e, a, rf, fr⟩ := q
    rw [e]
    rcases fl' with _ | av | _
    case next => rcases (show fl = .next from rf) with rfl; exact wpAny_execs_nil ⟨_, _, _, _, rfl, a, rfl, fr⟩
    case ret => refine xEA rf fun v qq1 rv => ?_; try clear rf; subst qq1; exact ⟨_, _, _, _, rfl, a, ⟨v, rfl, rv⟩, fr⟩
    case cont => rcases (show fl = .cont from rf) with rfl; exact ⟨_, _, _, _, rfl, a, rfl, fr⟩
  . obtain ⟨k, l₂, h2, σ₂, e, er, rfl, a, fl, fr⟩ := q
    rw [er] at hbad |-
    have hbad : handle c xs k l₂ h2 ≠ .bad := hbad
    refine xE (handle_known H hbad) fun ks hk => ?_
    refine xE I.top fun outer hfr => ?_
    refine xA (alive a) fun al1 al2 => ?_
    refine leave_fly hfr (I.fs.afterX a.gr I.fr fr) I.own al1 al2 fl fun h' D t ft => ?_
    exact handle_sim C I hk H (Held.touch I hfr a fr t ft) hbad
end
end
section
open PySem PySem.Spec PyProof.Rows PySem.SeqAt
theorem lookup_of_mem' {α : Type} : ∀ {l : List (Str × α)}, (l.map (·.1)).Nodup -> ∀ {x : Str} {v : α}, (x, v) ∈ l -> l.lookup x = some v
  | [], _, _, _, h => nomatch h
  | (k, w) :: r, nd, x, v, h => by
    rw [List.map_cons, List.nodup_cons] at nd
    rw [List.lookup_cons]
    rcases List.mem_cons.mp h with e | h2
    . cases e; rw [BEq.rfl]
    . have hne : (x == k) = false := beq_eq_false_iff_ne.mpr fun e => nd.1 (List.mem_map.mpr ⟨(x, v), h2, e⟩)
      rw [hne]
      exact lookup_of_mem' nd.2 h2
section
variable {env : Env}
noncomputable def relK (env : Env) (x : Str) (k : NameKind) : NameKind := if (k == .free && env.scope.kind == .function && env.kindOf x == some .cell) then .cell else k
theorem relabel_lookup : ∀ {names : List (Str × NameKind)} {x : Str} {k : NameKind}, names.lookup x = some k ->
    (names.map fun (n, k) => if (k == NameKind.free && env.scope.kind == .function && env.kindOf n == some .cell) then (n, NameKind.cell) else (n, k)).lookup x = some (relK env x k)
  | [], _, _, h => by cases h
  | (n, k) :: r, x, k', h => by
    have ih := @relabel_lookup r x k'
    rw [List.lookup_cons] at h
    show List.lookup x ((if (k == NameKind.free && env.scope.kind == .function && env.kindOf n == some .cell) = true then (n, NameKind.cell) else (n, k)) :: _) = _
    have e : (if (k == NameKind.free && env.scope.kind == .function && env.kindOf n == some .cell) = true then (n, NameKind.cell) else (n, k)) = (n, relK env n k) := by
      unfold relK; split <;> rfl
    rw [e, List.lookup_cons]
    rcases hx : x == n with _ | _
    case true => rw [hx] at h; cases h; rw [beq_iff_eq.mp hx]
    case false => rw [hx] at h; exact ih h
theorem lookup_first {α : Type} {c : α} : ∀ {l : List (Str × α)}, (x, c) ∈ l -> ∃ c', l.lookup x = some c' /\ (x, c') ∈ l
  | [], h => nomatch h
  | (k, w) :: r, h => by
    rw [List.lookup_cons]
    rcases hx : x == k with _ | _
    case true => exact ⟨w, rfl, by rw [beq_iff_eq.mp hx]; exact List.mem_cons_self⟩
    case false =>
      rcases List.mem_cons.mp h with e | h
      . cases e; simp at hx
      . refine xEA (lookup_first h) fun c' h1 h2 => ?_
        exact ⟨c', h1, List.mem_cons_of_mem _ h2⟩
theorem closure_from : ∀ (names : List (Str × NameKind)) (acc : List (Str × Addr)), (∀ p ∈ names, p.2 = .free -> ∃ c, env.cells.lookup p.1 = some c) ->
    ∃ cl, (forIn names acc fun (x : Str × NameKind) (cs : List (Str × Addr)) => match x with
        | (name, kind) => if (kind == NameKind.free) = true then do let a <- cellOf env name; pure (ForInStep.yield ((name, a) :: cs)) else pure (ForInStep.yield cs)) = (pure cl : Sem _) /\
      (∀ q ∈ cl, q ∈ acc \/ env.cells.lookup q.1 = some q.2) /\ (∀ q ∈ acc, q ∈ cl) /\ ∀ p ∈ names, p.2 = .free -> ∃ c, (p.1, c) ∈ cl
  | [], acc, _ => ⟨acc, by rw [List.forIn_nil], fun q h => .inl h, fun q h => h, fun p hp => nomatch hp⟩
  | (n, k) :: r, acc, H => by
    have Hr : ∀ p ∈ r, p.2 = .free -> ∃ c, env.cells.lookup p.1 = some c := fun p hp => H p (List.mem_cons_of_mem _ hp)
    by_cases hk : k = .free
    . subst hk
      refine xE (H (n, .free) List.mem_cons_self rfl) fun c hc => ?_
      refine xEAAA (closure_from r ((n, c) :: acc) Hr) fun cl h1 h2 h3 h4 => ?_
      refine ⟨cl, ?_, fun q hq => ?_, fun q hq => h3 q (List.mem_cons_of_mem _ hq), fun p hp hpk => ?_⟩
      . rw [List.forIn_cons, <- h1]
        have e : cellOf env n = pure c := by unfold cellOf; rw [hc]
        show (if (NameKind.free == NameKind.free) = true then (cellOf env n >>= fun a => pure (ForInStep.yield ((n, a) :: acc))) else _) >>= _ = _
        rw [if_pos (show (NameKind.free == NameKind.free) = true from rfl), e]
        rfl
      . rcases h2 q hq with h | h
        . rcases List.mem_cons.mp h with e | h
          . subst e; exact .inr hc
          . exact .inl h
        . exact .inr h
      . rcases List.mem_cons.mp hp with e | hp
        . subst e; exact ⟨c, h3 _ List.mem_cons_self⟩
        . exact h4 p hp hpk
    . refine xEAAA (closure_from r acc Hr) fun cl h1 h2 h3 h4 => ?_
      refine ⟨cl, ?_, h2, h3, fun p hp hpk => ?_⟩
      . rw [List.forIn_cons, <- h1]
        have : (k == NameKind.free) = false := beq_eq_false_iff_ne.mpr hk
        show (if (k == NameKind.free) = true then _ else pure (ForInStep.yield acc)) >>= _ = _
        rw [if_neg (by rw [this]; exact Bool.false_ne_true)]
        rfl
      . rcases List.mem_cons.mp hp with e | hp
        . subst e; exact absurd hpk hk
        . exact h4 p hp hpk
theorem closure_is {scope : Scope} (H : ∀ p ∈ scope.names, p.2 = .free -> ∃ c, env.cells.lookup p.1 = some c) :
    ∃ cl, closureFor scope env = pure cl /\ (∀ q ∈ cl, env.cells.lookup q.1 = some q.2) /\ ∀ p ∈ scope.names, p.2 = .free -> ∃ c, cl.lookup p.1 = some c := by
  refine xEAAA (closure_from (env := env) scope.names [] H) fun cl h1 h2 h3 h4 => ?_
  refine ⟨cl, ?_, fun q hq => (h2 q hq).elim (fun h => nomatch h) id, fun p hp hpk => ?_⟩
  . unfold closureFor
    exact (congrArg (· >>= fun r => pure r) h1).trans rfl
  . refine xE (h4 p hp hpk) fun c hc => ?_
    refine xEA (lookup_first hc) fun c' h _ => ?_
    exact ⟨c', h⟩
end
theorem zipIdx_lookup : ∀ {ns : List Str} {k : Nat} {x : Str} {i : Nat}, (ns.zipIdx k).lookup x = some i -> k <= i /\ ns[i - k]? = some x
  | [], _, _, _, h => by simp at h
  | n :: ns, k, x, i, h => by
    rw [List.zipIdx_cons, List.lookup_cons] at h
    split at h
    . rename_i hb
      cases h
      rw [beq_iff_eq.mp hb]
      exact ⟨Nat.le_refl _, by simp⟩
    . refine xA (zipIdx_lookup h) fun h1 h2 => ?_
      refine ⟨by lia, ?_⟩
      rw [show i - k = (i - (k + 1)) + 1 by lia]
      exact h2
theorem zipIdx_has : ∀ {ns : List Str} {k : Nat} {x : Str}, x ∈ ns -> ∃ i, (ns.zipIdx k).lookup x = some i
  | n :: ns, k, x, h => by
    rw [List.zipIdx_cons, List.lookup_cons]
    rcases hb : x == n with _ | _
    case true => exact ⟨_, rfl⟩
    case false =>
      rcases List.mem_cons.mp h with e | h
      . subst e; simp at hb
      . exact zipIdx_has h
section
variable {P : Par} {cx : Cx} {env : Env} {A : Around} {E : Value -> Shared -> Prop} {σ σ' : Sg} {l l' : Locs} {hp hp' : AHeap} {s s' : Shared} {n : Nat} {scope : Scope}
theorem inner_slot (hok : innerOk cx scope = true) (h : (innerCx cx scope).slot x = some i) :
    (scope.names.lookup x = some .local /\ cx.n <= i /\ (ownNames scope)[i - cx.n]? = some x) \/ (scope.names.lookup x = some .free /\ cx.sc.names.lookup x = some .cell /\ cx.slot x = some i) := by
  simp only [innerOk, Bool.and_eq_true, decide_eq_true_eq] at hok
  refine xA hok fun qq1 hall => ?_; try clear hok; refine xA qq1 fun _ hnd => ?_
  refine xEA (Option.bind_eq_some_iff.mp h) fun k hk hi => ?_
  refine xA (iteN hi) fun hkk hi2 => ?_; clear hi
  next =>
    next =>
      have hk : scope.names.lookup x = some k := hk
      have h : ((ownNames scope).zipIdx cx.n ++ cx.loc).lookup x = some i := hi2
      have hmem := mem_of_lookup' hk
      have hx := List.all_eq_true.mp hall _ hmem
      rw [List.lookup_append] at h
      unfold innerName at hx
      rcases k with _ | _ <;> first | (cases hx; done) | (cases hkk; done) | skip
      . left
        refine ⟨hk, ?_⟩
        dsimp only at hx
        by_cases h0 : x = (".0" : Str)
        . have hno : x ∉ ownNames scope := fun hm => by
            refine xEA (List.mem_filterMap.mp hm) fun q hq e => ?_
            refine xA (iteN e) fun hc e => ?_
            rcases Option.some.inj e with rfl; rw [Bool.and_eq_true, bne_iff_ne] at hc; exact hc.2 h0
          rw [Bool.or_eq_true, bne_iff_ne] at hx
          rcases hx with hx | hx
          . exact absurd h0 hx
          . rcases hz : ((ownNames scope).zipIdx cx.n).lookup x with _ | j
            case some =>
              refine xA (zipIdx_lookup hz) fun _ h2 => ?_
              exact absurd (List.mem_of_getElem? h2) hno
            case none =>
              rw [hz, Option.isNone_iff_eq_none.mp hx] at h
              cases h
        . have hin : x ∈ ownNames scope := List.mem_filterMap.mpr ⟨(x, .local), hmem, by
            rw [if_pos]
            rw [Bool.and_eq_true, bne_iff_ne]
            exact ⟨rfl, h0⟩⟩
          refine xE (zipIdx_has (k := cx.n) hin) fun j hj => ?_
          rw [hj] at h
          cases h
          exact zipIdx_lookup hj
      . right
        dsimp only at hx
        rw [Bool.and_eq_true, beq_iff_eq] at hx
        refine xE (Option.isSome_iff_exists.mp hx.2) fun i' hi' => ?_
        refine ⟨hk, hx.1, ?_⟩
        have hno : x ∉ ownNames scope := fun hm => by
          refine xEA (List.mem_filterMap.mp hm) fun qq1 hq e => ?_; obtain ⟨y, ky⟩ := qq1
          refine xA (iteN e) fun hc e => ?_
          rcases Option.some.inj e with rfl
          rw [Bool.and_eq_true, beq_iff_eq] at hc
          have := Mine.Internal.lookup_of_mem' hnd hq
          rw [hk] at this
          exact nomatch (Option.some.inj this).trans hc.1
        rcases hz : ((ownNames scope).zipIdx cx.n).lookup x with _ | j
        case some =>
          refine xA (zipIdx_lookup hz) fun _ h2 => ?_
          exact absurd (List.mem_of_getElem? h2) hno
        case none =>
          rw [hz] at h
          refine xEA (Option.bind_eq_some_iff.mp hi') fun k2 hk2 hi' => ?_
          exact Option.bind_eq_some_iff.mpr ⟨k2, hk2, (if_pos (iteN hi').1).trans h⟩
theorem frm_inner (f : Frm P h σ env cx l) (hok : innerOk cx scope = true) (sub : ∀ q ∈ cl, env.cells.lookup q.1 = some q.2) (has : ∀ p ∈ scope.names, p.2 = .free -> ∃ c, cl.lookup p.1 = some c)
    (hns : h'.Ns C (fun _ => none)) (hk : ∀ b o, h.get? b = some o -> h'.get? b = some o) (hC : C ∉ σ.map (·.1)) (hCb : P.B.h₀.get? C = none) :
    Frm P h' σ (compEnvC scope cl C env) (innerCx cx scope) (l ++ List.replicate (ownNames scope).length none) := by
  have hsl := fun x i => inner_slot (x := x) (i := i) hok
  have hok' := hok
  simp only [innerOk, Bool.and_eq_true, decide_eq_true_eq, beq_iff_eq] at hok'
  refine xA hok' fun qq1 hall => ?_; try clear hok'; refine xA qq1 fun hkind hnd => ?_
  have memc : ∀ p ∈ cl, p ∈ env.cells := fun p hp => mem_of_lookup' (sub p hp)
  have hrel : ∀ x k, scope.names.lookup x = some k -> (compEnvC scope cl C env).kindOf x = some (relK env x k) := fun x k h => relabel_lookup h
  have hold : ∀ av v, RV P.B h σ av v -> RV P.B h' σ av v := fun av v r => RV.fixes (fun b o e _ => hk b o e) av v r
  refine ⟨hkind, ?_, fun x y i h1 h2 => ?_, fun x i hx => ?_, fun x hx => ?_, fun x i hx => ?_, ⟨_, hns, fun x i hx => ?_⟩, ⟨hC, fun p hp => f.out.2 p (memc p hp)⟩, ⟨hCb, fun p hp => f.new.2 p (memc p hp)⟩, f.globals, f.builtins, fun p hp => ?_,
    fun p hp q hq e => f.apart p (memc p hp) q (memc q hq) e, fun x k hx hlk => ?_⟩
  . rw [List.length_append, List.length_replicate, f.len]; rfl
  . rcases hsl x i h1 with ⟨_, a1, a2⟩ | ⟨_, _, a3⟩ <;> rcases hsl y i h2 with ⟨_, b1, b2⟩ | ⟨_, _, b3⟩
    . rw [a2] at b2; exact Option.some.inj b2
    . exact absurd (f.lt y i b3) (by lia)
    . exact absurd (f.lt x i a3) (by lia)
    . exact f.inj x y i a3 b3
  . rcases hsl x i hx with ⟨_, a1, a2⟩ | ⟨_, _, a3⟩
    . have := (List.getElem?_eq_some_iff.mp a2).1
      show i < cx.n + (ownNames scope).length
      lia
    . exact Nat.lt_of_lt_of_le (f.lt x i a3) (Nat.le_add_right _ _)
  . have h1 : scope.names.lookup x = some .globalImplicit := by
      have := (Bool.and_eq_true_iff.mp hx).1
      exact beq_iff_eq.mp this
    rw [hrel x _ h1]; rfl
  . unfold Cx.slotW at hx
    have hne : ∀ k, scope.names.lookup x = some k -> k ≠ .free -> (compEnvC scope cl C env).kindOf x ≠ some .free := fun k h1 h2 => by
      rw [hrel x k h1]
      unfold relK
      intro e
      split at e
      . cases e
      . exact h2 (Option.some.inj e)
    rcases h1 : scope.names.lookup x with _ | k
    . rw [show (innerCx cx scope).sc.names.lookup x = none from h1] at hx; exact none_ne hx
    . rw [show (innerCx cx scope).sc.names.lookup x = some k from h1] at hx
      exact hne k h1 fun e => by rw [e] at hx; exact none_ne hx
  . rcases hsl x i hx with ⟨a0, a1, a2⟩ | ⟨a0, a1, a3⟩
    . refine .inl ⟨by rw [hrel x _ a0]; rfl, fun av e => ?_⟩
      rw [List.getElem?_append_right (by rw [f.len]; exact a1), List.getElem?_replicate] at e
      split at e <;> cases e
    . have hcell := f.kinds x .cell a1 (.inr rfl)
      refine xEA f.names fun m _ hm => ?_
      rcases hm x i a3 with ⟨hk', _⟩ | ⟨_, c, ov, hc, ⟨o, ho, hd⟩, hv⟩
      . rw [hcell] at hk'; cases hk'
      . refine xE (has (x, .free) (mem_of_lookup' a0) rfl) fun c' hc' => ?_
        have hcc := sub _ (mem_of_lookup' hc')
        obtain rfl : c' = c := by
          rw [hc] at hcc
          exact (Option.some.inj hcc).symm
        refine .inr ⟨.inl ?_, c', ov, hc', ⟨o, hk c' o ho, hd⟩, fun av e => ?_⟩
        . rw [hrel x _ a0]
          unfold relK
          rw [hcell, f.kind]
          rfl
        . rw [List.getElem?_append_left (by rw [f.len]; exact f.lt x i a3)] at e
          refine xEA (hv av e) fun v h1 h2 => ?_
          exact ⟨v, h1, hold _ _ h2⟩
  . refine xEEA (f.cells p (memc p hp)) fun o v ho hd => ?_
    exact ⟨o, v, hk _ o ho, hd⟩
  . rw [hrel x k hx]
    rcases hlk with rfl | rfl <;> rfl
end
end
section
open PySem PySem.Spec PyProof.Rows PySem.SeqAt
structure CP where
  e : X
  k : Nat
  j : Nat
  it : X
  cs : Xs
noncomputable def CP.x (p : CP) : X := .comp p.e p.k p.j p.it p.cs
noncomputable def compBody (c : Ctx) (e : X) (cs : Xs) (l : Locs) (h : AHeap) : Res (Option AV) := (evalConds c cs l h).bind fun b h => ifB b h (evalX c e l h)
noncomputable def evalCP (c : Ctx) (p : CP) (l : Locs) (h : AHeap) : Res AV := evalX c p.x l h
theorem x_cp {c : Ctx} {p : CP} {l : Locs} {h : AHeap} : evalCP c p l h = (evalX c p.it l h).noExc.bind fun src h => if c.q then .bad else
    (compLoop (fun v h => compBody c p.e p.cs (inner l p.k p.j v) h) src c.fuel 0 [] h).noExc.bind fun vs h => newList vs h := rfl
section
variable {P : Par} {cx : Cx} {env : Env} {A : Around} {E : Value -> Shared -> Prop} {σ σ' : Sg} {l l' : Locs} {hp hp' : AHeap} {s s' : Shared} {n : Nat} {scope : Scope}
theorem condB_is {v : AV} {x y : Res Bool} (hb : condB v x y ≠ .bad) : ∃ b, v = .bool b := by
  rcases v with _ | _
  case bool b => exact ⟨b, rfl⟩
  all_goals exact absurd rfl hb
theorem conds_prim {c : Ctx} {ifs : List Expr} {cs : Xs} (hifs : (ifs = [] /\ cs = .nil) \/ ∃ q xq, ifs = [q] /\ cs = .cons xq .nil /\ SimT P cx q xq) (C : Sims P cx c n) (I : Inv P cx n c.q env A σ l hp s) (hb : evalConds c cs l hp ≠ .bad) (hne : ∀ k h', evalConds c cs l hp ≠ .exc k h') :
    wpAny (model P.prog P.w) A (forIn ifs true fun c r => if r = true then do let ok <- isTrue c env (eval c env); pure (ForInStep.yield ok) else pure (ForInStep.yield r))
      (fun ok s' => ∃ hp' σ', evalConds c cs l hp = .ok ok hp' /\ After P σ σ' [] hp' s s') NE s := by
  rcases hifs with ⟨rfl, rfl⟩ | ⟨q, xq, rfl, rfl, h⟩
  . exact wpAny_tests_nil ⟨hp, σ, rfl, .refl I.st⟩
  . have e : evalConds c (.cons xq .nil) l hp = (evalX c xq l hp).bind fun v h => condB v (.ok true h) (.ok false h) := rfl
    rw [e] at hb hne
    have hbr : BoolR (evalX c xq l hp) := fun av h er => by
      rw [er, bok] at hb
      exact condB_is hb
    refine wpAny_tests_one (wpAny_mono (h c n env A σ l hp s C I (bind_ok hb) hbr) (fun b s' ⟨hp', σ', er, a⟩ => ⟨hp', σ', ?_, a⟩) fun _ _ q => (q.bind (f := fun v h => condB v (.ok true h) (.ok false h))).none hne)
    rw [e, er]
    rcases b with _ | _ <;> rfl
theorem comp_items {body : AV -> AHeap -> Res (Option AV)} {src : AV} {fuel : Nat} {acc : List AV} {k : Nat} (hb : compLoop body src fuel k acc hp ≠ .bad) : ∃ xs, itemsAV src hp = some xs := by
  rcases hi : itemsAV src hp with _ | xs
  case some => exact ⟨xs, rfl⟩
  case none =>
    exfalso; apply hb
    rcases fuel with _ | f
    case zero => rfl
    case succ => rw [comp_succ]; delta nextAt; rw [hi]; rfl
theorem iter_self {it : Addr} {src : AV} {k : Nat} (x : IterAt P s.heap σ it src k) {Q : Value -> Shared -> Prop} (h : Q (.ref it) s) : wpAny (model P.prog P.w) A (pyIter (.ref it)) Q E s := by
  rcases src with _ | _
  case rng => exact wpAny_pyIter_rangeiter x h
  case str => obtain ⟨_, x⟩ := x; exact wpAny_pyIter_striter_ascii x h
  case tup => obtain ⟨_, _, _, _, _, x⟩ := x; exact wpAny_pyIter_tupleiter x h
  case loc => obtain ⟨_, _, _, x⟩ := x; exact wpAny_pyIter_listiter x h
  case dit => obtain ⟨_, _, _, x⟩ := x; exact wpAny_pyIter_keyiter x h
  all_goals exact x.elim
theorem same_obj {X : List Addr} {b : Addr} {o : Obj} {h h' : Heap} (g : Grows σ σ' X h h') (ho : h.get? b = some o) (hd : ∀ es ep, o.data ≠ .dict es ep) (hn : b ∉ σ.map (·.1)) (hX : b ∉ X) : h'.get? b = some o := by
  rcases g.oth b o ho hn hX with q | ⟨hcf, _⟩
  . exact q
  . refine xEE hcf fun _ _ q => ?_; exact absurd q (hd _ _)
theorem set_inner {l : Locs} {k j : Nat} {a b : AV} : (inner l k j a).set j (some b) = inner l k j b := by unfold inner; rw [List.set_set]
structure CompInv (P : Par) (cx : Cx) (env : Env) (l : Locs) (K j : Nat) (src : AV) (it D : Addr) (σ : Sg) (s : Shared) (k : Nat) (acc : List AV) (hp' : AHeap) (σ' : Sg) (s' : Shared) : Prop where
  af : After P σ σ' [] hp' s s'
  fr : ∃ lv, Frm P s'.heap σ' env cx lv /\ ∀ av, lv.set j (some av) = inner l K j av
  walk : IterAt P s'.heap σ' it src k
  itn : it ∉ σ'.map (·.1)
  have_ : ∃ ws m, ObjAt s'.heap D (.type "list") (.seq ws m) /\ RVs P.B s'.heap σ' acc ws.toList
  accn : D ∉ σ'.map (·.1)
  len : acc.length <= sizeLim
theorem FX_ne {b : Addr} {o : Obj} (f : Frm P s.heap σ env cx l) (ho : s.heap.get? b = some o) (h1 : ∀ es ep, o.data ≠ .dict es ep) (h2 : ∀ v, o.data ≠ .cell v) : b ∉ FX env := by
  intro hm
  simp only [FX, List.mem_cons, List.mem_map] at hm
  rcases hm with rfl | ⟨p, hp, rfl⟩
  . refine xEEEA f.nsObj fun o' es ep ho' hd' => ?_
    rw [ho] at ho'; cases ho'; exact h1 _ _ hd'
  . refine xEEA (f.cells p hp) fun o' v ho' hd' => ?_
    rw [ho] at ho'; cases ho'; exact h2 _ hd'
structure Aside (P : Par) (s : Shared) (it D K : Addr) : Prop where
  i0 : s.heap.get? it = none
  ib : P.B.h₀.get? it = none
  d0 : s.heap.get? D = none
  db : P.B.h₀.get? D = none
  k0 : s.heap.get? K = none
  kb : P.B.h₀.get? K = none
  dk : D ≠ K
  di : D ≠ it
  ik : it ≠ K
structure CompS (P : Par) (cx : Cx) (c : Ctx) (n : Nat) (env : Env) (A : Around) (K : Addr) (elt : Expr) (x : Str) (ifs : List Expr) (p : CP) : Prop where
  sims : Sims P cx c n
  ar : Arnd n c.q A
  hq : c.q = false
  wx : cx.slotW x = some p.j
  el : SimE P cx elt p.e
  ifs : (ifs = [] /\ p.cs = .nil) \/ ∃ q xq, ifs = [q] /\ p.cs = .cons xq .nil /\ SimT P cx q xq
  loc : env.kindOf x = some .local
  k : env.locals = K
noncomputable def bodyOf (c : Ctx) (p : CP) (l : Locs) (v : AV) (h : AHeap) : Res (Option AV) := compBody c p.e p.cs (inner l p.k p.j v) h
noncomputable def CompRest (P : Par) (cx : Cx) (env : Env) (c : Ctx) (p : CP) (l : Locs) (src : AV) (it D : Addr) (σ : Sg) (s : Shared) (vs : List AV) (hp₂ : AHeap) (f : Nat) (s' : Shared) : Prop :=
  ∃ k acc hp' σ', compLoop (bodyOf c p l) src f k acc hp' = .ok vs hp₂ /\ CompInv P cx env l p.k p.j src it D σ s k acc hp' σ' s'
theorem fix_of {b : Addr} {h h' : Heap} (hk : ∀ x o, x ≠ b -> h.get? x = some o -> h'.get? x = some o) (hf : ∃ o, h.get? b = some o /\ ¬ fixed o) : Fixes h h' := fun x o e f => hk x o (fun q => by
  subst q; refine xEA hf fun o2 e2 hf2 => ?_; rw [e2] at e; cases e; exact hf2 f) e
section
variable {c : Ctx} {K it D : Addr} {elt : Expr} {x : Str} {ifs : List Expr} {p : CP} {src : AV} {vs acc : List AV} {hp₂ : AHeap} {f k : Nat}
theorem comp_put (ap : Aside P s it D K) {hp₄ hp₅ : AHeap} {σ₄ σ₅ : Sg} {s₄ s₅ : Shared} {lv : Locs} {xv : AV} {w : Value} {ws : Array Value} {m : Nat} (hset : ∀ av, lv.set p.j (some av) = inner l p.k p.j av)
    (a4 : After P σ σ₄ [] hp₄ s s₄) (a₅ : After P σ₄ σ₅ [] hp₅ s₄ s₅) (fr : Frm P s₅.heap σ₅ env cx lv) (hit : IterAt P s₄.heap σ₄ it src (k + 1)) (hin : it ∉ σ₄.map (·.1)) (hD : ObjAt s₄.heap D (.type "list") (.seq ws m)) (hacc : RVs P.B s₄.heap σ₄ acc ws.toList) (hDn : D ∉ σ₄.map (·.1))
    (rw' : RV P.B s₅.heap σ₅ xv w) (hR : (if acc.length < sizeLim then compLoop (bodyOf c p l) src f (k + 1) (acc ++ [xv]) hp₅ else .bad) = .ok vs hp₂) :
    wpAny (model P.prog P.w) A (call (.builtin "list.append") [.ref D, w]) (fun _ s' => ∃ m, m < f + 1 /\ CompRest P cx env c p l src it D σ s vs hp₂ m s') E s₅ := by
  have gr := a₅.gr
  have hD5 : ObjAt s₅.heap D (.type "list") (.seq ws m) := same_obj gr hD (fun _ _ e => nomatch e) hDn (fun h => nomatch h)
  have hacc5 := RVs.grows gr _ _ hacc
  have hlen := hacc5.size
  have hDn5 : D ∉ σ₅.map (·.1) := not_mem_grown gr hD hDn
  have hDf : ¬ fixed ({ cls := .type "list", data := .seq ws m } : Obj) := fun q => absurd (Value.type.inj q) (by decide)
  refine xA (iter_same gr hin (fun h => nomatch h) hit) fun hit5 hin5 => ?_
  split at hR
  . rename_i hlt
    refine append_at hD5 (fun h₆ hs₆ hD₆ => ?_) (by have := sizeLim_le (Nat.le_of_lt hlt); lia)
    refine xAA ((a4.trans a₅).extBut (t := s₅.toks) hs₆.extBut ap.d0 hDn5 ap.db ⟨_, hD5, hDf⟩) fun a7 hx7 hk7 => ?_
    have g7 : Grows σ₅ σ₅ [D] s₅.heap h₆ := .sameBut hs₆ (fun o e => by rw [hD5] at e; cases e; exact hDf) (.inr List.mem_cons_self) hD₆
    exact ⟨f, Nat.lt_succ_self f, k + 1, acc ++ [xv], hp₅, σ₅, hR, a7, ⟨_, fr.extBut (FX_ne fr hD5 (fun _ _ e => nomatch e) (fun _ e => nomatch e)) hx7 hk7, hset⟩, hit5.keep g7 (hs₆.2 it (Ne.symm ap.di)), hin5,
      ⟨ws.push w, m + 1, hD₆, by rw [Array.toList_push]; exact (RVs.fixes (fix_of hk7 ⟨_, hD5, hDf⟩) _ _ hacc5).append ⟨hx7 _ _ rw', trivial⟩⟩, hDn5, by rw [List.length_append, List.length_singleton]; lia⟩
  . cases hR
theorem comp_turn (cs : CompS P cx c n env A K elt x ifs p) (Fr : Frs P s.heap σ A) (ap : Aside P s it D K) {hp₁ : AHeap} {σ₁ : Sg} {s₁ : Shared} {lv : Locs} {av : AV} {u : Value} {px : Pos} {ws : Array Value} {m : Nat} (hset : ∀ av, lv.set p.j (some av) = inner l p.k p.j av)
    (a₁ : After P σ σ₁ [] hp₁ s s₁) (fr : Frm P s₁.heap σ₁ env cx lv) (ru : RV P.B s₁.heap σ₁ av u) (hit : IterAt P s₁.heap σ₁ it src (k + 1)) (hin : it ∉ σ₁.map (·.1)) (hD : ObjAt s₁.heap D (.type "list") (.seq ws m)) (hacc : RVs P.B s₁.heap σ₁ acc ws.toList) (hDn : D ∉ σ₁.map (·.1)) (hlen : acc.length <= sizeLim)
    (hR : (bodyOf c p l av hp₁).bind (fun r h => match r with
      | some x => if acc.length < sizeLim then compLoop (bodyOf c p l) src f (k + 1) (acc ++ [x]) h else .bad
      | none => compLoop (bodyOf c p l) src f (k + 1) acc h) = .ok vs hp₂) :
    wpAny (model P.prog P.w) A (assign (.Name x px) env u) (fun _ s₂ =>
      wpAny (model P.prog P.w) A (forIn ifs true fun c r => if r = true then do let ok <- isTrue c env (eval c env); pure (ForInStep.yield ok) else pure (ForInStep.yield r)) (fun ok s₃ =>
        if ok = true then wpAny (model P.prog P.w) A (eval elt env) (fun x s₄ =>
          wpAny (model P.prog P.w) A (call (.builtin "list.append") [.ref D, x]) (fun _ s₅ => ∃ m, m < f + 1 /\ CompRest P cx env c p l src it D σ s vs hp₂ m s₅) E s₄) E s₃
        else ∃ m, m < f + 1 /\ CompRest P cx env c p l src it D σ s vs hp₂ m s₃) E s₂) E s₁ := by
  have hlk := cs.k
  refine wpAny_assign_Name (store_in (X := [K]) a₁.st fr cs.wx ru (fun _ => by rw [hlk]; exact List.mem_cons_self) (fun hne => absurd cs.loc hne) fun s₃ a₃ fr₃ _ => ?_)
  rw [hset av] at fr₃
  have a4 : After P σ σ₁ [] hp₁ s s₃ := by
    have z := (a₁.more (Y := [K]) (fun _ h => nomatch h)).trans a₃
    exact ⟨z.ctl, z.st, z.gr.drop fun b hb => .inr (by rw [List.mem_singleton.mp hb]; exact ap.k0)⟩
  have hD3 : ObjAt s₃.heap D (.type "list") (.seq ws m) := same_obj a₃.gr hD (fun _ _ e => nomatch e) hDn (fun q => ap.dk (List.mem_singleton.mp q))
  have hacc3 := RVs.grows a₃.gr _ _ hacc
  refine xA (iter_same a₃.gr hin (fun q => ap.ik (List.mem_singleton.mp q)) hit) fun hit3 hin3 => ?_
  have hcb : evalConds c p.cs (inner l p.k p.j av) hp₁ ≠ .bad := fun e => by
    unfold bodyOf compBody at hR; rw [e] at hR; cases hR
  have hce : ∀ k h', evalConds c p.cs (inner l p.k p.j av) hp₁ ≠ .exc k h' := fun k h' e => by
    unfold bodyOf compBody at hR; rw [e] at hR; cases hR
  refine wpAny_mono (conds_prim cs.ifs cs.sims ⟨a4.st, fr₃, cs.ar, Fr.after a4.gr⟩ hcb hce) (fun b s₄ q => ?_) (fun _ _ q => q.elim)
  refine xEEA q fun hp₄ σ₄ e4 a₄ => ?_
  have hR : ((if b then (evalX c p.e (inner l p.k p.j av) hp₄).bind fun x h => .ok (some x) h else .ok none hp₄ : Res (Option AV)).bind (fun r h => match r with
      | some x => if acc.length < sizeLim then compLoop (bodyOf c p l) src f (k + 1) (acc ++ [x]) h else .bad
      | none => compLoop (bodyOf c p l) src f (k + 1) acc h)) = .ok vs hp₂ := by
    unfold bodyOf compBody at hR
    rw [e4, bok] at hR
    exact hR
  have fr₄ := fr₃.after a₄
  have a5 := a4.trans a₄
  refine xA (iter_same a₄.gr hin3 (fun h => nomatch h) hit3) fun hit4 hin4 => ?_
  have hD4 : ObjAt s₄.heap D (.type "list") (.seq ws m) := same_obj a₄.gr hD3 (fun _ _ e => nomatch e) hDn (fun h => nomatch h)
  have hacc4 := RVs.grows a₄.gr _ _ hacc3
  have hDn4 : D ∉ σ₄.map (·.1) := not_mem_grown a₄.gr hD3 hDn
  rcases b with _ | _
  case false => exact ⟨f, Nat.lt_succ_self f, k + 1, acc, hp₄, σ₄, hR, a5, ⟨_, fr₄, fun _ => set_inner⟩, hit4, hin4, ⟨ws, m, hD4, hacc4⟩, hDn4, hlen⟩
  case true =>
    rw [if_pos rfl] at hR |-
    have hel' := cs.el c n env A σ₄ (inner l p.k p.j av) hp₄ s₄ cs.sims ⟨a5.st, fr₄, cs.ar, Fr.after a5.gr⟩
    rcases hrx : evalX c p.e (inner l p.k p.j av) hp₄ with ⟨xv, hp₅⟩ | ⟨_, _⟩ | _
    case bad => rw [hrx] at hR; cases hR
    case exc => rw [hrx] at hR; cases hR
    case ok =>
      rw [hrx] at hR hel'
      refine wpAny_mono (hel' (fun e => nomatch e)) (fun w s₅ q => ?_) (fun _ _ q => (q.none (by intro _ _ e; cases e)).elim)
      obtain ⟨_, _, σ₅, e, a₅, rw'⟩ := q
      cases e
      exact comp_put ap (fun _ => set_inner) a5 a₅ (fr₄.after a₅) hit4 hin4 hD4 hacc4 hDn4 rw' hR
theorem comp_loop (cs : CompS P cx c n env A K elt x ifs p) (Fr : Frs P s.heap σ A) (ap : Aside P s it D K) {iter : Expr} {scope : Scope} {px pos : Pos} {R : Result -> Shared -> Prop} {s₀ : Shared} (h₀ : CompRest P cx env c p l src it D σ s vs hp₂ c.fuel s₀)
    (hend : ∀ σ' lv s₅, After P σ (σ' ++ [(D, 0)]) [] (hp₂ ++ [.list vs]) s s₅ -> σ'.length = hp₂.length -> Frm P s₅.heap σ' env cx lv -> R (.ok .next) s₅) (hsz : vs.length <= sizeLim) :
    codeAny (model P.prog P.w) A (.compLoop (.ListComp elt [⟨.Name x px, iter, ifs, 0⟩] scope pos) 0 (.ref it) (.ref D) env) R s₀ := by
  refine codeAny_compLoop_tests (CompRest P cx env c p l src it D σ s vs hp₂) ?_ c.fuel h₀
  rintro f s' ⟨k, acc, hp', σ', hR', J⟩
  refine xEA J.fr fun lv fr hlv => ?_
  have ho := J.walk.obj
  rcases f with _ | f
  case zero => cases hR'
  case succ =>
    rw [comp_succ] at hR'
    rcases hnx : nextAt src k hp' with _ | r
    case none => rw [hnx] at hR'; cases hR'
    case some =>
      rw [hnx] at hR'
      refine xEEA J.have_ fun ws m hD hacc => ?_
      have hitF := frm_iter fr ho
      refine next_prim J.af.st (cs.ar.handled cs.hq) J.walk hnx (fun er h' hs => ?_) (fun av u h' t er ru hs hit' => ?_)
      . subst er
        cases hR'
        refine xAA (J.af.extBut (t := s'.toks) hs ap.i0 J.itn ap.ib ho.notFixed) fun a' hx' hk' => ?_
        have S₅ := a'.st.adopt (off := 0) (ao := .list vs) J.accn ap.db fun kl => ⟨ws, m, hk' D _ ap.di hD, RVs.mono (fun _ _ x _ => x) kl _ _ (RVs.fixes (fix_of hk' ho.notFixed) _ _ hacc), sizeLim_le hsz⟩
        exact hend σ' lv _ ⟨a'.ctl, S₅, a'.gr.adopt ap.d0⟩ a'.st.len (fr.extBut hitF hx' hk')
      . subst er
        refine xAA (J.af.extBut (t := t) hs ap.i0 J.itn ap.ib ho.notFixed) fun a' hx' hk' => ?_
        have hfix := fix_of hk' ho.notFixed
        exact comp_turn (s₁ := { s' with heap := h', toks := t }) cs Fr ap hlv a' (fr.extBut hitF hx' hk') (hx' _ _ ru) (hit' hfix) J.itn (hk' D _ ap.di hD) (RVs.fixes hfix _ _ hacc) J.accn J.len hR'
end
end
end
section
open PySem PySem.Spec PyProof.Rows PySem.SeqAt
section
variable {P : Par} {cx : Cx} {env : Env} {A : Around} {σ σ' : Sg} {l : Locs} {hp hp' : AHeap} {s s' : Shared} {n : Nat} {scope : Scope} {c : Ctx}
theorem inner_scope (hok : innerOk cx scope = true) (f : Frm P s.heap σ env cx l) : scope.kind = .function /\ (∀ q ∈ scope.names, q.2 = .local -> scope.names.lookup q.1 = some .local) /\ (∀ q ∈ scope.names, q.2 ≠ .cell) /\
    ∀ q ∈ scope.names, q.2 = .free -> ∃ c', env.cells.lookup q.1 = some c' := by
  unfold innerOk at hok
  rw [Bool.and_eq_true, Bool.and_eq_true, decide_eq_true_eq, beq_iff_eq] at hok
  refine xA hok fun qq1 hall => ?_; try clear hok; refine xA qq1 fun hkind hnd => ?_
  refine ⟨hkind, fun q hq e => ?_, fun q hq e => ?_, fun q hq e => ?_⟩
  . obtain ⟨a, b⟩ := q
    rcases (show b = .local from e) with rfl
    exact lookup_of_mem' hnd hq
  . have := List.all_eq_true.mp hall q hq
    unfold innerName at this
    rw [e] at this
    cases this
  . have hin := List.all_eq_true.mp hall q hq
    unfold innerName at hin
    rw [e] at hin
    dsimp only at hin
    rw [Bool.and_eq_true, beq_iff_eq] at hin
    refine xE (Option.isSome_iff_exists.mp hin.2) fun i' hi' => ?_
    have hk := f.kinds _ _ hin.1 (.inr rfl)
    refine xEA f.names fun m _ hm => ?_
    rcases hm q.1 i' hi' with ⟨h1, _⟩ | ⟨_, c', _, h1, _⟩
    . rw [hk] at h1; cases h1
    . exact ⟨c', h1⟩
theorem cp_is {p : CP} (hb : evalCP c p l hp ≠ .bad) : ∃ src hp₁ vs hp₂ xs, c.q = false /\ evalX c p.it l hp = .ok src hp₁ /\ itemsAV src hp₁ = some xs /\ compLoop (bodyOf c p l) src c.fuel 0 [] hp₁ = .ok vs hp₂ /\ vs.length <= sizeLim /\ evalCP c p l hp = .ok (.loc hp₂.length) (hp₂ ++ [.list vs]) := by
  rw [x_cp] at hb |-
  rcases hr : evalX c p.it l hp with ⟨src, hp₁⟩ | ⟨_, _⟩ | _
  case bad => rw [hr] at hb; exact absurd rfl hb
  case exc => rw [hr] at hb; exact absurd rfl hb
  case ok =>
    rw [hr] at hb
    have hb : (if c.q = true then Res.bad else (compLoop (bodyOf c p l) src c.fuel 0 [] hp₁).noExc.bind fun vs h => newList vs h) ≠ .bad := hb
    have hg : ((Res.ok src hp₁).noExc.bind fun src h => if c.q = true then Res.bad else (compLoop (fun v h => compBody c p.e p.cs (inner l p.k p.j v) h) src c.fuel 0 [] h).noExc.bind fun vs h => newList vs h) = (if c.q = true then Res.bad else (compLoop (bodyOf c p l) src c.fuel 0 [] hp₁).noExc.bind fun vs h => newList vs h) := rfl
    rw [hg]
    have hq : c.q = false := by
      rcases hq : c.q with _ | _
      case false => rfl
      case true => rw [hq] at hb; exact absurd rfl hb
    rw [if_neg (by rw [hq]; exact Bool.false_ne_true)] at hb |-
    rcases hr2 : compLoop (bodyOf c p l) src c.fuel 0 [] hp₁ with ⟨vs, hp₂⟩ | ⟨_, _⟩ | _
    case bad => rw [hr2] at hb; exact absurd rfl hb
    case exc => rw [hr2] at hb; exact absurd rfl hb
    case ok =>
      rw [hr2] at hb
      have hb : newList vs hp₂ ≠ .bad := hb
      have hsz : vs.length <= sizeLim := Classical.byContradiction fun hn => hb (if_neg hn)
      refine xE (comp_items (by rw [hr2]; exact fun e => nomatch e)) fun xs hi => ?_
      exact ⟨src, hp₁, vs, hp₂, xs, hq, rfl, hi, hr2, hsz, if_pos hsz⟩
theorem gone {σ₁ : Sg} {hp₁ : AHeap} {X : List Addr} (a : After P σ σ₁ X hp₁ s s') {b : Addr} (hb : s'.heap.objs.size <= b) : s'.heap.get? b = none /\ s.heap.get? b = none /\ b ∉ σ₁.map (·.1) /\ P.B.h₀.get? b = none := by
  have h1 : s'.heap.get? b = none := Heap.get?_none_of_le hb
  refine ⟨h1, ?_, fun hm => ?_, ?_⟩
  . rcases hq : s.heap.get? b with _ | o
    case none => rfl
    case some => refine xE (a.gr.ex _ o hq) fun o' e' => ?_; rw [h1] at e'; cases e'
  . refine xEA (List.mem_map.mp hm) fun p hp qq1 => ?_; subst qq1
    refine xEA (a.st.there hp) fun ob e _ => ?_
    rw [h1] at e; cases e
  . rcases hq : P.B.h₀.get? b with _ | o
    case none => rfl
    case some => rw [a.st.base b o hq] at h1; cases h1
noncomputable def nilObj : Obj := { cls := .type "list", dict := none, data := .seq ([] : List Value).toArray }
theorem comp_core {elt iter : Expr} {x : Str} {px pos pp : Pos} {ifs : List Expr} {p : CP} (hok : innerOk cx scope = true) (hx : scope.names.lookup x = some .local) (hwx : (innerCx cx scope).slotW x = some p.j) (hpk : p.k = (ownNames scope).length)
    (hce : ∃ kk x, compE kk cx iter = some x) (hsi : SimE P cx iter p.it) (hel : SimE P (innerCx cx scope) elt p.e) (hifs : (ifs = [] /\ p.cs = .nil) \/ ∃ q xq, ifs = [q] /\ p.cs = .cons xq .nil /\ SimT P (innerCx cx scope) q xq)
    (C : Sims P cx c n) (I : Inv P cx n c.q env A σ l hp s) (hb : evalCP c p l hp ≠ .bad) {use : Option (Value -> Sem Unit)} {Q : Value -> Shared -> Prop}
    (hfin : ∀ σ' hp₃ s₅ D K mm, After P σ (σ' ++ [(D, 0)]) [] hp₃ s s₅ -> evalCP c p l hp = .ok (.loc σ'.length) hp₃ -> s.heap.get? K = none -> K ∉ (σ' ++ [(D, 0)]).map (fun p : Addr × Nat => p.1) -> P.B.h₀.get? K = none -> s₅.heap.Ns K mm -> compPost (model P.prog P.w) A NE use Q (.ref D) K (.ok .next) s₅) :
    wpAny (model P.prog P.w) A (comprehension (.ListComp elt [⟨.Name x px, iter, ifs, 0⟩] scope pos) scope env pp (PySem.newList []) false (eval iter env) use) Q NE s := by
  obtain ⟨kk, xx, hce⟩ := hce
  refine xEEEEEAAAAA (cp_is hb) fun src hp₁ vs hp₂ xs hq hr hi hr2 hsz ecp => ?_
  refine xAAA (inner_scope hok I.fr) fun hkind hhl hcell hfree => ?_
  refine xEAA (closure_is (env := env) (scope := scope) hfree) fun cl hclos sub has => ?_
  have hit' := hsi c n env A σ l hp s C I (by rw [hr]; exact fun e => nomatch e)
  rw [hr] at hit'
  refine wpAny_comprehension_free rfl (fun v => folded_ok hce v) hclos hkind hhl (wpAny_mono hit' (fun xv s₁ q => ?_) fun _ _ e => (e.none (by intro _ _ z; cases z)).elim)
  obtain ⟨_, _, σ₁, e, a₁, rv⟩ := q
  cases e
  refine iter_prim C.ok a₁.st rv hi fun it s₂ hn0 hnσ hnb a₂ hit => ?_
  have a₂ := a₁.trans a₂
  have hn₀ : s.heap.get? it = none := by
    rcases hq : s.heap.get? it with _ | o
    case none => rfl
    case some => refine xE (a₁.gr.ex _ o hq) fun o' e' => ?_; rw [hn0] at e'; cases e'
  refine xEEEA hit.obj fun oi _ _ hoi _ => ?_
  refine wpAny_newObj_type (wpAny_newFunctionEnv hcell (by intro y hy; simp at hy) (fun h₁ hns₁ hsb₁ => ?_) hkind)
  replace hns₁ : h₁.Ns (s₂.heap.push nilObj).objs.size _ := hns₁
  have hDs := gone a₂ (Nat.le_refl s₂.heap.objs.size)
  have hCs := gone a₂ (b := (s₂.heap.push nilObj).objs.size) (by rw [push_size]; exact Nat.le_succ _)
  have hDC : s₂.heap.objs.size ≠ (s₂.heap.push nilObj).objs.size := by rw [push_size]; exact Nat.ne_of_lt (Nat.lt_succ_self _)
  have old : ∀ b o, s₂.heap.get? b = some o -> h₁.get? b = some o := fun b o e => hsb₁.extBut b o (fun q => by rw [q] at e; exact absurd (e.symm.trans hCs.1) (fun z => nomatch z)) (Heap.get?_push_of_some _ (Heap.get?_push_of_some _ e))
  have hD₁ : h₁.get? s₂.heap.objs.size = some nilObj := hsb₁.extBut _ _ hDC (Heap.get?_push_of_some _ (Heap.get?_push_size _ rfl))
  have a₃ : After P σ σ₁ [] hp₁ s { s₂ with heap := h₁, toks := s₂.toks + ([] : List (Str × Value)).length } := a₂.trans ⟨rfl, a₂.st.keep old, grows_keep old⟩
  have fr₃ := frm_inner (I.fr.after a₂) hok sub has (C := (s₂.heap.push nilObj).objs.size) hns₁ old hCs.2.2.1 hCs.2.2.2
  have hDit : s₂.heap.objs.size ≠ it := fun q => by rw [<- q, hDs.1] at hoi; cases hoi
  have hitK : it ≠ (s₂.heap.push nilObj).objs.size := fun q => by rw [q, hCs.1] at hoi; cases hoi
  have ap : Aside P s it s₂.heap.objs.size (s₂.heap.push nilObj).objs.size := ⟨hn₀, hnb, hDs.2.1, hDs.2.2.2, hCs.2.1, hCs.2.2.2, hDC, hDit, hitK⟩
  have cs : CompS P (innerCx cx scope) c n (compEnvC scope cl (s₂.heap.push nilObj).objs.size env) A (s₂.heap.push nilObj).objs.size elt x ifs p := ⟨⟨C.ok, C.f, C.fq, C.meths, C.attrs, C.cls, C.init, C.exc, C.g⟩, I.ar, hq, hwx, hel, hifs, lookup_relabel_local hx, rfl⟩
  have J₀ : CompInv P (innerCx cx scope) (compEnvC scope cl (s₂.heap.push nilObj).objs.size env) l p.k p.j src it s₂.heap.objs.size σ s 0 [] hp₁ σ₁ { s₂ with heap := h₁, toks := s₂.toks + ([] : List (Str × Value)).length } :=
    ⟨a₃, ⟨_, fr₃, fun av => by rw [hpk]; rfl⟩, hit.keep (X := []) (grows_keep old) ((old it oi hoi).trans hoi.symm), hnσ, ⟨#[], 0, hD₁, trivial⟩, hDs.2.2.1, Nat.zero_le _⟩
  have loop := comp_loop cs I.fs ap (iter := iter) (scope := scope) (px := px) (pos := pos) (R := compPost (model P.prog P.w) A NE use Q (.ref s₂.heap.objs.size) (s₂.heap.push nilObj).objs.size) ⟨0, [], hp₁, σ₁, hr2, J₀⟩ (fun σ' lv s₅ a₅ hlen fr' => by
    refine xEA fr'.names fun mm hnsC _ => ?_
    refine hfin σ' _ s₅ _ _ mm a₅ (by rw [hlen]; exact ecp) hCs.2.1 ?_ hCs.2.2.2 hnsC
    rw [List.map_append, List.mem_append]
    rintro (q | q)
    . exact fr'.out.1 q
    . exact hDC (List.mem_singleton.mp q).symm) hsz
  exact codeAny_compStart_list loop (iter_self J₀.walk loop)
theorem not_FX {K : Addr} (f : Frm P s.heap σ env cx l) (h : s.heap.get? K = none) : K ∉ FX env := fun hm => by
  rcases List.mem_cons.mp hm with q | hm
  . refine xEEEA f.nsObj fun o' _ _ ho' _ => ?_
    rw [<- q, h] at ho'; cases ho'
  . refine xEA (List.mem_map.mp hm) fun p hp q => ?_
    refine xEEA (f.cells p hp) fun o' _ ho' _ => ?_
    rw [q, h] at ho'; cases ho'
theorem ns_obj {h : Heap} {K : Addr} {mm : Str -> Option Value} (x : h.Ns K mm) : ∃ o, h.get? K = some o /\ ¬ fixed o := by
  refine xEEEAA x fun o es ep ho hd _ => ?_
  exact ⟨o, ho, by unfold fixed; rw [hd]; exact fun f => f⟩
structure CPOk (P : Par) (cx : Cx) (elt : Expr) (x : Str) (iter : Expr) (ifs : List Expr) (scope : Scope) (p : CP) : Prop where
  ok : innerOk cx scope = true
  hx : scope.names.lookup x = some .local
  wx : (innerCx cx scope).slotW x = some p.j
  pk : p.k = (ownNames scope).length
  ce : ∃ kk x, compE kk cx iter = some x
  si : SimE P cx iter p.it
  el : SimE P (innerCx cx scope) elt p.e
  ifs : (ifs = [] /\ p.cs = .nil) \/ ∃ q xq, ifs = [q] /\ p.cs = .cons xq .nil /\ SimT P (innerCx cx scope) q xq
theorem sim_comp {elt iter : Expr} {x : Str} {px pos : Pos} {ifs : List Expr} {p : CP} (o : CPOk P cx elt x iter ifs scope p) : SimE P cx (.ListComp elt [⟨.Name x px, iter, ifs, 0⟩] scope pos) p.x := by
  intro c n env A σ l hp s C I hb
  refine wpAny_mono (show wpAny _ A (eval (.ListComp elt [⟨.Name x px, iter, ifs, 0⟩] scope pos) env) (QV P σ s (evalX c p.x l hp)) NE s from comp_core (P := P) (px := px) (pos := pos) o.ok o.hx o.wx o.pk o.ce o.si o.el o.ifs C I (show evalCP c p l hp ≠ .bad from hb) (use := none) fun σ' hp₃ s₅ D K mm a₅ er hK hKσ hKb hns => ?_) (fun _ _ q => q) (fun _ _ q => q.elim)
  refine ⟨mm, hns, fun h' hs => ?_⟩
  rw [show evalX c p.x l hp = _ from er]
  refine xAA (a₅.extBut (t := s₅.toks) hs.extBut hK hKσ hKb (ns_obj hns)) fun a₇ hx₇ hk₇ => ?_
  exact ⟨_, _, _, rfl, a₇, D, 0, rfl, List.getElem?_concat_length⟩
theorem simSt_comp {elt iter : Expr} {x y : Str} {px py pos spos : Pos} {ifs : List Expr} {p : CP} {i : Nat} (o : CPOk P cx elt x iter ifs scope p) (hput : putOk cx y py (.ListComp elt [⟨.Name x px, iter, ifs, 0⟩] scope pos) = true) (hwy : cx.slotW y = some i) :
    SimSt P cx (.Assign [.Name y py] (.ListComp elt [⟨.Name x px, iter, ifs, 0⟩] scope pos) spos) (.asg i p.x) := by
  intro c n env A σ l hp s C I hb
  have hput : (cx.sc.names.lookup y == some .local && py.line == pos.line && !(scope.names.any fun p => p.1 == y && (p.2 == .local || p.2 == .cell))) = true := hput
  rw [Bool.and_eq_true, Bool.and_eq_true, beq_iff_eq (a := cx.sc.names.lookup y), Bool.not_eq_true'] at hput
  refine xA hput fun qq1 hny => ?_; try clear hput; refine xA qq1 fun hy hline => ?_
  rw [s_asg] at hb |-
  have hsw : swapsWith (.ListComp elt [⟨.Name x px, iter, ifs, 0⟩] scope pos) (some (.Name y py)) spos.line env = pure true := by
    show (pure (env.blockKind == .function && env.kindOf y == some .local && py.line == pos.line && !(scope.names.any fun p => p.1 == y && (p.2 == .local || p.2 == .cell))) : Sem Bool) = _
    rw [I.fr.kinds y .local hy (.inl rfl), hline, hny]
    unfold Env.blockKind
    rw [I.fr.kind]
    rfl
  rw [exec_Assign_Name_used _ _ _ _ hsw]
  refine wpAny_bind (wpAny_standAt (wpAny_bind ?_))
  show wpAny _ A (do let _ <- comprehension (.ListComp elt [⟨.Name x px, iter, ifs, 0⟩] scope pos) scope env _ (PySem.newList []) false (eval iter env) (some (assign (.Name y py) env))) _ _ s
  refine wpAny_bind (wpAny_mono (comp_core (P := P) (px := px) (pos := pos) o.ok o.hx o.wx o.pk o.ce o.si o.el o.ifs C I.toInv (st_ok hb) (use := some (assign (.Name y py) env)) (Q := fun _ s' => QS P env cx σ s ((evalCP c p l hp).st l fun v h => .ok .next (l.set i (some v)) h) .next s')
    fun σ' hp₃ s₅ D K mm a₅ er hK hKσ hKb hns => ?_) (fun _ s' hq => wpAny_pure (wpAny_pure hq)) fun _ _ e => e.elim)
  rw [er]
  show wpAny _ A (assign (.Name y py) env (.ref D)) _ _ _
  have hKX := not_FX I.fr hK
  refine wpAny_assign_Name (store_prim a₅.st (I.fr.after a₅) hwy (av := .loc σ'.length) ⟨D, 0, rfl, List.getElem?_concat_length⟩ fun s₆ a₆ fr₆ _ => ?_)
  have hns₆ : s₆.heap.Ns K mm := near_ns hns (fun o ho => a₆.gr.oth K o ho hKσ hKX)
  refine ⟨mm, hns₆, fun h₇ hs₇ => ?_⟩
  refine xAA ((a₅.toX.trans a₆).extBut (t := s₆.toks) hs₇.extBut hK hKσ hKb (ns_obj hns₆)) fun a₇ hx₇ hk₇ => ?_
  exact ⟨_, _, _, _, rfl, a₇, rfl, fr₆.extBut hKX hx₇ hk₇⟩
end
end
section
open PySem PySem.Spec PyProof.Rows PySem.SeqAt
section
theorem lookup_zip {α : Type} : ∀ {ps : List Str} {vs : List α}, ps.Nodup -> ∀ {i : Nat} {x : Str} {v : α}, ps[i]? = some x -> vs[i]? = some v -> (ps.zip vs).lookup x = some v
  | [], _, _, i, x, v, h, _ => by simp at h
  | _ :: _, [], _, i, x, v, _, h => by simp at h
  | p :: ps, w :: ws, nd, 0, x, v, h, h' => by
    simp at h h'; subst h; subst h'
    simp [List.lookup]
  | p :: ps, w :: ws, nd, i + 1, x, v, h, h' => by
    simp only [List.getElem?_cons_succ] at h h'
    have hne : (x == p) = false := by
      rw [beq_eq_false_iff_ne]
      intro e; subst e
      exact (List.nodup_cons.mp nd).1 (List.mem_of_getElem? h)
    simp only [List.zip_cons_cons, List.lookup, hne]
    exact lookup_zip (List.nodup_cons.mp nd).2 h h'
theorem filterMap_zip {α : Type} : ∀ {ps : List Str} {vs : List α}, ps.Nodup -> ps.length = vs.length -> ∀ (f : Str -> Option α), (∀ x v, (x, v) ∈ ps.zip vs -> f x = some v) -> ps.filterMap (fun n => (f n).map (n, ·)) = ps.zip vs
  | [], [], _, _, _, _ => rfl
  | [], _ :: _, _, h, _, _ => by simp at h
  | _ :: _, [], _, h, _, _ => by simp at h
  | p :: ps, v :: vs, nd, hl, f, hf => by
    have h1 : f p = some v := hf p v (by simp)
    simp only [List.filterMap_cons, h1, Option.map_some, List.zip_cons_cons]
    rw [filterMap_zip (List.nodup_cons.mp nd).2 (by simpa using hl) f fun x v hm => hf x v (by simp [hm])]
theorem ite2 {α : Type} {a b : Bool} {x y z : α} (ha : a = false) (hb : b = false) : (if a = true then x else if b = true then y else z) = z := by rw [ha, hb]; rfl
theorem bind_lit {f q : Str} {args : List Arg} {kd : List (Option Expr)} {df : List Expr} {body : List Stmt} {scope : Scope} {pm cd doc : Value} {vals : List Value}
    (nd : (args.map (·.arg)).Nodup) (hl : (args.map (·.arg)).length = vals.length) : bindArgs (methDef f q ⟨[], args, none, [], kd, none, df⟩ body scope pm cd doc) ⟨vals, []⟩ = pure ((args.map (·.arg)).zip vals) := by
  have hz : (((args.map (·.arg)).zip vals).map (·.1)).Nodup := by
    rw [List.map_fst_zip (Nat.le_of_eq hl)]; exact nd
  have hf := filterMap_zip nd hl (fun n => ((args.map (·.arg)).zip vals).lookup n) fun x v hm => lookup_of_mem' hz hm
  have hm : (args.map (·.arg)).filter (fun n => (((args.map (·.arg)).zip vals).lookup n).isNone) = [] := by
    rw [List.filter_eq_nil_iff]
    intro x hx
    refine xE (List.mem_iff_getElem.mp hx) fun i qq1 => ?_; refine xE qq1 fun hi e => ?_
    have := lookup_zip (vs := vals) nd (i := i) (x := x) (v := vals[i]'(hl ▸ hi)) (by rw [List.getElem?_eq_getElem hi, e]) (by rw [List.getElem?_eq_getElem])
    rw [this]; exact Bool.false_ne_true
  have hb : ∀ D : List Value, D = [] -> (!((((args.map (fun x : Arg => x.arg))).take ((args.map (fun x : Arg => x.arg)).length - D.length)).filter (fun n => (((args.map (fun x : Arg => x.arg)).zip vals).lookup n).isNone)).isEmpty) = false := by
    rintro _ rfl
    rw [List.length_nil, Nat.sub_zero, List.take_length, hm]; rfl
  have ha : (decide (vals.length > (args.map (fun x : Arg => x.arg)).length) && true) = false := by
    rw [hl, Bool.and_true, decide_eq_false_iff_not]; exact Nat.lt_irrefl _
  have hpb : ∀ {α β : Type} (x : α) (f : α -> Sem β), (pure x >>= f) = f x := fun _ _ => rfl
  have hfor : ∀ (l : List Str) (ds : List Value) (b : List (Str × Value)) (g : Str × Value -> List (Str × Value) -> Sem (ForInStep (List (Str × Value)))), ds = [] -> forIn (l.zip ds) b g = pure b := by
    rintro l _ b g rfl
    rw [List.zip_nil_right]; rfl
  unfold bindArgs
  refine (hpb _ _).trans ((hpb none _).trans ((ite2 ha (hb _ List.drop_nil)).trans ?_))
  refine (congrArg (· >>= _) (hfor _ _ _ _ List.drop_nil)).trans ?_
  exact congrArg (pure (f := Sem)) ((congrArg (List.filterMap _) (List.append_nil _)).trans hf)
theorem bind_plain {params : Arguments} {f q : Str} {body : List Stmt} {scope : Scope} {pm cd doc : Value} {vals : List Value} (h1 : params.posonlyargs = []) (h2 : params.kwonlyargs = []) (h3 : params.vararg = none) (h4 : params.kwarg = none)
    (nd : (params.args.map (·.arg)).Nodup) (hl : (params.args.map (·.arg)).length = vals.length) : bindArgs (methDef f q params body scope pm cd doc) ⟨vals, []⟩ = pure ((params.args.map (·.arg)).zip vals) := by
  obtain ⟨po, ar, va, ko, kd, kw, df⟩ := params
  cases h1; cases h2; cases h3; cases h4
  exact bind_lit nd hl
end
section
theorem cells_nodup : ∀ (names : List (Str × NameKind)) (n : Nat) (acc : List (Str × Addr)), (acc.map (·.1)).Nodup -> (names.map (·.1)).Nodup -> (∀ x ∈ names, x.1 ∉ acc.map (·.1)) -> ((cellsFrom n names acc).map (·.1)).Nodup
  | [], _, _, h, _, _ => h
  | (x, k) :: r, n, acc, h, h2, h3 => by
    simp only [List.map_cons, List.nodup_cons] at h2
    unfold cellsFrom
    split
    . refine cells_nodup r _ _ ?_ h2.2 fun y hy => ?_
      . simp only [List.map_cons, List.nodup_cons]
        exact ⟨h3 (x, k) List.mem_cons_self, h⟩
      . simp only [List.map_cons, List.mem_cons, not_or]
        exact ⟨fun e => h2.1 (e ▸ List.mem_map_of_mem hy), h3 y (List.mem_cons_of_mem _ hy)⟩
    . exact cells_nodup r _ _ h h2.2 fun y hy => h3 y (List.mem_cons_of_mem _ hy)
theorem cells_has : ∀ (names : List (Str × NameKind)) (n : Nat) (acc : List (Str × Addr)) (x : Str), (names.lookup x = some .cell \/ (acc.lookup x).isSome = true) -> ((cellsFrom n names acc).lookup x).isSome = true
  | [], _, _, _, h => h.elim (fun e => by simp at e) id
  | (y, k) :: r, n, acc, x, h => by
    unfold cellsFrom
    split
    . rename_i hk
      refine cells_has r _ _ x ?_
      rcases hxy : x == y with _ | _
      case true => exact .inr (by simp [List.lookup, hxy])
      case false =>
        refine h.imp (fun e => ?_) fun e => ?_
        . simpa only [List.lookup, hxy] using e
        . simpa only [List.lookup, hxy] using e
    . rename_i hk
      refine cells_has r _ _ x (h.imp (fun e => ?_) id)
      rcases hxy : x == y with _ | _
      case true => simp only [List.lookup, hxy] at e; cases e; exact absurd rfl hk
      case false => simpa only [List.lookup, hxy] using e
theorem bindL_skip {k : Str -> Option NameKind} {x : Str} : ∀ {bs : List (Str × Value)} {m : Str -> Option Value}, x ∉ bs.map (·.1) -> bindL k bs m x = m x
  | [], _, _ => rfl
  | (n, v) :: r, m, h => by
    simp only [List.map_cons, List.mem_cons, not_or] at h
    unfold bindL
    rw [bindL_skip h.2]
    split
    . exact if_neg h.1
    . rfl
theorem bindC_skip {k : Str -> Option NameKind} {x : Str} : ∀ {bs : List (Str × Value)} {m : Str -> Option Value}, x ∉ bs.map (·.1) -> bindC k bs m x = m x
  | [], _, _ => rfl
  | (n, v) :: r, m, h => by
    simp only [List.map_cons, List.mem_cons, not_or] at h
    unfold bindC
    rw [bindC_skip h.2]
    split
    . rfl
    . exact if_neg h.1
theorem bindL_at {k : Str -> Option NameKind} {x : Str} (hk : k x = some .local) {v : Value} : ∀ {bs : List (Str × Value)} {m : Str -> Option Value}, (bs.map (·.1)).Nodup -> (x, v) ∈ bs -> bindL k bs m x = some v
  | [], _, _, h => nomatch h
  | (n, w) :: r, m, nd, h => by
    simp only [List.map_cons, List.nodup_cons] at nd
    unfold bindL
    rcases List.mem_cons.mp h with e | h2
    . cases e
      rw [bindL_skip nd.1, if_pos hk]; exact if_pos rfl
    . exact bindL_at hk nd.2 h2
theorem bindC_at {k : Str -> Option NameKind} {x : Str} (hk : ¬ k x = some .local) {v : Value} : ∀ {bs : List (Str × Value)} {m : Str -> Option Value}, (bs.map (·.1)).Nodup -> (x, v) ∈ bs -> bindC k bs m x = some v
  | [], _, _, h => nomatch h
  | (n, w) :: r, m, nd, h => by
    simp only [List.map_cons, List.nodup_cons] at nd
    unfold bindC
    rcases List.mem_cons.mp h with e | h2
    . cases e
      rw [bindC_skip nd.1, if_neg hk]; exact if_pos rfl
    . exact bindC_at hk nd.2 h2
end
theorem frm_call {P : Par} {σ : Sg} {hp : AHeap} {s s₁ : Shared} {sh : Sh} {params : Arguments} {scope : Scope} {fd : FuncData} {a : Addr} {avs : List AV} {vs : List Value}
    (S : St P.w P.B σ hp s.heap) (rv : RVs P.B s.heap σ avs vs) (hs : fd.scope = scope) (hok : defOk params scope = true) (hl : avs.length = (params.args.map (·.arg)).length) (hg : fd.globals = mainGlobals) (hb : fd.builtins = builtinsNs)
    (x : InCallC s (callEnvC fd s.heap.objs.size a).locals (bindL (callEnvC fd s.heap.objs.size a).kindOf ((params.args.map (·.arg)).zip vs) fun _ => none) (callEnvC fd s.heap.objs.size a).cells
        (bindC (callEnvC fd s.heap.objs.size a).kindOf ((params.args.map (·.arg)).zip vs) fun _ => none) s₁) :
    Frm P s₁.heap σ (callEnvC fd s.heap.objs.size a) (defCx sh (params.args.map (·.arg)) scope)
      (avs.map some ++ List.replicate ((slotNames (params.args.map (·.arg)) scope).length - (params.args.map (·.arg)).length) none) := by
  subst hs
  have hlv := rv.length
  simp only [defOk, Bool.and_eq_true, Bool.not_eq_true', decide_eq_true_eq, List.isEmpty_iff, Option.isNone_iff_eq_none, beq_iff_eq] at hok
  refine xA hok fun qq1 hpar => ?_; try clear hok; obtain ⟨⟨⟨⟨⟨⟨⟨⟨⟨ho1, ho2⟩, ho3⟩, ho4⟩, hk⟩, hgen⟩, hco⟩, hnp⟩, hnn⟩, hfree⟩ := qq1
  generalize hps : params.args.map (·.arg) = ps at *
  have hkind : (callEnvC fd s.heap.objs.size a).kindOf = fun x => fd.scope.names.lookup x := rfl
  have hcells : (callEnvC fd s.heap.objs.size a).cells = cellsFrom (s.heap.objs.size + 1) fd.scope.names [] := rfl
  have hlocals : (callEnvC fd s.heap.objs.size a).locals = s.heap.objs.size := rfl
  have hcn : ((cellsFrom (s.heap.objs.size + 1) fd.scope.names []).map (·.1)).Nodup := cells_nodup _ _ _ (by simp) hnn (by simp)
  have hzn : ((ps.zip vs).map (·.1)).Nodup := by rw [List.map_fst_zip (by lia)]; exact hnp
  have hns : ∃ r, slotNames ps fd.scope = ps ++ r := ⟨_, rfl⟩
  obtain ⟨r, hns⟩ := hns
  have hsl : ∀ (cx : Cx) y i, cx.sc = fd.scope -> cx.loc = (slotNames ps fd.scope).zipIdx -> cx.slot y = some i -> (slotNames ps fd.scope)[i]? = some y /\ ((fd.scope.names.lookup y = some .local) \/ fd.scope.names.lookup y = some .cell) := by
    intro cx y i e1 e2 h
    unfold Cx.slot at h
    rw [e1, e2] at h
    refine xEA (Option.bind_eq_some_iff.mp h) fun k hk' h => ?_
    refine xA (iteN h) fun hkk h => ?_
    next =>
      next =>
        refine ⟨by simpa using (zipIdx_lookup h).2, ?_⟩
        have hnf : k ≠ .free := by
          have := List.all_eq_true.mp hfree _ (mem_of_lookup' hk')
          simpa using this
        simp only [Bool.and_eq_true] at hkk
        have := hkk.1
        rcases k with _ | _ <;> first | exact .inl hk' | exact .inr hk' | exact absurd rfl hnf | exact absurd this Bool.false_ne_true
  have hfar : ∀ c, s.heap.objs.size <= c -> s.heap.get? c = none := fun c hc => by
    rcases hq : s.heap.get? c with _ | o
    case none => rfl
    case some => exact absurd (Heap.lt_size hq) (Nat.not_lt.mpr hc)
  have hout : ∀ c, s.heap.objs.size <= c -> c ∉ σ.map (·.1) /\ P.B.h₀.get? c = none := fun c hc => by
    refine ⟨fun hm => ?_, ?_⟩
    . refine xEA (List.mem_map.mp hm) fun p hp qq1 => ?_; subst qq1
      refine xEA (S.there hp) fun ob e _ => ?_
      rw [hfar _ hc] at e; cases e
    . rcases hq : P.B.h₀.get? c with _ | o
      case none => rfl
      case some => have := S.base c o hq; rw [hfar _ hc] at this; cases this
  have hval : ∀ (i : Nat) (y : Str) (av : AV), (slotNames ps fd.scope)[i]? = some y -> (avs.map some ++ List.replicate ((slotNames ps fd.scope).length - ps.length) none)[i]? = some (some av) -> ∃ v, (y, v) ∈ ps.zip vs /\ RV P.B s₁.heap σ av v := by
    intro i y av h1 h2
    have hi : i < avs.length := by
      by_cases hi : i < avs.length
      . exact hi
      . rw [List.getElem?_append_right (by simpa using Nat.not_lt.mp hi), List.getElem?_replicate] at h2
        split at h2 <;> cases h2
    rw [List.getElem?_append_left (by simpa using hi), List.getElem?_map] at h2
    refine xEA (Option.map_eq_some_iff.mp h2) fun av' e e' => ?_
    cases e'
    refine xEA (rv.get e) fun v hv r' => ?_
    rw [hns, List.getElem?_append_left (by lia)] at h1
    refine ⟨v, ?_, RV.grows (grows_keep (X := []) x.toInCall.keep) _ _ r'⟩
    apply List.mem_of_getElem? (i := i)
    rw [List.getElem?_zip_eq_some]
    exact ⟨h1, hv⟩
  refine ⟨hk, ?_, fun y z i h1 h2 => ?_, fun y i h => ?_, fun y h => ?_, fun y i h => ?_, ⟨_, x.toInCall.ns, fun y i h => ?_⟩, ⟨(hout _ (Nat.le_refl _)).1, fun p hp => ?_⟩, ⟨(hout _ (Nat.le_refl _)).2, fun p hp => ?_⟩, hg, hb, fun p hp => ?_, fun p hp q hq e => ?_, fun y k h _ => h⟩
  . show _ = (slotNames ps fd.scope).length
    rw [List.length_append, List.length_map, List.length_replicate, hns, List.length_append]; lia
  . have e1 := (hsl _ y i rfl rfl h1).1
    have e2 := (hsl _ z i rfl rfl h2).1
    rw [e1] at e2; exact Option.some.inj e2
  . have e1 := (hsl _ y i rfl rfl h).1
    exact (List.getElem?_eq_some_iff.mp e1).1
  . simp only [Cx.isGlob, Bool.and_eq_true, beq_iff_eq] at h
    exact h.1
  . have e1 := (hsl _ y i rfl rfl (slotW_slot h)).2
    show fd.scope.names.lookup y ≠ _
    rcases e1 with e1 | e1 <;> rw [e1] <;> simp
  . refine xA (hsl _ y i rfl rfl h) fun h1 h2 => ?_
    rcases h2 with h2 | h2
    . refine .inl ⟨h2, fun av e => ?_⟩
      refine xEA (hval i y av h1 e) fun v hm r' => ?_
      exact ⟨v, bindL_at (k := (callEnvC fd s.heap.objs.size a).kindOf) h2 hzn hm, r'⟩
    . refine xE (Option.isSome_iff_exists.mp (cells_has fd.scope.names (s.heap.objs.size + 1) [] y (.inl h2))) fun c hc => ?_
      refine .inr ⟨.inl h2, c, _, hc, x.cell y c hc, fun av e => ?_⟩
      refine xEA (hval i y av h1 e) fun v hm r' => ?_
      exact ⟨v, bindC_at (k := (callEnvC fd s.heap.objs.size a).kindOf) (by show ¬ fd.scope.names.lookup y = _; rw [h2]; simp) hzn hm, r'⟩
  . exact (hout _ (Nat.le_of_lt (x.above p.1 p.2 hp))).1
  . exact (hout _ (Nat.le_of_lt (x.above p.1 p.2 hp))).2
  . refine xEA (x.cell p.1 p.2 (lookup_of_mem' hcn hp)) fun o ho hd => ?_
    exact ⟨o, _, ho, hd⟩
  . exact name_of_addr x.apart (c := p.2) hp (by rw [e]; exact hq)
end
section
open PySem PySem.Spec PyProof.Rows PySem.SeqAt
section
variable {P : Par} {cx : Cx}
theorem lookup_ty {T : Str} {t : Ty} (h : tyOf T = some t) : (T, Value.type (tyName t)) ∈ bltPairs := by
  refine iteB h (fun e h => ?_) fun h => iteB h (fun e h => ?_) fun h => iteB h (fun e h => ?_) fun h => iteB h (fun e h => ?_) fun h => iteB h (fun e h => ?_) none_ne <;> subst e <;> cases h
  . exact blt_int
  . exact blt_bool
  . exact blt_str
  . exact blt_tuple
  . exact blt_list
theorem tgtName_is {t : Expr} {x : Str} (h : tgtName t = some x) : ∃ p, t = .Name x p := by
  rcases t with _ | _
  case Name => cases h; exact ⟨_, rfl⟩
  all_goals exact none_ne h
theorem compTy_name {e : Expr} {t : Ty} (h : compTy cx e = some t) : ∃ T q, e = .Name T q /\ cx.isGlob T = true /\ (T, Value.type (tyName t)) ∈ bltPairs := by
  refine xEA (Option.bind_eq_some_iff.mp h) fun x hx h2 => ?_
  refine xE (tgtName_is hx) fun q qq1 => ?_; subst qq1
  exact xA (iteN h2) fun hg h2 => ⟨x, q, rfl, hg, lookup_ty h2⟩
theorem tyArgs_is {as : List Expr} {t : Ty} (h : compTyArgs cx as = some t) : ∃ a b, as = [a, b] /\ compTy cx b = some t := by
  rcases as with _ | ⟨a, r⟩
  case nil => exact none_ne h
  case cons =>
    rcases r with _ | ⟨b, r⟩
    case nil => exact none_ne h
    case cons =>
      rcases r with _ | ⟨_, _⟩
      case nil => exact ⟨a, b, rfl, h⟩
      case cons => exact none_ne h
variable {k : Nat}
theorem sim_isi_of {as : List Expr} {y : X} {t : Ty} {q p : Pos} (hg : cx.isGlob "isinstance" = true) (hy : compHead (compE k cx) as = some y) (ht : compTyArgs cx as = some t) (H : ∀ e y, compE k cx e = some y -> SimE P cx e y) :
    SimE P cx (.Call (.Name "isinstance" q) as [] p) (.isi y t) := by
  obtain ⟨a, b, rfl, ht⟩ := tyArgs_is ht
  refine xEEAA (compTy_name ht) fun T q' qq1 hgT hT => ?_; subst qq1
  exact sim_isi hg hgT hT (not_starred hy) (H _ y hy)
theorem sim_const {v : Const} {m : Nat} {p : Pos} {x : X} (h : compConst v = some x) : SimE P cx (.Constant v m p) x := by
  rcases v with _ | _ <;> try exact none_ne h
  all_goals rcases Option.some.inj h with rfl
  . exact sim_none
  . exact sim_bool
  . exact sim_int
  . exact sim_str
theorem sim_name {y : Str} {p : Pos} {x : X} (h : compName cx y = some x) : SimE P cx (.Name y p) x := by
  unfold compName at h
  rcases hq : cx.slot y with _ | i <;> rw [hq] at h
  case some => cases h; exact sim_loc hq
  case none =>
    refine xA (iteN h) fun hg h => ?_
    refine xEA (Option.bind_eq_some_iff.mp h) fun k hk h => ?_
    exact sim_glob hg hk h
theorem sim_un {op : UnaryOp} {e : Expr} {y : X} {p : Pos} {x : X} (h : compUn op y = some x) (hy : SimE P cx e y) : SimE P cx (.UnaryOp op e p) x := by
  rcases op with _ | _ <;> try exact none_ne h
  all_goals rcases Option.some.inj h with rfl
  . exact sim_not hy
  . exact sim_neg hy
theorem compEs_nil {f : Expr -> Option X} {es : List Expr} (h : compEs f es = some .nil) : es = [] := by
  rcases es with _ | ⟨e, r⟩
  case nil => rfl
  case cons =>
    refine xEA (opt_bind h) fun a ha h => ?_
    refine xEA (opt_bind h) fun b hb h => ?_
    cases opt_pure h
theorem compEs_cons {f : Expr -> Option X} {es : List Expr} {x : X} {xs : Xs} (h : compEs f es = some (.cons x xs)) : ∃ e r, es = e :: r /\ f e = some x /\ compEs f r = some xs := by
  rcases es with _ | ⟨e, r⟩
  case nil => cases h
  case cons =>
    refine xEA (opt_bind h) fun a ha h => ?_
    refine xEA (opt_bind h) fun b hb h => ?_
    cases opt_pure h
    exact ⟨e, r, rfl, ha, hb⟩
inductive CmpK (f : Expr -> Option X) (xl : X) : List CmpOp -> List Expr -> X -> Prop
  | one (op : CmpOp) (o : COp) (r : Expr) (y : X) (h1 : compCOp op = some o) (h2 : f r = some y) : CmpK f xl [op] [r] (.cmp o xl y)
  | two (op op2 : CmpOp) (o o2 : COp) (m r : Expr) (y z : X) (h1 : compCOp op = some o) (h2 : compCOp op2 = some o2) (h3 : f m = some y) (h4 : f r = some z) : CmpK f xl [op, op2] [m, r] (.cmp2 o o2 xl y z)
theorem compCmp_is {ops : List CmpOp} {f : Expr -> Option X} {rs : List Expr} {xl : X} {xr : Xs} {x : X} (hrs : compEs f rs = some xr) (h : compCmp1 ops xl xr = some x) : CmpK f xl ops rs x := by
  rcases ops with _ | ⟨op, ops⟩
  case nil => exact none_ne h
  case cons =>
    rcases xr with _ | ⟨y, ys⟩
    case nil => exact none_ne h
    case cons =>
      obtain ⟨r, rs', rfl, h1, hrs⟩ := compEs_cons hrs
      rcases ops with _ | ⟨op2, ops⟩
      case nil =>
        rcases ys with _ | ⟨_, _⟩
        case cons => exact none_ne h
        case nil =>
          obtain ⟨o, ho, rfl⟩ := Option.map_eq_some_iff.mp (show (compCOp op).map (fun o => X.cmp o xl y) = some x from h)
          rcases compEs_nil hrs with rfl
          exact .one op o r y ho h1
      case cons =>
        rcases ops with _ | ⟨_, _⟩
        case cons => exact none_ne h
        case nil =>
          rcases ys with _ | ⟨z, zs⟩
          case nil => exact none_ne h
          case cons =>
            rcases zs with _ | ⟨_, _⟩
            case cons => exact none_ne h
            case nil =>
              obtain ⟨r2, rs2, rfl, h3, hrs⟩ := compEs_cons hrs
              rcases compEs_nil hrs with rfl
              refine xEA (opt_bind (show (do return X.cmp2 (<- compCOp op) (<- compCOp op2) xl y z) = some x from h)) fun o ho h => ?_
              refine xEA (opt_bind h) fun o2 ho2 h => ?_
              rcases opt_pure h with rfl
              exact .two op op2 o o2 r r2 y z ho ho2 h1 h3
theorem compIsn_is {ops : List CmpOp} {rs : List Expr} {xl x : X} (h : compIsn ops rs xl = some x) : ∃ op r b, ops = [op] /\ rs = [r] /\ isNone r = true /\ isnOf op = some b /\ x = .isn b xl := by
  rcases ops with _ | ⟨op, ops⟩
  case nil => exact none_ne h
  case cons =>
    rcases ops with _ | ⟨_, _⟩
    case cons => exact none_ne h
    case nil =>
      rcases rs with _ | ⟨e, q⟩
      case nil => exact none_ne h
      case cons =>
        rcases q with _ | ⟨_, _⟩
        case cons => exact none_ne h
        case nil =>
          replace h : (if isNone e = true then (isnOf op).map (fun b => X.isn b xl) else none) = some x := h
          refine xA (iteN h) fun hn h => ?_
          refine xEA (Option.map_eq_some_iff.mp h) fun b hb qq1 => ?_; subst qq1
          exact ⟨op, e, b, rfl, rfl, hn, hb, rfl⟩
theorem sim_biE {f : Str} {as : List Expr} {xs : Xs} {b : BI} {q p : Pos} (hg : cx.isGlob f = true) (hxs : compEs (compE k cx) as = some xs) (hS : SimEs P cx as xs) (h : biOf f = some b) : SimE P cx (.Call (.Name f q) as [] p) (.bi b xs) := by
  refine iteB h (fun e h => ?_) fun h => iteB h (fun e h => ?_) fun h => iteB h (fun e h => ?_) none_ne <;> subst e <;> cases h
  . exact sim_fn (fun _ _ _ => rfl) blt_len prim_len hg hxs hS
  . exact sim_fn (fun _ _ _ => rfl) blt_sorted prim_sorted hg hxs hS
  . exact sim_ty (fun _ _ _ => rfl) blt_list prim_list hg hxs hS
theorem sim_callE {f : Str} {as : List Expr} {xs : Xs} {x : X} {q p : Pos} (hg : cx.isGlob f = true) (hxs : compEs (compE k cx) as = some xs) (hS : SimEs P cx as xs) (h : compCall cx f xs = some x) : SimE P cx (.Call (.Name f q) as [] p) x := by
  refine iteS h (fun hf g => ?_) fun _ h => iteB h (fun e g => ?_) fun h => iteB h (fun e g => ?_) fun g => ?_
  . rw [Bool.and_eq_true, Bool.not_eq_true'] at hf
    cases g
    exact sim_call hg hf.1 hf.2 hxs hS
  . subst e
    rcases xs with _ | ⟨y, ys⟩
    case nil => exact none_ne g
    case cons =>
      rcases Option.some.inj (show some (X.new (.cons y ys)) = some x from g) with rfl
      refine xEEAA (compEs_cons hxs) fun e r qq1 h1 _ => ?_; subst qq1
      exact sim_new hg (not_starred h1) hxs hS
  . subst e
    rcases Option.some.inj g with rfl
    exact sim_ty (fun _ _ _ => rfl) blt_range prim_range hg hxs hS
  . rcases hlk : biOf f with _ | b <;> rw [hlk] at g
    case none => exact none_ne g
    case some =>
      rcases Option.some.inj g with rfl
      exact sim_biE hg hxs hS hlk
theorem sim_methE {o : Expr} {m : Str} {as : List Expr} {xo x : X} {xs : Xs} {ap p : Pos} (h1 : (ap.endLine == p.line) = true) (h2 : notSuper o = true) (h3 : as.length < 20) (hxs : compEs (compE k cx) as = some xs) (ho : SimE P cx o xo) (hS : SimEs P cx as xs) (h : compMeth cx m xo xs = some x) :
    SimE P cx (.Call (.Attribute o m ap) as [] p) x := by
  refine iteS h (fun hf h => ?_) fun _ h => ?_
  . rw [Bool.and_eq_true] at hf
    cases h
    exact sim_im hf.1 hf.2 h2 hxs h3 h1 ho hS
  . rcases hb : bmOf m with _ | b <;> rw [hb] at h
    case none => exact none_ne h
    case some =>
      cases h
      refine iteB hb (fun e hb => ?_) fun hb => iteB hb (fun e hb => ?_) fun hb => iteB hb (fun e hb => ?_) fun hb => iteB hb (fun e hb => ?_) fun hb => iteB hb (fun e hb => ?_) none_ne <;> subst e <;> cases hb
      . exact sim_bm F.plainAttrs_list F.slot_list_append F.type_list_append bmT_append bm_append h2 hxs h3 h1 ho hS
      . exact sim_bm F.plainAttrs_dict F.slot_dict_get F.type_dict_get bmT_get bm_get h2 hxs h3 h1 ho hS
      . exact sim_bm F.plainAttrs_str F.slot_str_index F.type_str_index bmT_index bm_index h2 hxs h3 h1 ho hS
      . exact sim_bm F.plainAttrs_dict F.slot_dict_pop F.type_dict_pop bmT_pop bm_pop h2 hxs h3 h1 ho hS
      . exact sim_bm F.plainAttrs_list F.slot_list_remove F.type_list_remove bmT_remove bm_remove h2 hxs h3 h1 ho hS
theorem simB_of (op : BoolOp) (H : ∀ e y, compE k cx e = some y -> SimE P cx e y) : ∀ (es : List Expr) (x : X), compBool (compE k cx) op es = some x -> SimB P cx op es x
  | [], x, h => by cases h
  | [e], x, h => simB_one (H e x h)
  | e :: e' :: r, x, h => by
    refine xEA (opt_bind h) fun a ha h => ?_
    refine xEA (opt_bind h) fun b hb h => ?_
    have hR := simB_of op H (e' :: r) b hb
    rcases op with _ | _
    case And => rcases opt_pure h with rfl; exact simB_and (H e a ha) hR
    case Or => rcases opt_pure h with rfl; exact simB_or (H e a ha) hR
theorem simEs_of (H : ∀ e y, compE k cx e = some y -> SimE P cx e y) : ∀ (es : List Expr) (xs : Xs), compEs (compE k cx) es = some xs -> SimEs P cx es xs
  | [], xs, h => by cases h; exact simEs_nil
  | e :: r, xs, h => by
    refine xEA (opt_bind h) fun a ha h => ?_
    refine xEA (opt_bind h) fun b hb h => ?_
    rcases opt_pure h with rfl
    exact simEs_cons (not_starred ha) (H e a ha) (simEs_of H r b hb)
theorem simTs_of (op : BoolOp) (H : ∀ e y, compE k cx e = some y -> SimT P cx e y) : ∀ (es : List Expr) (x : X), compBool (compE k cx) op es = some x -> SimTs P cx op es x
  | [], x, h => by cases h
  | [e], x, h => simTs_one (H e x h)
  | e :: e' :: r, x, h => by
    refine xEA (opt_bind h) fun a ha h => ?_
    refine xEA (opt_bind h) fun b hb h => ?_
    have hR := simTs_of op H (e' :: r) b hb
    rcases op with _ | _
    case And => rcases opt_pure h with rfl; exact simTs_and (H e a ha) hR
    case Or => rcases opt_pure h with rfl; exact simTs_or (H e a ha) hR
theorem sim_call_of {g : Expr} {as : List Expr} {ks : List Keyword} {p : Pos} {x : X} (h : stepE (compE k) cx (.Call g as ks p) = some x) (IH : ∀ e y, compE k cx e = some y -> SimE P cx e y) : SimE P cx (.Call g as ks p) x := by
  rcases ks with _ | ⟨_, _⟩
  case cons => exact none_ne h
  case nil =>
    rcases g with _ | _
    case Name g q =>
      replace h : (if (!cx.isGlob g) = true then none else if (g == ("isinstance" : Str)) = true then (do return .isi (<- compHead (compE k cx) as) (<- compTyArgs cx as)) else (do compCall cx g (<- compEs (compE k cx) as))) = some x := h
      refine iteS h (fun _ h => none_ne h) fun hg h => ?_
      . rw [Bool.not_eq_true', Bool.not_eq_false] at hg
        refine iteB h (fun e h => ?_) fun h => ?_
        . subst e
          refine xEA (opt_bind h) fun y hy h => ?_
          refine xEA (opt_bind h) fun t ht h => ?_
          rcases opt_pure h with rfl
          exact sim_isi_of hg hy ht IH
        . refine xEA (opt_bind h) fun xs hxs h => ?_
          exact sim_callE hg hxs (simEs_of IH _ xs hxs) h
    case Attribute o m ap =>
      replace h : (if (!(ap.endLine == p.line && notSuper o && decide (as.length < 20))) = true then none else (do compMeth cx m (<- compE k cx o) (<- compEs (compE k cx) as))) = some x := h
      refine iteS h (fun _ h => none_ne h) fun hok h => ?_
      . rw [Bool.not_eq_true', Bool.not_eq_false, Bool.and_eq_true, Bool.and_eq_true, decide_eq_true_eq] at hok
        refine xEA (opt_bind h) fun xo ho h => ?_
        refine xEA (opt_bind h) fun xs hxs h => ?_
        exact sim_methE hok.1.1 hok.1.2 hok.2 hxs (IH o xo ho) (simEs_of IH _ xs hxs) h
    all_goals exact none_ne h
theorem part_of {o : Option Expr} {x : X} (h : compPart (compE k cx) o = some x) (IH : ∀ e y, compE k cx e = some y -> SimE P cx e y) : ∀ e, o = some e -> SimE P cx e x := fun e he => by
  subst he
  exact IH e x h
theorem sim_sub_of {o i : Expr} {p : Pos} {x : X} (h : stepE (compE k) cx (.Subscript o i p) = some x) (IH : ∀ e y, compE k cx e = some y -> SimE P cx e y) : SimE P cx (.Subscript o i p) x := by
  have sub : (do return .sub (<- compE k cx o) (<- compE k cx i)) = some x -> SimE P cx (.Subscript o i p) x := fun h => by
    refine xEA (opt_bind h) fun xo ho h => ?_
    refine xEA (opt_bind h) fun xi hi h => ?_
    rcases opt_pure h with rfl
    exact sim_sub (IH _ xo ho) (IH _ xi hi)
  rcases i with _ | _
  case Slice lo hi st q =>
    rcases st with _ | _
    case some => exact none_ne h
    case none =>
      refine xEA (opt_bind (show (do return .slice (<- compE k cx o) (<- compPart (compE k cx) lo) (<- compPart (compE k cx) hi)) = some x from h)) fun xo ho h => ?_
      refine xEA (opt_bind h) fun xl hl h => ?_
      refine xEA (opt_bind h) fun xh hh h => ?_
      rcases opt_pure h with rfl
      exact sim_slice (IH _ xo ho) hl (part_of hl IH) hh (part_of hh IH)
  all_goals exact sub h
theorem sim_attr_of {o : Expr} {a : Str} {p : Pos} {x : X} (h : stepE (compE k) cx (.Attribute o a p) = some x) (IH : ∀ e y, compE k cx e = some y -> SimE P cx e y) : SimE P cx (.Attribute o a p) x := by
  replace h : (if (cx.attrs.contains a && notSuper o) = true then (do return .attr a (<- compE k cx o)) else none) = some x := h
  refine xA (iteN h) fun hc h => ?_
  rw [Bool.and_eq_true] at hc
  refine xEA (opt_bind h) fun xo ho h => ?_
  rcases opt_pure h with rfl
  exact sim_attr hc.1 hc.2 (IH _ xo ho)
theorem asTgt_is {t : Expr} {x : Str} (h : asTgt t = some x) : ∃ p, t = .Name x p := by
  rcases t with _ | _
  case Name => cases h; exact ⟨_, rfl⟩
  all_goals exact none_ne h
theorem it_sim {e : Expr} {y : X} (h : compIt (compE k cx) cx e = some y) (IH : ∀ e y, compE k cx e = some y -> SimE P cx e y) : (∃ x, compE k cx e = some x) /\ SimE P cx e y := by
  refine xEA (Option.map_eq_some_iff.mp h) fun x hx e => ?_
  refine ⟨⟨x, hx⟩, ?_⟩
  rcases hb : ((asTgt _).map cx.dicts.contains).getD false with _ | _ <;> rw [hb] at e <;> subst e
  . exact IH _ _ hx
  . exact sim_keys (IH _ _ hx)
inductive LC (P : Par) (cx : Cx) (x : X) : Expr -> Prop
  | mk (elt : Expr) (y : Str) (px : Pos) (iter : Expr) (ifs : List Expr) (scope : Scope) (pos : Pos) (p : CP) (o : CPOk P cx elt y iter ifs scope p) (e : x = p.x) : LC P cx x (.ListComp elt [⟨.Name y px, iter, ifs, 0⟩] scope pos)
theorem lc_of {elt : Expr} {gens : List Comprehension} {scope : Scope} {p : Pos} {x : X} (h : compLC (compE k) cx elt gens scope = some x) (IH : ∀ cx e y, compE k cx e = some y -> SimE P cx e y) (IT : ∀ cx e y, compE k cx e = some y -> SimT P cx e y) : LC P cx x (.ListComp elt gens scope p) := by
  rcases gens with _ | ⟨g, r⟩
  case nil => exact none_ne h
  case cons =>
    rcases r with _ | ⟨_, _⟩
    case cons => exact none_ne h
    case nil =>
      obtain ⟨t, iter, ifs, n⟩ := g
      delta compLC at h
      dsimp only at h
      split at h
      . rename_i hc
        rw [Bool.and_eq_true, Bool.and_eq_true, decide_eq_true_eq] at hc
        refine xA hc fun qq1 h6 => ?_; try clear hc; refine xA qq1 fun hn h1 => ?_
        rcases eq_of_beq hn with rfl
        refine xEA (opt_bind h) fun y hy h2 => ?_
        refine xE (asTgt_is hy) fun px qq1 => ?_; subst qq1
        clear h
        split at h2
        . rename_i h5
          have h := h2
          refine xEA (opt_bind h) fun e he h => ?_
          refine xEA (opt_bind h) fun j hj h => ?_
          refine xEA (opt_bind h) fun it hit h => ?_
          refine xEA (opt_bind h) fun cs hcs h => ?_
          rcases opt_pure h with rfl
          refine .mk elt y px iter ifs scope p ⟨e, (ownNames scope).length, j, it, cs⟩ ⟨h1, eq_of_beq h5, hj, rfl, ⟨k, (it_sim hit (IH cx)).1⟩, (it_sim hit (IH cx)).2, IH _ _ _ he, ?_⟩ rfl
          rcases ifs with _ | ⟨q, r⟩
          case nil => cases hcs; exact .inl ⟨rfl, rfl⟩
          case cons =>
            rcases r with _ | ⟨_, _⟩
            case nil =>
              refine xEA (opt_bind hcs) fun xq hq hcs => ?_
              rcases opt_pure hcs with rfl
              exact .inr ⟨q, xq, rfl, rfl, IT _ _ _ hq⟩
            case cons => exact absurd h6 (by rw [List.length_cons, List.length_cons]; lia)
        . cases h2
      . cases h
theorem sim_dict_of {ks : List (Option Expr)} {vs : List Expr} {p : Pos} {x : X} (h : compDict (compE k cx) ks vs = some x) (IH : ∀ e y, compE k cx e = some y -> SimE P cx e y) : SimE P cx (.Dict ks vs p) x := by
  rcases ks with _ | ⟨q, r⟩
  case nil =>
    refine xA (iteN (show (if vs.isEmpty then some X.dict0 else none) = some x from h)) fun hc h => ?_
    rcases List.isEmpty_iff.mp hc with rfl
    cases h; exact sim_dict0
  case cons =>
    rcases r with _ | ⟨_, _⟩
    case cons => exact none_ne h
    case nil =>
      rcases vs with _ | ⟨v, w⟩
      case nil => exact none_ne h
      case cons =>
        rcases w with _ | ⟨_, _⟩
        case cons => exact none_ne h
        case nil =>
          refine xEA (Option.bind_eq_some_iff.mp (show (q.bind fun q => (compE k cx q).bind fun q => (compE k cx v).map fun v => X.dict1 q v) = some x from h)) fun q' e h => ?_
          subst e
          refine xEA (Option.bind_eq_some_iff.mp h) fun y hy h => ?_
          refine xEA (Option.map_eq_some_iff.mp h) fun z hz e => ?_
          subst e
          exact sim_dict1 (IH _ _ hy) (IH _ _ hz)
theorem sim_cmp_of {l : Expr} {ops : List CmpOp} {rs : List Expr} {p : Pos} {x : X} (h : stepE (compE k) cx (.Compare l ops rs p) = some x) (IH : ∀ e y, compE k cx e = some y -> SimE P cx e y) : SimE P cx (.Compare l ops rs p) x /\ SimT P cx (.Compare l ops rs p) x := by
  refine xEA (opt_bind h) fun xl hl h => ?_
  have hL := IH _ xl hl
  split at h
  . rename_i y hy
    cases h
    refine xEEEAAAA (compIsn_is hy) fun op r b qq1 qq2 h1 h2 qq3 => ?_; subst qq1; subst qq2; subst qq3
    exact ⟨sim_isn h2 h1 hL, simT_isn h2 h1 hL⟩
  . refine xEA (opt_bind h) fun xr hr h => ?_
    cases compCmp_is hr h with
    | one op o r y h1 h2 => exact ⟨sim_cmp h1 (notMarks h2) hL (IH r y h2), simT_cmp h1 (notMarks h2) hL (IH r y h2)⟩
    | two op op2 o o2 m r y z h1 h2 h3 h4 => exact ⟨sim_cmp2 h1 h2 (notMarks h4) hL (IH m y h3) (IH r z h4), simT_cmp2 h1 h2 (notMarks h4) hL (IH m y h3) (IH r z h4)⟩
theorem step_E {e : Expr} {x : X} (h : stepE (compE k) cx e = some x) (IH : ∀ cx e y, compE k cx e = some y -> SimE P cx e y) (IT : ∀ cx e y, compE k cx e = some y -> SimT P cx e y) : SimE P cx e x := by
  have IH' := IH cx
  rcases e with _ | _
  case Constant => exact sim_const h
  case Name => exact sim_name h
  case BinOp =>
    refine xEA (opt_bind h) fun b hb h => ?_
    refine xEA (opt_bind h) fun xl hl h => ?_
    refine xEA (opt_bind h) fun xr hr h => ?_
    rcases opt_pure h with rfl
    exact sim_bin hb (IH' _ xl hl) (IH' _ xr hr)
  case UnaryOp =>
    refine xEA (opt_bind h) fun xl hl h => ?_
    exact sim_un h (IH' _ xl hl)
  case BoolOp => exact sim_boolop (simB_of _ IH' _ _ h)
  case Compare => exact (sim_cmp_of h IH').1
  case Call => exact sim_call_of h IH'
  case Attribute => exact sim_attr_of h IH'
  case Subscript => exact sim_sub_of h IH'
  case Tuple =>
    refine xEA (opt_bind h) fun xs hxs h => ?_
    rcases opt_pure h with rfl
    exact sim_tup (simEs_of IH' _ xs hxs)
  case List =>
    refine xEA (opt_bind h) fun xs hxs h => ?_
    rcases opt_pure h with rfl
    exact sim_list (simEs_of IH' _ xs hxs)
  case Dict => exact sim_dict_of h (IH _)
  case ListComp elt gens scope p =>
    cases lc_of (p := p) h IH IT with
    | mk _ _ _ _ _ _ _ q o e => subst e; exact sim_comp o
  all_goals exact none_ne h
theorem step_T {e : Expr} {x : X} (h : stepE (compE k) cx e = some x) (hE : SimE P cx e x) (IH : ∀ cx e y, compE k cx e = some y -> SimE P cx e y) (IT : ∀ cx e y, compE k cx e = some y -> SimT P cx e y) : SimT P cx e x := by
  rcases e with _ | _
  case UnaryOp op y p =>
    rcases op with _ | _
    case Not =>
      refine xEA (opt_bind h) fun xl hl h => ?_
      cases h
      exact simT_not (IT _ y xl hl)
    all_goals exact simT_val (fun _ _ => rfl) hE
  case BoolOp op vs p => exact simT_boolop (simTs_of op (IT cx) vs x h)
  case IfExp => exact none_ne h
  case Compare => exact (sim_cmp_of h (IH cx)).2
  all_goals exact simT_val (fun _ _ => rfl) hE
theorem sim_of : ∀ (k : Nat), (∀ (cx : Cx) (e : Expr) (x : X), compE k cx e = some x -> SimE P cx e x) /\ ∀ (cx : Cx) (e : Expr) (x : X), compE k cx e = some x -> SimT P cx e x
  | 0 => ⟨fun cx e x h => none_ne h, fun cx e x h => none_ne h⟩
  | k + 1 => by
    refine xA (sim_of k) fun IH IT => ?_
    exact ⟨fun cx e x h => step_E h IH IT, fun cx e x h => step_T h (step_E h IH IT) IH IT⟩
theorem simE_of (k : Nat) (e : Expr) (x : X) (h : compE k cx e = some x) : SimE P cx e x := (sim_of k).1 cx e x h
theorem simT_of (k : Nat) (e : Expr) (x : X) (h : compE k cx e = some x) : SimT P cx e x := (sim_of k).2 cx e x h
end
end
section
open PySem PySem.Spec PyProof.Rows PySem.SeqAt
section
variable {P : Par} {cx : Cx}
theorem simSt_asgC {elt : Expr} {gens : List Comprehension} {scope : Scope} {pos p q : Pos} {y : Str} {i : Nat} {x : X} (hi : cx.slotW y = some i) (hput : putOk cx y q (.ListComp elt gens scope pos) = true) (hy : compE deep cx (.ListComp elt gens scope pos) = some x) :
    SimSt P cx (.Assign [.Name y q] (.ListComp elt gens scope pos) p) (.asg i x) := by
  cases lc_of (p := pos) (k := 29) hy (fun cx => (sim_of 29).1 cx) (fun cx => (sim_of 29).2 cx) with
  | mk _ _ _ _ _ _ _ q o e => subst e; exact simSt_comp o hput hi
theorem simSt_asgE {ts : List Expr} {v : Expr} {x : S} {p : Pos} (h : compAsg cx ts v = some x) : SimSt P cx (.Assign ts v p) x := by
  rcases ts with _ | ⟨t, r⟩
  case nil => exact none_ne h
  case cons =>
  rcases r with _ | ⟨_, _⟩
  case cons => exact none_ne h
  case nil =>
    rcases t with _ | _
    case Name y q =>
      replace h : (if putOk cx y q v = true then (do return .asg (<- cx.slotW y) (<- compE deep cx v)) else none) = some x := h
      refine xA (iteN h) fun hput h => ?_
      . refine xEA (opt_bind h) fun i hi h => ?_
        refine xEA (opt_bind h) fun y hy h => ?_
        rcases opt_pure h with rfl
        rcases hc : isComp v with _ | _
        case false => exact simSt_asg hi hc (simE_of _ _ _ hy)
        case true =>
          rcases v with _ | _
          case ListComp => exact simSt_asgC hi hput hy
          all_goals first | exact absurd hc Bool.false_ne_true | exact none_ne hy
    case Subscript o k q =>
      replace h : (if isComp v = true then none else (do return .setitem (<- compE deep cx o) (<- compE deep cx k) (<- compE deep cx v))) = some x := h
      refine iteS h (fun _ h => none_ne h) fun hc h => ?_
      . rw [Bool.not_eq_true] at hc
        refine xEA (opt_bind h) fun xo ho h => ?_
        refine xEA (opt_bind h) fun xk hk h => ?_
        refine xEA (opt_bind h) fun y hy h => ?_
        rcases opt_pure h with rfl
        exact simSt_set hc (simE_of _ _ _ ho) (simE_of _ _ _ hk) (simE_of _ _ _ hy)
    case Attribute o a q =>
      replace h : (if (cx.attrs.contains a && notSuper o && !isComp v) = true then (do return .setattr a (<- compE deep cx o) (<- compE deep cx v)) else none) = some x := h
      refine xA (iteN h) fun hc g => ?_
      clear h; rename _ = some _ => h
      . rw [Bool.and_eq_true, Bool.and_eq_true, Bool.not_eq_true'] at hc
        refine xEA (opt_bind h) fun xo ho h => ?_
        refine xEA (opt_bind h) fun y hy h => ?_
        rcases opt_pure h with rfl
        exact simSt_seta hc.1.1 hc.2 (simE_of _ _ _ ho) (simE_of _ _ _ hy)
    case Tuple ts x1 q =>
      replace h : (if (isComp v || isTup v) = true then none else (do return .asgt (<- tgtsOf cx ts) (<- compE deep cx v))) = some x := h
      refine iteS h (fun _ h => none_ne h) fun hc h => ?_
      . rw [Bool.not_eq_true, Bool.or_eq_false_iff] at hc
        refine xEA (opt_bind h) fun is his h => ?_
        refine xEA (opt_bind h) fun y hy h => ?_
        rcases opt_pure h with rfl
        exact simSt_asgt his hc.1 hc.2 (simE_of _ _ _ hy)
    all_goals exact none_ne h
theorem tgt_is {t : Expr} {i : Nat} (h : tgtOf cx t = some i) : ∃ y p, t = .Name y p /\ cx.slotW y = some i := by
  refine xEA (Option.bind_eq_some_iff.mp h) fun x hx h2 => ?_
  refine xE (tgtName_is hx) fun p qq1 => ?_; subst qq1
  exact ⟨x, p, rfl, h2⟩
theorem simSs_of {k : Nat} (H : ∀ st x, compS k cx st = some x -> SimSt P cx st x) : ∀ (sts : List Stmt) (xs : Ss), compSs (compS k cx) sts = some xs -> SimSs P cx sts xs
  | [], xs, h => by cases h; exact simSs_nil
  | st :: r, xs, h => by
    refine xEA (opt_bind h) fun a ha h => ?_
    refine xEA (opt_bind h) fun b hb h => ?_
    rcases opt_pure h with rfl
    exact simSs_cons (H st a ha) (simSs_of H r b hb)
inductive ExcIs (cx : Cx) : Expr -> S -> Prop
  | mk (k w : Str) (m : Nat) (np cp cpos : Pos) (h1 : cx.isGlob k = true) (h2 : (cx.excs.lookup k).isSome = true) : ExcIs cx (.Call (.Name k np) [.Constant (.str w) m cp] [] cpos) (.raise k)
theorem exc_is {e : Expr} {x : S} (h : compExc cx e = some x) : ExcIs cx e x := by
  rcases e with _ | _
  case Call f as ks cpos =>
    rcases f with _ | _
    case Name k np =>
      rcases as with _ | ⟨a, r⟩
      case nil => exact none_ne h
      case cons =>
        rcases r with _ | ⟨_, _⟩
        case cons => exact none_ne h
        case nil =>
          rcases a with _ | _
          case Constant v m cp =>
            rcases v with _ | _
            case str w =>
              replace h : (if (ks.isEmpty && cx.isGlob k && (cx.excs.lookup k).isSome) = true then some (S.raise k) else none) = some x := h
              refine xA (iteN h) fun hc g => ?_
              clear h; rename _ = some _ => h
              . rw [Bool.and_eq_true, Bool.and_eq_true, List.isEmpty_iff] at hc
                rcases hc.1.1 with rfl
                cases h
                exact .mk k w m np cp cpos hc.1.2 hc.2
            all_goals exact none_ne h
          all_goals exact none_ne h
    all_goals exact none_ne h
  all_goals exact none_ne h
theorem hs_of {k : Nat} (H : ∀ st x, compS k cx st = some x -> SimSt P cx st x) : ∀ (hs : List ExceptHandler) (xs : Hs), compHs (compS k cx) cx hs = some xs -> HSim P cx hs xs
  | [], xs, h => by cases h; exact .nil
  | .ExceptHandler t nm b p :: r, xs, h => by
    rcases t with _ | t
    case none => exact none_ne h
    case some =>
      rcases t with _ | _
      case Name j np =>
        replace h : (if (cx.isGlob j && nm.isNone && !b.isEmpty && (cx.excs.any fun p => p.2.contains j)) = true then (do return .cons (taken cx.excs j) (<- compSs (compS k cx) b) (<- compHs (compS k cx) cx r)) else none) = some xs := h
        refine xA (iteN h) fun hc g => ?_
        clear h; rename _ = some _ => h
        . rw [Bool.and_eq_true, Bool.and_eq_true, Bool.and_eq_true, Option.isNone_iff_eq_none] at hc
          refine xA hc fun qq1 h4 => ?_; try clear hc; obtain ⟨⟨h1, h2⟩, h3⟩ := qq1
          subst h2
          refine xEA (opt_bind h) fun xb hb h => ?_
          refine xEA (opt_bind h) fun xr hr h => ?_
          rcases opt_pure h with rfl
          rcases b with _ | ⟨b₀, bs⟩
          case nil => exact absurd h3 Bool.false_ne_true
          case cons => exact .cons h1 h4 (simSs_of H _ _ hb) (hs_of H r xr hr)
      all_goals exact none_ne h
theorem for_of {k : Nat} {t it : Expr} {b : List Stmt} {p : Pos} {x : S} (h : stepS (compS k cx) cx (.For t it b [] p) = some x) (IH : ∀ st x, compS k cx st = some x -> SimSt P cx st x) : SimSt P cx (.For t it b [] p) x := by
  have one : (do return .forr (<- tgtOf cx t) (<- compIt (compE deep cx) cx it) (<- compSs (compS k cx) b)) = some x -> SimSt P cx (.For t it b [] p) x := fun h => by
    refine xEA (opt_bind h) fun i hy h => ?_
    refine xEA (opt_bind h) fun xi hxi h => ?_
    refine xEA (opt_bind h) fun xb hb h => ?_
    rcases opt_pure h with rfl
    refine xEEA (tgt_is hy) fun y p qq1 hi => ?_; subst qq1
    exact simFor (tgt_name hi) (it_sim (P := P) hxi (simE_of _)).1 (it_sim hxi (simE_of _)).2 (simSs_of IH _ xb hb) fun _ _ _ => rfl
  rcases t with _ | _
  case Tuple ts x1 q =>
    replace h : (do return S.fort (<- tgtsOf cx ts) (<- compIt (compE deep cx) cx it) (<- compSs (compS k cx) b)) = some x := h
    refine xEA (opt_bind h) fun is his h => ?_
    refine xEA (opt_bind h) fun xi hxi h => ?_
    refine xEA (opt_bind h) fun xb hb h => ?_
    rcases opt_pure h with rfl
    exact simFor (tgt_tuple his) (it_sim (P := P) hxi (simE_of _)).1 (it_sim hxi (simE_of _)).2 (simSs_of IH _ xb hb) fun _ _ _ => rfl
  all_goals exact one h
theorem step_of {k : Nat} (IH : ∀ st x, compS k cx st = some x -> SimSt P cx st x) (st : Stmt) (x : S) (h : stepS (compS k cx) cx st = some x) : SimSt P cx st x := by
    rcases st with _ | _
    case Expr e p =>
      replace h : (if isComp e = true then none else (do return .expr (<- compE deep cx e))) = some x := h
      refine iteS h (fun _ h => none_ne h) fun hc h => ?_
      . refine xEA (opt_bind h) fun y hy h => ?_
        rcases opt_pure h with rfl
        exact simSt_expr (Bool.not_eq_true _ ▸ hc) (simE_of _ _ y hy)
    case Return v p =>
      rcases v with _ | v
      case none => exact none_ne h
      case some =>
        refine xEA (opt_bind h) fun y hy h => ?_
        rcases opt_pure h with rfl
        exact simSt_ret (simE_of _ _ y hy)
    case Assign => exact simSt_asgE h
    case If =>
      refine xEA (opt_bind h) fun xt ht h => ?_
      refine xEA (opt_bind h) fun xa ha h => ?_
      refine xEA (opt_bind h) fun xb hb h => ?_
      rcases opt_pure h with rfl
      exact simSt_if (simT_of _ _ xt ht) (simSs_of IH _ xa ha) (simSs_of IH _ xb hb)
    case While t b o p =>
      rcases o with _ | ⟨_, _⟩
      case cons => exact none_ne h
      case nil =>
        refine xEA (opt_bind h) fun xt ht h => ?_
        refine xEA (opt_bind h) fun xb hb h => ?_
        rcases opt_pure h with rfl
        exact simSt_while (simT_of _ _ xt ht) (simSs_of IH _ xb hb)
    case For t it b o p =>
      rcases o with _ | ⟨_, _⟩
      case cons => exact none_ne h
      case nil => exact for_of h IH
    case Raise e cause p =>
      rcases cause with _ | _
      case some => exact none_ne h
      case none =>
        obtain ⟨e, rfl, h⟩ := Option.bind_eq_some_iff.mp (show e.bind (compExc cx) = some x from h)
        cases exc_is h with
        | mk k w m np cp cpos h1 h2 => exact simSt_raise h1 h2
    case Try b hs o f p =>
      replace h : (if (o.isEmpty && f.isEmpty && !hs.isEmpty) = true then (do return .tryx (<- compSs (compS k cx) b) (<- compHs (compS k cx) cx hs)) else none) = some x := h
      refine xA (iteN h) fun hc g => ?_
      clear h; rename _ = some _ => h
      . rw [Bool.and_eq_true, Bool.and_eq_true, List.isEmpty_iff, List.isEmpty_iff] at hc
        refine xA hc fun qq1 h3 => ?_; try clear hc; obtain ⟨rfl, rfl⟩ := qq1
        refine xEA (opt_bind h) fun xb hb h => ?_
        refine xEA (opt_bind h) fun xs hx h => ?_
        rcases opt_pure h with rfl
        rcases hs with _ | ⟨h₀, hs⟩
        case nil => exact absurd h3 Bool.false_ne_true
        case cons => exact simSt_try (simSs_of IH _ xb hb) (hs_of IH _ xs hx)
    case Continue => cases h; exact simSt_cont
    all_goals exact none_ne h
theorem simSt_of : ∀ (k : Nat) (st : Stmt) (x : S), compS k cx st = some x -> SimSt P cx st x
  | 0, st, x, h => none_ne h
  | k + 1, st, x, h => by
    have h : (match stepS (compS k cx) cx st with | some x => some x | none => some .bad) = some x := h
    rcases hq : stepS (compS k cx) cx st with _ | y
    case none => rw [hq] at h; cases h; exact simSt_bad
    case some => rw [hq] at h; cases h; exact step_of (fun st x => simSt_of k st x) st _ hq
structure FnAt (P : Par) (prog : Prog) (sh : Sh) (f : Str) : Prop where
  get : ∃ a o q params body scope pm cd doc d, P.fn f = some (.ref a) /\ P.B.h₀.get? a = some o /\ (P.meths.contains f = true -> o.cls = .type "function") /\ o.data = .func (methDef f q params body scope pm cd doc) /\ P.B.h₀.CodeRec cd q /\
    prog.lookup f = some d /\ compDef sh params body scope = some d
structure ShOk (P : Par) (sh : Sh) : Prop where
  meths : sh.meths = P.meths
  attrs : sh.attrs = P.B.attrs
  cls : P.mg sh.cls = some (.ref P.B.C)
  init : sh.funs.contains "__init__" = true
  exc : ExcsR P sh.excs
  g : ∀ x k, sh.consts.lookup x = some k -> ∃ v, P.mg x = some v /\ ConstR k v
theorem compDef_is {sh : Sh} {params : Arguments} {body : List Stmt} {scope : Scope} {d : FDef} (h : compDef sh params body scope = some d) : defOk params scope = true /\ ∃ xb,
    compSs (compS deep (defCx sh (params.args.map (·.arg)) scope)) body = some xb /\
      d = ⟨(params.args.map (·.arg)).length, (slotNames (params.args.map (·.arg)) scope).length, xb⟩ := by
  rcases hok : defOk params scope with _ | _
  case false => unfold compDef at h; rw [hok] at h; cases h
  case true =>
    unfold compDef at h
    rw [hok] at h
    refine xEA (opt_bind h) fun xb hxb h => ?_
    rcases opt_pure h with rfl
    exact ⟨rfl, xb, hxb, rfl⟩
theorem not_true {b : Bool} (h : (!b) = true) : b = false := by rcases b with _ | _; rfl; cases h
structure DefOk (params : Arguments) (scope : Scope) : Prop where
  po : params.posonlyargs = []
  ko : params.kwonlyargs = []
  va : params.vararg = none
  kw : params.kwarg = none
  kind : scope.kind = .function
  gen : scope.isGenerator = false
  co : scope.isCoroutine = false
  np : (params.args.map (·.arg)).Nodup
  par : ∀ x ∈ params.args.map (·.arg), scope.names.lookup x = some .local \/ scope.names.lookup x = some .cell
theorem defOk_is {params : Arguments} {scope : Scope} (h : defOk params scope = true) : DefOk params scope := by
  unfold defOk at h
  rw [Bool.and_eq_true, Bool.and_eq_true, Bool.and_eq_true, Bool.and_eq_true, Bool.and_eq_true, Bool.and_eq_true, Bool.and_eq_true, Bool.and_eq_true, Bool.and_eq_true, Bool.and_eq_true, decide_eq_true_eq] at h
  refine xA h fun qq1 h9 => ?_; try clear h; obtain ⟨⟨⟨⟨⟨⟨⟨⟨⟨h1, h2⟩, h3⟩, h4⟩, h5⟩, h6⟩, h7⟩, h8⟩, _⟩, _⟩ := qq1
  refine ⟨List.isEmpty_iff.mp h1, List.isEmpty_iff.mp h2, Option.isNone_iff_eq_none.mp h3, Option.isNone_iff_eq_none.mp h4, eq_of_beq h5, not_true h6, not_true h7, h8, fun x hx => ?_⟩
  have := List.all_eq_true.mp h9 x hx
  rw [Bool.or_eq_true] at this
  exact this.imp eq_of_beq eq_of_beq
theorem runDef_is {c : Ctx} {d : FDef} {as : List AV} {h : AHeap} (hb : runDef c d as h ≠ .bad) : as.length = d.params /\ runDef c d as h = retR (execSs c d.body (as.map some ++ List.replicate (d.slots - d.params) none) h) := by
  by_cases hl : as.length = d.params
  . exact ⟨hl, if_pos hl⟩
  . exact absurd (if_neg hl) hb
theorem arnd_in {n : Nat} {z : Bool} {A : Around} {f q : Str} {params : Arguments} {body : List Stmt} {scope : Scope} {pm cd doc : Value} {k : Nat} {a : Addr} (ar : ArndC (n + 1) z A) (hgen : scope.isGenerator = false) (hco : scope.isCoroutine = false) :
    Arnd n z (A.deeper (callEnvC (methDef f q params body scope pm cd doc) k a)) := by
  refine xE ar.frames fun outer hfr => ?_
  exact ⟨⟨⟨_, Around.frames_deeper hfr⟩, by have := ar.depth; show A.depth + 1 + 2 * n + 150 < _; lia, by have := ar.units; show A.units + 3 + 100 * n + 100 < _; lia, ar.handled⟩, by have := ar.depth; show A.depth + 1 + 2 * n + 151 < _; lia, by have := ar.units; show A.units + 3 + 100 * n + 150 < _; lia, ⟨_, outer, Around.frames_deeper hfr, hgen, hco, rfl, rfl⟩⟩
theorem frs_deeper {σ : Sg} {s : Shared} {A : Around} {env : Env} {l : Locs} {outer : List Env} (hfr : A.frames = some outer) (F : Frs P s.heap σ A) (f : Frm P s.heap σ env cx l) (ho : env.frame = some env.locals) : Frs P s.heap σ (A.deeper env) := fun l hl g hg => by
  rw [Around.frames_deeper hfr] at hl
  cases hl
  rcases List.mem_cons.mp hg with rfl | hg
  . refine xEEEA f.nsObj fun o es ep h1 h2 => ?_
    exact ⟨(by rw [f.kind]; exact fun e => nomatch e), _, o, es, ep, ho, f.new.1, h1, h2, f.out.1⟩
  . exact F outer hfr g hg
theorem frame_new {s : Shared} {fd : FuncData} {a : Addr} (habove : ∀ y c, (y, c) ∈ (callEnvC fd s.heap.objs.size a).cells -> s.heap.objs.size < c) : ∀ b ∈ FX (callEnvC fd s.heap.objs.size a), b ∈ ([] : List Addr) \/ s.heap.get? b = none := fun b hb => .inr <| by
  have hge : s.heap.objs.size <= b := by
    rcases List.mem_cons.mp hb with rfl | hb
    . exact Nat.le_refl _
    . refine xEA (List.mem_map.mp hb) fun p hp qq1 => ?_; subst qq1
      exact Nat.le_of_lt (habove p.1 p.2 hp)
  exact Heap.get?_none_of_le hge
theorem run_body {prog : Prog} {sh : Sh} {n : Nat} {z : Bool} (ok : P.Ok) (so : ShOk P sh) (ih : FSim P sh.funs (semF prog n z) n z) (iq : FSim P sh.funs (semF prog n true) n true) {f q : Str} {params : Arguments} {body : List Stmt} {scope : Scope} {pm cd doc : Value} {d : FDef} {a : Addr} {o : Obj} (hd : compDef sh params body scope = some d)
    (h2 : P.B.h₀.get? a = some o) (h3 : o.data = .func (methDef f q params body scope pm cd doc)) (h4 : P.B.h₀.CodeRec cd q) {avs : List AV} {vs : List Value} {σ : Sg} {hp : AHeap} {s : Shared} {A : Around} (S : St P.w P.B σ hp s.heap) (rv : RVs P.B s.heap σ avs vs) (ar : ArndC (n + 1) z A) (F : Frs P s.heap σ A)
    (hb : runDef ⟨semF prog n z, semF prog n true, z, fuelOf⟩ d avs hp ≠ .bad) : wpAny (model P.prog P.w) A (call (.ref a) vs) (QV P σ s (runDef ⟨semF prog n z, semF prog n true, z, fuelOf⟩ d avs hp)) (QE P σ s (runDef ⟨semF prog n z, semF prog n true, z, fuelOf⟩ d avs hp)) s := by
  refine xAEA (compDef_is hd) fun hok xb hxb qq1 => ?_; subst qq1
  have D := defOk_is hok
  refine xA (runDef_is hb) fun hlen er => ?_
  rw [er] at hb |-
  have hlv := rv.length
  refine xE ar.frames fun outer hfr => ?_
  refine wpAny_call (codeAny_call_cells (fd := methDef f q params body scope pm cd doc) (body := body) (binds := (params.args.map (·.arg)).zip vs) (by have := ar.depth; lia) (S.base a o h2) h3 (ok.noLimit S) (h4.keeps S.base) rfl
    (bind_plain D.po D.ko D.va D.kw D.np (hlen.symm.trans hlv)) rfl (fun x hx => ?_) (fun s₁ x => ?_) D.co D.gen D.kind)
  . have hmem : x.1 ∈ params.args.map (·.arg) := (List.of_mem_zip (a := x.1) (b := x.2) hx).1
    exact (D.par _ hmem).imp id fun e => ⟨e, cells_has _ _ _ _ (.inl e)⟩
  . have fr := frm_call (sh := sh) (scope := scope) S rv rfl hok hlen rfl rfl x
    have habove := x.above
    refine xEEA x.done fun h' tk qq1 hkeep => ?_; subst qq1
    have a₁ : After P σ σ [] hp s { s with heap := h', toks := tk } := ⟨rfl, S.keep hkeep, grows_keep hkeep⟩
    have F₁ := frs_deeper (s := { s with heap := h', toks := tk }) hfr (F.after a₁.gr) fr rfl
    have I : InvS P (defCx sh (params.args.map (·.arg)) scope) n z (callEnvC (methDef f q params body scope pm cd doc) s.heap.objs.size a) (A.deeper (callEnvC (methDef f q params body scope pm cd doc) s.heap.objs.size a)) σ _ hp { s with heap := h', toks := tk } :=
      ⟨⟨a₁.st, fr, arnd_in ar D.gen D.co, F₁⟩, ⟨outer, Around.frames_deeper hfr⟩, rfl⟩
    refine wpAny_mono (simSs_of (simSt_of deep) body xb hxb ⟨semF prog n z, semF prog n true, z, fuelOf⟩ n _ _ σ _ hp _ ⟨ok, ih, iq, so.meths, so.attrs, so.cls, so.init, so.exc, so.g⟩ I (fun e => hb (by rw [e]; rfl))) (fun fl s' Q => ?_) (fun v s' Q => ?_)
    . obtain ⟨fl', l', hp', σ', e, a₂, rf, _⟩ := Q
      rw [e] at hb |-
      have a₃ := a₁.toX.trans a₂
      have a₄ : After P σ σ' [] hp' s s' := ⟨a₃.ctl, a₃.st, a₃.gr.drop (frame_new habove)⟩
      rcases fl' with _ | av | _
      case next => rcases (show fl = .next from rf) with rfl; exact ⟨_, _, _, rfl, a₄, rfl⟩
      case ret => refine xEA rf fun v qq1 rv' => ?_; try clear rf; subst qq1; exact ⟨_, _, _, rfl, a₄, rv'⟩
      case cont => exact absurd rfl hb
    . obtain ⟨k, l₂, hp₂, σ₂, e, er2, rfl, b, fl, fr₂⟩ := Q
      rw [er2]
      have F₂ := I.fs.afterX b.gr I.fr fr₂
      have a₃ := a₁.toX.trans b
      refine xA (alive a₃) fun al1 al2 => ?_
      refine wpAny_bind (leave_fly (Around.frames_deeper hfr) F₂ rfl al1 al2 (fl.lift a₁.gr) fun h'' Dd t ft => ?_)
      have a₄ := a₃.touch S.base t fun b hb => F₂.place (Around.frames_deeper hfr) hb
      exact ⟨k, hp₂, σ₂, e, rfl, rfl, ⟨a₄.ctl, a₄.st, a₄.gr.drop (frame_new habove)⟩, ft.fly⟩
theorem semF_sim {prog : Prog} {sh : Sh} (ok : P.Ok) (so : ShOk P sh) (hf : ∀ f, sh.funs.contains f = true -> FnAt P prog sh f) : ∀ n z, FSim P sh.funs (semF prog n z) n z
  | 0, z, f, hc => by
    refine xEEEEEEEEEEAA ((hf f hc).get) fun a o q params body scope pm cd doc d h1 h2 qq1 => ?_; refine xAAAA qq1 fun hc h3 h4 h5 h6 => ?_
    exact ⟨a, o, _, h1, h2, hc, h3, fun avs vs σ hp s A S rv ar F hb => absurd rfl hb⟩
  | n + 1, z, f, hc => by
    refine xEEEEEEEEEEAA ((hf f hc).get) fun a o q params body scope pm cd doc d h1 h2 qq1 => ?_; refine xAAAA qq1 fun hc h3 h4 h5 h6 => ?_
    refine ⟨a, o, _, h1, h2, hc, h3, fun avs vs σ hp s A S rv ar F hb => ?_⟩
    rw [semF_at h5] at hb |-
    exact run_body ok so (semF_sim ok so hf n z) (semF_sim ok so hf n true) h6 h2 h3 h4 S rv ar F hb
end
end
section
open PySem PySem.Spec PySem.W PyProof.Rows PySem.SeqAt
noncomputable def theCls (p : Program) (sh : Sh) : Option ClsRec := (plainsOf p []).find? fun c => c.name == sh.cls
structure Src where
  params : Arguments
  body : List Stmt
  scope : Scope
noncomputable def srcOf (p : Program) (sh : Sh) (f : Str) : Option Src :=
  if sh.meths.contains f then (theCls p sh).bind fun c => (c.meths.find? fun m => m.name == f).map fun m => ⟨m.params, m.body, m.scope⟩
  else ((recsOf p).find? fun d => d.name == f).map fun d => ⟨d.params, d.body, d.scope⟩
noncomputable def compFuns (p : Program) (sh : Sh) : List Str -> Option Prog
  | [] => some []
  | f :: r => ((srcOf p sh f).bind fun x => compDef sh x.params x.body x.scope).bind fun x => (compFuns p sh r).bind fun xs => some ((f, x) :: xs)
theorem compFuns_at {p : Program} {sh : Sh} : ∀ {fs : List Str} {ds : Prog}, compFuns p sh fs = some ds -> ∀ f ∈ fs, ∃ s x, srcOf p sh f = some s /\ compDef sh s.params s.body s.scope = some x /\ ds.lookup f = some x
  | [], _, _, _, h => nomatch h
  | g :: r, ds, h, f, hf => by
    refine xEA (Option.bind_eq_some_iff.mp h) fun x hx h => ?_
    refine xEA (Option.bind_eq_some_iff.mp h) fun xs hxs h => ?_
    rcases Option.some.inj h with rfl
    next =>
      rw [List.lookup_cons]
      by_cases e : f = g
      . subst e
        refine xEA (Option.bind_eq_some_iff.mp hx) fun s h1 h2 => ?_
        exact ⟨s, x, h1, h2, by rw [beq_self_eq_true]⟩
      . have hf' : f ∈ r := (List.mem_cons.mp hf).resolve_left e
        refine xEEAA (compFuns_at hxs f hf') fun s x' h1 h3 h4 => ?_
        have : (f == g) = false := beq_eq_false_iff_ne.mpr e
        exact ⟨s, x', h1, h3, by rw [this]; exact h4⟩
theorem bootB : ∀ x v, (x, v) ∈ bltPairs -> bootBuiltins x = some v /\ x ≠ "__name__" := by
  intro x v h
  simp only [bltPairs, List.mem_cons, Prod.mk.injEq, List.not_mem_nil, or_false] at h
  rcases h with ⟨rfl, rfl⟩ | ⟨rfl, rfl⟩ | ⟨rfl, rfl⟩ | ⟨rfl, rfl⟩ | ⟨rfl, rfl⟩ | ⟨rfl, rfl⟩ | ⟨rfl, rfl⟩ | ⟨rfl, rfl⟩ | ⟨rfl, rfl⟩ <;> exact ⟨by rfl, by decide⟩
noncomputable def freeOk (p : Program) (loose : List Str) : Bool := bltPairs.all fun x => !startupNames.contains x.1 && !loose.contains x.1 && !((recsOf p).map (·.name)).contains x.1 && !((litsOf p).map (·.1)).contains x.1 && !((clssOf p loose).map (·.name)).contains x.1
noncomputable def constD : Const -> Option PyData
  | .int i => some (.int i)
  | .str x => some (.str x)
  | _ => none
noncomputable def shOk (p : Program) (sh : Sh) (c : ClsRec) : Bool :=
  sh.attrs.all (fun a => c.statics.contains a) && sh.meths.contains "__init__" && sh.funs.contains "__init__" && decide (sh.attrs.length <= 1000)
noncomputable def constsOk (p : Program) (sh : Sh) : Prop := ∀ x k, (x, k) ∈ sh.consts -> ∃ d, constD k = some d /\ valOf p x = some d
noncomputable def excsOk (p : Program) (sh : Sh) (all : List Str) : Bool :=
  (sh.excs.all fun q => specOf p q.1 == some ("ValueError.__new__", excBm)) && (all.all fun j => specOf p j == some ("ValueError.__new__", excBm)) && sh.excs.all fun q => q.2.all fun j => all.contains j
section
variable {prog view : Program} {mean : ExcName -> Option Value} {w : World} {mg mb : Str -> Option Value} {h : Heap} {sh : Sh}
theorem ok_of_top (T : Top view [] mean mg mb h) (hi : importsNone view = true) (ht : prog.given.tree = none) (hf : freeOk view [] = true) {c : ClsRec} {C N : Addr} {mN : Str -> Option Value} (pa : PlainAt h c C N mN) (hs : shOk view sh c = true)
    (ha : ∀ a ∈ sh.attrs, typeLookup (.type "object") a = pure none) (hm : ∀ m ∈ sh.meths, ∃ y, typeLookup (.type "object") m = pure y) : Par.Ok ⟨prog, w, ⟨h, C, sh.attrs⟩, mg, mb, N, mN, sh.meths⟩ := by
  simp only [shOk, Bool.and_eq_true, decide_eq_true_eq] at hs
  refine xA hs fun qq1 hs4 => ?_; try clear hs; obtain ⟨⟨hs1, hs2⟩, hs3⟩ := qq1
  refine ⟨fun x v hm => ?_, T.g, T.b, T.nolimit, T.seer hi, ht, ?_, pa.cls, pa.quiet _ (List.mem_append_left _ (.head _)), pa.quiet _ (List.mem_append_left _ (.tail _ (.head _))), pa.quiet _ (List.mem_append_left _ (.tail _ (.tail _ (.head _)))), fun a q => ?_, fun m q => hm m (List.contains_iff_mem.mp q), Nat.le_trans hs4 (by decide), hs2⟩
  . refine xA (bootB x v hm) fun h1 h2 => ?_
    have := List.all_eq_true.mp hf _ hm
    simp only [Bool.and_eq_true, Bool.not_eq_true', List.contains_eq_mem, decide_eq_false_iff_not] at this
    refine xA this fun qq1 e => ?_; try clear this; obtain ⟨⟨⟨a, b⟩, c⟩, d⟩ := qq1
    exact ⟨T.free x a b c d e, (T.builtins x h2).trans h1⟩
  . refine xEA ((T.seer hi).mods) fun mm qq1 _ => ?_; refine xEEEA qq1 fun o _ _ ho _ => ?_
    exact ⟨o, ho⟩
  . have hmem := List.contains_iff_mem.mp q
    exact ⟨pa.quiet _ (List.mem_append_right _ (List.contains_iff_mem.mp (List.all_eq_true.mp hs1 a hmem))), ha a hmem⟩
theorem fns_of_top (T : Top view [] mean mg mb h) {pr : Prog} (hc : compFuns view sh sh.funs = some pr) {c : ClsRec} (hcls : theCls view sh = some c) {C N : Addr} {mN : Str -> Option Value} (pa : PlainAt h c C N mN) (f : Str) (hf : sh.funs.contains f = true) :
    FnAt ⟨prog, w, ⟨h, C, sh.attrs⟩, mg, mb, N, mN, sh.meths⟩ pr sh f := by
  refine xEEAA (compFuns_at hc f (List.contains_iff_mem.mp hf)) fun s x h1 h2 h3 => ?_
  unfold srcOf at h1
  rcases hm : sh.meths.contains f with _ | _
  case true =>
    rw [hm, if_pos rfl, hcls] at h1
    refine xEA (Option.map_eq_some_iff.mp h1) fun m hfm qq1 => ?_; subst qq1
    have hn : m.name = f := eq_of_beq (List.find?_some (p := fun m : MethRec => m.name == f) hfm)
    refine xEEEEEAAAA (pa.meths m (List.mem_of_find?_eq_some hfm)) fun g o pm cd doc e1 e2 e3 e4 e5 => ?_
    subst hn
    exact ⟨⟨g, o, _, _, _, _, pm, cd, doc, x, (show (if sh.meths.contains m.name = true then mN m.name else mg m.name) = _ by rw [if_pos hm]; exact e1), e2, fun _ => e3, e4, e5, h3, h2⟩⟩
  case false =>
    rw [hm, if_neg Bool.false_ne_true] at h1
    refine xEA (Option.map_eq_some_iff.mp h1) fun d hfd qq1 => ?_; subst qq1
    have hn : d.name = f := eq_of_beq (List.find?_some (p := fun d : DefRec => d.name == f) hfd)
    refine xEEEEEAAA (T.fn d (List.mem_of_find?_eq_some hfd)) fun a o pm code doc e1 e2 e3 e4 => ?_
    subst hn
    exact ⟨⟨a, o, _, _, _, _, pm, code, doc, x, (show (if sh.meths.contains d.name = true then mN d.name else mg d.name) = _ by rw [if_neg (by rw [hm]; exact Bool.false_ne_true)]; exact e1), e2, fun q => absurd (hm.symm.trans q) Bool.false_ne_true, e3, e4, h3, h2⟩⟩
theorem lookup_in {α : Type} : ∀ {l : List (Str × α)} {n : Str} {c : α}, l.lookup n = some c -> (n, c) ∈ l := PySem.mem_of_lookup
theorem const_of {k : Const} {d : PyData} {v : Value} (hk : constD k = some d) (r : Reads h v d []) : ConstR k v := by
  rcases k with _ | _
  case int i => cases hk; cases r; exact ⟨_, rfl⟩
  case str x => cases hk; cases r; exact ⟨_, rfl⟩
  all_goals exact none_ne hk
theorem excs_of (T : Top view [] mean mg mb h) {all : List Str} (hs : excsOk view sh all = true) (he : ExcSaid sh.excs all mg h) {C N : Addr} {mN : Str -> Option Value} : ExcsR ⟨prog, w, ⟨h, C, sh.attrs⟩, mg, mb, N, mN, sh.meths⟩ sh.excs := by
  unfold excsOk at hs
  rw [Bool.and_eq_true, Bool.and_eq_true] at hs
  refine xA hs fun qq1 h3 => ?_; try clear hs; refine xA qq1 fun h1 h2 => ?_
  have known : ∀ j, (sh.excs.any fun p => p.2.contains j) = true -> j ∈ all := fun j hj => by
    refine xEA (List.any_eq_true.mp hj) fun p hp hc => ?_
    exact List.contains_iff_mem.mp (List.all_eq_true.mp (List.all_eq_true.mp h3 p hp) j (List.contains_iff_mem.mp hc))
  refine ⟨fun k ks hk => ?_, fun j hj => ?_, fun k ks j C' D o cd hk hj e1 e2 e3 e4 => ?_⟩
  . refine xEA (T.ownAt (eq_of_beq (List.all_eq_true.mp h1 _ (lookup_in hk)))) fun K O _ => ?_
    exact ⟨K, O⟩
  . refine xEA (T.ownAt (eq_of_beq (List.all_eq_true.mp h2 _ (known j hj)))) fun K O _ => ?_
    exact ⟨K, O⟩
  . refine xEEEEAAAA (he (k, ks) (lookup_in hk) j (known j hj)) fun C₁ D₁ o₁ cd₁ f1 f2 f3 f4 f5 => ?_
    have e1 : mg k = some (.ref C') := e1
    have e2 : mg j = some (.ref D) := e2
    have f1 : mg k = some (.ref C₁) := f1
    rw [f1] at e1; rw [f2] at e2
    cases e1; cases e2
    have e3 : h.get? C' = some o := e3
    rw [f3] at e3; cases e3
    rw [f4] at e4; cases e4
    exact f5
theorem law_call (T : Top view [] mean mg mb h) (TE : TopE view [] mg h) {s₁ : Shared} (hs : s₁.heap = h) (hi : importsNone view = true) (ht : prog.given.tree = none) (hf : freeOk view [] = true) {c : ClsRec} (hcls : theCls view sh = some c) (hsh : shOk view sh c = true)
    (ha : ∀ a ∈ sh.attrs, typeLookup (.type "object") a = pure none) (hm : ∀ m ∈ sh.meths, ∃ y, typeLookup (.type "object") m = pure y) (hk : constsOk view sh) {all : List Str} (hxs : excsOk view sh all = true) (hxe : ExcSaid sh.excs all mg h) {pr : Prog} (hc : compFuns view sh sh.funs = some pr)
    (hl : sh.funs.contains "law" = true) (hlm : sh.meths.contains "law" = false) {fa : Addr} (hfa : mg "law" = some (.ref fa)) {a : Addr} {vs : List Value} {xs : List Int} (hL : h.IsList a vs.toArray) (hI : IntsAre vs xs) {hp : AHeap}
    (hrun : semF pr 16 false "law" [.scr xs] [] = .ok (.bool true) hp) {Q : Value -> Shared -> Prop} {E : Value -> Shared -> Prop}
    (k : ∀ s', (∀ b o, s₁.heap.get? b = some o -> s'.heap.get? b = some o) -> s'.os = s₁.os -> s'.gens = s₁.gens -> Q (.bool true) s') :
    wpAny (model prog w) callerA (call (.ref fa) [.ref a]) Q E s₁ := by
  subst hs
  refine xEEEA (TE.topC c (List.mem_of_find?_eq_some hcls)) fun C N mN hC pa' => ?_
  have hcn : c.name = sh.cls := eq_of_beq (List.find?_some (p := fun c : ClsRec => c.name == sh.cls) hcls)
  let P : Par := ⟨prog, w, ⟨s₁.heap, C, sh.attrs⟩, mg, mb, N, mN, sh.meths⟩
  have ok : P.Ok := ok_of_top T hi ht hf pa' hsh ha hm
  have so : ShOk P sh := ⟨rfl, rfl, hcn ▸ hC, (by simp only [shOk, Bool.and_eq_true] at hsh; exact hsh.1.2), excs_of T hxs hxe, fun x kk hx => by
    refine xEA (hk x kk (lookup_in hx)) fun d h1 h2 => ?_
    refine xEA (T.const x d h2) fun v h3 h4 => ?_
    exact ⟨v, h3, const_of h1 (h4 s₁.heap)⟩⟩
  refine xEEEAAAA (semF_sim (P := P) ok so (fns_of_top (prog := prog) (w := w) T hc hcls pa') 16 false "law" hl) fun fa' o fd e1 e2 _ e3 hcall => ?_
  have : fa' = fa := by
    have e1' : (if sh.meths.contains "law" = true then mN "law" else mg "law") = some (.ref fa') := e1
    rw [hlm, if_neg Bool.false_ne_true, hfa] at e1'; cases e1'; rfl
  subst this
  have S : St P.w P.B [] [] s₁.heap := ⟨rfl, by simp, (fun n a off o e => by simp at e), (fun b o e => e), (fun p hp => nomatch hp)⟩
  have rv : RVs P.B s₁.heap [] [.scr xs] [.ref a] := ⟨⟨a, _, rfl, hL, ris_of hI⟩, trivial⟩
  refine wpAny_mono (hcall [.scr xs] [.ref a] [] [] s₁ callerA S rv ⟨⟨[], rfl⟩, by decide, by decide, fun _ => rfl⟩ (fun l hl f hf => by cases hl; exact nomatch hf) (by rw [hrun]; exact fun e => nomatch e)) (fun v s' q => ?_) (fun _ _ q => by obtain ⟨_, _, _, _, er, _⟩ := q; rw [hrun] at er; cases er)
  obtain ⟨av, hp', σ', er, af, r⟩ := q
  rw [hrun] at er
  cases er
  rcases (show v = .bool true from r) with rfl
  exact k s' af.st.base (by rw [af.ctl]) (by rw [af.ctl])
end
end
section
open PySem
theorem lim_le {n : Nat} (h : n <= 3000) : n <= sizeLim := Nat.le_trans h (by decide)
theorem lim_lt {n : Nat} (h : n <= 3000) : n < sizeLim := Nat.lt_of_le_of_lt h (by decide)
section
variable {h : AHeap} {l : Locs} {c : Ctx}
theorem b_add {x y : Int} : binAV .add (.int x) (.int y) h = .ok (.int (x + y)) h := rfl
theorem b_sub {x y : Int} : binAV .sub (.int x) (.int y) h = .ok (.int (x - y)) h := rfl
theorem b_mulL {x y : Int} (hx : x.natAbs < 2 ^ 64) : binAV .mul (.int x) (.int y) h = .ok (.int (x * y)) h :=
  if_pos (show (decide (x.natAbs < 2 ^ 64) || decide (y.natAbs < 2 ^ 64)) = true by rw [decide_eq_true hx]; rfl)
theorem b_mulR {x y : Int} (hx : y.natAbs < 2 ^ 64) : binAV .mul (.int x) (.int y) h = .ok (.int (x * y)) h :=
  if_pos (show (decide (x.natAbs < 2 ^ 64) || decide (y.natAbs < 2 ^ 64)) = true by rw [decide_eq_true hx]; exact Bool.or_true _)
theorem b_div {x y : Int} (hy : y ≠ 0) : binAV .div (.int x) (.int y) h = .ok (.int (x.fdiv y)) h := if_neg hy
theorem b_mod {x y : Int} (hy : y ≠ 0) : binAV .mod (.int x) (.int y) h = .ok (.int (x.fmod y)) h := if_neg hy
theorem c_lt {x y : Int} : cmpAV h .lt (.int x) (.int y) = some (decide (x < y)) := rfl
theorem c_le {x y : Int} : cmpAV h .le (.int x) (.int y) = some (decide (x <= y)) := rfl
theorem c_gt {x y : Int} : cmpAV h .gt (.int x) (.int y) = some (decide (y < x)) := rfl
theorem c_ge {x y : Int} : cmpAV h .ge (.int x) (.int y) = some (decide (y <= x)) := rfl
theorem c_eqi {x y : Int} : cmpAV h .eq (.int x) (.int y) = some (decide (x = y)) := rfl
theorem c_nei {x y : Int} : cmpAV h .ne (.int x) (.int y) = some (!decide (x = y)) := rfl
theorem c_eqs {x y : List Nat} : cmpAV h .eq (.str x) (.str y) = some (decide (x = y)) := rfl
theorem len_scr {x : List Int} (hl : x.length <= sizeLim) : biAV .len [.scr x] h = .ok (.int x.length) h := if_pos hl
theorem len_list {n : Nat} {x : List AV} (hn : h[n]? = some (.list x)) : biAV .len [.loc n] h = .ok (.int x.length) h := by
  show lenAV (.loc n) h = _
  delta lenAV
  dsimp only
  rw [hn]
theorem len_tup {x : List AV} (hl : x.length <= sizeLim) : biAV .len [.tup x] h = .ok (.int x.length) h := if_pos hl
theorem idx_nat {γ : Type} {xs : List γ} {k : Int} (hk : 0 <= k) : idx? xs k = xs[k.toNat]? := by unfold idx?; rw [if_pos hk]
theorem idx_last {γ : Type} {xs : List γ} (hk : 0 < xs.length) : idx? xs (-1) = xs[xs.length - 1]? := by
  unfold idx?; rw [if_neg (by lia), if_pos (by lia)]
  congr 1; lia
theorem subI_at {x : List AV} {k : Int} {d : AV} (hl : x.length <= sizeLim) (hd : idx? x k = some d) : okO (subI x (some k)) h = .ok d h := by
  show okO (if x.length <= sizeLim then idx? x k else none) h = _
  rw [if_pos hl, hd]; rfl
theorem sub_scr {x : List Int} {k : Int} {d : Int} (hl : x.length <= sizeLim) (hk : 0 <= k) (hd : x[k.toNat]? = some d) : subAV (.scr x) (.int k) h = .ok (.int d) h :=
  subI_at (x := x.map .int) (by rw [List.length_map]; exact hl) (by rw [idx_nat hk, List.getElem?_map, hd]; rfl)
theorem sub_loc {n : Nat} {x : List AV} {i : AV} (hh : h[n]? = some (.list x)) : subAV (.loc n) i h = okO (subI x (intOf i)) h := by
  delta subAV
  dsimp only
  rw [hh]; rfl
theorem sub_list {n : Nat} {x : List AV} {k : Int} {d : AV} (hl : x.length <= sizeLim) (hh : h[n]? = some (.list x)) (hk : 0 <= k) (hd : x[k.toNat]? = some d) : subAV (.loc n) (.int k) h = .ok d h :=
  (sub_loc hh).trans (subI_at hl (by rw [idx_nat hk]; exact hd))
theorem sub_last {n : Nat} {x : List AV} {d : AV} (hl : x.length <= sizeLim) (hh : h[n]? = some (.list x)) (hd : x[x.length - 1]? = some d) : subAV (.loc n) (.int (-1)) h = .ok d h :=
  (sub_loc hh).trans (subI_at hl (by rw [idx_last (Nat.lt_of_le_of_lt (Nat.zero_le _) (List.getElem?_eq_some_iff.mp hd).1)]; exact hd))
theorem sub_t0 {x y : AV} : subAV (.tup [x, y]) (.int 0) h = .ok x h := rfl
theorem sub_t1 {x y : AV} : subAV (.tup [x, y]) (.int 1) h = .ok y h := rfl
theorem sub_dict {n : Nat} {x : List (Key × AV)} {ep : Nat} {kv : AV} {k : Key} {d : AV} (hh : h[n]? = some (.dict x ep)) (hk : kv.key? = some k) (hs : sortOk x k = true) (hd : x.lookup k = some d) : subAV (.loc n) kv h = .ok d h := by
  delta subAV
  dsimp only
  rw [hh]
  show okO (subD x kv.key?) h = _
  rw [hk]
  show okO (if sortOk x k = true then x.lookup k else none) h = _
  rw [if_pos hs, hd]; rfl
theorem isIn_dict {n : Nat} {x : List (Key × AV)} {ep : Nat} {kv : AV} {k : Key} (hh : h[n]? = some (.dict x ep)) (hk : kv.key? = some k) (hs : sortOk x k = true) : isIn h kv (.loc n) = some (x.lookup k).isSome := by
  delta isIn
  dsimp only
  rw [hh]
  show inDict x kv.key? = _
  rw [hk]
  exact if_pos hs
theorem in_dict' {n : Nat} {x : List (Key × AV)} {ep : Nat} {kv : AV} {k : Key} (hh : h[n]? = some (.dict x ep)) (hk : kv.key? = some k) (hs : sortOk x k = true) : cmpAV h .isin kv (.loc n) = some (x.lookup k).isSome := isIn_dict hh hk hs
theorem notin_dict' {n : Nat} {x : List (Key × AV)} {ep : Nat} {kv : AV} {k : Key} (hh : h[n]? = some (.dict x ep)) (hk : kv.key? = some k) (hs : sortOk x k = true) : cmpAV h .notin kv (.loc n) = some (!(x.lookup k).isSome) :=
  congrArg (Option.map not) (isIn_dict hh hk hs)
theorem set_dict {n : Nat} {x : List (Key × AV)} {ep : Nat} {kv v : AV} {k : Key} (hh : h[n]? = some (.dict x ep)) (hk : kv.key? = some k) (hs : sortOk x k = true) (hl : x.length < sizeLim) :
    ∃ ep', setItemAV (.loc n) kv v h = some (h.set n (.dict (dictPut x k v) ep')) :=
  ⟨if (x.lookup k).isSome then ep else ep + 1, by
    delta setItemAV
    dsimp only
    rw [hh]
    show setD h n x ep v kv.key? = _
    rw [hk]
    exact if_pos (by rw [hs, decide_eq_true hl]; rfl)⟩
theorem newList_ok {vs : List AV} (hl : vs.length <= sizeLim) : newList vs h = .ok (.loc h.length) (h ++ [.list vs]) := if_pos hl
theorem listAt_of {n : Nat} {x : List AV} (hh : h[n]? = some (.list x)) : listAt h n = some x := by delta listAt; rw [hh]
theorem dictAt_of {n : Nat} {x : List (Key × AV)} {ep : Nat} (hh : h[n]? = some (.dict x ep)) : dictAt h n = some (x, ep) := by delta dictAt; rw [hh]
theorem append_ok {n : Nat} {x : List AV} {v : AV} (hh : h[n]? = some (.list x)) (hl : x.length < sizeLim) : appendAV (.loc n) [v] h = .ok .none (h.set n (.list (x ++ [v]))) := by
  delta appendAV
  dsimp only
  rw [listAt_of hh]
  exact if_pos hl
theorem newListO_ok {o : Option (List AV)} {x : List AV} (ho : o = some x) (hl : x.length <= sizeLim) : newListO o h = .ok (.loc h.length) (h ++ [.list x]) := by
  rw [ho]; exact newList_ok hl
theorem list_ok {n : Nat} {x : List AV} (hh : walkOf h n = some x) (hl : x.length <= sizeLim) : biAV .list [.loc n] h = .ok (.loc h.length) (h ++ [.list x]) := newListO_ok hh hl
theorem walk_list {n : Nat} {x : List AV} (hh : h[n]? = some (.list x)) : walkOf h n = some x := by delta walkOf; rw [hh]
theorem walk_dict {n : Nat} {x : List (Key × AV)} {ep : Nat} (hh : h[n]? = some (.dict x ep)) : walkOf h n = some (x.map fun p => p.1.av) := by delta walkOf; rw [hh]
end
theorem eqAll_int {f : AV -> AV -> Option Bool} {κ : Type} [DecidableEq κ] {g : κ -> AV} (hf : ∀ a b, f (g a) (g b) = some (decide (a = b))) : ∀ xs ys : List κ, xs.length = ys.length -> eqAll f (xs.map g) (ys.map g) = some (decide (xs = ys))
  | [], [], _ => rfl
  | a :: xs, b :: ys, h => by
    have e : eqAll f ((a :: xs).map g) ((b :: ys).map g) = and2 (f (g a) (g b)) (eqAll f (xs.map g) (ys.map g)) := rfl
    rw [e, hf, eqAll_int hf xs ys (Nat.succ.inj h)]
    by_cases h1 : a = b
    . subst h1
      by_cases h2 : xs = ys
      . rw [decide_eq_true rfl, decide_eq_true h2, decide_eq_true (by rw [h2])]; rfl
      . rw [decide_eq_true rfl, decide_eq_false h2, decide_eq_false fun q => h2 (List.cons.inj q).2]; rfl
    . rw [decide_eq_false h1, decide_eq_false fun q => h1 (List.cons.inj q).1]; rfl
  | [], _ :: _, h => nomatch h
  | _ :: _, [], h => nomatch h
theorem eqv_pair {h : AHeap} {n : Nat} {a b c d : Int} : eqv h (n + 2) (.tup [.int a, .int b]) (.tup [.int c, .int d]) = some (decide (a = c) && decide (b = d)) := by
  show some (decide (a = c) && (decide (b = d) && true)) = _
  rw [Bool.and_true]
theorem eq_lists {h : AHeap} {n m f : Nat} {κ : Type} [DecidableEq κ] {g : κ -> AV} {xs ys : List κ} (hn : h[n]? = some (.list (xs.map g))) (hm : h[m]? = some (.list (ys.map g))) (hf : ∀ a b, eqv h f (g a) (g b) = some (decide (a = b))) :
    eqv h (f + 1) (.loc n) (.loc m) = some (decide (xs = ys)) := by
  have e : eqv h (f + 1) (.loc n) (.loc m) = eqL (eqv h f) (listAt h n) (listAt h m) := rfl
  rw [e, listAt_of hn, listAt_of hm]
  show (if (xs.map g).length = (ys.map g).length then eqAll (eqv h f) (xs.map g) (ys.map g) else some false) = _
  rw [List.length_map, List.length_map]
  by_cases hl : xs.length = ys.length
  . rw [if_pos hl, eqAll_int hf _ _ hl]
  . rw [if_neg hl]
    have : xs ≠ ys := fun e => hl (by rw [e])
    rw [decide_eq_false this]
theorem ne_of_eqv {h : AHeap} {a b : AV} {r : Bool} (e : eqv h eqFuel a b = some r) : cmpAV h .ne a b = some (!r) := by
  show (eqv h eqFuel a b).map not = _
  rw [e]; rfl
theorem eq_of_list {h : AHeap} {n m : Nat} {x : List AV} {r : Bool} (hm : h[m]? = some (.list x)) (e : eqv h eqFuel (.loc n) (.loc m) = some r) : cmpAV h .eq (.loc n) (.loc m) = some r := e
theorem nx_ok {α : Type} {a : α} {h : AHeap} : (Res.ok a h).noExc = .ok a h := rfl
theorem nx_s {f : Flow} {l : Locs} {h : AHeap} : (SR.ok f l h).noExc = .ok f l h := rfl
theorem retR_exc {k : Str} {l : Locs} {h : AHeap} : retR (.exc k l h) = .exc k h := rfl
inductive Halt : SR -> Prop
  | ret (v : AV) (l : Locs) (h : AHeap) : Halt (.ok (.ret v) l h)
  | exc (k : Str) (l : Locs) (h : AHeap) : Halt (.exc k l h)
inductive Turn (I : Locs -> AHeap -> Prop) (R : SR -> Prop) : SR -> Prop
  | next (l : Locs) (h : AHeap) (i : I l h) : Turn I R (.ok .next l h)
  | cont (l : Locs) (h : AHeap) (i : I l h) : Turn I R (.ok .cont l h)
  | halt (r : SR) (q : Halt r) (x : R r) : Turn I R r
theorem forLoop_gen {put : Locs -> AV -> Option Locs} {body : Locs -> AHeap -> SR} {src : AV} {items : List AV} (I : Nat -> Locs -> AHeap -> Prop) (R : SR -> Prop)
    (hn : ∀ k l h, I k l h -> nextAt src k h = some items[k]?)
    (step : ∀ k v l h, items[k]? = some v -> I k l h -> ∃ l1, put l v = some l1 /\ Turn (I (k + 1)) R (body l1 h)) :
    ∀ f k l h, items.length < f + k -> k <= items.length -> I k l h ->
      (∃ l' h', forLoop put body src f k l h = .ok .next l' h' /\ I items.length l' h') \/ R (forLoop put body src f k l h)
  | 0, k, l, h, h1, h2, _ => absurd h1 (by lia)
  | f + 1, k, l, h, h1, h2, hI => by
    rw [for_succ, hn k l h hI]
    by_cases hk : k < items.length
    . refine xEA (step k items[k] l h (List.getElem?_eq_getElem hk) hI) fun l1 hp t => ?_
      rw [List.getElem?_eq_getElem hk]
      show (∃ l' h', (match put l items[k] with | some l' => (body l' h).lap (forLoop put body src f (k + 1)) | none => SR.bad) = SR.ok .next l' h' /\ I items.length l' h') \/ R (match put l items[k] with | some l' => (body l' h).lap (forLoop put body src f (k + 1)) | none => SR.bad)
      rw [hp]
      show (∃ l' h', (body l1 h).lap (forLoop put body src f (k + 1)) = SR.ok .next l' h' /\ I items.length l' h') \/ R ((body l1 h).lap (forLoop put body src f (k + 1)))
      generalize hb : body l1 h = r at t
      cases t with
      | next l' h' i => exact forLoop_gen I R hn step f (k + 1) l' h' (by lia) (by lia) i
      | cont l' h' i => exact forLoop_gen I R hn step f (k + 1) l' h' (by lia) (by lia) i
      | halt _ q x => cases q <;> exact .inr x
    . have e : k = items.length := by lia
      subst e
      rw [List.getElem?_eq_none (Nat.le_refl _)]
      exact .inl ⟨l, h, rfl, hI⟩
theorem forLoop_put {put : Locs -> AV -> Option Locs} {body : Locs -> AHeap -> SR} {src : AV} {items : List AV} (I : Nat -> Locs -> AHeap -> Prop)
    (hn : ∀ k l h, I k l h -> nextAt src k h = some items[k]?)
    (step : ∀ k v l h, items[k]? = some v -> I k l h -> ∃ l1, put l v = some l1 /\ ∃ l' h', body l1 h = .ok .next l' h' /\ I (k + 1) l' h')
    {f : Nat} {l : Locs} {h : AHeap} (hf : items.length < f) (hI : I 0 l h) : ∃ l' h', forLoop put body src f 0 l h = .ok .next l' h' /\ I items.length l' h' := by
  rcases forLoop_gen (body := body) I (fun _ => False) hn (fun k v l h e hI => xEAEEA (step k v l h e hI) fun l1 hp l' h' a c => ⟨l1, hp, by rw [a]; exact .next l' h' c⟩) f 0 l h (by omega) (by lia) hI with h1 | h1
  . exact h1
  . exact h1.elim
theorem forLoop_all {i : Nat} {body : Locs -> AHeap -> SR} {src : AV} {items : List AV} (I : Nat -> Locs -> AHeap -> Prop)
    (hn : ∀ k l h, I k l h -> nextAt src k h = some items[k]?)
    (step : ∀ k v l h, items[k]? = some v -> I k l h -> ∃ l' h', body (l.set i (some v)) h = .ok .next l' h' /\ I (k + 1) l' h')
    {f : Nat} {l : Locs} {h : AHeap} (hf : items.length < f) (hI : I 0 l h) : ∃ l' h', forLoop (put1 i) body src f 0 l h = .ok .next l' h' /\ I items.length l' h' :=
  forLoop_put I hn (fun k v l h e hI => ⟨_, rfl, step k v l h e hI⟩) hf hI
theorem compLoop_all {body : AV -> AHeap -> Res (Option AV)} {src : AV} {items : List AV} (I : Nat -> List AV -> AHeap -> Prop)
    (hn : ∀ k a h, I k a h -> nextAt src k h = some items[k]?)
    (step : ∀ k v a h, items[k]? = some v -> I k a h -> ∃ r h', body v h = .ok r h' /\ I (k + 1) (a ++ r.toList) h') (hl : items.length <= 1000) :
    ∀ f k a h, items.length < f + k -> k <= items.length -> a.length <= k -> I k a h -> ∃ a' h', compLoop body src f k a h = .ok a' h' /\ I items.length a' h' /\ a'.length <= items.length
  | 0, k, a, h, h1, h2, _, _ => by omega
  | f + 1, k, a, h, h1, h2, h3, hI => by
    rw [comp_succ, hn k a h hI]
    by_cases hk : k < items.length
    . refine xEEA (step k items[k] a h (List.getElem?_eq_getElem hk) hI) fun r h' hb hc => ?_
      rw [List.getElem?_eq_getElem hk]
      show ∃ a1 h1, (body items[k] h).bind _ = _ /\ _
      rw [hb]
      rcases r with _ | x
      case none =>
        rw [Option.toList_none, List.append_nil] at hc
        exact compLoop_all I hn step hl f (k + 1) a h' (by lia) (by lia) (by lia) hc
      case some =>
        rw [Option.toList_some] at hc
        show ∃ a1 h1, (if a.length < sizeLim then compLoop body src f (k + 1) (a ++ [x]) h' else Res.bad) = _ /\ _
        rw [if_pos (by unfold sizeLim; lia)]
        exact compLoop_all I hn step hl f (k + 1) _ h' (by lia) (by lia) (by simp; omega) hc
    . have e : k = items.length := by lia
      subst e
      rw [List.getElem?_eq_none (Nat.le_refl _)]
      exact ⟨a, h, rfl, hI, h3⟩
theorem ss_step {c : Ctx} {s : S} {r : Ss} {l l' : Locs} {h h' : AHeap} (e : execS c s l h = .ok .next l' h') : execSs c (.cons s r) l h = execSs c r l' h' := by
  show (execS c s l h).turn _ = _
  rw [e]; rfl
theorem ss_stop {c : Ctx} {s : S} {r : Ss} {l l' : Locs} {h h' : AHeap} {v : AV} (e : execS c s l h = .ok (.ret v) l' h') : execSs c (.cons s r) l h = .ok (.ret v) l' h' := by
  show (execS c s l h).turn _ = _
  rw [e]; rfl
theorem ss_one {c : Ctx} {s : S} {l l' : Locs} {h h' : AHeap} {f : Flow} (e : execS c s l h = .ok f l' h') : execSs c (.cons s .nil) l h = .ok f l' h' := by
  show (execS c s l h).turn _ = _
  rw [e]; rcases f with _ | _ <;> rfl
abbrev Prog.has (p : Prog) (f : Str) (d : FDef) : Prop := p.lookup f = some d
theorem run_at {p : Prog} {n : Nat} {f : Str} {as : List AV} {h : AHeap} {d : FDef} (hl : Prog.has p f d) (ha : as.length = d.params) :
    ∃ F, 50000 <= F /\ semF p (n + 1) false f as h = retR (execSs (cF p n F) d.body (as.map some ++ List.replicate (d.slots - d.params) none) h) := by
  refine ⟨fuelOf, by decide, ?_⟩
  rw [semF_at hl]
  exact if_pos ha
theorem next_of {src : AV} {k : Nat} {xs : List AV} {h : AHeap} (hi : itemsAV src h = some xs) : nextAt src k h = some xs[k]? := by
  delta nextAt
  rw [hi]; rfl
theorem next_list {h : AHeap} {n k : Nat} {x : List AV} (hh : h[n]? = some (.list x)) : nextAt (.loc n) k h = some x[k]? := next_of (listAt_of hh)
theorem next_tup {h : AHeap} {k : Nat} {x : List AV} : nextAt (.tup x) k h = some x[k]? := next_of rfl
theorem next_rng {b : Int} {k : Nat} {h : AHeap} (hb : b.natAbs <= sizeLim) : nextAt (.rng 0 b 1) k h = some (rngItems 0 b 1)[k]? := next_of (if_pos ⟨.inl rfl, Nat.zero_le _, hb⟩)
theorem rng_up (m : Nat) : rngItems 0 m 1 = (List.range m).map fun (k : Nat) => AV.int k := by
  show (List.range ((m : Int) - 0).toNat).map _ = _
  rw [Int.sub_zero, Int.toNat_natCast]
  exact List.map_congr_left fun k _ => by rw [Int.one_mul, Int.zero_add]
theorem up_item {m k : Nat} {v : AV} (h : (rngItems 0 m 1)[k]? = some v) : k < m /\ v = .int k := by
  rw [rng_up, List.getElem?_map] at h
  refine xEA (Option.map_eq_some_iff.mp h) fun j hj qq1 => ?_; subst qq1
  refine xE (List.getElem?_eq_some_iff.mp hj) fun h1 h2 => ?_
  rw [List.length_range] at h1
  rw [List.getElem_range] at h2
  subst h2
  exact ⟨h1, rfl⟩
theorem up_length (m : Nat) : (rngItems 0 m 1).length = m := by rw [rng_up, List.length_map, List.length_range]
theorem range_up {m : Nat} (hm : m <= 1000) : rangeOf [.int (m : Int)] = some (.rng 0 m 1) := by
  exact if_pos (Nat.le_trans hm (by decide))
theorem run_in {p : Prog} {n : Nat} {f : Str} {as : List AV} {h : AHeap} {d : FDef} (hl : Prog.has p f d) (l : Locs) (he : as.map some ++ List.replicate (d.slots - d.params) none = l) (ha : as.length = d.params) :
    ∃ F, 50000 <= F /\ semF p (n + 1) false f as h = retR (execSs (cF p n F) d.body l h) := by
  subst he
  exact run_at hl ha
noncomputable def cellAt (xs : List Int) (k : Nat) : Int := xs.getD k 0
noncomputable def mixF (c k : Int) : Int := ((c + 7919 * k + 11) * 48271).fmod 2147483647
noncomputable def mixed (c k : Int) : Int := (mixF c k * mixF c k + 40692 * mixF c k).fmod 2147483399
theorem fmod_bound (a : Int) {m : Int} (hm : 0 < m) : 0 <= a.fmod m /\ a.fmod m < m := by
  rw [Int.fmod_eq_emod_of_nonneg _ (Int.le_of_lt hm)]
  exact ⟨Int.emod_nonneg _ (Int.ne_of_gt hm), Int.emod_lt_of_pos _ hm⟩
noncomputable def d__law_cell_at : FDef := ⟨2, 2,
  (.cons (.iff (.cmp .lt (.loc 1) (.bi .len (.cons (.loc 0) .nil)))
    (.cons (.ret (.sub (.loc 0) (.loc 1)))
    .nil)
    .nil)
  (.cons (.ret (.int 0))
  .nil))⟩
noncomputable def d__law_mixed : FDef := ⟨2, 3,
  (.cons (.asg 2 (.bin .mod (.bin .mul (.bin .add (.bin .add (.loc 0) (.bin .mul (.int 7919) (.loc 1))) (.int 11)) (.int 48271)) (.int 2147483647)))
  (.cons (.ret (.bin .mod (.bin .add (.bin .mul (.loc 2) (.loc 2)) (.bin .mul (.int 40692) (.loc 2))) (.int 2147483399)))
  .nil))⟩
section
variable {p : Prog} {n : Nat} {h : AHeap}
theorem run_cell_at (hp : Prog.has p "_law_cell_at" d__law_cell_at) {xs : List Int} (hl : xs.length <= 63) (k : Nat) : semF p (n + 1) false "_law_cell_at" [.scr xs, .int k] h = .ok (.int (cellAt xs k)) h := by
  refine xEA (run_at (n := n) (h := h) hp (as := [.scr xs, .int k]) rfl) fun F hF e => ?_
  rw [e]
  have hs : xs.length <= sizeLim := Nat.le_trans hl (by decide)
  simp only [d__law_cell_at, ss_cons, ss_nil, s_iff, s_ret, x_cmp, x_loc, x_bi, xs_cons, xs_nil, x_sub, x_int, List.map_cons, List.map_nil, List.cons_append, List.nil_append, loc0, locS, okO_some, bok, sok, len_scr hs, c_lt, boolO_some, cond_if, Bool.and_false, Bool.false_eq_true, if_false]
  by_cases hk : k < xs.length
  . rw [if_pos (by lia), sub_scr hs (by lia) (d := cellAt xs k) (by simp [cellAt, hk]), sok, turn_ret, turn_ret, retR_ret]
  . rw [if_neg (by lia), turn_next, turn_ret, retR_ret, cellAt, List.getD_eq_getElem?_getD, List.getElem?_eq_none (by lia)]
    rfl
theorem run_mixed (hp : Prog.has p "_law_mixed" d__law_mixed) (c k : Int) : semF p (n + 1) false "_law_mixed" [.int c, .int k] h = .ok (.int (mixed c k)) h := by
  refine xEA (run_at (n := n) (h := h) hp (as := [.int c, .int k]) rfl) fun F hF e => ?_
  rw [e]
  have hb := fmod_bound ((c + 7919 * k + 11) * 48271) (m := 2147483647) (by decide)
  have hm : ((c + 7919 * k + 11) * 48271).fmod 2147483647 = mixF c k := rfl
  rw [hm] at hb
  simp only [d__law_mixed, ss_cons, ss_nil, s_asg, s_ret, x_bin, x_loc, x_int, List.map_cons, List.map_nil, List.cons_append, List.nil_append, List.replicate, List.set, loc0, locS, okO_some, bok, sok, b_add, b_mulL (x := 7919) (by decide), b_mulR (y := 48271) (by decide), b_mod (y := 2147483647) (by decide), turn_next, hm]
  rw [b_mulL (by omega), bok, b_mulL (by decide), bok, b_add, bok, b_mod (by decide), sok, turn_ret, retR_ret]
  rfl
end
end
section
open PySem
section
variable {c : Ctx} {l l' : Locs} {h h' h1 h2 h3 : AHeap} {v u w : AV} {vs : List AV} {r : Res AV} {x y o t : X} {as : Xs} {b q : Bool} {s : SR} {k f m : Str} {i : Nat}
theorem ev_call (ea : evalXs c as l h = .ok vs h1) (ef : c.F f vs h1 = r) : evalX c (.call f as) l h = r := by rw [x_call, ea]; exact ef
theorem ev_im (eo : evalX c o l h = .ok v h1) (hm : hasMeth m v h1 = true) (ea : evalXs c as l h1 = .ok vs h2) (ef : c.F m (v :: vs) h2 = r) : evalX c (.im m o as) l h = r := by
  rw [x_im, eo, bok, if_pos hm, ea]; exact ef
theorem ev_bm {m : BM} (eo : evalX c o l h = .ok v h1) (hm : bmOk m v h1 = true) (ea : evalXs c as l h1 = .ok vs h2) (ef : bmAV m v vs h2 = r) : evalX c (.bm m o as) l h = r := by
  rw [x_bm, eo, bok, if_pos hm, ea]; exact ef
theorem ev_bi {b : BI} (hq : c.q = false) (ea : evalXs c as l h = .ok vs h1) (ef : biAV b vs h1 = r) : evalX c (.bi b as) l h = r := by
  rw [x_bi, ea, bok, hq, Bool.and_false]; exact ef
theorem ev_attr (eo : evalX c o l h = .ok v h1) (ef : attrAV k v h1 = r) : evalX c (.attr k o) l h = r := by rw [x_attr, eo]; exact ef
theorem ev_sub (eo : evalX c o l h = .ok v h1) (ei : evalX c x l h1 = .ok u h2) (ef : subAV v u h2 = r) : evalX c (.sub o x) l h = r := by rw [x_sub, eo, bok, ei]; exact ef
theorem ev_bin {op : BOp} (eo : evalX c o l h = .ok v h1) (ei : evalX c x l h1 = .ok u h2) (ef : binAV op v u h2 = r) : evalX c (.bin op o x) l h = r := by rw [x_bin, eo, bok, ei]; exact ef
theorem ev_cmp {op : COp} (eo : evalX c o l h = .ok v h1) (ei : evalX c x l h1 = .ok u h2) (ef : cmpAV h2 op v u = some b) : evalX c (.cmp op o x) l h = .ok (.bool b) h2 := by rw [x_cmp, eo, bok, ei, bok, ef]; rfl
theorem ev_or_f (ex : evalX c x l h = .ok (.bool false) h1) (ey : evalX c y l h1 = r) : evalX c (.or x y) l h = r := by rw [x_or, ex]; exact ey
theorem ev_or_t (ex : evalX c x l h = .ok (.bool true) h1) : evalX c (.or x y) l h = .ok (.bool true) h1 := by rw [x_or, ex]; rfl
theorem ev_and_t (ex : evalX c x l h = .ok (.bool true) h1) (ey : evalX c y l h1 = r) : evalX c (.and x y) l h = r := by rw [x_and, ex]; exact ey
theorem ev_and_f (ex : evalX c x l h = .ok (.bool false) h1) : evalX c (.and x y) l h = .ok (.bool false) h1 := by rw [x_and, ex]; rfl
theorem ev_not (ex : evalX c x l h = .ok (.bool b) h1) : evalX c (.not x) l h = .ok (.bool !b) h1 := by rw [x_not, ex]; rfl
theorem ev_tup (ea : evalXs c as l h = .ok vs h1) (hl : vs.length <= 1000) : evalX c (.tup as) l h = .ok (.tup vs) h1 := by rw [x_tup, ea]; exact if_pos (Nat.le_trans hl (by decide))
theorem ev_list (ea : evalXs c as l h = .ok vs h1) (hl : vs.length <= 1000) : evalX c (.list as) l h = .ok (.loc h1.length) (h1 ++ [.list vs]) := by rw [x_list, ea]; exact if_pos (Nat.le_trans hl (by decide))
theorem ev_range (ea : evalXs c as l h = .ok vs h1) (er : rangeOf vs = some v) : evalX c (.range as) l h = .ok v h1 := by rw [x_range, ea, bok, er]; rfl
theorem ev_cons {xs : Xs} (ex : evalX c x l h = .ok v h1) (er : evalXs c xs l h1 = .ok vs h2) : evalXs c (.cons x xs) l h = .ok (v :: vs) h2 := by rw [xs_cons, ex, bok, er]; rfl
theorem ev_one (ex : evalX c x l h = .ok v h1) : evalXs c (.cons x .nil) l h = .ok [v] h1 := ev_cons ex rfl
theorem st_expr (e : evalX c x l h = .ok v h1) : execS c (.expr x) l h = .ok .next l h1 := by rw [s_expr, e]; rfl
theorem st_ret (e : evalX c x l h = .ok v h1) : execS c (.ret x) l h = .ok (.ret v) l h1 := by rw [s_ret, e]; rfl
theorem st_asg (e : evalX c x l h = .ok v h1) : execS c (.asg i x) l h = .ok .next (l.set i (some v)) h1 := by rw [s_asg, e]; rfl
theorem st_set (ex : evalX c x l h = .ok v h1) (eo : evalX c o l h1 = .ok u h2) (ek : evalX c y l h2 = .ok w h3) (es : setItemAV u w v h3 = some h') : execS c (.setitem o y x) l h = .ok .next l h' := by
  rw [s_set, ex, sok, eo, sok, ek, sok, es]; rfl
theorem st_t {a d : Ss} (e : evalX c t l h = .ok (.bool true) h1) (ea : execSs c a l h1 = s) : execS c (.iff t a d) l h = s := by rw [s_iff, e]; exact ea
theorem st_f {a d : Ss} (e : evalX c t l h = .ok (.bool false) h1) (ea : execSs c d l h1 = s) : execS c (.iff t a d) l h = s := by rw [s_iff, e]; exact ea
theorem st_for {d : Ss} (hq : c.q = false) (e : evalX c x l h = .ok v h1) (ef : forLoop (put1 i) (fun l h => execSs c d l h) v c.fuel 0 l h1 = s) : execS c (.forr i x d) l h = s := by
  rw [s_for, e, sok, hq]; exact ef
theorem st_fort {d : Ss} {is : List Nat} (hq : c.q = false) (e : evalX c x l h = .ok v h1) (ef : forLoop (puts is) (fun l h => execSs c d l h) v c.fuel 0 l h1 = s) : execS c (.fort is x d) l h = s := by
  rw [s_fort, e, sok, hq]; exact ef
theorem st_expr_x (e : evalX c x l h = .exc k h1) : execS c (.expr x) l h = .exc k l h1 := by rw [s_expr, e]; rfl
theorem st_ret_x (e : evalX c x l h = .exc k h1) : execS c (.ret x) l h = .exc k l h1 := by rw [s_ret, e]; rfl
theorem st_asg_x (e : evalX c x l h = .exc k h1) : execS c (.asg i x) l h = .exc k l h1 := by rw [s_asg, e]; rfl
theorem ss_exc {a : S} {d : Ss} (e : execS c a l h = .exc k l' h') : execSs c (.cons a d) l h = .exc k l' h' := by rw [ss_cons, e]; rfl
theorem ss_last {a : S} (e : execS c a l h = s) : execSs c (.cons a .nil) l h = s := by
  rw [ss_cons, e]
  rcases s with ⟨f, _, _⟩ | ⟨_, _, _⟩ | _
  case ok => rcases f with _ | _ <;> rfl
  case exc => rfl
  case bad => rfl
theorem fin_exc (e : execSs c d l h = .exc k l' h') : retR (execSs c d l h) = .exc k h' := by rw [e]; rfl
theorem fin_ret (e : execSs c d l h = .ok (.ret v) l' h') : retR (execSs c d l h) = .ok v h' := by rw [e]; rfl
theorem ss_ret_of {a d r : Ss} (e : evalX c t l h = .ok (.bool true) h1) (hx : ∃ v l' h', execSs c a l h1 = .ok (.ret v) l' h') : execSs c (.cons (.iff t a d) r) l h = execSs c a l h1 := by
  refine xEEE hx fun v l' h' q => ?_
  rw [ss_stop (st_t e q), q]
theorem wh_stop {test : Locs -> AHeap -> Res AV} {body : Locs -> AHeap -> SR} {n : Nat} (e : test l h = .ok (.bool false) h1) : whileLoop test body (n + 1) l h = .ok .next l h1 := by
  show ((test l h).st l fun v h => condS v ((body l h).lap (whileLoop test body n)) (.ok .next l h)) = _
  rw [e]; rfl
theorem wh_go {test : Locs -> AHeap -> Res AV} {body : Locs -> AHeap -> SR} {n : Nat} (e : test l h = .ok (.bool true) h1) (eb : body l h1 = .ok .next l' h2) : whileLoop test body (n + 1) l h = whileLoop test body n l' h2 := by
  show ((test l h).st l fun v h => condS v ((body l h).lap (whileLoop test body n)) (.ok .next l h)) = _
  rw [e, sok, cond_t, eb]; rfl
theorem wh_ret {test : Locs -> AHeap -> Res AV} {body : Locs -> AHeap -> SR} {n : Nat} (e : test l h = .ok (.bool true) h1) (eb : body l h1 = .ok (.ret v) l' h2) : whileLoop test body (n + 1) l h = .ok (.ret v) l' h2 := by
  show ((test l h).st l fun v h => condS v ((body l h).lap (whileLoop test body n)) (.ok .next l h)) = _
  rw [e, sok, cond_t, eb]; rfl
theorem ev_neg {k : Int} (e : evalX c x l h = .ok (.int k) h1) : evalX c (.neg x) l h = .ok (.int (-k)) h1 := by rw [x_neg, e]; rfl
theorem ev_isn (e : evalX c x l h = .ok v h1) : evalX c (.isn b x) l h = .ok (.bool (isNoneAV v == b)) h1 := by rw [x_isn, e]; rfl
theorem ev_isi {t : Ty} (e : evalX c x l h = .ok v h1) (et : isTy h1 v t = some b) : evalX c (.isi x t) l h = .ok (.bool b) h1 := by rw [x_isi, e, bok, et]; rfl
theorem ev_keys (e : evalX c x l h = .ok v h1) (ek : keysAV v h1 = r) : evalX c (.keys x) l h = r := by rw [x_keys, e]; exact ek
theorem ev_comp {cs : Xs} {n j : Nat} (hq : c.q = false) (ei : evalX c o l h = .ok u h1) (el : compLoop (fun v h => (evalConds c cs (inner l n j v) h).bind fun b h => ifB b h (evalX c x (inner l n j v) h)) u c.fuel 0 [] h1 = .ok vs h2) (hl : vs.length <= 1000) :
    evalX c (.comp x n j o cs) l h = .ok (.loc h2.length) (h2 ++ [.list vs]) := by
  rw [x_comp, ei, nx_ok, bok, hq, if_neg Bool.false_ne_true, el]
  exact if_pos (Nat.le_trans hl (by decide))
theorem cb_all (e : evalX c x l h = .ok v h1) : ((evalConds c .nil l h).bind fun b h => ifB b h (evalX c x l h)) = .ok (some v) h1 := by
  show (evalX c x l h).bind (fun x h => .ok (some x) h) = _
  rw [e]; rfl
theorem cb_t (q : evalX c t l h = .ok (.bool true) h1) (e : evalX c x l h1 = .ok v h2) : ((evalConds c (.cons t .nil) l h).bind fun b h => ifB b h (evalX c x l h)) = .ok (some v) h2 := by
  show ((evalX c t l h).bind fun v h => condB v (.ok true h) (.ok false h)).bind _ = _
  rw [q]
  show (evalX c x l h1).bind (fun x h => .ok (some x) h) = _
  rw [e]; rfl
theorem cb_f (q : evalX c t l h = .ok (.bool false) h1) : ((evalConds c (.cons t .nil) l h).bind fun b h => ifB b h (evalX c x l h)) = .ok none h1 := by
  show ((evalX c t l h).bind fun v h => condB v (.ok true h) (.ok false h)).bind _ = _
  rw [q]; rfl
theorem comp_run {body : AV -> AHeap -> Res (Option AV)} {κ : Type} {g : κ -> AV} {q : κ -> Option AV} {its : List κ} {n : Nat} (hn : ∀ k, nextAt u k h = some (its.map g)[k]?) (hb : ∀ z ∈ its, body (g z) h = .ok (q z) h) (hl : its.length <= 1000) (hf : its.length < n) : compLoop body u n 0 [] h = .ok (its.filterMap q) h := by
  refine xEEAA (compLoop_all (body := body) (src := u) (items := its.map g) (fun k a h' => h' = h /\ a = (its.take k).filterMap q) (fun k a h' e => by rw [e.1]; exact hn k) (fun k v a h' hv hi => by
    rw [List.getElem?_map] at hv
    refine xEA (Option.map_eq_some_iff.mp hv) fun z hz e => ?_
    subst e
    refine ⟨q z, h, by rw [hi.1]; exact hb z (List.mem_of_getElem? hz), rfl, ?_⟩
    rw [hi.2, List.take_add_one, hz, Option.toList_some, List.filterMap_append]
    rcases hq : q z with _ | y
    . rw [List.filterMap_cons_none hq]; rfl
    . rw [List.filterMap_cons_some hq]; rfl) (by rw [List.length_map]; exact hl) n 0 [] h (by rw [List.length_map]; exact hf) (Nat.zero_le _) (Nat.zero_le _) ⟨rfl, rfl⟩) fun a h' e hi _ => ?_
  rw [e, hi.1, hi.2, List.length_map, List.take_length]
theorem comp_two {body : AV -> AHeap -> Res (Option AV)} {a b : AV} {x y : Option AV} {n : Nat} (n0 : nextAt u 0 h = some (some a)) (e1 : body a h = .ok x h1) (n1 : nextAt u 1 h1 = some (some b)) (e2 : body b h1 = .ok y h2) (n2 : nextAt u 2 h2 = some none) (hf : 3 <= n) : compLoop body u n 0 [] h = .ok (x.toList ++ y.toList) h2 := by
  obtain ⟨g, rfl⟩ : ∃ g, n = g + 3 := ⟨n - 3, by omega⟩
  have go : ∀ {f k : Nat} {acc : List AV} {h h' : AHeap} {v : AV} {r : Option AV}, nextAt u k h = some (some v) -> body v h = .ok r h' -> acc.length <= 3 -> compLoop body u (f + 1) k acc h = compLoop body u f (k + 1) (acc ++ r.toList) h' := fun {f k acc h h' v r} n e hl => by
    rw [comp_succ, n]
    dsimp only
    rw [e, bok]
    rcases r with _ | r
    . rw [Option.toList_none, List.append_nil]
    . exact if_pos (Nat.lt_of_le_of_lt hl (by decide))
  rw [go n0 e1 (Nat.zero_le _), go n1 e2 (by rcases x with _ | _ <;> exact Nat.le_of_ble_eq_true rfl), comp_succ, n2, List.nil_append]
theorem try_ok {d : Ss} {hs : Hs} {fl : Flow} (hq : c.q = false) (e : execSs c d l h = .ok fl l' h') : execS c (.tryx d hs) l h = .ok fl l' h' := by
  rw [s_try, hq, if_neg Bool.false_ne_true, e]
theorem try_exc {d : Ss} {hs : Hs} (hq : c.q = false) (e : execSs c d l h = .exc k l' h') (eh : handle c hs k l' h' = s) : execS c (.tryx d hs) l h = s := by
  rw [s_try, hq, if_neg Bool.false_ne_true, e]; exact eh
end
end
section
namespace Cu
section Assoc
variable {α β : Type} [DecidableEq α] [BEq α] [LawfulBEq α]
noncomputable def put (t : List (α × β)) (a : α) (b : β) : List (α × β) :=
  if t.any (fun p => p.1 == a) then t.map (fun p => if p.1 == a then (p.1, b) else p) else t ++ [(a, b)]
theorem lookup_none {t : List (α × β)} {a : α} : t.lookup a = none ↔ a ∉ t.map (·.1) := by
  induction t with
  | nil => simp
  | cons p t ih =>
    obtain ⟨k, v⟩ := p
    simp only [List.lookup_cons, List.map_cons, List.mem_cons, not_or]
    by_cases e : a = k
    . simp [e]
    . simp only [beq_eq_false_iff_ne.mpr e, ih, e, not_false_eq_true, true_and]
theorem lookup_mem {t : List (α × β)} {a : α} {b : β} (h : t.lookup a = some b) : (a, b) ∈ t := by
  induction t with
  | nil => simp at h
  | cons p t ih =>
    obtain ⟨k, v⟩ := p
    simp only [List.lookup_cons] at h
    by_cases e : a = k
    . simp only [e, BEq.rfl, Option.some.injEq] at h; simp [e, h]
    . simp only [beq_eq_false_iff_ne.mpr e] at h; exact List.mem_cons_of_mem _ (ih h)
theorem lookup_of_mem {t : List (α × β)} (nd : (t.map (·.1)).Nodup) {a : α} {b : β} (h : (a, b) ∈ t) : t.lookup a = some b := by
  induction t with
  | nil => simp at h
  | cons p t ih =>
    obtain ⟨k, v⟩ := p
    simp only [List.map_cons, List.nodup_cons] at nd
    simp only [List.lookup_cons]
    rcases List.mem_cons.mp h with e | e
    . injection e with e1 e2; subst e1; subst e2; simp
    . have : a ≠ k := by rintro rfl; exact nd.1 (List.mem_map.mpr ⟨_, e, rfl⟩)
      simp only [beq_eq_false_iff_ne.mpr this]; exact ih nd.2 e
theorem any_iff {t : List (α × β)} {a : α} : t.any (fun p => p.1 == a) = true ↔ a ∈ t.map (·.1) := by
  simp only [List.any_eq_true, beq_iff_eq, List.mem_map]
theorem put_keys {t : List (α × β)} {a : α} {b : β} : (put t a b).map (·.1) = if a ∈ t.map (·.1) then t.map (·.1) else t.map (·.1) ++ [a] := by
  unfold put
  by_cases h : a ∈ t.map (·.1)
  . rw [if_pos (any_iff.mpr h), if_pos h, List.map_map]
    apply List.map_congr_left
    intro p _
    simp only [Function.comp]; split <;> rfl
  . rw [if_neg (fun q => h (any_iff.mp q)), if_neg h]; simp
theorem put_nodup {t : List (α × β)} (nd : (t.map (·.1)).Nodup) {a : α} {b : β} : ((put t a b).map (·.1)).Nodup := by
  rw [put_keys]
  split
  . exact nd
  . rename_i h
    rw [List.nodup_append]
    refine ⟨nd, by simp, ?_⟩
    intro x hx y hy e
    simp at hy; subst hy; subst e; exact h hx
theorem put_length {t : List (α × β)} {a : α} {b : β} : (put t a b).length = if a ∈ t.map (·.1) then t.length else t.length + 1 := by
  have := congrArg List.length (put_keys (t := t) (a := a) (b := b))
  rw [List.length_map] at this
  rw [this]; split <;> simp
theorem put_lookup {t : List (α × β)} {a x : α} {b : β} : (put t a b).lookup x = if x = a then some b else t.lookup x := by
  unfold put
  split
  . rename_i h
    induction t with
    | nil => simp at h
    | cons p t ih =>
      obtain ⟨k, v⟩ := p
      by_cases e : k = a
      . subst e
        by_cases ex : x = k
        . subst ex; simp
        . simp only [List.map_cons, BEq.rfl, if_true, List.lookup_cons, beq_eq_false_iff_ne.mpr ex, if_neg ex]
          clear ih h
          induction t with
          | nil => rfl
          | cons q t ih =>
            obtain ⟨k2, v2⟩ := q
            by_cases e2 : k2 = k
            . subst e2; simp only [List.map_cons, BEq.rfl, if_true, List.lookup_cons, beq_eq_false_iff_ne.mpr ex]; exact ih
            . simp only [List.map_cons, beq_eq_false_iff_ne.mpr e2, List.lookup_cons]
              show (match x == k2 with | true => some v2 | false => _) = (match x == k2 with | true => some v2 | false => _)
              rcases x == k2 with _ | _
              . exact ih
              . rfl
      . have h' : t.any (fun p => p.1 == a) = true := by simpa [e] using h
        simp only [List.map_cons, beq_eq_false_iff_ne.mpr e, List.lookup_cons, Bool.false_eq_true, if_false]
        by_cases ex : x = k
        . subst ex; simp [e]
        . simp only [beq_eq_false_iff_ne.mpr ex]; exact ih h'
  . rename_i h
    rw [any_iff] at h
    rw [<- lookup_none] at h
    rw [List.lookup_append]
    by_cases e : x = a
    . subst e; simp [h]
    . simp [e, List.lookup_cons, beq_eq_false_iff_ne.mpr e]
end Assoc
theorem card_le {α : Type} [DecidableEq α] {l l' : List α} (nd : l.Nodup) (s : ∀ x ∈ l, x ∈ l') : l.length <= l'.length := by
  induction l generalizing l' with
  | nil => simp
  | cons a l ih =>
    rw [List.nodup_cons] at nd
    have ha := s a (by simp)
    have := ih (l' := l'.erase a) nd.2 (fun x hx => (List.mem_erase_of_ne (by rintro rfl; exact nd.1 hx)).mpr (s x (by simp [hx])))
    rw [List.length_erase_of_mem ha] at this
    have : 0 < l'.length := List.length_pos_of_mem ha
    simp; lia
abbrev Seat := Int × Int
section
variable {β : Type} {hm : β -> Int -> Seat}
structure Way (hm : β -> Int -> Seat) (t : List (Seat × β)) (s0 : Seat) (w : List Seat) : Prop where
  head : w[0]? = some s0
  nd : w.Nodup
  step : ∀ (i : Nat) s s', w[i]? = some s -> w[i + 1]? = some s' -> ∃ n, t.lookup s = some n /\ s' = hm n (1 - s.1)
theorem Way.one (t : List (Seat × β)) (s0 : Seat) : Way hm t s0 [s0] := ⟨rfl, by simp, by intro i s s' _ h; simp at h⟩
theorem Way.pos {t : List (Seat × β)} {s0 : Seat} {w : List Seat} (W : Way hm t s0 w) : 0 < w.length := by
  have := W.head
  rcases w with _ | _ <;> simp at this |-
theorem Way.snoc {t : List (Seat × β)} {s0 : Seat} {w : List Seat} (W : Way hm t s0 w) {s : Seat} {n : β} (hl : w[w.length - 1]? = some s) (hn : t.lookup s = some n) (hx : hm n (1 - s.1) ∉ w) :
    Way hm t s0 (w ++ [hm n (1 - s.1)]) := by
  have hp := W.pos
  refine ⟨?_, ?_, ?_⟩
  . rw [List.getElem?_append_left hp]; exact W.head
  . rw [List.nodup_append]
    refine ⟨W.nd, by simp, ?_⟩
    intro x hx' y hy e
    simp at hy; subst hy; subst e; exact hx hx'
  . intro i a b ha hb
    by_cases h : i + 1 < w.length
    . rw [List.getElem?_append_left h] at hb
      rw [List.getElem?_append_left (by lia)] at ha
      exact W.step i a b ha hb
    . have hi : i + 1 = w.length := by
        have := (List.getElem?_eq_some_iff.mp hb).1
        simp at this; lia
      rw [List.getElem?_append_left (by lia)] at ha
      have : i = w.length - 1 := by lia
      subst this
      rw [hl] at ha; injection ha with ha; subst ha
      rw [List.getElem?_append_right (by lia)] at hb
      have e : w.length - 1 + 1 - w.length = 0 := by lia
      rw [e] at hb; simp at hb
      exact ⟨n, hn, hb.symm⟩
theorem Way.short {t : List (Seat × β)} {s0 : Seat} {w : List Seat} (W : Way hm t s0 w) : w.length <= t.length + 1 := by
  have h : (w.take (w.length - 1)).length <= (t.map (·.1)).length := by
    apply card_le (W.nd.sublist (List.take_sublist _ _))
    intro x hx
    refine xE (List.getElem_of_mem hx) fun i qq1 => ?_; obtain ⟨hi, e⟩ := qq1
    rw [List.length_take] at hi
    have h1 : w[i]? = some x := by rw [<- e, List.getElem_take]; exact List.getElem?_eq_getElem _
    refine xEA (W.step i x _ h1 (List.getElem?_eq_getElem (by omega))) fun n hn _ => ?_
    exact List.mem_map.mpr ⟨_, lookup_mem hn, rfl⟩
  rw [List.length_take, List.length_map] at h
  lia
theorem Way.last {t : List (Seat × β)} {s0 : Seat} {w : List Seat} (W : Way hm t s0 w) : ∃ s, w[w.length - 1]? = some s := ⟨_, List.getElem?_eq_getElem (by have := W.pos; omega)⟩
noncomputable def wayGo (hm : β -> Int -> Seat) (t : List (Seat × β)) : Nat -> List Seat -> List Seat
  | 0, w => w
  | f + 1, w => match w[w.length - 1]? with
    | none => w
    | some s => match t.lookup s with
      | none => w
      | some n => if hm n (1 - s.1) ∈ w then w else wayGo hm t f (w ++ [hm n (1 - s.1)])
noncomputable def wayOf (hm : β -> Int -> Seat) (t : List (Seat × β)) (s : Seat) : List Seat := wayGo hm t (t.length + 1) [s]
theorem go_free {t : List (Seat × β)} {f : Nat} {w : List Seat} {s : Seat} (hs : w[w.length - 1]? = some s) (hn : t.lookup s = none) : wayGo hm t (f + 1) w = w := by
  unfold wayGo; rw [hs]; dsimp only; rw [hn]
theorem go_shut {t : List (Seat × β)} {f : Nat} {w : List Seat} {s : Seat} {n : β} (hs : w[w.length - 1]? = some s) (hn : t.lookup s = some n) (hi : hm n (1 - s.1) ∈ w) : wayGo hm t (f + 1) w = w := by
  unfold wayGo; rw [hs]; dsimp only; rw [hn]; exact if_pos hi
theorem go_on {t : List (Seat × β)} {f : Nat} {w : List Seat} {s : Seat} {n : β} (hs : w[w.length - 1]? = some s) (hn : t.lookup s = some n) (hi : hm n (1 - s.1) ∉ w) : wayGo hm t (f + 1) w = wayGo hm t f (w ++ [hm n (1 - s.1)]) := by
  rw [wayGo, hs]; dsimp only; rw [hn]; exact if_neg hi
theorem Way.go {t : List (Seat × β)} {s0 : Seat} : ∀ {f : Nat} {w : List Seat}, Way hm t s0 w -> Way hm t s0 (wayGo hm t f w)
  | 0, _, W => W
  | f + 1, w, W => by
    refine xE W.last fun s hs => ?_
    rcases hn : t.lookup s with _ | n
    case none => rw [go_free hs hn]; exact W
    case some =>
      by_cases hi : hm n (1 - s.1) ∈ w
      . rw [go_shut hs hn hi]; exact W
      . rw [go_on hs hn hi]; exact (W.snoc hs hn hi).go
theorem wayOf_way (t : List (Seat × β)) (s : Seat) : Way hm t s (wayOf hm t s) := (Way.one t s).go
end
end Cu
end
section
open PySem Cu
section
variable {h : AHeap} {l : Locs} {c : Ctx}
theorem tup2 {α : Type} {x y : AV} {a b : α} : (if ([x, y] : List AV).length <= sizeLim then a else b) = a := if_pos (by show 2 <= sizeLim; decide)
theorem tup3 {α : Type} {x y z : AV} {a b : α} : (if ([x, y, z] : List AV).length <= sizeLim then a else b) = a := if_pos (by show 3 <= sizeLim; decide)
theorem cmpAnd_t {k : Res AV} : cmpAnd (some true) h k = k := rfl
theorem cmpAnd_f {k : Res AV} : cmpAnd (some false) h k = .ok (.bool false) h := rfl
theorem len_str {x : List Nat} (hl : x.length <= sizeLim) : biAV .len [.str x] h = .ok (.int x.length) h := if_pos hl
theorem idx_str {x : List Nat} {k : Nat} {d : Nat} (hl : x.length <= sizeLim) (hd : x[k]? = some d) : subAV (.str x) (.int k) h = .ok (.str [d]) h :=
  subI_at (x := x.map fun c => .str [c]) (by rw [List.length_map]; exact hl) (by rw [idx_nat (by lia), List.getElem?_map, Int.toNat_natCast, hd]; rfl)
theorem b_adds {x y : List Nat} (hl : x.length + y.length <= sizeLim) : binAV .add (.str x) (.str y) h = .ok (.str (x ++ y)) h := if_pos hl
theorem c_notin1 {c : Nat} {y : List Nat} : cmpAV h .notin (.str [c]) (.str y) = some (!decide (c ∈ y)) := rfl
theorem bmOk_index {x : List Nat} : bmOk .index (.str x) h = true := rfl
theorem index_ok {x : List Nat} {c i : Nat} (hi : x.findIdx? (· == c) = some i) : bmAV .index (.str x) [.str [c]] h = .ok (.int i) h := by
  show okO ((x.findIdx? (· == c)).map _) h = _
  rw [hi]; rfl
theorem next_str {x : List Nat} {k : Nat} (hx : ∀ c ∈ x, c < 128) : nextAt (.str x) k h = some (x.map fun c => AV.str [c])[k]? :=
  next_of (if_pos (List.all_eq_true.mpr fun c hc => decide_eq_true (hx c hc)))
theorem str_item {t : List Nat} {k : Nat} {v : AV} (hv : (t.map fun c => AV.str [c])[k]? = some v) : ∃ hk : k < t.length, v = .str [t[k]] := by
  rw [List.getElem?_map] at hv
  refine xEA (Option.map_eq_some_iff.mp hv) fun x hx qq1 => ?_; subst qq1
  refine xE (List.getElem?_eq_some_iff.mp hx) fun hk qq1 => ?_; subst qq1
  exact ⟨hk, rfl⟩
end
noncomputable def signs : List Nat := [97, 98, 99, 100, 101, 102, 103, 104, 105, 106, 107, 108, 109, 110, 111, 112, 113, 114, 115, 116, 117, 118, 119, 120, 121, 122, 48, 49, 50, 51, 52, 53, 54, 55, 56, 57]
theorem signs_len : signs.length = 36 := rfl
theorem signs_fit : signs.length <= sizeLim := by rw [signs_len]; unfold sizeLim; lia
theorem signs_small : ∀ c ∈ signs, c < 128 := by decide
noncomputable def posOf (c : Nat) : Nat := (signs.findIdx? (· == c)).getD 0
theorem posOf_at {c : Nat} (hc : c ∈ signs) : signs.findIdx? (· == c) = some (posOf c) := by
  unfold posOf
  rcases hq : signs.findIdx? (· == c) with _ | i
  case some => rfl
  case none => exact absurd ((List.findIdx?_eq_none_iff.mp hq) c hc) (by rw [beq_self_eq_true]; exact Bool.noConfusion)
abbrev Nm := List Nat
structure Good (t : Nm) : Prop where
  pos : 1 <= t.length
  len : t.length <= 12
  all : ∀ x ∈ t, x ∈ signs
theorem Good.fit {t : Nm} (G : Good t) : t.length <= sizeLim := by have := G.len; unfold sizeLim; lia
theorem Good.small {t : Nm} (G : Good t) : ∀ c ∈ t, c < 128 := fun c hc => signs_small c (G.all c hc)
noncomputable def homeStep (times count : Int) (acc : Int) (c : Nat) : Int := (acc * times + posOf c + 1).fmod count
noncomputable def homeOf (t : List Nat) (times count : Int) : Int := t.foldl (homeStep times count) 0
theorem home_take {t : List Nat} {times count : Int} {k : Nat} (hk : k < t.length) : homeOf (t.take (k + 1)) times count = homeStep times count (homeOf (t.take k) times count) t[k] := by
  unfold homeOf
  rw [List.take_add_one, List.getElem?_eq_getElem hk, Option.toList_some, List.foldl_append, List.foldl_cons, List.foldl_nil]
theorem home_in {t : List Nat} {times count : Int} (hc : 0 < count) (hl : 1 <= t.length) : 0 <= homeOf t times count /\ homeOf t times count < count := by
  have : homeOf (t.take (t.length - 1 + 1)) times count = _ := home_take (by omega)
  rw [show t.length - 1 + 1 = t.length by lia, List.take_length] at this
  rw [this]
  exact fmod_bound _ hc
noncomputable def b_is_name_1 : Ss :=
  (.cons (.iff (.cmp .notin (.loc 1) (.str signs))
    (.cons (.ret (.bool false))
    .nil)
    .nil)
  .nil)
noncomputable def d_is_name : FDef := ⟨1, 2,
  (.cons (.iff (.or (.not (.isi (.loc 0) .str)) (.not (.cmp2 .le .le (.int 1) (.bi .len (.cons (.loc 0) .nil)) (.int 12))))
    (.cons (.ret (.bool false))
    .nil)
    .nil)
  (.cons (.forr 1 (.loc 0) b_is_name_1)
  (.cons (.ret (.bool true))
  .nil)))⟩
noncomputable def b_home_1 : Ss :=
  (.cons (.asg 3 (.bin .mod (.bin .add (.bin .add (.bin .mul (.loc 3) (.loc 1)) (.bm .index (.str signs) (.cons (.loc 4) .nil))) (.int 1)) (.loc 2)))
  .nil)
noncomputable def d_home : FDef := ⟨3, 5,
  (.cons (.asg 3 (.int 0))
  (.cons (.forr 4 (.loc 0) b_home_1)
  (.cons (.ret (.loc 3))
  .nil)))⟩
noncomputable def d_is_whole : FDef := ⟨3, 3,
  (.cons (.ret (.and (.isi (.loc 0) .int) (.and (.not (.isi (.loc 0) .bool)) (.cmp2 .le .le (.loc 1) (.loc 0) (.loc 2)))))
  .nil)⟩
noncomputable def d_need_name : FDef := ⟨1, 1,
  (.cons (.iff (.not (.call "is_name" (.cons (.loc 0) .nil)))
    (.cons (.raise "NoName")
    .nil)
    .nil)
  .nil)⟩
noncomputable def d_need_value : FDef := ⟨1, 1,
  (.cons (.iff (.not (.call "is_whole" (.cons (.loc 0) (.cons (.neg (.int 1000000000)) (.cons (.int 1000000000) .nil)))))
    (.cons (.raise "NoValue")
    .nil)
    .nil)
  .nil)⟩
noncomputable def d__law_room : FDef := ⟨3, 3,
  (.cons (.iff (.cmp .gt (.bi .len (.cons (.loc 0) .nil)) (.int 63))
    (.cons (.ret (.loc 2))
    .nil)
    .nil)
  (.cons (.ret (.loc 1))
  .nil))⟩
noncomputable def b__law_home_1 : Ss :=
  (.cons (.asg 4 (.bin .mod (.bin .add (.bin .add (.bin .mul (.loc 4) (.loc 1)) (.bm .index (.loc 3) (.cons (.loc 5) .nil))) (.int 1)) (.loc 2)))
  .nil)
noncomputable def d__law_home : FDef := ⟨3, 6,
  (.cons (.asg 3 (.str signs))
  (.cons (.asg 4 (.int 0))
  (.cons (.forr 5 (.loc 0) b__law_home_1)
  (.cons (.ret (.loc 4))
  .nil))))⟩
section
variable {p : Prog} {n : Nat} {h : AHeap}
theorem run_is_name (hp : Prog.has p "is_name" d_is_name) {t : Nm} (G : Good t) : semF p (n + 1) false "is_name" [.str t] h = .ok (.bool true) h := by
  refine xEA (run_at (n := n) (h := h) hp (as := [.str t]) rfl) fun F hF e => ?_
  have hty : ∀ h, isTy h (.str t) .str = some true := fun _ => rfl
  have h1 := G.pos
  have h2 := G.len
  obtain ⟨l', h', e2, rfl, _⟩ := forLoop_all (i := 1) (src := .str t) (items := t.map fun c => AV.str [c]) (body := fun l h => execSs (cF p n F) b_is_name_1 l h)
    (fun k l h' => h' = h /\ ∃ v, l = [some (.str t), v]) (fun k l h' _ => next_str G.small) (fun k v l h' hv ⟨eh, v', el⟩ => by
      subst eh; subst el
      refine xE (str_item hv) fun hk qq1 => ?_; subst qq1
      refine ⟨_, _, ?_, rfl, some (.str [t[k]]), rfl⟩
      simp only [b_is_name_1, ss_cons, ss_nil, s_ret, s_iff, x_bool, x_str, x_loc, x_cmp, List.set, loc0, locS, okO_some, bok, sok, turn_next, turn_ret, boolO_some, cond_f, Bool.not_true, c_notin1, decide_eq_true (G.all _ (List.getElem_mem hk))]) (f := F) (l := [some (.str t), none]) (h := h) (by rw [List.length_map]; lia) ⟨rfl, none, rfl⟩
  rw [e]
  simp only [d_is_name, ss_cons, ss_nil, s_ret, s_iff, s_for, x_bool, x_int, x_loc, x_not, x_or, x_cmp2, x_bi, x_isi, xs_nil, xs_cons, List.map_cons, List.map_nil, List.cons_append, List.nil_append, List.replicate, loc0, okO_some, bok, sok, turn_next, turn_ret, Bool.and_false, Bool.false_eq_true, if_false, boolO_some, notAV_bool, retR_ret, cond_f, condV_f, cmpAnd_t, Bool.not_true, hty, len_str G.fit, c_le, decide_eq_true (show (1 : Int) <= t.length by lia), decide_eq_true (show (t.length : Int) <= 12 by lia), e2]
theorem run_home (hp : Prog.has p "home" d_home) {t : Nm} (G : Good t) {times count : Int} (ht : times.natAbs < 2 ^ 64) (hc : 0 < count) :
    semF p (n + 1) false "home" [.str t, .int times, .int count] h = .ok (.int (homeOf t times count)) h := by
  refine xEA (run_at (n := n) (h := h) hp (as := [.str t, .int times, .int count]) rfl) fun F hF e => ?_
  have h2 := G.len
  obtain ⟨l', h', e2, rfl, v4, rfl⟩ := forLoop_all (i := 4) (src := .str t) (items := t.map fun c => AV.str [c]) (body := fun l h => execSs (cF p n F) b_home_1 l h)
    (fun k l h' => h' = h /\ ∃ v4, l = [some (.str t), some (.int times), some (.int count), some (.int (homeOf (t.take k) times count)), v4]) (fun k l h' _ => next_str G.small) (fun k v l h' hv ⟨eh, v4, el⟩ => by
      subst eh; subst el
      refine xE (str_item hv) fun hk qq1 => ?_; subst qq1
      refine ⟨_, _, ?_, rfl, some (.str [t[k]]), rfl⟩
      simp only [b_home_1, ss_cons, ss_nil, s_asg, x_int, x_str, x_loc, x_bin, x_bm, xs_nil, xs_cons, List.set, loc0, locS, okO_some, bok, sok, turn_next, b_add, if_true, b_mulR ht, bmOk_index, index_ok (posOf_at (G.all _ (List.getElem_mem hk))), b_mod (show count ≠ 0 by lia), home_take hk]
      rfl) (f := F) (l := [some (.str t), some (.int times), some (.int count), some (.int 0), none]) (h := h) (by rw [List.length_map]; lia) ⟨rfl, none, rfl⟩
  rw [List.length_map, List.take_length] at e2
  rw [e]
  simp only [d_home, ss_cons, ss_nil, s_ret, s_asg, s_for, x_int, x_loc, List.map_cons, List.map_nil, List.cons_append, List.nil_append, List.replicate, List.set, loc0, locS, okO_some, sok, turn_next, turn_ret, Bool.false_eq_true, if_false, retR_ret, e2]
theorem run_law_home (hp : Prog.has p "_law_home" d__law_home) {t : Nm} (G : Good t) {times count : Int} (ht : times.natAbs < 2 ^ 64) (hc : 0 < count) :
    semF p (n + 1) false "_law_home" [.str t, .int times, .int count] h = .ok (.int (homeOf t times count)) h := by
  refine xEA (run_at (n := n) (h := h) hp (as := [.str t, .int times, .int count]) rfl) fun F hF e => ?_
  have h2 := G.len
  obtain ⟨l', h', e2, rfl, v4, rfl⟩ := forLoop_all (i := 5) (src := .str t) (items := t.map fun c => AV.str [c]) (body := fun l h => execSs (cF p n F) b__law_home_1 l h)
    (fun k l h' => h' = h /\ ∃ v4, l = [some (.str t), some (.int times), some (.int count), some (.str signs), some (.int (homeOf (t.take k) times count)), v4]) (fun k l h' _ => next_str G.small) (fun k v l h' hv ⟨eh, v4, el⟩ => by
      subst eh; subst el
      refine xE (str_item hv) fun hk qq1 => ?_; subst qq1
      refine ⟨_, _, ?_, rfl, some (.str [t[k]]), rfl⟩
      simp only [b__law_home_1, ss_cons, ss_nil, s_asg, x_int, x_loc, x_bin, x_bm, xs_nil, xs_cons, List.set, loc0, locS, okO_some, bok, sok, turn_next, b_add, if_true, b_mulR ht, bmOk_index, index_ok (posOf_at (G.all _ (List.getElem_mem hk))), b_mod (show count ≠ 0 by lia), home_take hk]
      rfl) (f := F) (l := [some (.str t), some (.int times), some (.int count), some (.str signs), some (.int 0), none]) (h := h) (by rw [List.length_map]; lia) ⟨rfl, none, rfl⟩
  rw [List.length_map, List.take_length] at e2
  rw [e]
  simp only [d__law_home, ss_cons, ss_nil, s_ret, s_asg, s_for, x_int, x_str, x_loc, List.map_cons, List.map_nil, List.cons_append, List.nil_append, List.replicate, List.set, loc0, locS, okO_some, sok, turn_next, turn_ret, Bool.false_eq_true, if_false, retR_ret, e2]
theorem run_is_whole (hp : Prog.has p "is_whole" d_is_whole) {x a b : Int} (ha : a <= x) (hb : x <= b) : semF p (n + 1) false "is_whole" [.int x, .int a, .int b] h = .ok (.bool true) h := by
  refine xEA (run_at (n := n) (h := h) hp (as := [.int x, .int a, .int b]) rfl) fun F hF e => ?_
  have t1 : ∀ h, isTy h (.int x) .int = some true := fun _ => rfl
  have t2 : ∀ h, isTy h (.int x) .bool = some false := fun _ => rfl
  rw [e]
  simp only [d_is_whole, ss_cons, ss_nil, s_ret, x_loc, x_not, x_and, x_cmp2, x_isi, List.map_cons, List.map_nil, List.cons_append, List.nil_append, loc0, locS, okO_some, bok, sok, turn_ret, boolO_some, notAV_bool, retR_ret, condV_t, cmpAnd_t, Bool.not_false, t1, t2, c_le, decide_eq_true ha, decide_eq_true hb]
theorem run_need_name (hp : Prog.has p "is_name" d_is_name) (hp2 : Prog.has p "need_name" d_need_name) {t : Nm} (G : Good t) : semF p (n + 2) false "need_name" [.str t] h = .ok .none h := by
  refine xEA (run_at (n := n + 1) (h := h) hp2 (as := [.str t]) rfl) fun F hF e => ?_
  rw [e]
  simp only [d_need_name, ss_cons, ss_nil, s_iff, x_loc, x_not, x_call, s_raise, xs_nil, xs_cons, List.map_cons, List.map_nil, List.cons_append, List.nil_append, loc0, okO_some, bok, sok, turn_next, turn_exc, Bool.false_eq_true, if_false, notAV_bool, retR_next, cond_f, Bool.not_true, run_is_name (n := n) hp G]
theorem run_need_value (hp : Prog.has p "is_whole" d_is_whole) (hp2 : Prog.has p "need_value" d_need_value) {v : Int} (h1 : -1000000000 <= v) (h2 : v <= 1000000000) : semF p (n + 2) false "need_value" [.int v] h = .ok .none h := by
  refine xEA (run_at (n := n + 1) (h := h) hp2 (as := [.int v]) rfl) fun F hF e => ?_
  rw [e]
  simp only [d_need_value, ss_cons, ss_nil, s_iff, x_int, x_loc, x_neg, x_not, x_call, s_raise, xs_nil, xs_cons, List.map_cons, List.map_nil, List.cons_append, List.nil_append, loc0, okO_some, bok, sok, turn_next, turn_exc, Bool.false_eq_true, if_false, notAV_bool, negAV_int, retR_next, cond_f, Bool.not_true, run_is_whole (n := n) hp h1 h2]
theorem run_room (hp : Prog.has p "_law_room" d__law_room) {xs : List Int} (hl : xs.length <= 63) {a b : Int} : semF p (n + 1) false "_law_room" [.scr xs, .int a, .int b] h = .ok (.int a) h := by
  refine xEA (run_at (n := n) (h := h) hp (as := [.scr xs, .int a, .int b]) rfl) fun F hF e => ?_
  rw [e]
  simp only [d__law_room, ss_cons, ss_nil, s_ret, s_iff, x_int, x_loc, x_cmp, x_bi, xs_nil, xs_cons, List.map_cons, List.map_nil, List.cons_append, List.nil_append, loc0, locS, okO_some, bok, sok, turn_next, turn_ret, Bool.and_false, Bool.false_eq_true, if_false, boolO_some, retR_ret, cond_f, len_scr (show xs.length <= sizeLim from lim_le (by lia)), c_gt, decide_eq_false (show ¬(63 : Int) < xs.length by lia)]
end
end
section
open PySem Cu
noncomputable def mk {α β : Type} (kf : α -> Key) (vf : β -> AV) (t : List (α × β)) : List (Key × AV) := t.map fun p => (kf p.1, vf p.2)
section
variable {α β : Type} [DecidableEq α] [BEq α] [LawfulBEq α] {kf : α -> Key} {vf : β -> AV}
theorem mk_length {t : List (α × β)} : (mk kf vf t).length = t.length := by simp [mk]
theorem mk_lookup (inj : ∀ a b, kf a = kf b -> a = b) (a : α) : ∀ t : List (α × β), (mk kf vf t).lookup (kf a) = (t.lookup a).map vf
  | [] => rfl
  | (k, v) :: t => by
    have ih := mk_lookup inj a t
    simp only [mk, List.map_cons, List.lookup_cons] at ih |-
    by_cases h : a = k
    . subst h; simp
    . rw [beq_eq_false_iff_ne.mpr h, beq_eq_false_iff_ne.mpr fun e => h (inj _ _ e)]; exact ih
theorem mk_put (inj : ∀ a b, kf a = kf b -> a = b) {t : List (α × β)} {a : α} {b : β} : dictPut (mk kf vf t) (kf a) (vf b) = mk kf vf (put t a b) := by
  have hb : ∀ x : α, (kf x == kf a) = (x == a) := fun x => by
    by_cases h : x = a
    . subst h; simp
    . rw [beq_eq_false_iff_ne.mpr h, beq_eq_false_iff_ne.mpr fun e => h (inj _ _ e)]
  have hany : (mk kf vf t).any (fun p => p.1 == kf a) = t.any (fun p => p.1 == a) := by
    simp only [mk, List.any_map]; congr 1; funext p; exact hb p.1
  unfold dictPut put
  rw [hany]
  split
  . simp only [mk, List.map_map]
    apply List.map_congr_left
    intro p _
    simp only [Function.comp, hb]
    split <;> rfl
  . simp [mk]
theorem mk_sort (hs : ∀ a b, (kf a).sort = (kf b).sort) {t : List (α × β)} {a : α} : sortOk (mk kf vf t) (kf a) = true := by
  simp only [sortOk, mk, List.all_map, List.all_eq_true, Function.comp, beq_iff_eq]
  exact fun p _ => hs _ _
end
noncomputable def sv (s : Seat) : AV := .tup [.int s.1, .int s.2]
noncomputable def kp (s : Seat) : Key := .pair s.1 s.2
theorem kp_inj (a b : Seat) (h : kp a = kp b) : a = b := by
  rcases a with ⟨_, _⟩; rcases b with ⟨_, _⟩; simp only [kp, Key.pair.injEq] at h; rw [h.1, h.2]
theorem ks_inj (a b : Nm) (h : Key.str a = Key.str b) : a = b := Key.str.inj h
theorem sv_key (s : Seat) : (sv s).key? = some (kp s) := rfl
theorem kp_av (s : Seat) : (kp s).av = sv s := rfl
theorem str_key (t : Nm) : (AV.str t).key? = some (.str t) := rfl
abbrev St' := List (Seat × Nm)
abbrev Th := List (Nm × Int)
noncomputable def stK (t : St') : List (Key × AV) := mk kp .str t
noncomputable def thK (t : Th) : List (Key × AV) := mk .str .int t
theorem stK_sort {t : St'} {s : Seat} : sortOk (stK t) (kp s) = true := mk_sort fun _ _ => rfl
theorem thK_sort {t : Th} {s : Nm} : sortOk (thK t) (.str s) = true := mk_sort fun _ _ => rfl
theorem stK_at {t : St'} {s : Seat} : (stK t).lookup (kp s) = (t.lookup s).map .str := mk_lookup kp_inj s t
theorem thK_at {t : Th} {s : Nm} : (thK t).lookup (.str s) = (t.lookup s).map .int := mk_lookup ks_inj s t
theorem stK_put {t : St'} {s : Seat} {x : Nm} : dictPut (stK t) (kp s) (.str x) = stK (put t s x) := mk_put kp_inj
theorem thK_put {t : Th} {s : Nm} {x : Int} : dictPut (thK t) (.str s) (.int x) = thK (put t s x) := mk_put ks_inj
theorem eqv_pair' {h : AHeap} {n : Nat} (a b : Seat) : eqv h (n + 2) (sv a) (sv b) = some (decide (a = b)) := by
  rw [sv, sv, eqv_pair]
  rcases a with ⟨_, _⟩; rcases b with ⟨_, _⟩
  simp only [Prod.mk.injEq, Option.some.injEq]
  rw [Bool.decide_and]
theorem find_map {h : AHeap} {κ : Type} [BEq κ] [LawfulBEq κ] [DecidableEq κ] {g : κ -> AV} (hf : ∀ a b, eqv h eqFuel (g a) (g b) = some (decide (a = b))) (a : κ) : ∀ w : List κ, findEq h (g a) (w.map g) = some (decide (a ∈ w))
  | [] => rfl
  | b :: w => by
    have e : findEq h (g a) ((b :: w).map g) = or2 (eqv h eqFuel (g b) (g a)) (findEq h (g a) (w.map g)) := rfl
    rw [e, find_map hf a w, hf]
    show some (decide (b = a) || decide (a ∈ w)) = _
    simp only [List.mem_cons, Bool.decide_or]
    congr 1
    by_cases h : a = b <;> simp [h, eq_comm]
theorem in_seats {h : AHeap} {n : Nat} {a : Seat} {w : List Seat} (hn : h[n]? = some (.list (w.map sv))) : cmpAV h .isin (sv a) (.loc n) = some (decide (a ∈ w)) := by
  have e : cmpAV h .isin (sv a) (.loc n) = isIn h (sv a) (.loc n) := rfl
  rw [e]
  delta isIn
  dsimp only
  rw [hn]
  exact find_map (fun a b => eqv_pair' (n := 4) a b) a w
theorem notin_tup {h : AHeap} {a : Seat} {w : List Seat} : cmpAV h .notin (sv a) (.tup (w.map sv)) = some (!decide (a ∈ w)) :=
  congrArg (Option.map not) (find_map (fun a b => eqv_pair' (n := 4) a b) a w)
section
variable {h g : AHeap} {o o' : AObj}
theorem get_new : (h ++ [o])[h.length]? = some o := List.getElem?_concat_length
theorem get_old {i : Nat} (e : h[i]? = some o) : (h ++ g)[i]? = some o := by
  rw [List.getElem?_append_left (List.getElem?_eq_some_iff.mp e).1]; exact e
theorem set_new : (h ++ [o]).set h.length o' = h ++ [o'] := by
  rw [List.set_append_right _ _ (Nat.le_refl _), Nat.sub_self]; rfl
theorem get_set {i : Nat} (e : h[i]? = some o) : (h.set i o')[i]? = some o' := by
  rw [List.getElem?_set_self (List.getElem?_eq_some_iff.mp e).1]
theorem get_other {i j : Nat} (e : h[i]? = some o) (hne : j ≠ i) : (h.set j o')[i]? = some o := by
  rw [List.getElem?_set_ne hne]; exact e
theorem get_lt {i : Nat} (e : h[i]? = some o) : i < h.length := (List.getElem?_eq_some_iff.mp e).1
end
structure Tb where
  c : Int
  f : Int
  s : Int
structure Tb.Ok (T : Tb) : Prop where
  c1 : 1 <= T.c
  c2 : T.c <= 1000
  f1 : 1 <= T.f
  f2 : T.f <= 1000000
  s1 : 1 <= T.s
  s2 : T.s <= 1000000
noncomputable def Tb.hm (T : Tb) (t : Nm) (r : Int) : Seat := (r, homeOf t (if r = 0 then T.f else T.s) T.c)
noncomputable def Tb.homes (T : Tb) (t : Nm) : AV := .tup [sv (T.hm t 0), sv (T.hm t 1)]
noncomputable def nsOf (T : Tb) (d e : Nat) : List (Str × AV) := [("things", .loc e), ("standing", .loc d), ("second", .int T.s), ("first", .int T.f), ("count", .int T.c)]
structure TabAt (h : AHeap) (t : Nat) (T : Tb) (d e : Nat) : Prop where
  inst : ∃ k, h[t]? = some (.inst k) /\ h[k]? = some (.ns (nsOf T d e))
theorem TabAt.more {h g : AHeap} {t d e : Nat} {T : Tb} (x : TabAt h t T d e) : TabAt (h ++ g) t T d e := by
  refine xEA x.inst fun k h1 h2 => ?_
  exact ⟨k, get_old h1, get_old h2⟩
theorem TabAt.at {h : AHeap} {t d e : Nat} {T : Tb} (x : TabAt h t T d e) : instAt h t = some (nsOf T d e) := by
  refine xEA x.inst fun k h1 h2 => ?_
  delta instAt; rw [h1]; dsimp only; rw [h2]
theorem TabAt.attr {h : AHeap} {t d e : Nat} {T : Tb} (x : TabAt h t T d e) {a : Str} {v : AV} (hv : (nsOf T d e).lookup a = some v) : attrAV a (.loc t) h = .ok v h := by
  show okO ((instAt h t).bind fun fs => fs.lookup a) h = _
  rw [x.at, Option.bind_some, hv]; rfl
section
variable {h : AHeap} {t d e : Nat} {T : Tb}
theorem TabAt.cnt (x : TabAt h t T d e) : attrAV "count" (.loc t) h = .ok (.int T.c) h := x.attr rfl
theorem TabAt.fst (x : TabAt h t T d e) : attrAV "first" (.loc t) h = .ok (.int T.f) h := x.attr rfl
theorem TabAt.snd (x : TabAt h t T d e) : attrAV "second" (.loc t) h = .ok (.int T.s) h := x.attr rfl
theorem TabAt.std (x : TabAt h t T d e) : attrAV "standing" (.loc t) h = .ok (.loc d) h := x.attr rfl
theorem TabAt.thg (x : TabAt h t T d e) : attrAV "things" (.loc t) h = .ok (.loc e) h := x.attr rfl
theorem TabAt.meth (x : TabAt h t T d e) {m : Str} (hm : ((nsOf T d e).lookup m).isNone = true) : hasMeth m (.loc t) h = true := by
  delta hasMeth; dsimp only; rw [x.at]; exact hm
end
noncomputable def Tb.In (T : Tb) (s : Seat) : Prop := (s.1 = 0 \/ s.1 = 1) /\ 0 <= s.2 /\ s.2 < T.c
theorem Tb.hm_in {T : Tb} (ok : T.Ok) {t : Nm} (G : Good t) {r : Int} (hr : r = 0 \/ r = 1) : T.In (T.hm t r) := ⟨hr, home_in (by have := ok.c1; lia) G.pos⟩
noncomputable def d__init_ : FDef := ⟨4, 4,
  (.cons (.iff (.not (.call "is_whole" (.cons (.loc 1) (.cons (.int 1) (.cons (.int 1000) .nil)))))
    (.cons (.raise "NoNests")
    .nil)
    .nil)
  (.cons (.iff (.or (.not (.call "is_whole" (.cons (.loc 2) (.cons (.int 1) (.cons (.int 1000000) .nil))))) (.not (.call "is_whole" (.cons (.loc 3) (.cons (.int 1) (.cons (.int 1000000) .nil))))))
    (.cons (.raise "NoNests")
    .nil)
    .nil)
  (.cons (.setattr "count" (.loc 0) (.loc 1))
  (.cons (.setattr "first" (.loc 0) (.loc 2))
  (.cons (.setattr "second" (.loc 0) (.loc 3))
  (.cons (.setattr "standing" (.loc 0) .dict0)
  (.cons (.setattr "things" (.loc 0) .dict0)
  .nil)))))))⟩
noncomputable def d_homes : FDef := ⟨2, 2,
  (.cons (.expr (.call "need_name" (.cons (.loc 1) .nil)))
  (.cons (.ret (.tup (.cons (.tup (.cons (.int 0) (.cons (.call "home" (.cons (.loc 1) (.cons (.attr "first" (.loc 0)) (.cons (.attr "count" (.loc 0)) .nil)))) .nil))) (.cons (.tup (.cons (.int 1) (.cons (.call "home" (.cons (.loc 1) (.cons (.attr "second" (.loc 0)) (.cons (.attr "count" (.loc 0)) .nil)))) .nil))) .nil))))
  .nil))⟩
noncomputable def d_need_nest : FDef := ⟨2, 2,
  (.cons (.iff (.or (.not (.isi (.loc 1) .tuple)) (.cmp .ne (.bi .len (.cons (.loc 1) .nil)) (.int 2)))
    (.cons (.raise "NoNest")
    .nil)
    .nil)
  (.cons (.iff (.or (.not (.call "is_whole" (.cons (.sub (.loc 1) (.int 0)) (.cons (.int 0) (.cons (.int 1) .nil))))) (.not (.call "is_whole" (.cons (.sub (.loc 1) (.int 1)) (.cons (.int 0) (.cons (.bin .sub (.attr "count" (.loc 0)) (.int 1)) .nil))))))
    (.cons (.raise "NoNest")
    .nil)
    .nil)
  .nil))⟩
section
variable {p : Prog} {n : Nat} {h : AHeap} {t d e : Nat} {T : Tb}
theorem set_attr {a : Str} {v : AV} {k : Nat} {fs : List (Str × AV)} (h1 : h[t]? = some (.inst k)) (h2 : h[k]? = some (.ns fs)) : setAttrAV a (.loc t) v h = some (h.set k (.ns ((a, v) :: fs))) := by
  show (nsAt h t).map _ = _
  delta nsAt; rw [h1]; dsimp only; rw [h2]; rfl
theorem tail_set {fs fs' : List (Str × AV)} {g : AHeap} : (h ++ .ns fs :: g).set h.length (.ns fs') = h ++ .ns fs' :: g := by
  rw [List.set_append_right _ _ (Nat.le_refl _), Nat.sub_self]; rfl
theorem attr_new {a : Str} {v : AV} {fs : List (Str × AV)} {g : AHeap} : setAttrAV a (.loc (h.length + 1)) v (h ++ .ns fs :: .inst h.length :: g) = some (h ++ .ns ((a, v) :: fs) :: .inst h.length :: g) := by
  rw [set_attr (k := h.length) (fs := fs) (by rw [List.getElem?_append_right (by lia), Nat.add_sub_cancel_left]; rfl) (by rw [List.getElem?_append_right (Nat.le_refl _), Nat.sub_self]; rfl), tail_set]
theorem run_init (hp : Prog.has p "is_whole" d_is_whole) (hp2 : Prog.has p "__init__" d__init_) (ok : T.Ok) : semF p (n + 2) false "__init__" [.loc (h.length + 1), .int T.c, .int T.f, .int T.s] (made h) =
    .ok .none (h ++ [.ns (nsOf T (h.length + 2) (h.length + 3)), .inst h.length, .dict [] 0, .dict [] 0]) := by
  refine xEA (run_at (n := n + 1) (h := made h) hp2 (as := [.loc (h.length + 1), .int T.c, .int T.f, .int T.s]) rfl) fun F hF e => ?_
  have em : made h = h ++ .ns [] :: .inst h.length :: [] := rfl
  have l1 : ∀ a b : AObj, (h ++ a :: b :: []).length = h.length + 2 := fun a b => by rw [List.length_append]; rfl
  have l2 : ∀ a b c : AObj, (h ++ a :: b :: c :: []).length = h.length + 3 := fun a b c => by rw [List.length_append]; rfl
  rw [e, em]
  simp only [d__init_, ss_cons, ss_nil, s_iff, s_seta, x_int, x_loc, x_not, x_or, x_call, x_dict0, s_raise, xs_nil, xs_cons, List.map_cons, List.map_nil, List.cons_append, List.nil_append, loc0, locS, okO_some, bok, sok, turn_next, turn_exc, Bool.false_eq_true, if_false, heapO_some, notAV_bool, retR_next, cond_f, condV_f, Bool.not_true, run_is_whole (n := n) hp ok.c1 ok.c2, run_is_whole (n := n) hp ok.f1 ok.f2, run_is_whole (n := n) hp ok.s1 ok.s2, attr_new, l1, l2, List.append_assoc]
  rfl
theorem run_homes (hp : Prog.has p "is_name" d_is_name) (hp2 : Prog.has p "need_name" d_need_name) (hp3 : Prog.has p "home" d_home) (hp4 : Prog.has p "homes" d_homes) (ok : T.Ok) (x : TabAt h t T d e) {nm : Nm} (G : Good nm) :
    semF p (n + 3) false "homes" [.loc t, .str nm] h = .ok (T.homes nm) h := by
  refine xEA (run_at (n := n + 2) (h := h) hp4 (as := [.loc t, .str nm]) rfl) fun F hF e => ?_
  rw [e]
  have := ok.c1
  have := ok.f1
  have := ok.f2
  have := ok.s1
  have := ok.s2
  simp only [d_homes, ss_cons, ss_nil, s_expr, s_ret, x_int, x_loc, x_call, x_attr, x_tup, xs_nil, xs_cons, List.map_cons, List.map_nil, List.cons_append, List.nil_append, loc0, locS, okO_some, bok, sok, turn_next, turn_ret, retR_ret, tup2, run_need_name (n := n) hp hp2 G, x.cnt, x.fst, x.snd, run_home (n := n + 1) hp3 G (times := T.f) (count := T.c) (by omega) (by lia), run_home (n := n + 1) hp3 G (times := T.s) (count := T.c) (by omega) (by lia)]
  rfl
theorem run_need_nest (hp : Prog.has p "is_whole" d_is_whole) (hp2 : Prog.has p "need_nest" d_need_nest) (x : TabAt h t T d e) {s : Seat} (hs : T.In s) : semF p (n + 2) false "need_nest" [.loc t, sv s] h = .ok .none h := by
  refine xEA (run_at (n := n + 1) (h := h) hp2 (as := [.loc t, sv s]) rfl) fun F hF e => ?_
  rw [e]
  have t1 : ∀ h, isTy h (sv s) .tuple = some true := fun _ => rfl
  have t2 : biAV .len [sv s] h = .ok (.int 2) h := rfl
  have t3 : cmpAV h .ne (.int 2) (.int 2) = some false := rfl
  have t4 : subAV (sv s) (.int 0) h = .ok (.int s.1) h := rfl
  have t5 : subAV (sv s) (.int 1) h = .ok (.int s.2) h := rfl
  refine xAA hs fun h1 h2 h3 => ?_
  simp only [d_need_nest, ss_cons, ss_nil, s_iff, x_int, x_loc, x_bin, x_not, x_or, x_cmp, x_call, x_bi, x_isi, x_attr, x_sub, s_raise, xs_nil, xs_cons, List.map_cons, List.map_nil, List.cons_append, List.nil_append, loc0, locS, okO_some, bok, sok, turn_next, turn_exc, Bool.and_false, Bool.false_eq_true, if_false, boolO_some, notAV_bool, retR_next, cond_f, condV_f, b_sub, Bool.not_true, t1, t2, t3, t4, t5, x.cnt, run_is_whole (n := n) hp (show 0 <= s.1 by lia) (show s.1 <= 1 by lia), run_is_whole (n := n) hp h2 (show s.2 <= T.c - 1 by lia)]
noncomputable def optS (o : Option Nm) : AV := match o with
  | some x => .str x
  | none => .none
theorem bmOk_get {i ep : Nat} {kvs : List (Key × AV)} (hd : h[i]? = some (.dict kvs ep)) : bmOk .get (.loc i) h = true := by
  show (dictAt h i).isSome = true
  rw [dictAt_of hd]; rfl
theorem get_st {i ep : Nat} {st : St'} {s : Seat} (hd : h[i]? = some (.dict (stK st) ep)) : bmAV .get (.loc i) [sv s] h = .ok (optS (st.lookup s)) h := by
  show getAV (.loc i) [sv s] h = _
  delta getAV; dsimp only
  rw [dictAt_of hd]
  show okO (if sortOk (stK st) (kp s) then some (((stK st).lookup (kp s)).getD .none) else none) h = _
  rw [if_pos stK_sort, stK_at]
  rcases st.lookup s with _ | _ <;> rfl
end
end
section
open PySem Cu
noncomputable def b_way_1 : Ss :=
  (.cons (.asg 3 (.sub (.im "homes" (.loc 0) (.cons (.sub (.attr "standing" (.loc 0)) (.sub (.loc 2) (.neg (.int 1)))) .nil)) (.bin .sub (.int 1) (.sub (.sub (.loc 2) (.neg (.int 1))) (.int 0)))))
  (.cons (.iff (.cmp .isin (.loc 3) (.loc 2))
    (.cons (.ret (.loc 2))
    .nil)
    .nil)
  (.cons (.expr (.bm .append (.loc 2) (.cons (.loc 3) .nil)))
  .nil)))
noncomputable def t_way_1 : X := (.cmp .isin (.sub (.loc 2) (.neg (.int 1))) (.attr "standing" (.loc 0)))
noncomputable def d_way : FDef := ⟨2, 4,
  (.cons (.expr (.im "need_nest" (.loc 0) (.cons (.loc 1) .nil)))
  (.cons (.asg 2 (.list (.cons (.loc 1) .nil)))
  (.cons (.whil t_way_1 b_way_1)
  (.cons (.ret (.loc 2))
  .nil))))⟩
noncomputable def StOk (st : St') : Prop := ∀ s nm, st.lookup s = some nm -> Good nm /\ (s.1 = 0 \/ s.1 = 1)
structure HasT (p : Prog) : Prop where
  a : Prog.has p "is_name" d_is_name
  b : Prog.has p "home" d_home
  c : Prog.has p "is_whole" d_is_whole
  d : Prog.has p "need_name" d_need_name
  f : Prog.has p "need_value" d_need_value
  g : Prog.has p "homes" d_homes
  i : Prog.has p "need_nest" d_need_nest
section
variable {p : Prog} {n : Nat} {h : AHeap} {t d e : Nat} {T : Tb}
theorem at_map {w : List Seat} {i : Nat} {s : Seat} (h : w[i]? = some s) : (w.map sv)[i]? = some (sv s) := by rw [List.getElem?_map, h]; rfl
theorem last_sub {a : Nat} {w : List Seat} {s : Seat} (hl : w.length <= 2000) (ha : h[a]? = some (.list (w.map sv))) (hs : w[w.length - 1]? = some s) : subAV (.loc a) (.int (-1)) h = .ok (sv s) h :=
  sub_last (lim_le (by rw [List.length_map]; lia)) ha (by rw [List.length_map]; exact at_map hs)
theorem st_get {a : Nat} {st : St'} {ep : Nat} {s : Seat} {m : Nm} (ha : h[a]? = some (.dict (stK st) ep)) (hs : st.lookup s = some m) : subAV (.loc a) (sv s) h = .ok (.str m) h :=
  sub_dict ha (sv_key s) stK_sort (by rw [stK_at, hs]; rfl)
theorem st_in {a : Nat} {st : St'} {ep : Nat} {s : Seat} (ha : h[a]? = some (.dict (stK st) ep)) : cmpAV h .isin (sv s) (.loc a) = some (st.lookup s).isSome := by
  rw [in_dict' ha (sv_key s) stK_sort, stK_at, Option.isSome_map]
theorem st_notin {a : Nat} {st : St'} {ep : Nat} {s : Seat} (ha : h[a]? = some (.dict (stK st) ep)) : cmpAV h .notin (sv s) (.loc a) = some (!(st.lookup s).isSome) := by
  rw [notin_dict' ha (sv_key s) stK_sort, stK_at, Option.isSome_map]
theorem sv0 {s : Seat} : subAV (sv s) (.int 0) h = .ok (.int s.1) h := rfl
theorem homes_at {nm : Nm} {r : Int} (hr : r = 0 \/ r = 1) : subAV (T.homes nm) (.int r) h = .ok (sv (T.hm nm r)) h := by
  rcases hr with rfl | rfl <;> rfl
theorem other_row {r : Int} (hr : r = 0 \/ r = 1) : 1 - r = 0 \/ 1 - r = 1 := by lia
theorem bmOk_append {i : Nat} {x : List AV} (hd : h[i]? = some (.list x)) : bmOk .append (.loc i) h = true := by
  show (listAt h i).isSome = true
  rw [listAt_of hd]; rfl
theorem add_seat {w : List Seat} {s : Seat} (hl : w.length <= 2000) : bmAV .append (.loc h.length) [sv s] (h ++ [.list (w.map sv)]) = .ok .none (h ++ [.list ((w ++ [s]).map sv)]) := by
  rw [show bmAV .append (.loc h.length) [sv s] (h ++ [.list (w.map sv)]) = _ from append_ok get_new (lim_lt (by rw [List.length_map]; lia)), set_new, List.map_append]; rfl
theorem list1 {v : AV} : newList [v] h = .ok (.loc h.length) (h ++ [.list [v]]) := newList_ok (by show 1 <= sizeLim; decide)
theorem way_loop (H : HasT p) (ok : T.Ok) {st : St'} {ep : Nat} (so : StOk st) (x : TabAt h t T d e) (hd : h[d]? = some (.dict (stK st) ep)) (hl : st.length <= 1000) {s0 : Seat} {F : Nat} :
    ∀ k f w v, Way T.hm st s0 w -> k <= f -> st.length + 1 < k + w.length ->
      ∃ fl v', whileLoop (fun l h => (evalX (cF p (n + 3) F) t_way_1 l h).noExc) (fun l h => (execSs (cF p (n + 3) F) b_way_1 l h).noExc) f
          [some (.loc t), some (sv s0), some (.loc h.length), v] (h ++ [.list (w.map sv)]) = .ok fl [some (.loc t), some (sv s0), some (.loc h.length), v'] (h ++ [.list ((wayGo T.hm st k w).map sv)]) /\
        (fl = .next \/ fl = .ret (.loc h.length)) := by
  intro k
  induction k with
  | zero => intro f w v W _ hf; have := W.short; omega
  | succ k ih =>
    intro f w v W hkf hf
    obtain ⟨f, rfl⟩ : ∃ g, f = g + 1 := ⟨f - 1, by lia⟩
    have hws := W.short
    have hwl : w.length <= 2000 := by lia
    refine xE W.last fun s hs => ?_
    have x' := x.more (g := [.list (w.map sv)])
    have hd' := get_old (g := [.list (w.map sv)]) hd
    have hL := last_sub hwl (get_new (h := h) (o := .list (w.map sv))) hs
    have e1 : ∀ (y : SR), whileLoop (fun l h => (evalX (cF p (n + 3) F) t_way_1 l h).noExc) (fun l h => (execSs (cF p (n + 3) F) b_way_1 l h).noExc) (f + 1)
          [some (.loc t), some (sv s0), some (.loc h.length), v] (h ++ [.list (w.map sv)]) = condS (.bool (st.lookup s).isSome) ((execSs (cF p (n + 3) F) b_way_1 [some (.loc t), some (sv s0), some (.loc h.length), v] (h ++ [.list (w.map sv)])).noExc.lap
            (whileLoop (fun l h => (evalX (cF p (n + 3) F) t_way_1 l h).noExc) (fun l h => (execSs (cF p (n + 3) F) b_way_1 l h).noExc) f)) (.ok .next [some (.loc t), some (sv s0), some (.loc h.length), v] (h ++ [.list (w.map sv)])) := by
      intro _
      show (Res.st (Res.noExc (evalX _ _ _ _)) _ _) = _
      simp only [nx_ok, t_way_1, x_cmp, x_sub, x_neg, x_int, x_loc, x_attr, loc0, locS, okO_some, bok, negAV_int, hL, x'.std, st_in hd', boolO_some, sok]
    rw [e1 .bad]
    rcases hn : st.lookup s with _ | nm
    case none =>
      rw [Option.isSome_none, cond_f, go_free hs hn]
      exact ⟨_, v, rfl, .inl rfl⟩
    case some =>
      refine xA (so s nm hn) fun G hrow => ?_
      rw [Option.isSome_some, cond_t]
      have hh := run_homes (n := n) (h := h ++ [.list (w.map sv)]) H.a H.d H.b H.g ok x' G
      by_cases hin : T.hm nm (1 - s.1) ∈ w
      . rw [go_shut hs hn hin]
        refine ⟨_, some (sv (T.hm nm (1 - s.1))), ?_, .inr rfl⟩
        simp only [b_way_1, ss_cons, ss_nil, s_expr, s_ret, s_asg, s_iff, x_int, x_loc, x_bin, x_neg, x_cmp, x_im, x_bm, x_attr, x_sub, xs_nil, xs_cons, List.set, loc0, locS, okO_some, bok, sok, turn_next, turn_ret, lap_ret, nx_s, boolO_some, negAV_int, cond_t, b_sub, if_true, hL, x'.std, x'.meth (m := "homes") rfl, st_get hd' hn, sv0, hh, homes_at (other_row hrow), in_seats get_new, decide_eq_true hin]
      . rw [go_on hs hn hin]
        refine xEEA (ih f (w ++ [T.hm nm (1 - s.1)]) (some (sv (T.hm nm (1 - s.1)))) (W.snoc hs hn hin) (by lia) (by rw [List.length_append, List.length_singleton]; lia)) fun fl v' e r => ?_
        refine ⟨fl, v', ?_, r⟩
        rw [<- e]
        simp only [b_way_1, ss_cons, ss_nil, s_expr, s_ret, s_asg, s_iff, x_int, x_loc, x_bin, x_neg, x_cmp, x_im, x_bm, x_attr, x_sub, xs_nil, xs_cons, List.set, loc0, locS, okO_some, bok, sok, turn_next, turn_ret, lap_next, nx_s, boolO_some, negAV_int, cond_f, b_sub, if_true, hL, x'.std, x'.meth (m := "homes") rfl, st_get hd' hn, sv0, hh, homes_at (other_row hrow), in_seats get_new, decide_eq_false hin, bmOk_append get_new, add_seat hwl]
theorem run_way (H : HasT p) (hp : Prog.has p "way" d_way) (ok : T.Ok) {st : St'} {ep : Nat} (so : StOk st) (x : TabAt h t T d e) (hd : h[d]? = some (.dict (stK st) ep)) (hl : st.length <= 1000) {s : Seat} (hs : T.In s) :
    semF p (n + 4) false "way" [.loc t, sv s] h = .ok (.loc h.length) (h ++ [.list ((wayOf T.hm st s).map sv)]) := by
  refine xEA (run_at (n := n + 3) (h := h) hp (as := [.loc t, sv s]) rfl) fun F hF e => ?_
  refine xEEA (way_loop (n := n) (s0 := s) H ok so x hd hl (F := F) (st.length + 1) F [s] none (Way.one st s) (by lia) (by rw [List.length_singleton]; lia)) fun fl v e2 hfl => ?_
  rw [List.map_cons, List.map_nil] at e2
  rw [e]
  simp only [d_way, ss_cons, ss_nil, s_expr, s_ret, s_asg, s_whil, x_loc, x_im, x_list, xs_nil, xs_cons, List.map_cons, List.map_nil, List.cons_append, List.nil_append, List.replicate, List.set, loc0, locS, okO_some, bok, sok, turn_next, if_true, x.meth (m := "need_nest") rfl, run_need_nest (n := n + 1) H.c H.i x hs, list1, e2]
  rcases hfl with rfl | rfl
  . simp only [loc0, locS, okO_some, sok, turn_next, turn_ret, retR_ret]; rfl
  . simp only [turn_ret, retR_ret]; rfl
noncomputable def HomesAt (h : AHeap) (i : Nat) (T : Tb) (ns : List Nm) : Prop := ∃ kvs ep, h[i]? = some (.dict kvs ep) /\ (∀ nm, sortOk kvs (.str nm) = true) /\ ∀ nm ∈ ns, kvs.lookup (.str nm) = some (T.homes nm)
theorem HomesAt.more {i : Nat} {ns : List Nm} {g : AHeap} (x : HomesAt h i T ns) : HomesAt (h ++ g) i T ns := xEEA x fun kvs ep h1 h2 => ⟨kvs, ep, get_old h1, h2⟩
theorem HomesAt.get {i : Nat} {ns : List Nm} (x : HomesAt h i T ns) {nm : Nm} (hn : nm ∈ ns) : subAV (.loc i) (.str nm) h = .ok (T.homes nm) h := by
  refine xEEAA x fun kvs ep h1 h2 h3 => ?_
  exact sub_dict h1 (str_key nm) (h2 nm) (h3 nm hn)
end
end
section
open PySem Cu
section
variable {β : Type} {hm : β -> Int -> Seat} {t T : List (Seat × β)} {w : List Seat}
structure Mid (t : List (Seat × β)) (w : List Seat) (j : Nat) (T : List (Seat × β)) : Prop where
  a : ∀ i s s', j <= i -> w[i]? = some s -> w[i + 1]? = some s' -> T.lookup s' = t.lookup s
  b : ∀ s, (∀ i, j < i -> w[i]? ≠ some s) -> T.lookup s = t.lookup s
  nd : (T.map (·.1)).Nodup
theorem nd_at {w : List Seat} (nd : w.Nodup) {i j : Nat} {s : Seat} (hi : w[i]? = some s) (hj : w[j]? = some s) : i = j := by
  refine xE (List.getElem?_eq_some_iff.mp hi) fun h1 e1 => ?_
  refine xE (List.getElem?_eq_some_iff.mp hj) fun h2 e2 => ?_
  have q := List.pairwise_iff_getElem.mp nd
  rcases Nat.lt_trichotomy i j with h | h | h
  . exact absurd (e1.trans e2.symm) (q i j h1 h2 h)
  . exact h
  . exact absurd (e2.trans e1.symm) (q j i h2 h1 h)
theorem Mid.start (nd : (t.map (·.1)).Nodup) : Mid t w (w.length - 1) t :=
  ⟨fun i s s' hi _ h => absurd (List.getElem?_eq_some_iff.mp h).1 (by omega), fun _ _ => rfl, nd⟩
theorem Mid.step {s0 : Seat} {j : Nat} (W : Way hm t s0 w) (M : Mid t w (j + 1) T) {a b : Seat} {n : β} (ha : w[j]? = some a) (hb : w[j + 1]? = some b) (hn : t.lookup a = some n) : Mid t w j (put T b n) := by
  refine ⟨?_, ?_, put_nodup M.nd⟩
  . intro i s s' hi h1 h2
    rw [put_lookup]
    by_cases e : s' = b
    . subst e
      have : i + 1 = j + 1 := nd_at W.nd h2 hb
      have : i = j := by lia
      subst this
      rw [ha] at h1; injection h1 with h1; subst h1
      rw [if_pos rfl, hn]
    . rw [if_neg e]
      refine M.a i s s' ?_ h1 h2
      apply Nat.lt_of_le_of_ne hi
      rintro rfl
      rw [hb] at h2; injection h2 with h2; exact e h2.symm
  . intro s hs
    rw [put_lookup, if_neg (by rintro rfl; exact hs (j + 1) (by lia) hb)]
    exact M.b s fun i hi => hs i (by lia)
end
section
variable {α β : Type} [DecidableEq α] [BEq α] [LawfulBEq α]
noncomputable def drop (t : List (α × β)) (a : α) : List (α × β) := t.filter fun p => !(p.1 == a)
theorem drop_lookup {a x : α} : ∀ {t : List (α × β)}, (drop t a).lookup x = if x = a then none else t.lookup x
  | [] => by split <;> rfl
  | (k, v) :: t => by
    have ih := drop_lookup (a := a) (x := x) (t := t)
    unfold drop at ih |-
    by_cases h : k = a
    . subst h
      rw [List.filter_cons_of_neg (by simp), ih]
      by_cases hx : x = k
      . rw [if_pos hx, if_pos hx]
      . rw [if_neg hx, if_neg hx, List.lookup_cons, beq_eq_false_iff_ne.mpr hx]
    . rw [List.filter_cons_of_pos (by simpa using h), List.lookup_cons, List.lookup_cons, ih]
      by_cases hx : x = k
      . subst hx; rw [if_neg h]; simp [h]
      . rw [beq_eq_false_iff_ne.mpr hx]
theorem drop_nodup {t : List (α × β)} {a : α} (h : (t.map (·.1)).Nodup) : ((drop t a).map (·.1)).Nodup := (List.filter_sublist.map _).nodup h
theorem some_key {t : List (α × β)} {a : α} : a ∈ t.map (·.1) ↔ (t.lookup a).isSome = true := by
  rcases h : t.lookup a with _ | v
  case none => exact ⟨fun q => absurd q (lookup_none.mp h), fun q => nomatch q⟩
  case some => exact ⟨fun _ => rfl, fun _ => Classical.byContradiction fun q => by rw [lookup_none.mpr q] at h; cases h⟩
end
section
variable {β : Type} [DecidableEq β] {hm : β -> Int -> Seat} {t : List (Seat × β)}
structure Std (hm : β -> Int -> Seat) (t : List (Seat × β)) : Prop where
  row : ∀ n r, (hm n r).1 = r
  nd : (t.map (·.1)).Nodup
  home : ∀ s n, t.lookup s = some n -> (s.1 = 0 \/ s.1 = 1) /\ s = hm n s.1
  once : ∀ s s' n, t.lookup s = some n -> t.lookup s' = some n -> s = s'
theorem Std.done (O : Std hm t) {nm : β} (hno : ∀ s, t.lookup s ≠ some nm) {r : Int} (hr : r = 0 \/ r = 1) {w : List Seat} (W : Way hm t (hm nm r) w) (hop : ∀ s, w[w.length - 1]? = some s -> t.lookup s = none) {T' : List (Seat × β)} (M : Mid t w 0 T') :
    Std hm (put T' (hm nm r) nm) /\ ∀ x, (∃ s, (put T' (hm nm r) nm).lookup s = some x) ↔ x = nm \/ ∃ s, t.lookup s = some x := by
  have src : ∀ s n, s ≠ hm nm r -> T'.lookup s = some n -> ∃ p, t.lookup p = some n /\ ((∃ i, w[i]? = some p /\ w[i + 1]? = some s) \/ (p = s /\ s ∉ w)) := by
    intro s n hne h
    by_cases hs : s ∈ w
    . refine xE (List.getElem_of_mem hs) fun i qq1 => ?_; obtain ⟨hi, e⟩ := qq1
      rcases i with _ | i
      case zero =>
        have := W.head
        rw [List.getElem?_eq_getElem hi, e] at this; injection this with this; exact absurd this hne
      case succ =>
        have h1 : w[i]? = some w[i] := List.getElem?_eq_getElem (by lia)
        have h2 : w[i + 1]? = some s := by rw [<- e]; exact List.getElem?_eq_getElem _
        exact ⟨_, (M.a i _ _ (by lia) h1 h2).symm.trans h, .inl ⟨i, h1, h2⟩⟩
    . exact ⟨s, (M.b s fun i _ e => hs (List.mem_of_getElem? e)).symm.trans h, .inr ⟨rfl, hs⟩⟩
  refine ⟨⟨O.row, put_nodup M.nd, ?_, ?_⟩, ?_⟩
  . intro s n h
    rw [put_lookup] at h
    by_cases e : s = hm nm r
    . rw [if_pos e] at h; injection h with h; subst h
      subst e
      rw [O.row]
      exact ⟨hr, rfl⟩
    . rw [if_neg e] at h
      refine xEA (src s n e h) fun p hp qq1 => ?_; obtain ⟨i, h1, h2⟩ | ⟨rfl, _⟩ := qq1
      . refine xEA (W.step i p s h1 h2) fun n' hn' e2 => ?_
        rw [hp] at hn'; injection hn' with hn'; subst hn'
        refine xA (O.home p n hp) fun row _ => ?_
        rw [e2, O.row]
        exact ⟨by lia, rfl⟩
      . exact O.home p n hp
  . intro s s' n h h'
    rw [put_lookup] at h h'
    by_cases e : s = hm nm r
    . rw [if_pos e] at h; injection h with h; subst h
      by_cases e' : s' = hm nm r
      . rw [e, e']
      . rw [if_neg e'] at h'
        refine xEA (src s' nm e' h') fun p hp _ => ?_
        exact absurd hp (hno p)
    . rw [if_neg e] at h
      refine xEA (src s n e h) fun p hp q => ?_
      by_cases e' : s' = hm nm r
      . rw [if_pos e'] at h'; injection h' with h'; subst h'
        exact absurd hp (hno p)
      . rw [if_neg e'] at h'
        refine xEA (src s' n e' h') fun p' hp' q' => ?_
        have := O.once _ _ _ hp hp'
        subst this
        rcases q with ⟨i, h1, h2⟩ | ⟨rfl, h2⟩ <;> rcases q' with ⟨i', h1', h2'⟩ | ⟨rfl, h2'⟩
        . have := nd_at W.nd h1 h1'; subst this
          rw [h2] at h2'; injection h2'
        . exact absurd (List.mem_of_getElem? h1) h2'
        . exact absurd (List.mem_of_getElem? h1') h2
        . rfl
  . intro x
    by_cases e : x = nm
    . subst e
      exact ⟨fun _ => .inl rfl, fun _ => ⟨hm x r, by rw [put_lookup, if_pos rfl]⟩⟩
    . constructor
      . rintro ⟨s, h⟩
        rw [put_lookup] at h
        by_cases es : s = hm nm r
        . rw [if_pos es] at h; injection h with h; exact absurd h.symm e
        . rw [if_neg es] at h
          refine xEA (src s x es h) fun p hp _ => ?_
          exact .inr ⟨p, hp⟩
      . intro hx
        refine xE (hx.resolve_left e) fun p hp => ?_
        by_cases hpw : p ∈ w
        . refine xE (List.getElem_of_mem hpw) fun i qq1 => ?_; obtain ⟨hi, ei⟩ := qq1
          have h1 : w[i]? = some p := by rw [<- ei]; exact List.getElem?_eq_getElem _
          by_cases hl : i + 1 < w.length
          . have h2 : w[i + 1]? = some w[i + 1] := List.getElem?_eq_getElem hl
            refine ⟨w[i + 1], ?_⟩
            rw [put_lookup, if_neg ?_]
            . exact (M.a i _ _ (Nat.zero_le _) h1 h2).trans hp
            . intro q
              rw [q] at h2
              have := nd_at W.nd h2 W.head
              lia
          . have : i = w.length - 1 := by omega
            rw [this] at h1
            rw [hop p h1] at hp; cases hp
        . refine ⟨p, ?_⟩
          rw [put_lookup, if_neg ?_]
          . exact (M.b p fun i _ q => hpw (List.mem_of_getElem? q)).trans hp
          . rintro rfl
            exact hpw (List.mem_of_getElem? W.head)
end
structure Ord (T : Tb) (st : St') (th : Th) : Prop where
  nd : (st.map (·.1)).Nodup
  home : ∀ s nm, st.lookup s = some nm -> Good nm /\ (s.1 = 0 \/ s.1 = 1) /\ s = T.hm nm s.1
  once : ∀ s s' nm, st.lookup s = some nm -> st.lookup s' = some nm -> s = s'
  ndt : (th.map (·.1)).Nodup
  there : ∀ nm, (∃ s, st.lookup s = some nm) ↔ (th.lookup nm).isSome = true
section
variable {T : Tb} {st : St'} {th : Th}
theorem Ord.nil : Ord T [] [] := ⟨List.nodup_nil, (fun _ _ h => nomatch h), (fun _ _ _ h => nomatch h), List.nodup_nil, fun nm => ⟨(fun ⟨_, h⟩ => nomatch h), (fun h => nomatch h)⟩⟩
theorem Ord.so (O : Ord T st th) : StOk st := fun s nm h => ⟨(O.home s nm h).1, (O.home s nm h).2.1⟩
theorem Ord.same (O : Ord T st th) {nm : Nm} {v : Int} (h : (th.lookup nm).isSome = true) : Ord T st (put th nm v) :=
  ⟨O.nd, O.home, O.once, put_nodup O.ndt, fun x => by
    rw [O.there x, put_lookup]
    by_cases e : x = nm
    . subst e; rw [if_pos rfl, h]; exact ⟨fun _ => rfl, fun _ => rfl⟩
    . rw [if_neg e]⟩
theorem Ord.drop (O : Ord T st th) {s : Seat} {nm : Nm} (h : st.lookup s = some nm) : Ord T (drop st s) (drop th nm) := by
  have old : ∀ s' n, (Mine.Internal.drop st s).lookup s' = some n -> s' ≠ s /\ st.lookup s' = some n := fun s' n h' => by
    rw [drop_lookup] at h'
    by_cases e : s' = s
    . rw [if_pos e] at h'; cases h'
    . rw [if_neg e] at h'; exact ⟨e, h'⟩
  refine ⟨drop_nodup O.nd, fun s' n h' => O.home s' n (old s' n h').2, fun s1 s2 n h1 h2 => O.once s1 s2 n (old s1 n h1).2 (old s2 n h2).2, drop_nodup O.ndt, fun x => ?_⟩
  rw [drop_lookup]
  by_cases e : x = nm
  . subst e
    rw [if_pos rfl]
    refine ⟨fun ⟨s', h'⟩ => ?_, fun q => nomatch q⟩
    refine xA (old s' x h') fun h1 h2 => ?_
    exact absurd (O.once _ _ _ h2 h) h1
  . rw [if_neg e, <- O.there x]
    refine ⟨fun ⟨s', h'⟩ => ⟨s', (old s' x h').2⟩, fun ⟨s', h'⟩ => ⟨s', ?_⟩⟩
    rw [drop_lookup, if_neg ?_]
    . exact h'
    . rintro rfl; rw [h] at h'; injection h' with h'; exact e h'.symm
theorem Ord.std (O : Ord T st th) : Std T.hm st := ⟨fun _ _ => rfl, O.nd, fun s n h => (O.home s n h).2, O.once⟩
theorem Ord.no (O : Ord T st th) {nm : Nm} (hnew : th.lookup nm = none) : ∀ s, st.lookup s ≠ some nm := fun s h => by
  have := (O.there nm).mp ⟨s, h⟩
  rw [hnew] at this; cases this
theorem Ord.done (O : Ord T st th) {nm : Nm} (G : Good nm) (hnew : th.lookup nm = none) {v : Int} {r : Int} (hr : r = 0 \/ r = 1) {w : List Seat} (W : Way T.hm st (T.hm nm r) w) (hop : ∀ s, w[w.length - 1]? = some s -> st.lookup s = none) {T' : St'} (M : Mid st w 0 T') :
    Ord T (put T' (T.hm nm r) nm) (put th nm v) := by
  refine xA (O.std.done (O.no hnew) hr W hop M) fun S hs => ?_
  refine ⟨S.nd, fun s n h => ⟨?_, S.home s n h⟩, S.once, put_nodup O.ndt, fun x => ?_⟩
  . rcases (hs n).mp ⟨s, h⟩ with rfl | ⟨s', h'⟩
    . exact G
    . exact (O.home s' n h').1
  . rw [hs x, put_lookup]
    by_cases e : x = nm
    . rw [if_pos e]
      exact ⟨fun _ => rfl, fun _ => .inl e⟩
    . rw [if_neg e, <- O.there x]
      exact ⟨fun q => q.resolve_left e, .inr⟩
theorem Ord.names (O : Ord T st th) : (st.map (·.2)).Perm (th.map (·.1)) := by
  have nd2 : (st.map (·.2)).Nodup := by
    have nd := O.nd
    have inj : ∀ s s' n, (s, n) ∈ st -> (s', n) ∈ st -> s = s' := fun s s' n h h' => O.once s s' n (lookup_of_mem O.nd h) (lookup_of_mem O.nd h')
    clear O
    induction st with
    | nil => exact List.nodup_nil
    | cons p t ih =>
      rw [List.map_cons, List.nodup_cons] at nd |-
      refine ⟨?_, ih nd.2 fun s s' n h h' => inj s s' n (List.mem_cons_of_mem _ h) (List.mem_cons_of_mem _ h')⟩
      intro h
      refine xEA (List.mem_map.mp h) fun qq1 hs e => ?_; obtain ⟨s, n⟩ := qq1
      have e : n = p.2 := e
      subst e
      have := inj s p.1 p.2 (List.mem_cons_of_mem _ hs) List.mem_cons_self
      subst this
      exact nd.1 (List.mem_map.mpr ⟨_, hs, rfl⟩)
  refine (List.perm_ext_iff_of_nodup nd2 O.ndt).mpr fun nm => ?_
  rw [some_key, <- O.there nm]
  constructor
  . intro h
    refine xEA (List.mem_map.mp h) fun qq1 hs qq2 => ?_; obtain ⟨s, n⟩ := qq1; subst qq2
    exact ⟨s, lookup_of_mem O.nd hs⟩
  . rintro ⟨s, hs⟩
    exact List.mem_map.mpr ⟨_, lookup_mem hs, rfl⟩
theorem Ord.len (O : Ord T st th) : st.length = th.length := by have := O.names.length_eq; rwa [List.length_map, List.length_map] at this
noncomputable def openW (st : St') (w : List Seat) : Bool := match w[w.length - 1]? with
  | some s => (st.lookup s).isNone
  | none => false
noncomputable def shorter (b : Option (List Seat)) (w : List Seat) : Bool := match b with
  | none => true
  | some b => decide (w.length < b.length)
noncomputable def pickW (st : St') (b : Option (List Seat)) (w : List Seat) : Option (List Seat) := if openW st w && shorter b w then some w else b
noncomputable def bestOf (T : Tb) (st : St') (nm : Nm) : Option (List Seat) := pickW st (pickW st none (wayOf T.hm st (T.hm nm 0))) (wayOf T.hm st (T.hm nm 1))
theorem open_last {w : List Seat} (h : openW st w = true) {s : Seat} (hs : w[w.length - 1]? = some s) : st.lookup s = none := by
  unfold openW at h
  rw [hs] at h
  exact Option.isNone_iff_eq_none.mp h
theorem pick_or {b : Option (List Seat)} {w u : List Seat} (h : pickW st b w = some u) : (u = w /\ openW st w = true) \/ b = some u := by
  unfold pickW at h
  by_cases hc : (openW st w && shorter b w) = true
  . rw [if_pos hc] at h
    rw [Bool.and_eq_true] at hc
    exact .inl ⟨(Option.some.inj h).symm, hc.1⟩
  . rw [if_neg hc] at h
    exact .inr h
theorem best_is {nm : Nm} {w : List Seat} (h : bestOf T st nm = some w) : ∃ r, (r = 0 \/ r = 1) /\ Way T.hm st (T.hm nm r) w /\ ∀ s, w[w.length - 1]? = some s -> st.lookup s = none := by
  rcases pick_or h with ⟨rfl, ho⟩ | h
  . exact ⟨1, .inr rfl, wayOf_way st _, fun s => open_last ho⟩
  . rcases pick_or h with ⟨rfl, ho⟩ | h
    . exact ⟨0, .inl rfl, wayOf_way st _, fun s => open_last ho⟩
    . cases h
abbrev Mv := Nm × Seat × Seat
noncomputable def mvAV (m : Mv) : AV := .tup [.str m.1, sv m.2.1, sv m.2.2]
noncomputable def seatAt (w : List Seat) (i : Nat) : Seat := w.getD i (0, 0)
noncomputable def moveAt (st : St') (w : List Seat) (i : Nat) : Mv := ((st.lookup (seatAt w (i - 1))).getD [], seatAt w (i - 1), seatAt w i)
noncomputable def movesOf (st : St') (w : List Seat) : List Mv := (List.range (w.length - 1)).map fun j => moveAt st w (w.length - 1 - j)
theorem seat_at {w : List Seat} {i : Nat} (h : i < w.length) : w[i]? = some (seatAt w i) := by
  unfold seatAt
  rw [List.getD_eq_getElem?_getD, List.getElem?_eq_getElem h]; rfl
end
theorem dn_at {L k : Nat} (h : k < L - 1) : ∃ q, L - 1 - k = q + 1 /\ L - 1 - (k + 1) = q /\ q + 1 < L := by
  refine xE (Nat.exists_eq_add_of_lt h) fun d e => ?_
  refine ⟨d, by rw [e, Nat.add_assoc, Nat.add_sub_cancel_left], by rw [e, Nat.add_right_comm, Nat.add_sub_cancel_left], Nat.lt_of_le_of_lt (Nat.le_trans (Nat.le_add_left (d + 1) k) (Nat.le_of_eq e.symm)) (Nat.sub_one_lt fun q => by rw [q] at h; exact Nat.not_lt_zero _ h)⟩
end
section
open PySem Cu
noncomputable def b_best_way_1 : Ss :=
  (.cons (.asg 4 (.im "way" (.loc 0) (.cons (.loc 3) .nil)))
  (.cons (.iff (.and (.cmp .notin (.sub (.loc 4) (.neg (.int 1))) (.attr "standing" (.loc 0))) (.or (.isn true (.loc 2)) (.cmp .lt (.bi .len (.cons (.loc 4) .nil)) (.bi .len (.cons (.loc 2) .nil)))))
    (.cons (.asg 2 (.loc 4))
    .nil)
    .nil)
  .nil))
noncomputable def d_best_way : FDef := ⟨2, 5,
  (.cons (.asg 2 .none)
  (.cons (.forr 3 (.im "homes" (.loc 0) (.cons (.loc 1) .nil)) b_best_way_1)
  (.cons (.ret (.loc 2))
  .nil)))⟩
noncomputable def b_moves_1 : Ss :=
  (.cons (.expr (.bm .append (.loc 3) (.cons (.tup (.cons (.sub (.attr "standing" (.loc 0)) (.sub (.loc 2) (.bin .sub (.loc 4) (.int 1)))) (.cons (.sub (.loc 2) (.bin .sub (.loc 4) (.int 1))) (.cons (.sub (.loc 2) (.loc 4)) .nil)))) .nil)))
  .nil)
noncomputable def d_moves : FDef := ⟨2, 5,
  (.cons (.expr (.call "need_name" (.cons (.loc 1) .nil)))
  (.cons (.iff (.cmp .isin (.loc 1) (.attr "things" (.loc 0)))
    (.cons (.ret (.list .nil))
    .nil)
    .nil)
  (.cons (.asg 2 (.im "best_way" (.loc 0) (.cons (.loc 1) .nil)))
  (.cons (.iff (.isn true (.loc 2))
    (.cons (.raise "NoRoom")
    .nil)
    .nil)
  (.cons (.asg 3 (.list .nil))
  (.cons (.forr 4 (.range (.cons (.bin .sub (.bi .len (.cons (.loc 2) .nil)) (.int 1)) (.cons (.int 0) (.cons (.neg (.int 1)) .nil)))) b_moves_1)
  (.cons (.ret (.loc 3))
  .nil)))))))⟩
section
variable {p : Prog} {n : Nat} {h : AHeap} {t d e : Nat} {T : Tb} {st : St'} {th : Th}
theorem th_in {j ep : Nat} {nm : Nm} (hj : h[j]? = some (.dict (thK th) ep)) : cmpAV h .isin (.str nm) (.loc j) = some (th.lookup nm).isSome := by
  rw [in_dict' hj (str_key nm) thK_sort, thK_at, Option.isSome_map]
theorem th_notin {j ep : Nat} {nm : Nm} (hj : h[j]? = some (.dict (thK th) ep)) : cmpAV h .notin (.str nm) (.loc j) = some (!(th.lookup nm).isSome) := by
  rw [notin_dict' hj (str_key nm) thK_sort, thK_at, Option.isSome_map]
theorem for_two {put : Locs -> AV -> Option Locs} {body : Locs -> AHeap -> SR} {src a b : AV} {f : Nat} {l la l1 lb l2 : Locs} {h1 h2 : AHeap} (n0 : nextAt src 0 h = some (some a)) (p1 : put l a = some la) (e1 : body la h = .ok .next l1 h1) (n1 : nextAt src 1 h1 = some (some b)) (p2 : put l1 b = some lb) (e2 : body lb h1 = .ok .next l2 h2) (n2 : nextAt src 2 h2 = some none) (hf : 3 <= f) :
    forLoop put body src f 0 l h = .ok .next l2 h2 := by
  obtain ⟨g, rfl⟩ : ∃ g, f = g + 3 := ⟨f - 3, by omega⟩
  have go : ∀ {f k : Nat} {l l' l'' : Locs} {h h' : AHeap} {v : AV}, nextAt src k h = some (some v) -> put l v = some l' -> body l' h = .ok .next l'' h' -> forLoop put body src (f + 1) k l h = forLoop put body src f (k + 1) l'' h' := fun n q e => by
    rw [for_succ, n]
    dsimp only
    rw [q]
    dsimp only
    rw [e]; rfl
  rw [go n0 p1 e1, go n1 p2 e2, for_succ, n2]
noncomputable def BestIs (h : AHeap) (bv : AV) (b : Option (List Seat)) : Prop := (b = none /\ bv = .none) \/ ∃ u i, b = some u /\ bv = .loc i /\ h[i]? = some (.list (u.map sv))
theorem BestIs.more {bv : AV} {b : Option (List Seat)} {g : AHeap} (x : BestIs h bv b) : BestIs (h ++ g) bv b := by
  rcases x with x | ⟨u, i, h1, h2, h3⟩
  . exact .inl x
  . exact .inr ⟨u, i, h1, h2, get_old h3⟩
theorem len_seats {i : Nat} {w : List Seat} (hi : h[i]? = some (.list (w.map sv))) : biAV .len [.loc i] h = .ok (.int w.length) h := by rw [len_list hi, List.length_map]
theorem best_step (H : HasT p) (hw : Prog.has p "way" d_way) (ok : T.Ok) (so : StOk st) (x : TabAt h t T d e) {ep : Nat} (hd : h[d]? = some (.dict (stK st) ep)) (hl : st.length <= 1000) {s : Seat} (hs : T.In s) {nm : Nm} {bv : AV} {b : Option (List Seat)} (hb : BestIs h bv b) {v4 : Option AV} {F : Nat} :
    ∃ bv', execSs (cF p (n + 4) F) b_best_way_1 [some (.loc t), some (.str nm), some bv, some (sv s), v4] h = .ok .next [some (.loc t), some (.str nm), some bv', some (sv s), some (.loc h.length)] (h ++ [.list ((wayOf T.hm st s).map sv)]) /\ BestIs (h ++ [.list ((wayOf T.hm st s).map sv)]) bv' (pickW st b (wayOf T.hm st s)) := by
  have W := wayOf_way (hm := T.hm) st s
  have hws := W.short
  refine xE W.last fun sl hsl => ?_
  have hb' := hb.more (g := [.list ((wayOf T.hm st s).map sv)])
  have x' := x.more (g := [.list ((wayOf T.hm st s).map sv)])
  have hd' := get_old (g := [.list ((wayOf T.hm st s).map sv)]) hd
  have ew := run_way (n := n) H hw ok so x hd hl hs
  have g1 : (h ++ [.list ((wayOf T.hm st s).map sv)])[h.length]? = some (.list ((wayOf T.hm st s).map sv)) := get_new
  have hL := last_sub (by lia) g1 hsl
  have ho : openW st (wayOf T.hm st s) = (st.lookup sl).isNone := by unfold openW; rw [hsl]
  rw [b_best_way_1]
  have e1 : execS (cF p (n + 4) F) (.asg 4 (.im "way" (.loc 0) (.cons (.loc 3) .nil))) [some (.loc t), some (.str nm), some bv, some (sv s), v4] h = .ok .next [some (.loc t), some (.str nm), some bv, some (sv s), some (.loc h.length)] (h ++ [.list ((wayOf T.hm st s).map sv)]) := by
    simp only [s_asg, x_loc, x_im, xs_nil, xs_cons, List.set, loc0, locS, okO_some, bok, sok, if_true, x.meth (m := "way") rfl, ew]
  rw [ss_step e1]
  generalize h ++ [.list ((wayOf T.hm st s).map sv)] = h1 at hb' x' hd' g1 hL
  rcases hn : st.lookup sl with _ | m
  case some =>
    refine ⟨bv, ?_, ?_⟩
    . simp only [ss_cons, ss_nil, s_asg, s_iff, x_int, x_loc, x_neg, x_and, x_or, x_cmp, x_isn, x_bi, x_attr, x_sub, xs_nil, xs_cons, List.set, loc0, locS, okO_some, bok, sok, turn_next, Bool.and_false, Bool.false_eq_true, if_false, boolO_some, negAV_int, cond_f, condV_f, Bool.not_true, hL, x'.std, st_notin hd', hn, Option.isSome_some]
    . rw [pickW, ho, hn]; exact hb'
  case none =>
    rcases hb' with ⟨rfl, rfl⟩ | ⟨u, i, rfl, rfl, hi⟩
    . refine ⟨.loc h.length, ?_, ?_⟩
      . have e0 : (isNoneAV .none == true) = true := rfl
        simp only [ss_cons, ss_nil, s_asg, s_iff, x_int, x_loc, x_neg, x_and, x_or, x_cmp, x_isn, x_bi, x_attr, x_sub, xs_nil, xs_cons, List.set, loc0, locS, okO_some, bok, sok, turn_next, Bool.and_false, Bool.false_eq_true, if_false, boolO_some, negAV_int, cond_t, condV_t, Bool.not_false, hL, x'.std, st_notin hd', hn, Option.isSome_none, e0]
      . rw [pickW, ho, hn]; exact .inr ⟨_, _, rfl, rfl, g1⟩
    . have e0 : (isNoneAV (.loc i) == true) = false := rfl
      by_cases hlt : (wayOf T.hm st s).length < u.length
      . refine ⟨.loc h.length, ?_, ?_⟩
        . simp only [ss_cons, ss_nil, s_asg, s_iff, x_int, x_loc, x_neg, x_and, x_or, x_cmp, x_isn, x_bi, x_attr, x_sub, xs_nil, xs_cons, List.set, loc0, locS, okO_some, bok, sok, turn_next, Bool.and_false, Bool.false_eq_true, if_false, boolO_some, negAV_int, cond_t, condV_t, condV_f, Bool.not_false, hL, x'.std, st_notin hd', hn, Option.isSome_none, e0, len_seats g1, len_seats hi, c_lt, decide_eq_true (show ((wayOf T.hm st s).length : Int) < u.length by lia)]
        . rw [pickW, ho, hn, shorter, decide_eq_true hlt]; exact .inr ⟨_, _, rfl, rfl, g1⟩
      . refine ⟨.loc i, ?_, ?_⟩
        . simp only [ss_cons, ss_nil, s_asg, s_iff, x_int, x_loc, x_neg, x_and, x_or, x_cmp, x_isn, x_bi, x_attr, x_sub, xs_nil, xs_cons, List.set, loc0, locS, okO_some, bok, sok, turn_next, Bool.and_false, Bool.false_eq_true, if_false, boolO_some, negAV_int, cond_f, condV_t, condV_f, Bool.not_false, hL, x'.std, st_notin hd', hn, Option.isSome_none, e0, len_seats g1, len_seats hi, c_lt, decide_eq_false (show ¬((wayOf T.hm st s).length : Int) < u.length by lia)]
        . rw [pickW, ho, hn, shorter, decide_eq_false hlt]; exact .inr ⟨_, _, rfl, rfl, hi⟩
theorem run_best_way (H : HasT p) (hw : Prog.has p "way" d_way) (hp : Prog.has p "best_way" d_best_way) (ok : T.Ok) (so : StOk st) (x : TabAt h t T d e) {ep : Nat} (hd : h[d]? = some (.dict (stK st) ep)) (hl : st.length <= 1000) {nm : Nm} (G : Good nm) :
    ∃ bv g, semF p (n + 5) false "best_way" [.loc t, .str nm] h = .ok bv (h ++ g) /\ g.length = 2 /\ BestIs (h ++ g) bv (bestOf T st nm) := by
  refine xEA (run_in (n := n + 4) (h := h) hp (as := [.loc t, .str nm]) [some (.loc t), some (.str nm), none, none, none] rfl rfl) fun F hF e1 => ?_
  refine xEA (best_step (n := n) (F := F) H hw ok so x hd hl (Tb.hm_in ok G (r := 0) (.inl rfl)) (nm := nm) (bv := .none) (b := none) (.inl ⟨rfl, rfl⟩) (v4 := none)) fun b1 s1 B1 => ?_
  refine xEA (best_step (n := n) (F := F) H hw ok so (x.more (g := [.list ((wayOf T.hm st (T.hm nm 0)).map sv)])) (get_old hd) hl (Tb.hm_in ok G (r := 1) (.inr rfl)) (nm := nm) B1 (v4 := some (.loc h.length))) fun b2 s2 B2 => ?_
  have f2 := for_two (put := put1 3) (body := fun l h => execSs (cF p (n + 4) F) b_best_way_1 l h) (src := .tup [sv (T.hm nm 0), sv (T.hm nm 1)]) (a := sv (T.hm nm 0)) (b := sv (T.hm nm 1)) (f := F) (l := [some (.loc t), some (.str nm), some .none, none, none]) rfl rfl s1 rfl rfl s2 rfl (by lia)
  refine ⟨b2, [.list ((wayOf T.hm st (T.hm nm 0)).map sv)] ++ [.list ((wayOf T.hm st (T.hm nm 1)).map sv)], ?_, rfl, ?_⟩
  . rw [e1, d_best_way, <- List.append_assoc]
    simp only [ss_cons, ss_nil, s_ret, s_asg, s_for, x_none, x_loc, x_im, xs_nil, xs_cons, List.set, loc0, locS, okO_some, bok, sok, turn_next, turn_ret, Bool.false_eq_true, if_false, retR_ret, if_true, x.meth (m := "homes") rfl, run_homes (n := n + 1) H.a H.d H.b H.g ok x G, Tb.homes, f2]
  . rw [<- List.append_assoc]; exact B2
theorem next_dn {a : Nat} {k : Nat} (ha : a <= 2000) : nextAt (.rng a 0 (-1)) k h = some (rngItems a 0 (-1))[k]? := next_of (if_pos ⟨.inr rfl, Nat.le_trans ha (by decide), by decide⟩)
theorem dn_length (a : Nat) : (rngItems a 0 (-1)).length = a := by
  unfold rngItems
  rw [List.length_map, List.length_range]
  show (if (-1 : Int) = 1 then _ else if (-1 : Int) = -1 then ((a : Int) - 0).toNat else 0) = a
  rw [if_neg (by decide), if_pos rfl]; lia
theorem dn_item {a k : Nat} {v : AV} (h : (rngItems a 0 (-1))[k]? = some v) : k < a /\ v = .int ((a - k : Nat) : Int) := by
  have hk := (List.getElem?_eq_some_iff.mp h).1
  rw [dn_length] at hk
  refine ⟨hk, ?_⟩
  unfold rngItems at h
  rw [List.getElem?_map, List.getElem?_range (by have := dn_length a; unfold rngItems at this; rw [List.length_map, List.length_range] at this; lia)] at h
  cases h
  exact congrArg AV.int (show (a : Int) + (-1) * (k : Int) = ((a - k : Nat) : Int) by lia)
theorem range_dn {a : Nat} (ha : a <= 2000) : rangeOf [.int a, .int 0, .int (-1)] = some (.rng a 0 (-1)) := by
  have : (-1 : Int) = -1 /\ (a : Int).natAbs <= sizeLim /\ (0 : Int).natAbs <= sizeLim := ⟨rfl, Nat.le_trans ha (by decide), by decide⟩
  exact if_pos this
theorem seat_sub {i : Nat} {w : List Seat} (hi : h[i]? = some (.list (w.map sv))) (hl : w.length <= 2000) {k : Nat} (hk : k < w.length) : subAV (.loc i) (.int k) h = .ok (sv (seatAt w k)) h :=
  sub_list (lim_le (by rw [List.length_map]; lia)) hi (by lia) (by rw [Int.toNat_natCast, List.getElem?_map, seat_at hk]; rfl)
inductive MovInv (h1 : AHeap) (t i : Nat) (nm : Nm) (ms : List Mv) (k : Nat) : Locs -> AHeap -> Prop
  | mk (v4 : Option AV) : MovInv h1 t i nm ms k [some (.loc t), some (.str nm), some (.loc i), some (.loc h1.length), v4] (h1 ++ [.list ((ms.take k).map mvAV)])
theorem run_moves (H : HasT p) (hw : Prog.has p "way" d_way) (hp : Prog.has p "best_way" d_best_way) (hp2 : Prog.has p "moves" d_moves) (ok : T.Ok) (so : StOk st) (x : TabAt h t T d e) {ep ep2 : Nat} (hd : h[d]? = some (.dict (stK st) ep)) (he : h[e]? = some (.dict (thK th) ep2)) (hl : st.length <= 1000) {nm : Nm} (G : Good nm) (hn : th.lookup nm = none) :
    (bestOf T st nm = none /\ ∃ g, semF p (n + 6) false "moves" [.loc t, .str nm] h = .exc "NoRoom" (h ++ g)) \/
    ∃ w g, bestOf T st nm = some w /\ semF p (n + 6) false "moves" [.loc t, .str nm] h = .ok (.loc (h.length + 2)) (h ++ g) /\ (h ++ g)[h.length + 2]? = some (.list ((movesOf st w).map mvAV)) := by
  refine xEA (run_in (n := n + 5) (h := h) hp2 (as := [.loc t, .str nm]) [some (.loc t), some (.str nm), none, none, none] rfl rfl) fun F hF e1 => ?_
  refine xEEAA (run_best_way (n := n) H hw hp ok so x hd hl G) fun bv g eb hg B => ?_
  rcases B with ⟨b0, rfl⟩ | ⟨w, i, b0, rfl, hi⟩
  . refine .inl ⟨b0, g, ?_⟩
    have e0 : (isNoneAV .none == true) = true := rfl
    rw [e1, d_moves]
    simp only [ss_cons, ss_nil, s_expr, s_ret, s_asg, s_iff, s_for, x_int, x_loc, x_bin, x_neg, x_cmp, x_isn, x_call, x_bi, x_im, x_attr, x_list, x_range, s_raise, xs_nil, xs_cons, List.set, loc0, locS, okO_some, bok, sok, turn_next, turn_exc, retR_exc, Bool.and_false, Bool.false_eq_true, if_false, boolO_some, negAV_int, cond_t, cond_f, if_true, run_need_name (n := n + 3) H.a H.d G, x.thg, th_in he, hn, Option.isSome_none, x.meth (m := "best_way") rfl, eb, e0]
  . refine xEAA (best_is b0) fun r hr W hop => ?_
    have hws := W.short
    have hpos := W.pos
    have hw1 : w.length - 1 <= 2000 := by lia
    have hw2 : w.length <= 2000 := by lia
    have e0 : (isNoneAV (.loc i) == true) = false := rfl
    have hgl : (h ++ g).length = h.length + 2 := by rw [List.length_append, hg]
    have x1 := x.more (g := g)
    have hd1 := get_old (g := g) hd
    generalize hh1 : h ++ g = h1 at hi x1 hd1 eb hgl
    obtain ⟨l', h', e2, I2⟩ := forLoop_all (i := 4) (src := .rng ((w.length - 1 : Nat) : Int) 0 (-1)) (items := rngItems ((w.length - 1 : Nat) : Int) 0 (-1)) (body := fun l h => execSs (cF p (n + 5) F) b_moves_1 l h)
      (MovInv h1 t i nm (movesOf st w)) (fun k l h' _ => next_dn hw1) (fun k v l h' hv hI => by
        cases hI
        refine xA (dn_item hv) fun hk qq1 => ?_; subst qq1
        obtain ⟨q, hq, hqk, hql⟩ := dn_at hk
        refine xEA (W.step q _ _ (seat_at (Nat.lt_of_succ_lt hql)) (seat_at hql)) fun m hm _ => ?_
        have hi' := get_old (g := [.list (((movesOf st w).take k).map mvAV)]) hi
        have hc : ((q + 1 : Nat) : Int) - 1 = (q : Int) := by lia
        have ha : bmAV .append (.loc h1.length) [.tup [.str m, sv (seatAt w q), sv (seatAt w (q + 1))]] (h1 ++ [.list (((movesOf st w).take k).map mvAV)]) = .ok .none (h1 ++ [.list (((movesOf st w).take (k + 1)).map mvAV)]) := by
          refine (append_ok get_new (lim_lt (by rw [List.length_map, List.length_take]; omega))).trans ?_
          rw [set_new]
          have hmv : (movesOf st w)[k]? = some (moveAt st w (q + 1)) := by
            unfold movesOf
            rw [List.getElem?_map, List.getElem?_range hk, <- hq]; rfl
          rw [List.take_add_one, hmv, Option.toList_some, List.map_append, List.map_cons, List.map_nil, mvAV, moveAt, Nat.add_sub_cancel, hm]; rfl
        rw [hq]
        refine ⟨_, _, ?_, MovInv.mk (some (.int ((q + 1 : Nat) : Int)))⟩
        simp only [b_moves_1, ss_cons, ss_nil, s_expr, x_int, x_loc, x_bin, x_bm, x_attr, x_sub, x_tup, xs_nil, xs_cons, List.set, loc0, locS, okO_some, bok, sok, turn_next, b_sub, if_true, tup3, bmOk_append get_new, x1.more.std, seat_sub hi' hw2 hql, hc, seat_sub hi' hw2 (Nat.lt_of_succ_lt hql), st_get (get_old hd1) hm, ha]) (f := F)
      (l := [some (.loc t), some (.str nm), some (.loc i), some (.loc h1.length), none]) (h := h1 ++ [.list []]) (by rw [dn_length]; lia) (MovInv.mk (h1 := h1) (ms := movesOf st w) (k := 0) none)
    cases I2 with
    | mk v4 =>
    have hfull : (movesOf st w).take (rngItems ((w.length - 1 : Nat) : Int) 0 (-1)).length = movesOf st w := by
      rw [dn_length]
      exact List.take_of_length_le (by unfold movesOf; rw [List.length_map, List.length_range]; exact Nat.le_refl _)
    rw [hfull, hgl] at e2
    refine .inr ⟨w, g ++ [.list ((movesOf st w).map mvAV)], b0, ?_, ?_⟩
    . have hc : ((w.length : Nat) : Int) - 1 = ((w.length - 1 : Nat) : Int) := by lia
      rw [e1, d_moves, <- List.append_assoc, hh1]
      simp only [ss_cons, ss_nil, s_expr, s_ret, s_asg, s_iff, s_for, x_int, x_loc, x_bin, x_neg, x_cmp, x_isn, x_call, x_bi, x_im, x_attr, x_list, x_range, s_raise, xs_nil, xs_cons, List.set, loc0, locS, okO_some, bok, sok, turn_next, turn_ret, turn_exc, Bool.and_false, Bool.false_eq_true, if_false, boolO_some, negAV_int, retR_ret, cond_f, b_sub, if_true, run_need_name (n := n + 3) H.a H.d G, x.thg, th_in he, hn, Option.isSome_none, x.meth (m := "best_way") rfl, eb, e0, newList_ok (vs := []) (by show 0 <= _; exact Nat.zero_le _), len_seats (get_old hi), hc, range_dn hw1, e2, hgl]
    . rw [<- List.append_assoc, hh1, <- hgl]; exact get_new
end
end
section
open PySem Cu
noncomputable def b_put_1 : Ss :=
  (.cons (.setitem (.attr "standing" (.loc 0)) (.loc 7) (.loc 5))
  .nil)
noncomputable def d_put : FDef := ⟨3, 8,
  (.cons (.expr (.call "need_name" (.cons (.loc 1) .nil)))
  (.cons (.expr (.call "need_value" (.cons (.loc 2) .nil)))
  (.cons (.iff (.cmp .isin (.loc 1) (.attr "things" (.loc 0)))
    (.cons (.setitem (.attr "things" (.loc 0)) (.loc 1) (.loc 2))
    (.cons (.ret (.list .nil))
    .nil))
    .nil)
  (.cons (.asg 3 (.im "moves" (.loc 0) (.cons (.loc 1) .nil)))
  (.cons (.asg 4 (.im "best_way" (.loc 0) (.cons (.loc 1) .nil)))
  (.cons (.fort [5, 6, 7] (.loc 3) b_put_1)
  (.cons (.setitem (.attr "standing" (.loc 0)) (.sub (.loc 4) (.int 0)) (.loc 1))
  (.cons (.setitem (.attr "things" (.loc 0)) (.loc 1) (.loc 2))
  (.cons (.ret (.loc 3))
  .nil)))))))))⟩
noncomputable def d_need_there : FDef := ⟨2, 2,
  (.cons (.iff (.or (.not (.isi (.loc 1) .str)) (.cmp .notin (.loc 1) (.attr "things" (.loc 0))))
    (.cons (.raise "Unknown")
    .nil)
    .nil)
  .nil)⟩
noncomputable def d_take_out : FDef := ⟨2, 3,
  (.cons (.asg 2 (.im "where" (.loc 0) (.cons (.loc 1) .nil)))
  (.cons (.expr (.bm .pop (.attr "standing" (.loc 0)) (.cons (.loc 2) .nil)))
  (.cons (.ret (.bm .pop (.attr "things" (.loc 0)) (.cons (.loc 1) .nil)))
  .nil)))⟩
noncomputable def d_where : FDef := ⟨2, 4,
  (.cons (.expr (.im "need_there" (.loc 0) (.cons (.loc 1) .nil)))
  (.cons (.asgt [2, 3] (.im "homes" (.loc 0) (.cons (.loc 1) .nil)))
  (.cons (.iff (.cmp .eq (.bm .get (.attr "standing" (.loc 0)) (.cons (.loc 2) .nil)) (.loc 1))
    (.cons (.ret (.loc 2))
    .nil)
    .nil)
  (.cons (.ret (.loc 3))
  .nil))))⟩
structure Kp (X : List Nat) (h h' : AHeap) : Prop where
  len : h.length <= h'.length
  old : ∀ i o, i ∉ X -> h[i]? = some o -> h'[i]? = some o
section
variable {X : List Nat} {h h' h'' : AHeap}
theorem Kp.refl : Kp X h h := ⟨Nat.le_refl _, fun _ _ _ e => e⟩
theorem Kp.app {g : AHeap} : Kp X h (h ++ g) := ⟨by rw [List.length_append]; lia, fun _ _ _ e => get_old e⟩
theorem Kp.set {j : Nat} {o : AObj} (hj : j ∈ X) : Kp X h (h.set j o) := ⟨by rw [List.length_set]; exact Nat.le_refl _, fun i x hi e => get_other e fun q => hi (q ▸ hj)⟩
theorem Kp.trans (a : Kp X h h') (b : Kp X h' h'') : Kp X h h'' := ⟨Nat.le_trans a.len b.len, fun i o hi e => b.old i o hi (a.old i o hi e)⟩
theorem Kp.wide {Y : List Nat} (a : Kp X h h') (s : ∀ x ∈ X, x ∈ Y) : Kp Y h h' := ⟨a.len, fun i o hi e => a.old i o (fun q => hi (s i q)) e⟩
end
noncomputable def isNs : AObj -> Bool
  | .inst _ => true
  | .ns _ => true
  | _ => false
section
variable {p : Prog} {n : Nat} {h h' : AHeap} {t d e : Nat} {T : Tb} {st : St'} {th : Th} {X : List Nat}
theorem TabAt.kp (x : TabAt h t T d e) (k : Kp X h h') (hX : ∀ j ∈ X, ∃ o, h[j]? = some o /\ isNs o = false) : TabAt h' t T d e := by
  refine xEA x.inst fun m h1 h2 => ?_
  refine ⟨m, k.old _ _ (fun q => ?_) h1, k.old _ _ (fun q => ?_) h2⟩
  . refine xEA (hX _ q) fun o ho hn => ?_; rw [h1] at ho; cases ho; cases hn
  . refine xEA (hX _ q) fun o ho hn => ?_; rw [h2] at ho; cases ho; cases hn
theorem st_put {j ep : Nat} {s : Seat} {nm : Nm} (hj : h[j]? = some (.dict (stK st) ep)) (hl : st.length < sizeLim) : ∃ ep', setItemAV (.loc j) (sv s) (.str nm) h = some (h.set j (.dict (stK (put st s nm)) ep')) := by
  refine xE (set_dict (v := .str nm) hj (sv_key s) stK_sort (by rw [stK, mk_length]; exact hl)) fun ep' e => ?_
  rw [stK_put] at e
  exact ⟨ep', e⟩
theorem th_put {j ep : Nat} {nm : Nm} {v : Int} (hj : h[j]? = some (.dict (thK th) ep)) (hl : th.length < sizeLim) : ∃ ep', setItemAV (.loc j) (.str nm) (.int v) h = some (h.set j (.dict (thK (put th nm v)) ep')) := by
  refine xE (set_dict (v := .int v) hj (str_key nm) thK_sort (by rw [thK, mk_length]; exact hl)) fun ep' e => ?_
  rw [thK_put] at e
  exact ⟨ep', e⟩
theorem set_same {j : Nat} {o : AObj} (hj : h[j]? = some o) : h.set j o = h := by
  refine xE (List.getElem?_eq_some_iff.mp hj) fun h1 h2 => ?_
  subst h2
  exact List.set_getElem_self h1
theorem move_next {m : Mv} {a b c f g v5 v6 v7 : Option AV} : puts [5, 6, 7] [a, b, c, f, g, v5, v6, v7] (mvAV m) = some [a, b, c, f, g, some (.str m.1), some (sv m.2.1), some (sv m.2.2)] := rfl
structure HasP (p : Prog) : Prop extends HasT p where
  way : Prog.has p "way" d_way
  best : Prog.has p "best_way" d_best_way
  moves : Prog.has p "moves" d_moves
  put : Prog.has p "put" d_put
  need : Prog.has p "need_there" d_need_there
  take : Prog.has p "take_out" d_take_out
  wher : Prog.has p "where" d_where
inductive PutInv (h : AHeap) (t d i : Nat) (st : St') (w : List Seat) (a2 a3 a5 : AV) (k : Nat) : Locs -> AHeap -> Prop
  | mk (T' : St') (ep' : Nat) (v5 v6 v7 : Option AV) (M : Mid st w (w.length - 1 - k) T') (hl : T'.length <= st.length + k) : PutInv h t d i st w a2 a3 a5 k [some (.loc t), some a2, some a3, some (.loc i), some a5, v5, v6, v7] (h.set d (.dict (stK T') ep'))
theorem put_loop {s0 : Seat} {w : List Seat} (W : Way T.hm st s0 w) (nd : (st.map (·.1)).Nodup) (x : TabAt h t T d e) {ep : Nat} (hd : h[d]? = some (.dict (stK st) ep)) (hl : st.length <= 1000) {i : Nat} (hi : h[i]? = some (.list ((movesOf st w).map mvAV))) {a2 a3 a5 : AV} {F : Nat} (hF : 50000 <= F) :
    ∃ l' h', forLoop (puts [5, 6, 7]) (fun l h => execSs (cF p (n + 6) F) b_put_1 l h) (.loc i) F 0 [some (.loc t), some a2, some a3, some (.loc i), some a5, none, none, none] h = .ok .next l' h' /\ PutInv h t d i st w a2 a3 a5 (w.length - 1) l' h' := by
  have hws := W.short
  have hpos := W.pos
  have hdi : d ≠ i := by rintro rfl; rw [hd] at hi; cases hi
  have hml : ((movesOf st w).map mvAV).length = w.length - 1 := by rw [List.length_map, movesOf, List.length_map, List.length_range]
  have := forLoop_put (put := puts [5, 6, 7]) (src := .loc i) (items := (movesOf st w).map mvAV) (body := fun l h => execSs (cF p (n + 6) F) b_put_1 l h)
    (PutInv h t d i st w a2 a3 a5) (fun k l h' hI => by cases hI; exact next_list (get_other hi hdi)) (fun k v l h' hv hI => by
      cases hI with
      | mk T' ep' v5 v6 v7 M hTl =>
      have hk := (List.getElem?_eq_some_iff.mp hv).1
      rw [hml] at hk
      have hmv : (movesOf st w)[k]? = some (moveAt st w (w.length - 1 - k)) := by
        unfold movesOf
        rw [List.getElem?_map, List.getElem?_range hk]; rfl
      rw [List.getElem?_map, hmv] at hv
      cases hv
      refine ⟨_, move_next, ?_⟩
      obtain ⟨q, hq, hqk, hql⟩ := dn_at hk
      have h1 : w[q]? = some (seatAt w q) := seat_at (Nat.lt_of_succ_lt hql)
      have h2 : w[q + 1]? = some (seatAt w (q + 1)) := seat_at hql
      refine xEA (W.step q _ _ h1 h2) fun m hm _ => ?_
      have hmo : (moveAt st w (q + 1)) = (m, seatAt w q, seatAt w (q + 1)) := by rw [moveAt, Nat.add_sub_cancel, hm]; rfl
      rw [hq, hmo]
      have x' := TabAt.kp (X := [d]) (h' := h.set d (.dict (stK T') ep')) x (Kp.set List.mem_cons_self) (fun j hj => by rcases List.mem_singleton.mp hj with rfl; exact ⟨_, hd, rfl⟩)
      have hTs : T'.length < sizeLim := lim_lt (by lia)
      refine xE (st_put (s := seatAt w (q + 1)) (nm := m) (get_set (o' := .dict (stK T') ep') hd) hTs) fun ep2 hs => ?_
      rw [List.set_set] at hs
      rw [hq] at M
      refine ⟨_, _, ?_, PutInv.mk (put T' (seatAt w (q + 1)) m) ep2 (some (.str m)) (some (sv (seatAt w q))) (some (sv (seatAt w (q + 1)))) ?_ ?_⟩
      . simp only [b_put_1, ss_cons, ss_nil, s_expr, s_ret, s_asg, s_set, s_iff, s_whil, s_for, s_seta, x_none, x_bool, x_int, x_str, x_loc, x_bin, x_neg, x_not, x_and, x_or, x_cmp, x_cmp2, x_isn, x_call, x_bi, x_isi, x_new, x_im, x_bm, x_attr, x_slice, x_sub, x_tup, x_list, x_dict0, x_range, x_comp, s_fort, s_asgt, s_raise, xs_nil, xs_cons, List.map_cons, List.map_nil, List.cons_append, List.nil_append, List.replicate, List.set, loc0, locS, okO_some, bok, sok, turn_next, turn_ret, turn_exc, turn_cont, lap_next, lap_cont, lap_ret, lap_exc, bexc, sexc, retR_exc, nx_ok, nx_s, Bool.and_false, Bool.false_eq_true, if_false, boolO_some, heapO_some, notAV_bool, negAV_int, retR_ret, retR_next, cond_t, cond_f, condV_t, condV_f, cmpAnd_t, cmpAnd_f, b_add, b_sub, Bool.not_true, Bool.not_false, if_true, tup2, tup3, decide_true, decide_false, x'.std, hs]
      . rw [hqk]
        exact M.step W h1 h2 hm
      . have := put_length (t := T') (a := seatAt w (q + 1)) (b := m)
        split at this <;> lia) (f := F)
    (l := [some (.loc t), some a2, some a3, some (.loc i), some a5, none, none, none]) (h := h) (by lia) (by
      have := PutInv.mk (h := h) (t := t) (d := d) (i := i) (st := st) (w := w) (a2 := a2) (a3 := a3) (a5 := a5) (k := 0) st ep none none none (Mid.start nd) (Nat.le_refl _)
      rwa [set_same hd] at this)
  rw [hml] at this
  exact this
structure Sit (h : AHeap) (t d e : Nat) (T : Tb) (st : St') (th : Th) : Prop where
  ok : T.Ok
  tab : TabAt h t T d e
  fd : ∃ ep, h[d]? = some (.dict (stK st) ep)
  fe : ∃ ep, h[e]? = some (.dict (thK th) ep)
  ne : d ≠ e
  ord : Ord T st th
  len : st.length < 64
theorem Sit.kp (S : Sit h t d e T st th) {X : List Nat} (k : Kp X h h') (hX : ∀ j ∈ X, ∃ o, h[j]? = some o /\ isNs o = false) (hd : d ∉ X) (he : e ∉ X) : Sit h' t d e T st th :=
  ⟨S.ok, S.tab.kp k hX, S.fd.imp fun _ q => k.old _ _ hd q, S.fe.imp fun _ q => k.old _ _ he q, S.ne, S.ord, S.len⟩
theorem Sit.more {g : AHeap} (S : Sit h t d e T st th) : Sit (h ++ g) t d e T st th := S.kp (X := []) Kp.app (fun j hj => nomatch hj) (fun q => nomatch q) (fun q => nomatch q)
inductive PutRes (h : AHeap) (t d e : Nat) (T : Tb) (st : St') (th : Th) (nm : Nm) (v : Int) : Res AV -> Prop
  | no (g : AHeap) (hb : bestOf T st nm = none) : PutRes h t d e T st th nm v (.exc "NoRoom" (h ++ g))
  | yes (h' : AHeap) (st' : St') (w : List Seat) (i : Nat) (hb : bestOf T st nm = some w) (S : Sit h' t d e T st' (put th nm v)) (k : Kp [d, e] h h') : PutRes h t d e T st th nm v (.ok (.loc i) h')
theorem run_put (H : HasP p) (S : Sit h t d e T st th) {nm : Nm} (G : Good nm) {v : Int} (v1 : -1000000000 <= v) (v2 : v <= 1000000000) (hn : th.lookup nm = none) (hl : st.length < 63) :
    PutRes h t d e T st th nm v (semF p (n + 7) false "put" [.loc t, .str nm, .int v] h) := by
  obtain ⟨ok, x, ⟨ep1, hd⟩, ⟨ep2, he⟩, hde, O, _⟩ := S
  refine xEA (run_in (n := n + 6) (h := h) H.put (as := [.loc t, .str nm, .int v]) [some (.loc t), some (.str nm), some (.int v), none, none, none, none, none] rfl rfl) fun F hF e1 => ?_
  have hlt := O.len
  have hl' : st.length <= 1000 := by lia
  rcases run_moves (n := n) H.toHasT H.way H.best H.moves ok O.so x hd he hl' G hn with ⟨b0, g, em⟩ | ⟨w, g, b0, em, hi⟩
  . have : semF p (n + 7) false "put" [.loc t, .str nm, .int v] h = .exc "NoRoom" (h ++ g) := by
      rw [e1, d_put]
      exact fin_exc ((ss_step (st_expr (ev_call rfl (run_need_name (n := n + 4) H.a H.d G)))).trans ((ss_step (st_expr (ev_call rfl (run_need_value (n := n + 4) H.c H.f v1 v2)))).trans ((ss_step (st_f (ev_cmp rfl (ev_attr rfl x.thg) ((th_in he).trans (by rw [hn]; rfl))) rfl)).trans (ss_exc (st_asg_x (ev_im rfl (x.meth rfl) rfl em))))))
    rw [this]
    exact .no g b0
  . refine xEAA (best_is b0) fun r hr W hop => ?_
    have x1 := x.more (g := g)
    have hd1 := get_old (g := g) hd
    have he1 := get_old (g := g) he
    have k1 : Kp [d, e] h (h ++ g) := Kp.app
    generalize h ++ g = h1 at em hi x1 hd1 he1 k1
    refine xEEAA (run_best_way (n := n + 1) H.toHasT H.way H.best ok O.so x1 hd1 hl' G) fun bv g2 eb _ B => ?_
    rw [b0] at B
    rcases B with ⟨b1, _⟩ | ⟨w', b, b1, rfl, hb⟩
    . cases b1
    . cases b1
      have x2 := x1.more (g := g2)
      have hd2 := get_old (g := g2) hd1
      have he2 := get_old (g := g2) he1
      have hi2 := get_old (g := g2) hi
      have k2 : Kp [d, e] h (h1 ++ g2) := k1.trans Kp.app
      generalize h1 ++ g2 = h2 at eb hb x2 hd2 he2 hi2 k2
      have hws := W.short
      refine xEEA (put_loop (p := p) (n := n) (F := F) W O.nd x2 hd2 hl' hi2 (a2 := .str nm) (a3 := .int v) (a5 := .loc b) hF) fun l3 h3 e3 I3 => ?_
      cases I3 with
      | mk T' ep' v5 v6 v7 M hTl =>
      rw [Nat.sub_self] at M
      have x3 := TabAt.kp (X := [d]) (h' := h2.set d (.dict (stK T') ep')) x2 (Kp.set List.mem_cons_self) (fun j hj => by rcases List.mem_singleton.mp hj with rfl; exact ⟨_, hd2, rfl⟩)
      refine xE (st_put (s := T.hm nm r) (nm := nm) (get_set (o' := .dict (stK T') ep') hd2) (lim_lt (by lia))) fun ep3 hs => ?_
      rw [List.set_set] at hs
      have hdb : d ≠ b := by rintro rfl; rw [hd2] at hb; cases hb
      have hb0 : subAV (.loc b) (.int 0) (h2.set d (.dict (stK T') ep')) = .ok (sv (T.hm nm r)) (h2.set d (.dict (stK T') ep')) := by
        have := seat_sub (get_other (o' := .dict (stK T') ep') hb hdb) (show w.length <= 2000 by lia) (k := 0) W.pos
        have e0 : seatAt w 0 = T.hm nm r := by have q := W.head; rw [seat_at W.pos] at q; exact Option.some.inj q
        rw [e0] at this
        exact this
      have x4 := TabAt.kp (X := [d]) (h' := h2.set d (.dict (stK (put T' (T.hm nm r) nm)) ep3)) x2 (Kp.set List.mem_cons_self) (fun j hj => by rcases List.mem_singleton.mp hj with rfl; exact ⟨_, hd2, rfl⟩)
      have he3 := get_other (o' := .dict (stK (put T' (T.hm nm r) nm)) ep3) he2 hde
      refine xE (th_put (nm := nm) (v := v) he3 (lim_lt (by lia))) fun ep4 hs2 => ?_
      have x5 := TabAt.kp (X := [e]) (h' := (h2.set d (.dict (stK (put T' (T.hm nm r) nm)) ep3)).set e (.dict (thK (put th nm v)) ep4)) x4 (Kp.set List.mem_cons_self) (fun j hj => by rcases List.mem_singleton.mp hj with rfl; exact ⟨_, he3, rfl⟩)
      have : semF p (n + 7) false "put" [.loc t, .str nm, .int v] h = .ok (.loc (h.length + 2)) ((h2.set d (.dict (stK (put T' (T.hm nm r) nm)) ep3)).set e (.dict (thK (put th nm v)) ep4)) := by
        rw [e1, d_put]
        exact fin_ret ((ss_step (st_expr (ev_call rfl (run_need_name (n := n + 4) H.a H.d G)))).trans ((ss_step (st_expr (ev_call rfl (run_need_value (n := n + 4) H.c H.f v1 v2)))).trans ((ss_step (st_f (ev_cmp rfl (ev_attr rfl x.thg) ((th_in he).trans (by rw [hn]; rfl))) rfl)).trans ((ss_step (st_asg (ev_im rfl (x.meth rfl) rfl em))).trans ((ss_step (st_asg (ev_im rfl (x1.meth rfl) rfl eb))).trans ((ss_step (st_fort rfl rfl e3)).trans ((ss_step (st_set rfl (ev_attr rfl x3.std) (ev_sub rfl rfl hb0) hs)).trans ((ss_step (st_set rfl (ev_attr rfl x4.thg) rfl hs2)).trans (ss_last (st_ret rfl))))))))))
      rw [this]
      have O' := O.done (v := v) G hn hr W hop M
      have hpl := put_length (t := th) (a := nm) (b := v)
      rw [if_neg (lookup_none.mp hn)] at hpl
      exact .yes _ _ w _ b0 ⟨ok, x5, ⟨ep3, get_other (get_set hd2) hde.symm⟩, ⟨ep4, get_set he3⟩, hde, O', by rw [O'.len, hpl]; lia⟩ ((k2.trans (Kp.set (by simp))).trans (Kp.set (by simp)))
end
end
section
open PySem Cu
section
variable {p : Prog} {n : Nat} {h h' : AHeap} {t d e : Nat} {T : Tb} {st : St'} {th : Th}
theorem mk_drop {α β : Type} [DecidableEq α] [BEq α] [LawfulBEq α] {kf : α -> Key} {vf : β -> AV} (inj : ∀ a b, kf a = kf b -> a = b) {t : List (α × β)} {a : α} : dropKey (mk kf vf t) (kf a) = mk kf vf (drop t a) := by
  have hb : ∀ x : α, (kf x == kf a) = (x == a) := fun x => by
    by_cases h : x = a
    . subst h; simp
    . rw [beq_eq_false_iff_ne.mpr h, beq_eq_false_iff_ne.mpr fun e => h (inj _ _ e)]
  unfold dropKey drop mk
  rw [List.filter_map]
  congr 2
  funext p
  simp only [Function.comp, hb]
theorem bmOk_pop {i ep : Nat} {kvs : List (Key × AV)} (hd : h[i]? = some (.dict kvs ep)) : bmOk .pop (.loc i) h = true := by
  show (dictAt h i).isSome = true
  rw [dictAt_of hd]; rfl
theorem pop_dict {i ep : Nat} {kvs : List (Key × AV)} {kv v : AV} {k : Key} (hd : h[i]? = some (.dict kvs ep)) (hk : kv.key? = some k) (hs : sortOk kvs k = true) (hv : kvs.lookup k = some v) : bmAV .pop (.loc i) [kv] h = .ok v (h.set i (.dict (dropKey kvs k) (ep + 1))) := by
  show popAV (.loc i) [kv] h = _
  delta popAV; dsimp only
  rw [dictAt_of hd]
  show popD h i kvs ep kv.key? = _
  rw [hk]
  delta popD; dsimp only
  rw [if_pos hs, hv]
theorem st_pop {i ep : Nat} {s : Seat} {m : Nm} (hd : h[i]? = some (.dict (stK st) ep)) (hs : st.lookup s = some m) : bmAV .pop (.loc i) [sv s] h = .ok (.str m) (h.set i (.dict (stK (drop st s)) (ep + 1))) := by
  have := pop_dict hd (sv_key s) stK_sort (v := .str m) (by rw [stK_at, hs]; rfl)
  rwa [stK, mk_drop kp_inj] at this
theorem th_pop {i ep : Nat} {nm : Nm} {v : Int} (hd : h[i]? = some (.dict (thK th) ep)) (hs : th.lookup nm = some v) : bmAV .pop (.loc i) [.str nm] h = .ok (.int v) (h.set i (.dict (thK (drop th nm)) (ep + 1))) := by
  have := pop_dict hd (str_key nm) thK_sort (v := .int v) (by rw [thK_at, hs]; rfl)
  rwa [thK, mk_drop ks_inj] at this
theorem eq_optS {o : Option Nm} {nm : Nm} : cmpAV h .eq (optS o) (.str nm) = some (decide (o = some nm)) := by
  rcases o with _ | x
  case none => rfl
  case some =>
    show some (decide (x = nm)) = _
    by_cases q : x = nm
    . subst q; rw [decide_eq_true rfl, decide_eq_true rfl]
    . rw [decide_eq_false q, decide_eq_false fun r => q (Option.some.inj r)]
theorem run_need_there (hp : Prog.has p "need_there" d_need_there) (x : TabAt h t T d e) {ep2 : Nat} (he : h[e]? = some (.dict (thK th) ep2)) {nm : Nm} : semF p (n + 1) false "need_there" [.loc t, .str nm] h = if (th.lookup nm).isSome then .ok .none h else .exc "Unknown" h := by
  refine xEA (run_at (n := n) (h := h) hp (as := [.loc t, .str nm]) rfl) fun F hF e1 => ?_
  have t1 : ∀ h, isTy h (.str nm) .str = some true := fun _ => rfl
  rw [e1, d_need_there]
  rcases hn : th.lookup nm with _ | v
  case none => simp only [ss_cons, ss_nil, s_iff, x_loc, x_not, x_or, x_cmp, x_isi, x_attr, s_raise, List.map_cons, List.map_nil, List.cons_append, List.nil_append, loc0, locS, okO_some, bok, sok, turn_exc, retR_exc, Bool.false_eq_true, if_false, boolO_some, notAV_bool, cond_t, condV_f, Bool.not_true, Bool.not_false, t1, x.thg, th_notin he, hn, Option.isSome_none]
  case some => simp only [ss_cons, ss_nil, s_iff, x_loc, x_not, x_or, x_cmp, x_isi, x_attr, s_raise, List.map_cons, List.map_nil, List.cons_append, List.nil_append, loc0, locS, okO_some, bok, sok, turn_next, turn_exc, Bool.false_eq_true, if_false, boolO_some, notAV_bool, retR_next, cond_f, condV_f, Bool.not_true, if_true, t1, x.thg, th_notin he, hn, Option.isSome_some]
noncomputable def whereOf (T : Tb) (st : St') (nm : Nm) : Seat := if st.lookup (T.hm nm 0) = some nm then T.hm nm 0 else T.hm nm 1
theorem Ord.stands (O : Ord T st th) {nm : Nm} (h : (th.lookup nm).isSome = true) : st.lookup (whereOf T st nm) = some nm := by
  refine xE ((O.there nm).mpr h) fun s hs => ?_
  unfold whereOf
  split
  . assumption
  . rename_i q
    refine xAA (O.home s nm hs) fun _ row e => ?_
    rcases row with r | r
    . rw [r] at e; rw [e] at hs; exact absurd hs q
    . rw [r] at e; rw [<- e]; exact hs
theorem run_where (H : HasP p) (ok : T.Ok) (O : Ord T st th) (x : TabAt h t T d e) {ep1 ep2 : Nat} (hd : h[d]? = some (.dict (stK st) ep1)) (he : h[e]? = some (.dict (thK th) ep2)) {nm : Nm} (G : Good nm) :
    semF p (n + 4) false "where" [.loc t, .str nm] h = if (th.lookup nm).isSome then .ok (sv (whereOf T st nm)) h else .exc "Unknown" h := by
  refine xEA (run_in (n := n + 3) (h := h) H.wher (as := [.loc t, .str nm]) [some (.loc t), some (.str nm), none, none] rfl rfl) fun F hF e1 => ?_
  have en := run_need_there (n := n + 2) H.need x he (nm := nm)
  rw [e1, d_where]
  rcases hn : th.lookup nm with _ | v
  case none =>
    rw [hn] at en
    simp only [Option.isSome_none, Bool.false_eq_true, if_false] at en
    simp only [ss_cons, ss_nil, s_expr, s_ret, s_iff, x_loc, x_cmp, x_im, x_bm, x_attr, s_asgt, xs_nil, xs_cons, loc0, locS, okO_some, bok, turn_exc, sexc, retR_exc, Bool.false_eq_true, if_false, if_true, x.meth (m := "need_there") rfl, en, Option.isSome_none]
  case some =>
    rw [hn] at en
    simp only [Option.isSome_some, if_true] at en
    have pu : puts [2, 3] [some (.loc t), some (.str nm), none, none] (T.homes nm) = some [some (.loc t), some (.str nm), some (sv (T.hm nm 0)), some (sv (T.hm nm 1))] := rfl
    have lo : ∀ l : Locs, locsO (some l) h = .ok .next l h := fun _ => rfl
    unfold whereOf
    by_cases q : st.lookup (T.hm nm 0) = some nm
    . simp only [ss_cons, ss_nil, s_expr, s_ret, s_iff, x_loc, x_cmp, x_im, x_bm, x_attr, s_asgt, xs_nil, xs_cons, loc0, locS, okO_some, bok, sok, turn_next, turn_ret, Bool.false_eq_true, if_false, boolO_some, retR_ret, cond_t, if_true, decide_true, x.meth (m := "need_there") rfl, en, x.meth (m := "homes") rfl, run_homes (n := n) H.a H.d H.b H.g ok x G, pu, lo, x.std, bmOk_get hd, get_st hd, eq_optS, q, Option.isSome_some]
    . simp only [ss_cons, ss_nil, s_expr, s_ret, s_iff, x_loc, x_cmp, x_im, x_bm, x_attr, s_asgt, xs_nil, xs_cons, loc0, locS, okO_some, bok, sok, turn_next, turn_ret, Bool.false_eq_true, if_false, boolO_some, retR_ret, cond_f, if_true, decide_false, x.meth (m := "need_there") rfl, en, x.meth (m := "homes") rfl, run_homes (n := n) H.a H.d H.b H.g ok x G, pu, lo, x.std, bmOk_get hd, get_st hd, eq_optS, q, Option.isSome_some]
theorem run_take_no (H : HasP p) (S : Sit h t d e T st th) {nm : Nm} (G : Good nm) (hn : th.lookup nm = none) :
    semF p (n + 5) false "take_out" [.loc t, .str nm] h = .exc "Unknown" h := by
  obtain ⟨ok, x, ⟨ep1, hd⟩, ⟨ep2, he⟩, hde, O, _⟩ := S
  refine xEA (run_in (n := n + 4) (h := h) H.take (as := [.loc t, .str nm]) [some (.loc t), some (.str nm), none] rfl rfl) fun F hF e1 => ?_
  have ew := run_where (n := n) H ok O x hd he G
  rw [hn] at ew
  rw [e1, d_take_out, ss_exc (st_asg_x (ev_im rfl (x.meth rfl) rfl ew))]; rfl
theorem Sit.takes (S : Sit h t d e T st th) {nm : Nm} (hn : (th.lookup nm).isSome = true) {k1 k2 : Nat} : Sit ((h.set d (.dict (stK (drop st (whereOf T st nm))) k1)).set e (.dict (thK (drop th nm)) k2)) t d e T (drop st (whereOf T st nm)) (drop th nm) := by
  obtain ⟨ok, x, ⟨ep1, hd⟩, ⟨ep2, he⟩, hde, O, hl⟩ := S
  have x' := TabAt.kp (X := [d]) (h' := h.set d (.dict (stK (drop st (whereOf T st nm))) k1)) x (Kp.set List.mem_cons_self) (fun j hj => by rcases List.mem_singleton.mp hj with rfl; exact ⟨_, hd, rfl⟩)
  have he' := get_other (o' := .dict (stK (drop st (whereOf T st nm))) k1) he hde
  exact ⟨ok, x'.kp (X := [e]) (Kp.set List.mem_cons_self) (fun j hj => by rcases List.mem_singleton.mp hj with rfl; exact ⟨_, he', rfl⟩), ⟨_, get_other (get_set hd) hde.symm⟩, ⟨_, get_set he'⟩, hde, O.drop (O.stands hn), Nat.lt_of_le_of_lt (List.length_filter_le ..) hl⟩
theorem run_take_out (H : HasP p) (S : Sit h t d e T st th) {nm : Nm} (G : Good nm) {v : Int} (hn : th.lookup nm = some v) :
    ∃ h', semF p (n + 5) false "take_out" [.loc t, .str nm] h = .ok (.int v) h' /\ Kp [d, e] h h' /\ Sit h' t d e T (drop st (whereOf T st nm)) (drop th nm) := by
  have S' := fun k1 k2 => S.takes (nm := nm) (by rw [hn]; rfl) (k1 := k1) (k2 := k2)
  obtain ⟨ok, x, ⟨ep1, hd⟩, ⟨ep2, he⟩, hde, O, _⟩ := S
  refine xEA (run_in (n := n + 4) (h := h) H.take (as := [.loc t, .str nm]) [some (.loc t), some (.str nm), none] rfl rfl) fun F hF e1 => ?_
  have ew := run_where (n := n) H ok O x hd he G
  have hst := O.stands (nm := nm) (by rw [hn]; rfl)
  rw [hn] at ew
  simp only [Option.isSome_some, if_true] at ew
  have x' := TabAt.kp (X := [d]) (h' := h.set d (.dict (stK (drop st (whereOf T st nm))) (ep1 + 1))) x (Kp.set List.mem_cons_self) (fun j hj => by rcases List.mem_singleton.mp hj with rfl; exact ⟨_, hd, rfl⟩)
  have he' := get_other (o' := .dict (stK (drop st (whereOf T st nm))) (ep1 + 1)) he hde
  refine ⟨(h.set d (.dict (stK (drop st (whereOf T st nm))) (ep1 + 1))).set e (.dict (thK (drop th nm)) (ep2 + 1)), ?_, (Kp.set (by simp)).trans (Kp.set (by simp)), S' _ _⟩
  rw [e1, d_take_out]
  simp only [ss_cons, ss_nil, s_expr, s_ret, s_asg, x_loc, x_im, x_bm, x_attr, xs_nil, xs_cons, List.set, loc0, locS, okO_some, bok, sok, turn_next, turn_ret, retR_ret, if_true, x.meth (m := "where") rfl, ew, x.std, bmOk_pop hd, st_pop hd hst, x'.thg, bmOk_pop he', th_pop he' hn]
end
end
section
open PySem Cu
noncomputable def addN (C : List Seat) (s : Seat) : List Seat := if s ∈ C then C else C ++ [s]
noncomputable def uni (w : List Seat) : List Seat := w.foldl addN []
theorem add_mem {C : List Seat} {s x : Seat} : x ∈ addN C s ↔ x ∈ C \/ x = s := by
  unfold addN
  by_cases h : s ∈ C
  . rw [if_pos h]
    exact ⟨.inl, fun q => q.elim id fun e => e ▸ h⟩
  . rw [if_neg h, List.mem_append, List.mem_singleton]
theorem add_nd {C : List Seat} {s : Seat} (nd : C.Nodup) : (addN C s).Nodup := by
  unfold addN
  by_cases h : s ∈ C
  . rw [if_pos h]; exact nd
  . rw [if_neg h, List.nodup_append]
    refine ⟨nd, List.pairwise_singleton _ _, fun x hx y hy e => ?_⟩
    rw [e, List.mem_singleton.mp hy] at hx
    exact h hx
theorem fold_nd : ∀ {w C : List Seat}, C.Nodup -> (w.foldl addN C).Nodup
  | [], _, nd => nd
  | _ :: w, _, nd => fold_nd (w := w) (add_nd nd)
theorem fold_mem {x : Seat} : ∀ {w C : List Seat}, x ∈ w.foldl addN C ↔ x ∈ C \/ x ∈ w
  | [], _ => ⟨.inl, fun q => q.elim id fun q => nomatch q⟩
  | s :: w, C => by
    rw [List.foldl_cons, fold_mem, add_mem, List.mem_cons, or_assoc]
theorem uni_nd {w : List Seat} : (uni w).Nodup := fold_nd List.nodup_nil
theorem uni_mem {w : List Seat} {x : Seat} : x ∈ uni w ↔ x ∈ w := by
  unfold uni
  rw [fold_mem]
  exact ⟨fun q => q.elim (fun q => nomatch q) id, .inr⟩
section
variable {β γ : Type} [DecidableEq β] [DecidableEq γ] {hm : β -> Int -> Seat} {hm' : γ -> Int -> Seat} {t : List (Seat × β)} {t' : List (Seat × γ)} {b : β} {C : List Seat}
structure Shut (hm : β -> Int -> Seat) (t : List (Seat × β)) (b : β) (C : List Seat) : Prop where
  nd : C.Nodup
  all : ∀ s ∈ C, ∃ n, t.lookup s = some n /\ hm n 0 ∈ C /\ hm n 1 ∈ C
  h0 : hm b 0 ∈ C
  h1 : hm b 1 ∈ C
theorem two_rows {P : Int -> Prop} (h0 : P 0) (h1 : P 1) {r : Int} (hr : r = 0 \/ r = 1) : P r := by
  rcases hr with rfl | rfl
  . exact h0
  . exact h1
theorem go_last : ∀ (f : Nat) (w : List Seat), Way hm t s0 w -> t.length + 1 < f + w.length -> ∀ s, (wayGo hm t f w)[(wayGo hm t f w).length - 1]? = some s -> t.lookup s = none \/ ∃ n, t.lookup s = some n /\ hm n (1 - s.1) ∈ wayGo hm t f w
  | 0, w, W, hf, s, hs => by have := W.short; lia
  | f + 1, w, W, hf, s, hs => by
    refine xE W.last fun u hu => ?_
    rcases hn : t.lookup u with _ | n
    case none =>
      rw [go_free hu hn, hu] at hs
      cases hs
      exact .inl hn
    case some =>
      by_cases hi : hm n (1 - u.1) ∈ w
      . rw [go_shut hu hn hi] at hs |-
        rw [hu] at hs
        cases hs
        exact .inr ⟨n, hn, hi⟩
      . rw [go_on hu hn hi] at hs |-
        exact go_last f _ (W.snoc hu hn hi) (by rw [List.length_append, List.length_singleton]; lia) s hs
theorem way_shut (O : Std hm t) {s0 : Seat} (ho : ∀ s, (wayOf hm t s0)[(wayOf hm t s0).length - 1]? = some s -> t.lookup s ≠ none) : ∀ s ∈ wayOf hm t s0, ∃ n, t.lookup s = some n /\ hm n 0 ∈ wayOf hm t s0 /\ hm n 1 ∈ wayOf hm t s0 := fun s hs => by
  have W := wayOf_way (hm := hm) t s0
  have key : ∃ n, t.lookup s = some n /\ hm n (1 - s.1) ∈ wayOf hm t s0 := by
    refine xE (List.getElem_of_mem hs) fun i q => ?_
    obtain ⟨hi, e⟩ := q
    have h1 : (wayOf hm t s0)[i]? = some s := by rw [<- e]; exact List.getElem?_eq_getElem _
    by_cases hl : i + 1 < (wayOf hm t s0).length
    . refine xEA (W.step i s _ h1 (List.getElem?_eq_getElem hl)) fun n hn e2 => ?_
      exact ⟨n, hn, by rw [<- e2]; exact List.getElem_mem _⟩
    . have hi' : i = (wayOf hm t s0).length - 1 := by lia
      rw [hi'] at h1
      exact (go_last _ _ (Way.one t s0) (by rw [List.length_singleton]; lia) s h1).resolve_left (ho s h1)
  refine xEA key fun n hn hx => ?_
  refine xA (O.home s n hn) fun row e => ?_
  refine ⟨n, hn, ?_⟩
  rcases row with r | r <;> rw [r] at e hx
  . exact ⟨e ▸ hs, hx⟩
  . exact ⟨hx, e ▸ hs⟩
theorem shut_of (O : Std hm t) (nd : C.Nodup) (hC : ∀ s, s ∈ C ↔ s ∈ wayOf hm t (hm b 0) \/ s ∈ wayOf hm t (hm b 1))
    (ho : ∀ r, r = 0 \/ r = 1 -> ∀ s, (wayOf hm t (hm b r))[(wayOf hm t (hm b r)).length - 1]? = some s -> t.lookup s ≠ none) : Shut hm t b C := by
  have hh : ∀ r, hm b r ∈ wayOf hm t (hm b r) := fun r => List.mem_of_getElem? (wayOf_way (hm := hm) t (hm b r)).head
  refine ⟨nd, fun s hs => ?_, (hC _).mpr (.inl (hh 0)), (hC _).mpr (.inr (hh 1))⟩
  rcases (hC s).mp hs with h | h
  . refine xEAA (way_shut O (ho 0 (.inl rfl)) s h) fun n a1 a2 a3 => ?_
    exact ⟨n, a1, (hC _).mpr (.inl a2), (hC _).mpr (.inl a3)⟩
  . refine xEAA (way_shut O (ho 1 (.inr rfl)) s h) fun n a1 a2 a3 => ?_
    exact ⟨n, a1, (hC _).mpr (.inr a2), (hC _).mpr (.inr a3)⟩
theorem Shut.way {t1 : List (Seat × β)} (X : ∀ s ∈ C, ∃ n, t1.lookup s = some n /\ hm n 0 ∈ C /\ hm n 1 ∈ C) (O : Std hm t) (sub : ∀ s n, t1.lookup s = some n -> t.lookup s = some n) {s0 : Seat} {w : List Seat} (W : Way hm t s0 w) (h0 : s0 ∈ C) : ∀ (i : Nat) s, w[i]? = some s -> s ∈ C
  | 0, s, h => by rw [W.head] at h; cases h; exact h0
  | i + 1, s, h => by
    have hi : i < w.length := Nat.lt_of_succ_lt (List.getElem?_eq_some_iff.mp h).1
    refine xEAA (X _ (Shut.way X O sub W h0 i _ (List.getElem?_eq_getElem hi))) fun n a1 a2 a3 => ?_
    refine xEA (W.step i _ s (List.getElem?_eq_getElem hi) h) fun m hq e => ?_
    have a1' := sub _ _ a1
    rw [hq] at a1'
    cases a1'
    rw [e]
    refine two_rows (P := fun r => hm n r ∈ C) a2 a3 ?_
    have := (O.home _ _ hq).1
    lia
noncomputable def seatG (hm : β -> Int -> Seat) (t : List (Seat × β)) (n : β) : Seat := if t.lookup (hm n 0) = some n then hm n 0 else hm n 1
theorem Std.seat (O : Std hm t) {n : β} (h : ∃ s, t.lookup s = some n) : t.lookup (seatG hm t n) = some n /\ (seatG hm t n = hm n 0 \/ seatG hm t n = hm n 1) := by
  refine xE h fun s hs => ?_
  unfold seatG
  split
  . exact ⟨by assumption, .inl rfl⟩
  . rename_i q
    refine xA (O.home s n hs) fun row e => ?_
    rcases row with r | r <;> rw [r] at e
    . rw [e] at hs; exact absurd hs q
    . rw [<- e]; exact ⟨hs, .inr rfl⟩
theorem nd_map {α δ : Type} {f : α -> δ} : ∀ {l : List α}, l.Nodup -> (∀ x ∈ l, ∀ y ∈ l, f x = f y -> x = y) -> (l.map f).Nodup
  | [], _, _ => List.nodup_nil
  | a :: l, nd, inj => by
    rw [List.nodup_cons] at nd
    rw [List.map_cons, List.nodup_cons]
    refine ⟨fun h => ?_, nd_map nd.2 fun x hx y hy => inj x (List.mem_cons_of_mem _ hx) y (List.mem_cons_of_mem _ hy)⟩
    refine xEA (List.mem_map.mp h) fun x hx e => ?_
    have := inj x (List.mem_cons_of_mem _ hx) a List.mem_cons_self e
    subst this
    exact nd.1 hx
theorem Std.few (O : Std hm t) {S : List β} (nd : S.Nodup) (hS : ∀ n ∈ S, (∃ s, t.lookup s = some n) /\ hm n 0 ∈ C /\ hm n 1 ∈ C) : S.length <= C.length /\ (C.length <= S.length -> ∀ s ∈ C, ∃ n ∈ S, t.lookup s = some n) := by
  have h1 : (S.map (seatG hm t)).Nodup := nd_map nd fun x hx y hy e => by
    have a := (O.seat (hS x hx).1).1
    rw [e, (O.seat (hS y hy).1).1] at a
    exact (Option.some.inj a).symm
  have h2 : ∀ s ∈ S.map (seatG hm t), s ∈ C := fun s hs => by
    refine xEA (List.mem_map.mp hs) fun n hn e => ?_
    subst e
    rcases (O.seat (hS n hn).1).2 with e | e <;> rw [e]
    . exact (hS n hn).2.1
    . exact (hS n hn).2.2
  refine ⟨by have := card_le h1 h2; rwa [List.length_map] at this, fun hl s hs => ?_⟩
  apply Classical.byContradiction
  intro hno
  have := card_le (l' := C.erase s) h1 fun x hx => by
    refine (List.mem_erase_of_ne ?_).mpr (h2 x hx)
    rintro rfl
    refine xEA (List.mem_map.mp hx) fun n hn e => ?_
    exact hno ⟨n, hn, by rw [<- e]; exact (O.seat (hS n hn).1).1⟩
  rw [List.length_map, List.length_erase_of_mem hs] at this
  have : 0 < C.length := List.length_pos_of_mem hs
  lia
noncomputable def crowdOf (t : List (Seat × β)) (b : β) (C : List Seat) : List β := C.map fun s => (t.lookup s).getD b
theorem Shut.mem (X : Shut hm t b C) {n : β} (h : n ∈ crowdOf t b C) : (∃ s ∈ C, t.lookup s = some n) /\ hm n 0 ∈ C /\ hm n 1 ∈ C := by
  refine xEA (List.mem_map.mp h) fun s hs e => ?_
  refine xEA (X.all s hs) fun m a1 a2 => ?_
  rw [a1] at e
  subst e
  exact ⟨⟨s, hs, a1⟩, a2⟩
theorem Shut.nodup (X : Shut hm t b C) (O : Std hm t) (hb : ∀ s, t.lookup s ≠ some b) : (b :: crowdOf t b C).Nodup := by
  rw [List.nodup_cons]
  refine ⟨fun h => ?_, nd_map X.nd fun x hx y hy e => ?_⟩
  . refine xEA (X.mem h).1 fun s _ hs => ?_
    exact hb s hs
  . refine xEA (X.all x hx) fun n a1 _ => ?_
    refine xEA (X.all y hy) fun m b1 _ => ?_
    rw [a1, b1] at e
    have e : n = m := e
    subst e
    exact O.once _ _ _ a1 b1
theorem Shut.both (X : Shut hm t b C) {n : β} (h : n ∈ b :: crowdOf t b C) : hm n 0 ∈ C /\ hm n 1 ∈ C := by
  rcases List.mem_cons.mp h with rfl | h
  . exact ⟨X.h0, X.h1⟩
  . exact (X.mem h).2
theorem Shut.no (X : Shut hm t b C) (O : Std hm t) (hb : ∀ s, t.lookup s ≠ some b) (O' : Std hm' t') (f : β -> γ) (hf : ∀ n ∈ b :: crowdOf t b C, (∃ s, t'.lookup s = some (f n)) /\ ∀ r, r = 0 \/ r = 1 -> hm' (f n) r = hm n r)
    (inj : ∀ x ∈ b :: crowdOf t b C, ∀ y ∈ b :: crowdOf t b C, f x = f y -> x = y) : False := by
  have := (O'.few (C := C) (S := (b :: crowdOf t b C).map f) (nd_map (X.nodup O hb) inj) fun n hn => by
    refine xEA (List.mem_map.mp hn) fun m hm e => ?_
    subst e
    refine ⟨(hf m hm).1, ?_, ?_⟩
    . rw [(hf m hm).2 0 (.inl rfl)]; exact (X.both hm).1
    . rw [(hf m hm).2 1 (.inr rfl)]; exact (X.both hm).2).1
  rw [List.length_map, List.length_cons, crowdOf, List.length_map] at this
  lia
theorem Shut.fills (X : Shut hm t b C) (O : Std hm t) (hb : ∀ s, t.lookup s ≠ some b) {t2 : List (Seat × β)} (O2 : Std hm t2) {g : β} (hg : g ∈ crowdOf t b C) (h2 : ∀ n ∈ b :: crowdOf t b C, n ≠ g -> ∃ s, t2.lookup s = some n) : ∀ s ∈ C, ∃ n, t2.lookup s = some n /\ hm n 0 ∈ C /\ hm n 1 ∈ C := fun s hs => by
  have nd := X.nodup O hb
  have hl : ((b :: crowdOf t b C).erase g).length = C.length := by
    rw [List.length_erase_of_mem (List.mem_cons_of_mem _ hg), List.length_cons, crowdOf, List.length_map]; rfl
  have hS : ∀ n ∈ (b :: crowdOf t b C).erase g, (∃ s, t2.lookup s = some n) /\ hm n 0 ∈ C /\ hm n 1 ∈ C := fun n hn => by
    rw [nd.mem_erase_iff] at hn
    exact ⟨h2 n hn.2 hn.1, X.both hn.2⟩
  refine xEA ((O2.few (nd.erase g) hS).2 (Nat.le_of_eq hl.symm) s hs) fun n hn hx => ?_
  exact ⟨n, hx, (hS n hn).2⟩
end
section
variable {T : Tb} {st : St'} {th : Th} {nm : Nm} {C : List Seat}
theorem best_none (h : bestOf T st nm = none) : ∀ r, r = 0 \/ r = 1 -> ∀ s, (wayOf T.hm st (T.hm nm r))[(wayOf T.hm st (T.hm nm r)).length - 1]? = some s -> st.lookup s ≠ none := by
  have sh : ∀ w b, openW st w = true -> pickW st b w ≠ none := fun w b ho e => by
    unfold pickW at e
    rw [ho] at e
    rcases b with _ | u
    . cases e
    . by_cases hs : shorter (some u) w = true
      . rw [hs] at e; cases e
      . rw [Bool.not_eq_true] at hs; rw [hs] at e; cases e
  have sh' : ∀ w b, b ≠ none -> pickW st b w ≠ none := fun w b hb e => by
    unfold pickW at e
    split at e
    . cases e
    . exact hb e
  have key : ∀ r, r = 0 \/ r = 1 -> openW st (wayOf T.hm st (T.hm nm r)) ≠ true := fun r hr ho => by
    rcases hr with rfl | rfl
    . exact sh' _ _ (sh _ none ho) h
    . exact sh _ _ ho h
  intro r hr s hs hn
  refine key r hr ?_
  unfold openW
  rw [hs]
  dsimp only
  rw [hn]; rfl
theorem Ord.shut (O : Ord T st th) (h : bestOf T st nm = none) (nd : C.Nodup) (hC : ∀ s, s ∈ C ↔ s ∈ wayOf T.hm st (T.hm nm 0) \/ s ∈ wayOf T.hm st (T.hm nm 1)) : Shut T.hm st nm C := shut_of O.std nd hC (best_none h)
theorem Shut.gone (X : Shut T.hm st nm C) (O : Ord T st th) (hC : ∀ s, s ∈ C ↔ s ∈ wayOf T.hm st (T.hm nm 0) \/ s ∈ wayOf T.hm st (T.hm nm 1)) {s : Seat} {g : Nm} (hs : s ∈ C) (hg : st.lookup s = some g) {th' : Th} (O1 : Ord T (drop st s) th') : bestOf T (drop st s) nm ≠ none := fun h => by
  have X1 := O1.shut (C := uni (wayOf T.hm (drop st s) (T.hm nm 0) ++ wayOf T.hm (drop st s) (T.hm nm 1))) h uni_nd fun u => by rw [uni_mem, List.mem_append]
  have sub : ∀ u n, (drop st s).lookup u = some n -> st.lookup u = some n := fun u n h => by
    rw [drop_lookup] at h
    by_cases e : u = s
    . rw [if_pos e] at h; cases h
    . rwa [if_neg e] at h
  have hin : s ∈ uni (wayOf T.hm (drop st s) (T.hm nm 0) ++ wayOf T.hm (drop st s) (T.hm nm 1)) := by
    rcases (hC s).mp hs with q | q
    . refine xE (List.getElem_of_mem q) fun i q => ?_
      obtain ⟨hi, e⟩ := q
      exact Shut.way X1.all O.std sub (wayOf_way st _) X1.h0 i s (by rw [<- e]; exact List.getElem?_eq_getElem _)
    . refine xE (List.getElem_of_mem q) fun i q => ?_
      obtain ⟨hi, e⟩ := q
      exact Shut.way X1.all O.std sub (wayOf_way st _) X1.h1 i s (by rw [<- e]; exact List.getElem?_eq_getElem _)
  refine xEA (X1.all s hin) fun n hn _ => ?_
  rw [drop_lookup, if_pos rfl] at hn
  cases hn
theorem best_full {st2 : St'} {th2 : Th} (O2 : Ord T st2 th2) (hf : ∀ s ∈ C, ∃ n, st2.lookup s = some n /\ T.hm n 0 ∈ C /\ T.hm n 1 ∈ C) {g : Nm} (h0 : T.hm g 0 ∈ C) (h1 : T.hm g 1 ∈ C) : bestOf T st2 g = none := by
  rcases hb : bestOf T st2 g with _ | w
  case none => rfl
  case some =>
    refine xEAA (best_is hb) fun r hr W hop => ?_
    refine xE W.last fun s hs => ?_
    refine xEA (hf s (Shut.way hf O2.std (fun _ _ h => h) W (two_rows (P := fun r => T.hm g r ∈ C) h0 h1 hr) _ s hs)) fun n hn _ => ?_
    rw [hop s hs] at hn
    cases hn
theorem best_again {st3 : St'} {th3 : Th} (O : Ord T st th) (O3 : Ord T st3 th3) {g : Nm} (h3 : th3.lookup g = none) (hg : (th.lookup g).isSome = true) (sub : ∀ n, (th3.lookup n).isSome = true -> (th.lookup n).isSome = true) : bestOf T st3 g ≠ none := fun h => by
  have X := O3.shut (C := uni (wayOf T.hm st3 (T.hm g 0) ++ wayOf T.hm st3 (T.hm g 1))) h uni_nd fun u => by rw [uni_mem, List.mem_append]
  refine X.no O3.std (O3.no h3) O.std id (fun n hn => ⟨(O.there n).mpr ?_, fun _ _ => rfl⟩) fun _ _ _ _ e => e
  rcases List.mem_cons.mp hn with rfl | hn
  . exact hg
  . refine xEA (X.mem hn).1 fun s _ hs => ?_
    exact sub n ((O3.there n).mp ⟨s, hs⟩)
end
end
section
open PySem Cu
noncomputable def d_seat_of : FDef := ⟨3, 3,
  (.cons (.ret (.tup (.cons (.loc 2) (.cons (.sub (.sub (.loc 0) (.loc 1)) (.loc 2)) .nil))))
  .nil)⟩
noncomputable def t_way_from_1 : X := (.cmp .isin (.sub (.loc 3) (.neg (.int 1))) (.loc 1))
noncomputable def b_way_from_1 : Ss :=
  (.cons (.asg 4 (.call "seat_of" (.cons (.loc 0) (.cons (.sub (.loc 1) (.sub (.loc 3) (.neg (.int 1)))) (.cons (.bin .sub (.int 1) (.sub (.sub (.loc 3) (.neg (.int 1))) (.int 0))) .nil)))))
  (.cons (.iff (.cmp .isin (.loc 4) (.loc 3))
    (.cons (.ret (.loc 3))
    .nil)
    .nil)
  (.cons (.expr (.bm .append (.loc 3) (.cons (.loc 4) .nil)))
  .nil)))
noncomputable def d_way_from : FDef := ⟨3, 5,
  (.cons (.asg 3 (.list (.cons (.loc 2) .nil)))
  (.cons (.whil t_way_from_1 b_way_from_1)
  (.cons (.ret (.loc 3))
  .nil)))⟩
noncomputable def b_put_along_1 : Ss :=
  (.cons (.setitem (.loc 0) (.sub (.loc 1) (.loc 3)) (.sub (.loc 0) (.sub (.loc 1) (.bin .sub (.loc 3) (.int 1)))))
  .nil)
noncomputable def d_put_along : FDef := ⟨3, 4,
  (.cons (.forr 3 (.range (.cons (.bin .sub (.bi .len (.cons (.loc 1) .nil)) (.int 1)) (.cons (.int 0) (.cons (.neg (.int 1)) .nil)))) b_put_along_1)
  (.cons (.setitem (.loc 0) (.sub (.loc 1) (.int 0)) (.loc 2))
  .nil))⟩
noncomputable def b_crowded_1 : Ss :=
  (.cons (.setitem (.loc 3) (.sub (.loc 0) (.loc 5)) (.bool true))
  .nil)
noncomputable def b_crowded_2 : Ss :=
  (.cons (.forr 5 (.loc 4) b_crowded_1)
  .nil)
noncomputable def d_crowded : FDef := ⟨3, 6,
  (.cons (.asg 3 (.dict1 (.loc 2) (.bool true)))
  (.cons (.forr 4 (.loc 1) b_crowded_2)
  (.cons (.ret (.bi .sorted (.cons (.loc 3) .nil)))
  .nil)))⟩
noncomputable def b_seated_1 : Ss :=
  (.cons (.asg 3 (.comp (.call "way_from" (.cons (.loc 0) (.cons (.loc 1) (.cons (.call "seat_of" (.cons (.loc 0) (.cons (.loc 2) (.cons (.loc 7) .nil)))) .nil)))) 1 7 (.tup (.cons (.int 0) (.cons (.int 1) .nil))) .nil))
  (.cons (.asg 4 (.comp (.loc 7) 1 7 (.loc 3) (.cons (.cmp .notin (.sub (.loc 7) (.neg (.int 1))) (.loc 1)) .nil)))
  (.cons (.iff (.cmp .eq (.loc 4) (.list .nil))
    (.cons (.ret (.tup (.cons (.str [110, 111]) (.cons (.call "crowded" (.cons (.loc 1) (.cons (.loc 3) (.cons (.loc 2) .nil)))) .nil))))
    .nil)
    .nil)
  (.cons (.expr (.call "put_along" (.cons (.loc 1) (.cons (.sub (.loc 4) (.int 0)) (.cons (.loc 2) .nil)))))
  .nil))))
noncomputable def b_seated_2 : Ss :=
  (.cons (.setitem (.loc 5) (.sub (.loc 1) (.loc 6)) (.sub (.loc 6) (.int 0)))
  .nil)
noncomputable def d_seated : FDef := ⟨1, 7,
  (.cons (.asg 1 .dict0)
  (.cons (.forr 2 (.range (.cons (.bi .len (.cons (.loc 0) .nil)) .nil)) b_seated_1)
  (.cons (.asg 5 (.bin .mul (.list (.cons (.int 0) .nil)) (.bi .len (.cons (.loc 0) .nil))))
  (.cons (.forr 6 (.keys (.loc 1)) b_seated_2)
  (.cons (.ret (.tup (.cons (.str [121, 101, 115]) (.cons (.loc 5) .nil))))
  .nil)))))⟩
noncomputable def hmP (ps : List Seat) (n : Nat) (r : Int) : Seat := (r, if r = 0 then (seatAt ps n).1 else (seatAt ps n).2)
abbrev Tk := List (Seat × Nat)
noncomputable def tk (t : Tk) : List (Key × AV) := mk kp (fun n : Nat => .int n) t
theorem tk_sort {t : Tk} {s : Seat} : sortOk (tk t) (kp s) = true := mk_sort fun _ _ => rfl
theorem tk_at {t : Tk} {s : Seat} : (tk t).lookup (kp s) = (t.lookup s).map fun n : Nat => .int n := mk_lookup kp_inj s t
structure TkOk (ps : List Seat) (t : Tk) (m : Nat) : Prop where
  std : Std (hmP ps) t
  who : ∀ k, (∃ s, t.lookup s = some k) ↔ k < m
  few : m <= ps.length
structure HasS (p : Prog) : Prop where
  a : Prog.has p "seat_of" d_seat_of
  b : Prog.has p "way_from" d_way_from
  c : Prog.has p "put_along" d_put_along
  d : Prog.has p "crowded" d_crowded
  e : Prog.has p "seated" d_seated
section
variable {p : Prog} {n : Nat} {h : AHeap} {a b : Nat} {ps : List Seat} {t : Tk} {m ep : Nat}
theorem Std.nd2 {β : Type} {hm : β -> Int -> Seat} {t : List (Seat × β)} (O : Std hm t) : (t.map (·.2)).Nodup := by
  have nd := O.nd
  have inj : ∀ s s' n, (s, n) ∈ t -> (s', n) ∈ t -> s = s' := fun s s' n h h' => O.once s s' n (lookup_of_mem O.nd h) (lookup_of_mem O.nd h')
  have nt : t.Nodup := (List.pairwise_map.mp nd).imp fun h e => h (congrArg _ e)
  refine nd_map nt fun x hx y hy e => ?_
  obtain ⟨s, k⟩ := x
  obtain ⟨s', k'⟩ := y
  have e : k = k' := e
  subst e
  rw [inj s s' k hx hy]
theorem TkOk.len (K : TkOk ps t m) : t.length <= m := by
  have := card_le (l' := List.range m) K.std.nd2 fun k hk => by
    refine xEA (List.mem_map.mp hk) fun q hq e => ?_
    obtain ⟨s, j⟩ := q
    have e : j = k := e
    subst e
    exact List.mem_range.mpr ((K.who j).mp ⟨s, lookup_of_mem K.std.nd hq⟩)
  rwa [List.length_map, List.length_range] at this
theorem tk_in {s : Seat} (hb : h[b]? = some (.dict (tk t) ep)) : cmpAV h .isin (sv s) (.loc b) = some (t.lookup s).isSome := by
  rw [in_dict' hb (sv_key s) tk_sort, tk_at, Option.isSome_map]
theorem tk_notin {s : Seat} (hb : h[b]? = some (.dict (tk t) ep)) : cmpAV h .notin (sv s) (.loc b) = some (!(t.lookup s).isSome) := by
  rw [notin_dict' hb (sv_key s) tk_sort, tk_at, Option.isSome_map]
theorem tk_get {s : Seat} {k : Nat} (hb : h[b]? = some (.dict (tk t) ep)) (hs : t.lookup s = some k) : subAV (.loc b) (sv s) h = .ok (.int k) h :=
  sub_dict hb (sv_key s) tk_sort (by rw [tk_at, hs]; rfl)
theorem tk_set {s : Seat} {k : Nat} (hb : h[b]? = some (.dict (tk t) ep)) (hl : t.length < 3000) : ∃ ep', setItemAV (.loc b) (sv s) (.int k) h = some (h.set b (.dict (tk (put t s k)) ep')) := by
  refine xE (set_dict (v := .int k) hb (sv_key s) tk_sort (by rw [tk, mk_length]; exact lim_lt (Nat.le_of_lt hl))) fun ep' e => ?_
  rw [show dictPut (tk t) (kp s) (.int k) = tk (put t s k) from mk_put kp_inj] at e
  exact ⟨ep', e⟩
theorem run_seat_of (H : HasS p) (ha : h[a]? = some (.list (ps.map sv))) (hl : ps.length <= 1000) {k : Nat} (hk : k < ps.length) {r : Int} (hr : r = 0 \/ r = 1) :
    semF p (n + 1) false "seat_of" [.loc a, .int k, .int r] h = .ok (sv (hmP ps k r)) h := by
  refine xEA (run_in (n := n) (h := h) H.a (as := [.loc a, .int k, .int r]) [some (.loc a), some (.int k), some (.int r)] rfl rfl) fun F hF e1 => ?_
  have e2 := seat_sub ha (by lia) hk
  have e3 : subAV (sv (seatAt ps k)) (.int r) h = .ok (.int (hmP ps k r).2) h := by rcases hr with rfl | rfl <;> rfl
  rw [e1, d_seat_of]
  exact fin_ret (ss_last (st_ret (ev_tup (ev_cons rfl (ev_one (ev_sub (ev_sub rfl rfl e2) rfl e3))) (Nat.le_of_ble_eq_true rfl))))
noncomputable def wfW (p : Prog) (n F f : Nat) (l : Locs) (h : AHeap) : SR := whileLoop (fun l h => (evalX (cF p n F) t_way_from_1 l h).noExc) (fun l h => (execSs (cF p n F) b_way_from_1 l h).noExc) f l h
theorem wf_loop (H : HasS p) (ha : h[a]? = some (.list (ps.map sv))) (hl : ps.length <= 1000) (hb : h[b]? = some (.dict (tk t) ep)) (K : TkOk ps t m) {s0 : Seat} {F : Nat} :
    ∀ k f w v, Way (hmP ps) t s0 w -> k <= f -> t.length + 1 < k + w.length ->
      ∃ fl v', wfW p (n + 1) F f [some (.loc a), some (.loc b), some (sv s0), some (.loc h.length), v] (h ++ [.list (w.map sv)]) = .ok fl [some (.loc a), some (.loc b), some (sv s0), some (.loc h.length), v'] (h ++ [.list ((wayGo (hmP ps) t k w).map sv)]) /\ (fl = .next \/ fl = .ret (.loc h.length)) := by
  intro k
  induction k with
  | zero => intro f w v W _ hf; have := W.short; lia
  | succ k ih =>
    intro f w v W hkf hf
    obtain ⟨f, rfl⟩ : ∃ g, f = g + 1 := ⟨f - 1, by lia⟩
    have hws := W.short
    have hlen := K.len
    have hfew := K.few
    have hwl : w.length <= 2000 := by lia
    refine xE W.last fun s hs => ?_
    have ha' := get_old (g := [.list (w.map sv)]) ha
    have hb' := get_old (g := [.list (w.map sv)]) hb
    have hw' := get_new (h := h) (o := .list (w.map sv))
    have hL := last_sub hwl hw' hs
    have e1 : ∀ v, evalX (cF p (n + 1) F) t_way_from_1 [some (.loc a), some (.loc b), some (sv s0), some (.loc h.length), v] (h ++ [.list (w.map sv)]) = .ok (.bool (t.lookup s).isSome) (h ++ [.list (w.map sv)]) := fun v => ev_cmp (ev_sub rfl rfl hL) rfl (tk_in hb')
    have e1 := e1 v
    unfold wfW
    rcases hn : t.lookup s with _ | j
    case none =>
      rw [hn] at e1
      rw [go_free hs hn]
      exact ⟨_, v, wh_stop (by rw [e1]; rfl), .inl rfl⟩
    case some =>
      rw [hn] at e1
      have hrow := (K.std.home s j hn).1
      have hj := (K.who j).mp ⟨s, hn⟩
      have e2 := run_seat_of (n := n) H ha' hl (k := j) (by lia) (other_row hrow)
      have s1 : execS (cF p (n + 1) F) (.asg 4 (.call "seat_of" (.cons (.loc 0) (.cons (.sub (.loc 1) (.sub (.loc 3) (.neg (.int 1)))) (.cons (.bin .sub (.int 1) (.sub (.sub (.loc 3) (.neg (.int 1))) (.int 0))) .nil))))) [some (.loc a), some (.loc b), some (sv s0), some (.loc h.length), v] (h ++ [.list (w.map sv)]) = .ok .next [some (.loc a), some (.loc b), some (sv s0), some (.loc h.length), some (sv (hmP ps j (1 - s.1)))] (h ++ [.list (w.map sv)]) :=
        st_asg (ev_call (ev_cons rfl (ev_cons (ev_sub rfl (ev_sub rfl rfl hL) (tk_get hb' hn)) (ev_one (ev_bin rfl (ev_sub (ev_sub rfl rfl hL) rfl sv0) rfl)))) e2)
      have e3 : ∀ x, evalX (cF p (n + 1) F) (.cmp .isin (.loc 4) (.loc 3)) [some (.loc a), some (.loc b), some (sv s0), some (.loc h.length), some (sv x)] (h ++ [.list (w.map sv)]) = .ok (.bool (decide (x ∈ w))) (h ++ [.list (w.map sv)]) := fun x => ev_cmp rfl rfl (in_seats hw')
      have e3 := e3 (hmP ps j (1 - s.1))
      by_cases hin : hmP ps j (1 - s.1) ∈ w
      . rw [go_shut hs hn hin]
        rw [decide_eq_true hin] at e3
        exact ⟨_, _, wh_ret (by rw [e1]; rfl) (by rw [b_way_from_1, ss_step s1, ss_stop (st_t e3 (ss_last (st_ret rfl)))]; rfl), .inr rfl⟩
      . rw [go_on hs hn hin]
        rw [decide_eq_false hin] at e3
        refine xEEA (ih f (w ++ [hmP ps j (1 - s.1)]) (some (sv (hmP ps j (1 - s.1)))) (W.snoc hs hn hin) (by lia) (by rw [List.length_append, List.length_singleton]; lia)) fun fl v' e r => ?_
        refine ⟨fl, v', ?_, r⟩
        rw [<- e]
        exact wh_go (by rw [e1]; rfl) (by rw [b_way_from_1, ss_step s1, ss_step (st_f e3 rfl), ss_last (st_expr (ev_bm rfl (bmOk_append hw') (ev_one rfl) (add_seat hwl)))]; rfl)
theorem run_way_from (H : HasS p) (ha : h[a]? = some (.list (ps.map sv))) (hl : ps.length <= 1000) (hb : h[b]? = some (.dict (tk t) ep)) (K : TkOk ps t m) {s : Seat} :
    semF p (n + 2) false "way_from" [.loc a, .loc b, sv s] h = .ok (.loc h.length) (h ++ [.list ((wayOf (hmP ps) t s).map sv)]) := by
  refine xEA (run_in (n := n + 1) (h := h) H.b (as := [.loc a, .loc b, sv s]) [some (.loc a), some (.loc b), some (sv s), none, none] rfl rfl) fun F hF e1 => ?_
  have hlen := K.len
  have hfew := K.few
  refine xEEA (wf_loop (n := n) (s0 := s) (F := F) H ha hl hb K (t.length + 1) F [s] none (Way.one t s) (by lia) (by rw [List.length_singleton]; lia)) fun fl v e2 hfl => ?_
  have e3 : execS (cF p (n + 1) F) (.asg 3 (.list (.cons (.loc 2) .nil))) [some (.loc a), some (.loc b), some (sv s), none, none] h = .ok .next [some (.loc a), some (.loc b), some (sv s), some (.loc h.length), none] (h ++ [.list ([s].map sv)]) := st_asg (ev_list (ev_one rfl) (Nat.le_of_ble_eq_true rfl))
  rw [e1, d_way_from, ss_step e3]
  have e4 : execS (cF p (n + 1) F) (.whil t_way_from_1 b_way_from_1) [some (.loc a), some (.loc b), some (sv s), some (.loc h.length), none] (h ++ [.list ([s].map sv)]) = .ok fl [some (.loc a), some (.loc b), some (sv s), some (.loc h.length), v] (h ++ [.list ((wayOf (hmP ps) t s).map sv)]) := e2
  rcases hfl with rfl | rfl
  . exact fin_ret ((ss_step e4).trans (ss_last (st_ret rfl)))
  . exact fin_ret (ss_stop e4)
inductive AlgInv (h : AHeap) (b u k0 : Nat) (t : Tk) (w : List Seat) (k : Nat) : Locs -> AHeap -> Prop
  | mk (T' : Tk) (ep' : Nat) (v3 : Option AV) (M : Mid t w (w.length - 1 - k) T') (hl : T'.length <= t.length + k) : AlgInv h b u k0 t w k [some (.loc b), some (.loc u), some (.int k0), v3] (h.set b (.dict (tk T') ep'))
theorem run_put_along (H : HasS p) {hm : Nat -> Int -> Seat} {s0 : Seat} {w : List Seat} (W : Way hm t s0 w) (nd : (t.map (·.1)).Nodup) (hb : h[b]? = some (.dict (tk t) ep)) (hl : t.length <= 1000) {u k0 : Nat} (hu : h[u]? = some (.list (w.map sv))) :
    ∃ T' ep', semF p (n + 1) false "put_along" [.loc b, .loc u, .int k0] h = .ok .none (h.set b (.dict (tk (put T' s0 k0)) ep')) /\ Mid t w 0 T' := by
  refine xEA (run_in (n := n) (h := h) H.c (as := [.loc b, .loc u, .int k0]) [some (.loc b), some (.loc u), some (.int k0), none] rfl rfl) fun F hF e1 => ?_
  have hws := W.short
  have hpos := W.pos
  have hw1 : w.length - 1 <= 2000 := by lia
  have hw2 : w.length <= 2000 := by lia
  have hbu : b ≠ u := by rintro rfl; rw [hb] at hu; cases hu
  have hu' : ∀ o, (h.set b o)[u]? = some (.list (w.map sv)) := fun o => get_other hu hbu
  obtain ⟨l', h', e2, I2⟩ := forLoop_all (i := 3) (src := .rng ((w.length - 1 : Nat) : Int) 0 (-1)) (items := rngItems ((w.length - 1 : Nat) : Int) 0 (-1)) (body := fun l h => execSs (cF p n F) b_put_along_1 l h)
    (AlgInv h b u k0 t w) (fun k l h' _ => next_dn hw1) (fun k v l h' hv hI => by
      cases hI with
      | mk T' ep' v3 M hTl =>
      refine xA (dn_item hv) fun hk qq1 => ?_; subst qq1
      obtain ⟨q, hq, hqk, hql⟩ := dn_at hk
      have h1 : w[q]? = some (seatAt w q) := seat_at (Nat.lt_of_succ_lt hql)
      have h2 : w[q + 1]? = some (seatAt w (q + 1)) := seat_at hql
      refine xEA (W.step q _ _ h1 h2) fun j hj _ => ?_
      rw [hq] at M
      have hj' : T'.lookup (seatAt w q) = some j := (M.b _ fun i hi e => absurd (nd_at W.nd h1 e) (by lia)).trans hj
      have hb' := get_set (o' := .dict (tk T') ep') hb
      have hc : ((q + 1 : Nat) : Int) - 1 = (q : Int) := by lia
      refine xE (tk_set (s := seatAt w (q + 1)) (k := j) hb' (by lia)) fun ep2 hs => ?_
      rw [List.set_set] at hs
      rw [hq]
      refine ⟨_, _, ss_last (st_set (ev_sub rfl (ev_sub rfl (ev_bin rfl rfl (by rw [b_sub, hc])) (seat_sub (hu' _) hw2 (Nat.lt_of_succ_lt hql))) (tk_get hb' hj')) rfl (ev_sub rfl rfl (seat_sub (hu' _) hw2 hql)) hs), AlgInv.mk (put T' (seatAt w (q + 1)) j) ep2 (some (.int ((q + 1 : Nat) : Int))) (by rw [hqk]; exact M.step W h1 h2 hj) ?_⟩
      have := put_length (t := T') (a := seatAt w (q + 1)) (b := j)
      split at this <;> lia) (f := F) (l := [some (.loc b), some (.loc u), some (.int k0), none]) (h := h) (by rw [dn_length]; lia) (by
      have := AlgInv.mk (h := h) (b := b) (u := u) (k0 := k0) (t := t) (w := w) (k := 0) t ep none (Mid.start nd) (Nat.le_refl _)
      rwa [set_same hb] at this)
  cases I2 with
  | mk T' ep' v3 M hTl =>
  rw [dn_length] at M hTl
  rw [Nat.sub_self] at M
  refine xE (tk_set (s := s0) (k := k0) (get_set (o' := .dict (tk T') ep') hb) (by lia)) fun ep2 hs => ?_
  rw [List.set_set] at hs
  have hs0 : seatAt w 0 = s0 := by have q := W.head; rw [seat_at W.pos] at q; exact Option.some.inj q
  have e0 := seat_sub (hu' (.dict (tk T') ep')) hw2 hpos
  rw [hs0] at e0
  refine ⟨T', ep2, ?_, M⟩
  have hlen : evalX (cF p n F) (.bin .sub (.bi .len (.cons (.loc 1) .nil)) (.int 1)) [some (.loc b), some (.loc u), some (.int k0), none] h = .ok (.int ((w.length - 1 : Nat) : Int)) h := ev_bin (ev_bi rfl (ev_one rfl) (len_seats hu)) rfl (by rw [b_sub, show (w.length : Int) - 1 = ((w.length - 1 : Nat) : Int) by lia])
  rw [e1, d_put_along, ss_step (st_for rfl (ev_range (ev_cons hlen (ev_cons rfl (ev_one (ev_neg rfl)))) (range_dn hw1)) e2), ss_last (st_set rfl rfl (ev_sub rfl rfl e0) hs)]
  rfl
noncomputable def kn (n : Nat) : Key := .int n
theorem kn_inj (a b : Nat) (h : kn a = kn b) : a = b := Int.ofNat.inj (Key.int.inj h)
abbrev Nk := List (Nat × Unit)
noncomputable def nk (t : Nk) : List (Key × AV) := mk kn (fun _ => .bool true) t
theorem all_ints : ∀ is : List Int, allOf intOf (is.map AV.int) = some is
  | [] => rfl
  | i :: is => by
    show ((allOf intOf (is.map AV.int)).bind fun ps => some (i :: ps)) = _
    rw [all_ints is]; rfl
inductive CrInv (h : AHeap) (b c m u L : Nat) (k : Nat) : Locs -> AHeap -> Prop
  | mk (C : Nk) (ep : Nat) (v : Option AV) (hl : C.length <= L + k) (h1 : 1 <= C.length) : CrInv h b c m u L k [some (.loc b), some (.loc c), some (.int m), some (.loc h.length), some (.loc u), v] (h ++ [.dict (nk C) ep])
theorem cr_loop {F : Nat} {b c u : Nat} {w : List Seat} {C : Nk} {ep0 : Nat} {v5 : Option AV} (hb : h[b]? = some (.dict (tk t) ep)) (hu : h[u]? = some (.list (w.map sv))) (hw : ∀ s ∈ w, ∃ k, t.lookup s = some k) (hwl : w.length <= 1000) (hC : C.length <= 1000) (h1 : 1 <= C.length) (hF : 50000 <= F) :
    ∃ l' h', forLoop (put1 5) (fun l h => execSs (cF p n F) b_crowded_1 l h) (.loc u) F 0 [some (.loc b), some (.loc c), some (.int m), some (.loc h.length), some (.loc u), v5] (h ++ [.dict (nk C) ep0]) = .ok .next l' h' /\ CrInv h b c m u C.length w.length l' h' := by
  have := forLoop_all (i := 5) (src := .loc u) (items := w.map sv) (body := fun l h => execSs (cF p n F) b_crowded_1 l h) (CrInv h b c m u C.length) (fun k l h' hI => by cases hI; exact next_list (get_old hu)) (fun k v l h' hv hI => by
    cases hI with
    | mk C' ep' v' hl' h1' =>
    rw [List.getElem?_map] at hv
    refine xEA (Option.map_eq_some_iff.mp hv) fun s hs e => ?_
    subst e
    have hk := (List.getElem?_eq_some_iff.mp hs).1
    refine xE (hw s (List.mem_of_getElem? hs)) fun x hx => ?_
    refine xE (set_dict (h := h ++ [.dict (nk C') ep']) (x := nk C') (kv := .int (x : Nat)) (v := .bool true) (k := kn x) get_new rfl (mk_sort fun _ _ => rfl) (by rw [nk, mk_length]; exact lim_lt (by lia))) fun ep2 hset => ?_
    rw [set_new, show dictPut (nk C') (kn x) (.bool true) = nk (put C' x ()) from mk_put kn_inj] at hset
    have hpl := put_length (t := C') (a := x) (b := ())
    exact ⟨_, _, ss_last (st_set rfl rfl (ev_sub rfl rfl (tk_get (get_old hb) hx)) hset), CrInv.mk (put C' x ()) ep2 (some (sv s)) (by split at hpl <;> lia) (by split at hpl <;> lia)⟩) (f := F)
    (l := [some (.loc b), some (.loc c), some (.int m), some (.loc h.length), some (.loc u), v5]) (h := h ++ [.dict (nk C) ep0]) (by rw [List.length_map]; lia) (CrInv.mk C ep0 v5 (Nat.le_refl _) h1)
  rwa [List.length_map] at this
theorem run_crowded (H : HasS p) {c u v : Nat} {w0 w1 : List Seat} (hb : h[b]? = some (.dict (tk t) ep)) (hc : h[c]? = some (.list [.loc u, .loc v])) (hu : h[u]? = some (.list (w0.map sv))) (hv : h[v]? = some (.list (w1.map sv)))
    (h0 : ∀ s ∈ w0, ∃ k, t.lookup s = some k) (h1 : ∀ s ∈ w1, ∃ k, t.lookup s = some k) (hl0 : w0.length <= 30) (hl1 : w1.length <= 30) :
    ∃ x g, semF p (n + 1) false "crowded" [.loc b, .loc c, .int m] h = .ok x (h ++ g) := by
  refine xEA (run_in (n := n) (h := h) H.d (as := [.loc b, .loc c, .int m]) [some (.loc b), some (.loc c), some (.int m), none, none, none] rfl rfl) fun F hF e1 => ?_
  refine xEEA (cr_loop (p := p) (n := n) (F := F) (m := m) (c := c) (C := [(m, ())]) (ep0 := 1) (v5 := none) hb hu h0 (by lia) (Nat.le_of_ble_eq_true rfl) (Nat.le_of_ble_eq_true rfl) hF) fun l1 g1 e2 I1 => ?_
  cases I1 with
  | mk C1 ep1 v1 hc1 hc1' =>
  refine xEEA (cr_loop (p := p) (n := n) (F := F) (m := m) (c := c) (C := C1) (ep0 := ep1) (v5 := v1) hb hv h1 (by lia) (by rw [List.length_singleton] at hc1; lia) hc1' hF) fun l2 g2 e3 I2 => ?_
  cases I2 with
  | mk C2 ep2 v2 hc2 hc2' =>
  have t1 : execSs (cF p n F) b_crowded_2 [some (.loc b), some (.loc c), some (.int m), some (.loc h.length), some (.loc u), none] (h ++ [.dict (nk [(m, ())]) 1]) = .ok .next [some (.loc b), some (.loc c), some (.int m), some (.loc h.length), some (.loc u), v1] (h ++ [.dict (nk C1) ep1]) := ss_last (st_for rfl rfl e2)
  have t2 : execSs (cF p n F) b_crowded_2 [some (.loc b), some (.loc c), some (.int m), some (.loc h.length), some (.loc v), v1] (h ++ [.dict (nk C1) ep1]) = .ok .next [some (.loc b), some (.loc c), some (.int m), some (.loc h.length), some (.loc v), v2] (h ++ [.dict (nk C2) ep2]) := ss_last (st_for rfl rfl e3)
  have f2 := for_two (put := put1 4) (body := fun l h => execSs (cF p n F) b_crowded_2 l h) (src := .loc c) (f := F) (l := [some (.loc b), some (.loc c), some (.int m), some (.loc h.length), none, none]) (next_list (get_old hc)) rfl t1 (next_list (get_old hc)) rfl t2 (next_list (get_old hc)) (by lia)
  have hd : evalX (cF p n F) (.dict1 (.loc 2) (.bool true)) [some (.loc b), some (.loc c), some (.int m), none, none, none] h = .ok (.loc h.length) (h ++ [.dict (nk [(m, ())]) 1]) := by
    rw [x_dict1]
    show heapR (.loc h.length) ((dictAt (h ++ [AObj.dict [] 0]) h.length).bind fun d => setD (h ++ [AObj.dict [] 0]) h.length d.1 d.2 (.bool true) (some (.int m))) = _
    rw [dictAt_of get_new, Option.bind_some]
    show heapR (.loc h.length) (some ((h ++ [AObj.dict [] 0]).set h.length (.dict [(.int m, .bool true)] 1))) = _
    rw [set_new]; rfl
  have hs : ∃ ys, sortL (h ++ [.dict (nk C2) ep2]) h.length = some ys /\ ys.length <= 1000 := by
    have hla : listAt (h ++ [.dict (nk C2) ep2]) h.length = none := by delta listAt; rw [get_new]
    have hk : (nk C2).map (fun p => p.1.av) = (C2.map fun p => (p.1 : Int)).map AV.int := by rw [nk, mk, List.map_map, List.map_map]; rfl
    have hp : allOf pairOf ((nk C2).map fun p => p.1.av) = none := by
      rcases C2 with _ | ⟨q, r⟩
      . exact absurd hc2' (by decide)
      . rfl
    delta sortL
    rw [hla]
    dsimp only
    rw [dictAt_of get_new, Option.bind_some]
    delta sortK3
    dsimp only
    rw [hp]
    dsimp only
    rw [hk, all_ints, Option.bind_some, sortI, List.length_map, if_pos (by rw [List.length_singleton] at hc1; lia)]
    exact ⟨_, rfl, by rw [List.length_map, List.length_mergeSort, List.length_map]; rw [List.length_singleton] at hc1; lia⟩
  refine xEA hs fun ys hy hyl => ?_
  refine ⟨.loc (h ++ [AObj.dict (nk C2) ep2]).length, [.dict (nk C2) ep2] ++ [.list ys], ?_⟩
  rw [e1, d_crowded, ss_step (st_asg hd), <- List.append_assoc]
  exact fin_ret ((ss_step (st_for rfl rfl f2)).trans (ss_last (st_ret (ev_bi rfl (ev_one rfl) (newListO_ok hy (Nat.le_trans hyl (by decide)))))))
end
end
section
open PySem Cu
abbrev yesS : List Nat := [121, 101, 115]
abbrev noS : List Nat := [110, 111]
section
variable {p : Prog} {n : Nat} {h h0 : AHeap} {a b : Nat} {ps : List Seat} {t : Tk} {m k ep : Nat}
theorem Kp.put {X : List Nat} {h' : AHeap} {o : AObj} {j : Nat} (q : Kp X h h') (hj : h.length <= j) : Kp X h (h'.set j o) :=
  ⟨by rw [List.length_set]; exact q.len, fun i x hi e => get_other (q.old i x hi e) fun r => by subst r; exact absurd (get_lt e) (Nat.not_lt.mpr hj)⟩
inductive NoRes (h0 : AHeap) (ps : List Seat) : SR -> Prop
  | mk (t : Tk) (m : Nat) (C : List Seat) (v : AV) (l : Locs) (h : AHeap) (O : Std (hmP ps) t) (X : Shut (hmP ps) t m C) (hlt : ∀ s j, t.lookup s = some j -> j < m) (hm : m < ps.length) (q : Kp [] h0 h) : NoRes h0 ps (.ok (.ret (.tup [.str noS, v])) l h)
inductive SeInv (h0 : AHeap) (a : Nat) (ps : List Seat) (k : Nat) : Locs -> AHeap -> Prop
  | mk (t : Tk) (ep : Nat) (v2 v3 v4 : Option AV) (h : AHeap) (hb : h[h0.length]? = some (.dict (tk t) ep)) (K : TkOk ps t k) (q : Kp [] h0 h) : SeInv h0 a ps k [some (.loc a), some (.loc h0.length), v2, v3, v4, none, none] h
theorem eq_nil {i j : Nat} {xs : List AV} (hi : h[i]? = some (.list xs)) (hj : h[j]? = some (.list [])) : cmpAV h .eq (.loc i) (.loc j) = some xs.isEmpty := by
  show eqL (eqv h 5) (listAt h i) (listAt h j) = _
  rw [listAt_of hi, listAt_of hj]
  rcases xs with _ | ⟨_, _⟩ <;> rfl
inductive Two (h : AHeap) (ps : List Seat) (t : Tk) (k : Nat) (u v : Nat) : List AV -> Prop
  | none (h0 : ∀ r, r = 0 \/ r = 1 -> ∀ s, (wayOf (hmP ps) t (hmP ps k r))[(wayOf (hmP ps) t (hmP ps k r)).length - 1]? = some s -> t.lookup s ≠ none) : Two h ps t k u v []
  | some (r : Int) (i : Nat) (rest : List AV) (hr : r = 0 \/ r = 1) (hi : h[i]? = .some (.list ((wayOf (hmP ps) t (hmP ps k r)).map sv))) (ho : ∀ s, (wayOf (hmP ps) t (hmP ps k r))[(wayOf (hmP ps) t (hmP ps k r)).length - 1]? = .some s -> t.lookup s = Option.none) (hl : rest.length <= 1) : Two h ps t k u v (.loc i :: rest)
noncomputable def opn (t : Tk) (s : Seat) (i : Nat) : Option AV := if (t.lookup s).isSome then none else some (.loc i)
theorem two_of {s0 s1 : Seat} {u v : Nat} (hu : h[u]? = some (.list ((wayOf (hmP ps) t (hmP ps k 0)).map sv))) (hv : h[v]? = some (.list ((wayOf (hmP ps) t (hmP ps k 1)).map sv))) (e0 : (wayOf (hmP ps) t (hmP ps k 0))[(wayOf (hmP ps) t (hmP ps k 0)).length - 1]? = some s0) (e1 : (wayOf (hmP ps) t (hmP ps k 1))[(wayOf (hmP ps) t (hmP ps k 1)).length - 1]? = some s1) :
    Two h ps t k u v ((opn t s0 u).toList ++ (opn t s1 v).toList) := by
  unfold opn
  rcases q0 : t.lookup s0 with _ | j0
  . refine .some 0 u _ (.inl rfl) hu (fun s hs => by rw [e0] at hs; cases hs; exact q0) ?_
    rcases t.lookup s1 with _ | _ <;> exact Nat.le_of_ble_eq_true rfl
  . rcases q1 : t.lookup s1 with _ | j1
    . exact .some 1 v [] (.inr rfl) hv (fun s hs => by rw [e1] at hs; cases hs; exact q1) (Nat.zero_le _)
    . refine .none fun r hr s hs => ?_
      rcases hr with rfl | rfl
      . rw [e0] at hs; cases hs; rw [q0]; exact fun e => nomatch e
      . rw [e1] at hs; cases hs; rw [q1]; exact fun e => nomatch e
theorem open_if {w : List Seat} {u i3 : Nat} {s : Seat} {v2 v3 v4 : Option AV} {F : Nat} (hb : h[b]? = some (.dict (tk t) ep)) (hu : h[u]? = some (.list (w.map sv))) (hl : w.length <= 2000) (hs : w[w.length - 1]? = some s) :
    ((evalConds (cF p n F) (.cons (.cmp .notin (.sub (.loc 7) (.neg (.int 1))) (.loc 1)) .nil) (inner [some (.loc a), some (.loc b), v2, v3, v4, none, none] 1 7 (.loc u)) h).bind fun q h => ifB q h (evalX (cF p n F) (.loc 7) (inner [some (.loc a), some (.loc b), v2, v3, v4, none, none] 1 7 (.loc u)) h)) = .ok (opn t s u) h := by
  have e : evalX (cF p n F) (.cmp .notin (.sub (.loc 7) (.neg (.int 1))) (.loc 1)) (inner [some (.loc a), some (.loc b), v2, v3, v4, none, none] 1 7 (.loc u)) h = .ok (.bool !(t.lookup s).isSome) h := ev_cmp (ev_sub rfl rfl (last_sub hl hu hs)) rfl (tk_notin hb)
  unfold opn
  rcases hq : t.lookup s with _ | _ <;> rw [hq] at e
  . exact cb_t e rfl
  . exact cb_f e
theorem seat_step (H : HasS p) (ha : h[a]? = some (.list (ps.map sv))) (hl : ps.length <= 28) (hb : h[h0.length]? = some (.dict (tk t) ep)) (K : TkOk ps t k) (hk : k < ps.length) (q : Kp [] h0 h) {v3 v4 : Option AV} {F : Nat} (hF : 50000 <= F) :
    Turn (SeInv h0 a ps (k + 1)) (NoRes h0 ps) (execSs (cF p (n + 2) F) b_seated_1 [some (.loc a), some (.loc h0.length), some (.int k), v3, v4, none, none] h) := by
  have hlen := K.len
  have w0 := run_way_from (n := n) (s := hmP ps k 0) H ha (by lia) hb K
  have g0 := get_new (h := h) (o := .list ((wayOf (hmP ps) t (hmP ps k 0)).map sv))
  have W0 := wayOf_way (hm := hmP ps) t (hmP ps k 0)
  have W1 := wayOf_way (hm := hmP ps) t (hmP ps k 1)
  have l0 := W0.short
  have l1 := W1.short
  have s0 := run_seat_of (n := n + 1) H ha (by lia) hk (.inl rfl)
  have q1 : Kp [] h0 (h ++ [.list ((wayOf (hmP ps) t (hmP ps k 0)).map sv)]) := q.trans Kp.app
  have ha1 := get_old (g := [.list ((wayOf (hmP ps) t (hmP ps k 0)).map sv)]) ha
  have hb1 := get_old (g := [.list ((wayOf (hmP ps) t (hmP ps k 0)).map sv)]) hb
  generalize h ++ [.list ((wayOf (hmP ps) t (hmP ps k 0)).map sv)] = h1 at w0 g0 q1 ha1 hb1
  have w1 := run_way_from (n := n) (s := hmP ps k 1) H ha1 (by lia) hb1 K
  have s1 := run_seat_of (n := n + 1) H ha1 (by lia) hk (.inr rfl)
  have g1 := get_new (h := h1) (o := .list ((wayOf (hmP ps) t (hmP ps k 1)).map sv))
  have g0' := get_old (g := [.list ((wayOf (hmP ps) t (hmP ps k 1)).map sv)]) g0
  have q2 : Kp [] h0 (h1 ++ [.list ((wayOf (hmP ps) t (hmP ps k 1)).map sv)]) := q1.trans Kp.app
  have hb2 := get_old (g := [.list ((wayOf (hmP ps) t (hmP ps k 1)).map sv)]) hb1
  generalize h1 ++ [.list ((wayOf (hmP ps) t (hmP ps k 1)).map sv)] = h2 at w1 g1 g0' q2 hb2
  have c1 : execS (cF p (n + 2) F) (.asg 3 (.comp (.call "way_from" (.cons (.loc 0) (.cons (.loc 1) (.cons (.call "seat_of" (.cons (.loc 0) (.cons (.loc 2) (.cons (.loc 7) .nil)))) .nil)))) 1 7 (.tup (.cons (.int 0) (.cons (.int 1) .nil))) .nil)) [some (.loc a), some (.loc h0.length), some (.int k), v3, v4, none, none] h =
      .ok .next [some (.loc a), some (.loc h0.length), some (.int k), some (.loc h2.length), v4, none, none] (h2 ++ [.list [.loc h.length, .loc h1.length]]) :=
    st_asg (ev_comp rfl rfl (comp_two (u := .tup [.int 0, .int 1]) (x := some (.loc h.length)) (y := some (.loc h1.length)) rfl (cb_all (ev_call (ev_cons rfl (ev_cons rfl (ev_one (ev_call rfl s0)))) w0)) rfl (cb_all (ev_call (ev_cons rfl (ev_cons rfl (ev_one (ev_call rfl s1)))) w1)) rfl (by show 3 <= F; lia)) (Nat.le_of_ble_eq_true rfl))
  have g3 := get_new (h := h2) (o := .list [.loc h.length, .loc h1.length])
  have a0 := get_old (g := [.list [.loc h.length, .loc h1.length]]) g0'
  have a1 := get_old (g := [.list [.loc h.length, .loc h1.length]]) g1
  have hb3 := get_old (g := [.list [.loc h.length, .loc h1.length]]) hb2
  have q3 : Kp [] h0 (h2 ++ [.list [.loc h.length, .loc h1.length]]) := q2.trans Kp.app
  generalize h2 ++ [.list [.loc h.length, .loc h1.length]] = h3 at c1 g3 a0 a1 hb3 q3
  refine xE W0.last fun x0 hx0 => ?_
  refine xE W1.last fun x1 hx1 => ?_
  have tw := two_of (h := h3) a0 a1 hx0 hx1
  have ls : ((opn t x0 h.length).toList ++ (opn t x1 h1.length).toList).length <= 1000 := by
    unfold opn
    rcases t.lookup x0 with _ | _ <;> rcases t.lookup x1 with _ | _ <;> exact Nat.le_of_ble_eq_true rfl
  have c2 : execS (cF p (n + 2) F) (.asg 4 (.comp (.loc 7) 1 7 (.loc 3) (.cons (.cmp .notin (.sub (.loc 7) (.neg (.int 1))) (.loc 1)) .nil))) [some (.loc a), some (.loc h0.length), some (.int k), some (.loc h2.length), v4, none, none] h3 =
      .ok .next [some (.loc a), some (.loc h0.length), some (.int k), some (.loc h2.length), some (.loc h3.length), none, none] (h3 ++ [.list ((opn t x0 h.length).toList ++ (opn t x1 h1.length).toList)]) :=
    st_asg (ev_comp rfl rfl (comp_two (u := .loc h2.length) (next_list g3) (open_if (i3 := 0) hb3 a0 (by lia) hx0) (next_list g3) (open_if (i3 := 0) hb3 a1 (by lia) hx1) (next_list g3) (by show 3 <= F; lia)) ls)
  generalize (opn t x0 h.length).toList ++ (opn t x1 h1.length).toList = gl at tw ls c2
  have g4 := get_old (g := [.list []]) (get_new (h := h3) (o := .list gl))
  have g5 := get_new (h := h3 ++ [.list gl]) (o := .list [])
  have hb5 := get_old (g := [.list []]) (get_old (g := [.list gl]) hb3)
  have q5 : Kp [] h0 (h3 ++ [.list gl] ++ [.list []]) := (q3.trans Kp.app).trans Kp.app
  have k5 : Kp [] h3 (h3 ++ [.list gl] ++ [.list []]) := Kp.app.trans Kp.app
  have c3 : evalX (cF p (n + 2) F) (.cmp .eq (.loc 4) (.list .nil)) [some (.loc a), some (.loc h0.length), some (.int k), some (.loc h2.length), some (.loc h3.length), none, none] (h3 ++ [.list gl]) = .ok (.bool gl.isEmpty) (h3 ++ [.list gl] ++ [.list []]) := ev_cmp rfl (ev_list (vs := []) rfl (Nat.zero_le _)) (eq_nil g4 g5)
  generalize h3 ++ [.list gl] ++ [.list []] = h5 at c3 g4 g5 hb5 q5 k5
  have n5 : ∀ x : Nat, x ∉ ([] : List Nat) := fun x e => nomatch e
  rw [b_seated_1, ss_step c1, ss_step c2]
  cases tw with
  | none ho =>
    have X := shut_of (C := uni (wayOf (hmP ps) t (hmP ps k 0) ++ wayOf (hmP ps) t (hmP ps k 1))) K.std uni_nd (fun s => by rw [uni_mem, List.mem_append]) ho
    have all : ∀ r, r = 0 \/ r = 1 -> ∀ s ∈ wayOf (hmP ps) t (hmP ps k r), ∃ j, t.lookup s = some j := fun r hr s hs => by
      refine xEA (X.all s (uni_mem.mpr (List.mem_append.mpr ?_))) fun j hj _ => ⟨j, hj⟩
      rcases hr with rfl | rfl
      . exact .inl hs
      . exact .inr hs
    refine xEE (run_crowded (n := n + 1) (m := k) H hb5 (k5.old _ _ (n5 _) g3) (k5.old _ _ (n5 _) a0) (k5.old _ _ (n5 _) a1) (all 0 (.inl rfl)) (all 1 (.inr rfl)) (by lia) (by lia)) fun x g e => ?_
    rw [ss_stop (st_t c3 (ss_last (st_ret (ev_tup (ev_cons rfl (ev_one (ev_call rfl e))) (Nat.le_of_ble_eq_true rfl)))))]
    exact .halt _ (.ret ..) (.mk t k _ x _ _ K.std X (fun s j hj => (K.who j).mp ⟨s, hj⟩) hk (q5.trans Kp.app))
  | some r i rest hr hi ho hrl =>
    have W := wayOf_way (hm := hmP ps) t (hmP ps k r)
    refine xEEA (run_put_along (n := n + 1) (k0 := k) H W K.std.nd hb5 (by lia) (k5.old _ _ (n5 _) hi)) fun T' ep' e M => ?_
    refine xA (K.std.done (fun s hs => absurd ((K.who k).mp ⟨s, hs⟩) (Nat.lt_irrefl _)) hr W ho M) fun O' who => ?_
    rw [ss_step (st_f c3 rfl), ss_last (st_expr (ev_call (ev_cons rfl (ev_cons (ev_sub rfl rfl (sub_list (Nat.le_trans (Nat.succ_le_succ hrl) (by decide)) g4 (Int.le_refl _) rfl)) (ev_one rfl))) e))]
    exact .next _ _ (.mk _ ep' _ _ _ _ (get_set hb5) ⟨O', fun j => (who j).trans (by rw [K.who j]; lia), hk⟩ (q5.put (Nat.le_refl _)))
inductive Seated (h : AHeap) (ps : List Seat) : Res AV -> Prop
  | yes (t : Tk) (v : AV) (h' : AHeap) (K : TkOk ps t ps.length) (q : Kp [] h h') : Seated h ps (.ok (.tup [.str yesS, v]) h')
  | no (t : Tk) (m : Nat) (C : List Seat) (v : AV) (h' : AHeap) (O : Std (hmP ps) t) (X : Shut (hmP ps) t m C) (hlt : ∀ s j, t.lookup s = some j -> j < m) (hm : m < ps.length) (q : Kp [] h h') : Seated h ps (.ok (.tup [.str noS, v]) h')
inductive RowInv (h : AHeap) (a b r L : Nat) (v2 v3 v4 : Option AV) (k : Nat) : Locs -> AHeap -> Prop
  | mk (xs : List AV) (v6 : Option AV) (hl : xs.length = L) : RowInv h a b r L v2 v3 v4 k [some (.loc a), some (.loc b), v2, v3, v4, some (.loc r), v6] (h.set r (.list xs))
theorem next_dit {kvs : List (Key × AV)} {k : Nat} (hb : h[b]? = some (.dict kvs ep)) : nextAt (.dit b kvs.length ep) k h = some (kvs.map fun p => p.1.av)[k]? := by
  refine next_of ?_
  show ((dictAt h b).bind fun d => if d.1.length = kvs.length /\ d.2 = ep then some (d.1.map fun p => p.1.av) else none) = _
  rw [dictAt_of hb, Option.bind_some]
  exact if_pos ⟨rfl, rfl⟩
theorem keys_dit {kvs : List (Key × AV)} (hb : h[b]? = some (.dict kvs ep)) : keysAV (.loc b) h = .ok (.dit b kvs.length ep) h := by
  show okO ((dictAt h b).map fun d => AV.dit b d.1.length d.2) h = _
  rw [dictAt_of hb]; rfl
theorem set_list {r i : Nat} {xs : List AV} {v : AV} (hr : h[r]? = some (.list xs)) (hi : i < xs.length) : setItemAV (.loc r) (.int i) v h = some (h.set r (.list (xs.set i v))) := by
  delta setItemAV
  dsimp only
  rw [hr]
  exact if_pos ⟨Int.natCast_nonneg i, Int.ofNat_lt.mpr hi⟩
theorem row_loop {F : Nat} {r L : Nat} {v2 v3 v4 : Option AV} (hb : h[b]? = some (.dict (tk t) ep)) (K : TkOk ps t L) (hr : h[r]? = some (.list xs)) (hl : xs.length = L) (hL : L <= 1000) (hF : 50000 <= F) :
    ∃ l' h', forLoop (put1 6) (fun l h => execSs (cF p n F) b_seated_2 l h) (.dit b (tk t).length ep) F 0 [some (.loc a), some (.loc b), v2, v3, v4, some (.loc r), none] h = .ok .next l' h' /\ RowInv h a b r L v2 v3 v4 (t.length) l' h' := by
  have hbr : r ≠ b := by rintro rfl; rw [hb] at hr; cases hr
  have hit : (tk t).map (fun p => p.1.av) = t.map fun p => sv p.1 := by rw [tk, mk, List.map_map]; rfl
  have hlen := K.len
  have := forLoop_all (i := 6) (src := .dit b (tk t).length ep) (items := t.map fun p => sv p.1) (body := fun l h => execSs (cF p n F) b_seated_2 l h) (RowInv h a b r L v2 v3 v4) (fun k l h' hI => by
      cases hI
      rw [<- hit]
      exact next_dit (get_other hb hbr)) (fun k v l h' hv hI => by
    cases hI with
    | mk xs' v6 hl' =>
    rw [List.getElem?_map] at hv
    refine xEA (Option.map_eq_some_iff.mp hv) fun q hq e => ?_
    obtain ⟨s, j⟩ := q
    subst e
    have hj := lookup_of_mem K.std.nd (List.mem_of_getElem? hq)
    have hlt := (K.who j).mp ⟨s, hj⟩
    have hs := set_list (i := j) (v := .int s.1) (get_set (o' := .list xs') hr) (by rw [hl']; exact hlt)
    rw [List.set_set] at hs
    exact ⟨_, _, ss_last (st_set (ev_sub rfl rfl sv0) rfl (ev_sub rfl rfl (tk_get (get_other hb hbr) hj)) hs), .mk _ (some (sv s)) (by rw [List.length_set]; exact hl')⟩) (f := F)
    (l := [some (.loc a), some (.loc b), v2, v3, v4, some (.loc r), none]) (h := h) (by rw [List.length_map]; lia) (by
      have := RowInv.mk (h := h) (a := a) (b := b) (r := r) (L := L) (v2 := v2) (v3 := v3) (v4 := v4) (k := 0) xs none hl
      rwa [set_same hr] at this)
  rwa [List.length_map] at this
theorem run_seated (H : HasS p) (ha : h[a]? = some (.list (ps.map sv))) (hl : ps.length <= 28) : Seated h ps (semF p (n + 3) false "seated" [.loc a] h) := by
  refine xEA (run_in (n := n + 2) (h := h) H.e (as := [.loc a]) [some (.loc a), none, none, none, none, none, none] rfl rfl) fun F hF e1 => ?_
  have lenA : ∀ {h' : AHeap} {l : Locs}, h'[a]? = some (.list (ps.map sv)) -> evalX (cF p (n + 2) F) (.bi .len (.cons (.loc 0) .nil)) (some (.loc a) :: l) h' = .ok (.int ps.length) h' := fun q => ev_bi rfl (ev_one rfl) (len_seats q)
  rw [e1, d_seated, ss_step (l' := [some (.loc a), some (.loc h.length), none, none, none, none, none]) (h' := h ++ [.dict [] 0]) (st_asg rfl)]
  have lp := forLoop_gen (put := put1 2) (body := fun l h => execSs (cF p (n + 2) F) b_seated_1 l h) (src := .rng 0 (ps.length : Nat) 1) (items := rngItems 0 (ps.length : Nat) 1) (SeInv h a ps) (NoRes h ps) (fun k l h' _ => next_rng (lim_le (by lia))) (fun k v l h' hv hI => by
      cases hI with
      | mk t ep v2 v3 v4 h' hb K q =>
      refine xA (up_item hv) fun hk e => ?_
      subst e
      exact ⟨_, rfl, seat_step (n := n) H (q.old _ _ (fun e => nomatch e) ha) hl hb K hk q hF⟩) F 0 [some (.loc a), some (.loc h.length), none, none, none, none, none] (h ++ [.dict [] 0]) (by rw [up_length]; lia) (Nat.zero_le _)
    (.mk [] 0 none none none _ get_new ⟨⟨fun _ _ => rfl, List.nodup_nil, (fun _ _ e => nomatch e), (fun _ _ _ e => nomatch e)⟩, fun k => ⟨(fun ⟨_, e⟩ => nomatch e), fun e => absurd e (Nat.not_lt_zero _)⟩, Nat.zero_le _⟩ Kp.app)
  have er : ∀ {s : SR}, forLoop (put1 2) (fun l h => execSs (cF p (n + 2) F) b_seated_1 l h) (.rng 0 (ps.length : Nat) 1) F 0 [some (.loc a), some (.loc h.length), none, none, none, none, none] (h ++ [.dict [] 0]) = s -> execS (cF p (n + 2) F) (.forr 2 (.range (.cons (.bi .len (.cons (.loc 0) .nil)) .nil)) b_seated_1) [some (.loc a), some (.loc h.length), none, none, none, none, none] (h ++ [.dict [] 0]) = s := fun e => st_for rfl (ev_range (ev_one (lenA (get_old ha))) (range_up (by lia))) e
  rcases lp with ⟨l', h', e2, I2⟩ | R
  . rw [up_length] at I2
    cases I2 with
    | mk t ep v2 v3 v4 h' hb K q =>
    have ha' := q.old _ _ (fun e => nomatch e) ha
    have hm : mulL (listAt (h' ++ [.list [.int 0]]) h'.length) (ps.length : Nat) = some (List.replicate ps.length (.int 0)) := by
      rw [listAt_of get_new]
      show (if _ then _ else _) = _
      rw [if_pos (by rw [Bool.and_eq_true, Bool.and_eq_true, decide_eq_true_eq, decide_eq_true_eq]; exact ⟨⟨rfl, by lia⟩, by lia⟩), Int.toNat_natCast]
    have m1 : evalX (cF p (n + 2) F) (.bin .mul (.list (.cons (.int 0) .nil)) (.bi .len (.cons (.loc 0) .nil))) [some (.loc a), some (.loc h.length), v2, v3, v4, none, none] h' = .ok (.loc (h' ++ [AObj.list [.int 0]]).length) (h' ++ [.list [.int 0]] ++ [.list (List.replicate ps.length (.int 0))]) :=
      ev_bin (ev_list (ev_one rfl) (Nat.le_of_ble_eq_true rfl)) (lenA (get_old ha')) (newListO_ok hm (by rw [List.length_replicate]; exact lim_le (by lia)))
    have q2 : Kp [] h (h' ++ [.list [.int 0]] ++ [.list (List.replicate ps.length (.int 0))]) := (q.trans Kp.app).trans Kp.app
    have hb2 := get_old (g := [.list (List.replicate ps.length (.int 0))]) (get_old (g := [.list [.int 0]]) hb)
    have hr := get_new (h := h' ++ [.list [.int 0]]) (o := .list (List.replicate ps.length (.int 0)))
    have hrl : h.length <= (h' ++ [AObj.list [.int 0]]).length := (q.trans (Kp.app (g := [.list [.int 0]]))).len
    generalize (h' ++ [AObj.list [.int 0]]).length = r at m1 hr hrl
    generalize h' ++ [.list [.int 0]] ++ [.list (List.replicate ps.length (.int 0))] = h2 at m1 q2 hb2 hr
    refine xEEA (row_loop (p := p) (n := n + 2) (F := F) (a := a) (v2 := v2) (v3 := v3) (v4 := v4) hb2 K hr (List.length_replicate ..) (by lia) hF) fun l3 h3 e3 I3 => ?_
    cases I3 with
    | mk xs v6 hxl =>
    rw [ss_step (er e2), ss_step (l' := [some (.loc a), some (.loc h.length), v2, v3, v4, some (.loc r), none]) (st_asg m1), ss_step (st_for rfl (ev_keys rfl (keys_dit hb2)) e3), ss_last (st_ret (ev_tup (ev_cons rfl (ev_one rfl)) (Nat.le_of_ble_eq_true rfl))), retR_ret]
    exact .yes t _ _ K (q2.put hrl)
  . generalize hs : forLoop (put1 2) (fun l h => execSs (cF p (n + 2) F) b_seated_1 l h) (.rng 0 (ps.length : Nat) 1) F 0 [some (.loc a), some (.loc h.length), none, none, none, none, none] (h ++ [.dict [] 0]) = s at R
    cases R with
    | mk t m C v l h' O X hlt hm q =>
    rw [ss_stop (er hs), retR_ret]
    exact .no t m C v h' O X hlt hm q
end
end
section
open PySem Cu
noncomputable def d__law_table : FDef := ⟨1, 4,
  (.cons (.asg 1 (.bin .add (.int 1) (.bin .mod (.call "_law_cell_at" (.cons (.loc 0) (.cons (.int 0) .nil))) (.int 6))))
  (.cons (.iff (.cmp .eq (.bin .mod (.bin .div (.call "_law_cell_at" (.cons (.loc 0) (.cons (.int 0) .nil))) (.int 6)) (.int 8)) (.int 1))
    (.cons (.asg 1 (.bin .add (.int 1) (.bin .mod (.bin .div (.call "_law_cell_at" (.cons (.loc 0) (.cons (.int 0) .nil))) (.int 48)) (.int 1000))))
    .nil)
    .nil)
  (.cons (.asg 2 (.bin .add (.int 1) (.bin .mod (.call "_law_mixed" (.cons (.call "_law_cell_at" (.cons (.loc 0) (.cons (.int 1) .nil))) (.cons (.int 1) .nil))) (.sub (.list (.cons (.int 7) (.cons (.int 1000000) .nil))) (.bin .mod (.call "_law_cell_at" (.cons (.loc 0) (.cons (.int 1) .nil))) (.int 2))))))
  (.cons (.asg 3 (.bin .add (.int 1) (.bin .mod (.call "_law_mixed" (.cons (.call "_law_cell_at" (.cons (.loc 0) (.cons (.int 2) .nil))) (.cons (.int 2) .nil))) (.sub (.list (.cons (.int 9) (.cons (.int 1000000) .nil))) (.bin .mod (.call "_law_cell_at" (.cons (.loc 0) (.cons (.int 2) .nil))) (.int 2))))))
  (.cons (.ret (.tup (.cons (.loc 1) (.cons (.loc 2) (.cons (.loc 3) .nil)))))
  .nil)))))⟩
noncomputable def b__law_homes_1 : Ss :=
  (.cons (.setitem (.loc 2) (.loc 3) (.tup (.cons (.tup (.cons (.int 0) (.cons (.call "_law_home" (.cons (.loc 3) (.cons (.sub (.loc 1) (.int 1)) (.cons (.sub (.loc 1) (.int 0)) .nil)))) .nil))) (.cons (.tup (.cons (.int 1) (.cons (.call "_law_home" (.cons (.loc 3) (.cons (.sub (.loc 1) (.int 2)) (.cons (.sub (.loc 1) (.int 0)) .nil)))) .nil))) .nil))))
  .nil)
noncomputable def d__law_homes : FDef := ⟨2, 4,
  (.cons (.asg 2 .dict0)
  (.cons (.forr 3 (.loc 0) b__law_homes_1)
  (.cons (.ret (.loc 2))
  .nil)))⟩
section
variable {p : Prog} {n : Nat} {h : AHeap} {t d e : Nat} {T : Tb}
noncomputable def keysOf (st : St') : List Seat := st.map (·.1)
theorem walk_st {i ep : Nat} {st : St'} (hd : h[i]? = some (.dict (stK st) ep)) : walkOf h i = some ((keysOf st).map sv) := by
  rw [walk_dict hd, stK, mk, keysOf, List.map_map, List.map_map]; rfl
theorem keys_len {st : St'} : (keysOf st).length = st.length := List.length_map ..
theorem in_keys {st : St'} {s : Seat} (h : s ∈ keysOf st) : ∃ nm, st.lookup s = some nm := by
  rcases hq : st.lookup s with _ | nm
  case some => exact ⟨nm, rfl⟩
  case none => exact absurd h (lookup_none.mp hq)
theorem pick {a b i : Int} (hi : i = 0 \/ i = 1) : ∃ m : Int, (m = a \/ m = b) /\ subAV (.loc h.length) (.int i) (h ++ [.list [.int a, .int b]]) = .ok (.int m) (h ++ [.list [.int a, .int b]]) := by
  have hL : (h ++ [.list [.int a, .int b]])[h.length]? = some (.list [.int a, .int b]) := get_new
  rcases hi with rfl | rfl
  . exact ⟨a, .inl rfl, sub_list (by show 2 <= sizeLim; decide) hL (by decide) rfl⟩
  . exact ⟨b, .inr rfl, sub_list (by show 2 <= sizeLim; decide) hL (by decide) rfl⟩
theorem two_list {a b : Int} : newList [.int a, .int b] h = .ok (.loc h.length) (h ++ [.list [.int a, .int b]]) := newList_ok (by show 2 <= sizeLim; decide)
theorem two_mod (x : Int) : x.fmod 2 = 0 \/ x.fmod 2 = 1 := by have := fmod_bound x (m := 2) (by decide); lia
theorem run_law_table (hp : Prog.has p "_law_cell_at" d__law_cell_at) (hp2 : Prog.has p "_law_mixed" d__law_mixed) (hp3 : Prog.has p "_law_table" d__law_table) {xs : List Int} (hl : xs.length <= 63) :
    ∃ T : Tb, T.Ok /\ ∃ a b, semF p (n + 2) false "_law_table" [.scr xs] h = .ok (.tup [.int T.c, .int T.f, .int T.s]) (h ++ [a, b]) := by
  refine xEA (run_in (n := n + 1) (h := h) hp3 (as := [.scr xs]) [some (.scr xs), none, none, none] rfl rfl) fun F hF e => ?_
  have c0 : ∀ h : AHeap, semF p (n + 1) false "_law_cell_at" [.scr xs, .int 0] h = .ok (.int (cellAt xs 0)) h := fun h => run_cell_at (n := n) (h := h) hp hl 0
  have c1 : ∀ h : AHeap, semF p (n + 1) false "_law_cell_at" [.scr xs, .int 1] h = .ok (.int (cellAt xs 1)) h := fun h => run_cell_at (n := n) (h := h) hp hl 1
  have c2 : ∀ h : AHeap, semF p (n + 1) false "_law_cell_at" [.scr xs, .int 2] h = .ok (.int (cellAt xs 2)) h := fun h => run_cell_at (n := n) (h := h) hp hl 2
  refine xEA (pick (h := h) (a := 7) (b := 1000000) (two_mod (cellAt xs 1))) fun m1 hm1 p1 => ?_
  refine xEA (pick (h := h ++ [.list [.int 7, .int 1000000]]) (a := 9) (b := 1000000) (two_mod (cellAt xs 2))) fun m2 hm2 p2 => ?_
  have b0 := fmod_bound (cellAt xs 0) (m := 6) (by decide)
  have b3 := fmod_bound ((cellAt xs 0).fdiv 48) (m := 1000) (by decide)
  have b1 := fmod_bound (mixed (cellAt xs 1) 1) (m := m1) (by lia)
  have b2 := fmod_bound (mixed (cellAt xs 2) 2) (m := m2) (by lia)
  have hc : ∃ c : Int, 1 <= c /\ c <= 1000 /\ c = (if ((cellAt xs 0).fdiv 6).fmod 8 = 1 then 1 + ((cellAt xs 0).fdiv 48).fmod 1000 else 1 + (cellAt xs 0).fmod 6) := by
    refine ⟨_, ?_, ?_, rfl⟩ <;> split <;> omega
  obtain ⟨c, hc1, hc2, hc⟩ := hc
  refine ⟨⟨c, 1 + (mixed (cellAt xs 1) 1).fmod m1, 1 + (mixed (cellAt xs 2) 2).fmod m2⟩, ⟨hc1, hc2, ?_, ?_, ?_, ?_⟩, .list [.int 7, .int 1000000], .list [.int 9, .int 1000000], ?_⟩
  . show 1 <= 1 + _; omega
  . show 1 + _ <= 1000000; lia
  . show 1 <= 1 + _; omega
  . show 1 + _ <= 1000000; lia
  rw [e, d__law_table]
  refine (congrArg retR ((ss_step (l' := [some (.scr xs), some (.int (1 + (cellAt xs 0).fmod 6)), none, none]) (h' := h) ?_).trans ((ss_step (l' := [some (.scr xs), some (.int c), none, none]) (h' := h) ?_).trans
    ((ss_step (l' := [some (.scr xs), some (.int c), some (.int (1 + (mixed (cellAt xs 1) 1).fmod m1)), none]) (h' := h ++ [.list [.int 7, .int 1000000]]) ?_).trans
    ((ss_step (l' := [some (.scr xs), some (.int c), some (.int (1 + (mixed (cellAt xs 1) 1).fmod m1)), some (.int (1 + (mixed (cellAt xs 2) 2).fmod m2))]) (h' := h ++ [.list [.int 7, .int 1000000]] ++ [.list [.int 9, .int 1000000]]) ?_).trans rfl))))).trans ?_
  . simp only [s_asg, x_int, x_loc, x_bin, x_call, xs_nil, xs_cons, List.set, loc0, okO_some, bok, sok, b_add, c0, b_mod (y := 6) (by decide)]
  . rw [s_iff, hc]
    simp only [ss_cons, ss_nil, s_asg, x_int, x_loc, x_bin, x_cmp, x_call, xs_nil, xs_cons, List.set, loc0, okO_some, bok, sok, turn_next, boolO_some, b_add, c0, b_mod (y := 8) (by decide), b_div (y := 6) (by decide), c_eqi, b_div (y := 48) (by decide), b_mod (y := 1000) (by decide), cond_if]
    split <;> rfl
  . simp only [s_asg, x_int, x_loc, x_bin, x_call, x_sub, x_list, xs_nil, xs_cons, List.set, loc0, okO_some, bok, sok, b_add, c1, run_mixed (n := n) hp2, two_list, b_mod (y := 2) (by decide), p1, b_mod (show m1 ≠ 0 by omega)]
  . simp only [s_asg, x_int, x_loc, x_bin, x_call, x_sub, x_list, xs_nil, xs_cons, List.set, loc0, okO_some, bok, sok, b_add, c2, run_mixed (n := n) hp2, two_list, b_mod (y := 2) (by decide), p2, b_mod (show m2 ≠ 0 by omega)]
  . simp only [ss_cons, ss_nil, s_ret, x_loc, x_tup, xs_nil, xs_cons, List.cons_append, List.nil_append, loc0, locS, okO_some, bok, sok, turn_ret, retR_ret, tup3, List.append_assoc]
inductive HomInv (h : AHeap) (a : Nat) (T : Tb) (ns : List Nm) (k : Nat) : Locs -> AHeap -> Prop
  | mk (v : Option AV) (ks : List (Nm × Nm)) (ep : Nat) (hl : ks.length <= k) (hq : ∀ q ∈ ks, q.1 = q.2) (hk : ∀ nm ∈ ns.take k, (ks.lookup nm).isSome = true) :
      HomInv h a T ns k [some (.loc a), some (.tup [.int T.c, .int T.f, .int T.s]), some (.loc h.length), v] (h ++ [.dict (Mine.Internal.mk .str T.homes ks) ep])
theorem run_law_homes (hp : Prog.has p "_law_home" d__law_home) (hp2 : Prog.has p "_law_homes" d__law_homes) (ok : T.Ok) {a : Nat} {ns : List Nm} (hn : ∀ nm ∈ ns, Good nm) (hl : ns.length <= 100) (ha : h[a]? = some (.list (ns.map .str))) :
    ∃ kvs ep, semF p (n + 2) false "_law_homes" [.loc a, .tup [.int T.c, .int T.f, .int T.s]] h = .ok (.loc h.length) (h ++ [.dict kvs ep]) /\ (∀ nm, sortOk kvs (.str nm) = true) /\ ∀ nm ∈ ns, kvs.lookup (.str nm) = some (T.homes nm) := by
  refine xEA (run_at (n := n + 1) (h := h) hp2 (as := [.loc a, .tup [.int T.c, .int T.f, .int T.s]]) rfl) fun F hF e => ?_
  have := ok.c1
  have := ok.f1
  have := ok.f2
  have := ok.s1
  have := ok.s2
  obtain ⟨l', h', e2, I2⟩ := forLoop_all (i := 3) (src := .loc a) (items := ns.map AV.str) (body := fun l h => execSs (cF p (n + 1) F) b__law_homes_1 l h)
    (HomInv h a T ns) (fun k l h' hI => by cases hI; exact next_list (get_old ha)) (fun k v l h' hv hI => by
      cases hI with
      | mk v' ks ep hkl hq hk =>
      rw [List.getElem?_map] at hv
      refine xEA (Option.map_eq_some_iff.mp hv) fun nm hnm qq1 => ?_; subst qq1
      have G := hn nm (List.mem_of_getElem? hnm)
      have hkn := (List.getElem?_eq_some_iff.mp hnm).1
      have t0 : ∀ h : AHeap, subAV (.tup [.int T.c, .int T.f, .int T.s]) (.int 0) h = .ok (.int T.c) h := fun _ => rfl
      have t1 : ∀ h : AHeap, subAV (.tup [.int T.c, .int T.f, .int T.s]) (.int 1) h = .ok (.int T.f) h := fun _ => rfl
      have t2 : ∀ h : AHeap, subAV (.tup [.int T.c, .int T.f, .int T.s]) (.int 2) h = .ok (.int T.s) h := fun _ => rfl
      refine xE (set_dict (h := h ++ [.dict (mk .str T.homes ks) ep]) (v := T.homes nm) get_new (str_key nm) (mk_sort fun _ _ => rfl) (by rw [mk_length]; unfold sizeLim; lia)) fun ep' hset => ?_
      rw [mk_put ks_inj, set_new] at hset
      have hset : setItemAV (.loc h.length) (.str nm) (.tup [.tup [.int 0, .int (homeOf nm T.f T.c)], .tup [.int 1, .int (homeOf nm T.s T.c)]]) (h ++ [.dict (mk .str T.homes ks) ep]) = some (h ++ [.dict (mk .str T.homes (put ks nm nm)) ep']) := hset
      refine ⟨_, _, ?_, HomInv.mk (some (.str nm)) (put ks nm nm) ep' ?_ ?_ ?_⟩
      . simp only [b__law_homes_1, ss_cons, ss_nil, s_set, x_int, x_loc, x_call, x_sub, x_tup, xs_nil, xs_cons, List.set, loc0, locS, okO_some, bok, sok, turn_next, heapO_some, tup2, t0, t1, t2, run_law_home (n := n) hp G (times := T.f) (count := T.c) (by omega) (by lia), run_law_home (n := n) hp G (times := T.s) (count := T.c) (by omega) (by lia), hset]
      . have := put_length (t := ks) (a := nm) (b := nm)
        split at this <;> lia
      . intro q hq'
        unfold put at hq'
        split at hq'
        . refine xEA (List.mem_map.mp hq') fun r hr qq1 => ?_; subst qq1
          split
          . rename_i hb; exact eq_of_beq hb
          . exact hq r hr
        . rcases List.mem_append.mp hq' with h1 | h1
          . exact hq q h1
          . rcases List.mem_singleton.mp h1 with rfl; rfl
      . intro x hx
        rw [put_lookup]
        split
        . rfl
        . rename_i hne
          rw [List.take_add_one, hnm, Option.toList_some, List.mem_append, List.mem_singleton] at hx
          exact hk x (hx.resolve_right hne)) (f := F)
    (l := [some (.loc a), some (.tup [.int T.c, .int T.f, .int T.s]), some (.loc h.length), none]) (h := h ++ [.dict [] 0]) (by rw [List.length_map]; lia) (HomInv.mk (k := 0) none [] 0 (Nat.le_refl _) (fun q hq => nomatch hq) (fun nm hnm => nomatch hnm))
  cases I2 with
  | mk v ks ep hkl hq hk =>
  rw [List.length_map, List.take_length] at hk
  refine ⟨mk .str T.homes ks, ep, ?_, fun nm => mk_sort fun _ _ => rfl, fun nm hnm => ?_⟩
  . rw [e]
    simp only [d__law_homes, ss_cons, ss_nil, s_ret, s_asg, s_for, x_loc, x_dict0, List.map_cons, List.map_nil, List.cons_append, List.nil_append, List.replicate, List.set, loc0, locS, okO_some, sok, turn_next, turn_ret, Bool.false_eq_true, if_false, retR_ret, e2]
  . refine xE (Option.isSome_iff_exists.mp (hk nm hnm)) fun m hm => ?_
    have hq : nm = m := hq _ (lookup_mem hm)
    rw [mk_lookup ks_inj, hm, <- hq]; rfl
end
end
section
open PySem Cu
noncomputable def b__law_names_1 : Ss :=
  (.cons (.asg 3 (.bin .add (.loc 3) (.sub (.loc 2) (.bin .mod (.bin .div (.call "_law_mixed" (.cons (.loc 0) (.cons (.loc 4) .nil))) (.int 31)) (.int 36)))))
  .nil)
noncomputable def b__law_names_2 : Ss :=
  (.cons (.asg 7 (.call "_law_mixed" (.cons (.loc 0) (.cons (.bin .add (.int 50) (.loc 4)) .nil))))
  (.cons (.asg 8 (.sub (.loc 2) (.bin .mod (.bin .add (.bin .div (.loc 0) (.int 110)) (.loc 4)) (.int 36))))
  (.cons (.iff (.cmp .gt (.bin .mod (.bin .div (.loc 0) (.int 3960)) (.int 3)) (.int 0))
    (.cons (.asg 8 (.bin .add (.bin .add (.sub (.loc 2) (.bin .mod (.bin .div (.loc 7) (.int 7)) (.int 36))) (.sub (.loc 2) (.bin .mod (.bin .div (.loc 7) (.int 301)) (.int 36)))) (.loc 8)))
    .nil)
    .nil)
  (.cons (.expr (.bm .append (.loc 6) (.cons (.bin .add (.bin .add (.slice (.loc 3) .none (.loc 5)) (.loc 8)) (.slice (.loc 3) (.loc 5) .none)) .nil)))
  .nil))))
noncomputable def d__law_names : FDef := ⟨2, 9,
  (.cons (.asg 2 (.str signs))
  (.cons (.asg 3 (.str []))
  (.cons (.forr 4 (.range (.cons (.bin .mod (.loc 0) (.int 10)) .nil)) b__law_names_1)
  (.cons (.asg 5 (.bin .mod (.bin .div (.loc 0) (.int 10)) (.int 11)))
  (.cons (.asg 6 (.list .nil))
  (.cons (.forr 4 (.range (.cons (.loc 1) .nil)) b__law_names_2)
  (.cons (.ret (.loc 6))
  .nil)))))))⟩
section
variable {p : Prog} {n : Nat} {h : AHeap} {t d e : Nat} {T : Tb}
theorem pos_mod (x : Int) {m : Int} (hm : 0 < m) : ∃ k : Nat, x.fmod m = k /\ (k : Int) < m := by
  have := fmod_bound x hm
  exact ⟨(x.fmod m).toNat, by omega, by omega⟩
theorem sign_at (x : Int) : ∃ c, c ∈ signs /\ ∀ h : AHeap, subAV (.str signs) (.int (x.fmod 36)) h = .ok (.str [c]) h := by
  refine xEA (pos_mod x (m := 36) (by decide)) fun k hk hl => ?_
  have hlt : k < signs.length := by rw [signs_len]; omega
  exact ⟨signs[k], List.getElem_mem hlt, fun h => by rw [hk]; exact idx_str signs_fit (List.getElem?_eq_getElem hlt)⟩
theorem slice_to {x : List Nat} {k : Nat} (hl : x.length <= 1000) : sliceAV (.str x) .none (.int k) h = .ok (.str (x.take k)) h := by
  have hc : cutO x .none (.int k) = some (x.take k) := by
    delta cutO
    rw [if_pos (show x.length <= sizeLim from lim_le (by lia))]
    show some (cutList x 0 k) = _
    unfold cutList
    rw [clipAt_nat, show clipAt x.length 0 = 0 from clipAt_nat x.length 0 |>.trans (Nat.zero_min _), List.drop_zero, List.take_eq_take_min (l := x) (i := k)]
  show okO ((cutO x .none (.int k)).map .str) h = _
  rw [hc]; rfl
theorem slice_from {x : List Nat} {k : Nat} (hl : x.length <= 1000) : sliceAV (.str x) (.int k) .none h = .ok (.str (x.drop k)) h := by
  have hc : cutO x (.int k) .none = some (x.drop k) := by
    delta cutO
    rw [if_pos (show x.length <= sizeLim from lim_le (by lia))]
    show some (cutList x k x.length) = _
    unfold cutList
    rw [clipAt_nat, clipAt_nat, Nat.min_self, List.take_length]
    by_cases hk : k <= x.length
    . rw [Nat.min_eq_left hk]
    . rw [Nat.min_eq_right (by lia), List.drop_length, List.drop_eq_nil_of_le (by lia)]
  show okO ((cutO x (.int k) .none).map .str) h = _
  rw [hc]; rfl
noncomputable def AllIn (t : Nm) : Prop := ∀ x ∈ t, x ∈ signs
theorem AllIn.app {a b : Nm} (x : AllIn a) (y : AllIn b) : AllIn (a ++ b) := fun c hc => (List.mem_append.mp hc).elim (x c) (y c)
theorem AllIn.one {c : Nat} (h : c ∈ signs) : AllIn [c] := fun x hx => by rcases List.mem_singleton.mp hx with rfl; exact h
theorem len2 {x y : List Nat} (h1 : x.length <= 100) (h2 : y.length <= 100) : x.length + y.length <= sizeLim := by unfold sizeLim; lia
theorem names_one (hp : Prog.has p "_law_mixed" d__law_mixed) {c : Int} {m : Nat} {F : Nat} {base : Nm} (hb : base.length <= 9) (ab : AllIn base) {at' : Nat} {j : Nat} {many k : Nat} {v7 v8 : Option AV} {ns : List Nm} (hj : h[j]? = some (.list (ns.map .str))) (hl : ns.length <= 900) :
    ∃ nm, Good nm /\ ∃ v7' v8', execSs (cF p (n + 1) F) b__law_names_2 [some (.int c), some (.int many), some (.str signs), some (.str base), some (.int k), some (.int at'), some (.loc j), v7, v8] h =
      .ok .next [some (.int c), some (.int many), some (.str signs), some (.str base), some (.int k), some (.int at'), some (.loc j), v7', v8'] (h.set j (.list ((ns ++ [nm]).map .str))) := by
  have em := run_mixed (n := n) (h := h) hp c (50 + k)
  generalize mixed c (50 + k) = mx at em
  refine xEA (sign_at (c.fdiv 110 + k)) fun c1 hc1 e1 => ?_
  refine xEA (sign_at (mx.fdiv 7)) fun c2 hc2 e2 => ?_
  refine xEA (sign_at (mx.fdiv 301)) fun c3 hc3 e3 => ?_
  have tl : (base.take at').length <= 9 := by rw [List.length_take]; lia
  have fin : ∀ sg : Nm, AllIn sg -> 1 <= sg.length -> sg.length <= 3 -> ∃ nm, Good nm /\ ∀ v7 : Option AV, execS (cF p (n + 1) F) (.expr (.bm .append (.loc 6) (.cons (.bin .add (.bin .add (.slice (.loc 3) .none (.loc 5)) (.loc 8)) (.slice (.loc 3) (.loc 5) .none)) .nil))) [some (.int c), some (.int many), some (.str signs), some (.str base), some (.int k), some (.int at'), some (.loc j), v7, some (.str sg)] h =
      .ok .next [some (.int c), some (.int many), some (.str signs), some (.str base), some (.int k), some (.int at'), some (.loc j), v7, some (.str sg)] (h.set j (.list ((ns ++ [nm]).map .str))) := by
    intro sg ag h1 h3
    have l1 : (base.take at' ++ sg).length <= 12 := by rw [List.length_append]; lia
    have l2 : (base.take at' ++ sg ++ base.drop at').length = base.length + sg.length := by
      rw [List.length_append, List.length_append, List.length_take, List.length_drop]; omega
    refine ⟨base.take at' ++ sg ++ base.drop at', ⟨by lia, by lia, AllIn.app (AllIn.app (fun x hx => ab x (List.mem_of_mem_take hx)) ag) fun x hx => ab x (List.mem_of_mem_drop hx)⟩, fun v7 => ?_⟩
    have hap : bmAV .append (.loc j) [.str (base.take at' ++ sg ++ base.drop at')] h = .ok .none (h.set j (.list ((ns ++ [base.take at' ++ sg ++ base.drop at']).map .str))) := by
      rw [show bmAV .append (.loc j) [.str (base.take at' ++ sg ++ base.drop at')] h = _ from append_ok hj (lim_lt (by rw [List.length_map]; lia)), List.map_append]; rfl
    simp only [s_expr, x_none, x_loc, x_bin, x_bm, x_slice, xs_nil, xs_cons, loc0, locS, okO_some, bok, sok, if_true, bmOk_append hj, slice_to (show base.length <= 1000 by lia), slice_from (show base.length <= 1000 by lia), b_adds (x := base.take at') (y := sg) (len2 (by lia) (by lia)), b_adds (x := base.take at' ++ sg) (y := base.drop at') (len2 (by lia) (by rw [List.length_drop]; lia)), hap]
  by_cases hq : 0 < (c.fdiv 3960).fmod 3
  . refine xEA (fin [c2, c3, c1] (AllIn.app (a := [c2, c3]) (AllIn.app (a := [c2]) (.one hc2) (.one hc3)) (.one hc1)) (by show 1 <= 3; decide) (by show 3 <= 3; decide)) fun nm G ef => ?_
    refine ⟨nm, G, some (.int mx), some (.str [c2, c3, c1]), ?_⟩
    rw [b__law_names_2]
    refine (ss_step (l' := [some (.int c), some (.int many), some (.str signs), some (.str base), some (.int k), some (.int at'), some (.loc j), some (.int mx), v8]) (h' := h) ?_).trans
      ((ss_step (l' := [some (.int c), some (.int many), some (.str signs), some (.str base), some (.int k), some (.int at'), some (.loc j), some (.int mx), some (.str [c1])]) (h' := h) ?_).trans
      ((ss_step (l' := [some (.int c), some (.int many), some (.str signs), some (.str base), some (.int k), some (.int at'), some (.loc j), some (.int mx), some (.str [c2, c3, c1])]) (h' := h) ?_).trans (ss_one (ef _))))
    . simp only [s_asg, x_int, x_loc, x_bin, x_call, xs_nil, xs_cons, List.set, loc0, locS, okO_some, bok, sok, b_add, em]
    . simp only [s_asg, x_int, x_loc, x_bin, x_sub, List.set, loc0, locS, okO_some, bok, sok, b_add, b_div (y := 110) (by decide), b_mod (y := 36) (by decide), e1]
    . rw [s_iff]
      simp only [ss_cons, ss_nil, s_asg, x_int, x_loc, x_bin, x_cmp, x_sub, List.cons_append, List.nil_append, List.set, loc0, locS, okO_some, bok, sok, turn_next, boolO_some, cond_t, b_div (y := 3960) (by decide), b_div (y := 7) (by decide), b_div (y := 301) (by decide), b_mod (y := 3) (by decide), b_mod (y := 36) (by decide), c_gt, decide_eq_true hq, e2, e3, b_adds (x := [c2]) (y := [c3]) (by show 2 <= sizeLim; decide), b_adds (x := [c2, c3]) (y := [c1]) (by show 3 <= sizeLim; decide)]
  . refine xEA (fin [c1] (.one hc1) (by show 1 <= 1; decide) (by show 1 <= 3; decide)) fun nm G ef => ?_
    refine ⟨nm, G, some (.int mx), some (.str [c1]), ?_⟩
    rw [b__law_names_2]
    refine (ss_step (l' := [some (.int c), some (.int many), some (.str signs), some (.str base), some (.int k), some (.int at'), some (.loc j), some (.int mx), v8]) (h' := h) ?_).trans
      ((ss_step (l' := [some (.int c), some (.int many), some (.str signs), some (.str base), some (.int k), some (.int at'), some (.loc j), some (.int mx), some (.str [c1])]) (h' := h) ?_).trans
      ((ss_step (l' := [some (.int c), some (.int many), some (.str signs), some (.str base), some (.int k), some (.int at'), some (.loc j), some (.int mx), some (.str [c1])]) (h' := h) ?_).trans (ss_one (ef _))))
    . simp only [s_asg, x_int, x_loc, x_bin, x_call, xs_nil, xs_cons, List.set, loc0, locS, okO_some, bok, sok, b_add, em]
    . simp only [s_asg, x_int, x_loc, x_bin, x_sub, List.set, loc0, locS, okO_some, bok, sok, b_add, b_div (y := 110) (by decide), b_mod (y := 36) (by decide), e1]
    . rw [s_iff]
      simp only [ss_cons, ss_nil, s_asg, x_int, x_loc, x_bin, x_cmp, x_sub, List.set, loc0, locS, okO_some, bok, sok, boolO_some, cond_f, b_div (y := 3960) (by decide), b_mod (y := 3) (by decide), c_gt, decide_eq_false hq]
inductive BaseInv (h : AHeap) (c : Int) (many : Nat) (k : Nat) : Locs -> AHeap -> Prop
  | mk (base : Nm) (v4 : Option AV) (hl : base.length = k) (ha : AllIn base) : BaseInv h c many k [some (.int c), some (.int many), some (.str signs), some (.str base), v4, none, none, none, none] h
inductive NamInv (h : AHeap) (c : Int) (many : Nat) (base : Nm) (at' : Nat) (k : Nat) : Locs -> AHeap -> Prop
  | mk (ns : List Nm) (v4 v7 v8 : Option AV) (hl : ns.length = k) (hg : ∀ nm ∈ ns, Good nm) : NamInv h c many base at' k [some (.int c), some (.int many), some (.str signs), some (.str base), v4, some (.int at'), some (.loc h.length), v7, v8] (h ++ [.list (ns.map .str)])
theorem run_law_names (hp : Prog.has p "_law_mixed" d__law_mixed) (hp2 : Prog.has p "_law_names" d__law_names) (c : Int) {many : Nat} (hm : many <= 100) :
    ∃ ns : List Nm, ns.length = many /\ (∀ nm ∈ ns, Good nm) /\ semF p (n + 2) false "_law_names" [.int c, .int many] h = .ok (.loc h.length) (h ++ [.list (ns.map .str)]) := by
  refine xEA (run_in (n := n + 1) (h := h) hp2 (as := [.int c, .int many]) [some (.int c), some (.int many), none, none, none, none, none, none, none] rfl rfl) fun F hF e => ?_
  refine xEA (pos_mod c (m := 10) (by decide)) fun k0 hk0 hk0' => ?_
  refine xEA (pos_mod (c.fdiv 10) (m := 11) (by decide)) fun at' hat _ => ?_
  obtain ⟨l1, h1, e1, I1⟩ := forLoop_all (i := 4) (src := .rng 0 k0 1) (items := rngItems 0 k0 1) (body := fun l h => execSs (cF p (n + 1) F) b__law_names_1 l h)
    (BaseInv h c many) (fun k l h' _ => next_rng (lim_le (by omega))) (fun k v l h' hv hI => by
      cases hI with
      | mk base v4 hbl hba =>
      refine xA (up_item hv) fun hk qq1 => ?_; subst qq1
      refine xEA (sign_at ((mixed c k).fdiv 31)) fun c1 hc1 e1 => ?_
      refine ⟨_, _, ?_, BaseInv.mk (base ++ [c1]) (some (.int k)) (by rw [List.length_append, hbl]; rfl) (hba.app (.one hc1))⟩
      simp only [b__law_names_1, ss_cons, ss_nil, s_asg, x_int, x_loc, x_bin, x_call, x_sub, xs_nil, xs_cons, List.set, loc0, locS, okO_some, bok, sok, turn_next, run_mixed (n := n) hp c k, b_div (y := 31) (by decide), b_mod (y := 36) (by decide), e1, b_adds (x := base) (y := [c1]) (len2 (by lia) (by show 1 <= 100; decide))]) (f := F)
    (l := [some (.int c), some (.int many), some (.str signs), some (.str []), none, none, none, none, none]) (h := h) (by rw [up_length]; omega) (BaseInv.mk [] none rfl (fun x hx => nomatch hx))
  cases I1 with
  | mk base v4 hbl hba =>
  rw [up_length] at hbl
  have hb9 : base.length <= 9 := by lia
  obtain ⟨l2, h2, e2, I2⟩ := forLoop_all (i := 4) (src := .rng 0 many 1) (items := rngItems 0 many 1) (body := fun l h => execSs (cF p (n + 1) F) b__law_names_2 l h)
    (NamInv h c many base at') (fun k l h' _ => next_rng (lim_le (by lia))) (fun k v l h' hv hI => by
      cases hI with
      | mk ns v4 v7 v8 hnl hng =>
      refine xA (up_item hv) fun hk qq1 => ?_; subst qq1
      refine xEAEE (names_one (n := n) (F := F) (c := c) (m := 0) (base := base) (at' := at') (j := h.length) (many := many) (k := k) (v7 := v7) (v8 := v8) (ns := ns) hp hb9 hba get_new (by lia)) fun nm G v7' v8' e3 => ?_
      rw [set_new] at e3
      exact ⟨_, _, e3, NamInv.mk (ns ++ [nm]) (some (.int k)) v7' v8' (by rw [List.length_append, hnl]; rfl) fun x hx => (List.mem_append.mp hx).elim (hng x) fun q => by rcases List.mem_singleton.mp q with rfl; exact G⟩) (f := F)
    (l := [some (.int c), some (.int many), some (.str signs), some (.str base), v4, some (.int at'), some (.loc h.length), none, none]) (h := h ++ [.list []]) (by rw [up_length]; lia) (NamInv.mk (k := 0) [] v4 none none rfl (fun nm hnm => nomatch hnm))
  cases I2 with
  | mk ns v4' v7 v8 hnl hng =>
  rw [up_length] at hnl
  refine ⟨ns, hnl, hng, ?_⟩
  rw [e, d__law_names]
  simp only [ss_cons, ss_nil, s_ret, s_asg, s_for, x_int, x_str, x_loc, x_bin, x_list, x_range, xs_nil, xs_cons, List.set, loc0, locS, okO_some, bok, sok, turn_next, turn_ret, Bool.false_eq_true, if_false, retR_ret, b_mod (y := 10) (by decide), b_div (y := 10) (by decide), b_mod (y := 11) (by decide), hk0, hat, range_up (show k0 <= 1000 by lia), range_up (show many <= 1000 by lia), e1, newList_ok (vs := []) (by show 0 <= _; exact Nat.zero_le _), e2]
end
end
section
open PySem PySem.Spec PyProof.Rows PySem.W
section
variable {lt : Nat -> Nat -> Bool} {n : Nat} {p : Array Nat}
theorem runT_bind {α β : Type} {f : α -> KasT β} : ∀ t : KasT α, runT lt (t.bind f) = runT lt (f (runT lt t))
  | .ret _ => rfl
  | .ask i j k => runT_bind (k (lt i j))
structure Lin (lt : Nat -> Nat -> Bool) (n : Nat) : Prop where
  tr : ∀ i j k, i < n -> j < n -> k < n -> lt i j = true -> lt j k = true -> lt i k = true
  tot : ∀ i j, i < n -> j < n -> i ≠ j -> lt i j = false -> lt j i = true
abbrev at0 (p : Array Nat) (i : Nat) : Nat := p.getD i 0
theorem at0_of (h : p[i]? = some x) : at0 p i = x := by rw [at0, Array.getD_eq_getD_getElem?, h]; rfl
theorem Bd.ne (b : Bd n p) (hi : i < n) (hj : j < n) (h : i ≠ j) : at0 p i ≠ at0 p j := by
  have nd : p.toList.Nodup := b.same.nodup_iff.mpr List.nodup_range
  have hs := b.size
  intro e
  have e' : p.toList[i]? = p.toList[j]? := by
    have h1 := Array.getElem?_eq_getElem (xs := p) (show i < p.size by lia)
    have h2 := Array.getElem?_eq_getElem (xs := p) (show j < p.size by lia)
    rw [at0_of h1, at0_of h2] at e
    rw [Array.getElem?_toList, Array.getElem?_toList, h1, h2, e]
  exact h ((List.getElem?_inj (by rw [Array.length_toList]; lia) nd).mp e')
noncomputable def Asc (lt : Nat -> Nat -> Bool) (p : Array Nat) (k : Nat) : Prop := ∀ i j, i < j -> j < k -> lt (at0 p i) (at0 p j) = true
noncomputable def Desc (lt : Nat -> Nat -> Bool) (p : Array Nat) (k : Nat) : Prop := ∀ i j, i < j -> j < k -> lt (at0 p j) (at0 p i) = true
theorem asc_step (L : Lin lt n) (b : Bd n p) (h : Asc lt p k) (h1 : 1 <= k) (hk : k < n) (hq : lt (at0 p k) (at0 p (k - 1)) = false) : Asc lt p (k + 1) := fun i j hij hj => by
  by_cases e : j = k
  . subst e
    have last : lt (at0 p (j - 1)) (at0 p j) = true := L.tot _ _ (b.get _) (b.get _) (b.ne hk (by omega) (by lia)) hq
    by_cases ei : i = j - 1
    . rw [ei]; exact last
    . exact L.tr _ _ _ (b.get _) (b.get _) (b.get _) (h i (j - 1) (by lia) (by omega)) last
  . exact h i j hij (by lia)
theorem desc_step (L : Lin lt n) (b : Bd n p) (h : Desc lt p k) (h1 : 1 <= k) (hk : k < n) (hq : lt (at0 p k) (at0 p (k - 1)) = true) : Desc lt p (k + 1) := fun i j hij hj => by
  by_cases e : j = k
  . subst e
    by_cases ei : i = j - 1
    . rw [ei]; exact hq
    . exact L.tr _ _ _ (b.get _) (b.get _) (b.get _) hq (h i (j - 1) (by lia) (by omega))
  . exact h i j hij (by lia)
theorem asc_run (L : Lin lt n) (b : Bd n p) : ∀ f m, 1 <= m -> m + f <= n -> Asc lt p m -> m <= runT lt (kas_asc p f m) /\ runT lt (kas_asc p f m) <= m + f /\ Asc lt p (runT lt (kas_asc p f m)) /\ (runT lt (kas_asc p f m) = m + f \/ lt (at0 p (runT lt (kas_asc p f m))) (at0 p (runT lt (kas_asc p f m) - 1)) = true)
  | 0, m, _, _, h => ⟨Nat.le_refl _, Nat.le_refl _, h, .inl rfl⟩
  | f + 1, m, h1, hm, h => by
    have e : runT lt (kas_asc p (f + 1) m) = runT lt (if lt (at0 p m) (at0 p (m - 1)) = true then .ret m else kas_asc p f (m + 1)) := rfl
    rcases hq : lt (at0 p m) (at0 p (m - 1)) with _ | _
    case true => rw [hq] at e; rw [e]; exact ⟨Nat.le_refl _, Nat.le_add_right _ _, h, .inr hq⟩
    case false =>
      rw [hq] at e
      rw [show runT lt (kas_asc p (f + 1) m) = runT lt (kas_asc p f (m + 1)) from e]
      refine xAAA (asc_run L b f (m + 1) (by lia) (by lia) (asc_step L b h h1 (by lia) hq)) fun a1 a2 a3 a4 => ?_
      exact ⟨by lia, by lia, a3, a4.imp (fun q => by lia) id⟩
theorem desc_run (L : Lin lt n) (b : Bd n p) : ∀ f m, 1 <= m -> m + f <= n -> Desc lt p m -> ∃ r, runT lt (kas_desc f p m 0) = (p, r, 0) /\ m <= r /\ r <= m + f /\ Desc lt p r
  | 0, m, _, _, h => ⟨m, rfl, Nat.le_refl _, Nat.le_refl _, h⟩
  | f + 1, m, h1, hm, h => by
    rcases hq : lt (at0 p m) (at0 p (m - 1)) with _ | _
    case true =>
      have e : runT lt (kas_desc (f + 1) p m 0) = runT lt (kas_desc f p (m + 1) 0) := by
        show runT lt (if lt (at0 p m) (at0 p (m - 1)) = true then _ else _) = _
        rw [hq]; rfl
      refine xEAAA (desc_run L b f (m + 1) (by lia) (by lia) (desc_step L b h h1 (by lia) hq)) fun r a1 a2 a3 a4 => ?_
      exact ⟨r, e.trans a1, by lia, by lia, a4⟩
    case false =>
      have hd : lt (at0 p (m - 1)) (at0 p m) = true := L.tot _ _ (b.get _) (b.get _) (b.ne (by lia) (by lia) (by lia)) hq
      refine ⟨m, ?_, Nat.le_refl _, by lia, h⟩
      show runT lt (if lt (at0 p m) (at0 p (m - 1)) = true then _ else KasT.ask (at0 p (m - 1)) (at0 p m) _) = _
      rw [hq]
      show runT lt (if lt (at0 p (m - 1)) (at0 p m) = true then _ else _) = _
      rw [hd]; rfl
theorem rev_at (hk : k <= p.size) (hi : i < k) : at0 (kas_rev p 0 k) i = at0 p (k - 1 - i) := by
  have := getElem?_mirror_all (xs := p) (i := 0) (j := k) hk i
  rw [if_pos ⟨Nat.zero_le _, hi⟩] at this
  unfold kas_rev at0
  rw [Array.getD_eq_getD_getElem?, Array.getD_eq_getD_getElem?, this]
  congr 2
  lia
theorem tail_run (L : Lin lt n) (b : Bd n p) {k : Nat} (h1 : 1 <= k) (hk : k <= n) (h : Desc lt p k) : ∃ m q, runT lt (kas_tail3 k n p) = (m, q) /\ Bd n q /\ 1 <= m /\ m <= n /\ Asc lt q m := by
  have b' := b.rev 0 k
  have ha : Asc lt (kas_rev p 0 k) k := fun i j hij hj => by
    rw [rev_at (by rw [b.size]; exact hk) (by lia), rev_at (by rw [b.size]; exact hk) hj]
    exact h _ _ (by omega) (by omega)
  refine xAAA (asc_run L b' (n - k) k h1 (by lia) ha) fun a1 a2 a3 _ => ?_
  refine ⟨_, _, runT_bind _, b', by lia, by lia, a3⟩
theorem count_run (L : Lin lt n) (b : Bd n p) : ∃ m q, runT lt (kas_count n p) = (m, q) /\ Bd n q /\ 1 <= m /\ m <= n /\ Asc lt q m := by
  have hp := b.pos
  have a0 : Asc lt p 1 := fun i j _ _ => by omega
  refine xAAA (asc_run L b (n - 1) 1 (Nat.le_refl _) (by omega) a0) fun a1 a2 a3 a4 => ?_
  have e : runT lt (kas_count n p) = _ := runT_bind (kas_asc p (n - 1) 1)
  rw [e]
  generalize runT lt (kas_asc p (n - 1) 1) = r at a1 a2 a3 a4
  by_cases hr : r = n
  . subst hr
    exact ⟨r, p, by rw [if_pos (beq_self_eq_true r)]; rfl, b, a1, Nat.le_refl _, a3⟩
  . rw [if_neg (by simpa using hr)]
    by_cases h2 : r > 1
    . rw [if_pos h2]
      have hc := a3 0 (r - 1) (by omega) (by omega)
      refine ⟨r, p, ?_, b, a1, by lia, a3⟩
      show runT lt (if lt (at0 p 0) (at0 p (r - 1)) = true then _ else _) = _
      rw [hc]; rfl
    . rw [if_neg h2]
      have hr1 : r = 1 := by lia
      subst hr1
      have hq := a4.resolve_left (by lia)
      have d1 : Desc lt p 1 := fun i j _ _ => by omega
      have d2 := desc_step L b d1 (Nat.le_refl _) (by lia) hq
      refine xEAAA (desc_run L b (n - (1 + 1)) (1 + 1) (by lia) (by lia) d2) fun k e1 k1 k2 k3 => ?_
      refine xEEA (tail_run L b (k := k) (by lia) (by lia) k3) fun m q t1 t2 => ?_
      refine ⟨m, q, ?_, t2⟩
      unfold kas_descPart
      rw [runT_bind, e1]
      exact t1
theorem place_run (L : Lin lt n) (b : Bd n p) (hk : k < n) (h : Asc lt p k) : ∀ f l r, r - l <= f -> l <= r -> r <= k -> (∀ i, i < l -> lt (at0 p i) (at0 p k) = true) -> (∀ i, r <= i -> i < k -> lt (at0 p k) (at0 p i) = true) ->
    runT lt (kas_place p k f l r) <= k /\ (∀ i, i < runT lt (kas_place p k f l r) -> lt (at0 p i) (at0 p k) = true) /\ (∀ i, runT lt (kas_place p k f l r) <= i -> i < k -> lt (at0 p k) (at0 p i) = true)
  | 0, l, r, hf, hl, hr, h1, h2 => ⟨by show l <= k; lia, h1, fun i hi hik => h2 i (by have : l <= i := hi; lia) hik⟩
  | f + 1, l, r, hf, hl, hr, h1, h2 => by
    unfold kas_place
    by_cases hlr : l >= r
    . rw [if_pos hlr]
      exact ⟨by show l <= k; lia, h1, fun i hi hik => h2 i (by have : l <= i := hi; lia) hik⟩
    . rw [if_neg hlr]
      generalize hm : (l + r) / 2 = m
      have hm1 : l <= m := by lia
      have hm2 : m < r := by lia
      show runT lt (if lt (at0 p k) (at0 p m) = true then _ else _) <= k /\ (∀ i, i < runT lt (if lt (at0 p k) (at0 p m) = true then _ else _) -> _) /\ (∀ i, runT lt (if lt (at0 p k) (at0 p m) = true then _ else _) <= i -> _)
      rcases hq : lt (at0 p k) (at0 p m) with _ | _
      case true =>
        exact place_run L b hk h f l m (by lia) hm1 (by lia) h1 fun i hi hik => by
          by_cases e : i = m
          . rw [e]; exact hq
          . exact L.tr _ _ _ (b.get _) (b.get _) (b.get _) hq (h m i (by lia) hik)
      case false =>
        have hq' : lt (at0 p m) (at0 p k) = true := L.tot _ _ (b.get _) (b.get _) (b.ne hk (by lia) (by omega)) hq
        exact place_run L b hk h f (m + 1) r (by omega) (by lia) hr (fun i hi => by
          by_cases e : i = m
          . rw [e]; exact hq'
          . exact L.tr _ _ _ (b.get _) (b.get _) (b.get _) (h i m (by lia) (by lia)) hq') h2
theorem bubble_at (hk : k < p.size) (hl : l <= k) : at0 (bubble p k (k - l)) i = if i = l then at0 p k else if l < i /\ i <= k then at0 p (i - 1) else at0 p i := by
  have := getElem?_bubble hk (k - l) (by lia) i
  rw [show k - (k - l) = l by lia] at this
  rw [at0, Array.getD_eq_getD_getElem?, this]
  by_cases h1 : i = l
  . rw [if_pos h1, if_pos h1, at0, Array.getD_eq_getD_getElem?]
  . rw [if_neg h1, if_neg h1]
    by_cases h2 : l < i /\ i <= k
    . rw [if_pos h2, if_pos h2, at0, Array.getD_eq_getD_getElem?]
    . rw [if_neg h2, if_neg h2, at0, Array.getD_eq_getD_getElem?]
theorem bin_run (L : Lin lt n) : ∀ f (p : Array Nat) k, Bd n p -> 1 <= k -> k + f = n -> Asc lt p k -> Asc lt (runT lt (kas_bin f p k)) n
  | 0, p, k, b, _, hk, h => by rw [<- hk]; exact h
  | f + 1, p, k, b, h1, hk, h => by
    have e : runT lt (kas_bin (f + 1) p k) = runT lt (kas_bin f (bubble p k (k - runT lt (kas_place p k k 0 k))) (k + 1)) := runT_bind _
    refine xAA (place_run L b (show k < n by lia) h k 0 k (by lia) (Nat.zero_le _) (Nat.le_refl _) (fun i hi => absurd hi (Nat.not_lt_zero _)) (fun i hi hik => by lia)) fun x1 x2 x3 => ?_
    rw [e]
    generalize runT lt (kas_place p k k 0 k) = l at x1 x2 x3
    refine bin_run L f _ (k + 1) (b.perm (bubble_perm ..)) (by lia) (by lia) fun i j hij hj => ?_
    have hs : k < p.size := by rw [b.size]; lia
    rw [bubble_at hs x1, bubble_at hs x1]
    by_cases i1 : i = l
    . rw [if_pos i1, if_neg (by lia), if_pos (by lia)]
      exact x3 _ (by lia) (by lia)
    . rw [if_neg i1]
      by_cases j1 : j = l
      . rw [if_pos j1, if_neg (by lia)]
        exact x2 i (by lia)
      . rw [if_neg j1]
        by_cases i2 : l < i /\ i <= k
        . rw [if_pos i2, if_pos (by lia)]
          exact h _ _ (by omega) (by lia)
        . rw [if_neg i2]
          by_cases j2 : l < j /\ j <= k
          . rw [if_pos j2]
            by_cases e2 : i = j - 1
            . lia
            . exact h _ _ (by lia) (by lia)
          . rw [if_neg j2]
            exact h _ _ hij (by lia)
theorem sort_run (L : Lin lt n) (hn : 0 < n) : Asc lt (runT lt (kas_sort n)) n := by
  refine xEEAAAA (count_run L (p := (List.range n).toArray) ⟨hn, List.Perm.refl _⟩) fun m q e b h1 h2 ha => ?_
  have e2 : runT lt (kas_sort n) = _ := runT_bind (kas_count n (List.toArray (List.range n)))
  rw [e2, e]
  dsimp only
  split
  . have hm : max m 1 = m := by omega
    rw [hm]
    exact bin_run L _ _ _ b h1 (by lia) ha
  . have : m = n := by lia
    subst this
    exact ha
end
noncomputable def sortK (ks : List (Int × Int)) : List (Int × Int) := if ks.length < 2 then ks else (orderOf ks).map (atP ks)
theorem lex_tr (h1 : lexLt a b = true) (h2 : lexLt b c = true) : lexLt a c = true := by
  unfold lexLt at *
  simp only [Bool.or_eq_true, Bool.and_eq_true, decide_eq_true_eq] at *
  lia
theorem lex_tot (h : a ≠ b) (h1 : lexLt a b = false) : lexLt b a = true := by
  have h : ¬ (a.1 = b.1 /\ a.2 = b.2) := fun q => h (Prod.ext q.1 q.2)
  unfold lexLt at *
  simp only [Bool.or_eq_true, Bool.and_eq_true, decide_eq_true_eq, Bool.or_eq_false_iff, Bool.and_eq_false_iff, decide_eq_false_iff_not] at *
  lia
theorem lex_anti (h1 : lexLt a b = true) (h2 : lexLt b a = true) : False := by
  unfold lexLt at *
  simp only [Bool.or_eq_true, Bool.and_eq_true, decide_eq_true_eq] at *
  lia
theorem atP_at (hi : i < ks.length) : atP ks i = ks[i] := by
  unfold atP
  rw [List.getD_eq_getElem?_getD, List.getElem?_eq_getElem hi]; rfl
theorem lin_lex (nd : ks.Nodup) : Lin (fun i j => lexLt (atP ks i) (atP ks j)) ks.length :=
  ⟨fun i j k _ _ _ h1 h2 => lex_tr h1 h2, fun i j hi hj hne h => lex_tot (fun e => by
    rw [atP_at hi, atP_at hj] at e
    exact hne ((List.getElem?_inj hi nd).mp (by rw [List.getElem?_eq_getElem hi, List.getElem?_eq_getElem hj, e]))) h⟩
theorem sortK_pw (nd : ks.Nodup) : (sortK ks).Pairwise fun a b => lexLt a b = true := by
  unfold sortK
  split
  . rename_i h
    match ks, h with
    | [], _ => exact .nil
    | [a], _ => exact List.pairwise_singleton _ _
    | _ :: _ :: _, h => exact absurd h (by simp)
  . rename_i h
    have A := sort_run (lin_lex nd) (by omega)
    have b := (sort_ok (n := ks.length) (by omega)).run (lt := fun i j => lexLt (atP ks i) (atP ks j))
    rw [List.pairwise_map, List.pairwise_iff_getElem]
    intro i j hi hj hij
    have hs := b.size
    have hj' : j < ks.length := by rw [<- hs, <- Array.length_toList]; exact hj
    have h1 := A i j hij hj'
    have g : ∀ k (hk : k < (orderOf ks).length), (orderOf ks)[k] = at0 (runT (fun i j => lexLt (atP ks i) (atP ks j)) (kas_sort ks.length)) k := fun k hk => by
      refine (at0_of ?_).symm
      rw [<- Array.getElem?_toList]
      exact List.getElem?_eq_getElem hk
    rw [g i hi, g j hj]
    exact h1
theorem sortK_perm : (sortK ks).Perm ks := by
  unfold sortK
  split
  . exact .refl _
  . have := (order_perm (ps := ks) (by omega)).map (atP ks)
    refine this.trans (.of_eq ?_)
    refine List.ext_getElem? fun i => ?_
    rw [List.getElem?_map]
    by_cases hi : i < ks.length
    . rw [List.getElem?_range hi, List.getElem?_eq_getElem hi]
      exact congrArg some (atP_at hi)
    . rw [List.getElem?_eq_none (by rw [List.length_range]; lia), List.getElem?_eq_none (by lia)]; rfl
theorem sortK_one (hp : ks.Perm js) (nd : ks.Nodup) : sortK ks = sortK js :=
  List.Perm.eq_of_pairwise (fun a b _ _ h1 h2 => (lex_anti h1 h2).elim) (sortK_pw nd) (sortK_pw (hp.nodup_iff.mp nd)) (sortK_perm.trans (hp.trans sortK_perm.symm))
end
section
open PySem Cu
noncomputable def b_crowd_1 : Ss :=
  (.cons (.setitem (.loc 2) (.loc 4) (.bool true))
  .nil)
noncomputable def b_crowd_2 : Ss :=
  (.cons (.forr 4 (.im "way" (.loc 0) (.cons (.loc 3) .nil)) b_crowd_1)
  .nil)
noncomputable def d_crowd : FDef := ⟨2, 6,
  (.cons (.expr (.call "need_name" (.cons (.loc 1) .nil)))
  (.cons (.iff (.or (.cmp .isin (.loc 1) (.attr "things" (.loc 0))) (.isn false (.im "best_way" (.loc 0) (.cons (.loc 1) .nil))))
    (.cons (.ret .none)
    .nil)
    .nil)
  (.cons (.asg 2 .dict0)
  (.cons (.forr 3 (.im "homes" (.loc 0) (.cons (.loc 1) .nil)) b_crowd_2)
  (.cons (.asg 5 (.comp (.sub (.attr "standing" (.loc 0)) (.loc 6)) 1 6 (.keys (.loc 2)) .nil))
  (.cons (.ret (.tup (.cons (.bi .sorted (.cons (.bin .add (.loc 5) (.list (.cons (.loc 1) .nil))) .nil)) (.cons (.bi .sorted (.cons (.loc 2) .nil)) .nil))))
  .nil))))))⟩
noncomputable def d_value : FDef := ⟨2, 2,
  (.cons (.expr (.im "need_there" (.loc 0) (.cons (.loc 1) .nil)))
  (.cons (.ret (.sub (.attr "things" (.loc 0)) (.loc 1)))
  .nil))⟩
noncomputable def d_names : FDef := ⟨1, 1,
  (.cons (.ret (.comp (.sub (.attr "standing" (.loc 0)) (.loc 1)) 1 1 (.bi .sorted (.cons (.attr "standing" (.loc 0)) .nil)) .nil))
  .nil)⟩
structure HasN (p : Prog) : Prop extends HasP p where
  crowd : Prog.has p "crowd" d_crowd
  value : Prog.has p "value" d_value
  names : Prog.has p "names" d_names
section
variable {p : Prog} {n : Nat} {h h' : AHeap} {t d e : Nat} {T : Tb} {st : St'} {th : Th} {nm : Nm} {v : Int}
theorem nk0 : ∀ x : Nat, x ∉ ([] : List Nat) := fun _ e => nomatch e
theorem Sit.keep (S : Sit h t d e T st th) (k : Kp [] h h') : Sit h' t d e T st th := S.kp k (fun j hj => nomatch hj) (nk0 _) (nk0 _)
theorem run_put_old (H : HasP p) (S : Sit h t d e T st th) (G : Good nm) (v1 : -1000000000 <= v) (v2 : v <= 1000000000) (hn : (th.lookup nm).isSome = true) :
    ∃ x h', semF p (n + 7) false "put" [.loc t, .str nm, .int v] h = .ok x h' /\ Kp [d, e] h h' /\ Sit h' t d e T st (put th nm v) := by
  obtain ⟨ok, x, ⟨ep1, hd⟩, ⟨ep2, he⟩, hde, O, hl⟩ := S
  have hlt := O.len
  refine xEA (run_in (n := n + 6) (h := h) H.put (as := [.loc t, .str nm, .int v]) [some (.loc t), some (.str nm), some (.int v), none, none, none, none, none] rfl rfl) fun F hF e1 => ?_
  refine xE (th_put (nm := nm) (v := v) he (lim_lt (by lia))) fun ep hs => ?_
  have S' : Sit (h.set e (.dict (thK (put th nm v)) ep)) t d e T st (put th nm v) := ⟨ok, x.kp (X := [e]) (Kp.set List.mem_cons_self) (fun j hj => by rcases List.mem_singleton.mp hj with rfl; exact ⟨_, he, rfl⟩), ⟨ep1, get_other hd hde.symm⟩, ⟨ep, get_set he⟩, hde, O.same hn, hl⟩
  have k1 : Kp [d, e] h (h.set e (.dict (thK (put th nm v)) ep)) := Kp.set (List.mem_cons_of_mem _ List.mem_cons_self)
  refine ⟨.loc (h.set e (.dict (thK (put th nm v)) ep)).length, h.set e (.dict (thK (put th nm v)) ep) ++ [.list []], ?_, k1.trans Kp.app, S'.more (g := [.list []])⟩
  rw [e1, d_put]
  have e3 : execS (cF p (n + 6) F) (.iff (.cmp .isin (.loc 1) (.attr "things" (.loc 0))) (.cons (.setitem (.attr "things" (.loc 0)) (.loc 1) (.loc 2)) (.cons (.ret (.list .nil)) .nil)) .nil) [some (.loc t), some (.str nm), some (.int v), none, none, none, none, none] h = _ :=
    st_t (ev_cmp rfl (ev_attr rfl x.thg) ((th_in he).trans (congrArg some hn))) ((ss_step (st_set rfl (ev_attr rfl x.thg) rfl hs)).trans (ss_last (st_ret (ev_list (vs := []) rfl (Nat.zero_le _)))))
  rw [ss_step (st_expr (ev_call rfl (run_need_name (n := n + 4) H.a H.d G))), ss_step (st_expr (ev_call rfl (run_need_value (n := n + 4) H.c H.f v1 v2))), ss_stop e3, retR_ret]
theorem run_value (H : HasN p) (S : Sit h t d e T st th) (hn : th.lookup nm = some v) : semF p (n + 2) false "value" [.loc t, .str nm] h = .ok (.int v) h := by
  obtain ⟨ok, x, ⟨ep1, hd⟩, ⟨ep2, he⟩, hde, O, hl⟩ := S
  refine xEA (run_in (n := n + 1) (h := h) H.value (as := [.loc t, .str nm]) [some (.loc t), some (.str nm)] rfl rfl) fun F hF e1 => ?_
  have en := run_need_there (n := n) H.need x he (nm := nm)
  rw [hn] at en
  rw [e1, d_value]
  exact fin_ret ((ss_step (st_expr (ev_im rfl (x.meth rfl) rfl en))).trans (ss_last (st_ret (ev_sub (ev_attr rfl x.thg) rfl (sub_dict he (str_key nm) thK_sort (by rw [thK_at, hn]; rfl))))))
theorem all_pairs : ∀ C : List Seat, allOf pairOf (C.map sv) = some C
  | [] => rfl
  | s :: C => by
    show ((allOf pairOf (C.map sv)).bind fun ps => some (s :: ps)) = _
    rw [all_pairs C]; rfl
theorem all_strs : ∀ ss : List Nm, allOf strOf (ss.map AV.str) = some ss
  | [] => rfl
  | s :: ss => by
    show ((allOf strOf (ss.map AV.str)).bind fun ps => some (s :: ps)) = _
    rw [all_strs ss]; rfl
theorem sort_seats {i ep : Nat} {kvs : List (Key × AV)} {C : List Seat} (hi : h[i]? = some (.dict kvs ep)) (hk : kvs.map (fun p => p.1.av) = C.map sv) (hl : C.length < 64) : biAV .sorted [.loc i] h = .ok (.loc h.length) (h ++ [.list ((sortK C).map sv)]) := by
  have hs : sortL h i = some ((sortK C).map sv) := by
    have hla : listAt h i = none := by delta listAt; rw [hi]
    delta sortL
    rw [hla]
    dsimp only
    rw [dictAt_of hi, Option.bind_some]
    delta sortK3
    dsimp only
    rw [hk, all_pairs]
    show sortP C = _
    unfold sortP sortK
    by_cases h2 : C.length < 2
    . rw [if_pos h2, if_pos h2]; rfl
    . rw [if_neg h2, if_neg h2, if_pos hl, List.map_map]; rfl
  exact newListO_ok hs (by rw [List.length_map, sortK_perm.length_eq]; exact lim_le (by lia))
theorem sort_strs {i : Nat} {ss : List Nm} (hi : h[i]? = some (.list (ss.map .str))) (hl : ss.length < 64) : biAV .sorted [.loc i] h = .ok (.loc h.length) (h ++ [.list ((ss.mergeSort leS).map .str)]) := by
  have hs : sortL h i = some ((ss.mergeSort leS).map .str) := by
    delta sortL
    rw [listAt_of hi]
    dsimp only
    rw [all_strs, Option.bind_some]
    exact if_pos hl
  exact newListO_ok hs (by rw [List.length_map, List.length_mergeSort]; exact lim_le (by lia))
noncomputable def nameAt (st : St') (s : Seat) : Nm := (st.lookup s).getD []
noncomputable def namesOf (st : St') : List Nm := (sortK (keysOf st)).map (nameAt st)
theorem st_sub {s : Seat} {i ep : Nat} (hd : h[i]? = some (.dict (stK st) ep)) (hs : s ∈ keysOf st) : subAV (.loc i) (sv s) h = .ok (.str (nameAt st s)) h := by
  refine xE (in_keys hs) fun m hm => ?_
  rw [st_get hd hm, nameAt, hm]; rfl
theorem fm_map {α β : Type} {f : α -> β} (l : List α) : l.filterMap (fun x => some (f x)) = l.map f := by rw [<- List.filterMap_eq_map]; rfl
theorem run_names (H : HasN p) (S : Sit h t d e T st th) : semF p (n + 1) false "names" [.loc t] h = .ok (.loc (h.length + 1)) (h ++ [.list ((sortK (keysOf st)).map sv)] ++ [.list ((namesOf st).map .str)]) := by
  obtain ⟨ok, x, ⟨ep1, hd⟩, ⟨ep2, he⟩, hde, O, hl⟩ := S
  refine xEA (run_in (n := n) (h := h) H.names (as := [.loc t]) [some (.loc t)] rfl rfl) fun F hF e1 => ?_
  have hs := sort_seats (C := keysOf st) hd (by rw [stK, mk, keysOf, List.map_map, List.map_map]; rfl) (by rw [keys_len]; exact hl)
  have hkl : (sortK (keysOf st)).length <= 64 := by rw [sortK_perm.length_eq, keys_len]; lia
  have x1 := x.more (g := [.list ((sortK (keysOf st)).map sv)])
  have hc := comp_run (h := h ++ [.list ((sortK (keysOf st)).map sv)]) (u := .loc h.length) (n := F) (its := sortK (keysOf st)) (g := sv) (q := fun s => some (.str (nameAt st s))) (body := fun v h => (evalConds (cF p n F) .nil (inner [some (.loc t)] 1 1 v) h).bind fun b h => ifB b h (evalX (cF p n F) (.sub (.attr "standing" (.loc 0)) (.loc 1)) (inner [some (.loc t)] 1 1 v) h))
    (fun k => next_list get_new) (fun s hs => cb_all (ev_sub (ev_attr rfl x1.std) rfl (st_sub (get_old hd) (sortK_perm.mem_iff.mp hs)))) (by lia) (by lia)
  rw [fm_map] at hc
  have hl2 : (h ++ [AObj.list ((sortK (keysOf st)).map sv)]).length = h.length + 1 := by rw [List.length_append]; rfl
  rw [e1, d_names, namesOf, List.map_map]
  have : evalX (cF p n F) (.comp (.sub (.attr "standing" (.loc 0)) (.loc 1)) 1 1 (.bi .sorted (.cons (.attr "standing" (.loc 0)) .nil)) .nil) [some (.loc t)] h = _ := ev_comp rfl (ev_bi rfl (ev_one (ev_attr rfl x.std)) hs) hc (by rw [List.length_map]; lia)
  rw [hl2] at this
  exact fin_ret (ss_last (st_ret this))
noncomputable def ck (C : List Seat) : List (Key × AV) := mk kp (fun _ : Unit => .bool true) (C.map fun s => (s, ()))
theorem ck_put {C : List Seat} {s : Seat} : dictPut (ck C) (kp s) (.bool true) = ck (addN C s) := by
  have hm : s ∈ (C.map fun s => (s, ())).map (·.1) ↔ s ∈ C := by rw [List.map_map]; exact iff_of_eq (congrArg _ (List.map_id _))
  rw [ck, mk_put (vf := fun _ : Unit => AV.bool true) (b := ()) kp_inj, ck, put, addN]
  by_cases h : s ∈ C
  . rw [if_pos (any_iff.mpr (hm.mpr h)), if_pos h]
    congr 1
    rw [List.map_map]
    refine List.map_congr_left fun x _ => ?_
    show (if _ then _ else _) = _
    split <;> rfl
  . rw [if_neg (fun q => h (hm.mp (any_iff.mp q))), if_neg h, List.map_append]; rfl
theorem ck_len {C : List Seat} : (ck C).length = C.length := by rw [ck, mk_length, List.length_map]
theorem ck_keys {C : List Seat} : (ck C).map (fun p => p.1.av) = C.map sv := by rw [ck, mk, List.map_map, List.map_map]; rfl
inductive NsInv (h : AHeap) (t c : Nat) (nm : Nm) (s : Seat) (C w : List Seat) (k : Nat) : Locs -> AHeap -> Prop
  | mk (ep : Nat) (v4 : Option AV) (hl : ((w.take k).foldl addN C).length <= C.length + k) : NsInv h t c nm s C w k [some (.loc t), some (.str nm), some (.loc c), some (sv s), v4, none] (h.set c (.dict (ck ((w.take k).foldl addN C)) ep))
theorem add_len {C : List Seat} {s : Seat} : (addN C s).length <= C.length + 1 := by
  unfold addN
  split
  . lia
  . rw [List.length_append, List.length_singleton]; exact Nat.le_refl _
theorem ns_loop {F c u ep : Nat} {s : Seat} {C w : List Seat} {v4 : Option AV} (hc : h[c]? = some (.dict (ck C) ep)) (hu : h[u]? = some (.list (w.map sv))) (hC : C.length <= 200) (hw : w.length <= 200) (hF : 50000 <= F) :
    ∃ l' h', forLoop (put1 4) (fun l h => execSs (cF p n F) b_crowd_1 l h) (.loc u) F 0 [some (.loc t), some (.str nm), some (.loc c), some (sv s), v4, none] h = .ok .next l' h' /\ NsInv h t c nm s C w w.length l' h' := by
  have hcu : c ≠ u := by rintro rfl; rw [hc] at hu; cases hu
  have := forLoop_all (i := 4) (src := .loc u) (items := w.map sv) (body := fun l h => execSs (cF p n F) b_crowd_1 l h) (NsInv h t c nm s C w) (fun k l h' hI => by cases hI; exact next_list (get_other hu hcu)) (fun k v l h' hv hI => by
    cases hI with
    | mk ep' v4' hl =>
    rw [List.getElem?_map] at hv
    refine xEA (Option.map_eq_some_iff.mp hv) fun x hx e => ?_
    subst e
    have hk := (List.getElem?_eq_some_iff.mp hx).1
    refine xE (set_dict (v := .bool true) (get_set (o' := .dict (ck ((w.take k).foldl addN C)) ep') hc) (sv_key x) (mk_sort fun _ _ => rfl) (by rw [ck_len]; exact lim_lt (by lia))) fun ep2 hs => ?_
    have e2 : (w.take (k + 1)).foldl addN C = addN ((w.take k).foldl addN C) x := by rw [List.take_add_one, hx, Option.toList_some, List.foldl_append]; rfl
    rw [List.set_set, ck_put, <- e2] at hs
    exact ⟨_, _, ss_last (st_set rfl rfl rfl hs), .mk ep2 (some (sv x)) (by rw [e2]; exact Nat.le_trans add_len (by lia))⟩) (f := F) (l := [some (.loc t), some (.str nm), some (.loc c), some (sv s), v4, none]) (h := h) (by rw [List.length_map]; lia) (by
      have := NsInv.mk (h := h) (t := t) (c := c) (nm := nm) (s := s) (C := C) (w := w) (k := 0) ep v4 (Nat.le_refl _)
      rwa [show (w.take 0).foldl addN C = C from rfl, set_same hc] at this)
  rwa [List.length_map] at this
theorem crowd_turn (H : HasN p) (S : Sit h t d e T st th) (G : Good nm) {r : Int} (hr : r = 0 \/ r = 1) {F c ep : Nat} {C : List Seat} {v4 : Option AV} (hc : h[c]? = some (.dict (ck C) ep)) (hC : C.length <= 100) (hF : 50000 <= F) (hcd : c ≠ d) (hce : c ≠ e) :
    ∃ v' ep' h', execSs (cF p (n + 4) F) b_crowd_2 [some (.loc t), some (.str nm), some (.loc c), some (sv (T.hm nm r)), v4, none] h = .ok .next [some (.loc t), some (.str nm), some (.loc c), some (sv (T.hm nm r)), v', none] h' /\ Kp [c] h h' /\ h'[c]? = some (.dict (ck ((wayOf T.hm st (T.hm nm r)).foldl addN C)) ep') /\ ((wayOf T.hm st (T.hm nm r)).foldl addN C).length <= C.length + 65 /\ Sit h' t d e T st th := by
  have S0 := S
  obtain ⟨ok, x, ⟨ep1, hd⟩, ⟨ep2, he⟩, hde, O, hl⟩ := S
  have W := wayOf_way (hm := T.hm) st (T.hm nm r)
  have hws := W.short
  have ew := run_way (n := n) H.toHasT H.way ok O.so x hd (by lia) (Tb.hm_in ok G hr)
  have hc1 := get_old (g := [.list ((wayOf T.hm st (T.hm nm r)).map sv)]) hc
  refine xEEA (ns_loop (p := p) (n := n + 4) (F := F) (t := t) (nm := nm) (s := T.hm nm r) (v4 := v4) hc1 (get_new (h := h) (o := .list ((wayOf T.hm st (T.hm nm r)).map sv))) (by lia) (by lia) hF) fun l' h' e1 I => ?_
  cases I with
  | mk ep' v' hl' =>
  rw [List.take_length] at e1 hl'
  have k1 : Kp [c] h ((h ++ [AObj.list ((wayOf T.hm st (T.hm nm r)).map sv)]).set c (.dict (ck ((wayOf T.hm st (T.hm nm r)).foldl addN C)) ep')) := Kp.app.trans (Kp.set List.mem_cons_self)
  exact ⟨v', ep', _, ss_last (st_for rfl (ev_im rfl (x.meth rfl) rfl ew) e1), k1, get_set hc1, by lia, S0.kp k1 (fun j hj => by rcases List.mem_singleton.mp hj with rfl; exact ⟨_, hc, rfl⟩) (fun q => hcd (List.mem_singleton.mp q).symm) fun q => hce (List.mem_singleton.mp q).symm⟩
noncomputable def nestsOf (T : Tb) (st : St') (nm : Nm) : List Seat := uni (wayOf T.hm st (T.hm nm 0) ++ wayOf T.hm st (T.hm nm 1))
noncomputable def crowdN (T : Tb) (st : St') (nm : Nm) : List Nm := (crowdOf st nm (nestsOf T st nm) ++ [nm]).mergeSort leS
inductive CrowdRes (h : AHeap) (T : Tb) (st : St') (th : Th) (nm : Nm) : Res AV -> Prop
  | no (h' : AHeap) (hx : (th.lookup nm).isSome = true \/ bestOf T st nm ≠ none) (k : Kp [] h h') : CrowdRes h T st th nm (.ok .none h')
  | yes (h' : AHeap) (i j : Nat) (hn : th.lookup nm = none) (hb : bestOf T st nm = none) (X : Shut T.hm st nm (nestsOf T st nm)) (hi : h'[i]? = some (.list ((crowdN T st nm).map .str))) (hj : h'[j]? = some (.list ((sortK (nestsOf T st nm)).map sv))) (hi' : h.length <= i) (hj' : h.length <= j) (k : Kp [] h h') : CrowdRes h T st th nm (.ok (.tup [.loc i, .loc j]) h')
theorem best_v {bv : AV} {b : Option (List Seat)} (B : BestIs h bv b) : isNoneAV bv = b.isNone := by
  rcases B with ⟨e, e'⟩ | ⟨u, i, e, e', _⟩ <;> subst e <;> subst e' <;> rfl
theorem kp_old {c : Nat} (k : Kp [c] h h') {h0 : AHeap} (k0 : Kp [] h0 h) (hc : h0.length <= c) : Kp [] h0 h' := ⟨Nat.le_trans k0.len k.len, fun i o _ q => k.old i o (fun r => absurd (List.mem_singleton.mp r ▸ get_lt q) (Nat.not_lt.mpr hc)) (k0.old i o (nk0 _) q)⟩
theorem run_crowd (H : HasN p) (S : Sit h t d e T st th) (G : Good nm) (h60 : st.length < 60) : CrowdRes h T st th nm (semF p (n + 6) false "crowd" [.loc t, .str nm] h) := by
  have S0 := S
  obtain ⟨ok, x, ⟨ep1, hd⟩, ⟨ep2, he⟩, hde, O, hl⟩ := S
  refine xEA (run_in (n := n + 5) (h := h) H.crowd (as := [.loc t, .str nm]) [some (.loc t), some (.str nm), none, none, none, none] rfl rfl) fun F hF e1 => ?_
  have c1 : evalX (cF p (n + 5) F) (.cmp .isin (.loc 1) (.attr "things" (.loc 0))) [some (.loc t), some (.str nm), none, none, none, none] h = .ok (.bool (th.lookup nm).isSome) h := ev_cmp rfl (ev_attr rfl x.thg) (th_in he)
  rw [e1, d_crowd, ss_step (st_expr (ev_call rfl (run_need_name (n := n + 3) H.a H.d G)))]
  rcases hn : th.lookup nm with _ | v
  case some =>
    rw [hn] at c1
    rw [ss_stop (st_t (ev_or_t c1) (ss_last (st_ret rfl))), retR_ret]
    exact .no h (.inl (by rw [hn]; rfl)) Kp.refl
  case none =>
  rw [hn] at c1
  refine xEEAA (run_best_way (n := n) H.toHasT H.way H.best ok O.so x hd (by lia) G) fun bv g eb _ B => ?_
  have c2 : evalX (cF p (n + 5) F) (.or (.cmp .isin (.loc 1) (.attr "things" (.loc 0))) (.isn false (.im "best_way" (.loc 0) (.cons (.loc 1) .nil)))) [some (.loc t), some (.str nm), none, none, none, none] h = .ok (.bool (isNoneAV bv == false)) (h ++ g) := ev_or_f c1 (ev_isn (ev_im rfl (x.meth rfl) rfl eb))
  rw [best_v B] at c2
  rcases hb : bestOf T st nm with _ | w
  case some =>
    rw [hb] at c2
    rw [ss_stop (st_t c2 (ss_last (st_ret rfl))), retR_ret]
    exact .no _ (.inr (by rw [hb]; exact fun e => nomatch e)) Kp.app
  case none =>
  rw [hb] at c2
  have S1 := (S0.more (g := g)).more (g := [.dict (ck []) 0])
  have k1 : Kp [] h (h ++ g ++ [.dict (ck []) 0]) := Kp.app.trans Kp.app
  have hc := get_new (h := h ++ g) (o := .dict (ck []) 0)
  have hcl : h.length <= (h ++ g).length := by rw [List.length_append]; exact Nat.le_add_right ..
  have hcd : (h ++ g).length ≠ d := fun q => absurd (get_lt hd) (by lia)
  have hce : (h ++ g).length ≠ e := fun q => absurd (get_lt he) (by lia)
  have c3 : execS (cF p (n + 5) F) (.asg 2 .dict0) [some (.loc t), some (.str nm), none, none, none, none] (h ++ g) = .ok .next [some (.loc t), some (.str nm), some (.loc (h ++ g).length), none, none, none] (h ++ g ++ [.dict (ck []) 0]) := st_asg rfl
  rw [ss_step (st_f c2 rfl), ss_step c3]
  clear c3
  generalize (h ++ g).length = c at hc hcl hcd hce
  generalize h ++ g ++ [.dict (ck []) 0] = h1 at S1 k1 hc
  refine xEEEAAAA (crowd_turn (n := n + 1) (F := F) (v4 := none) H S1 G (r := 0) (.inl rfl) hc (Nat.zero_le _) hF hcd hce) fun v4 ep3 h2 t1 k2 hc2 l2 S2 => ?_
  refine xEEEAAAA (crowd_turn (n := n + 1) (F := F) (v4 := v4) H S2 G (r := 1) (.inr rfl) hc2 (Nat.le_trans l2 (by decide)) hF hcd hce) fun v5 ep4 h3 t2 k3 hc3 l3 S3 => ?_
  have eN : (wayOf T.hm st (T.hm nm 1)).foldl addN ((wayOf T.hm st (T.hm nm 0)).foldl addN []) = nestsOf T st nm := by rw [nestsOf, uni, List.foldl_append]
  rw [eN] at hc3 l3
  have f2 := for_two (put := put1 3) (body := fun l h => execSs (cF p (n + 5) F) b_crowd_2 l h) (src := .tup [sv (T.hm nm 0), sv (T.hm nm 1)]) (f := F) (l := [some (.loc t), some (.str nm), some (.loc c), none, none, none]) rfl rfl t1 rfl rfl t2 rfl (by lia)
  have X := O.shut (C := nestsOf T st nm) hb uni_nd fun s => by rw [nestsOf, uni_mem, List.mem_append]
  have hkeys : ∀ s ∈ nestsOf T st nm, s ∈ keysOf st := fun s hs => xEA (X.all s hs) fun m hm _ => List.mem_map.mpr ⟨_, lookup_mem hm, rfl⟩
  have hCl : (nestsOf T st nm).length <= 60 := by
    have := card_le X.nd hkeys
    rw [keys_len] at this
    lia
  have hcr : (nestsOf T st nm).map (nameAt st) = crowdOf st nm (nestsOf T st nm) := List.map_congr_left fun s hs => xEA (X.all s hs) fun m hm _ => by rw [nameAt, hm]; rfl
  have k3' : Kp [] h h3 := kp_old k3 (kp_old k2 k1 hcl) hcl
  have x3 := S3.tab
  refine xE S3.fd fun ep5 hd3 => ?_
  have hcm := comp_run (h := h3) (u := .dit c (ck (nestsOf T st nm)).length ep4) (n := F) (its := nestsOf T st nm) (g := sv) (q := fun s => some (.str (nameAt st s))) (body := fun v h => (evalConds (cF p (n + 5) F) .nil (inner [some (.loc t), some (.str nm), some (.loc c), some (sv (T.hm nm 1)), v5, none] 1 6 v) h).bind fun b h => ifB b h (evalX (cF p (n + 5) F) (.sub (.attr "standing" (.loc 0)) (.loc 6)) (inner [some (.loc t), some (.str nm), some (.loc c), some (sv (T.hm nm 1)), v5, none] 1 6 v) h))
    (fun k => by rw [<- ck_keys]; exact next_dit hc3) (fun s hs => cb_all (ev_sub (ev_attr rfl x3.std) rfl (st_sub hd3 (hkeys s hs)))) (by lia) (by lia)
  have ec : (nestsOf T st nm).filterMap (fun s => some (AV.str (nameAt st s))) = (crowdOf st nm (nestsOf T st nm)).map AV.str := by rw [fm_map, <- hcr, List.map_map]; rfl
  rw [ec] at hcm
  have c5 : execS (cF p (n + 5) F) (.asg 5 (.comp (.sub (.attr "standing" (.loc 0)) (.loc 6)) 1 6 (.keys (.loc 2)) .nil)) [some (.loc t), some (.str nm), some (.loc c), some (sv (T.hm nm 1)), v5, none] h3 = .ok .next [some (.loc t), some (.str nm), some (.loc c), some (sv (T.hm nm 1)), v5, some (.loc h3.length)] (h3 ++ [.list ((crowdOf st nm (nestsOf T st nm)).map .str)]) :=
    st_asg (ev_comp rfl (ev_keys rfl (keys_dit hc3)) hcm (by rw [List.length_map, crowdOf, List.length_map]; lia))
  have g4 := get_old (g := [.list [.str nm]]) (get_new (h := h3) (o := .list ((crowdOf st nm (nestsOf T st nm)).map .str)))
  have g5 := get_new (h := h3 ++ [.list ((crowdOf st nm (nestsOf T st nm)).map .str)]) (o := .list [.str nm])
  have hc5 := get_old (g := [.list [.str nm]]) (get_old (g := [.list ((crowdOf st nm (nestsOf T st nm)).map .str)]) hc3)
  have k5 : Kp [] h (h3 ++ [.list ((crowdOf st nm (nestsOf T st nm)).map .str)] ++ [.list [.str nm]]) := (k3'.trans Kp.app).trans Kp.app
  have l5 : evalX (cF p (n + 5) F) (.list (.cons (.loc 1) .nil)) [some (.loc t), some (.str nm), some (.loc c), some (sv (T.hm nm 1)), v5, some (.loc h3.length)] (h3 ++ [.list ((crowdOf st nm (nestsOf T st nm)).map .str)]) = .ok (.loc (h3 ++ [AObj.list ((crowdOf st nm (nestsOf T st nm)).map .str)]).length) (h3 ++ [.list ((crowdOf st nm (nestsOf T st nm)).map .str)] ++ [.list [.str nm]]) := ev_list (ev_one rfl) (Nat.le_of_ble_eq_true rfl)
  generalize (h3 ++ [AObj.list ((crowdOf st nm (nestsOf T st nm)).map .str)]).length = i5 at g5 l5
  generalize h3 ++ [.list ((crowdOf st nm (nestsOf T st nm)).map .str)] ++ [.list [.str nm]] = h5 at g4 g5 hc5 k5 l5
  have hcat : catL (listAt h5 h3.length) (listAt h5 i5) = some ((crowdOf st nm (nestsOf T st nm) ++ [nm]).map .str) := by rw [listAt_of g4, listAt_of g5, List.map_append]; rfl
  have hlc : (crowdOf st nm (nestsOf T st nm) ++ [nm]).length < 64 := by rw [List.length_append, crowdOf, List.length_map, List.length_singleton]; lia
  have a5 : evalX (cF p (n + 5) F) (.bin .add (.loc 5) (.list (.cons (.loc 1) .nil))) [some (.loc t), some (.str nm), some (.loc c), some (sv (T.hm nm 1)), v5, some (.loc h3.length)] (h3 ++ [.list ((crowdOf st nm (nestsOf T st nm)).map .str)]) = .ok (.loc h5.length) (h5 ++ [.list ((crowdOf st nm (nestsOf T st nm) ++ [nm]).map .str)]) := ev_bin rfl l5 (newListO_ok hcat (by rw [List.length_map]; exact lim_le (by lia)))
  have b6 := sort_strs (get_new (h := h5) (o := .list ((crowdOf st nm (nestsOf T st nm) ++ [nm]).map .str))) hlc
  have hc6 := get_old (g := [.list ((crowdOf st nm (nestsOf T st nm) ++ [nm]).map .str)]) hc5
  have k6 : Kp [] h (h5 ++ [.list ((crowdOf st nm (nestsOf T st nm) ++ [nm]).map .str)]) := k5.trans Kp.app
  generalize h5 ++ [.list ((crowdOf st nm (nestsOf T st nm) ++ [nm]).map .str)] = h6 at a5 b6 hc6 k6
  have b7 := sort_seats (get_old (g := [.list (((crowdOf st nm (nestsOf T st nm) ++ [nm]).mergeSort leS).map .str)]) hc6) ck_keys (by lia)
  have k7 : Kp [] h (h6 ++ [.list (((crowdOf st nm (nestsOf T st nm) ++ [nm]).mergeSort leS).map .str)]) := k6.trans Kp.app
  have g7 := get_new (h := h6) (o := .list (((crowdOf st nm (nestsOf T st nm) ++ [nm]).mergeSort leS).map .str))
  generalize h6 ++ [.list (((crowdOf st nm (nestsOf T st nm) ++ [nm]).mergeSort leS).map .str)] = h7 at b6 b7 k7 g7
  rw [ss_step (st_for rfl (ev_im rfl (S1.tab.meth rfl) rfl (run_homes (n := n + 2) H.a H.d H.b H.g ok S1.tab G)) f2), ss_step c5, ss_last (st_ret (ev_tup (ev_cons (ev_bi rfl (ev_one a5) b6) (ev_one (ev_bi rfl (ev_one rfl) b7))) (Nat.le_of_ble_eq_true rfl))), retR_ret]
  exact .yes _ _ _ hn hb X (get_old g7) get_new k6.len k7.len (k7.trans Kp.app)
end
end
section
open PySem Cu
noncomputable def b__law_let_1 : Ss :=
  (.cons (.expr (.im "put" (.loc 0) (.cons (.loc 1) (.cons (.loc 2) .nil))))
  .nil)
noncomputable def b__law_let_2 : Ss :=
  (.cons (.ret (.bool false))
  .nil)
noncomputable def d__law_let : FDef := ⟨3, 3,
  (.cons (.tryx b__law_let_1 (.cons ["NoRoom"] b__law_let_2 .nil))
  (.cons (.ret (.bool true))
  .nil))⟩
noncomputable def b__law_value_first_1 : Ss :=
  (.cons (.expr (.im "put" (.loc 0) (.cons (.loc 1) (.cons (.bin .add (.bin .pow (.int 10) (.int 9)) (.int 1)) .nil))))
  .nil)
noncomputable def b__law_value_first_2 : Ss :=
  (.cons (.ret (.bool true))
  .nil)
noncomputable def b__law_value_first_3 : Ss :=
  (.cons (.ret (.bool false))
  .nil)
noncomputable def d__law_value_first : FDef := ⟨2, 2,
  (.cons (.tryx b__law_value_first_1 (.cons ["NoValue"] b__law_value_first_2 (.cons ["NoRoom"] b__law_value_first_3 .nil)))
  (.cons (.ret (.bool false))
  .nil))⟩
noncomputable def d__law_pairs : FDef := ⟨2, 2,
  (.cons (.ret (.comp (.tup (.cons (.sub (.sub (.sub (.loc 0) (.loc 2)) (.int 0)) (.int 1)) (.cons (.sub (.sub (.sub (.loc 0) (.loc 2)) (.int 1)) (.int 1)) .nil))) 1 2 (.loc 1) .nil))
  .nil)⟩
noncomputable def b__law_rising_1 : Ss :=
  (.cons (.iff (.cmp .le (.sub (.loc 0) (.loc 1)) (.sub (.loc 0) (.bin .sub (.loc 1) (.int 1))))
    (.cons (.ret (.bool false))
    .nil)
    .nil)
  .nil)
noncomputable def d__law_rising : FDef := ⟨1, 2,
  (.cons (.forr 1 (.range (.cons (.int 1) (.cons (.bi .len (.cons (.loc 0) .nil)) .nil))) b__law_rising_1)
  (.cons (.ret (.bool true))
  .nil))⟩
structure HasL (p : Prog) : Prop extends HasN p where
  seat : HasS p
  llet : Prog.has p "_law_let" d__law_let
  lvf : Prog.has p "_law_value_first" d__law_value_first
  lpairs : Prog.has p "_law_pairs" d__law_pairs
  lrise : Prog.has p "_law_rising" d__law_rising
section
variable {p : Prog} {n : Nat} {h h' : AHeap} {t d e : Nat} {T : Tb} {st : St'} {th : Th} {nm : Nm} {v : Int} {L ns : List Nm}
theorem ne_none {α : Type} {o : Option α} (h : o ≠ none) : ∃ x, o = some x := by
  rcases o with _ | x
  . exact absurd rfl h
  . exact ⟨x, rfl⟩
inductive LetRes (h : AHeap) (t d e : Nat) (T : Tb) (st : St') (th : Th) (nm : Nm) (v : Int) : Res AV -> Prop
  | yes (h' : AHeap) (st' : St') (hx : (th.lookup nm).isSome = true \/ bestOf T st nm ≠ none) (S : Sit h' t d e T st' (put th nm v)) (k : Kp [d, e] h h') : LetRes h t d e T st th nm v (.ok (.bool true) h')
  | no (h' : AHeap) (hn : th.lookup nm = none) (hb : bestOf T st nm = none) (k : Kp [] h h') : LetRes h t d e T st th nm v (.ok (.bool false) h')
theorem run_let (H : HasL p) (S : Sit h t d e T st th) (G : Good nm) (v1 : -1000000000 <= v) (v2 : v <= 1000000000) (hl : st.length < 60) : LetRes h t d e T st th nm v (semF p (n + 8) false "_law_let" [.loc t, .str nm, .int v] h) := by
  refine xEA (run_in (n := n + 7) (h := h) H.llet (as := [.loc t, .str nm, .int v]) [some (.loc t), some (.str nm), some (.int v)] rfl rfl) fun F hF e1 => ?_
  have ok : ∀ {x h'}, semF p (n + 7) false "put" [.loc t, .str nm, .int v] h = .ok x h' -> semF p (n + 8) false "_law_let" [.loc t, .str nm, .int v] h = .ok (.bool true) h' := fun ep => by
    rw [e1, d__law_let]
    exact fin_ret ((ss_step (try_ok rfl (ss_last (st_expr (ev_im rfl (S.tab.meth rfl) rfl ep))))).trans (ss_last (st_ret rfl)))
  rcases hn : th.lookup nm with _ | w
  case some =>
    have hn' : (th.lookup nm).isSome = true := by rw [hn]; rfl
    refine xEEAA (run_put_old (n := n) H.toHasP S G v1 v2 hn') fun x h' ep k S' => ?_
    rw [ok ep]
    exact .yes h' st (.inl hn') S' k
  case none =>
    have R := run_put (n := n) H.toHasP S G v1 v2 hn (by lia)
    generalize hr : semF p (n + 7) false "put" [.loc t, .str nm, .int v] h = r at R
    cases R with
    | no g hb =>
      have : semF p (n + 8) false "_law_let" [.loc t, .str nm, .int v] h = .ok (.bool false) (h ++ g) := by
        rw [e1, d__law_let]
        exact fin_ret (ss_stop (try_exc rfl (ss_exc (st_expr_x (ev_im rfl (S.tab.meth rfl) rfl hr))) (h_cons.trans ((if_pos (by decide)).trans rfl))))
      rw [this]
      exact .no _ hn hb Kp.app
    | yes h' st' w i hb S' k =>
      rw [ok hr]
      exact .yes h' st' (.inr (by rw [hb]; exact fun e => nomatch e)) S' k
theorem whole_no (hp : Prog.has p "is_whole" d_is_whole) {x a b : Int} (ha : a <= x) (hb : b < x) : semF p (n + 1) false "is_whole" [.int x, .int a, .int b] h = .ok (.bool false) h := by
  refine xEA (run_in (n := n) (h := h) hp (as := [.int x, .int a, .int b]) [some (.int x), some (.int a), some (.int b)] rfl rfl) fun F hF e => ?_
  have c : evalX (cF p n F) (.cmp2 .le .le (.loc 1) (.loc 0) (.loc 2)) [some (.int x), some (.int a), some (.int b)] h = .ok (.bool false) h := by
    show cmpAnd (some (decide (a <= x))) h (boolO (some (decide (x <= b))) h) = _
    rw [decide_eq_true ha, decide_eq_false (Int.not_le.mpr hb)]; rfl
  rw [e, d_is_whole]
  exact fin_ret (ss_last (st_ret (ev_and_t (ev_isi rfl rfl) (ev_and_t (ev_not (b := false) (ev_isi rfl rfl)) c))))
theorem run_value_first (H : HasL p) (S : Sit h t d e T st th) (G : Good nm) : semF p (n + 8) false "_law_value_first" [.loc t, .str nm] h = .ok (.bool true) h := by
  refine xEA (run_in (n := n + 7) (h := h) H.lvf (as := [.loc t, .str nm]) [some (.loc t), some (.str nm)] rfl rfl) fun F hF e1 => ?_
  refine xEA (run_in (n := n + 6) (h := h) H.put (as := [.loc t, .str nm, .int 1000000001]) [some (.loc t), some (.str nm), some (.int 1000000001), none, none, none, none, none] rfl rfl) fun F2 _ e2 => ?_
  refine xEA (run_in (n := n + 5) (h := h) H.f (as := [.int 1000000001]) [some (.int 1000000001)] rfl rfl) fun F3 _ e3 => ?_
  have p3 : semF p (n + 6) false "need_value" [.int 1000000001] h = .exc "NoValue" h := by
    rw [e3, d_need_value]
    exact fin_exc (ss_last (st_t (ev_not (b := false) (ev_call (ev_cons rfl (ev_cons (ev_neg rfl) (ev_one rfl))) (whole_no (n := n + 4) (x := 1000000001) (a := -1000000000) (b := 1000000000) H.c (by decide) (by decide)))) rfl))
  have p2 : semF p (n + 7) false "put" [.loc t, .str nm, .int 1000000001] h = .exc "NoValue" h := by
    rw [e2, d_put, ss_step (st_expr (ev_call rfl (run_need_name (n := n + 4) H.a H.d G))), ss_exc (st_expr_x (ev_call rfl p3))]; rfl
  have pw : binAV .pow (.int 10) (.int 9) h = .ok (.int 1000000000) h := by
    show (if 0 <= (9 : Int) /\ (9 : Int) <= 100 /\ (10 : Int).natAbs < 2 ^ 64 then Res.ok (AV.int (10 ^ (9 : Int).toNat)) h else .bad) = _
    rw [if_pos (by decide)]; rfl
  rw [e1, d__law_value_first]
  exact fin_ret (ss_stop (try_exc rfl (ss_exc (st_expr_x (ev_im rfl (S.tab.meth rfl) (ev_cons rfl (ev_one (ev_bin (ev_bin rfl rfl pw) rfl b_add))) p2))) (h_cons.trans ((if_pos (by decide)).trans rfl))))
noncomputable def pairT (T : Tb) (m : Nm) : Seat := ((T.hm m 0).2, (T.hm m 1).2)
theorem sv1 {s : Seat} : subAV (sv s) (.int 1) h = .ok (.int s.2) h := rfl
theorem run_pairs (H : HasL p) {a b : Nat} (K : HomesAt h b T ns) (hs : ∀ m ∈ L, m ∈ ns) (ha : h[a]? = some (.list (L.map .str))) (hl : L.length <= 1000) : semF p (n + 1) false "_law_pairs" [.loc b, .loc a] h = .ok (.loc h.length) (h ++ [.list ((L.map (pairT T)).map sv)]) := by
  refine xEA (run_in (n := n) (h := h) H.lpairs (as := [.loc b, .loc a]) [some (.loc b), some (.loc a)] rfl rfl) fun F hF e1 => ?_
  have hc := comp_run (h := h) (u := .loc a) (n := F) (its := L) (g := AV.str) (q := fun m => some (sv (pairT T m))) (body := fun v h => (evalConds (cF p n F) .nil (inner [some (.loc b), some (.loc a)] 1 2 v) h).bind fun q h => ifB q h (evalX (cF p n F) (.tup (.cons (.sub (.sub (.sub (.loc 0) (.loc 2)) (.int 0)) (.int 1)) (.cons (.sub (.sub (.sub (.loc 0) (.loc 2)) (.int 1)) (.int 1)) .nil))) (inner [some (.loc b), some (.loc a)] 1 2 v) h))
    (fun k => next_list ha) (fun m hm => cb_all (ev_tup (ev_cons (ev_sub (ev_sub (ev_sub rfl rfl (K.get (hs m hm))) rfl (homes_at (.inl rfl))) rfl sv1) (ev_one (ev_sub (ev_sub (ev_sub rfl rfl (K.get (hs m hm))) rfl (homes_at (.inr rfl))) rfl sv1))) (Nat.le_of_ble_eq_true rfl))) hl (by lia)
  rw [fm_map] at hc
  rw [e1, d__law_pairs, List.map_map]
  exact fin_ret (ss_last (st_ret (ev_comp rfl rfl hc (by rw [List.length_map]; exact hl))))
theorem hmP_at {k : Nat} {m : Nm} (hm : L[k]? = some m) {r : Int} (hr : r = 0 \/ r = 1) : hmP (L.map (pairT T)) k r = T.hm m r := by
  have : seatAt (L.map (pairT T)) k = pairT T m := by unfold seatAt; rw [List.getD_eq_getElem?_getD, List.getElem?_map, hm]; rfl
  rw [hmP, this]
  rcases hr with rfl | rfl <;> rfl
theorem next_up1 {m k : Nat} (hm : m <= 1000) : nextAt (.rng 1 m 1) k h = some (rngItems 1 m 1)[k]? := next_of (if_pos ⟨.inl rfl, by decide, Nat.le_trans hm (by decide)⟩)
theorem up1_length (m : Nat) : (rngItems 1 m 1).length = m - 1 := by
  unfold rngItems
  rw [List.length_map, List.length_range]
  show (if (1 : Int) = 1 then ((m : Int) - 1).toNat else _) = _
  rw [if_pos rfl]; lia
theorem up1_item {m k : Nat} {x : AV} (h : (rngItems 1 m 1)[k]? = some x) : k + 1 < m /\ x = .int ((k + 1 : Nat) : Int) := by
  have hk := (List.getElem?_eq_some_iff.mp h).1
  rw [up1_length] at hk
  refine ⟨by lia, ?_⟩
  unfold rngItems at h
  rw [List.getElem?_map, List.getElem?_range (by have := up1_length m; unfold rngItems at this; rw [List.length_map, List.length_range] at this; lia)] at h
  cases h
  exact congrArg AV.int (show (1 : Int) + 1 * (k : Int) = ((k + 1 : Nat) : Int) by lia)
theorem range_up1 {m : Nat} (hm : m <= 1000) : rangeOf [.int 1, .int m] = some (.rng 1 m 1) := by
  have : (1 : Int).natAbs <= sizeLim /\ (m : Int).natAbs <= sizeLim := ⟨by decide, Nat.le_trans hm (by decide)⟩
  exact if_pos this
theorem dec1 {k : Nat} : binAV .sub (.int ((k + 1 : Nat) : Int)) (.int 1) h = .ok (.int (k : Nat)) h := by rw [b_sub, show ((k + 1 : Nat) : Int) - 1 = (k : Int) by lia]
theorem len_strs {i : Nat} (hi : h[i]? = some (.list (L.map .str))) : biAV .len [.loc i] h = .ok (.int L.length) h := by rw [len_list hi, List.length_map]
theorem str_sub {i k : Nat} {m : Nm} (hi : h[i]? = some (.list (L.map .str))) (hl : L.length <= 1000) (hk : L[k]? = some m) : subAV (.loc i) (.int k) h = .ok (.str m) h :=
  sub_list (lim_le (by rw [List.length_map]; lia)) hi (by lia) (by rw [Int.toNat_natCast, List.getElem?_map, hk]; rfl)
theorem run_rising (H : HasL p) {i : Nat} (hi : h[i]? = some (.list (L.map .str))) (hl : L.length <= 1000) (hr : L.Pairwise fun a b => a < b) : semF p (n + 1) false "_law_rising" [.loc i] h = .ok (.bool true) h := by
  refine xEA (run_in (n := n) (h := h) H.lrise (as := [.loc i]) [some (.loc i), none] rfl rfl) fun F hF e1 => ?_
  obtain ⟨l', h', e2, q2⟩ := forLoop_all (i := 1) (src := .rng 1 L.length 1) (items := rngItems 1 L.length 1) (body := fun l h => execSs (cF p n F) b__law_rising_1 l h) (fun k l h' => h' = h /\ ∃ x, l = [some (.loc i), x]) (fun k l h' _ => next_up1 hl) (fun k x l h' hv hI => by
    refine xA (up1_item hv) fun hk e => ?_
    subst e
    obtain ⟨eh, y, el⟩ := hI
    subst eh; subst el
    have h1 : L[k + 1]? = some L[k + 1] := List.getElem?_eq_getElem hk
    have h0 : L[k]? = some L[k] := List.getElem?_eq_getElem (Nat.lt_of_succ_lt hk)
    have hlt : L[k] < L[k + 1] := List.pairwise_iff_getElem.mp hr k (k + 1) _ _ (Nat.lt_succ_self k)
    have hc : ∀ g : AHeap, cmpAV g .le (.str L[k + 1]) (.str L[k]) = some false := fun g => by
      show some (!decide (L[k] < L[k + 1])) = _
      rw [decide_eq_true hlt]; rfl
    exact ⟨_, _, ss_last (st_f (ev_cmp (ev_sub rfl rfl (str_sub hi hl h1)) (ev_sub rfl (ev_bin rfl rfl dec1) (str_sub hi hl h0)) (hc _)) rfl), rfl, _, rfl⟩) (f := F) (l := [some (.loc i), none]) (h := h) (by rw [up1_length]; lia) ⟨rfl, none, rfl⟩
  rw [e1, d__law_rising]
  exact fin_ret ((ss_step (st_for rfl (ev_range (ev_cons rfl (ev_one (ev_bi rfl (ev_one rfl) (len_strs hi)))) (range_up1 hl)) (by rw [e2, q2.1]))).trans (ss_last (st_ret rfl)))
end
end
section
open PySem Cu
noncomputable def b__law_crowd_1 : Ss :=
  (.cons (.iff (.or (.cmp .eq (.tup (.cons (.sub (.sub (.loc 5) (.loc 6)) (.int 0)) (.cons (.sub (.sub (.loc 5) (.loc 6)) (.int 1)) .nil))) (.tup (.cons (.sub (.sub (.loc 5) (.bin .sub (.loc 6) (.int 1))) (.int 0)) (.cons (.sub (.sub (.loc 5) (.bin .sub (.loc 6) (.int 1))) (.int 1)) .nil)))) (.cmp .lt (.sub (.sub (.loc 5) (.loc 6)) (.int 0)) (.sub (.sub (.loc 5) (.bin .sub (.loc 6) (.int 1))) (.int 0))))
    (.cons (.ret (.bool false))
    .nil)
    .nil)
  (.cons (.iff (.and (.cmp .eq (.sub (.sub (.loc 5) (.loc 6)) (.int 0)) (.sub (.sub (.loc 5) (.bin .sub (.loc 6) (.int 1))) (.int 0))) (.cmp .lt (.sub (.sub (.loc 5) (.loc 6)) (.int 1)) (.sub (.sub (.loc 5) (.bin .sub (.loc 6) (.int 1))) (.int 1))))
    (.cons (.ret (.bool false))
    .nil)
    .nil)
  .nil))
noncomputable def b__law_crowd_2 : Ss :=
  (.cons (.iff (.or (.and (.cmp .ne (.loc 7) (.loc 3)) (.cmp .notin (.loc 7) (.loc 2))) (.or (.cmp .notin (.sub (.sub (.loc 1) (.loc 7)) (.int 0)) (.loc 5)) (.cmp .notin (.sub (.sub (.loc 1) (.loc 7)) (.int 1)) (.loc 5))))
    (.cons (.ret (.bool false))
    .nil)
    .nil)
  .nil)
noncomputable def d__law_crowd : FDef := ⟨4, 8,
  (.cons (.iff (.or (.not (.isi (.loc 0) .tuple)) (.cmp .ne (.bi .len (.cons (.loc 0) .nil)) (.int 2)))
    (.cons (.ret (.bool false))
    .nil)
    .nil)
  (.cons (.iff (.or (.not (.isi (.sub (.loc 0) (.int 0)) .list)) (.not (.isi (.sub (.loc 0) (.int 1)) .list)))
    (.cons (.ret (.bool false))
    .nil)
    .nil)
  (.cons (.asgt [4, 5] (.loc 0))
  (.cons (.iff (.or (.not (.call "_law_rising" (.cons (.loc 4) .nil))) (.or (.cmp .ne (.bi .len (.cons (.loc 4) .nil)) (.bin .add (.bi .len (.cons (.loc 5) .nil)) (.int 1))) (.cmp .notin (.loc 3) (.loc 4))))
    (.cons (.ret (.bool false))
    .nil)
    .nil)
  (.cons (.forr 6 (.range (.cons (.int 1) (.cons (.bi .len (.cons (.loc 5) .nil)) .nil))) b__law_crowd_1)
  (.cons (.forr 7 (.loc 4) b__law_crowd_2)
  (.cons (.ret (.cmp .eq (.sub (.call "seated" (.cons (.call "_law_pairs" (.cons (.loc 1) (.cons (.loc 4) .nil))) .nil)) (.int 0)) (.str [110, 111])))
  .nil)))))))⟩
structure K9 (h : AHeap) (T : Tb) (ns : List Nm) (st : St') (th : Th) (L : List Nm) : Prop where
  S : Sit h 5 6 7 T st th
  good : ∀ m ∈ ns, Good m
  homes : HomesAt h 3 T ns
  there : h[9]? = some (.list (L.map .str))
  perm : L.Perm (th.map (·.1))
  sub : ∀ m ∈ L, m ∈ ns
  nl : ns.length <= 24
  vals : ∀ m v, th.lookup m = some v -> -1000000000 <= v /\ v <= 1000000000
section
variable {p : Prog} {n : Nat} {h h' : AHeap} {T : Tb} {st st' : St'} {th th' : Th} {nm : Nm} {v : Int} {L ns : List Nm} {i j : Nat}
theorem HomesAt.kp {X : List Nat} {b : Nat} (x : HomesAt h b T ns) (k : Kp X h h') (hb : b ∉ X) : HomesAt h' b T ns := xEEA x fun kvs ep h1 h2 => ⟨kvs, ep, k.old _ _ hb h1, h2⟩
theorem K9.keep (K : K9 h T ns st th L) (k : Kp [] h h') : K9 h' T ns st th L := ⟨K.S.keep k, K.good, K.homes.kp k (nk0 _), k.old _ _ (nk0 _) K.there, K.perm, K.sub, K.nl, K.vals⟩
theorem K9.turn (K : K9 h T ns st th L) (k : Kp [6, 7] h h') (S : Sit h' 5 6 7 T st' th') (hp : L.Perm (th'.map (·.1))) (hv : ∀ m v, th'.lookup m = some v -> -1000000000 <= v /\ v <= 1000000000) : K9 h' T ns st' th' L := ⟨S, K.good, K.homes.kp k (by decide), k.old _ _ (by decide) K.there, hp, K.sub, K.nl, hv⟩
theorem K9.nd (K : K9 h T ns st th L) : L.Nodup := K.perm.nodup_iff.mpr K.S.ord.ndt
theorem K9.len (K : K9 h T ns st th L) : L.length <= 24 /\ st.length <= 24 := by
  have h1 := card_le K.nd K.sub
  have h2 := K.perm.length_eq
  have h3 := K.S.ord.len
  have h4 := K.nl
  rw [List.length_map] at h2
  lia
theorem K9.mem (K : K9 h T ns st th L) {m : Nm} : m ∈ L ↔ (th.lookup m).isSome = true := by rw [K.perm.mem_iff, some_key]
theorem in_strs {m : Nm} (hi : h[i]? = some (.list (L.map .str))) : cmpAV h .isin (.str m) (.loc i) = some (decide (m ∈ L)) := by
  have e : cmpAV h .isin (.str m) (.loc i) = isIn h (.str m) (.loc i) := rfl
  rw [e]
  delta isIn
  dsimp only
  rw [hi]
  exact find_map (fun a b => rfl) m L
theorem notin_strs {m : Nm} (hi : h[i]? = some (.list (L.map .str))) : cmpAV h .notin (.str m) (.loc i) = some (!decide (m ∈ L)) := congrArg (Option.map not) (in_strs hi)
theorem notin_seats {s : Seat} {w : List Seat} (hn : h[i]? = some (.list (w.map sv))) : cmpAV h .notin (sv s) (.loc i) = some (!decide (s ∈ w)) := congrArg (Option.map not) (in_seats hn)
theorem c_nes {x y : Nm} : cmpAV h .ne (.str x) (.str y) = some (!decide (x = y)) := rfl
theorem crowd_nd (X : Shut T.hm st nm (nestsOf T st nm)) (O : Ord T st th) (hn : th.lookup nm = none) : (crowdOf st nm (nestsOf T st nm) ++ [nm]).Nodup := (List.perm_append_singleton nm _).nodup_iff.mpr (X.nodup O.std (O.no hn))
theorem crowdN_perm : (crowdN T st nm).Perm (nm :: crowdOf st nm (nestsOf T st nm)) := (List.mergeSort_perm _ _).trans (List.perm_append_singleton nm _)
theorem crowdN_rise (X : Shut T.hm st nm (nestsOf T st nm)) (O : Ord T st th) (hn : th.lookup nm = none) : (crowdN T st nm).Pairwise fun a b => a < b := by
  have nd : (crowdN T st nm).Nodup := crowdN_perm.nodup_iff.mpr (X.nodup O.std (O.no hn))
  exact List.Pairwise.imp₂ (fun a b h1 h2 => (List.le_iff_lt_or_eq.mp h1).resolve_right h2) (mergeS_pw _) nd
theorem crowdN_len : (crowdN T st nm).length = (nestsOf T st nm).length + 1 := by rw [crowdN_perm.length_eq, List.length_cons, crowdOf, List.length_map]
theorem K9.few (K : K9 h T ns st th L) (X : Shut T.hm st nm (nestsOf T st nm)) : (nestsOf T st nm).length <= 24 := by
  have h1 := card_le X.nd (l' := keysOf st) fun s hs => xEA (X.all s hs) fun m hm _ => List.mem_map.mpr ⟨_, lookup_mem hm, rfl⟩
  have h2 := K.len.2
  rw [keys_len] at h1
  lia
theorem K9.crowd (K : K9 h T ns st th L) (X : Shut T.hm st nm (nestsOf T st nm)) {m : Nm} (hm : m ∈ crowdN T st nm) : (m = nm \/ m ∈ L) /\ T.hm m 0 ∈ nestsOf T st nm /\ T.hm m 1 ∈ nestsOf T st nm := by
  have hm := crowdN_perm.mem_iff.mp hm
  refine ⟨?_, X.both hm⟩
  rcases List.mem_cons.mp hm with e | hm
  . exact .inl e
  . refine xEA (X.mem hm).1 fun s _ hs => ?_
    exact .inr (K.mem.mpr ((K.S.ord.there m).mp ⟨s, hs⟩))
structure HasC (p : Prog) : Prop extends HasL p where
  lcrowd : Prog.has p "_law_crowd" d__law_crowd
abbrev LC9 (i j : Nat) (nm : Nm) (x6 x7 : Option AV) : Locs := [some (.tup [.loc i, .loc j]), some (.loc 3), some (.loc 9), some (.str nm), some (.loc i), some (.loc j), x6, x7]
theorem nests_loop {F : Nat} {C : List Seat} (hj : h[j]? = some (.list (C.map sv))) (hl : C.length <= 1000) (hr : C.Pairwise fun a b => lexLt a b = true) (hF : 50000 <= F) :
    ∃ x, forLoop (put1 6) (fun l h => execSs (cF p n F) b__law_crowd_1 l h) (.rng 1 C.length 1) F 0 (LC9 i j nm none none) h = .ok .next (LC9 i j nm x none) h := by
  obtain ⟨l', h', e2, eh, x, el⟩ := forLoop_all (i := 6) (src := .rng 1 C.length 1) (items := rngItems 1 C.length 1) (body := fun l h => execSs (cF p n F) b__law_crowd_1 l h) (fun k l h' => h' = h /\ ∃ x, l = LC9 i j nm x none) (fun k l h' _ => next_up1 hl) (fun k x l h' hv hI => by
    refine xA (up1_item hv) fun hk e => ?_
    subst e
    obtain ⟨eh, y, el⟩ := hI
    subst el
    rw [eh]
    have h0 := seat_at (Nat.lt_of_succ_lt hk)
    have h1 := seat_at hk
    have hlt : lexLt (seatAt C k) (seatAt C (k + 1)) = true := by
      have := List.pairwise_iff_getElem.mp hr k (k + 1) (Nat.lt_of_succ_lt hk) hk (Nat.lt_succ_self k)
      rw [List.getElem?_eq_getElem (Nat.lt_of_succ_lt hk)] at h0
      rw [List.getElem?_eq_getElem hk] at h1
      rwa [Option.some.inj h0, Option.some.inj h1] at this
    have s0 := seat_sub hj (by lia) (Nat.lt_of_succ_lt hk)
    have s1 := seat_sub hj (by lia) hk
    generalize seatAt C k = a at hlt s0
    generalize seatAt C (k + 1) = b at hlt s1
    unfold lexLt at hlt
    rw [Bool.or_eq_true, Bool.and_eq_true, decide_eq_true_eq, decide_eq_true_eq, decide_eq_true_eq] at hlt
    have b0 : evalX (cF p n F) (.sub (.sub (.loc 5) (.loc 6)) (.int 0)) (LC9 i j nm (some (.int (k + 1 : Nat))) none) h = .ok (.int b.1) h := ev_sub (ev_sub rfl rfl s1) rfl sv0
    have b1 : evalX (cF p n F) (.sub (.sub (.loc 5) (.loc 6)) (.int 1)) (LC9 i j nm (some (.int (k + 1 : Nat))) none) h = .ok (.int b.2) h := ev_sub (ev_sub rfl rfl s1) rfl sv1
    have a0 : evalX (cF p n F) (.sub (.sub (.loc 5) (.bin .sub (.loc 6) (.int 1))) (.int 0)) (LC9 i j nm (some (.int (k + 1 : Nat))) none) h = .ok (.int a.1) h := ev_sub (ev_sub rfl (ev_bin rfl rfl dec1) s0) rfl sv0
    have a1 : evalX (cF p n F) (.sub (.sub (.loc 5) (.bin .sub (.loc 6) (.int 1))) (.int 1)) (LC9 i j nm (some (.int (k + 1 : Nat))) none) h = .ok (.int a.2) h := ev_sub (ev_sub rfl (ev_bin rfl rfl dec1) s0) rfl sv1
    have ce : cmpAV h .eq (.tup [.int b.1, .int b.2]) (.tup [.int a.1, .int a.2]) = some false := (eqv_pair (n := 4)).trans (congrArg some (by rw [Bool.and_eq_false_iff, decide_eq_false_iff_not, decide_eq_false_iff_not]; lia))
    have cl : cmpAV h .lt (.int b.1) (.int a.1) = some false := by rw [c_lt, decide_eq_false (by lia)]
    have le2 : ∀ x y : AV, [x, y].length <= 1000 := fun _ _ => Nat.le_of_ble_eq_true rfl
    have c2 : evalX (cF p n F) (.and (.cmp .eq (.sub (.sub (.loc 5) (.loc 6)) (.int 0)) (.sub (.sub (.loc 5) (.bin .sub (.loc 6) (.int 1))) (.int 0))) (.cmp .lt (.sub (.sub (.loc 5) (.loc 6)) (.int 1)) (.sub (.sub (.loc 5) (.bin .sub (.loc 6) (.int 1))) (.int 1)))) (LC9 i j nm (some (.int (k + 1 : Nat))) none) h = .ok (.bool false) h := by
      by_cases q : b.1 = a.1
      . exact ev_and_t (ev_cmp b0 a0 (by rw [c_eqi, decide_eq_true q])) (ev_cmp b1 a1 (by rw [c_lt, decide_eq_false (by lia)]))
      . exact ev_and_f (ev_cmp b0 a0 (by rw [c_eqi, decide_eq_false q]))
    exact ⟨_, _, (ss_step (st_f (ev_or_f (ev_cmp (ev_tup (ev_cons b0 (ev_one b1)) (le2 _ _)) (ev_tup (ev_cons a0 (ev_one a1)) (le2 _ _)) ce) (ev_cmp b0 a0 cl)) rfl)).trans (ss_last (st_f c2 rfl)), rfl, _, rfl⟩) (f := F) (l := LC9 i j nm none none) (h := h) (by rw [up1_length]; lia) ⟨rfl, none, rfl⟩
  subst el
  exact ⟨x, by rw [e2, eh]⟩
theorem names_loop {F : Nat} {x6 : Option AV} (K : K9 h T ns st th L) (hm : nm ∈ ns) (X : Shut T.hm st nm (nestsOf T st nm)) (hi : h[i]? = some (.list ((crowdN T st nm).map .str))) (hj : h[j]? = some (.list ((sortK (nestsOf T st nm)).map sv))) (hF : 50000 <= F) :
    ∃ x, forLoop (put1 7) (fun l h => execSs (cF p n F) b__law_crowd_2 l h) (.loc i) F 0 (LC9 i j nm x6 none) h = .ok .next (LC9 i j nm x6 x) h := by
  have hfew := K.few X
  obtain ⟨l', h', e2, eh, x, el⟩ := forLoop_all (i := 7) (src := .loc i) (items := (crowdN T st nm).map .str) (body := fun l h => execSs (cF p n F) b__law_crowd_2 l h) (fun k l h' => h' = h /\ ∃ x, l = LC9 i j nm x6 x) (fun k l h' q => by rw [q.1]; exact next_list hi) (fun k x l h' hv hI => by
    obtain ⟨eh, y, el⟩ := hI
    subst el
    rw [eh]
    rw [List.getElem?_map] at hv
    refine xEA (Option.map_eq_some_iff.mp hv) fun m hmk e => ?_
    subst e
    refine xAA (K.crowd X (List.mem_of_getElem? hmk)) fun hor c0 c1 => ?_
    have hmn : m ∈ ns := hor.elim (fun e => e ▸ hm) (K.sub m)
    have t1 : evalX (cF p n F) (.and (.cmp .ne (.loc 7) (.loc 3)) (.cmp .notin (.loc 7) (.loc 2))) (LC9 i j nm x6 (some (.str m))) h = .ok (.bool false) h := by
      by_cases q : m = nm
      . exact ev_and_f (ev_cmp rfl rfl (by rw [c_nes, decide_eq_true q]; rfl))
      . exact ev_and_t (ev_cmp rfl rfl (by rw [c_nes, decide_eq_false q]; rfl)) (ev_cmp rfl rfl (by rw [notin_strs K.there, decide_eq_true (hor.resolve_left q)]; rfl))
    have sub : ∀ s ∈ nestsOf T st nm, cmpAV h .notin (sv s) (.loc j) = some false := fun s hs => by rw [notin_seats hj, decide_eq_true (sortK_perm.mem_iff.mpr hs)]; rfl
    exact ⟨_, _, ss_last (st_f (ev_or_f t1 (ev_or_f (ev_cmp (ev_sub (ev_sub rfl rfl (K.homes.get hmn)) rfl (homes_at (.inl rfl))) rfl (sub _ c0)) (ev_cmp (ev_sub (ev_sub rfl rfl (K.homes.get hmn)) rfl (homes_at (.inr rfl))) rfl (sub _ c1)))) rfl), rfl, _, rfl⟩) (f := F) (l := LC9 i j nm x6 none) (h := h) (by rw [List.length_map, crowdN_len]; lia) ⟨rfl, none, rfl⟩
  subst el
  exact ⟨x, by rw [e2, eh]⟩
theorem crowd_no (K : K9 h T ns st th L) (hn : th.lookup nm = none) (X : Shut T.hm st nm (nestsOf T st nm)) {t : Tk} (Q : TkOk ((crowdN T st nm).map (pairT T)) t ((crowdN T st nm).map (pairT T)).length) : False := by
  have hl : ((crowdN T st nm).map (pairT T)).length = (crowdN T st nm).length := List.length_map ..
  rw [hl] at Q
  have at' : ∀ m ∈ nm :: crowdOf st nm (nestsOf T st nm), (crowdN T st nm)[(crowdN T st nm).idxOf m]? = some m /\ (crowdN T st nm).idxOf m < (crowdN T st nm).length := fun m hm => by
    have := List.idxOf_lt_length_of_mem (crowdN_perm.mem_iff.mpr hm)
    exact ⟨by rw [List.getElem?_eq_getElem this, List.getElem_idxOf], this⟩
  refine X.no K.S.ord.std (K.S.ord.no hn) Q.std (fun m => (crowdN T st nm).idxOf m) (fun m hm => ⟨(Q.who _).mpr (at' m hm).2, fun r hr => hmP_at (at' m hm).1 hr⟩) fun x hx y hy e => ?_
  have h1 := (at' x hx).1
  rw [show (crowdN T st nm).idxOf x = (crowdN T st nm).idxOf y from e, (at' y hy).1] at h1
  exact (Option.some.inj h1).symm
theorem run_lcrowd (H : HasC p) (K : K9 h T ns st th L) (hm : nm ∈ ns) (hn : th.lookup nm = none) (X : Shut T.hm st nm (nestsOf T st nm)) (hi : h[i]? = some (.list ((crowdN T st nm).map .str))) (hj : h[j]? = some (.list ((sortK (nestsOf T st nm)).map sv))) :
    ∃ h', semF p (n + 4) false "_law_crowd" [.tup [.loc i, .loc j], .loc 3, .loc 9, .str nm] h = .ok (.bool true) h' /\ Kp [] h h' := by
  refine xEA (run_in (n := n + 3) (h := h) H.lcrowd (as := [.tup [.loc i, .loc j], .loc 3, .loc 9, .str nm]) [some (.tup [.loc i, .loc j]), some (.loc 3), some (.loc 9), some (.str nm), none, none, none, none] rfl rfl) fun F hF e1 => ?_
  have hfew := K.few X
  have hNl := crowdN_len (T := T) (st := st) (nm := nm)
  have hsl : (sortK (nestsOf T st nm)).length = (nestsOf T st nm).length := sortK_perm.length_eq
  have isl : ∀ {k : Nat} {xs : List AV}, h[k]? = some (.list xs) -> isTy h (.loc k) .list = some true := fun q => by
    show (listAt h _).map _ = _
    rw [listAt_of q]; rfl
  have l2 : evalX (cF p (n + 3) F) (.or (.not (.isi (.loc 0) .tuple)) (.cmp .ne (.bi .len (.cons (.loc 0) .nil)) (.int 2))) [some (.tup [.loc i, .loc j]), some (.loc 3), some (.loc 9), some (.str nm), none, none, none, none] h = .ok (.bool false) h := ev_or_f (ev_not (b := true) (ev_isi rfl rfl)) (ev_cmp (ev_bi rfl (ev_one rfl) (len_tup (Nat.le_of_ble_eq_true rfl))) rfl rfl)
  have l3 : evalX (cF p (n + 3) F) (.or (.not (.isi (.sub (.loc 0) (.int 0)) .list)) (.not (.isi (.sub (.loc 0) (.int 1)) .list))) [some (.tup [.loc i, .loc j]), some (.loc 3), some (.loc 9), some (.str nm), none, none, none, none] h = .ok (.bool false) h := ev_or_f (ev_not (b := true) (ev_isi (ev_sub rfl rfl sub_t0) (isl hi))) (ev_not (b := true) (ev_isi (ev_sub rfl rfl sub_t1) (isl hj)))
  have l4 : execS (cF p (n + 3) F) (.asgt [4, 5] (.loc 0)) [some (.tup [.loc i, .loc j]), some (.loc 3), some (.loc 9), some (.str nm), none, none, none, none] h = .ok .next (LC9 i j nm none none) h := rfl
  have l5 : evalX (cF p (n + 3) F) (.or (.not (.call "_law_rising" (.cons (.loc 4) .nil))) (.or (.cmp .ne (.bi .len (.cons (.loc 4) .nil)) (.bin .add (.bi .len (.cons (.loc 5) .nil)) (.int 1))) (.cmp .notin (.loc 3) (.loc 4)))) (LC9 i j nm none none) h = .ok (.bool false) h :=
    ev_or_f (ev_not (b := true) (ev_call rfl (run_rising (n := n + 2) H.toHasL hi (by lia) (crowdN_rise X K.S.ord hn)))) (ev_or_f (ev_cmp (ev_bi rfl (ev_one rfl) (len_strs hi)) (ev_bin (ev_bi rfl (ev_one rfl) (len_seats hj)) rfl b_add) (by rw [c_nei, decide_eq_true (by lia)]; rfl)) (ev_cmp rfl rfl (by rw [notin_strs hi, decide_eq_true (crowdN_perm.mem_iff.mpr List.mem_cons_self)]; rfl)))
  refine xE (nests_loop (p := p) (n := n + 3) (i := i) (nm := nm) hj (by lia) (sortK_pw X.nd) hF) fun x6 f1 => ?_
  refine xE (names_loop (p := p) (n := n + 3) (x6 := x6) K hm X hi hj hF) fun x7 f2 => ?_
  have pr := run_pairs (n := n + 2) H.toHasL K.homes (L := crowdN T st nm) (fun m hm' => (K.crowd X hm').1.elim (fun e => e ▸ hm) (K.sub m)) hi (by lia)
  have se := run_seated (n := n) H.seat (get_new (h := h) (o := .list (((crowdN T st nm).map (pairT T)).map sv))) (by rw [List.length_map]; lia)
  generalize hs : semF p (n + 3) false "seated" [.loc h.length] (h ++ [.list (((crowdN T st nm).map (pairT T)).map sv)]) = r at se
  cases se with
  | yes t v h' Q q => exact (crowd_no K hn X Q).elim
  | no t m C v h' O' X' hlt hm' q =>
    refine ⟨h', ?_, Kp.app.trans q⟩
    rw [e1, d__law_crowd, ss_step (st_f l2 rfl), ss_step (st_f l3 rfl), ss_step l4, ss_step (st_f l5 rfl), ss_step (st_for rfl (ev_range (ev_cons rfl (ev_one (ev_bi rfl (ev_one rfl) (len_seats hj)))) (range_up1 (by lia))) f1), ss_step (st_for rfl rfl f2)]
    exact fin_ret (ss_last (st_ret (ev_cmp (ev_sub (ev_call (ev_one (ev_call rfl pr)) hs) rfl sub_t0) rfl rfl)))
end
end
section
open PySem Cu
noncomputable def d__law_again : FDef := ⟨5, 7,
  (.cons (.asg 5 (.sub (.comp (.loc 7) 1 7 (.sub (.loc 4) (.int 0)) (.cons (.cmp .ne (.loc 7) (.loc 3)) .nil)) (.int 0)))
  (.cons (.asg 6 (.im "take_out" (.loc 0) (.cons (.loc 5) .nil)))
  (.cons (.iff (.or (.isn false (.im "crowd" (.loc 0) (.cons (.loc 3) .nil))) (.or (.not (.call "_law_let" (.cons (.loc 0) (.cons (.loc 3) (.cons (.int 3) .nil))))) (.cmp .ne (.im "value" (.loc 0) (.cons (.loc 3) .nil)) (.int 3))))
    (.cons (.ret (.bool false))
    .nil)
    .nil)
  (.cons (.iff (.or (.isn true (.im "crowd" (.loc 0) (.cons (.loc 5) .nil))) (.call "_law_let" (.cons (.loc 0) (.cons (.loc 5) (.cons (.loc 6) .nil)))))
    (.cons (.ret (.bool false))
    .nil)
    .nil)
  (.cons (.expr (.im "take_out" (.loc 0) (.cons (.loc 3) .nil)))
  (.cons (.ret (.and (.call "_law_let" (.cons (.loc 0) (.cons (.loc 5) (.cons (.loc 6) .nil)))) (.cmp .eq (.bi .sorted (.cons (.im "names" (.loc 0) .nil) .nil)) (.bi .sorted (.cons (.loc 2) .nil)))))
  .nil))))))⟩
structure HasA (p : Prog) : Prop extends HasC p where
  again : Prog.has p "_law_again" d__law_again
section
variable {p : Prog} {n : Nat} {h h' : AHeap} {T : Tb} {st st' : St'} {th th' : Th} {nm : Nm} {v : Int} {L ns : List Nm} {i j : Nat}
noncomputable def butQ (nm m : Nm) : Option AV := if m = nm then none else some (.str m)
theorem but_one {N : List Nm} {m : Nm} (hm : m ∈ N) (hne : m ≠ nm) : ∃ g rest, N.filterMap (butQ nm) = .str g :: rest /\ g ∈ N /\ g ≠ nm := by
  rcases hf : N.filterMap (butQ nm) with _ | ⟨x, rest⟩
  . have := List.filterMap_eq_nil_iff.mp hf m hm
    rw [butQ, if_neg hne] at this
    cases this
  . have hx : x ∈ N.filterMap (butQ nm) := by rw [hf]; exact List.mem_cons_self
    refine xEA (List.mem_filterMap.mp hx) fun g hg e => ?_
    unfold butQ at e
    by_cases q : g = nm
    . rw [if_pos q] at e; cases e
    . rw [if_neg q] at e; cases e
      exact ⟨g, rest, rfl, hg, q⟩
theorem where_in (O : Ord T st th) {C : List Seat} (X : Shut T.hm st nm C) {g : Nm} (hg : g ∈ crowdOf st nm C) : (th.lookup g).isSome = true /\ whereOf T st g ∈ C /\ st.lookup (whereOf T st g) = some g := by
  refine xEA (X.mem hg).1 fun s hs hl => ?_
  have h1 := (O.there g).mp ⟨s, hl⟩
  have h2 := O.stands h1
  exact ⟨h1, O.once _ _ _ hl h2 ▸ hs, h2⟩
theorem back_at {g : Nm} (hg : th.lookup g = some v) (hn : th.lookup nm = none) (x : Nm) : (put (drop (put (drop th g) nm 3) nm) g v).lookup x = th.lookup x := by
  rw [put_lookup, drop_lookup, put_lookup, drop_lookup]
  by_cases h1 : x = g
  . rw [if_pos h1, h1, hg]
  . rw [if_neg h1, if_neg h1]
    by_cases h2 : x = nm
    . rw [if_pos h2, h2, hn]
    . rw [if_neg h2, if_neg h2]
theorem names_perm (O : Ord T st th) : (namesOf st).Perm (th.map (·.1)) := by
  have e : (keysOf st).map (nameAt st) = st.map (·.2) := by
    rw [keysOf, List.map_map]
    exact List.map_congr_left fun q hq => by
      show nameAt st q.1 = q.2
      rw [nameAt, lookup_of_mem O.nd (show (q.1, q.2) ∈ st from hq)]; rfl
  exact ((sortK_perm.map _).trans (.of_eq e)).trans O.names
theorem eq_strs {a b : Nat} {A B : List Nm} (ha : h[a]? = some (.list (A.map .str))) (hb : h[b]? = some (.list (B.map .str))) : eqv h eqFuel (.loc a) (.loc b) = some (decide (A = B)) := eq_lists (f := 5) ha hb fun _ _ => rfl
abbrev LA (nm g : Nm) (i j : Nat) (v : Int) : Locs := [some (.loc 5), some (.loc 3), some (.loc 9), some (.str nm), some (.tup [.loc i, .loc j]), some (.str g), some (.int v)]
theorem again_one (H : HasA p) (K : K9 h T ns st th L) (X : Shut T.hm st nm (nestsOf T st nm)) (hn : th.lookup nm = none) (hi : h[i]? = some (.list ((crowdN T st nm).map .str))) {F : Nat} (hF : 50000 <= F) :
    ∃ g h', execS (cF p n F) (.asg 5 (.sub (.comp (.loc 7) 1 7 (.sub (.loc 4) (.int 0)) (.cons (.cmp .ne (.loc 7) (.loc 3)) .nil)) (.int 0))) [some (.loc 5), some (.loc 3), some (.loc 9), some (.str nm), some (.tup [.loc i, .loc j]), none, none] h = .ok .next [some (.loc 5), some (.loc 3), some (.loc 9), some (.str nm), some (.tup [.loc i, .loc j]), some (.str g), none] h' /\ Kp [] h h' /\ g ∈ crowdOf st nm (nestsOf T st nm) /\ g ≠ nm := by
  have hfew := K.few X
  have hNl := crowdN_len (T := T) (st := st) (nm := nm)
  refine xEA (X.all _ X.h0) fun m0 a0 _ => ?_
  have hm0 : m0 ∈ crowdOf st nm (nestsOf T st nm) := List.mem_map.mpr ⟨_, X.h0, by rw [a0]; rfl⟩
  have hne : m0 ≠ nm := fun e => K.S.ord.no hn _ (e ▸ a0)
  refine xEEAA (but_one (crowdN_perm.mem_iff.mpr (List.mem_cons_of_mem _ hm0)) hne) fun g rest hf hg hgn => ?_
  have hc := comp_run (h := h) (u := .loc i) (n := F) (its := crowdN T st nm) (g := AV.str) (q := butQ nm) (body := fun v h => (evalConds (cF p n F) (.cons (.cmp .ne (.loc 7) (.loc 3)) .nil) (inner [some (.loc 5), some (.loc 3), some (.loc 9), some (.str nm), some (.tup [.loc i, .loc j]), none, none] 1 7 v) h).bind fun q h => ifB q h (evalX (cF p n F) (.loc 7) (inner [some (.loc 5), some (.loc 3), some (.loc 9), some (.str nm), some (.tup [.loc i, .loc j]), none, none] 1 7 v) h))
    (fun k => next_list hi) (fun m hm => by
      have e : evalX (cF p n F) (.cmp .ne (.loc 7) (.loc 3)) (inner [some (.loc 5), some (.loc 3), some (.loc 9), some (.str nm), some (.tup [.loc i, .loc j]), none, none] 1 7 (.str m)) h = .ok (.bool !decide (m = nm)) h := ev_cmp rfl rfl c_nes
      unfold butQ
      by_cases q : m = nm
      . rw [decide_eq_true q] at e
        rw [if_pos q]
        exact cb_f e
      . rw [decide_eq_false q] at e
        rw [if_neg q]
        exact cb_t e rfl) (by lia) (by lia)
  have hlen : (List.filterMap (butQ nm) (crowdN T st nm)).length <= 30 := Nat.le_trans (List.length_filterMap_le _ _) (by lia)
  rw [hf] at hc hlen
  exact ⟨g, _, st_asg (ev_sub (ev_comp rfl (ev_sub rfl rfl sub_t0) hc (by lia)) rfl (sub_list (lim_le (by lia)) get_new (Int.le_refl _) rfl)), Kp.app, (List.mem_cons.mp (crowdN_perm.mem_iff.mp hg)).resolve_left hgn, hgn⟩
structure Sw (h h' : AHeap) (T : Tb) (st : St') (th : Th) (g nm : Nm) (v : Int) : Prop where
  k : Kp [6, 7] h h'
  out : th.lookup g = some v
  ex : ∃ st', Sit h' 5 6 7 T st' (put (drop th g) nm 3) /\ bestOf T st' g = none
theorem again_two (H : HasA p) (K : K9 h T ns st th L) (hnm : nm ∈ ns) (X : Shut T.hm st nm (nestsOf T st nm)) (hn : th.lookup nm = none) {g : Nm} (hg : g ∈ crowdOf st nm (nestsOf T st nm)) (hgn : g ≠ nm) {F : Nat} :
    ∃ v h', execSs (cF p (n + 8) F) (.cons (.asg 6 (.im "take_out" (.loc 0) (.cons (.loc 5) .nil)))
      (.cons (.iff (.or (.isn false (.im "crowd" (.loc 0) (.cons (.loc 3) .nil))) (.or (.not (.call "_law_let" (.cons (.loc 0) (.cons (.loc 3) (.cons (.int 3) .nil))))) (.cmp .ne (.im "value" (.loc 0) (.cons (.loc 3) .nil)) (.int 3))))
        (.cons (.ret (.bool false)) .nil) .nil) .nil)) [some (.loc 5), some (.loc 3), some (.loc 9), some (.str nm), some (.tup [.loc i, .loc j]), some (.str g), none] h = .ok .next (LA nm g i j v) h' /\ Sw h h' T st th g nm v := by
  have O := K.S.ord
  have hlen := K.len.2
  refine xAA (where_in O X hg) fun hgs hw hwl => ?_
  refine xE (Option.isSome_iff_exists.mp hgs) fun v hv => ?_
  have Gg := (O.home _ g hwl).1
  have Gn := K.good nm hnm
  refine xEAA (run_take_out (n := n + 3) H.toHasP K.S Gg hv) fun h1 e1 k1 S1 => ?_
  have hb1 : bestOf T (drop st (whereOf T st g)) nm ≠ none := X.gone O (fun s => by rw [nestsOf, uni_mem, List.mem_append]) hw hwl S1.ord
  have hn1 : (drop th g).lookup nm = none := by rw [drop_lookup, if_neg (fun e => hgn e.symm)]; exact hn
  have l1 : (drop st (whereOf T st g)).length < 60 := Nat.lt_of_le_of_lt (List.length_filter_le ..) (by lia)
  have C1 := run_crowd (n := n + 2) H.toHasN S1 Gn l1
  generalize hc1 : semF p (n + 8) false "crowd" [.loc 5, .str nm] h1 = r1 at C1
  cases C1 with
  | yes h2 i2 j2 hn2 hb2 X2 hi2 hj2 hi' hj' k2 => exact absurd hb2 hb1
  | no h2 hx k2 =>
  have S2 := S1.keep k2
  have R := run_let (n := n) H.toHasL S2 Gn (v := 3) (by decide) (by decide) l1
  generalize hr : semF p (n + 8) false "_law_let" [.loc 5, .str nm, .int 3] h2 = r at R
  cases R with
  | no h3 hn3 hb3 k3 => exact absurd hb3 hb1
  | yes h3 st2 hx3 S3 k3 =>
  have hval := run_value (n := n + 6) H.toHasN S3 (nm := nm) (v := 3) (by rw [put_lookup, if_pos rfl])
  have O3 := S3.ord
  have fl := X.fills O.std (O.no hn) O3.std hg fun m hm hmg => (O3.there m).mpr (by
    rw [put_lookup]
    by_cases q : m = nm
    . rw [if_pos q]; rfl
    . rw [if_neg q, drop_lookup, if_neg hmg]
      refine xEA (X.mem ((List.mem_cons.mp hm).resolve_left q)).1 fun s _ hs => ?_
      exact (O.there m).mp ⟨s, hs⟩)
  refine ⟨v, h3, ?_, (k1.trans (k2.wide fun _ e => nomatch e)).trans k3, hv, st2, S3, best_full O3 fl (X.mem hg).2.1 (X.mem hg).2.2⟩
  exact (ss_step (st_asg (ev_im rfl (K.S.tab.meth rfl) rfl e1))).trans (ss_last (st_f (ev_or_f (ev_isn (v := .none) (b := false) (ev_im rfl (S1.tab.meth rfl) rfl hc1)) (ev_or_f (ev_not (b := true) (ev_call rfl hr)) (ev_cmp (ev_im rfl (S3.tab.meth rfl) rfl hval) rfl rfl))) rfl))
inductive AgRes (h : AHeap) (T : Tb) (ns L : List Nm) : Res AV -> Prop
  | mk (h' : AHeap) (st : St') (th : Th) (K : K9 h' T ns st th L) (k : Kp [6, 7] h h') : AgRes h T ns L (.ok (.bool true) h')
theorem again_three (H : HasA p) (K : K9 h T ns st th L) (hnm : nm ∈ ns) (hn : th.lookup nm = none) {g : Nm} (hgn : g ≠ nm) (hgL : g ∈ ns) {h1 : AHeap} (W : Sw h h1 T st th g nm v) {F : Nat} :
    AgRes h T ns L (retR (execSs (cF p (n + 8) F) (.cons (.iff (.or (.isn true (.im "crowd" (.loc 0) (.cons (.loc 5) .nil))) (.call "_law_let" (.cons (.loc 0) (.cons (.loc 5) (.cons (.loc 6) .nil)))))
        (.cons (.ret (.bool false)) .nil) .nil)
      (.cons (.expr (.im "take_out" (.loc 0) (.cons (.loc 3) .nil)))
      (.cons (.ret (.and (.call "_law_let" (.cons (.loc 0) (.cons (.loc 5) (.cons (.loc 6) .nil)))) (.cmp .eq (.bi .sorted (.cons (.im "names" (.loc 0) .nil) .nil)) (.bi .sorted (.cons (.loc 2) .nil))))) .nil))) (LA nm g i j v) h1)) := by
  obtain ⟨kw, hv, st2, S2, hb⟩ := W
  have O := K.S.ord
  have hlen := K.len.2
  have Gg := K.good g hgL
  have Gn := K.good nm hnm
  have hvv := K.vals g v hv
  have lt2 : (put (drop th g) nm 3).length <= th.length + 1 := by
    have h1 := put_length (t := drop th g) (a := nm) (b := (3 : Int))
    have h2 : (drop th g).length <= th.length := List.length_filter_le ..
    split at h1 <;> lia
  have l2 : st2.length < 60 := by have := S2.ord.len; have := O.len; lia
  have hg2 : (put (drop th g) nm 3).lookup g = none := by rw [put_lookup, if_neg hgn, drop_lookup, if_pos rfl]
  have C1 := run_crowd (n := n + 2) H.toHasN S2 Gg l2
  generalize hc1 : semF p (n + 8) false "crowd" [.loc 5, .str g] h1 = r1 at C1
  cases C1 with
  | no h2 hx k2 =>
    rcases hx with hx | hx
    . rw [hg2] at hx; cases hx
    . exact absurd hb hx
  | yes h2 i2 j2 hn2 hb2 X2 hi2 hj2 hi' hj' k2 =>
  have S3 := S2.keep k2
  have R := run_let (n := n) H.toHasL S3 Gg (v := v) hvv.1 hvv.2 l2
  generalize hr : semF p (n + 8) false "_law_let" [.loc 5, .str g, .int v] h2 = r at R
  cases R with
  | yes h3 st3 hx S k =>
    rcases hx with hx | hx
    . rw [hg2] at hx; cases hx
    . exact absurd hb hx
  | no h3 hn3 hb3 k3 =>
  have S4 := S3.keep k3
  refine xEAA (run_take_out (n := n + 3) H.toHasP S4 Gn (v := 3) (by rw [put_lookup, if_pos rfl])) fun h4 e4 k4 S5 => ?_
  have l3 : (drop st2 (whereOf T st2 nm)).length < 60 := Nat.lt_of_le_of_lt (List.length_filter_le ..) l2
  have hg3 : (drop (put (drop th g) nm 3) nm).lookup g = none := by rw [drop_lookup, if_neg hgn]; exact hg2
  have hb5 : bestOf T (drop st2 (whereOf T st2 nm)) g ≠ none := best_again O S5.ord hg3 (by rw [hv]; rfl) fun m hm => by
    rw [drop_lookup] at hm
    by_cases q : m = nm
    . rw [if_pos q] at hm; cases hm
    . rw [if_neg q, put_lookup, if_neg q, drop_lookup] at hm
      by_cases q2 : m = g
      . rw [if_pos q2] at hm; cases hm
      . rwa [if_neg q2] at hm
  have R2 := run_let (n := n) H.toHasL S5 Gg (v := v) hvv.1 hvv.2 l3
  generalize hr2 : semF p (n + 8) false "_law_let" [.loc 5, .str g, .int v] h4 = r2 at R2
  cases R2 with
  | no h5 hn5 hb5' k5 => exact absurd hb5' hb5
  | yes h5 st5 hx5 S6 k5 =>
  have hback := back_at hv hn
  have kk : Kp [6, 7] h h5 := (((kw.trans (k2.wide fun _ e => nomatch e)).trans (k3.wide fun _ e => nomatch e)).trans k4).trans k5
  have K5 : K9 h5 T ns st5 _ L := K.turn kk S6 ((List.perm_ext_iff_of_nodup K.nd S6.ord.ndt).mpr fun x => by rw [some_key, hback, K.mem]) fun m w hm => K.vals m w (by rw [<- hback]; exact hm)
  have en := run_names (n := n + 7) H.toHasN K5.S
  have hln := (names_perm K5.S.ord).trans K5.perm.symm
  have hl24 := K5.len.1
  have g1 := get_new (h := h5 ++ [.list ((sortK (keysOf st5)).map sv)]) (o := .list ((namesOf st5).map .str))
  have hl1 : (h5 ++ [AObj.list ((sortK (keysOf st5)).map sv)]).length = h5.length + 1 := by rw [List.length_append]; rfl
  rw [hl1] at g1
  have t1 := get_old (g := [.list ((namesOf st5).map .str)]) (get_old (g := [.list ((sortK (keysOf st5)).map sv)]) K5.there)
  have q1 : Kp [] h5 (h5 ++ [.list ((sortK (keysOf st5)).map sv)] ++ [.list ((namesOf st5).map .str)]) := Kp.app.trans Kp.app
  generalize h5 ++ [.list ((sortK (keysOf st5)).map sv)] ++ [.list ((namesOf st5).map .str)] = h6 at en g1 t1 q1
  have s1 := sort_strs g1 (by rw [hln.length_eq]; lia)
  have s2 := sort_strs (get_old (g := [.list (((namesOf st5).mergeSort leS).map .str)]) t1) (by lia)
  have ee : (namesOf st5).mergeSort leS = L.mergeSort leS := sort_one ((List.mergeSort_perm _ _).trans hln) (mergeS_pw _)
  have eq : cmpAV _ .eq (.loc h6.length) (.loc (h6 ++ [AObj.list (((namesOf st5).mergeSort leS).map .str)]).length) = some true := (eq_of_list get_new (eq_strs (get_old get_new) get_new)).trans (by rw [decide_eq_true ee])
  rw [ss_step (st_f (ev_or_f (ev_isn (v := .tup [.loc i2, .loc j2]) (b := true) (ev_im rfl (S2.tab.meth rfl) rfl hc1)) (ev_call rfl hr)) rfl), ss_step (st_expr (ev_im rfl (S4.tab.meth rfl) rfl e4)), ss_last (st_ret (ev_and_t (ev_call rfl hr2) (ev_cmp (ev_bi rfl (ev_one (ev_im rfl (S6.tab.meth rfl) rfl en)) s1) (ev_bi rfl (ev_one rfl) s2) eq))), retR_ret]
  have q2 : Kp [] h5 (h6 ++ [.list (((namesOf st5).mergeSort leS).map .str)] ++ [.list ((L.mergeSort leS).map .str)]) := (q1.trans Kp.app).trans Kp.app
  exact .mk _ _ _ (K5.keep q2) (kk.trans (q2.wide fun _ e => nomatch e))
theorem run_again (H : HasA p) (K : K9 h T ns st th L) (hnm : nm ∈ ns) (X : Shut T.hm st nm (nestsOf T st nm)) (hn : th.lookup nm = none) (hi : h[i]? = some (.list ((crowdN T st nm).map .str))) : AgRes h T ns L (semF p (n + 9) false "_law_again" [.loc 5, .loc 3, .loc 9, .str nm, .tup [.loc i, .loc j]] h) := by
  refine xEA (run_in (n := n + 8) (h := h) H.again (as := [.loc 5, .loc 3, .loc 9, .str nm, .tup [.loc i, .loc j]]) [some (.loc 5), some (.loc 3), some (.loc 9), some (.str nm), some (.tup [.loc i, .loc j]), none, none] rfl rfl) fun F hF e1 => ?_
  refine xEEAAA (again_one (n := n + 8) (j := j) H K X hn hi hF) fun g h1 s1 k1 hg hgn => ?_
  have K1 := K.keep k1
  refine xEEA (again_two (n := n) (i := i) (j := j) (F := F) H K1 hnm X hn hg hgn) fun v h2 s2 W => ?_
  have hgL : g ∈ ns := K.sub g (K.mem.mpr (where_in K.S.ord X hg).1)
  have A := again_three (n := n) (i := i) (j := j) (F := F) H K1 hnm hn hgn hgL W
  have two : ∀ (a b : S) (r : Ss) (l l' : Locs) (h h' : AHeap), execSs (cF p (n + 8) F) (.cons a (.cons b .nil)) l h = .ok .next l' h' -> execSs (cF p (n + 8) F) (.cons a (.cons b r)) l h = execSs (cF p (n + 8) F) r l' h' := fun a b r l l' h h' e => by
    rw [ss_cons] at e |-
    rcases ea : execS (cF p (n + 8) F) a l h with ⟨f, l1, g1⟩ | _ | _ <;> rw [ea] at e
    . rcases f with _ | _
      . rw [turn_next] at e |-
        rw [ss_cons] at e |-
        rcases eb : execS (cF p (n + 8) F) b l1 g1 with ⟨f, l2, g2⟩ | _ | _ <;> rw [eb] at e
        . rcases f with _ | _
          . cases e; rfl
          . cases e
          . cases e
        . cases e
        . cases e
      . cases e
      . cases e
    . cases e
    . cases e
  rw [e1, d__law_again, ss_step s1, two _ _ _ _ _ _ _ s2]
  generalize hq : retR _ = r at A |-
  cases A with
  | mk h' st' th' K' k => exact .mk h' st' th' K' ((k1.wide fun _ e => nomatch e).trans k)
end
end
section
open PySem Cu
noncomputable def d__law_put_one : FDef := ⟨5, 7,
  (.cons (.asg 5 (.im "names" (.loc 0) .nil))
  (.cons (.asg 6 (.im "crowd" (.loc 0) (.cons (.loc 3) .nil)))
  (.cons (.iff (.cmp .isin (.loc 3) (.loc 2))
    (.cons (.ret (.and (.isn true (.loc 6)) (.call "_law_let" (.cons (.loc 0) (.cons (.loc 3) (.cons (.int 2) .nil))))))
    .nil)
    .nil)
  (.cons (.iff (.call "_law_let" (.cons (.loc 0) (.cons (.loc 3) (.cons (.int 1) .nil))))
    (.cons (.expr (.bm .append (.loc 2) (.cons (.loc 3) .nil)))
    (.cons (.ret (.and (.isn true (.loc 6)) (.cmp .eq (.sub (.call "seated" (.cons (.call "_law_pairs" (.cons (.loc 1) (.cons (.loc 2) .nil))) .nil)) (.int 0)) (.str [121, 101, 115]))))
    .nil))
    .nil)
  (.cons (.iff (.not (.call "_law_value_first" (.cons (.loc 0) (.cons (.loc 3) .nil))))
    (.cons (.ret (.bool false))
    .nil)
    .nil)
  (.cons (.iff (.or (.isn true (.loc 6)) (.or (.cmp .ne (.im "names" (.loc 0) .nil) (.loc 5)) (.not (.call "_law_crowd" (.cons (.loc 6) (.cons (.loc 1) (.cons (.loc 2) (.cons (.loc 3) .nil))))))))
    (.cons (.ret (.bool false))
    .nil)
    .nil)
  (.cons (.expr (.bm .append (.loc 4) (.cons (.tup (.cons (.loc 6) (.cons (.tup (.cons (.bi .list (.cons (.sub (.loc 6) (.int 0)) .nil)) (.cons (.bi .list (.cons (.sub (.loc 6) (.int 1)) .nil)) .nil))) .nil))) .nil)))
  (.cons (.ret (.call "_law_again" (.cons (.loc 0) (.cons (.loc 1) (.cons (.loc 2) (.cons (.loc 3) (.cons (.loc 6) .nil)))))))
  .nil))))))))⟩
structure HasO (p : Prog) : Prop extends HasA p where
  one : Prog.has p "_law_put_one" d__law_put_one
structure Kt where
  a : Nat
  b : Nat
  c : Nat
  d : Nat
noncomputable def ktAV (k : Kt) : AV := .tup [.tup [.loc k.a, .loc k.b], .tup [.loc k.c, .loc k.d]]
inductive KtOk (h : AHeap) (k : Kt) : Prop
  | mk (A : List Nm) (B : List Seat) (a : h[k.a]? = some (.list (A.map .str))) (b : h[k.b]? = some (.list (B.map sv))) (c : h[k.c]? = some (.list (A.map .str))) (d : h[k.d]? = some (.list (B.map sv))) (a' : 10 <= k.a) (b' : 10 <= k.b) (c' : 10 <= k.c) (d' : 10 <= k.d)
structure Kept (h : AHeap) (ks : List Kt) : Prop where
  at8 : h[8]? = some (.list (ks.map ktAV))
  all : ∀ k ∈ ks, KtOk h k
section
variable {p : Prog} {n : Nat} {h h' : AHeap} {T : Tb} {st st' : St'} {th th' : Th} {nm : Nm} {v : Int} {L ns : List Nm} {ks : List Kt} {i j : Nat}
theorem ten {x : Nat} (h : 10 <= x) : x ∉ [6, 7, 8, 9] := fun q => by
  simp only [List.mem_cons, List.not_mem_nil, or_false] at q
  lia
theorem KtOk.kp {k : Kt} (q : KtOk h k) (e : Kp [6, 7, 8, 9] h h') : KtOk h' k := by
  cases q with
  | mk A B a b c d a' b' c' d' => exact .mk A B (e.old _ _ (ten a') a) (e.old _ _ (ten b') b) (e.old _ _ (ten c') c) (e.old _ _ (ten d') d) a' b' c' d'
theorem w67 : ∀ x ∈ [6, 7], x ∈ [6, 7, 8, 9] := by decide
theorem w679 : ∀ x ∈ [6, 7, 9], x ∈ [6, 7, 8, 9] := by decide
theorem w0 {X : List Nat} : ∀ x ∈ ([] : List Nat), x ∈ X := fun _ e => nomatch e
theorem Kept.kp (q : Kept h ks) (e : Kp [6, 7, 9] h h') : Kept h' ks := ⟨e.old _ _ (by decide) q.at8, fun k hk => (q.all k hk).kp (e.wide w679)⟩
inductive One9 (h : AHeap) (T : Tb) (ns : List Nm) (m : Nat) : Res AV -> Prop
  | mk (h' : AHeap) (st : St') (th : Th) (L : List Nm) (ks : List Kt) (K : K9 h' T ns st th L) (Q : Kept h' ks) (hl : ks.length <= m + 1) (e : Kp [6, 7, 8, 9] h h') : One9 h T ns m (.ok (.bool true) h')
theorem One9.of {g : AHeap} {m : Nat} {r : Res AV} (q : Kp [] h g) (R : One9 g T ns m r) : One9 h T ns m r := by
  cases R with
  | mk h' st th L ks K Q hl e => exact .mk h' st th L ks K Q hl ((q.wide fun _ e => nomatch e).trans e)
theorem one_ret {m : Nat} {r : SR} (R : One9 h T ns m (retR r)) : ∃ v l g, r = .ok (.ret v) l g := by
  generalize hq : retR r = z at R
  cases R
  rcases r with ⟨f, l, g⟩ | _ | _
  . rcases f with _ | v | _
    . cases hq
    . exact ⟨v, l, g, rfl⟩
    . cases hq
  . cases hq
  . cases hq
theorem put_same (hn : (th.lookup nm).isSome = true) : (put th nm v).map (·.1) = th.map (·.1) := by rw [put_keys, if_pos (some_key.mpr hn)]
theorem put_more (hn : th.lookup nm = none) : (put th nm v).map (·.1) = th.map (·.1) ++ [nm] := by rw [put_keys, if_neg (lookup_none.mp hn)]
theorem vals_put (K : K9 h T ns st th L) (v1 : -1000000000 <= v) (v2 : v <= 1000000000) : ∀ m w, (put th nm v).lookup m = some w -> -1000000000 <= w /\ w <= 1000000000 := fun m w hm => by
  rw [put_lookup] at hm
  by_cases q : m = nm
  . rw [if_pos q] at hm; cases hm; exact ⟨v1, v2⟩
  . rw [if_neg q] at hm; exact K.vals m w hm
theorem seat_yes (K : K9 h T ns st th L) {t : Tk} {m : Nat} {C : List Seat} (O' : Std (hmP (L.map (pairT T))) t) (X : Shut (hmP (L.map (pairT T))) t m C) (hlt : ∀ s j, t.lookup s = some j -> j < m) (hm : m < (L.map (pairT T)).length) : False := by
  rw [List.length_map] at hm
  have cr : ∀ k ∈ m :: crowdOf t m C, k < L.length := fun k hk => by
    rcases List.mem_cons.mp hk with rfl | hk
    . exact hm
    . refine xEA (X.mem hk).1 fun s _ hs => ?_
      exact Nat.lt_trans (hlt s k hs) hm
  have at' : ∀ k (hk : k < L.length), L[k]? = some (L.getD k []) := fun k hk => by rw [List.getD_eq_getElem?_getD, List.getElem?_eq_getElem hk]; rfl
  refine X.no O' (fun s hs => Nat.lt_irrefl _ (hlt s m hs)) K.S.ord.std (fun k => L.getD k []) (fun k hk => ⟨(K.S.ord.there _).mpr (K.mem.mp (List.mem_of_getElem? (at' k (cr k hk)))), fun r hr => (hmP_at (at' k (cr k hk)) hr).symm⟩) fun x hx y hy e => ?_
  have e1 := at' x (cr x hx)
  rw [show L.getD x [] = L.getD y [] from e, <- at' y (cr y hy)] at e1
  exact (List.getElem?_inj (cr x hx) K.nd).mp e1
abbrev LO (nm : Nm) (x5 x6 : Option AV) : Locs := [some (.loc 5), some (.loc 3), some (.loc 9), some (.str nm), some (.loc 8), x5, x6]
theorem one_old (H : HasO p) (K : K9 h T ns st th L) (Q : Kept h ks) (hnm : nm ∈ ns) (hn : (th.lookup nm).isSome = true) {m : Nat} (hl : ks.length <= m) {F : Nat} {x5 : Option AV} :
    One9 h T ns m (retR (execSs (cF p (n + 9) F) (.cons (.ret (.and (.isn true (.loc 6)) (.call "_law_let" (.cons (.loc 0) (.cons (.loc 3) (.cons (.int 2) .nil)))))) .nil) (LO nm x5 (some .none)) h)) := by
  have hlen := K.len.2
  have R := run_let (n := n + 1) H.toHasL K.S (K.good nm hnm) (v := 2) (by decide) (by decide) (by lia)
  generalize hr : semF p (n + 9) false "_law_let" [.loc 5, .str nm, .int 2] h = r at R
  cases R with
  | no h1 hn1 hb1 k1 => rw [hn1] at hn; cases hn
  | yes h1 st1 hx S1 k1 =>
    rw [ss_last (st_ret (ev_and_t (ev_isn (v := .none) (b := true) rfl) (ev_call rfl hr))), retR_ret]
    exact .mk _ _ _ L ks (K.turn k1 S1 (by rw [put_same hn]; exact K.perm) (vals_put K (by decide) (by decide))) (Q.kp (k1.wide (by decide))) (by lia) (k1.wide w67)
theorem one_new (H : HasO p) (K : K9 h T ns st th L) (Q : Kept h ks) (hnm : nm ∈ ns) (hn : th.lookup nm = none) (K1 : Kp [6, 7] h h') (S1 : Sit h' 5 6 7 T st' (put th nm 1)) {m : Nat} (hl : ks.length <= m) {F : Nat} {x5 : Option AV} :
    One9 h T ns m (retR (execSs (cF p (n + 9) F) (.cons (.expr (.bm .append (.loc 2) (.cons (.loc 3) .nil)))
      (.cons (.ret (.and (.isn true (.loc 6)) (.cmp .eq (.sub (.call "seated" (.cons (.call "_law_pairs" (.cons (.loc 1) (.cons (.loc 2) .nil))) .nil)) (.int 0)) (.str [121, 101, 115])))) .nil)) (LO nm x5 (some .none)) h')) := by
  have ht1 := K1.old _ _ (by decide) K.there
  have hlen := K.len.1
  have hap : bmAV .append (.loc 9) [.str nm] h' = .ok .none (h'.set 9 (.list ((L ++ [nm]).map .str))) := by
    rw [show bmAV .append (.loc 9) [.str nm] h' = _ from append_ok ht1 (lim_lt (by rw [List.length_map]; lia)), List.map_append]; rfl
  have k9 : Kp [9] h' (h'.set 9 (.list ((L ++ [nm]).map .str))) := Kp.set List.mem_cons_self
  have S2 := S1.kp k9 (fun j hj => by rcases List.mem_singleton.mp hj with rfl; exact ⟨_, ht1, rfl⟩) (by decide) (by decide)
  have K2 : K9 (h'.set 9 (.list ((L ++ [nm]).map .str))) T ns st' (put th nm 1) (L ++ [nm]) := ⟨S2, K.good, (K.homes.kp K1 (by decide)).kp k9 (by decide), get_set ht1, by rw [put_more hn]; exact K.perm.append_right _, fun x hx => (List.mem_append.mp hx).elim (K.sub x) fun q => by rw [List.mem_singleton.mp q]; exact hnm, K.nl, vals_put K (by decide) (by decide)⟩
  have Q2 : Kept (h'.set 9 (.list ((L ++ [nm]).map .str))) ks := Q.kp ((K1.wide (by decide)).trans (k9.wide (by decide)))
  have k2 : Kp [6, 7, 8, 9] h (h'.set 9 (.list ((L ++ [nm]).map .str))) := (K1.wide w67).trans (k9.wide (by decide))
  generalize h'.set 9 (.list ((L ++ [nm]).map .str)) = h2 at hap K2 Q2 k2
  clear k9 S2
  have hlen2 := K2.len.1
  have pr := run_pairs (n := n + 8) H.toHasL K2.homes K2.sub K2.there (by lia)
  have se := run_seated (n := n + 6) H.seat (get_new (h := h2) (o := .list (((L ++ [nm]).map (pairT T)).map sv))) (by rw [List.length_map]; lia)
  generalize hs : semF p (n + 9) false "seated" [.loc h2.length] (h2 ++ [.list (((L ++ [nm]).map (pairT T)).map sv)]) = r at se
  cases se with
  | no t m' C v h3 O' X' hlt hm' q => exact (seat_yes K2 O' X' hlt hm').elim
  | yes t v h3 P q =>
    have q3 : Kp [] h2 h3 := Kp.app.trans q
    rw [ss_step (st_expr (ev_bm rfl (bmOk_append ht1) (ev_one rfl) hap)), ss_last (st_ret (ev_and_t (ev_isn (v := .none) (b := true) rfl) (ev_cmp (ev_sub (ev_call (ev_one (ev_call rfl pr)) hs) rfl sub_t0) rfl rfl))), retR_ret]
    exact .mk _ _ _ _ ks (K2.keep q3) (Q2.kp (q3.wide w0)) (by lia) (k2.trans (q3.wide w0))
theorem one_no (H : HasO p) (K : K9 h T ns st th L) (Q : Kept h ks) (hnm : nm ∈ ns) (hn : th.lookup nm = none) (X : Shut T.hm st nm (nestsOf T st nm)) (hi : h[i]? = some (.list ((crowdN T st nm).map .str))) (hj : h[j]? = some (.list ((sortK (nestsOf T st nm)).map sv))) (hi' : 10 <= i) (hj' : 10 <= j) {i0 : Nat} (h0 : h[i0]? = some (.list ((namesOf st).map .str))) {m : Nat} (hl : ks.length <= m) (hm : m <= 1000) {F : Nat} :
    One9 h T ns m (retR (execSs (cF p (n + 9) F) (.cons (.iff (.not (.call "_law_value_first" (.cons (.loc 0) (.cons (.loc 3) .nil))))
        (.cons (.ret (.bool false)) .nil) .nil)
      (.cons (.iff (.or (.isn true (.loc 6)) (.or (.cmp .ne (.im "names" (.loc 0) .nil) (.loc 5)) (.not (.call "_law_crowd" (.cons (.loc 6) (.cons (.loc 1) (.cons (.loc 2) (.cons (.loc 3) .nil))))))))
        (.cons (.ret (.bool false)) .nil) .nil)
      (.cons (.expr (.bm .append (.loc 4) (.cons (.tup (.cons (.loc 6) (.cons (.tup (.cons (.bi .list (.cons (.sub (.loc 6) (.int 0)) .nil)) (.cons (.bi .list (.cons (.sub (.loc 6) (.int 1)) .nil)) .nil))) .nil))) .nil)))
      (.cons (.ret (.call "_law_again" (.cons (.loc 0) (.cons (.loc 1) (.cons (.loc 2) (.cons (.loc 3) (.cons (.loc 6) .nil))))))) .nil)))) (LO nm (some (.loc i0)) (some (.tup [.loc i, .loc j]))) h)) := by
  have G := K.good nm hnm
  have hfew := K.few X
  have hNl := crowdN_len (T := T) (st := st) (nm := nm)
  have hsl : (sortK (nestsOf T st nm)).length = (nestsOf T st nm).length := sortK_perm.length_eq
  have vf := run_value_first (n := n + 1) H.toHasL K.S G
  have en := run_names (n := n + 8) H.toHasN K.S
  have g1 := get_new (h := h ++ [.list ((sortK (keysOf st)).map sv)]) (o := .list ((namesOf st).map .str))
  have hl1 : (h ++ [AObj.list ((sortK (keysOf st)).map sv)]).length = h.length + 1 := by rw [List.length_append]; rfl
  rw [hl1] at g1
  have q1 : Kp [] h (h ++ [.list ((sortK (keysOf st)).map sv)] ++ [.list ((namesOf st).map .str)]) := Kp.app.trans Kp.app
  generalize h ++ [.list ((sortK (keysOf st)).map sv)] ++ [.list ((namesOf st).map .str)] = h1 at en g1 q1
  have c1 : cmpAV h1 .ne (.loc (h.length + 1)) (.loc i0) = some false := (ne_of_eqv (eq_strs g1 (q1.old _ _ (nk0 _) h0))).trans (by rw [decide_eq_true rfl]; rfl)
  have K1 := K.keep q1
  refine xEA (run_lcrowd (n := n + 5) H.toHasC K1 hnm hn X (q1.old _ _ (nk0 _) hi) (q1.old _ _ (nk0 _) hj)) fun h2 ec q2 => ?_
  have q12 := q1.trans q2
  have K2 := K1.keep q2
  have Q2 := Q.kp (q12.wide w0)
  have hi2 := q12.old _ _ (nk0 _) hi
  have hj2 := q12.old _ _ (nk0 _) hj
  have t10 : 10 <= h2.length := get_lt K2.there
  have a1 := list_ok (walk_list hi2) (lim_le (by rw [List.length_map]; lia))
  have hj3 := get_old (g := [.list ((crowdN T st nm).map .str)]) hj2
  have a2 := list_ok (walk_list hj3) (lim_le (by rw [List.length_map]; lia))
  have hl3 : (h2 ++ [AObj.list ((crowdN T st nm).map .str)]).length = h2.length + 1 := by rw [List.length_append]; rfl
  rw [hl3] at a2
  have q3 : Kp [] h2 (h2 ++ [.list ((crowdN T st nm).map .str)] ++ [.list ((sortK (nestsOf T st nm)).map sv)]) := Kp.app.trans Kp.app
  have gc := get_old (g := [.list ((sortK (nestsOf T st nm)).map sv)]) (get_new (h := h2) (o := .list ((crowdN T st nm).map .str)))
  have gd := get_new (h := h2 ++ [.list ((crowdN T st nm).map .str)]) (o := .list ((sortK (nestsOf T st nm)).map sv))
  rw [hl3] at gd
  have K3 := K2.keep q3
  have Q3 := Q2.kp (q3.wide w0)
  have hi3 := q3.old _ _ (nk0 _) hi2
  have hj3' := q3.old _ _ (nk0 _) hj2
  generalize h2 ++ [.list ((crowdN T st nm).map .str)] ++ [.list ((sortK (nestsOf T st nm)).map sv)] = h3 at a2 gc gd K3 Q3 hi3 hj3' q3
  have hap : bmAV .append (.loc 8) [.tup [.tup [.loc i, .loc j], .tup [.loc h2.length, .loc (h2.length + 1)]]] h3 = .ok .none (h3.set 8 (.list ((ks ++ [Kt.mk i j h2.length (h2.length + 1)]).map ktAV))) := by
    rw [show bmAV .append (.loc 8) [.tup [.tup [.loc i, .loc j], .tup [.loc h2.length, .loc (h2.length + 1)]]] h3 = _ from append_ok Q3.at8 (lim_lt (by rw [List.length_map]; lia)), List.map_append]; rfl
  have k8 : Kp [8] h3 (h3.set 8 (.list ((ks ++ [Kt.mk i j h2.length (h2.length + 1)]).map ktAV))) := Kp.set List.mem_cons_self
  have S4 := K3.S.kp k8 (fun x hx => by rcases List.mem_singleton.mp hx with rfl; exact ⟨_, Q3.at8, rfl⟩) (by decide) (by decide)
  have K4 : K9 (h3.set 8 (.list ((ks ++ [Kt.mk i j h2.length (h2.length + 1)]).map ktAV))) T ns st th L := ⟨S4, K.good, K3.homes.kp k8 (by decide), k8.old _ _ (by decide) K3.there, K.perm, K.sub, K.nl, K.vals⟩
  have k8' : Kp [6, 7, 8, 9] h3 (h3.set 8 (.list ((ks ++ [Kt.mk i j h2.length (h2.length + 1)]).map ktAV))) := k8.wide (by decide)
  have Q4 : Kept (h3.set 8 (.list ((ks ++ [Kt.mk i j h2.length (h2.length + 1)]).map ktAV))) (ks ++ [Kt.mk i j h2.length (h2.length + 1)]) := ⟨get_set Q3.at8, fun k hk => by
    rcases List.mem_append.mp hk with q | q
    . exact (Q3.all k q).kp k8'
    . rw [List.mem_singleton.mp q]
      exact (KtOk.mk (h := h3) (k := ⟨i, j, h2.length, h2.length + 1⟩) _ _ hi3 hj3' gc gd hi' hj' t10 (Nat.le_succ_of_le t10)).kp k8'⟩
  have hi4 := k8.old i _ (fun q => by rw [List.mem_singleton.mp q] at hi'; exact absurd hi' (by decide)) hi3
  have hlk : (ks ++ [Kt.mk i j h2.length (h2.length + 1)]).length <= m + 1 := by rw [List.length_append, List.length_singleton]; lia
  have k04 : Kp [6, 7, 8, 9] h (h3.set 8 (.list ((ks ++ [Kt.mk i j h2.length (h2.length + 1)]).map ktAV))) := ((q12.wide w0).trans (q3.wide w0)).trans k8'
  generalize h3.set 8 (.list ((ks ++ [Kt.mk i j h2.length (h2.length + 1)]).map ktAV)) = h4 at hap K4 Q4 hi4 k04
  have A := run_again (n := n) (j := j) H.toHasA K4 hnm X hn hi4
  have le2 : ∀ x y : AV, [x, y].length <= 1000 := fun _ _ => Nat.le_of_ble_eq_true rfl
  generalize hr : semF p (n + 9) false "_law_again" [.loc 5, .loc 3, .loc 9, .str nm, .tup [.loc i, .loc j]] h4 = r at A
  cases A with
  | mk h5 st5 th5 K5 k5 =>
    rw [ss_step (st_f (ev_not (b := true) (ev_call rfl vf)) rfl), ss_step (st_f (ev_or_f (ev_isn (v := .tup [.loc i, .loc j]) (b := true) rfl) (ev_or_f (ev_cmp (ev_im rfl (K.S.tab.meth rfl) rfl en) rfl c1) (ev_not (b := true) (ev_call rfl ec)))) rfl),
      ss_step (st_expr (ev_bm rfl (bmOk_append Q2.at8) (ev_one (ev_tup (ev_cons rfl (ev_one (ev_tup (ev_cons (ev_bi rfl (ev_one (ev_sub rfl rfl sub_t0)) a1) (ev_one (ev_bi rfl (ev_one (ev_sub rfl rfl sub_t1)) a2))) (le2 _ _)))) (le2 _ _))) hap)), ss_last (st_ret (ev_call rfl hr)), retR_ret]
    exact .mk _ _ _ L _ K5 (Q4.kp (k5.wide (by decide))) hlk (k04.trans (k5.wide w67))
theorem run_one (H : HasO p) (K : K9 h T ns st th L) (Q : Kept h ks) (hnm : nm ∈ ns) {m : Nat} (hl : ks.length <= m) (hm : m <= 1000) : One9 h T ns m (semF p (n + 10) false "_law_put_one" [.loc 5, .loc 3, .loc 9, .str nm, .loc 8] h) := by
  refine xEA (run_in (n := n + 9) (h := h) H.one (as := [.loc 5, .loc 3, .loc 9, .str nm, .loc 8]) (LO nm none none) rfl rfl) fun F hF e1 => ?_
  have G := K.good nm hnm
  have hlen := K.len.2
  have t10 : 10 <= h.length := get_lt K.there
  have en := run_names (n := n + 8) H.toHasN K.S
  have g1 := get_new (h := h ++ [.list ((sortK (keysOf st)).map sv)]) (o := .list ((namesOf st).map .str))
  have hl1 : (h ++ [AObj.list ((sortK (keysOf st)).map sv)]).length = h.length + 1 := by rw [List.length_append]; rfl
  rw [hl1] at g1
  have q1 : Kp [] h (h ++ [.list ((sortK (keysOf st)).map sv)] ++ [.list ((namesOf st).map .str)]) := Kp.app.trans Kp.app
  have l1 := q1.len
  generalize h ++ [.list ((sortK (keysOf st)).map sv)] ++ [.list ((namesOf st).map .str)] = h1 at en g1 q1 l1
  have K1 := K.keep q1
  have C1 := run_crowd (n := n + 3) H.toHasN K1.S G (by lia)
  generalize hc1 : semF p (n + 9) false "crowd" [.loc 5, .str nm] h1 = r1 at C1
  have c0 : execS (cF p (n + 9) F) (.asg 5 (.im "names" (.loc 0) .nil)) (LO nm none none) h = .ok .next (LO nm (some (.loc (h.length + 1))) none) h1 := st_asg (ev_im rfl (K.S.tab.meth rfl) rfl en)
  have c1 : ∀ {x h2}, r1 = .ok x h2 -> execS (cF p (n + 9) F) (.asg 6 (.im "crowd" (.loc 0) (.cons (.loc 3) .nil))) (LO nm (some (.loc (h.length + 1))) none) h1 = .ok .next (LO nm (some (.loc (h.length + 1))) (some x)) h2 := fun q => st_asg (ev_im rfl (K1.S.tab.meth rfl) rfl (hc1.trans q))
  have c2 : ∀ {h2 : AHeap} {x : AV}, h2[9]? = some (.list (L.map .str)) -> evalX (cF p (n + 9) F) (.cmp .isin (.loc 3) (.loc 2)) (LO nm (some (.loc (h.length + 1))) (some x)) h2 = .ok (.bool (decide (nm ∈ L))) h2 := fun q => ev_cmp rfl rfl (in_strs q)
  rw [e1, d__law_put_one, ss_step c0]
  rcases hn : th.lookup nm with _ | w
  case some =>
    have hn' : (th.lookup nm).isSome = true := by rw [hn]; rfl
    cases C1 with
    | yes h2 i j hn2 _ _ _ _ _ _ _ => rw [hn2] at hn; cases hn
    | no h2 hx q2 =>
      have K2 := K1.keep q2
      have c2 := c2 (x := .none) K2.there
      rw [decide_eq_true (K.mem.mpr hn')] at c2
      have R := one_old (n := n) (F := F) (x5 := some (.loc (h.length + 1))) H K2 (Q.kp ((q1.trans q2).wide w0)) hnm hn' hl
      rw [ss_step (c1 rfl), ss_ret_of c2 (one_ret R)]
      exact R.of (q1.trans q2)
  case none =>
    have hnL : nm ∉ L := fun q => by have := K.mem.mp q; rw [hn] at this; cases this
    have lt : ∀ {h2 : AHeap} (K2 : K9 h2 T ns st th L), LetRes h2 5 6 7 T st th nm 1 (semF p (n + 9) false "_law_let" [.loc 5, .str nm, .int 1] h2) := fun K2 => run_let (n := n + 1) H.toHasL K2.S G (by decide) (by decide) (by lia)
    cases C1 with
    | no h2 hx q2 =>
      have K2 := K1.keep q2
      have c2 := c2 (x := .none) K2.there
      rw [decide_eq_false hnL] at c2
      have R := lt K2
      generalize hr : semF p (n + 9) false "_law_let" [.loc 5, .str nm, .int 1] h2 = r at R
      cases R with
      | no h3 hn3 hb3 k3 =>
        rcases hx with hx | hx
        . rw [hn] at hx; cases hx
        . exact absurd hb3 hx
      | yes h3 st3 hx3 S3 k3 =>
        have R := one_new (n := n) (F := F) (x5 := some (.loc (h.length + 1))) H K2 (Q.kp ((q1.trans q2).wide w0)) hnm hn k3 S3 hl
        have c3 : evalX (cF p (n + 9) F) (.call "_law_let" (.cons (.loc 0) (.cons (.loc 3) (.cons (.int 1) .nil)))) (LO nm (some (.loc (h.length + 1))) (some .none)) h2 = .ok (.bool true) h3 := ev_call rfl hr
        rw [ss_step (c1 rfl), ss_step (st_f c2 rfl), ss_ret_of c3 (one_ret R)]
        exact R.of (q1.trans q2)
    | yes h2 i j hn2 hb2 X hi hj hi' hj' q2 =>
      have K2 := K1.keep q2
      have c2 := c2 (x := .tup [.loc i, .loc j]) K2.there
      rw [decide_eq_false hnL] at c2
      have R := lt K2
      generalize hr : semF p (n + 9) false "_law_let" [.loc 5, .str nm, .int 1] h2 = r at R
      cases R with
      | yes h3 st3 hx3 S3 k3 =>
        rcases hx3 with hx | hx
        . rw [hn] at hx; cases hx
        . exact absurd hb2 hx
      | no h3 hn3 hb3 k3 =>
        have q3 : Kp [] h h3 := (q1.trans q2).trans k3
        have R := one_no (n := n) (F := F) H (K2.keep k3) (Q.kp (q3.wide w0)) hnm hn X (k3.old _ _ (nk0 _) hi) (k3.old _ _ (nk0 _) hj) (Nat.le_trans (Nat.le_trans t10 l1) hi') (Nat.le_trans (Nat.le_trans t10 l1) hj') ((q2.trans k3).old _ _ (nk0 _) g1) hl hm
        have c3 : evalX (cF p (n + 9) F) (.call "_law_let" (.cons (.loc 0) (.cons (.loc 3) (.cons (.int 1) .nil)))) (LO nm (some (.loc (h.length + 1))) (some (.tup [.loc i, .loc j]))) h2 = .ok (.bool false) h3 := ev_call rfl hr
        rw [ss_step (c1 rfl), ss_step (st_f c2 rfl), ss_step (st_f c3 rfl)]
        exact R.of q3
end
end
section
open PySem Cu
noncomputable def b_law_1 : Ss :=
  (.cons (.asg 8 (.call "_law_mixed" (.cons (.loc 7) (.cons (.bin .add (.bi .len (.cons (.loc 5) .nil)) (.bin .mul (.int 3) (.bi .len (.cons (.loc 6) .nil)))) .nil))))
  (.cons (.asg 9 (.sub (.loc 2) (.bin .mod (.loc 8) (.int 24))))
  (.cons (.iff (.and (.cmp .eq (.bin .mod (.bin .div (.loc 8) (.int 24)) (.int 6)) (.int 0)) (.cmp .isin (.loc 9) (.loc 6)))
    (.cons (.expr (.im "take_out" (.loc 4) (.cons (.loc 9) .nil)))
    (.cons (.expr (.bm .remove (.loc 6) (.cons (.loc 9) .nil)))
    .nil))
    (.cons (.iff (.not (.call "_law_put_one" (.cons (.loc 4) (.cons (.loc 3) (.cons (.loc 6) (.cons (.loc 9) (.cons (.loc 5) .nil)))))))
      (.cons (.ret (.bool false))
      .nil)
      .nil)
    .nil))
  .nil)))
noncomputable def b_law_2 : Ss :=
  (.cons (.iff (.cmp .ne (.loc 10) (.loc 11))
    (.cons (.ret (.bool false))
    .nil)
    .nil)
  .nil)
noncomputable def d_law : FDef := ⟨1, 12,
  (.cons (.asg 1 (.call "_law_table" (.cons (.loc 0) .nil)))
  (.cons (.asg 2 (.call "_law_names" (.cons (.call "_law_cell_at" (.cons (.loc 0) (.cons (.int 3) .nil))) (.cons (.int 24) .nil))))
  (.cons (.asg 3 (.call "_law_homes" (.cons (.loc 2) (.cons (.loc 1) .nil))))
  (.cons (.asg 4 (.new (.cons (.sub (.loc 1) (.int 0)) (.cons (.sub (.loc 1) (.int 1)) (.cons (.sub (.loc 1) (.int 2)) .nil)))))
  (.cons (.asg 5 (.list .nil))
  (.cons (.asg 6 (.list .nil))
  (.cons (.forr 7 (.slice (.loc 0) (.int 4) (.bin .add (.int 4) (.call "_law_room" (.cons (.loc 0) (.cons (.int 20) (.cons (.int 60) .nil)))))) b_law_1)
  (.cons (.fort [10, 11] (.loc 5) b_law_2)
  (.cons (.ret (.bool true))
  .nil)))))))))⟩
structure HasX (p : Prog) : Prop extends HasO p where
  mixed : Prog.has p "_law_mixed" d__law_mixed
  init : Prog.has p "__init__" d__init_
  home : Prog.has p "_law_home" d__law_home
  homes : Prog.has p "_law_homes" d__law_homes
  cell : Prog.has p "_law_cell_at" d__law_cell_at
  room : Prog.has p "_law_room" d__law_room
  lnames : Prog.has p "_law_names" d__law_names
  table : Prog.has p "_law_table" d__law_table
  law : Prog.has p "law" d_law
section
variable {p : Prog} {n : Nat} {h h' : AHeap} {T : Tb} {st st' : St'} {th th' : Th} {nm : Nm} {v : Int} {L ns : List Nm} {ks : List Kt} {xs : List Int} {F : Nat}
theorem nat_mod (x : Int) {k : Nat} (hk : 0 < k) : ∃ i : Nat, x.fmod (k : Int) = i /\ i < k := by
  refine xEA (pos_mod x (m := (k : Int)) (by lia)) fun i h1 h2 => ?_
  exact ⟨i, h1, by lia⟩
noncomputable abbrev LW (xs : List Int) (T : Tb) (v7 v8 v9 v10 v11 : Option AV) : Locs := [some (.scr xs), some (.tup [.int T.c, .int T.f, .int T.s]), some (.loc 2), some (.loc 3), some (.loc 5), some (.loc 8), some (.loc 9), v7, v8, v9, v10, v11]
inductive LawInv (xs : List Int) (T : Tb) (ns : List Nm) (cs : List Int) (k : Nat) : Locs -> AHeap -> Prop
  | mk (h : AHeap) (st : St') (th : Th) (L : List Nm) (ks : List Kt) (v7 v8 v9 : Option AV) (K : K9 h T ns st th L) (Q : Kept h ks) (hl : ks.length <= k) (h2 : h[2]? = some (.list (ns.map .str))) (hc : h[10]? = some (.list (cs.map .int))) : LawInv xs T ns cs k (LW xs T v7 v8 v9 none none) h
theorem rem_ok (ht : h[9]? = some (.list (L.map .str))) (hm : nm ∈ L) (hl : L.length <= 1000) : bmAV .remove (.loc 9) [.str nm] h = .ok .none (h.set 9 (.list ((L.erase nm).map .str))) := by
  show remO h 9 ((listAt h 9).bind fun xs => remL xs (.str nm)) = _
  rw [listAt_of ht, Option.bind_some, remL, all_strs, Option.bind_some]
  show remO h 9 (if nm ∈ L /\ L.length < sizeLim then some (L.erase nm) else none) = _
  rw [if_pos ⟨hm, lim_lt (by lia)⟩]; rfl
theorem bmOk_remove {i : Nat} {x : List AV} (hd : h[i]? = some (.list x)) : bmOk .remove (.loc i) h = true := by
  show (listAt h i).isSome = true
  rw [listAt_of hd]; rfl
theorem law_out (H : HasX p) (K : K9 h T ns st th L) (Q : Kept h ks) (hm : nm ∈ L) {c mx : Int} :
    ∃ h' st' th', execSs (cF p (n + 10) F) (.cons (.expr (.im "take_out" (.loc 4) (.cons (.loc 9) .nil))) (.cons (.expr (.bm .remove (.loc 6) (.cons (.loc 9) .nil))) .nil)) (LW xs T (some (.int c)) (some (.int mx)) (some (.str nm)) none none) h = .ok .next (LW xs T (some (.int c)) (some (.int mx)) (some (.str nm)) none none) h' /\ Kp [6, 7, 8, 9] h h' /\ K9 h' T ns st' th' (L.erase nm) /\ Kept h' ks := by
  have hlen := K.len.1
  refine xE (Option.isSome_iff_exists.mp (K.mem.mp hm)) fun v hv => ?_
  refine xEAA (run_take_out (n := n + 5) H.toHasP K.S (K.good nm (K.sub nm hm)) hv) fun h1 e1 k1 S1 => ?_
  have ht := k1.old _ _ (by decide) K.there
  have er := rem_ok ht hm (by lia)
  have k9 : Kp [9] h1 (h1.set 9 (.list ((L.erase nm).map .str))) := Kp.set List.mem_cons_self
  have S2 := S1.kp k9 (fun j hj => by rcases List.mem_singleton.mp hj with rfl; exact ⟨_, ht, rfl⟩) (by decide) (by decide)
  refine ⟨_, _, _, (ss_step (st_expr (ev_im rfl (K.S.tab.meth rfl) rfl e1))).trans (ss_last (st_expr (ev_bm rfl (bmOk_remove ht) (ev_one rfl) er))), (k1.wide w67).trans (k9.wide (by decide)),
    ⟨S2, K.good, (K.homes.kp k1 (by decide)).kp k9 (by decide), get_set ht, ?_, fun x hx => K.sub x (List.mem_of_mem_erase hx), K.nl, fun x w hx => ?_⟩, Q.kp ((k1.wide (by decide)).trans (k9.wide (by decide)))⟩
  . refine (List.perm_ext_iff_of_nodup (K.nd.erase nm) S2.ord.ndt).mpr fun x => ?_
    rw [K.nd.mem_erase_iff, some_key, drop_lookup, K.mem]
    by_cases q : x = nm
    . rw [if_pos q]; exact ⟨fun z => absurd q z.1, fun z => nomatch z⟩
    . rw [if_neg q]; exact ⟨fun z => z.2, fun z => ⟨q, z⟩⟩
  . rw [drop_lookup] at hx
    by_cases q : x = nm
    . rw [if_pos q] at hx; cases hx
    . rw [if_neg q] at hx; exact K.vals x w hx
theorem law_turn (H : HasX p) (K : K9 h T ns st th L) (Q : Kept h ks) (hnl : ns.length = 24) {k : Nat} (hl : ks.length <= k) (hk : k <= 1000) (h2 : h[2]? = some (.list (ns.map .str))) {cs : List Int} (hc : h[10]? = some (.list (cs.map .int))) {c : Int} {v8 v9 : Option AV} :
    ∃ l' h', execSs (cF p (n + 10) F) b_law_1 (LW xs T (some (.int c)) v8 v9 none none) h = .ok .next l' h' /\ LawInv xs T ns cs (k + 1) l' h' := by
  have el1 : biAV .len [.loc 8] h = .ok (.int ks.length) h := by rw [len_list Q.at8, List.length_map]
  have em := run_mixed (n := n + 9) (h := h) H.mixed c (ks.length + 3 * L.length)
  generalize mixed c (ks.length + 3 * L.length) = M at em
  have s1 : execS (cF p (n + 10) F) (.asg 8 (.call "_law_mixed" (.cons (.loc 7) (.cons (.bin .add (.bi .len (.cons (.loc 5) .nil)) (.bin .mul (.int 3) (.bi .len (.cons (.loc 6) .nil)))) .nil)))) (LW xs T (some (.int c)) v8 v9 none none) h = .ok .next (LW xs T (some (.int c)) (some (.int M)) v9 none none) h :=
    st_asg (ev_call (ev_cons rfl (ev_one (ev_bin (ev_bi rfl (ev_one rfl) el1) (ev_bin rfl (ev_bi rfl (ev_one rfl) (len_strs K.there)) (b_mulL (by decide))) b_add))) em)
  refine xEA (nat_mod M (k := 24) (by decide)) fun i hi hi24 => ?_
  have hi24 : i < ns.length := by lia
  have hnm := List.getElem?_eq_getElem hi24
  generalize ns[i] = nm at hnm
  have hmem := List.mem_of_getElem? hnm
  have e2 : evalX (cF p (n + 10) F) (.bin .mod (.loc 8) (.int 24)) (LW xs T (some (.int c)) (some (.int M)) v9 none none) h = .ok (.int i) h := (ev_bin rfl rfl (b_mod (by decide))).trans (congrArg (fun z => Res.ok (AV.int z) h) hi)
  have s2 : execS (cF p (n + 10) F) (.asg 9 (.sub (.loc 2) (.bin .mod (.loc 8) (.int 24)))) (LW xs T (some (.int c)) (some (.int M)) v9 none none) h = .ok .next (LW xs T (some (.int c)) (some (.int M)) (some (.str nm)) none none) h := st_asg (ev_sub rfl e2 (str_sub h2 (by lia) hnm))
  have c3 : ∃ b, evalX (cF p (n + 10) F) (.and (.cmp .eq (.bin .mod (.bin .div (.loc 8) (.int 24)) (.int 6)) (.int 0)) (.cmp .isin (.loc 9) (.loc 6))) (LW xs T (some (.int c)) (some (.int M)) (some (.str nm)) none none) h = .ok (.bool b) h /\ (b = true -> nm ∈ L) := by
    have q : evalX (cF p (n + 10) F) (.cmp .eq (.bin .mod (.bin .div (.loc 8) (.int 24)) (.int 6)) (.int 0)) (LW xs T (some (.int c)) (some (.int M)) (some (.str nm)) none none) h = .ok (.bool (decide ((M.fdiv 24).fmod 6 = 0))) h := ev_cmp (ev_bin (ev_bin rfl rfl (b_div (by decide))) rfl (b_mod (by decide))) rfl c_eqi
    rcases hb : decide ((M.fdiv 24).fmod 6 = 0) with _ | _ <;> rw [hb] at q
    . exact ⟨false, ev_and_f q, fun e => nomatch e⟩
    . exact ⟨_, ev_and_t q (ev_cmp rfl rfl (in_strs K.there)), fun e => of_decide_eq_true e⟩
  refine xEA c3 fun b q hb => ?_
  rw [b_law_1, ss_step s1, ss_step s2]
  rcases b with _ | _
  . have R := run_one (n := n) H.toHasO K Q hmem hl hk
    generalize hr : semF p (n + 10) false "_law_put_one" [.loc 5, .loc 3, .loc 9, .str nm, .loc 8] h = r at R
    cases R with
    | mk h1 st1 th1 L1 ks1 K1 Q1 hl1 e1 =>
      exact ⟨_, _, ss_last (st_f q (ss_last (st_f (ev_not (b := true) (ev_call rfl hr)) rfl))), .mk h1 st1 th1 L1 ks1 _ _ _ K1 Q1 hl1 (e1.old _ _ (by decide) h2) (e1.old _ _ (by decide) hc)⟩
  . refine xEEEAAA (law_out (n := n) (F := F) (xs := xs) (c := c) (mx := M) H K Q (hb rfl)) fun h1 st1 th1 s3 e1 K1 Q1 => ?_
    exact ⟨_, _, ss_last (st_t q s3), .mk h1 st1 th1 _ ks _ _ _ K1 Q1 (Nat.le_succ_of_le hl) (e1.old _ _ (by decide) h2) (e1.old _ _ (by decide) hc)⟩
theorem kt_same {k : Kt} (q : KtOk h k) : cmpAV h .ne (.tup [.loc k.a, .loc k.b]) (.tup [.loc k.c, .loc k.d]) = some false := by
  cases q with
  | mk A B a b c d _ _ _ _ =>
    have e1 : eqv h 5 (.loc k.a) (.loc k.c) = some true := (eq_lists (f := 4) a c fun _ _ => rfl).trans (by rw [decide_eq_true rfl])
    have e2 : eqv h 5 (.loc k.b) (.loc k.d) = some true := (eq_lists (f := 4) b d fun _ _ => eqv_pair' (n := 2) _ _).trans (by rw [decide_eq_true rfl])
    refine ne_of_eqv (r := true) ?_
    show and2 (eqv h 5 (.loc k.a) (.loc k.c)) (and2 (eqv h 5 (.loc k.b) (.loc k.d)) (some true)) = _
    rw [e1, e2]; rfl
theorem kept_loop (Q : Kept h ks) (hl : ks.length <= 1000) (hF : 50000 <= F) {v7 v8 v9 : Option AV} : ∃ l', forLoop (puts [10, 11]) (fun l h => execSs (cF p n F) b_law_2 l h) (.loc 8) F 0 (LW xs T v7 v8 v9 none none) h = .ok .next l' h := by
  obtain ⟨l', h', e, eh, _⟩ := forLoop_put (put := puts [10, 11]) (src := .loc 8) (items := ks.map ktAV) (body := fun l h => execSs (cF p n F) b_law_2 l h) (fun k l h' => h' = h /\ ∃ x y, l = LW xs T v7 v8 v9 x y) (fun k l h' q => by rw [q.1]; exact next_list Q.at8) (fun k v l h' hv hI => by
    obtain ⟨eh, x, y, el⟩ := hI
    subst el
    rw [eh]
    rw [List.getElem?_map] at hv
    refine xEA (Option.map_eq_some_iff.mp hv) fun z hz e => ?_
    subst e
    exact ⟨_, rfl, _, _, ss_last (st_f (ev_cmp rfl rfl (kt_same (Q.all z (List.mem_of_getElem? hz)))) rfl), rfl, _, _, rfl⟩) (f := F) (l := LW xs T v7 v8 v9 none none) (h := h) (by rw [List.length_map]; lia) ⟨rfl, none, none, rfl⟩
  exact ⟨l', by rw [e, eh]⟩
theorem ev_slice {c : Ctx} {l : Locs} {h1 h2 h3 : AHeap} {v u w : AV} {x y z : X} {r : Res AV} (e1 : evalX c x l h = .ok v h1) (e2 : evalX c y l h1 = .ok u h2) (e3 : evalX c z l h2 = .ok w h3) (ef : sliceAV v u w h3 = r) : evalX c (.slice x y z) l h = r := by
  rw [x_slice, e1, bok, e2, bok, e3]; exact ef
theorem cut_scr (hl : xs.length <= 63) : ∃ cells : List Int, cells.length <= 63 /\ ∀ h, sliceAV (.scr xs) (.int 4) (.int 24) h = .ok (.loc h.length) (h ++ [.list (cells.map .int)]) := by
  have hlen : (cutList xs 4 24).length <= xs.length := by
    unfold cutList
    rw [List.length_drop, List.length_take]
    exact Nat.le_trans (Nat.sub_le ..) (Nat.min_le_right ..)
  have hc : cutO xs (.int 4) (.int 24) = some (cutList xs 4 24) := if_pos (show xs.length <= sizeLim from lim_le (Nat.le_trans hl (by decide)))
  exact ⟨cutList xs 4 24, Nat.le_trans hlen hl, fun h => newListO_ok (o := (cutO xs (.int 4) (.int 24)).map fun ys => List.map AV.int ys) (by rw [hc]; rfl) (by rw [List.length_map]; exact lim_le (Nat.le_trans hlen (Nat.le_trans hl (by decide))))⟩
theorem nil_list {c : Ctx} {l : Locs} : evalX c (.list .nil) l h = .ok (.loc h.length) (h ++ [.list []]) := ev_list (vs := []) rfl (Nat.zero_le _)
theorem new_table (H : HasX p) (ok : T.Ok) {c : Ctx} (hc : c.F = semF p (n + 2) false) {as : Xs} {l : Locs} (ea : evalXs c as l h = .ok [.int T.c, .int T.f, .int T.s] h) :
    evalX c (.new as) l h = .ok (.loc (h.length + 1)) (h ++ [.ns (nsOf T (h.length + 2) (h.length + 3)), .inst h.length, .dict [] 0, .dict [] 0]) := by
  rw [x_new, ea, bok, hc, run_init (n := n) H.c H.init ok]; rfl
theorem run_law (H : HasX p) (hl : xs.length <= 63) : ∃ h', semF p (n + 11) false "law" [.scr xs] [] = .ok (.bool true) h' := by
  refine xEA (run_in (n := n + 10) (h := []) H.law (as := [.scr xs]) [some (.scr xs), none, none, none, none, none, none, none, none, none, none, none] rfl rfl) fun F hF e => ?_
  refine xEAEE (run_law_table (n := n + 8) (h := []) H.cell H.mixed H.table hl) fun T ok a b e1 => ?_
  have s1 : execS (cF p (n + 10) F) (.asg 1 (.call "_law_table" (.cons (.loc 0) .nil))) [some (.scr xs), none, none, none, none, none, none, none, none, none, none, none] [] = .ok .next [some (.scr xs), some (.tup [.int T.c, .int T.f, .int T.s]), none, none, none, none, none, none, none, none, none, none] [a, b] := st_asg (ev_call rfl e1)
  refine xEAA (run_law_names (n := n + 8) (h := [a, b]) H.mixed H.lnames (cellAt xs 3) (many := 24) (by decide)) fun ns hnl hng e3 => ?_
  have s2 : execS (cF p (n + 10) F) (.asg 2 (.call "_law_names" (.cons (.call "_law_cell_at" (.cons (.loc 0) (.cons (.int 3) .nil))) (.cons (.int 24) .nil)))) [some (.scr xs), some (.tup [.int T.c, .int T.f, .int T.s]), none, none, none, none, none, none, none, none, none, none] [a, b] = .ok .next [some (.scr xs), some (.tup [.int T.c, .int T.f, .int T.s]), some (.loc 2), none, none, none, none, none, none, none, none, none] [a, b, .list (ns.map .str)] := st_asg (ev_call (ev_cons (ev_call rfl (run_cell_at (n := n + 9) H.cell hl 3)) rfl) e3)
  refine xEEAA (run_law_homes (n := n + 8) (h := [a, b, .list (ns.map .str)]) (T := T) H.home H.homes ok (a := 2) hng (by lia) rfl) fun kvs ep e4 hk1 hk2 => ?_
  have s3 : execS (cF p (n + 10) F) (.asg 3 (.call "_law_homes" (.cons (.loc 2) (.cons (.loc 1) .nil)))) [some (.scr xs), some (.tup [.int T.c, .int T.f, .int T.s]), some (.loc 2), none, none, none, none, none, none, none, none, none] [a, b, .list (ns.map .str)] = .ok .next [some (.scr xs), some (.tup [.int T.c, .int T.f, .int T.s]), some (.loc 2), some (.loc 3), none, none, none, none, none, none, none, none] [a, b, .list (ns.map .str), .dict kvs ep] := st_asg (ev_call rfl e4)
  have s4 : execS (cF p (n + 10) F) (.asg 4 (.new (.cons (.sub (.loc 1) (.int 0)) (.cons (.sub (.loc 1) (.int 1)) (.cons (.sub (.loc 1) (.int 2)) .nil))))) [some (.scr xs), some (.tup [.int T.c, .int T.f, .int T.s]), some (.loc 2), some (.loc 3), none, none, none, none, none, none, none, none] [a, b, .list (ns.map .str), .dict kvs ep] = .ok .next [some (.scr xs), some (.tup [.int T.c, .int T.f, .int T.s]), some (.loc 2), some (.loc 3), some (.loc 5), none, none, none, none, none, none, none] [a, b, .list (ns.map .str), .dict kvs ep, .ns (nsOf T 6 7), .inst 4, .dict [] 0, .dict [] 0] := st_asg (new_table (n := n + 8) H ok rfl rfl)
  have s5 : execS (cF p (n + 10) F) (.asg 5 (.list .nil)) [some (.scr xs), some (.tup [.int T.c, .int T.f, .int T.s]), some (.loc 2), some (.loc 3), some (.loc 5), none, none, none, none, none, none, none] [a, b, .list (ns.map .str), .dict kvs ep, .ns (nsOf T 6 7), .inst 4, .dict [] 0, .dict [] 0] = .ok .next [some (.scr xs), some (.tup [.int T.c, .int T.f, .int T.s]), some (.loc 2), some (.loc 3), some (.loc 5), some (.loc 8), none, none, none, none, none, none] [a, b, .list (ns.map .str), .dict kvs ep, .ns (nsOf T 6 7), .inst 4, .dict [] 0, .dict [] 0, .list []] := st_asg nil_list
  have s6 : execS (cF p (n + 10) F) (.asg 6 (.list .nil)) [some (.scr xs), some (.tup [.int T.c, .int T.f, .int T.s]), some (.loc 2), some (.loc 3), some (.loc 5), some (.loc 8), none, none, none, none, none, none] [a, b, .list (ns.map .str), .dict kvs ep, .ns (nsOf T 6 7), .inst 4, .dict [] 0, .dict [] 0, .list []] = .ok .next (LW xs T none none none none none) [a, b, .list (ns.map .str), .dict kvs ep, .ns (nsOf T 6 7), .inst 4, .dict [] 0, .dict [] 0, .list [], .list []] := st_asg nil_list
  refine xEA (cut_scr hl) fun cs hcs ec => ?_
  have K0 : K9 [a, b, .list (ns.map .str), .dict kvs ep, .ns (nsOf T 6 7), .inst 4, .dict [] 0, .dict [] 0, .list [], .list [], .list (cs.map .int)] T ns [] [] [] :=
    ⟨⟨ok, ⟨4, rfl, rfl⟩, ⟨0, rfl⟩, ⟨0, rfl⟩, by decide, Ord.nil, by decide⟩, hng, ⟨kvs, ep, rfl, hk1, hk2⟩, rfl, .refl _, (fun m q => nomatch q), Nat.le_of_eq hnl, (fun m w q => nomatch q)⟩
  have Q0 : Kept [a, b, .list (ns.map .str), .dict kvs ep, .ns (nsOf T 6 7), .inst 4, .dict [] 0, .dict [] 0, .list [], .list [], .list (cs.map .int)] [] := ⟨rfl, fun k q => nomatch q⟩
  have I0 : LawInv xs T ns cs 0 (LW xs T none none none none none) [a, b, .list (ns.map .str), .dict kvs ep, .ns (nsOf T 6 7), .inst 4, .dict [] 0, .dict [] 0, .list [], .list [], .list (cs.map .int)] := .mk _ _ _ _ _ _ _ _ K0 Q0 (Nat.le_refl _) rfl rfl
  have sl : evalX (cF p (n + 10) F) (.slice (.loc 0) (.int 4) (.bin .add (.int 4) (.call "_law_room" (.cons (.loc 0) (.cons (.int 20) (.cons (.int 60) .nil)))))) (LW xs T none none none none none) [a, b, .list (ns.map .str), .dict kvs ep, .ns (nsOf T 6 7), .inst 4, .dict [] 0, .dict [] 0, .list [], .list []] = .ok (.loc 10) [a, b, .list (ns.map .str), .dict kvs ep, .ns (nsOf T 6 7), .inst 4, .dict [] 0, .dict [] 0, .list [], .list [], .list (cs.map .int)] :=
    ev_slice rfl rfl (ev_bin rfl (ev_call rfl (run_room (n := n + 9) H.room hl)) (r := .ok (.int 24) _) rfl) (ec _)
  generalize [a, b, AObj.list (ns.map .str), .dict kvs ep, .ns (nsOf T 6 7), .inst 4, .dict [] 0, .dict [] 0, .list [], .list [], .list (cs.map .int)] = h7 at I0 sl
  obtain ⟨l8, h8, e8, I8⟩ := forLoop_all (i := 7) (src := .loc 10) (items := cs.map AV.int) (body := fun l h => execSs (cF p (n + 10) F) b_law_1 l h) (LawInv xs T ns cs) (fun k l h' hI => by
      cases hI with
      | mk _ st th L ks v7 v8 v9 K Q hl h2 hc => exact next_list hc) (fun k v l h' hv hI => by
    cases hI with
    | mk _ st th L ks v7 v8 v9 K Q hl h2 hc =>
      rw [List.getElem?_map] at hv
      refine xEA (Option.map_eq_some_iff.mp hv) fun c hck e => ?_
      subst e
      have hk := (List.getElem?_eq_some_iff.mp hck).1
      exact law_turn (n := n) (F := F) H K Q hnl hl (by lia) h2 hc) (f := F) (by rw [List.length_map]; lia) I0
  rw [List.length_map] at I8
  cases I8 with
  | mk _ st th L ks v7 v8 v9 K Q hlk h2 hc =>
  refine xE (kept_loop (p := p) (n := n + 10) (xs := xs) (T := T) (v7 := v7) (v8 := v8) (v9 := v9) Q (by lia) hF) fun l9 e9 => ?_
  rw [e, d_law]
  exact ⟨h8, fin_ret ((ss_step s1).trans ((ss_step s2).trans ((ss_step s3).trans ((ss_step s4).trans ((ss_step s5).trans ((ss_step s6).trans ((ss_step (st_for rfl sl e8)).trans ((ss_step (st_fort rfl rfl e9)).trans (ss_last (st_ret rfl))))))))))⟩
end
noncomputable def prog09 : Prog := [(("is_name" : Str), d_is_name), (("home" : Str), d_home), (("is_whole" : Str), d_is_whole), (("need_name" : Str), d_need_name), (("need_value" : Str), d_need_value), (("seat_of" : Str), d_seat_of), (("way_from" : Str), d_way_from), (("put_along" : Str), d_put_along), (("crowded" : Str), d_crowded), (("seated" : Str), d_seated), (("_law_cell_at" : Str), d__law_cell_at), (("_law_mixed" : Str), d__law_mixed), (("_law_room" : Str), d__law_room), (("_law_names" : Str), d__law_names), (("_law_home" : Str), d__law_home), (("_law_table" : Str), d__law_table), (("_law_homes" : Str), d__law_homes), (("_law_let" : Str), d__law_let), (("_law_value_first" : Str), d__law_value_first), (("_law_pairs" : Str), d__law_pairs), (("_law_rising" : Str), d__law_rising), (("_law_crowd" : Str), d__law_crowd), (("_law_again" : Str), d__law_again), (("_law_put_one" : Str), d__law_put_one), (("law" : Str), d_law), (("__init__" : Str), d__init_), (("homes" : Str), d_homes), (("need_nest" : Str), d_need_nest), (("way" : Str), d_way), (("best_way" : Str), d_best_way), (("moves" : Str), d_moves), (("put" : Str), d_put), (("crowd" : Str), d_crowd), (("need_there" : Str), d_need_there), (("take_out" : Str), d_take_out), (("value" : Str), d_value), (("where" : Str), d_where), (("names" : Str), d_names)]
theorem hasX : HasX prog09 where
  a := rfl
  b := rfl
  c := rfl
  d := rfl
  f := rfl
  g := rfl
  i := rfl
  way := rfl
  best := rfl
  moves := rfl
  put := rfl
  need := rfl
  take := rfl
  wher := rfl
  crowd := rfl
  value := rfl
  names := rfl
  seat := ⟨rfl, rfl, rfl, rfl, rfl⟩
  llet := rfl
  lvf := rfl
  lpairs := rfl
  lrise := rfl
  lcrowd := rfl
  again := rfl
  one := rfl
  mixed := rfl
  init := rfl
  home := rfl
  homes := rfl
  cell := rfl
  room := rfl
  lnames := rfl
  table := rfl
  law := rfl
theorem law09 {xs : List Int} (hl : xs.length <= 63) : ∃ h', semF prog09 16 false "law" [.scr xs] [] = .ok (.bool true) h' := run_law (n := 5) hasX hl
end
end Mine.Internal
open PySem PySem.W PyProof.Rows Mine.Internal
namespace Mine.Internal
section
noncomputable def ms09 : List Str := ["__init__", "homes", "need_nest", "way", "best_way", "moves", "put", "crowd", "need_there", "take_out", "value", "where", "names"]
noncomputable def as09 : List Str := ["count", "first", "second", "standing", "things"]
noncomputable def cs09 : List (Str × Const) := [("SIGNS", .str "abcdefghijklmnopqrstuvwxyz0123456789"), ("MOST_SIGNS", .int 12), ("MOST_COUNT", .int 1000), ("MOST_TIMES", .int 1000000), ("MOST_VALUE", .int 1000000000)]
noncomputable def fs09 : List Str := ["is_name", "home", "is_whole", "need_name", "need_value", "seat_of", "way_from", "put_along", "crowded", "seated", "_law_cell_at", "_law_mixed", "_law_room", "_law_names", "_law_home", "_law_table", "_law_homes", "_law_let", "_law_value_first", "_law_pairs", "_law_rising", "_law_crowd", "_law_again", "_law_put_one", "law"]
noncomputable def sh09 : Sh := ⟨fs09 ++ ms09, ms09, as09, "Nests", cs09, ex09, ["nests", "taken"]⟩
theorem attrs09 : ∀ a ∈ sh09.attrs, typeLookup (.type "object") a = pure none := by
  intro a h
  simp only [sh09, as09, List.mem_cons, List.not_mem_nil, or_false] at h
  rcases h with rfl | rfl | rfl | rfl | rfl <;> kernel_rfl
theorem meths09 : ∀ m ∈ sh09.meths, ∃ y, typeLookup (.type "object") m = pure y := by
  intro a h
  simp only [sh09, ms09, List.mem_cons, List.not_mem_nil, or_false] at h
  rcases h with rfl | rfl | rfl | rfl | rfl | rfl | rfl | rfl | rfl | rfl | rfl | rfl | rfl
  . exact ⟨some (.builtin "object.__init__"), by kernel_rfl⟩
  all_goals exact ⟨none, by kernel_rfl⟩
theorem consts09 : constsOk q09 sh09 := by
  intro x k h
  simp only [sh09, cs09, List.mem_cons, Prod.mk.injEq, List.not_mem_nil, or_false] at h
  rcases h with ⟨rfl, rfl⟩ | ⟨rfl, rfl⟩ | ⟨rfl, rfl⟩ | ⟨rfl, rfl⟩ | ⟨rfl, rfl⟩ <;> exact ⟨_, rfl, by kernel_rfl⟩
noncomputable def c09 : ClsRec := (theCls q09 sh09).getD ⟨"", none, [], [], 0, []⟩
noncomputable def XP09 (mg : Str -> Option Value) (h : Heap) : Prop := XL q09 [] mg h /\ ExcSaid ex09 al09 mg h
end
end Mine.Internal
set_option maxRecDepth 100000 in
set_option maxHeartbeats 8000000 in
theorem PySem.Challenge.cw_uf040007_09_holds : PySem.Challenge.rw_uf040007_09.Holds := by
  w_on
  refine PySem.W.holds_law (by decide +kernel) fun said => ?_
  refine holds_open (q := Mine.Internal.q09) (loose := []) (Xt := Mine.Internal.xt09) (XP := Mine.Internal.XP09) (Yf := Hook.obs Hook.none) (Ya := Hook.val Hook.none) (YP := Hook.says Hook.none) (N := 6306) Mine.Internal.left09 (Hook.of Hook.none) (Hook.keeps Hook.none) (fun s e => ⟨xl_of s (Bool.and_eq_true_iff.mp (Bool.and_eq_true_iff.mp e).1).1, Mine.Internal.excSaid_of (Bool.and_eq_true_iff.mp e).2⟩) (fun mg h h' x k => ⟨XL.keeps mg h h' x.1 k, Mine.Internal.ExcSaid.keeps mg h h' x.2 k⟩) (by rfl) (by rfl) (by rfl) (fun s e => recFacts_of (Bool.and_eq_true_iff.mp (Bool.and_eq_true_iff.mp e).1).2) (by rfl) (by first | assumption | decide +kernel) (by decide +kernel) ⟨rfl, rfl, rfl, rfl, rfl, by decide +kernel⟩ ?hw ?hc
  case hw => w_witness2
  intro w s₀ s₁ mg mb G Y fa o pm cd doc dV kV ho hd hcd hD hmg hg args vals as hpre hlay hrd hwl hlo
  have X := G.X
  refine Ground.open G ?_
  intro T B D TE TW
  clear hd hD hcd G Y
  wrow_args hpre hlay hrd hwl hlo
  rename_i xs _ _ _ _ _ _ _ a vs _ hL _ _ _ hI _ hlen _
  obtain ⟨hp, hrun⟩ := Mine.Internal.law09 (xs := xs) (by omega)
  refine Mine.Internal.law_call (sh := Mine.Internal.sh09) (c := Mine.Internal.c09) T TE rfl (by decide +kernel) rfl (by decide +kernel) (by kernel_rfl) (by decide +kernel) Mine.Internal.attrs09 Mine.Internal.meths09 Mine.Internal.consts09 (all := Mine.Internal.al09) (by decide +kernel) X.2 (pr := Mine.Internal.prog09) (by kernel_rfl) (by decide +kernel) (by decide +kernel) hmg hL hI hrun ?_
  intro s' hk ho hgen
  exact GoodW.toG ⟨.inl ⟨_, .bool true, [], rfl, raisesW_false (by wrow_none_raised), .bool true, by wrow_post, by simp⟩, hk, ho, hgen.trans hg⟩
