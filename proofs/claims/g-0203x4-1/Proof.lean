import JvmDerived
import JvmDerived.Pilot.@@N@@Statement
import JvmDerived.Pilot.@@N@@Code
set_option linter.unusedVariables false
set_option linter.unusedSimpArgs false
namespace Jvm.JX
open Sem ClassFile Op Lib
abbrev Cel : Type := FieldType × Nat × Bool × (Nat → Value)
abbrev AH : Type := Nat × (Nat → Cel)
abbrev MInfo : Type := Nat × Nat × Nat × Option FieldType × Jvm.Room
abbrev Prog : Type := (Nat → Nat → Option (Instr × Nat × Int)) × (Nat → MInfo) × (Nat → FieldType) × Nat
abbrev Fm : Type := Nat × List Slot × List Value × Nat × Nat × AH
def na (P : Prog) (m : Nat) : Nat := (P.2.1 m).1
def ml (P : Prog) (m : Nat) : Nat := (P.2.1 m).2.1
def kd (P : Prog) (m : Nat) : Nat := (P.2.1 m).2.2.1
def rt (P : Prog) (m : Nat) : Option FieldType := (P.2.1 m).2.2.2.1
def rm (P : Prog) (m : Nat) : Jvm.Room := (P.2.1 m).2.2.2.2
def isO (H : AH) (a : Nat) : Bool := match (H.2 a).1 with | .object _ => true | _ => false
def isOw (H : AH) (a : Nat) : Bool := isO H a && (H.2 a).2.2.1
def inA (H : AH) (a : Nat) (t : FieldType) (i : Int32) : Bool := decide ((H.2 a).1 = .array t) && !decide (i < 0) && decide (i.toNatClampNeg < (H.2 a).2.1)
def inAw (H : AH) (a : Nat) (t : FieldType) (i : Int32) : Bool := inA H a t i && (H.2 a).2.2.1
def isA (H : AH) (a : Nat) : Bool := match (H.2 a).1 with | .array _ => true | _ => false
def elt (H : AH) (a : Nat) (i : Int32) : Value := (H.2 a).2.2.2 i.toNatClampNeg
def fld (H : AH) (a k : Nat) : Value := (H.2 a).2.2.2 k
def alen (H : AH) (a : Nat) : Nat := (H.2 a).2.1
def wr (H : AH) (a j : Nat) (v : Value) : AH := (H.1, fun b => if b = a then ((H.2 a).1, (H.2 a).2.1, (H.2 a).2.2.1, fun i => if i = j then v else (H.2 a).2.2.2 i) else H.2 b)
def okv : FieldType → Value → Bool
  | .int, .int _ => true
  | .boolean, .int z => z == 0 || z == 1
  | .byte, .int z => z.toInt8.toInt32 == z
  | .long, .long _ => true
  | .array _, .ref _ => true
  | _, _ => false
def mkO (P : Prog) (H : AH) : AH := (H.1 + 1, fun b => if b = H.1 then (.object "", P.2.2.2, true, fun k => defaultValue (P.2.2.1 k)) else H.2 b)
def mkA (t : FieldType) (n : Nat) (H : AH) : AH := (H.1 + 1, fun b => if b = H.1 then (.array t, n, true, fun _ => defaultValue t) else H.2 b)
def cat1 : Slot → Bool | .unset => true | .val v => v.category == 1 | .second => false
def cs (S : List Value) : Nat := (S.map fun v => v.category).sum
def stl (L : List Slot) (i : Nat) (v : Value) : Option (List Slot) :=
  match L[i]? with
  | some .unset => some (L.set i (.val v))
  | some (.val w) => if w.category = 1 then some (L.set i (.val v)) else if i + 1 < L.length then some ((L.set (i + 1) .unset).set i (.val v)) else none
  | some .second => if 1 ≤ i then some ((L.set (i - 1) .unset).set i (.val v)) else none
  | none => none
def stL (L : List Slot) (i : Nat) (v : Value) : Option (List Slot) :=
  match L[i]?, L[i + 1]? with
  | some (.val w), some o2 => if w.category = 2 then some ((L.set i (.val v)).set (i + 1) .second) else if cat1 o2 = true then some ((L.set i (.val v)).set (i + 1) .second) else none
  | some .unset, some o2 => if cat1 o2 = true then some ((L.set i (.val v)).set (i + 1) .second) else none
  | _, _ => none
def ent (P : Prog) (m : Nat) (a : List Value) : List Slot := Sym.laidSlots a ++ List.replicate (ml P m - (Sym.laidSlots a).length) .unset
def ilen : Instr → Nat
  | .bipush _ | .iload _ | .istore _ | .aload _ | .astore _ | .lload _ | .lstore _ | .newarray _ | .ldc _ => 2
  | .sipush _ | .getfield _ | .putfield _ | .new _ | .invokevirtual _ | .invokestatic _ | .invokespecial _ | .ldc2_w _ | .goto _ | .ifCond _ _ | .if_icmp _ _ | .iinc _ _ => 3
  | _ => 1
def ldI (L : List Slot) (i : Nat) : Option Value := match L[i]? with | some (.val (.int x)) => some (.int x) | _ => none
def ldJ (L : List Slot) (i : Nat) : Option Value := match L[i]? with | some (.val (.long x)) => some (.long x) | _ => none
def ldR (L : List Slot) (i : Nat) : Option Value := match L[i]? with | some (.val (.ref x)) => some (.ref x) | _ => none
def jmp (pc : Nat) (o : Int) : Option Nat := if 0 ≤ (pc : Int) + o then some ((pc : Int) + o).toNat else none
def ret (P : Prog) (m : Nat) (ins : Instr) (S : List Value) : Option (Option Value) :=
  match ins with
  | .return_ => if rt P m = none ∧ S = [] then some none else none
  | .ireturn => match S, rt P m with
    | .int z :: _, some .int => some (some (.int z))
    | .int z :: _, some .boolean => if z = 0 ∨ z = 1 then some (some (.int z)) else none
    | _, _ => none
  | .lreturn => match S, rt P m with
    | .long z :: _, some .long => some (some (.long z))
    | _, _ => none
  | _ => none
def rcv (H : AH) : List Value → Bool | .ref a :: _ => isO H a | _ => false
def may (P : Prog) (m m' : Nat) (a r : List Value) (k n : Nat) (H : AH) : Bool :=
  decide ((Sym.laidSlots a).length ≤ ml P m') && decide (a.length = na P m') && decide ((rm P m').frames + 1 ≤ (rm P m).frames) && decide (cs r + (ml P m' + 11) + (rm P m').locals ≤ (rm P m).locals)
    && (decide ((rm P m').cells = 0 ∧ (rm P m').slots = 0) || decide (k + (rm P m').cells ≤ (rm P m).cells ∧ n + (rm P m').slots ≤ (rm P m).slots))
    && (decide (kd P m' = 0) || rcv H a)
def kindOk : Instr → Nat → Bool
  | .invokevirtual _, k => k == 1 || k == 2
  | .invokestatic _, k => k == 0
  | .invokespecial _, k => k == 3
  | _, _ => false
def cal1 (P : Prog) (m : Nat) (ins : Instr) (aux : Int) (S : List Value) (k n : Nat) (H : AH) : Option (Nat × List Value × List Value) :=
  if 0 ≤ aux ∧ kindOk ins (kd P aux.toNat) = true ∧ may P m aux.toNat (S.take (na P aux.toNat)).reverse (S.drop (na P aux.toNat)) k n H = true
  then some (aux.toNat, (S.take (na P aux.toNat)).reverse, S.drop (na P aux.toNat)) else none
def cal (P : Prog) (m : Nat) (ins : Instr) (aux : Int) (S : List Value) (k n : Nat) (H : AH) : Option (Nat × List Value × List Value) :=
  match ins with
  | .invokevirtual _ | .invokestatic _ | .invokespecial _ => cal1 P m ins aux S k n H
  | _ => none
def opI : Instr → Option (Int32 → Int32 → Int32)
  | .iadd => some fun x y => x + y
  | .isub => some fun x y => x - y
  | .imul => some fun x y => x * y
  | .iand => some fun x y => x &&& y
  | .ior => some fun x y => x ||| y
  | .ixor => some fun x y => x ^^^ y
  | .ishl => some fun x y => x <<< (y &&& 31)
  | .ishr => some fun x y => x >>> (y &&& 31)
  | .iushr => some Jvm.Free.XT.ushr
  | _ => none
def opJ : Instr → Option (Int64 → Int64 → Int64)
  | .ladd => some fun x y => x + y
  | .lsub => some fun x y => x - y
  | .lmul => some fun x y => x * y
  | .land => some fun x y => x &&& y
  | .lor => some fun x y => x ||| y
  | .lxor => some fun x y => x ^^^ y
  | _ => none
def opS : Instr → Option (Int64 → Int32 → Int64)
  | .lshl => some fun x y => x <<< (y.toInt64 &&& 63)
  | .lshr => some fun x y => x >>> (y.toInt64 &&& 63)
  | .lushr => some Jvm.Free.XT.ushrL
  | _ => none
def stp (P : Prog) (m : Nat) (ins : Instr) (len : Nat) (aux : Int) (pc : Nat) (L : List Slot) (S : List Value) (k n : Nat) (H : AH) : Option Fm :=
  match ins with
  | .iconst i => some (pc + len, L, .int (Int32.ofInt i) :: S, k, n, H)
  | .bipush i => some (pc + len, L, .int (Int8.ofInt i).toInt32 :: S, k, n, H)
  | .sipush i => some (pc + len, L, .int (Int16.ofInt i).toInt32 :: S, k, n, H)
  | .lconst i => some (pc + len, L, .long (Int64.ofNat i) :: S, k, n, H)
  | .ldc _ => some (pc + len, L, .int (Int32.ofInt aux) :: S, k, n, H)
  | .ldc2_w _ => some (pc + len, L, .long (Int64.ofInt aux) :: S, k, n, H)
  | .iload i => (ldI L i).map fun v => (pc + len, L, v :: S, k, n, H)
  | .iload_n i => (ldI L i.val).map fun v => (pc + len, L, v :: S, k, n, H)
  | .lload i => (ldJ L i).map fun v => (pc + len, L, v :: S, k, n, H)
  | .lload_n i => (ldJ L i.val).map fun v => (pc + len, L, v :: S, k, n, H)
  | .aload i => (ldR L i).map fun v => (pc + len, L, v :: S, k, n, H)
  | .aload_n i => (ldR L i.val).map fun v => (pc + len, L, v :: S, k, n, H)
  | .istore i => match S with | .int x :: S => (stl L i (.int x)).map fun L => (pc + len, L, S, k, n, H) | _ => none
  | .istore_n i => match S with | .int x :: S => (stl L i.val (.int x)).map fun L => (pc + len, L, S, k, n, H) | _ => none
  | .astore i => match S with | .ref x :: S => (stl L i (.ref x)).map fun L => (pc + len, L, S, k, n, H) | _ => none
  | .astore_n i => match S with | .ref x :: S => (stl L i.val (.ref x)).map fun L => (pc + len, L, S, k, n, H) | _ => none
  | .lstore i => match S with | .long x :: S => (stL L i (.long x)).map fun L => (pc + len, L, S, k, n, H) | _ => none
  | .lstore_n i => match S with | .long x :: S => (stL L i.val (.long x)).map fun L => (pc + len, L, S, k, n, H) | _ => none
  | .iinc i c => match L[i]? with | some (.val (.int x)) => some (pc + len, L.set i (.val (.int (x + Int32.ofInt c))), S, k, n, H) | _ => none
  | .iadd | .isub | .imul | .iand | .ior | .ixor | .ishl | .ishr | .iushr => match S with | .int y :: .int x :: S => (opI ins).map fun f => (pc + len, L, .int (f x y) :: S, k, n, H) | _ => none
  | .ladd | .lsub | .lmul | .land | .lor | .lxor => match S with | .long y :: .long x :: S => (opJ ins).map fun f => (pc + len, L, .long (f x y) :: S, k, n, H) | _ => none
  | .lshl | .lshr | .lushr => match S with | .int y :: .long x :: S => (opS ins).map fun f => (pc + len, L, .long (f x y) :: S, k, n, H) | _ => none
  | .idiv => match S with | .int y :: .int x :: S => if y = 0 then none else some (pc + len, L, .int (x / y) :: S, k, n, H) | _ => none
  | .irem => match S with | .int y :: .int x :: S => if y = 0 then none else some (pc + len, L, .int (x % y) :: S, k, n, H) | _ => none
  | .ldiv => match S with | .long y :: .long x :: S => if y = 0 then none else some (pc + len, L, .long (x / y) :: S, k, n, H) | _ => none
  | .lrem => match S with | .long y :: .long x :: S => if y = 0 then none else some (pc + len, L, .long (x % y) :: S, k, n, H) | _ => none
  | .ineg => match S with | .int x :: S => some (pc + len, L, .int (-x) :: S, k, n, H) | _ => none
  | .lneg => match S with | .long x :: S => some (pc + len, L, .long (-x) :: S, k, n, H) | _ => none
  | .i2l => match S with | .int x :: S => some (pc + len, L, .long x.toInt64 :: S, k, n, H) | _ => none
  | .l2i => match S with | .long x :: S => some (pc + len, L, .int x.toInt32 :: S, k, n, H) | _ => none
  | .i2b => match S with | .int x :: S => some (pc + len, L, .int x.toInt8.toInt32 :: S, k, n, H) | _ => none
  | .lcmp => match S with | .long y :: .long x :: S => some (pc + len, L, .int (Jvm.Free.XT.cmpL x y) :: S, k, n, H) | _ => none
  | .dup => match S with | v :: S => if v.category = 1 then some (pc + len, L, v :: v :: S, k, n, H) else none | _ => none
  | .dup2 => match S with
    | .long x :: S => some (pc + len, L, .long x :: .long x :: S, k, n, H)
    | v :: w :: S => if v.category = 1 ∧ w.category = 1 then some (pc + len, L, v :: w :: v :: w :: S, k, n, H) else none
    | _ => none
  | .pop => match S with | v :: S => if v.category = 1 then some (pc + len, L, S, k, n, H) else none | _ => none
  | .goto o => (jmp pc o).map fun q => (q, L, S, k, n, H)
  | .ifCond c o => match S with | .int x :: S => if ifCond.holds c x = true then (jmp pc o).map fun q => (q, L, S, k, n, H) else some (pc + len, L, S, k, n, H) | _ => none
  | .if_icmp c o => match S with | .int y :: .int x :: S => if if_icmp.holds c x y = true then (jmp pc o).map fun q => (q, L, S, k, n, H) else some (pc + len, L, S, k, n, H) | _ => none
  | .tableswitch d lo hi os => match S with
    | .int x :: S => if x.toInt < lo ∨ x.toInt > hi then (jmp pc d).map fun q => (q, L, S, k, n, H) else (os[(x.toInt - lo).toNat]?).bind fun o => (jmp pc o).map fun q => (q, L, S, k, n, H)
    | _ => none
  | .getfield _ => match S with | .ref a :: S => if isO H a = true then some (pc + len, L, fld H a aux.toNat :: S, k, n, H) else none | _ => none
  | .putfield _ => match S with | v :: .ref a :: S => if isOw H a = true ∧ okv (P.2.2.1 aux.toNat) v = true then some (pc + len, L, S, k, n, wr H a aux.toNat v) else none | _ => none
  | .iaload => match S with | .int i :: .ref a :: S => if inA H a .int i = true then some (pc + len, L, elt H a i :: S, k, n, H) else none | _ => none
  | .laload => match S with | .int i :: .ref a :: S => if inA H a .long i = true then some (pc + len, L, elt H a i :: S, k, n, H) else none | _ => none
  | .baload => match S with | .int i :: .ref a :: S => if inA H a .byte i = true ∨ inA H a .boolean i = true then some (pc + len, L, elt H a i :: S, k, n, H) else none | _ => none
  | .iastore => match S with | .int x :: .int i :: .ref a :: S => if inAw H a .int i = true then some (pc + len, L, S, k, n, wr H a i.toNatClampNeg (.int x)) else none | _ => none
  | .lastore => match S with | .long x :: .int i :: .ref a :: S => if inAw H a .long i = true then some (pc + len, L, S, k, n, wr H a i.toNatClampNeg (.long x)) else none | _ => none
  | .bastore => match S with
    | .int x :: .int i :: .ref a :: S => if (inAw H a .byte i = true ∧ okv .byte (.int x) = true) ∨ (inAw H a .boolean i = true ∧ okv .boolean (.int x) = true) then some (pc + len, L, S, k, n, wr H a i.toNatClampNeg (.int x)) else none
    | _ => none
  | .arraylength => match S with | .ref a :: S => if isA H a = true then some (pc + len, L, .int (alen H a).toInt32 :: S, k, n, H) else none | _ => none
  | .newarray t => match S with | .int c :: S => if ¬ c < 0 ∧ c.toNatClampNeg * 8 ≤ 536870912 ∧ k + 1 ≤ (rm P m).cells ∧ n + c.toNatClampNeg ≤ (rm P m).slots then some (pc + len, L, .ref H.1 :: S, k + 1, n + c.toNatClampNeg, mkA (newarray.typeOf t) c.toNatClampNeg H) else none | _ => none
  | .new _ => if 0 ≤ aux ∧ k + 1 ≤ (rm P m).cells ∧ n + aux.toNat ≤ (rm P m).slots then some (pc + len, L, .ref H.1 :: S, k + 1, n + aux.toNat, mkO P H) else none
  | .invokespecial _ => match S with | .ref a :: S => if aux = -1 ∧ 1 ≤ (rm P m).frames ∧ cs S + 12 ≤ (rm P m).locals then some (pc + len, L, S, k, n, H) else none | _ => none
  | _ => none
def run (P : Prog) : Nat → Nat → Nat → List Slot → List Value → Nat → Nat → AH → Option (Option Value × AH)
  | 0, _, _, _, _, _, _, _ => none
  | f + 1, m, pc, L, S, k, n, H =>
    match P.1 m pc with
    | none => none
    | some d =>
      match ret P m d.1 S with
      | some v => some (v, H)
      | none => match cal P m d.1 d.2.2 S k n H with
        | some c => match run P f c.1 0 (ent P c.1 c.2.1) [] 0 0 H with
          | none => none
          | some r => run P f m (pc + d.2.1) L (r.1.toList ++ c.2.2) (k + (rm P c.1).cells) (n + (rm P c.1).slots) r.2
        | none => match stp P m d.1 d.2.1 d.2.2 pc L S k n H with
          | none => none
          | some q => run P f m q.1 q.2.1 q.2.2.1 q.2.2.2.1 q.2.2.2.2.1 q.2.2.2.2.2
end Jvm.JX

namespace Jvm.JX
open Sem ClassFile Op Lib
section
variable {P : Prog}
theorem run_succ (f m pc : Nat) (L : List Slot) (S : List Value) (k n : Nat) (H : AH) : run P (f + 1) m pc L S k n H =
    match P.1 m pc with
    | none => none
    | some d =>
      match ret P m d.1 S with
      | some v => some (v, H)
      | none => match cal P m d.1 d.2.2 S k n H with
        | some c => match run P f c.1 0 (ent P c.1 c.2.1) [] 0 0 H with
          | none => none
          | some r => run P f m (pc + d.2.1) L (r.1.toList ++ c.2.2) (k + (rm P c.1).cells) (n + (rm P c.1).slots) r.2
        | none => match stp P m d.1 d.2.1 d.2.2 pc L S k n H with
          | none => none
          | some q => run P f m q.1 q.2.1 q.2.2.1 q.2.2.2.1 q.2.2.2.2.1 q.2.2.2.2.2 := rfl
theorem run_mono : ∀ (f m pc : Nat) (L : List Slot) (S : List Value) (k n : Nat) (H : AH) (r : Option Value × AH), run P f m pc L S k n H = some r → run P (f + 1) m pc L S k n H = some r := by
  intro f
  induction f with
  | zero => intro m pc L S k n H r h; cases h
  | succ f ih =>
    intro m pc L S k n H r h
    rw [run_succ] at h ⊢
    cases hd : P.1 m pc with
    | none => rw [hd] at h; cases h
    | some d =>
      rw [hd] at h
      simp only at h ⊢
      cases hr : ret P m d.1 S with
      | some v => rw [hr] at h; exact h
      | none =>
        rw [hr] at h
        simp only at h ⊢
        cases hc : cal P m d.1 d.2.2 S k n H with
        | some c =>
          rw [hc] at h
          simp only at h ⊢
          cases hq : run P f c.1 0 (ent P c.1 c.2.1) [] 0 0 H with
          | none => rw [hq] at h; cases h
          | some q =>
            rw [hq] at h
            rw [ih _ _ _ _ _ _ _ _ hq]
            exact ih _ _ _ _ _ _ _ _ h
        | none =>
          rw [hc] at h
          simp only at h ⊢
          cases hs : stp P m d.1 d.2.1 d.2.2 pc L S k n H with
          | none => rw [hs] at h; cases h
          | some q => rw [hs] at h; exact ih _ _ _ _ _ _ _ _ h
theorem run_le {f g : Nat} (hfg : f ≤ g) {m pc : Nat} {L : List Slot} {S : List Value} {k n : Nat} {H : AH} {r : Option Value × AH} (h : run P f m pc L S k n H = some r) : run P g m pc L S k n H = some r := by
  induction hfg with
  | refl => exact h
  | step _ ih => exact run_mono _ _ _ _ _ _ _ _ _ ih
end
def W (P : Prog) (m pc : Nat) (L : List Slot) (S : List Value) (k n : Nat) (H : AH) (Q : Option Value → AH → Prop) : Prop := ∃ f v H', run P f m pc L S k n H = some (v, H') ∧ Q v H'
def Cl (P : Prog) (m : Nat) (a : List Value) (H : AH) (Q : Option Value → AH → Prop) : Prop := W P m 0 (ent P m a) [] 0 0 H Q
section Rules
variable {P : Prog} {m pc : Nat} {L : List Slot} {S : List Value} {k n : Nat} {H : AH} {Q : Option Value → AH → Prop} {ins : Instr} {len : Nat} {aux : Int}
theorem W_mono {Q' : Option Value → AH → Prop} (h : W P m pc L S k n H Q) (hq : ∀ v H', Q v H' → Q' v H') : W P m pc L S k n H Q' := by
  obtain ⟨f, v, H', h1, h2⟩ := h
  exact ⟨f, v, H', h1, hq _ _ h2⟩
theorem W_r {v : Option Value} (hd : P.1 m pc = some (ins, len, aux)) (hr : ret P m ins S = some v) : W P m pc L S k n H Q ↔ Q v H := by
  constructor
  · rintro ⟨f, v', H', h1, h2⟩
    cases f with
    | zero => cases h1
    | succ f => rw [run_succ, hd] at h1; simp only [hr] at h1; cases h1; exact h2
  · intro h
    refine ⟨1, v, H, ?_, h⟩
    rw [run_succ, hd]; simp only [hr]
theorem W_c {m' : Nat} {a r : List Value} (hd : P.1 m pc = some (ins, len, aux)) (hr : ret P m ins S = none) (hc : cal P m ins aux S k n H = some (m', a, r)) :
    W P m pc L S k n H Q ↔ Cl P m' a H (fun v H' => W P m (pc + len) L (v.toList ++ r) (k + (rm P m').cells) (n + (rm P m').slots) H' Q) := by
  constructor
  · rintro ⟨f, v', H', h1, h2⟩
    cases f with
    | zero => cases h1
    | succ f =>
      rw [run_succ, hd] at h1; simp only [hr, hc] at h1
      cases hq : run P f m' 0 (ent P m' a) [] 0 0 H with
      | none => rw [hq] at h1; cases h1
      | some q => rw [hq] at h1; exact ⟨f, q.1, q.2, hq, f, v', H', h1, h2⟩
  · rintro ⟨f, v, H', h1, g, v', H'', h2, h3⟩
    refine ⟨max f g + 1, v', H'', ?_, h3⟩
    rw [run_succ, hd]; simp only [hr, hc]
    rw [run_le (Nat.le_max_left f g) h1]
    exact run_le (Nat.le_max_right f g) h2
theorem W_q (hd : P.1 m pc = some (ins, len, aux)) (hr : ret P m ins S = none) (hc : cal P m ins aux S k n H = none) :
    W P m pc L S k n H Q ↔ ∃ q, stp P m ins len aux pc L S k n H = some q ∧ W P m q.1 q.2.1 q.2.2.1 q.2.2.2.1 q.2.2.2.2.1 q.2.2.2.2.2 Q := by
  constructor
  · rintro ⟨f, v', H', h1, h2⟩
    cases f with
    | zero => cases h1
    | succ f =>
      rw [run_succ, hd] at h1; simp only [hr, hc] at h1
      cases hq : stp P m ins len aux pc L S k n H with
      | none => rw [hq] at h1; cases h1
      | some q => rw [hq] at h1; exact ⟨q, rfl, f, v', H', h1, h2⟩
  · rintro ⟨q, hq, f, v', H', h1, h2⟩
    refine ⟨f + 1, v', H', ?_, h2⟩
    rw [run_succ, hd]; simp only [hr, hc, hq]; exact h1
theorem W_s {pc' : Nat} {L' : List Slot} {S' : List Value} {k' n' : Nat} {H' : AH} (hd : P.1 m pc = some (ins, len, aux)) (hr : ret P m ins S = none) (hc : cal P m ins aux S k n H = none)
    (hs : stp P m ins len aux pc L S k n H = some (pc', L', S', k', n', H')) : W P m pc L S k n H Q ↔ W P m pc' L' S' k' n' H' Q := by
  rw [W_q hd hr hc, hs]
  exact ⟨fun ⟨q, e, h⟩ => by cases e; exact h, fun h => ⟨_, rfl, h⟩⟩
theorem W_g {G : Prop} [Decidable G] {pc' : Nat} {L' : List Slot} {S' : List Value} {k' n' : Nat} {H' : AH} (hd : P.1 m pc = some (ins, len, aux)) (hr : ret P m ins S = none) (hc : cal P m ins aux S k n H = none)
    (hs : stp P m ins len aux pc L S k n H = if G then some (pc', L', S', k', n', H') else none) : W P m pc L S k n H Q ↔ (G ∧ W P m pc' L' S' k' n' H' Q) := by
  rw [W_q hd hr hc, hs]
  by_cases g : G
  · rw [if_pos g]; exact ⟨fun ⟨q, e, h⟩ => by cases e; exact ⟨g, h⟩, fun h => ⟨_, rfl, h.2⟩⟩
  · rw [if_neg g]; exact ⟨fun ⟨q, e, h⟩ => (by cases e), fun h => absurd h.1 g⟩
theorem W_n {G : Prop} [Decidable G] {pc' : Nat} {L' : List Slot} {S' : List Value} {k' n' : Nat} {H' : AH} (hd : P.1 m pc = some (ins, len, aux)) (hr : ret P m ins S = none) (hc : cal P m ins aux S k n H = none)
    (hs : stp P m ins len aux pc L S k n H = if G then none else some (pc', L', S', k', n', H')) : W P m pc L S k n H Q ↔ (¬ G ∧ W P m pc' L' S' k' n' H' Q) := by
  rw [W_q hd hr hc, hs]
  by_cases g : G
  · rw [if_pos g]; exact ⟨fun ⟨q, e, h⟩ => (by cases e), fun h => absurd g h.1⟩
  · rw [if_neg g]; exact ⟨fun ⟨q, e, h⟩ => by cases e; exact ⟨g, h⟩, fun h => ⟨_, rfl, h.2⟩⟩
theorem W_f {G : Prop} [Decidable G] {q1 q2 : Fm} (hd : P.1 m pc = some (ins, len, aux)) (hr : ret P m ins S = none) (hc : cal P m ins aux S k n H = none)
    (hs : stp P m ins len aux pc L S k n H = if G then some q1 else some q2) : W P m pc L S k n H Q ↔ (if G then W P m q1.1 q1.2.1 q1.2.2.1 q1.2.2.2.1 q1.2.2.2.2.1 q1.2.2.2.2.2 Q else W P m q2.1 q2.2.1 q2.2.2.1 q2.2.2.2.1 q2.2.2.2.2.1 q2.2.2.2.2.2 Q) := by
  rw [W_q hd hr hc, hs]
  by_cases g : G
  · rw [if_pos g, if_pos g]; exact ⟨fun ⟨q, e, h⟩ => by cases e; exact h, fun h => ⟨_, rfl, h⟩⟩
  · rw [if_neg g, if_neg g]; exact ⟨fun ⟨q, e, h⟩ => by cases e; exact h, fun h => ⟨_, rfl, h⟩⟩
section Cmp
variable {x y : Int32} {o : Int} {q : Nat}
theorem W_icmp_eq (hd : P.1 m pc = some (.if_icmp .eq o, len, aux)) (hj : jmp pc o = some q) : W P m pc L (.int y :: .int x :: S) k n H Q ↔ (if x = y then W P m q L S k n H Q else W P m (pc + len) L S k n H Q) :=
  W_f (G := x = y) (q1 := (q, L, S, k, n, H)) (q2 := (pc + len, L, S, k, n, H)) hd rfl rfl (by simp only [stp, hj, if_icmp.holds]; by_cases h : x = y <;> simp [h])
theorem W_icmp_ne (hd : P.1 m pc = some (.if_icmp .ne o, len, aux)) (hj : jmp pc o = some q) : W P m pc L (.int y :: .int x :: S) k n H Q ↔ (if x = y then W P m (pc + len) L S k n H Q else W P m q L S k n H Q) :=
  W_f (G := x = y) (q1 := (pc + len, L, S, k, n, H)) (q2 := (q, L, S, k, n, H)) hd rfl rfl (by simp only [stp, hj, if_icmp.holds]; by_cases h : x = y <;> simp [h])
theorem W_icmp_lt (hd : P.1 m pc = some (.if_icmp .lt o, len, aux)) (hj : jmp pc o = some q) : W P m pc L (.int y :: .int x :: S) k n H Q ↔ (if x < y then W P m q L S k n H Q else W P m (pc + len) L S k n H Q) :=
  W_f (G := x < y) (q1 := (q, L, S, k, n, H)) (q2 := (pc + len, L, S, k, n, H)) hd rfl rfl (by
    by_cases h : x < y
    · simp [stp, hj, Jvm.Free.XT.ii_lt_t h, h]
    · simp [stp, hj, Jvm.Free.XT.ii_lt_f h, h])
theorem W_icmp_ge (hd : P.1 m pc = some (.if_icmp .ge o, len, aux)) (hj : jmp pc o = some q) : W P m pc L (.int y :: .int x :: S) k n H Q ↔ (if x < y then W P m (pc + len) L S k n H Q else W P m q L S k n H Q) :=
  W_f (G := x < y) (q1 := (pc + len, L, S, k, n, H)) (q2 := (q, L, S, k, n, H)) hd rfl rfl (by
    by_cases h : x < y
    · simp [stp, hj, Jvm.Free.XT.ii_ge_f h, h]
    · simp [stp, hj, Jvm.Free.XT.ii_ge_t h, h])
theorem W_icmp_gt (hd : P.1 m pc = some (.if_icmp .gt o, len, aux)) (hj : jmp pc o = some q) : W P m pc L (.int y :: .int x :: S) k n H Q ↔ (if y < x then W P m q L S k n H Q else W P m (pc + len) L S k n H Q) :=
  W_f (G := y < x) (q1 := (q, L, S, k, n, H)) (q2 := (pc + len, L, S, k, n, H)) hd rfl rfl (by
    by_cases h : y < x
    · simp [stp, hj, Jvm.Free.XT.ii_gt_t h, h]
    · simp [stp, hj, Jvm.Free.XT.ii_gt_f h, h])
theorem W_icmp_le (hd : P.1 m pc = some (.if_icmp .le o, len, aux)) (hj : jmp pc o = some q) : W P m pc L (.int y :: .int x :: S) k n H Q ↔ (if y < x then W P m (pc + len) L S k n H Q else W P m q L S k n H Q) :=
  W_f (G := y < x) (q1 := (pc + len, L, S, k, n, H)) (q2 := (q, L, S, k, n, H)) hd rfl rfl (by
    by_cases h : y < x
    · simp [stp, hj, Jvm.Free.XT.ii_le_f h, h]
    · simp [stp, hj, Jvm.Free.XT.ii_le_t h, h])
theorem W_if_eq (hd : P.1 m pc = some (.ifCond .eq o, len, aux)) (hj : jmp pc o = some q) : W P m pc L (.int x :: S) k n H Q ↔ (if x = 0 then W P m q L S k n H Q else W P m (pc + len) L S k n H Q) :=
  W_f (G := x = 0) (q1 := (q, L, S, k, n, H)) (q2 := (pc + len, L, S, k, n, H)) hd rfl rfl (by
    by_cases h : x = 0
    · have e := Jvm.Free.XT.i0_eq_t h; simp only [stp, hj, e, if_pos h, if_true, Option.map_some]
    · simp [stp, hj, Jvm.Free.XT.i0_eq_f h, h])
theorem W_if_ne (hd : P.1 m pc = some (.ifCond .ne o, len, aux)) (hj : jmp pc o = some q) : W P m pc L (.int x :: S) k n H Q ↔ (if x = 0 then W P m (pc + len) L S k n H Q else W P m q L S k n H Q) :=
  W_f (G := x = 0) (q1 := (pc + len, L, S, k, n, H)) (q2 := (q, L, S, k, n, H)) hd rfl rfl (by
    by_cases h : x = 0
    · have e := Jvm.Free.XT.i0_ne_f h; simp only [stp, hj, e, if_pos h, Bool.false_eq_true, if_false]
    · simp [stp, hj, Jvm.Free.XT.i0_ne_t h, h])
theorem W_if_lt (hd : P.1 m pc = some (.ifCond .lt o, len, aux)) (hj : jmp pc o = some q) : W P m pc L (.int x :: S) k n H Q ↔ (if x < 0 then W P m q L S k n H Q else W P m (pc + len) L S k n H Q) :=
  W_f (G := x < 0) (q1 := (q, L, S, k, n, H)) (q2 := (pc + len, L, S, k, n, H)) hd rfl rfl (by
    by_cases h : x < 0
    · simp [stp, hj, Jvm.Free.XT.i0_lt_t h, h]
    · simp [stp, hj, Jvm.Free.XT.i0_lt_f h, h])
theorem W_if_ge (hd : P.1 m pc = some (.ifCond .ge o, len, aux)) (hj : jmp pc o = some q) : W P m pc L (.int x :: S) k n H Q ↔ (if x < 0 then W P m (pc + len) L S k n H Q else W P m q L S k n H Q) :=
  W_f (G := x < 0) (q1 := (pc + len, L, S, k, n, H)) (q2 := (q, L, S, k, n, H)) hd rfl rfl (by
    by_cases h : x < 0
    · simp [stp, hj, Jvm.Free.XT.i0_ge_f h, h]
    · simp [stp, hj, Jvm.Free.XT.i0_ge_t h, h])
theorem W_if_gt (hd : P.1 m pc = some (.ifCond .gt o, len, aux)) (hj : jmp pc o = some q) : W P m pc L (.int x :: S) k n H Q ↔ (if 0 < x then W P m q L S k n H Q else W P m (pc + len) L S k n H Q) :=
  W_f (G := 0 < x) (q1 := (q, L, S, k, n, H)) (q2 := (pc + len, L, S, k, n, H)) hd rfl rfl (by
    by_cases h : 0 < x
    · simp [stp, hj, Jvm.Free.XT.i0_gt_t h, h]
    · simp [stp, hj, Jvm.Free.XT.i0_gt_f h, h])
theorem W_if_le (hd : P.1 m pc = some (.ifCond .le o, len, aux)) (hj : jmp pc o = some q) : W P m pc L (.int x :: S) k n H Q ↔ (if 0 < x then W P m (pc + len) L S k n H Q else W P m q L S k n H Q) :=
  W_f (G := 0 < x) (q1 := (pc + len, L, S, k, n, H)) (q2 := (q, L, S, k, n, H)) hd rfl rfl (by
    by_cases h : 0 < x
    · simp [stp, hj, Jvm.Free.XT.i0_le_f h, h]
    · simp [stp, hj, Jvm.Free.XT.i0_le_t h, h])
theorem W_goto (hd : P.1 m pc = some (.goto o, len, aux)) (hj : jmp pc o = some q) : W P m pc L S k n H Q ↔ W P m q L S k n H Q := W_s hd rfl rfl (by simp [stp, hj])
end Cmp
section Sto
variable {i : Nat} {o o2 : Slot} {x y : Int32} {v : Value} {l : Int64} {a : Nat}
theorem stl_plain (h : L[i]? = some o) (ho : cat1 o = true) : stl L i v = some (L.set i (.val v)) := by
  unfold stl
  rw [h]
  cases o with
  | unset => rfl
  | second => cases ho
  | val w => simp only [cat1, beq_iff_eq] at ho; simp [ho]
theorem stL_plain (h : L[i]? = some o) (h2 : L[i + 1]? = some o2) (ho : cat1 o = true) (ho2 : cat1 o2 = true) : stL L i v = some ((L.set i (.val v)).set (i + 1) .second) := by
  unfold stL
  rw [h, h2]
  cases o with
  | unset => simp [ho2]
  | second => cases ho
  | val w => simp only [cat1, beq_iff_eq] at ho; simp [ho, ho2]
theorem stL_again (h : L[i]? = some (.val (.long l))) (h2 : L[i + 1]? = some o2) : stL L i v = some ((L.set i (.val v)).set (i + 1) .second) := by
  unfold stL
  rw [h, h2]; simp [Value.category]
theorem W_ist (hd : P.1 m pc = some (.istore i, len, aux)) (h : L[i]? = some o) (ho : cat1 o = true) : W P m pc L (.int x :: S) k n H Q ↔ W P m (pc + len) (L.set i (.val (.int x))) S k n H Q := W_s hd rfl rfl (by simp [stp, stl_plain h ho])
theorem W_istn {i : Fin 4} (hd : P.1 m pc = some (.istore_n i, len, aux)) (h : L[i.val]? = some o) (ho : cat1 o = true) : W P m pc L (.int x :: S) k n H Q ↔ W P m (pc + len) (L.set i.val (.val (.int x))) S k n H Q := W_s hd rfl rfl (by simp [stp, stl_plain h ho])
theorem W_ast (hd : P.1 m pc = some (.astore i, len, aux)) (h : L[i]? = some o) (ho : cat1 o = true) : W P m pc L (.ref a :: S) k n H Q ↔ W P m (pc + len) (L.set i (.val (.ref a))) S k n H Q := W_s hd rfl rfl (by simp [stp, stl_plain h ho])
theorem W_astn {i : Fin 4} (hd : P.1 m pc = some (.astore_n i, len, aux)) (h : L[i.val]? = some o) (ho : cat1 o = true) : W P m pc L (.ref a :: S) k n H Q ↔ W P m (pc + len) (L.set i.val (.val (.ref a))) S k n H Q := W_s hd rfl rfl (by simp [stp, stl_plain h ho])
theorem W_lst (hd : P.1 m pc = some (.lstore i, len, aux)) (h : L[i]? = some o) (h2 : L[i + 1]? = some o2) (ho : cat1 o = true) (ho2 : cat1 o2 = true) : W P m pc L (.long l :: S) k n H Q ↔ W P m (pc + len) ((L.set i (.val (.long l))).set (i + 1) .second) S k n H Q := W_s hd rfl rfl (by simp [stp, stL_plain h h2 ho ho2])
theorem W_lstn {i : Fin 4} (hd : P.1 m pc = some (.lstore_n i, len, aux)) (h : L[i.val]? = some o) (h2 : L[i.val + 1]? = some o2) (ho : cat1 o = true) (ho2 : cat1 o2 = true) : W P m pc L (.long l :: S) k n H Q ↔ W P m (pc + len) ((L.set i.val (.val (.long l))).set (i.val + 1) .second) S k n H Q := W_s hd rfl rfl (by simp [stp, stL_plain h h2 ho ho2])
theorem W_lst' {l' : Int64} (hd : P.1 m pc = some (.lstore i, len, aux)) (h : L[i]? = some (.val (.long l'))) (h2 : L[i + 1]? = some o2) : W P m pc L (.long l :: S) k n H Q ↔ W P m (pc + len) ((L.set i (.val (.long l))).set (i + 1) .second) S k n H Q := W_s hd rfl rfl (by simp [stp, stL_again h h2])
theorem W_lstn' {l' : Int64} {i : Fin 4} (hd : P.1 m pc = some (.lstore_n i, len, aux)) (h : L[i.val]? = some (.val (.long l'))) (h2 : L[i.val + 1]? = some o2) : W P m pc L (.long l :: S) k n H Q ↔ W P m (pc + len) ((L.set i.val (.val (.long l))).set (i.val + 1) .second) S k n H Q := W_s hd rfl rfl (by simp [stp, stL_again h h2])
theorem st_long {S' : List Value} (h : L[i]? = some (.val (.long l))) (h2 : L[i + 1]? = some .second) : ((stl L i v).map fun L => (pc, L, S', k, n, H)) = some (pc, (L.set (i + 1) .unset).set i (.val v), S', k, n, H) := by
  have := (List.getElem?_eq_some_iff.mp h2).1
  simp [stl, h, Value.category, this]
theorem cat1_unset : cat1 .unset = true := rfl
theorem cat1_int : cat1 (.val (.int x)) = true := rfl
theorem cat1_ref : cat1 (.val (.ref a)) = true := rfl
theorem cs_nil : cs [] = 0 := by simp [cs]
theorem cs_int : cs (.int x :: S) = 1 + cs S := by simp [cs, Value.category]
theorem cs_ref : cs (.ref a :: S) = 1 + cs S := by simp [cs, Value.category]
theorem cs_long : cs (.long l :: S) = 2 + cs S := by simp [cs, Value.category]
end Sto
section Heap
variable {a j : Nat} {i x c : Int32} {v : Value} {l : Int64}
theorem W_getf {ix : Nat} (hd : P.1 m pc = some (.getfield ix, len, aux)) : W P m pc L (.ref a :: S) k n H Q ↔ (isO H a = true ∧ W P m (pc + len) L (fld H a aux.toNat :: S) k n H Q) := W_g hd rfl rfl rfl
theorem W_putf {ix : Nat} (hd : P.1 m pc = some (.putfield ix, len, aux)) : W P m pc L (v :: .ref a :: S) k n H Q ↔ ((isOw H a = true ∧ okv (P.2.2.1 aux.toNat) v = true) ∧ W P m (pc + len) L S k n (wr H a aux.toNat v) Q) := W_g hd rfl rfl rfl
theorem W_iaload (hd : P.1 m pc = some (.iaload, len, aux)) : W P m pc L (.int i :: .ref a :: S) k n H Q ↔ (inA H a .int i = true ∧ W P m (pc + len) L (elt H a i :: S) k n H Q) := W_g hd rfl rfl rfl
theorem W_laload (hd : P.1 m pc = some (.laload, len, aux)) : W P m pc L (.int i :: .ref a :: S) k n H Q ↔ (inA H a .long i = true ∧ W P m (pc + len) L (elt H a i :: S) k n H Q) := W_g hd rfl rfl rfl
theorem W_baload (hd : P.1 m pc = some (.baload, len, aux)) : W P m pc L (.int i :: .ref a :: S) k n H Q ↔ ((inA H a .byte i = true ∨ inA H a .boolean i = true) ∧ W P m (pc + len) L (elt H a i :: S) k n H Q) := W_g hd rfl rfl rfl
theorem W_iastore (hd : P.1 m pc = some (.iastore, len, aux)) : W P m pc L (.int x :: .int i :: .ref a :: S) k n H Q ↔ (inAw H a .int i = true ∧ W P m (pc + len) L S k n (wr H a i.toNatClampNeg (.int x)) Q) := W_g hd rfl rfl rfl
theorem W_lastore (hd : P.1 m pc = some (.lastore, len, aux)) : W P m pc L (.long l :: .int i :: .ref a :: S) k n H Q ↔ (inAw H a .long i = true ∧ W P m (pc + len) L S k n (wr H a i.toNatClampNeg (.long l)) Q) := W_g hd rfl rfl rfl
theorem W_bastore (hd : P.1 m pc = some (.bastore, len, aux)) : W P m pc L (.int x :: .int i :: .ref a :: S) k n H Q ↔ (((inAw H a .byte i = true ∧ okv .byte (.int x) = true) ∨ (inAw H a .boolean i = true ∧ okv .boolean (.int x) = true)) ∧ W P m (pc + len) L S k n (wr H a i.toNatClampNeg (.int x)) Q) := W_g hd rfl rfl rfl
theorem W_alen (hd : P.1 m pc = some (.arraylength, len, aux)) : W P m pc L (.ref a :: S) k n H Q ↔ (isA H a = true ∧ W P m (pc + len) L (.int (alen H a).toInt32 :: S) k n H Q) := W_g hd rfl rfl rfl
theorem W_newarr {t : ArrayType} (hd : P.1 m pc = some (.newarray t, len, aux)) : W P m pc L (.int c :: S) k n H Q ↔ ((¬ c < 0 ∧ c.toNatClampNeg * 8 ≤ 536870912 ∧ k + 1 ≤ (rm P m).cells ∧ n + c.toNatClampNeg ≤ (rm P m).slots) ∧ W P m (pc + len) L (.ref H.1 :: S) (k + 1) (n + c.toNatClampNeg) (mkA (newarray.typeOf t) c.toNatClampNeg H) Q) := W_g hd rfl rfl rfl
theorem W_new {ix : Nat} (hd : P.1 m pc = some (.new ix, len, aux)) : W P m pc L S k n H Q ↔ ((0 ≤ aux ∧ k + 1 ≤ (rm P m).cells ∧ n + aux.toNat ≤ (rm P m).slots) ∧ W P m (pc + len) L (.ref H.1 :: S) (k + 1) (n + aux.toNat) (mkO P H) Q) := W_g hd rfl rfl rfl
theorem W_oinit {ix : Nat} (hd : P.1 m pc = some (.invokespecial ix, len, -1)) : W P m pc L (.ref a :: S) k n H Q ↔ ((1 ≤ (rm P m).frames ∧ cs S + 12 ≤ (rm P m).locals) ∧ W P m (pc + len) L S k n H Q) :=
  W_g (G := 1 ≤ (rm P m).frames ∧ cs S + 12 ≤ (rm P m).locals) hd rfl (by simp [cal, cal1]) (by simp [stp])
theorem W_idiv {y : Int32} (hd : P.1 m pc = some (.idiv, len, aux)) : W P m pc L (.int y :: .int x :: S) k n H Q ↔ (¬ y = 0 ∧ W P m (pc + len) L (.int (x / y) :: S) k n H Q) := W_n hd rfl rfl rfl
theorem W_irem {y : Int32} (hd : P.1 m pc = some (.irem, len, aux)) : W P m pc L (.int y :: .int x :: S) k n H Q ↔ (¬ y = 0 ∧ W P m (pc + len) L (.int (x % y) :: S) k n H Q) := W_n hd rfl rfl rfl
theorem W_ldiv {l' : Int64} (hd : P.1 m pc = some (.ldiv, len, aux)) : W P m pc L (.long l' :: .long l :: S) k n H Q ↔ (¬ l' = 0 ∧ W P m (pc + len) L (.long (l / l') :: S) k n H Q) := W_n hd rfl rfl rfl
theorem W_lrem {l' : Int64} (hd : P.1 m pc = some (.lrem, len, aux)) : W P m pc L (.long l' :: .long l :: S) k n H Q ↔ (¬ l' = 0 ∧ W P m (pc + len) L (.long (l % l') :: S) k n H Q) := W_n hd rfl rfl rfl
end Heap
section Call
variable {m' : Nat} {a r : List Value} {b : Nat}
theorem cal_eq (hk : kindOk ins (kd P m') = true) (hl : a.length = na P m') : cal P m ins (m' : Int) (a.reverse ++ r) k n H = if may P m m' a r k n H = true then some (m', a, r) else none := by
  have e1 : (a.reverse ++ r).take (na P m') = a.reverse := by rw [← hl, ← List.length_reverse (as := a)]; exact List.take_left ..
  have e2 : (a.reverse ++ r).drop (na P m') = r := by rw [← hl, ← List.length_reverse (as := a)]; exact List.drop_left ..
  have key : cal1 P m ins (m' : Int) (a.reverse ++ r) k n H = if may P m m' a r k n H = true then some (m', a, r) else none := by
    unfold cal1
    rw [Int.toNat_natCast, e1, e2, List.reverse_reverse]
    simp [hk]
  cases ins <;> first | exact key | (cases hk)
theorem W_call (hd : P.1 m pc = some (ins, len, (m' : Int))) (hr : ret P m ins S = none) (hk : kindOk ins (kd P m') = true) (hl : a.length = na P m') (hS : S = a.reverse ++ r) (hns : stp P m ins len (m' : Int) pc L S k n H = none) :
    W P m pc L S k n H Q ↔ (may P m m' a r k n H = true ∧ Cl P m' a H (fun v H' => W P m (pc + len) L (v.toList ++ r) (k + (rm P m').cells) (n + (rm P m').slots) H' Q)) := by
  have hc : cal P m ins (m' : Int) S k n H = if may P m m' a r k n H = true then some (m', a, r) else none := by rw [hS]; exact cal_eq hk hl
  by_cases g : may P m m' a r k n H = true
  · rw [if_pos g] at hc
    rw [W_c hd hr hc]; simp [g]
  · rw [if_neg g] at hc
    rw [W_q hd hr hc, hns]
    exact ⟨fun ⟨q, e, h⟩ => (by cases e), fun h => absurd h.1 g⟩
theorem W_inst {ix : Nat} {as : List Value} (hd : P.1 m pc = some (.invokevirtual ix, len, (m' : Int))) (hk : kindOk (.invokevirtual ix) (kd P m') = true) (hl : as.length + 1 = na P m') (hS : S = as.reverse ++ .ref b :: r)
    (h1 : (Sym.laidSlots (.ref b :: as)).length ≤ ml P m') (h2 : (rm P m').frames + 1 ≤ (rm P m).frames) (h3 : (rm P m').cells = 0 ∧ (rm P m').slots = 0) :
    W P m pc L S k n H Q ↔ ((isO H b = true ∧ cs r + (ml P m' + 11) + (rm P m').locals ≤ (rm P m).locals) ∧ Cl P m' (.ref b :: as) H (fun v H' => W P m (pc + len) L (v.toList ++ r) k n H' Q)) := by
  rw [W_call (a := .ref b :: as) (r := r) hd rfl hk hl (by rw [hS]; simp) rfl]
  have e : may P m m' (.ref b :: as) r k n H = true ↔ (isO H b = true ∧ cs r + (ml P m' + 11) + (rm P m').locals ≤ (rm P m).locals) := by
    have hk0 : kd P m' ≠ 0 := by intro h; rw [h] at hk; cases hk
    simp [may, rcv, h1, h2, h3, ← hl, hk0]; exact And.comm
  rw [e, h3.1, h3.2]; rfl
theorem W_stat {ix : Nat} (hd : P.1 m pc = some (.invokestatic ix, len, (m' : Int))) (hk : kindOk (.invokestatic ix) (kd P m') = true) (hl : a.length = na P m') (hS : S = a.reverse ++ r)
    (h1 : (Sym.laidSlots a).length ≤ ml P m') (h2 : (rm P m').frames + 1 ≤ (rm P m).frames) (h3 : (rm P m').cells = 0 ∧ (rm P m').slots = 0) :
    W P m pc L S k n H Q ↔ ((cs r + (ml P m' + 11) + (rm P m').locals ≤ (rm P m).locals) ∧ Cl P m' a H (fun v H' => W P m (pc + len) L (v.toList ++ r) k n H' Q)) := by
  rw [W_call (a := a) (r := r) hd rfl hk hl hS rfl]
  have e : may P m m' a r k n H = true ↔ (cs r + (ml P m' + 11) + (rm P m').locals ≤ (rm P m).locals) := by
    have hk0 : kd P m' = 0 := by simpa [kindOk] using hk
    simp [may, h1, h2, h3, hl, hk0]
  rw [e, h3.1, h3.2]; rfl
theorem W_init {ix : Nat} {as : List Value} (hd : P.1 m pc = some (.invokespecial ix, len, (m' : Int))) (hk : kindOk (.invokespecial ix) (kd P m') = true) (hl : as.length + 1 = na P m') (hS : S = as.reverse ++ .ref b :: r)
    (h1 : (Sym.laidSlots (.ref b :: as)).length ≤ ml P m') (h2 : (rm P m').frames + 1 ≤ (rm P m).frames) (h3 : ¬ ((rm P m').cells = 0 ∧ (rm P m').slots = 0)) :
    W P m pc L S k n H Q ↔ ((isO H b = true ∧ cs r + (ml P m' + 11) + (rm P m').locals ≤ (rm P m).locals ∧ k + (rm P m').cells ≤ (rm P m).cells ∧ n + (rm P m').slots ≤ (rm P m).slots) ∧ Cl P m' (.ref b :: as) H (fun v H' => W P m (pc + len) L (v.toList ++ r) (k + (rm P m').cells) (n + (rm P m').slots) H' Q)) := by
  have hns : stp P m (.invokespecial ix) len (m' : Int) pc L S k n H = none := by
    dsimp only [stp]
    split
    · rw [if_neg]; omega
    · rfl
  rw [W_call (a := .ref b :: as) (r := r) hd rfl hk hl (by rw [hS]; simp) hns]
  have e : may P m m' (.ref b :: as) r k n H = true ↔ (isO H b = true ∧ cs r + (ml P m' + 11) + (rm P m').locals ≤ (rm P m).locals ∧ k + (rm P m').cells ≤ (rm P m).cells ∧ n + (rm P m').slots ≤ (rm P m).slots) := by
    have hk0 : kd P m' ≠ 0 := by intro h; rw [h] at hk; cases hk
    simp only [may, rcv, h1, h2, h3, ← hl, hk0, List.length_cons, decide_true, decide_false, Bool.true_and, Bool.false_or, Bool.and_eq_true, decide_eq_true_eq]
    constructor
    · rintro ⟨⟨q1, q2⟩, q3⟩; exact ⟨q3, q1, q2⟩
    · rintro ⟨q3, q1, q2⟩; exact ⟨⟨q1, q2⟩, q3⟩
  rw [e]
end Call
section Last
theorem W_rz {x : Int32} (hd : P.1 m pc = some (.ireturn, len, aux)) (hr : rt P m = some .boolean) : W P m pc L (.int x :: S) k n H Q ↔ ((x = 0 ∨ x = 1) ∧ Q (some (.int x)) H) := by
  by_cases g : x = 0 ∨ x = 1
  · rw [W_r hd (by simp only [ret, hr]; rw [if_pos g])]; simp [g]
  · rw [W_q hd (by simp only [ret, hr]; rw [if_neg g]) rfl]
    constructor
    · rintro ⟨q, e, -⟩; cases e
    · intro h; exact absurd h.1 g
theorem W_newarr' {t : ArrayType} {c : Int32} {N : Nat} (hd : P.1 m pc = some (.newarray t, len, aux)) (hN : c.toNatClampNeg = N) (h1 : ¬ c < 0) (h2 : N * 8 ≤ 536870912) :
    W P m pc L (.int c :: S) k n H Q ↔ ((k + 1 ≤ (rm P m).cells ∧ n + N ≤ (rm P m).slots) ∧ W P m (pc + len) L (.ref H.1 :: S) (k + 1) (n + N) (mkA (newarray.typeOf t) N H) Q) := by
  rw [W_newarr hd, hN]; simp [h1, h2]
theorem W_new' {ix : Nat} (hd : P.1 m pc = some (.new ix, len, aux)) (h0 : 0 ≤ aux) : W P m pc L S k n H Q ↔ ((k + 1 ≤ (rm P m).cells ∧ n + aux.toNat ≤ (rm P m).slots) ∧ W P m (pc + len) L (.ref H.1 :: S) (k + 1) (n + aux.toNat) (mkO P H) Q) := by
  rw [W_new hd]; simp [h0]
def tswW (f : Nat → Prop) (x : Int32) (d : Nat) : Int → List Nat → Prop
  | _, [] => f d
  | lo, q :: qs => if x = Int32.ofInt lo then f q else tswW f x d (lo + 1) qs
theorem tswW_eq (f : Nat → Prop) (x : Int32) (d : Nat) : ∀ (qs : List Nat) (lo : Int), -2147483648 ≤ lo → lo + qs.length ≤ 2147483648 → (tswW f x d lo qs ↔ f (if x.toInt < lo ∨ lo + qs.length ≤ x.toInt then d else qs.getD (x.toInt - lo).toNat d)) := by
  intro qs
  induction qs with
  | nil => intro lo h1 h2; simp only [tswW, List.length_nil]; rw [if_pos (by omega)]
  | cons q qs ih =>
    intro lo h1 h2
    simp only [List.length_cons] at h2 ⊢
    have hx : x = Int32.ofInt lo ↔ x.toInt = lo := by
      rw [← Int32.toInt_inj, Int32.toInt_ofInt_of_le (by omega) (by omega)]
    simp only [tswW]
    by_cases e : x.toInt = lo
    · rw [if_pos (hx.mpr e), if_neg (by omega)]
      have : (x.toInt - lo).toNat = 0 := by omega
      rw [this]; rfl
    · rw [if_neg (fun h => e (hx.mp h)), ih (lo + 1) (by omega) (by omega)]
      by_cases g : x.toInt < lo ∨ lo + ((qs.length : Int) + 1) ≤ x.toInt
      · rw [if_pos (by omega), if_pos (by omega)]
      · rw [if_neg (by omega), if_neg (by omega)]
        have : (x.toInt - lo).toNat = (x.toInt - (lo + 1)).toNat + 1 := by omega
        rw [this]; rfl
theorem W_tsw {x : Int32} {d lo hi : Int} {os : Array Int} {qs : List Nat} {dq : Nat} (hd : P.1 m pc = some (.tableswitch d lo hi os, len, aux)) (h0 : jmp pc d = some dq) (h1 : os.toList.map (jmp pc) = qs.map some) (h2 : -2147483648 ≤ lo ∧ lo + qs.length ≤ 2147483648 ∧ hi = lo + qs.length - 1) :
    W P m pc L (.int x :: S) k n H Q ↔ tswW (fun q => W P m q L S k n H Q) x dq lo qs := by
  rw [tswW_eq _ _ _ _ _ h2.1 h2.2.1]
  have hlen : os.size = qs.length := by have := congrArg List.length h1; simpa using this
  refine W_s hd rfl rfl ?_
  show (if x.toInt < lo ∨ x.toInt > hi then (jmp pc d).map fun q => (q, L, S, k, n, H) else (os[(x.toInt - lo).toNat]?).bind fun o => (jmp pc o).map fun q => (q, L, S, k, n, H)) = _
  by_cases g : x.toInt < lo ∨ x.toInt > hi
  · rw [if_pos g, if_pos (by omega), h0]; rfl
  · rw [if_neg g, if_neg (by omega)]
    have hi2 : (x.toInt - lo).toNat < qs.length := by omega
    have e1 : (os.toList.map (jmp pc))[(x.toInt - lo).toNat]? = some (some (qs.getD (x.toInt - lo).toNat dq)) := by
      rw [h1]; simp [hi2]
    rw [List.getElem?_map, Array.getElem?_toList] at e1
    obtain ⟨o, ho, hj⟩ := Option.map_eq_some_iff.mp e1
    rw [ho]; simp [hj]
theorem cmpL_lt {x y : Int64} : Jvm.Free.XT.cmpL x y < 0 ↔ x < y := by
  unfold Jvm.Free.XT.cmpL
  by_cases h1 : y < x
  · rw [if_pos h1]; exact ⟨fun h => absurd h (by decide), fun h => by rw [Int64.lt_iff_toInt_lt] at *; omega⟩
  · rw [if_neg h1]
    by_cases h2 : x = y
    · rw [if_pos h2]; exact ⟨fun h => absurd h (by decide), fun h => by subst h2; rw [Int64.lt_iff_toInt_lt] at *; omega⟩
    · rw [if_neg h2]; refine ⟨fun _ => ?_, fun _ => by decide⟩
      rw [Int64.lt_iff_toInt_lt] at *; rw [← Int64.toInt_inj] at h2; omega
theorem cmpL_gt {x y : Int64} : 0 < Jvm.Free.XT.cmpL x y ↔ y < x := by
  unfold Jvm.Free.XT.cmpL
  by_cases h1 : y < x
  · rw [if_pos h1]; exact ⟨fun _ => h1, fun _ => by decide⟩
  · rw [if_neg h1]
    by_cases h2 : x = y
    · rw [if_pos h2]; exact ⟨fun h => absurd h (by decide), fun h => absurd h h1⟩
    · rw [if_neg h2]; exact ⟨fun h => absurd h (by decide), fun h => absurd h h1⟩
theorem cmpL_eq {x y : Int64} : Jvm.Free.XT.cmpL x y = 0 ↔ x = y := by
  unfold Jvm.Free.XT.cmpL
  by_cases h1 : y < x
  · rw [if_pos h1]; exact ⟨fun h => absurd h (by decide), fun h => by subst h; rw [Int64.lt_iff_toInt_lt] at h1; omega⟩
  · rw [if_neg h1]
    by_cases h2 : x = y
    · rw [if_pos h2]; exact ⟨fun _ => h2, fun _ => rfl⟩
    · rw [if_neg h2]; exact ⟨fun h => absurd h (by decide), fun h => absurd h h2⟩
end Last
end Rules
abbrev LW : Type := (Nat → Nat → Option (Instr × Nat × Int)) × (Nat → MInfo)
abbrev Row : Type := Nat × Instr × Nat × Int
end Jvm.JX

namespace Jvm.JX
open Sem ClassFile Op Lib
abbrev St : Type := (Nat → Int32) × (Nat → Int64) × (Nat → Nat → Int32) × (Nat → Nat → Int64)
abbrev Lay : Type := List (FieldType × Nat) × List (FieldType × Nat)
def sI (s : St) (k : Nat) : Int32 := s.1 k
def sJ (s : St) (k : Nat) : Int64 := s.2.1 k
def sA (s : St) (t i : Nat) : Int32 := s.2.2.1 t i
def sB (s : St) (t i : Nat) : Int64 := s.2.2.2 t i
def uI (s : St) (k : Nat) (v : Int32) : St := (fun j => if j = k then v else s.1 j, s.2.1, s.2.2.1, s.2.2.2)
def uJ (s : St) (k : Nat) (v : Int64) : St := (s.1, fun j => if j = k then v else s.2.1 j, s.2.2.1, s.2.2.2)
def uA (s : St) (t i : Nat) (v : Int32) : St := (s.1, s.2.1, fun t' i' => if t' = t ∧ i' = i then v else s.2.2.1 t' i', s.2.2.2)
def uB (s : St) (t i : Nat) (v : Int64) : St := (s.1, s.2.1, s.2.2.1, fun t' i' => if t' = t ∧ i' = i then v else s.2.2.2 t' i')
def z0 : St := (fun _ => 0, fun _ => 0, fun _ _ => 0, fun _ _ => 0)
section St
variable {s : St} {k j t i t' i' : Nat} {v : Int32} {w : Int64}
theorem sI_uI : sI (uI s k v) j = if j = k then v else sI s j := by simp [sI, sJ, sA, sB, uI, uJ, uA, uB, z0]
theorem sI_uJ : sI (uJ s k w) j = sI s j := by simp [sI, sJ, sA, sB, uI, uJ, uA, uB, z0]
theorem sI_uA : sI (uA s t i v) j = sI s j := by simp [sI, sJ, sA, sB, uI, uJ, uA, uB, z0]
theorem sI_uB : sI (uB s t i w) j = sI s j := by simp [sI, sJ, sA, sB, uI, uJ, uA, uB, z0]
theorem sJ_uI : sJ (uI s k v) j = sJ s j := by simp [sI, sJ, sA, sB, uI, uJ, uA, uB, z0]
theorem sJ_uJ : sJ (uJ s k w) j = if j = k then w else sJ s j := by simp [sI, sJ, sA, sB, uI, uJ, uA, uB, z0]
theorem sJ_uA : sJ (uA s t i v) j = sJ s j := by simp [sI, sJ, sA, sB, uI, uJ, uA, uB, z0]
theorem sJ_uB : sJ (uB s t i w) j = sJ s j := by simp [sI, sJ, sA, sB, uI, uJ, uA, uB, z0]
theorem sA_uI : sA (uI s k v) t' i' = sA s t' i' := by simp [sI, sJ, sA, sB, uI, uJ, uA, uB, z0]
theorem sA_uJ : sA (uJ s k w) t' i' = sA s t' i' := by simp [sI, sJ, sA, sB, uI, uJ, uA, uB, z0]
theorem sA_uA : sA (uA s t i v) t' i' = if t' = t ∧ i' = i then v else sA s t' i' := by simp [sI, sJ, sA, sB, uI, uJ, uA, uB, z0]
theorem sA_uB : sA (uB s t i w) t' i' = sA s t' i' := by simp [sI, sJ, sA, sB, uI, uJ, uA, uB, z0]
theorem sB_uI : sB (uI s k v) t' i' = sB s t' i' := by simp [sI, sJ, sA, sB, uI, uJ, uA, uB, z0]
theorem sB_uJ : sB (uJ s k w) t' i' = sB s t' i' := by simp [sI, sJ, sA, sB, uI, uJ, uA, uB, z0]
theorem sB_uA : sB (uA s t i v) t' i' = sB s t' i' := by simp [sI, sJ, sA, sB, uI, uJ, uA, uB, z0]
theorem sB_uB : sB (uB s t i w) t' i' = if t' = t ∧ i' = i then w else sB s t' i' := by simp [sI, sJ, sA, sB, uI, uJ, uA, uB, z0]
theorem sI_z0 : sI z0 k = 0 := by simp [sI, sJ, sA, sB, uI, uJ, uA, uB, z0]
theorem sJ_z0 : sJ z0 k = 0 := by simp [sI, sJ, sA, sB, uI, uJ, uA, uB, z0]
theorem sA_z0 : sA z0 t i = 0 := by simp [sI, sJ, sA, sB, uI, uJ, uA, uB, z0]
theorem sB_z0 : sB z0 t i = 0 := by simp [sI, sJ, sA, sB, uI, uJ, uA, uB, z0]
theorem St_ext {s s' : St} (h1 : ∀ k, sI s k = sI s' k) (h2 : ∀ k, sJ s k = sJ s' k) (h3 : ∀ t i, sA s t i = sA s' t i) (h4 : ∀ t i, sB s t i = sB s' t i) : s = s' :=
  Prod.ext (funext h1) (Prod.ext (funext h2) (Prod.ext (funext fun t => funext (h3 t)) (funext fun t => funext (h4 t))))
end St
def zr (s : St) (t : Nat) : Prop := (∀ i, sA s t i = 0) ∧ ∀ i, sB s t i = 0
theorem zr_z0 {t : Nat} : zr z0 t = True := by simp [zr, sA_z0, sB_z0]
theorem zr_uI {s : St} {t k : Nat} {v : Int32} : zr (uI s k v) t = zr s t := by simp [zr, sA_uI, sB_uI]
theorem zr_uJ {s : St} {t k : Nat} {v : Int64} : zr (uJ s k v) t = zr s t := by simp [zr, sA_uJ, sB_uJ]
def fvl (y : Lay) (j p : Nat) (s : St) (k : Nat) : Value := match y.1[k]? with
  | some (.long, _) => .long (sJ s k)
  | some (.array _, t) => if t ≤ j then .ref (p + t) else .null
  | _ => .int (sI s k)
def blk (y : Lay) (j p : Nat) (s : St) : Nat → Cel
  | 0 => (.object "", y.1.length, true, fvl y j p s)
  | t + 1 => match y.2[t]? with
    | some (.long, n) => (.array .long, n, true, fun i => .long (sB s (t + 1) i))
    | some (ty, n) => (.array ty, n, true, fun i => .int (sA s (t + 1) i))
    | none => (.char, 0, false, fun _ => .null)
def put (y : Lay) (j : Nat) (H : AH) (p : Nat) (s : St) : AH := (H.1, fun a => if p ≤ a ∧ a ≤ p + j then blk y j p s (a - p) else H.2 a)
section Put
variable {y : Lay} {j : Nat} {H : AH} {p : Nat} {s : St} {k t n : Nat} {ty : FieldType} {i : Int32}
theorem put_0 : (put y j H p s).2 p = (.object "", y.1.length, true, fvl y j p s) := by simp [put, blk]
theorem put_t (ht : t ≤ j) : (put y j H p s).2 (p + t) = blk y j p s t := by simp [put, ht]
theorem put_ot {a : Nat} (h : a < p ∨ p + j < a) : (put y j H p s).2 a = H.2 a := by
  have : ¬ (p ≤ a ∧ a ≤ p + j) := by omega
  simp [put, this]
theorem isO_put : isO (put y j H p s) p = true := by simp [isO, put_0]
theorem isOw_put : isOw (put y j H p s) p = true := by simp [isOw, isO_put, put_0]
theorem fld_I (h : y.1[k]? = some (ty, t)) (hl : ty ≠ .long) (ha : ∀ e, ty ≠ .array e) : fld (put y j H p s) p k = .int (sI s k) := by
  simp only [fld, put_0, fvl, h]; cases ty <;> first | rfl | exact absurd rfl hl | exact absurd rfl (ha _)
theorem fld_J (h : y.1[k]? = some (.long, t)) : fld (put y j H p s) p k = .long (sJ s k) := by simp only [fld, put_0, fvl, h]
theorem fld_R (h : y.1[k]? = some (.array ty, t)) (ht : t ≤ j) : fld (put y j H p s) p k = .ref (p + t) := by simp only [fld, put_0, fvl, h, ht, if_true]
theorem blk_I (h : y.2[t]? = some (ty, n)) (hl : ty ≠ .long) : blk y j p s (t + 1) = (.array ty, n, true, fun i => .int (sA s (t + 1) i)) := by
  simp only [blk, h]
theorem blk_J (h : y.2[t]? = some (.long, n)) : blk y j p s (t + 1) = (.array .long, n, true, fun i => .long (sB s (t + 1) i)) := by simp only [blk, h]
theorem clamp_lt {i : Int32} {n : Nat} : (¬ i < 0 ∧ i.toNatClampNeg < n) ↔ (0 ≤ i.toInt ∧ i.toInt < n) := by
  simp only [Int32.lt_iff_toInt_lt, Int32.toNatClampNeg, Int32.reduceToInt]; omega
theorem inA_I (h : y.2[t]? = some (ty, n)) (hl : ty ≠ .long) (ht : t + 1 ≤ j) : inA (put y j H p s) (p + (t + 1)) ty i = true ↔ (0 ≤ i.toInt ∧ i.toInt < n) := by
  rw [← clamp_lt]; simp [inA, put_t ht, blk_I h hl]
theorem inA_J (h : y.2[t]? = some (.long, n)) (ht : t + 1 ≤ j) : inA (put y j H p s) (p + (t + 1)) .long i = true ↔ (0 ≤ i.toInt ∧ i.toInt < n) := by
  rw [← clamp_lt]; simp [inA, put_t ht, blk_J h]
theorem inA_no {ty' : FieldType} (h : y.2[t]? = some (ty, n)) (hl : ty ≠ .long) (ht : t + 1 ≤ j) (hne : ty ≠ ty') : inA (put y j H p s) (p + (t + 1)) ty' i = true ↔ False := by
  simp [inA, put_t ht, blk_I h hl, hne]
theorem inAw_I (h : y.2[t]? = some (ty, n)) (hl : ty ≠ .long) (ht : t + 1 ≤ j) : inAw (put y j H p s) (p + (t + 1)) ty i = true ↔ (0 ≤ i.toInt ∧ i.toInt < n) := by
  rw [← inA_I (H := H) (p := p) (s := s) h hl ht]; simp [inAw, put_t ht, blk_I h hl]
theorem inAw_J (h : y.2[t]? = some (.long, n)) (ht : t + 1 ≤ j) : inAw (put y j H p s) (p + (t + 1)) .long i = true ↔ (0 ≤ i.toInt ∧ i.toInt < n) := by
  rw [← inA_J (H := H) (p := p) (s := s) h ht]; simp [inAw, put_t ht, blk_J h]
theorem inAw_no {ty' : FieldType} (h : y.2[t]? = some (ty, n)) (hl : ty ≠ .long) (ht : t + 1 ≤ j) (hne : ty ≠ ty') : inAw (put y j H p s) (p + (t + 1)) ty' i = true ↔ False := by
  simp [inAw, inA, put_t ht, blk_I h hl, hne]
theorem elt_I (h : y.2[t]? = some (ty, n)) (hl : ty ≠ .long) (ht : t + 1 ≤ j) : elt (put y j H p s) (p + (t + 1)) i = .int (sA s (t + 1) i.toNatClampNeg) := by
  simp only [elt, put_t ht, blk_I h hl]
theorem elt_J (h : y.2[t]? = some (.long, n)) (ht : t + 1 ≤ j) : elt (put y j H p s) (p + (t + 1)) i = .long (sB s (t + 1) i.toNatClampNeg) := by
  simp only [elt, put_t ht, blk_J h]
theorem alen_t (h : y.2[t]? = some (ty, n)) (ht : t + 1 ≤ j) : alen (put y j H p s) (p + (t + 1)) = n := by
  by_cases hl : ty = .long
  · subst hl; simp only [alen, put_t ht, blk_J h]
  · simp only [alen, put_t ht, blk_I h hl]
theorem put_wr {s' : St} {t q : Nat} {v : Value} (ht : t ≤ j) (hb : ∀ t', blk y j p s' t' = if t' = t then ((blk y j p s t).1, (blk y j p s t).2.1, (blk y j p s t).2.2.1, fun i => if i = q then v else (blk y j p s t).2.2.2 i) else blk y j p s t') :
    wr (put y j H p s) (p + t) q v = put y j H p s' := by
  refine Prod.ext rfl (funext fun a => ?_)
  simp only [wr, put_t ht]
  by_cases e : a = p + t
  · subst e; simp [put, ht, hb]
  · simp only [e, if_false, put]
    by_cases g : p ≤ a ∧ a ≤ p + j
    · have : a - p ≠ t := by omega
      simp [g, hb, this]
    · simp [g]
theorem fvl_uI {v : Int32} (h : y.1[k]? = some (ty, t)) (hl : ty ≠ .long) (ha : ∀ e, ty ≠ .array e) (i : Nat) : fvl y j p (uI s k v) i = if i = k then .int v else fvl y j p s i := by
  by_cases e : i = k
  · subst e; simp only [fvl, h, if_true]; cases ty <;> first | (simp [sI_uI]; done) | exact absurd rfl hl | exact absurd rfl (ha _)
  · simp only [fvl, e, if_false, sI_uI, sJ_uI]
theorem fvl_uJ {v : Int64} (h : y.1[k]? = some (.long, t)) (i : Nat) : fvl y j p (uJ s k v) i = if i = k then .long v else fvl y j p s i := by
  by_cases e : i = k
  · subst e; simp only [fvl, h, if_true, sJ_uJ]
  · simp only [fvl, e, if_false, sI_uJ, sJ_uJ]
theorem wr_I {v : Int32} (h : y.1[k]? = some (ty, t)) (hl : ty ≠ .long) (ha : ∀ e, ty ≠ .array e) : wr (put y j H p s) p k (.int v) = put y j H p (uI s k v) := by
  refine put_wr (t := 0) (Nat.zero_le _) fun t' => ?_
  cases t' with
  | zero => simp only [blk, if_true]; exact congrArg (fun f => (_, _, _, f)) (funext fun i => fvl_uI h hl ha i)
  | succ t' => simp [blk, sA_uI, sB_uI]
theorem wr_J {v : Int64} (h : y.1[k]? = some (.long, t)) : wr (put y j H p s) p k (.long v) = put y j H p (uJ s k v) := by
  refine put_wr (t := 0) (Nat.zero_le _) fun t' => ?_
  cases t' with
  | zero => simp only [blk, if_true]; exact congrArg (fun f => (_, _, _, f)) (funext fun i => fvl_uJ h i)
  | succ t' => simp [blk, sA_uJ, sB_uJ]
theorem wr_A {v : Int32} {q : Nat} (h : y.2[t]? = some (ty, n)) (hl : ty ≠ .long) (ht : t + 1 ≤ j) : wr (put y j H p s) (p + (t + 1)) q (.int v) = put y j H p (uA s (t + 1) q v) := by
  refine put_wr ht fun t' => ?_
  by_cases e : t' = t + 1
  · subst e
    simp only [blk_I h hl, if_true, sA_uA, true_and]
    exact congrArg (fun f => (_, _, _, f)) (funext fun i => by split <;> rfl)
  · simp only [e, if_false]
    cases t' with
    | zero => rfl
    | succ t' => have : ¬ t' = t := fun q => e (by rw [q]); simp [blk, sA_uA, sB_uA, this]
theorem wr_B {v : Int64} {q : Nat} (h : y.2[t]? = some (.long, n)) (ht : t + 1 ≤ j) : wr (put y j H p s) (p + (t + 1)) q (.long v) = put y j H p (uB s (t + 1) q v) := by
  refine put_wr ht fun t' => ?_
  by_cases e : t' = t + 1
  · subst e
    simp only [blk_J h, if_true, sB_uB, true_and]
    exact congrArg (fun f => (_, _, _, f)) (funext fun i => by split <;> rfl)
  · simp only [e, if_false]
    cases t' with
    | zero => rfl
    | succ t' => have : ¬ t' = t := fun q => e (by rw [q]); simp [blk, sA_uB, sB_uB, this]
theorem mkO_put {P : Prog} (hn : P.2.2.2 = y.1.length) (hf : ∀ k, defaultValue (P.2.2.1 k) = fvl y 0 H.1 z0 k) : mkO P H = put y 0 (H.1 + 1, H.2) H.1 z0 := by
  refine Prod.ext rfl (funext fun a => ?_)
  by_cases e : a = H.1
  · subst e; simp only [mkO, if_true, put_0, hn]; exact congrArg (fun f => (_, _, _, f)) (funext fun k => hf k)
  · have : ¬ (H.1 ≤ a ∧ a ≤ H.1 + 0) := by omega
    simp only [mkO, put, e, if_false, if_neg this]
theorem mkA_put {h : Nat → Cel} (h1 : y.1[k]? = some (.array ty, j + 1)) (h2 : y.2[j]? = some (ty, n)) (hu : (List.range y.1.length).all (fun k' => decide (k' = k) || ((y.1.getD k' (.int, 0)).2 != j + 1)) = true) (hz : ∀ i, sA s (j + 1) i = 0) (hz' : ∀ i, sB s (j + 1) i = 0) (hty : ty = .int ∨ ty = .long ∨ ty = .byte ∨ ty = .boolean) :
    wr (mkA ty n (put y j (p + (j + 1), h) p s)) p k (.ref (p + (j + 1))) = put y (j + 1) (p + (j + 1) + 1, h) p s := by
  refine Prod.ext rfl (funext fun a => ?_)
  have hp : ¬ p = p + (j + 1) := by omega
  have hN : (put y j (p + (j + 1), h) p s).1 = p + (j + 1) := rfl
  by_cases e : a = p
  · subst e
    simp only [wr, mkA, hN, if_true, hp, if_false, put_0]
    refine congrArg (fun f => (_, _, _, f)) (funext fun i => ?_)
    by_cases e2 : i = k
    · subst e2; simp [fvl, h1]
    · simp only [e2, if_false, fvl]
      cases hq : y.1[i]? with
      | none => rfl
      | some x =>
        obtain ⟨x1, x2⟩ := x
        cases x1 <;> try rfl
        rename_i el
        have : x2 ≠ j + 1 := fun q => by
          have hlt : i < y.1.length := (List.getElem?_eq_some_iff.mp hq).1
          have u := List.all_eq_true.mp hu i (List.mem_range.mpr hlt)
          simp [e2, hq, q] at u
        have : (x2 ≤ j + 1) = (x2 ≤ j) := propext ⟨fun _ => by omega, fun _ => by omega⟩
        simp [this]
  · simp only [wr, mkA, hN, e, if_false]
    by_cases e2 : a = p + (j + 1)
    · subst e2
      simp only [if_true, put_t (Nat.le_refl (j + 1))]
      rcases hty with rfl | rfl | rfl | rfl
      · simp only [blk, h2, hz]; rfl
      · simp only [blk, h2, hz']; rfl
      · simp only [blk, h2, hz]; rfl
      · simp only [blk, h2, hz]; rfl
    · simp only [e2, if_false, put]
      by_cases g : p ≤ a ∧ a ≤ p + j
      · have g2 : p ≤ a ∧ a ≤ p + (j + 1) := by omega
        simp only [g, g2, and_self, if_true]
        obtain ⟨t, ht⟩ : ∃ t, a - p = t + 1 := ⟨a - p - 1, by omega⟩
        rw [ht]; rfl
      · have g2 : ¬ (p ≤ a ∧ a ≤ p + (j + 1)) := by omega
        simp only [g, g2, if_false]
theorem isOw_mk {h : Nat → Cel} {c : Nat} : isOw (mkA ty n (put y j (p + (c + 1), h) p s)) p = true := by
  have : ¬ p = p + (c + 1) := by omega
  have hN : (put y j (p + (c + 1), h) p s).1 = p + (c + 1) := rfl
  simp [isOw, isO, mkA, hN, this, put_0]
theorem put_fst : (put y j H p s).1 = H.1 := by simp [put]
theorem cl_unf {P : Prog} {m : Nat} {a : List Value} {L : List Slot} {Q : Option Value → AH → Prop} (h : ent P m a = L) : Cl P m a H Q ↔ W P m 0 L [] 0 0 H Q := by unfold Cl; rw [h]
theorem put_comm {y' : Lay} {j' p' : Nat} {s' : St} (h : p + j < p' ∨ p' + j' < p) : put y j (put y' j' H p' s') p s = put y' j' (put y j H p s) p' s' := by
  refine Prod.ext rfl (funext fun a => ?_)
  simp only [put]
  by_cases g : p ≤ a ∧ a ≤ p + j
  · have g2 : ¬ (p' ≤ a ∧ a ≤ p' + j') := by omega
    simp [g, g2]
  · simp only [g, if_false]
theorem isO_ot {a : Nat} (h : a < p ∨ p + j < a) : isO (put y j H p s) a = isO H a := by simp only [isO, put_ot h]
theorem inA_ot {a : Nat} (h : a < p ∨ p + j < a) : inA (put y j H p s) a ty i = inA H a ty i := by simp only [inA, put_ot h]
theorem isA_ot {a : Nat} (h : a < p ∨ p + j < a) : isA (put y j H p s) a = isA H a := by simp only [isA, put_ot h]
theorem elt_ot {a : Nat} (h : a < p ∨ p + j < a) : elt (put y j H p s) a i = elt H a i := by simp only [elt, put_ot h]
theorem alen_ot {a : Nat} (h : a < p ∨ p + j < a) : alen (put y j H p s) a = alen H a := by simp only [alen, put_ot h]
end Put
def noc : Cel := (.char, 0, false, fun _ => .null)
def H0 (n : Nat) : AH := (n, fun _ => noc)
def H1 (n a len : Nat) (f : Nat → Int32) : AH := (n, fun b => if b = a then (.array .int, len, false, fun i => .int (f i)) else noc)
theorem isA_H1 {n a len : Nat} {f : Nat → Int32} : isA (H1 n a len f) a = true := by simp [isA, H1]
theorem alen_H1 {n a len : Nat} {f : Nat → Int32} : alen (H1 n a len f) a = len := by simp [alen, H1]
theorem inA_H1 {n a len : Nat} {f : Nat → Int32} {i : Int32} : inA (H1 n a len f) a .int i = true ↔ (0 ≤ i.toInt ∧ i.toInt < len) := by rw [← clamp_lt]; simp [inA, H1]
theorem elt_H1 {n a len : Nat} {f : Nat → Int32} {i : Int32} : elt (H1 n a len f) a i = .int (f i.toNatClampNeg) := by simp [elt, H1]
def cl (lo hi v : Int32) : Int32 := if v < lo then lo else if hi < v then hi else v
theorem cl3 {lo hi : Int32} (v : Int32) (h : ¬ hi < lo) : (v < lo ∧ ¬ hi < v) ∨ (¬ v < lo ∧ hi < v) ∨ (¬ v < lo ∧ ¬ hi < v) := by
  by_cases h1 : v < lo
  · exact Or.inl ⟨h1, fun h2 => h (by rw [Int32.lt_iff_toInt_lt] at *; omega)⟩
  · by_cases h2 : hi < v
    · exact Or.inr (Or.inl ⟨h1, h2⟩)
    · exact Or.inr (Or.inr ⟨h1, h2⟩)
section Okv
variable {x : Int32} {l : Int64} {a : Nat} {t : FieldType}
theorem okv_int : (okv .int (.int x) = true) = True := by simp [okv]
theorem okv_long : (okv .long (.long l) = true) = True := by simp [okv]
theorem okv_ref : (okv (.array t) (.ref a) = true) = True := by simp [okv]
theorem okv_bool : (okv .boolean (.int x) = true) = (x = 0 ∨ x = 1) := by simp [okv]
theorem okv_byte : (okv .byte (.int x) = true) = (x.toInt8.toInt32 = x) := by simp [okv]
end Okv
end Jvm.JX

namespace Jvm.JX
open Sem ClassFile Op Lib
section Num
theorem ia {x y : Int32} (h1 : -2147483648 ≤ x.toInt + y.toInt) (h2 : x.toInt + y.toInt ≤ 2147483647) : (x + y).toInt = x.toInt + y.toInt := by
  rw [Int32.toInt_add]; exact Int.bmod_eq_of_le (by omega) (by omega)
theorem isb {x y : Int32} (h1 : -2147483648 ≤ x.toInt - y.toInt) (h2 : x.toInt - y.toInt ≤ 2147483647) : (x - y).toInt = x.toInt - y.toInt := by
  rw [Int32.toInt_sub]; exact Int.bmod_eq_of_le (by omega) (by omega)
theorem im {x y : Int32} (h1 : -2147483648 ≤ x.toInt * y.toInt) (h2 : x.toInt * y.toInt ≤ 2147483647) : (x * y).toInt = x.toInt * y.toInt := by
  rw [Int32.toInt_mul]; exact Int.bmod_eq_of_le (by omega) (by omega)
theorem ja {x y : Int64} (h1 : -9223372036854775808 ≤ x.toInt + y.toInt) (h2 : x.toInt + y.toInt ≤ 9223372036854775807) : (x + y).toInt = x.toInt + y.toInt := by
  rw [Int64.toInt_add]; exact Int.bmod_eq_of_le (by omega) (by omega)
theorem jsb {x y : Int64} (h1 : -9223372036854775808 ≤ x.toInt - y.toInt) (h2 : x.toInt - y.toInt ≤ 9223372036854775807) : (x - y).toInt = x.toInt - y.toInt := by
  rw [Int64.toInt_sub]; exact Int.bmod_eq_of_le (by omega) (by omega)
theorem jm {x y : Int64} (h1 : -9223372036854775808 ≤ x.toInt * y.toInt) (h2 : x.toInt * y.toInt ≤ 9223372036854775807) : (x * y).toInt = x.toInt * y.toInt := by
  rw [Int64.toInt_mul]; exact Int.bmod_eq_of_le (by omega) (by omega)
theorem lt32 {x y : Int32} : x < y ↔ x.toInt < y.toInt := Int32.lt_iff_toInt_lt
theorem le32 {x y : Int32} : x ≤ y ↔ x.toInt ≤ y.toInt := Int32.le_iff_toInt_le
theorem eq32 {x y : Int32} : x = y ↔ x.toInt = y.toInt := Int32.toInt_inj.symm
theorem lt64 {x y : Int64} : x < y ↔ x.toInt < y.toInt := Int64.lt_iff_toInt_lt
theorem eq64 {x y : Int64} : x = y ↔ x.toInt = y.toInt := Int64.toInt_inj.symm
theorem rg32 (x : Int32) : -2147483648 ≤ x.toInt ∧ x.toInt ≤ 2147483647 := ⟨Int32.le_toInt x, by have := Int32.toInt_lt x; omega⟩
theorem rg64 (x : Int64) : -9223372036854775808 ≤ x.toInt ∧ x.toInt ≤ 9223372036854775807 := ⟨Int64.le_toInt x, by have := Int64.toInt_lt x; omega⟩
theorem cln {i : Int32} : i.toNatClampNeg = i.toInt.toNat := rfl
theorem idx2 {u v : Int32} {a b : Int} (c : Int32) (hc : 0 ≤ c.toInt ∧ c.toInt ≤ 1000) (hu : 0 ≤ u.toInt ∧ u.toInt < a) (hv : 0 ≤ v.toInt ∧ v.toInt < b) (ha : a ≤ 1000) (hb : b ≤ 1000) : (u * c + v).toInt = u.toInt * c.toInt + v.toInt := by
  have h1 : u.toInt * c.toInt ≤ 1000 * 1000 := Int.mul_le_mul (by omega) (by omega) (by omega) (by omega)
  have h0 : 0 ≤ u.toInt * c.toInt := Int.mul_nonneg (by omega) (by omega)
  have e : (u * c).toInt = u.toInt * c.toInt := im (by omega) (by omega)
  rw [ia (by rw [e]; omega) (by rw [e]; omega), e]
theorem cl_rg {lo hi : Int32} (v : Int32) (h : lo.toInt ≤ hi.toInt) : lo.toInt ≤ (cl lo hi v).toInt ∧ (cl lo hi v).toInt ≤ hi.toInt := by
  unfold cl
  by_cases h1 : v < lo
  · rw [if_pos h1]; omega
  · rw [if_neg h1]
    by_cases h2 : hi < v
    · rw [if_pos h2]; omega
    · rw [if_neg h2]; rw [lt32] at h1 h2; omega
end Num
section Fill
def fA (s : St) (t lo hi : Nat) (v : Int32) : St := (s.1, s.2.1, fun t' i => if t' = t ∧ lo ≤ i ∧ i < hi then v else s.2.2.1 t' i, s.2.2.2)
variable {s : St} {t lo hi k i t' : Nat} {v : Int32}
theorem sI_fA : sI (fA s t lo hi v) k = sI s k := by simp [sI, fA]
theorem sJ_fA : sJ (fA s t lo hi v) k = sJ s k := by simp [sJ, fA]
theorem sA_fA : sA (fA s t lo hi v) t' i = if t' = t ∧ lo ≤ i ∧ i < hi then v else sA s t' i := by simp [sA, fA]
theorem sB_fA : sB (fA s t lo hi v) t' i = sB s t' i := by simp [sB, fA]
theorem fA_nil (h : hi ≤ lo) : fA s t lo hi v = s := by
  refine St_ext (fun k => sI_fA) (fun k => sJ_fA) (fun t' i => ?_) (fun t' i => sB_fA)
  rw [sA_fA, if_neg (by omega)]
theorem fA_step (h : lo < hi) : fA (uA s t lo v) t (lo + 1) hi v = fA s t lo hi v := by
  refine St_ext (fun k => by simp only [sI_fA, sI_uA]) (fun k => by simp only [sJ_fA, sJ_uA]) (fun t' i => ?_) (fun t' i => by simp only [sB_fA, sB_uA])
  simp only [sA_fA, sA_uA]
  by_cases h1 : t' = t ∧ lo + 1 ≤ i ∧ i < hi
  · rw [if_pos h1, if_pos (by omega)]
  · rw [if_neg h1]
    by_cases h2 : t' = t ∧ i = lo
    · rw [if_pos h2, if_pos (by omega)]
    · rw [if_neg h2, if_neg (by omega)]
end Fill
section Cnt
def cnt (f : Nat → Bool) : Nat → Nat → Nat
  | _, 0 => 0
  | j, k + 1 => (if f j = true then 1 else 0) + cnt f (j + 1) k
theorem cnt_none {f : Nat → Bool} : ∀ (k j : Nat), (∀ i, j ≤ i → i < j + k → f i = false) → cnt f j k = 0
  | 0, _, _ => rfl
  | k + 1, j, h => by
    have h1 := h j (Nat.le_refl _) (by omega)
    simp only [cnt, h1]
    rw [cnt_none k (j + 1) fun i a b => h i (by omega) (by omega)]; rfl
theorem cnt_one {f : Nat → Bool} {x : Nat} : ∀ (k j : Nat), j ≤ x → x < j + k → f x = true → (∀ i, j ≤ i → i < j + k → i ≠ x → f i = false) → cnt f j k = 1
  | 0, j, h1, h2, _, _ => by omega
  | k + 1, j, h1, h2, hx, h => by
    simp only [cnt]
    by_cases e : j = x
    · subst e
      rw [hx, cnt_none k (j + 1) fun i a b => h i (by omega) (by omega) (by omega)]; rfl
    · rw [h j (Nat.le_refl _) (by omega) e, cnt_one k (j + 1) (by omega) (by omega) hx fun i a b c => h i (by omega) (by omega) c]; rfl
theorem cnt_le {f : Nat → Bool} : ∀ (k j : Nat), cnt f j k ≤ k
  | 0, _ => Nat.le_refl _
  | k + 1, j => by have := cnt_le (f := f) k (j + 1); simp only [cnt]; split <;> omega
theorem cnt_congr {f g : Nat → Bool} : ∀ (k j : Nat), (∀ i, j ≤ i → i < j + k → f i = g i) → cnt f j k = cnt g j k
  | 0, _, _ => rfl
  | k + 1, j, h => by simp only [cnt]; rw [h j (Nat.le_refl _) (by omega), cnt_congr k (j + 1) fun i a b => h i (by omega) (by omega)]
theorem ofNat_one_add (c : Int32) (x : Nat) : c + 1 + Int32.ofNat x = c + Int32.ofNat (1 + x) := by
  rw [Int32.ofNat_add, Int32.add_assoc]; rfl
theorem add_ofNat_zero (c : Int32) : c + Int32.ofNat 0 = c := Int32.add_zero c
end Cnt
section Ite
variable {P : Prog} {m pc : Nat} {L : List Slot} {S : List Value} {k n : Nat} {H : AH} {Q : Option Value → AH → Prop} {c : Prop} [Decidable c]
theorem W_ite {x y : Int32} : (if c then W P m pc L (.int x :: S) k n H Q else W P m pc L (.int y :: S) k n H Q) ↔ W P m pc L (.int (if c then x else y) :: S) k n H Q := by
  by_cases h : c <;> simp [h]
theorem W_iteJ {x y : Int64} : (if c then W P m pc L (.long x :: S) k n H Q else W P m pc L (.long y :: S) k n H Q) ↔ W P m pc L (.long (if c then x else y) :: S) k n H Q := by
  by_cases h : c <;> simp [h]
end Ite
end Jvm.JX

namespace Jvm.JX
open Sem ClassFile Op Lib Jvm.Stand Jvm.Free Jvm.LawKit Jvm.RoadKit
def CRel (C : String) (fn : Nat → String × String) (F : List Nat) (Z : State) (n0 : Nat) (h : Heap) (a : Nat) (c : Cel) : Prop :=
  (c.2.2.1 = true → n0 ≤ a) ∧
  match c.1 with
  | .object _ => Exa Z h a C ∧ ∀ k ∈ F, Fld Z h a C (fn k).1 (fn k).2 (c.2.2.2 k)
  | .array t => c.2.1 < 2 ^ 31 ∧ ∃ cl : Cell, Arr Z h a cl t ∧ cl.slots.size = c.2.1 ∧ ∀ i, i < c.2.1 → cl.slots[i]? = some (c.2.2.2 i)
  | _ => True
def RelH (C : String) (fn : Nat → String × String) (F : List Nat) (Z : State) (n0 : Nat) (h : Heap) (H : AH) : Prop := h.size = H.1 ∧ n0 ≤ H.1 ∧ ∀ a, CRel C fn F Z n0 h a (H.2 a)
def ilen2 : Instr → Nat → Nat
  | .tableswitch _ _ _ _, l => l
  | i, _ => ilen i
def RowOk (P : Prog) (tb : List Jvm.Cond) (C : String) (fn : Nat → String × String) (F : List Nat) (nsl : Nat) (nm : Nat → MethodName) (R : List Nat) (m : Nat) (ins : Instr) (aux : Int) : Prop :=
  match ins with
  | .getfield i => aux.toNat ∈ F ∧ Jvm.Cond.fieldLink (nm m).cls i C (fn aux.toNat).1 (fn aux.toNat).2 ∈ tb
  | .putfield i => aux.toNat ∈ F ∧ Jvm.Cond.fieldLink (nm m).cls i C (fn aux.toNat).1 (fn aux.toNat).2 ∈ tb ∧ (Jvm.Cond.lays C C (fn aux.toNat).1 (fn aux.toNat).2 ∈ tb ∨ (nm m).cls = C ∧ (nm m).name = "<init>")
  | .new i => aux.toNat = nsl ∧ Jvm.Cond.classLink (nm m).cls i C ∈ tb
  | .newarray t => Jvm.Cond.arrayClass (newarray.typeOf t) ∈ tb
  | .ldc i => Jvm.Cond.constant (nm m).cls i (Int32.ofInt aux) ∈ tb
  | .ldc2_w i => Jvm.Cond.constantLong (nm m).cls i (Int64.ofInt aux) ∈ tb
  | .invokevirtual i => aux.toNat ∈ R ∧ Jvm.Cond.methodLink (nm m).cls i (nm aux.toNat) ∈ tb
  | .invokestatic i => aux.toNat ∈ R ∧ Jvm.Cond.methodLink (nm m).cls i (nm aux.toNat) ∈ tb
  | .invokespecial i => (aux = -1 → Jvm.Cond.methodLink (nm m).cls i Lib.objectInit ∈ tb ∧ Jvm.Cond.instanceMethod Lib.objectInit ∈ tb ∧ Jvm.Cond.code Lib.objectInit ⟨#[0xb1]⟩ 1 none ∈ tb) ∧ (0 ≤ aux → aux.toNat ∈ R ∧ Jvm.Cond.methodLink (nm m).cls i (nm aux.toNat) ∈ tb)
  | _ => True
def CalOk (P : Prog) (tb : List Jvm.Cond) (C : String) (nm : Nat → MethodName) (bt : Nat → ByteArray) (m : Nat) : Prop :=
  Jvm.Cond.code (nm m) (bt m) (ml P m) (rt P m) ∈ tb ∧ Jvm.Cond.initialized (nm m).cls ∈ tb ∧ (∃ ps r, parseMethodDescriptor (nm m).desc = some ⟨ps, r⟩ ∧ ps.length + (if kd P m = 0 then 0 else 1) = na P m) ∧
  (kd P m = 0 → Jvm.Cond.static (nm m) ∈ tb) ∧
  (kd P m ≠ 0 → (nm m).cls = C ∧ Jvm.Cond.instanceMethod (nm m) ∈ tb) ∧
  (kd P m = 1 → Jvm.Cond.declares (nm m) ∈ tb ∧ Jvm.Cond.selects C (nm m) (nm m) ∈ tb) ∧
  (kd P m = 2 → Jvm.Cond.privateMethod (nm m) ∈ tb) ∧
  (kd P m = 3 → (nm m).name = "<init>" ∧ rt P m = none)
def Good (P : Prog) (tb : List Jvm.Cond) (C : String) (fn : Nat → String × String) (F : List Nat) (nsl : Nat) (nm : Nat → MethodName) (bt : Nat → ByteArray) (R : List Nat) (top : Nat) : Prop :=
  Jvm.Cond.instantiable C nsl ∈ tb ∧ Jvm.Cond.initialized C ∈ tb ∧
  (∀ k ∈ F, parseFieldDescriptor (fn k).2 = some (P.2.2.1 k) ∧ (Jvm.Cond.lays C C (fn k).1 (fn k).2 ∈ tb ∨ Jvm.Cond.laysFinal C C (fn k).1 (fn k).2 ∈ tb)) ∧
  (∀ j ∈ F, ∀ k ∈ F, (fn j).1 = (fn k).1 → j = k) ∧
  (∀ m ∈ R, plainName (nm m).cls = true ∧ ((nm m).cls ≠ "java/lang/invoke/MethodHandle" ∧ (nm m).cls ≠ "java/lang/invoke/VarHandle") ∧
    ∀ pc ins len aux, P.1 m pc = some (ins, len, aux) → decode (bt m) pc = .ok (ins, len) ∧ len = ilen2 ins len ∧ RowOk P tb C fn F nsl nm R m ins aux) ∧
  (∀ m ∈ R, m ≠ top → CalOk P tb C nm bt m) ∧
  (∀ m ∈ R, ∀ pc ins len aux, P.1 m pc = some (ins, len, aux) → aux = (top : Int) → kindOk ins (kd P top) = false)
section Rel
variable {C : String} {fn : Nat → String × String} {F : List Nat} {Z : State} {n0 : Nat} {h h' : Heap} {H : AH}
theorem RelH.obj (r : RelH C fn F Z n0 h H) {a : Nat} (ha : isO H a = true) : Exa Z h a C ∧ ∀ k ∈ F, Fld Z h a C (fn k).1 (fn k).2 (fld H a k) := by
  have q := (r.2.2 a).2
  unfold isO at ha
  cases hk : (H.2 a).1 <;> rw [hk] at ha <;> first | (cases ha; done) | (simp only [hk] at q; exact q)
theorem RelH.own (r : RelH C fn F Z n0 h H) {a : Nat} (ha : (H.2 a).2.2.1 = true) : n0 ≤ a := (r.2.2 a).1 ha
theorem RelH.arr (r : RelH C fn F Z n0 h H) {a : Nat} {t : FieldType} (ha : (H.2 a).1 = .array t) : (H.2 a).2.1 < 2 ^ 31 ∧ ∃ cl : Cell, Arr Z h a cl t ∧ cl.slots.size = (H.2 a).2.1 ∧ ∀ i, i < (H.2 a).2.1 → cl.slots[i]? = some ((H.2 a).2.2.2 i) := by
  have q := (r.2.2 a).2
  simp only [ha] at q; exact q
theorem RelH.ext (r : RelH C fn F Z n0 h H) (E : Ext h h') {c : Cel} (hs : h'.size = h.size + 1) (hc : CRel C fn F Z n0 h' h.size c) : RelH C fn F Z n0 h' (H.1 + 1, fun b => if b = H.1 then c else H.2 b) := by
  refine ⟨by rw [hs, r.1], Nat.le_succ_of_le r.2.1, fun a => ?_⟩
  by_cases e : a = H.1
  · subst e; simp only [if_true]; rw [← r.1]; exact hc
  · simp only [e, if_false]
    obtain ⟨q1, q2⟩ := r.2.2 a
    refine ⟨q1, ?_⟩
    cases hk : (H.2 a).1 <;> simp only [hk] at q2 ⊢
    · exact ⟨q2.1.ext E, fun k hk => (q2.2 k hk).ext E⟩
    · obtain ⟨q3, cl, q4, q5⟩ := q2; exact ⟨q3, cl, q4.ext E, q5⟩
end Rel
def Go (C : String) (fn : Nat → String × String) (F : List Nat) (Z : State) (n0 : Nat) (p : Program) (l : Launch) (e : Env) (R : Jvm.Room) (s : State) (mid : MethodId) (args : Array Value) (below : List Frame) (meth : Method) (c : Code) (start : State) (nl : Nat) (q : Fm) : Prop :=
  ∃ T' locs', Stand p l e R s mid args below meth c T' locs' q.2.2.2.1 q.2.2.2.2.1 ∧ RelH C fn F Z n0 T'.heap q.2.2.2.2.2 ∧ Fr n0 locs' ∧ q.2.2.2.1 ≤ R.cells ∧ q.2.2.2.2.1 ≤ R.slots ∧ q.2.1.length = nl ∧
    ∀ target, Steps p.tables e below (T'.setTop (mkF mid q.1 q.2.1.toArray q.2.2.1)) target → Steps p.tables e below start target
theorem lrem_mod (x y : Int64) : x - (x / y) * y = x % y := by
  apply Int64.toInt_inj.mp
  have h1 := Int64.le_toInt (x % y)
  have h2 := Int64.toInt_lt (x % y)
  rw [Int64.toInt_sub, Int64.toInt_mul, Int64.toInt_div, Int.bmod_mul_bmod, Int.sub_bmod_bmod, Int.mul_comm (x.toInt.tdiv y.toInt), ← Int.tmod_def, ← Int64.toInt_mod]
  exact Int.bmod_eq_of_le_mul_two (by omega) (by omega)
theorem arr_get {L : List Slot} {i : Nat} {o : Slot} (h : L[i]? = some o) : L.toArray[i]? = some o := by simpa using h
theorem arr_set (L : List Slot) (i : Nat) (o : Slot) : L.toArray.setIfInBounds i o = (L.set i o).toArray := by simp
theorem stl_ok {L L' : List Slot} {i : Nat} {v : Value} (hv : v.category = 1) (h : stl L i v = some L') : storeLocals L.toArray i v = some L'.toArray ∧ L'.length = L.length := by
  unfold stl at h
  unfold storeLocals
  cases hi : L[i]? with
  | none => rw [hi] at h; cases h
  | some o =>
    have hlt : i < L.length := (List.getElem?_eq_some_iff.mp hi).1
    rw [hi] at h
    rw [arr_get hi]
    cases o with
    | unset => cases h; simp [storeSelf, setAt, hlt, hv]
    | second =>
      simp only at h
      split at h
      · cases h; simp [storeSelf, setAt, hv, hlt, Nat.lt_of_le_of_lt (Nat.sub_le i 1) hlt]
      · cases h
    | val w =>
      simp only at h
      split at h
      · rename_i hw; cases h; simp [storeSelf, setAt, hv, hlt, hw]
      · rename_i hw
        split at h
        · rename_i h1
          have hw2 : w.category = 2 := by cases w <;> simp [Value.category] at hw ⊢
          cases h; simp [storeSelf, setAt, hv, hlt, hw2, h1]
        · cases h
theorem stL_ok {L L' : List Slot} {i : Nat} {v : Value} (hv : v.category = 2) (h : stL L i v = some L') : storeLocals L.toArray i v = some L'.toArray ∧ L'.length = L.length := by
  unfold stL at h
  unfold storeLocals
  cases hi : L[i]? with
  | none => rw [hi] at h; cases h
  | some o =>
    cases hi2 : L[i + 1]? with
    | none => rw [hi, hi2] at h; cases o <;> cases h
    | some o2 =>
      have hlt : i < L.length := (List.getElem?_eq_some_iff.mp hi).1
      have hlt2 : i + 1 < L.length := (List.getElem?_eq_some_iff.mp hi2).1
      rw [hi, hi2] at h
      rw [arr_get hi]
      have g2 : (L.set i (.val v))[i + 1]? = some o2 := by rw [List.getElem?_set_ne (by omega)]; exact hi2
      have g4 : L[i + 1] = o2 := (List.getElem?_eq_some_iff.mp hi2).2
      cases o with
      | second => cases h
      | unset =>
        simp only at h
        split at h
        · rename_i hc
          cases h
          cases o2 with
          | second => cases hc
          | unset => simp [storeSelf, setAt, hv, hlt, hlt2, g2, g4]
          | val w => simp only [cat1, beq_iff_eq] at hc; simp [storeSelf, setAt, hv, hlt, hlt2, g2, g4, hc]
        · cases h
      | val w =>
        simp only at h
        split at h
        · rename_i hw
          cases h
          have g3 : ((L.set (i + 1) .unset).set i (.val v))[i + 1]? = some .unset := by rw [List.getElem?_set_ne (by omega)]; simp [hlt2]
          simp [storeSelf, setAt, hv, hlt, hlt2, hw, g3]
          rw [List.set_comm _ _ (by omega), List.set_set, List.set_comm _ _ (by omega)]
        · rename_i hw
          have hw1 : ¬ w.category = 2 := hw
          split at h
          · rename_i hc
            cases h
            cases o2 with
            | second => cases hc
            | unset => simp [storeSelf, setAt, hv, hlt, hlt2, g2, g4, hw1]
            | val w => simp only [cat1, beq_iff_eq] at hc; simp [storeSelf, setAt, hv, hlt, hlt2, g2, g4, hw1, hc]
          · cases h
theorem jmp_ok {pc q : Nat} {o : Int} (h : jmp pc o = some q) : 0 ≤ (pc : Int) + o ∧ ((pc : Int) + o).toNat = q := by
  unfold jmp at h
  split at h
  · rename_i g; cases h; exact ⟨g, rfl⟩
  · cases h
theorem ldI_ok {L : List Slot} {i : Nat} {v : Value} (h : ldI L i = some v) : ∃ x, v = .int x ∧ L.toArray[i]? = some (.val (.int x)) := by
  unfold ldI at h
  split at h
  · rename_i x e; cases h; exact ⟨x, rfl, arr_get e⟩
  · cases h
theorem ldJ_ok {L : List Slot} {i : Nat} {v : Value} (h : ldJ L i = some v) : ∃ x, v = .long x ∧ L.toArray[i]? = some (.val (.long x)) := by
  unfold ldJ at h
  split at h
  · rename_i x e; cases h; exact ⟨x, rfl, arr_get e⟩
  · cases h
theorem ldR_ok {L : List Slot} {i : Nat} {v : Value} (h : ldR L i = some v) : ∃ x, v = .ref x ∧ L.toArray[i]? = some (.val (.ref x)) := by
  unfold ldR at h
  split at h
  · rename_i x e; cases h; exact ⟨x, rfl, arr_get e⟩
  · cases h
theorem okv_ok {t : FieldType} {v : Value} (h : okv t v = true) : narrow t v = v ∧ fits t v = true := by
  unfold okv at h
  split at h
  · exact ⟨rfl, rfl⟩
  · rename_i z
    simp only [Bool.or_eq_true, beq_iff_eq] at h
    rcases h with rfl | rfl <;> exact ⟨rfl, rfl⟩
  · rename_i z
    simp only [beq_iff_eq] at h
    have q := fits_nar_byte z
    rw [h] at q
    exact ⟨by show Value.int _ = _; rw [h], q⟩
  · exact ⟨rfl, rfl⟩
  · exact ⟨rfl, rfl⟩
  · cases h
end Jvm.JX

namespace Jvm.JX
open Sem ClassFile Op Lib Jvm.Stand Jvm.Free Jvm.LawKit Jvm.RoadKit
section Step
variable {P : Prog} {tb : List Jvm.Cond} {C : String} {fn : Nat → String × String} {F : List Nat} {nsl : Nat} {nm : Nat → MethodName} {bt : Nat → ByteArray} {R : List Nat} {top : Nat}
variable {l : Launch} {Z : State} {a0 : Array Value} {n0 : Nat} {m pc len k n : Nat} {aux : Int} {L : List Slot} {S : List Value} {H : AH} {ins : Instr} {q : Fm}
variable {p : Program} {e : Env} {s : State} {mid : MethodId} {args : Array Value} {below : List Frame} {meth : Method} {c : Code} {T : State} {locs : List Loc} {Rm : Jvm.Room}
theorem go_same {start : State} {nl pc' : Nat} {L' : List Slot} {S' : List Value} (X : Stand p l e Rm s mid args below meth c T locs k n) (r : RelH C fn F Z n0 T.heap H) (N : Fr n0 locs) (hk : k ≤ Rm.cells) (hn : n ≤ Rm.slots) (hL : L'.length = nl)
    (st : ∀ target, Steps p.tables e below (T.setTop (mkF mid pc' L'.toArray S')) target → Steps p.tables e below start target) : Go C fn F Z n0 p l e Rm s mid args below meth c start nl (pc', L', S', k, n, H) := ⟨T, locs, X, r, N, hk, hn, hL, st⟩
theorem go_heap {start : State} {nl pc' : Nat} {L' : List Slot} {S' : List Value} {T' : State} (X : Stand p l e Rm s mid args below meth c T' locs k n) (r : RelH C fn F Z n0 T.heap H) (hh : T'.heap = T.heap) (N : Fr n0 locs) (hk : k ≤ Rm.cells) (hn : n ≤ Rm.slots) (hL : L'.length = nl)
    (st : ∀ target, Steps p.tables e below (T'.setTop (mkF mid pc' L'.toArray S')) target → Steps p.tables e below start target) : Go C fn F Z n0 p l e Rm s mid args below meth c start nl (pc', L', S', k, n, H) := ⟨T', locs, X, by rw [hh]; exact r, N, hk, hn, hL, st⟩
theorem idx_not {i : Int32} {n : Nat} (h1 : ¬ i < 0) (h2 : i.toNatClampNeg < n) : ¬ (i < 0 ∨ n ≤ i.toNatClampNeg) := fun h => h.elim h1 (Nat.not_le.mpr h2)
theorem inA_ok {a : Nat} {t : FieldType} {i : Int32} (h : inA H a t i = true) : (H.2 a).1 = .array t ∧ ¬ i < 0 ∧ i.toNatClampNeg < (H.2 a).2.1 := by
  simpa [inA, and_assoc] using h
theorem inAw_ok {a : Nat} {t : FieldType} {i : Int32} (h : inAw H a t i = true) : inA H a t i = true ∧ (H.2 a).2.2.1 = true := by
  simpa [inAw] using h
theorem isOw_ok {a : Nat} (h : isOw H a = true) : isO H a = true ∧ (H.2 a).2.2.1 = true := by simpa [isOw] using h
theorem RelH.wrF {h h' : Heap} {a j : Nat} {v : Value} (hG : Good P tb C fn F nsl nm bt R top) (hw : ∀ d ∈ tb, d.before a0 Z = true) (r : RelH C fn F Z n0 h H) (ha : isO H a = true) (hj : j ∈ F) (Wt : Wr h h' a (Jvm.RoadKit.slotOf Z C (fn j).1 (fn j).2) v) : RelH C fn F Z n0 h' (wr H a j v) := by
  refine ⟨by rw [Wt.size]; exact r.1, r.2.1, fun b => ?_⟩
  by_cases e : b = a
  · subst e
    obtain ⟨q1, q2⟩ := r.2.2 b
    obtain ⟨E, Fs⟩ := r.obj ha
    simp only [wr, if_true]
    refine ⟨q1, ?_⟩
    unfold isO at ha
    cases hk : (H.2 b).1 <;> rw [hk] at ha <;> try (cases ha; done)
    simp only
    refine ⟨E.wr Wt, fun i hi => ?_⟩
    by_cases e2 : i = j
    · subst e2; simp only [if_true]; exact (Fs i hi).same Wt
    · simp only [e2, if_false]
      refine (Fs i hi).other Wt (Or.inr ?_)
      have lw : ∀ k ∈ F, Laid Z a0 C C (fn k).1 (fn k).2 := fun k hk => ((hG.2.2.1 k hk).2).imp (hw _) (hw _)
      exact slot_ne (lw i hi) (lw j hj) (fun q => e2 (hG.2.2.2.1 i hi j hj q)) (hG.2.2.1 i hi).1 (hG.2.2.1 j hj).1
  · simp only [wr, e, if_false]
    obtain ⟨q1, q2⟩ := r.2.2 b
    refine ⟨q1, ?_⟩
    cases hk : (H.2 b).1 <;> simp only [hk] at q2 ⊢
    · exact ⟨q2.1.wr Wt, fun k hk => (q2.2 k hk).other Wt (Or.inl e)⟩
    · obtain ⟨q3, cl, q4, q5⟩ := q2; exact ⟨q3, cl, q4.other Wt e, q5⟩
theorem RelH.wrA {h h' : Heap} {a j : Nat} {t : FieldType} {v : Value} (r : RelH C fn F Z n0 h H) (ha : (H.2 a).1 = .array t) (hj : j < (H.2 a).2.1) (Wt : Wr h h' a j v) : RelH C fn F Z n0 h' (wr H a j v) := by
  refine ⟨by rw [Wt.size]; exact r.1, r.2.1, fun b => ?_⟩
  by_cases e : b = a
  · subst e
    obtain ⟨q1, q2⟩ := r.2.2 b
    obtain ⟨g1, cl, g2, g3, g4⟩ := r.arr ha
    simp only [wr, if_true]
    refine ⟨q1, ?_⟩
    simp only [ha]
    refine ⟨g1, cl.setSlot j v, g2.same Wt, by rw [sz_set]; exact g3, fun i hi => ?_⟩
    by_cases e2 : i = j
    · subst e2; simp [Cell.setSlot, g3, hj]
    · simp only [e2, if_false]; rw [← g4 i hi]; exact Array.getElem?_setIfInBounds_ne (Ne.symm e2)
  · simp only [wr, e, if_false]
    obtain ⟨q1, q2⟩ := r.2.2 b
    refine ⟨q1, ?_⟩
    cases hk : (H.2 b).1 <;> simp only [hk] at q2 ⊢
    · exact ⟨q2.1.wr Wt, fun k hk => (q2.2 k hk).other Wt (Or.inl e)⟩
    · obtain ⟨q3, cl, q4, q5⟩ := q2; exact ⟨q3, cl, q4.other Wt e, q5⟩
theorem ext_push (h : Heap) (x : Cell) : Ext h (h.push x) := ⟨by simp, fun a c q => by rw [Array.getElem?_push_lt (Array.getElem?_eq_some_iff.mp q).1]; exact (Array.getElem?_eq_getElem _).symm.trans q⟩
theorem made_obj {h : Heap} {cC : ClassId} {kC : Class} (hZ : Z.Warmed39 s.vm) (h1 : s.vm.findClass C = some cC) (h2 : s.vm.classes[cC]? = some kC) :
    Exa Z (h.push { cls := cC, slots := kC.instanceTypes.map defaultValue, vm := .none }) h.size C ∧ ∀ {nm d : String} {ty : FieldType}, Laid Z a0 C C nm d → parseFieldDescriptor d = some ty → Fld Z (h.push { cls := cC, slots := kC.instanceTypes.map defaultValue, vm := .none }) h.size C nm d (defaultValue ty) := by
  rw [hZ.alike.findClass] at h1
  obtain ⟨kZ, z1, -⟩ := Vm.findClass_spec h1
  obtain ⟨k', z2, z3⟩ := hZ.alike.2.2 _ _ z1
  cases h2.symm.trans z2
  have ei : kC.instanceTypes = kZ.instanceTypes := by rw [z3]
  have hN : ∀ x : Cell, (h.push x)[h.size]? = some x := fun x => by simp
  refine ⟨⟨_, kZ, hN _, h1, z1, rfl, fun _ => by simp [ei]⟩, fun {nm d ty} lw ht => ?_⟩
  obtain ⟨c1, k1, cf, kf, i, f, a1, a2, a3, a4, a5, a6, -⟩ := lw.spec
  cases h1.symm.trans a1
  cases z1.symm.trans a2
  exact ⟨_, cf, kf, i, f, hN _, a3, a4, by simp, rfl, a5, by simp [ei, a6, (State.fieldFound?_type a3 ht).2]⟩
theorem made_arr {h : Heap} {t : FieldType} {cA comp : ClassId} {kA : Class} {xs : Array Value} (hZ : Z.Warmed39 s.vm) (h1 : s.vm.findClass ("[" ++ t.toString) = some cA) (h2 : s.vm.classes[cA]? = some kA) (h3 : kA.kind = .array comp t) : Arr Z (h.push { cls := cA, slots := xs, vm := .none }) h.size { cls := cA, slots := xs, vm := .none } t := by
  rw [hZ.alike.findClass] at h1
  obtain ⟨kZ, z1, -⟩ := Vm.findClass_spec h1
  obtain ⟨k', z2, z3⟩ := hZ.alike.2.2 _ _ z1
  cases h2.symm.trans z2
  exact ⟨by simp, ⟨by simp, kZ, z1, comp, by rw [← h3, z3]⟩, by simp⟩
set_option maxHeartbeats 4000000 in
theorem stp_go (hG : Good P tb C fn F nsl nm bt R top) (hw : ∀ d ∈ tb, d.before a0 Z = true) (hm : m ∈ R) (hrow : P.1 m pc = some (ins, len, aux)) (h : stp P m ins len aux pc L S k n H = some q) (X : Stand p l e (rm P m) s mid args below meth c T locs k n) (hx : p.tables.exec = Jvm.exec) (hZ : Z.Warmed39 s.vm)
    (hby : c.code = bt m) (hml : c.maxLocals = ml P m) (hown : s.vm.findClass (nm m).cls = some mid.cls) (hnm : meth.name = (nm m).name) (hL : L.length = ml P m) (r : RelH C fn F Z n0 T.heap H) (N : Fr n0 locs) (hk : k ≤ (rm P m).cells) (hn : n ≤ (rm P m).slots) :
    Go C fn F Z n0 p l e (rm P m) s mid args below meth c (T.setTop (mkF mid pc L.toArray S)) (ml P m) q := by
  obtain ⟨hd, hl, ho⟩ := (hG.2.2.2.2.1 m hm).2.2 pc ins len aux hrow
  replace hd := hb hby hd
  cases ins with
  | iconst i =>
    have hl : len = 1 := hl; subst hl
    obtain rfl := Option.some.inj h
    exact go_same X r N hk hn hL fun t g => XS.iconst X.here hx rfl hd g
  | bipush i =>
    have hl : len = 2 := hl; subst hl
    obtain rfl := Option.some.inj h
    exact go_same X r N hk hn hL fun t g => XS.bipush X.here hx rfl hd g
  | sipush i =>
    have hl : len = 3 := hl; subst hl
    obtain rfl := Option.some.inj h
    exact go_same X r N hk hn hL fun t g => XS.sipush X.here hx rfl hd g
  | lconst i =>
    have hl : len = 1 := hl; subst hl
    obtain rfl := Option.some.inj h
    exact go_same X r N hk hn hL fun t g => XT.lconst X.here hx rfl hd g
  | ldc i =>
    have hl : len = 2 := hl; subst hl
    obtain rfl := Option.some.inj h
    exact go_same X r N hk hn hL fun t g => X.ldcI hx hown (mv hZ (hw _ ho)) rfl hd g
  | ldc2_w i =>
    have hl : len = 3 := hl; subst hl
    obtain rfl := Option.some.inj h
    exact go_same X r N hk hn hL fun t g => X.ldc2J hx hown (mv hZ (hw _ ho)) rfl hd g
  | iload i =>
    have hl : len = 2 := hl; subst hl
    obtain ⟨v, hv, rfl⟩ := Option.map_eq_some_iff.mp h
    obtain ⟨x, rfl, hg⟩ := ldI_ok hv
    exact go_same X r N hk hn hL fun t g => XS.iload X.here hx rfl hd hg g
  | iload_n i =>
    have hl : len = 1 := hl; subst hl
    obtain ⟨v, hv, rfl⟩ := Option.map_eq_some_iff.mp h
    obtain ⟨x, rfl, hg⟩ := ldI_ok hv
    exact go_same X r N hk hn hL fun t g => XS.iloadN X.here hx rfl hd hg g
  | lload i =>
    have hl : len = 2 := hl; subst hl
    obtain ⟨v, hv, rfl⟩ := Option.map_eq_some_iff.mp h
    obtain ⟨x, rfl, hg⟩ := ldJ_ok hv
    exact go_same X r N hk hn hL fun t g => XT.lload X.here hx rfl hd hg g
  | lload_n i =>
    have hl : len = 1 := hl; subst hl
    obtain ⟨v, hv, rfl⟩ := Option.map_eq_some_iff.mp h
    obtain ⟨x, rfl, hg⟩ := ldJ_ok hv
    exact go_same X r N hk hn hL fun t g => XT.lloadN X.here hx rfl hd hg g
  | aload i =>
    have hl : len = 2 := hl; subst hl
    obtain ⟨v, hv, rfl⟩ := Option.map_eq_some_iff.mp h
    obtain ⟨x, rfl, hg⟩ := ldR_ok hv
    exact go_same X r N hk hn hL fun t g => XS.aload X.here hx rfl hd hg rfl g
  | aload_n i =>
    have hl : len = 1 := hl; subst hl
    obtain ⟨v, hv, rfl⟩ := Option.map_eq_some_iff.mp h
    obtain ⟨x, rfl, hg⟩ := ldR_ok hv
    exact go_same X r N hk hn hL fun t g => XS.aloadN X.here hx rfl hd hg rfl g
  | istore i =>
    have hl : len = 2 := hl; subst hl
    dsimp only [stp] at h
    split at h
    · rename_i x S'
      obtain ⟨L', hv, rfl⟩ := Option.map_eq_some_iff.mp h
      obtain ⟨g1, g2⟩ := stl_ok rfl hv
      exact go_same X r N hk hn (g2.trans hL) fun t g => XS.istore X.here hx rfl hd rfl g1 g
    · cases h
  | istore_n i =>
    have hl : len = 1 := hl; subst hl
    dsimp only [stp] at h
    split at h
    · rename_i x S'
      obtain ⟨L', hv, rfl⟩ := Option.map_eq_some_iff.mp h
      obtain ⟨g1, g2⟩ := stl_ok rfl hv
      exact go_same X r N hk hn (g2.trans hL) fun t g => XS.istoreN X.here hx rfl hd rfl g1 g
    · cases h
  | astore i =>
    have hl : len = 2 := hl; subst hl
    dsimp only [stp] at h
    split at h
    · rename_i x S'
      obtain ⟨L', hv, rfl⟩ := Option.map_eq_some_iff.mp h
      obtain ⟨g1, g2⟩ := stl_ok rfl hv
      exact go_same X r N hk hn (g2.trans hL) fun t g => XS.astore X.here hx rfl hd rfl rfl g1 g
    · cases h
  | astore_n i =>
    have hl : len = 1 := hl; subst hl
    dsimp only [stp] at h
    split at h
    · rename_i x S'
      obtain ⟨L', hv, rfl⟩ := Option.map_eq_some_iff.mp h
      obtain ⟨g1, g2⟩ := stl_ok rfl hv
      exact go_same X r N hk hn (g2.trans hL) fun t g => XS.astoreN X.here hx rfl hd rfl rfl g1 g
    · cases h
  | lstore i =>
    have hl : len = 2 := hl; subst hl
    dsimp only [stp] at h
    split at h
    · rename_i x S'
      obtain ⟨L', hv, rfl⟩ := Option.map_eq_some_iff.mp h
      obtain ⟨g1, g2⟩ := stL_ok rfl hv
      exact go_same X r N hk hn (g2.trans hL) fun t g => XT.lstore X.here hx rfl hd rfl g1 g
    · cases h
  | lstore_n i =>
    have hl : len = 1 := hl; subst hl
    dsimp only [stp] at h
    split at h
    · rename_i x S'
      obtain ⟨L', hv, rfl⟩ := Option.map_eq_some_iff.mp h
      obtain ⟨g1, g2⟩ := stL_ok rfl hv
      exact go_same X r N hk hn (g2.trans hL) fun t g => XT.lstoreN X.here hx rfl hd rfl g1 g
    · cases h
  | iinc i cst =>
    have hl : len = 3 := hl; subst hl
    dsimp only [stp] at h
    split at h
    · rename_i x hx1
      obtain rfl := Option.some.inj h
      have g1 : storeLocals L.toArray i (.int (x + Int32.ofInt cst)) = some (L.set i (.val (.int (x + Int32.ofInt cst)))).toArray := (stl_ok rfl (stl_plain hx1 rfl)).1
      exact go_same X r N hk hn (by simpa using hL) fun t g => XS.iinc X.here hx rfl hd (arr_get hx1) g1 g
    · cases h
  | iadd =>
    have hl : len = 1 := hl; subst hl
    dsimp only [stp] at h
    split at h
    · rename_i y x S'
      obtain rfl := Option.some.inj h
      exact go_same X r N hk hn hL fun t g => XS.iadd X.here hx rfl hd rfl g
    · cases h
  | isub =>
    have hl : len = 1 := hl; subst hl
    dsimp only [stp] at h
    split at h
    · rename_i y x S'
      obtain rfl := Option.some.inj h
      exact go_same X r N hk hn hL fun t g => XS.isub X.here hx rfl hd rfl g
    · cases h
  | imul =>
    have hl : len = 1 := hl; subst hl
    dsimp only [stp] at h
    split at h
    · rename_i y x S'
      obtain rfl := Option.some.inj h
      exact go_same X r N hk hn hL fun t g => XS.imul X.here hx rfl hd rfl g
    · cases h
  | iand =>
    have hl : len = 1 := hl; subst hl
    dsimp only [stp] at h
    split at h
    · rename_i y x S'
      obtain rfl := Option.some.inj h
      exact go_same X r N hk hn hL fun t g => XS.iand X.here hx rfl hd rfl g
    · cases h
  | ior =>
    have hl : len = 1 := hl; subst hl
    dsimp only [stp] at h
    split at h
    · rename_i y x S'
      obtain rfl := Option.some.inj h
      exact go_same X r N hk hn hL fun t g => XT.ior X.here hx rfl hd rfl g
    · cases h
  | ixor =>
    have hl : len = 1 := hl; subst hl
    dsimp only [stp] at h
    split at h
    · rename_i y x S'
      obtain rfl := Option.some.inj h
      exact go_same X r N hk hn hL fun t g => XT.ixor X.here hx rfl hd rfl g
    · cases h
  | ishl =>
    have hl : len = 1 := hl; subst hl
    dsimp only [stp] at h
    split at h
    · rename_i y x S'
      obtain rfl := Option.some.inj h
      exact go_same X r N hk hn hL fun t g => XT.ishl X.here hx rfl hd rfl g
    · cases h
  | ishr =>
    have hl : len = 1 := hl; subst hl
    dsimp only [stp] at h
    split at h
    · rename_i y x S'
      obtain rfl := Option.some.inj h
      exact go_same X r N hk hn hL fun t g => XT.ishr X.here hx rfl hd rfl g
    · cases h
  | iushr =>
    have hl : len = 1 := hl; subst hl
    dsimp only [stp] at h
    split at h
    · rename_i y x S'
      obtain rfl := Option.some.inj h
      exact go_same X r N hk hn hL fun t g => XT.iushr X.here hx rfl hd rfl g
    · cases h
  | ladd =>
    have hl : len = 1 := hl; subst hl
    dsimp only [stp] at h
    split at h
    · rename_i y x S'
      obtain rfl := Option.some.inj h
      exact go_same X r N hk hn hL fun t g => XT.ladd X.here hx rfl hd rfl g
    · cases h
  | lsub =>
    have hl : len = 1 := hl; subst hl
    dsimp only [stp] at h
    split at h
    · rename_i y x S'
      obtain rfl := Option.some.inj h
      exact go_same X r N hk hn hL fun t g => XT.lsub X.here hx rfl hd rfl g
    · cases h
  | lmul =>
    have hl : len = 1 := hl; subst hl
    dsimp only [stp] at h
    split at h
    · rename_i y x S'
      obtain rfl := Option.some.inj h
      exact go_same X r N hk hn hL fun t g => XT.lmul X.here hx rfl hd rfl g
    · cases h
  | land =>
    have hl : len = 1 := hl; subst hl
    dsimp only [stp] at h
    split at h
    · rename_i y x S'
      obtain rfl := Option.some.inj h
      exact go_same X r N hk hn hL fun t g => XT.land X.here hx rfl hd rfl g
    · cases h
  | lor =>
    have hl : len = 1 := hl; subst hl
    dsimp only [stp] at h
    split at h
    · rename_i y x S'
      obtain rfl := Option.some.inj h
      exact go_same X r N hk hn hL fun t g => XT.lor X.here hx rfl hd rfl g
    · cases h
  | lxor =>
    have hl : len = 1 := hl; subst hl
    dsimp only [stp] at h
    split at h
    · rename_i y x S'
      obtain rfl := Option.some.inj h
      exact go_same X r N hk hn hL fun t g => XT.lxor X.here hx rfl hd rfl g
    · cases h
  | lshl =>
    have hl : len = 1 := hl; subst hl
    dsimp only [stp] at h
    split at h
    · rename_i y x S'
      obtain rfl := Option.some.inj h
      exact go_same X r N hk hn hL fun t g => XT.lshl X.here hx rfl hd rfl g
    · cases h
  | lshr =>
    have hl : len = 1 := hl; subst hl
    dsimp only [stp] at h
    split at h
    · rename_i y x S'
      obtain rfl := Option.some.inj h
      exact go_same X r N hk hn hL fun t g => XT.lshr X.here hx rfl hd rfl g
    · cases h
  | lushr =>
    have hl : len = 1 := hl; subst hl
    dsimp only [stp] at h
    split at h
    · rename_i y x S'
      obtain rfl := Option.some.inj h
      exact go_same X r N hk hn hL fun t g => XT.lushr X.here hx rfl hd rfl g
    · cases h
  | idiv =>
    have hl : len = 1 := hl; subst hl
    dsimp only [stp] at h
    split at h
    · rename_i y x S'
      split at h
      · cases h
      · rename_i g0
        obtain rfl := Option.some.inj h
        exact go_same X r N hk hn hL fun t g => XS.idiv X.here hx rfl hd rfl g0 g
    · cases h
  | irem =>
    have hl : len = 1 := hl; subst hl
    dsimp only [stp] at h
    split at h
    · rename_i y x S'
      split at h
      · cases h
      · rename_i g0
        obtain rfl := Option.some.inj h
        exact go_same X r N hk hn hL fun t g => iremM X hx rfl hd rfl g0 g
    · cases h
  | ldiv =>
    have hl : len = 1 := hl; subst hl
    dsimp only [stp] at h
    split at h
    · rename_i y x S'
      split at h
      · cases h
      · rename_i g0
        obtain rfl := Option.some.inj h
        exact go_same X r N hk hn hL fun t g => XT.ldiv X.here hx rfl hd rfl g0 g
    · cases h
  | lrem =>
    have hl : len = 1 := hl; subst hl
    dsimp only [stp] at h
    split at h
    · rename_i y x S'
      split at h
      · cases h
      · rename_i g0
        obtain rfl := Option.some.inj h
        exact go_same X r N hk hn hL fun t g => XT.lrem X.here hx rfl hd rfl g0 (by rw [lrem_mod]; exact g)
    · cases h
  | ineg =>
    have hl : len = 1 := hl; subst hl
    dsimp only [stp] at h
    split at h
    · rename_i x S'
      obtain rfl := Option.some.inj h
      exact go_same X r N hk hn hL fun t g => XS.ineg X.here hx rfl hd rfl g
    · cases h
  | lneg =>
    have hl : len = 1 := hl; subst hl
    dsimp only [stp] at h
    split at h
    · rename_i x S'
      obtain rfl := Option.some.inj h
      exact go_same X r N hk hn hL fun t g => XT.lneg X.here hx rfl hd rfl g
    · cases h
  | i2l =>
    have hl : len = 1 := hl; subst hl
    dsimp only [stp] at h
    split at h
    · rename_i x S'
      obtain rfl := Option.some.inj h
      exact go_same X r N hk hn hL fun t g => XT.i2l X.here hx rfl hd rfl g
    · cases h
  | l2i =>
    have hl : len = 1 := hl; subst hl
    dsimp only [stp] at h
    split at h
    · rename_i x S'
      obtain rfl := Option.some.inj h
      exact go_same X r N hk hn hL fun t g => XT.l2i X.here hx rfl hd rfl g
    · cases h
  | i2b =>
    have hl : len = 1 := hl; subst hl
    dsimp only [stp] at h
    split at h
    · rename_i x S'
      obtain rfl := Option.some.inj h
      exact go_same X r N hk hn hL fun t g => XT.i2b X.here hx rfl hd rfl g
    · cases h
  | lcmp =>
    have hl : len = 1 := hl; subst hl
    dsimp only [stp] at h
    split at h
    · rename_i y x S'
      obtain rfl := Option.some.inj h
      exact go_same X r N hk hn hL fun t g => XT.lcmp X.here hx rfl hd rfl g
    · cases h
  | dup =>
    have hl : len = 1 := hl; subst hl
    dsimp only [stp] at h
    split at h
    · rename_i v S'
      split at h
      · rename_i g0
        obtain rfl := Option.some.inj h
        exact go_same X r N hk hn hL fun t g => XS.dup X.here hx rfl hd rfl g0 g
      · cases h
    · cases h
  | pop =>
    have hl : len = 1 := hl; subst hl
    dsimp only [stp] at h
    split at h
    · rename_i v S'
      split at h
      · rename_i g0
        obtain rfl := Option.some.inj h
        exact go_same X r N hk hn hL fun t g => XT.pop X.here hx rfl hd rfl g0 g
      · cases h
    · cases h
  | dup2 =>
    have hl : len = 1 := hl; subst hl
    dsimp only [stp] at h
    split at h
    · rename_i x S'
      obtain rfl := Option.some.inj h
      exact go_same X r N hk hn hL fun t g => XT.dup2L X.here hx rfl hd rfl g
    · rename_i v w S' _
      split at h
      · rename_i g0
        obtain rfl := Option.some.inj h
        exact go_same X r N hk hn hL fun t g => XT.dup2 X.here hx rfl hd rfl g0.1 g0.2 g
      · cases h
    · cases h
  | goto o =>
    have hl : len = 3 := hl; subst hl
    obtain ⟨v, hv, rfl⟩ := Option.map_eq_some_iff.mp h
    obtain ⟨g1, g2⟩ := jmp_ok hv
    exact go_same X r N hk hn hL fun t g => XS.goto X.here hx rfl rfl hd g1 g2 g
  | ifCond cd o =>
    have hl : len = 3 := hl; subst hl
    dsimp only [stp] at h
    split at h
    · rename_i x S'
      split at h
      · rename_i g0
        obtain ⟨v, hv, rfl⟩ := Option.map_eq_some_iff.mp h
        obtain ⟨g1, g2⟩ := jmp_ok hv
        exact go_same X r N hk hn hL fun t g => XS.ifYes X.here hx rfl rfl hd rfl g0 g1 g2 g
      · rename_i g0
        obtain rfl := Option.some.inj h
        exact go_same X r N hk hn hL fun t g => XS.ifNo X.here hx rfl hd rfl (by simpa using g0) g
    · cases h
  | if_icmp cd o =>
    have hl : len = 3 := hl; subst hl
    dsimp only [stp] at h
    split at h
    · rename_i y x S'
      split at h
      · rename_i g0
        obtain ⟨v, hv, rfl⟩ := Option.map_eq_some_iff.mp h
        obtain ⟨g1, g2⟩ := jmp_ok hv
        exact go_same X r N hk hn hL fun t g => XS.icmpYes X.here hx rfl rfl hd rfl g0 g1 g2 g
      · rename_i g0
        obtain rfl := Option.some.inj h
        exact go_same X r N hk hn hL fun t g => XS.icmpNo X.here hx rfl hd rfl (by simpa using g0) g
    · cases h
  | tableswitch d lo hi os =>
    dsimp only [stp] at h
    split at h
    · rename_i x S'
      split at h
      · rename_i g0
        obtain ⟨v, hv, rfl⟩ := Option.map_eq_some_iff.mp h
        obtain ⟨g1, g2⟩ := jmp_ok hv
        exact go_same X r N hk hn hL fun t g => XS.tswOut X.here hx rfl rfl hd rfl g0 g1 g2 g
      · rename_i g0
        obtain ⟨o, ho1, h⟩ := Option.bind_eq_some_iff.mp h
        obtain ⟨v, hv, rfl⟩ := Option.map_eq_some_iff.mp h
        obtain ⟨g1, g2⟩ := jmp_ok hv
        exact go_same X r N hk hn hL fun t g => XS.tswIn X.here hx rfl rfl hd rfl g0 ho1 g1 g2 g
    · cases h
  | getfield i =>
    have hl : len = 3 := hl; subst hl
    dsimp only [stp] at h
    split at h
    · rename_i a S'
      split at h
      · rename_i g0
        obtain rfl := Option.some.inj h
        obtain ⟨T1, X1, e1, st1⟩ := getF X hx hZ hown (host := "") (Or.inl (hw _ ho.2)) Via.refl rfl ((r.obj g0).2 _ ho.1) (g := mkF mid pc L.toArray (.ref a :: S')) rfl rfl hd
        exact go_heap X1 r e1 N hk hn hL fun t g => st1 t g
      · cases h
    · cases h
  | putfield i =>
    have hl : len = 3 := hl; subst hl
    dsimp only [stp] at h
    split at h
    · rename_i v a S'
      split at h
      · rename_i g0
        obtain rfl := Option.some.inj h
        obtain ⟨o1, o2, o3⟩ := ho
        obtain ⟨w1, w2⟩ := isOw_ok g0.1
        obtain ⟨n1, n2⟩ := okv_ok g0.2
        have hlay : (Jvm.Cond.lays C C (fn aux.toNat).1 (fn aux.toNat).2).before a0 Z = true ∨ ((Jvm.Cond.laysFinal C C (fn aux.toNat).1 (fn aux.toNat).2).before a0 Z = true ∧ (nm m).cls = C ∧ meth.name = "<init>") := by
          rcases o3 with q | ⟨q1, q2⟩
          · exact Or.inl (hw _ q)
          · rcases (hG.2.2.1 _ o1).2 with q | q
            · exact Or.inl (hw _ q)
            · exact Or.inr ⟨hw _ q, q1, hnm.trans q2⟩
        obtain ⟨T1, h1, X1, e1, W1, st1⟩ := putF X hx hZ hown (host := "") (Or.inl (hw _ o2)) Via.refl rfl ((r.obj w1).2 _ o1) (r.obj w1).1 hlay (hw _ hG.1) (hG.2.2.1 _ o1).1 n1 n2 (g := mkF mid pc L.toArray (v :: .ref a :: S')) rfl rfl hd
        exact ⟨T1, _, X1, by rw [e1]; exact r.wrF hG hw w1 o1 W1, Fr.snoc X1 N (r.own w2), hk, hn, hL, st1⟩
      · cases h
    · cases h
  | iaload =>
    have hl : len = 1 := hl; subst hl
    dsimp only [stp] at h
    split at h
    · rename_i i a S'
      split at h
      · rename_i g0
        obtain rfl := Option.some.inj h
        obtain ⟨w1, w2, w3⟩ := inA_ok g0
        obtain ⟨b1, cl, b2, b3, b4⟩ := r.arr w1
        exact go_same X r N hk hn hL fun t g => X.iaload hx (g := mkF mid pc L.toArray (.int i :: .ref a :: S')) b2.1 (State.isArrayOf_alike hZ.alike b2.2.1) b2.2.2 (by rw [b3]; exact idx_not w2 w3) (b4 _ w3) rfl rfl hd t g
      · cases h
    · cases h
  | laload =>
    have hl : len = 1 := hl; subst hl
    dsimp only [stp] at h
    split at h
    · rename_i i a S'
      split at h
      · rename_i g0
        obtain rfl := Option.some.inj h
        obtain ⟨w1, w2, w3⟩ := inA_ok g0
        obtain ⟨b1, cl, b2, b3, b4⟩ := r.arr w1
        exact go_same X r N hk hn hL fun t g => X.laload hx (g := mkF mid pc L.toArray (.int i :: .ref a :: S')) b2.1 (State.isArrayOf_alike hZ.alike b2.2.1) b2.2.2 (by rw [b3]; exact idx_not w2 w3) (b4 _ w3) rfl rfl hd t g
      · cases h
    · cases h
  | baload =>
    have hl : len = 1 := hl; subst hl
    dsimp only [stp] at h
    split at h
    · rename_i i a S'
      split at h
      · rename_i g0
        obtain rfl := Option.some.inj h
        rcases g0 with g0 | g0
        · obtain ⟨w1, w2, w3⟩ := inA_ok g0
          obtain ⟨b1, cl, b2, b3, b4⟩ := r.arr w1
          exact go_same X r N hk hn hL fun t g => X.baloadBytes hx (g := mkF mid pc L.toArray (.int i :: .ref a :: S')) b2.1 (State.isArrayOf_alike hZ.alike b2.2.1) b2.2.2 (by rw [b3]; exact idx_not w2 w3) (b4 _ w3) rfl rfl hd t g
        · obtain ⟨w1, w2, w3⟩ := inA_ok g0
          obtain ⟨b1, cl, b2, b3, b4⟩ := r.arr w1
          exact go_same X r N hk hn hL fun t g => X.baloadBooleans hx (g := mkF mid pc L.toArray (.int i :: .ref a :: S')) b2.1 (State.isArrayOf_alike hZ.alike b2.2.1) b2.2.2 (by rw [b3]; exact idx_not w2 w3) (b4 _ w3) rfl rfl hd t g
      · cases h
    · cases h
  | iastore =>
    have hl : len = 1 := hl; subst hl
    dsimp only [stp] at h
    split at h
    · rename_i x i a S'
      split at h
      · rename_i g0
        obtain rfl := Option.some.inj h
        obtain ⟨g1, g2⟩ := inAw_ok g0
        obtain ⟨w1, w2, w3⟩ := inA_ok g1
        obtain ⟨b1, cl, b2, b3, b4⟩ := r.arr w1
        obtain ⟨T1, h1, X1, e1, W1, st1⟩ := stI X hx hZ rfl b2 (j := i) (x := x) (by rw [b3]; exact idx_not w2 w3) (g := mkF mid pc L.toArray (.int x :: .int i :: .ref a :: S')) rfl rfl hd
        exact ⟨T1, _, X1, by rw [e1]; exact r.wrA w1 w3 W1, Fr.snoc X1 N (r.own g2), hk, hn, hL, st1⟩
      · cases h
    · cases h
  | lastore =>
    have hl : len = 1 := hl; subst hl
    dsimp only [stp] at h
    split at h
    · rename_i x i a S'
      split at h
      · rename_i g0
        obtain rfl := Option.some.inj h
        obtain ⟨g1, g2⟩ := inAw_ok g0
        obtain ⟨w1, w2, w3⟩ := inA_ok g1
        obtain ⟨b1, cl, b2, b3, b4⟩ := r.arr w1
        obtain ⟨T1, h1, X1, e1, W1, st1⟩ := stJ X hx hZ rfl b2 (j := i) (x := x) (by rw [b3]; exact idx_not w2 w3) (g := mkF mid pc L.toArray (.long x :: .int i :: .ref a :: S')) rfl rfl hd
        exact ⟨T1, _, X1, by rw [e1]; exact r.wrA w1 w3 W1, Fr.snoc X1 N (r.own g2), hk, hn, hL, st1⟩
      · cases h
    · cases h
  | bastore =>
    have hl : len = 1 := hl; subst hl
    dsimp only [stp] at h
    split at h
    · rename_i x i a S'
      split at h
      · rename_i g0
        obtain rfl := Option.some.inj h
        rcases g0 with ⟨g0, gx⟩ | ⟨g0, gx⟩
        · obtain ⟨g1, g2⟩ := inAw_ok g0
          obtain ⟨w1, w2, w3⟩ := inA_ok g1
          obtain ⟨b1, cl, b2, b3, b4⟩ := r.arr w1
          have hx2 : nar .byte x = x := Value.int.inj (okv_ok gx).1
          obtain ⟨T1, h1, X1, e1, W1, st1⟩ := stB X hx hZ rfl b2 (j := i) (x := x) (by rw [b3]; exact idx_not w2 w3) (g := mkF mid pc L.toArray (.int x :: .int i :: .ref a :: S')) rfl rfl hd
          rw [hx2] at W1
          exact ⟨T1, _, X1, by rw [e1]; exact r.wrA w1 w3 W1, Fr.snoc X1 N (r.own g2), hk, hn, hL, st1⟩
        · obtain ⟨g1, g2⟩ := inAw_ok g0
          obtain ⟨w1, w2, w3⟩ := inA_ok g1
          obtain ⟨b1, cl, b2, b3, b4⟩ := r.arr w1
          have hx2 : nar .boolean x = x := Value.int.inj (okv_ok gx).1
          obtain ⟨T1, h1, X1, e1, W1, st1⟩ := stZ X hx hZ rfl b2 (j := i) (x := x) (by rw [b3]; exact idx_not w2 w3) (g := mkF mid pc L.toArray (.int x :: .int i :: .ref a :: S')) rfl rfl hd
          rw [hx2] at W1
          exact ⟨T1, _, X1, by rw [e1]; exact r.wrA w1 w3 W1, Fr.snoc X1 N (r.own g2), hk, hn, hL, st1⟩
      · cases h
    · cases h
  | arraylength =>
    have hl : len = 1 := hl; subst hl
    dsimp only [stp] at h
    split at h
    · rename_i a S'
      split at h
      · rename_i g0
        obtain rfl := Option.some.inj h
        obtain ⟨t0, w1⟩ : ∃ t0, (H.2 a).1 = .array t0 := by unfold isA at g0; cases hq : (H.2 a).1 <;> rw [hq] at g0 <;> first | (cases g0; done) | exact ⟨_, rfl⟩
        obtain ⟨b1, cl, b2, b3, b4⟩ := r.arr w1
        refine go_same X r N hk hn hL fun t g => X.arraylength hx (g := mkF mid pc L.toArray (.ref a :: S')) b2.1 (State.isArrayOf_alike hZ.alike b2.2.1) rfl rfl hd t ?_
        rw [b3]; exact g
      · cases h
    · cases h
  | newarray t =>
    have hl : len = 2 := hl; subst hl
    dsimp only [stp] at h
    split at h
    · rename_i cnt S'
      split at h
      · rename_i g0
        obtain rfl := Option.some.inj h
        obtain ⟨z1, z2, z3, z4⟩ := g0
        have hcb : componentBytes (newarray.typeOf t) ≤ 8 := by cases t <;> decide
        obtain ⟨cA, kA, comp, h1, h2, h3, X1, st1⟩ := X.newarrayPrim hx (mvA hZ (hw _ ho)) (g := mkF mid pc L.toArray (.int cnt :: S')) rfl hd rfl z1 (Nat.le_trans (Nat.mul_le_mul_left _ hcb) z2) z3 z4
        refine ⟨_, locs, X1, ?_, N, z3, z4, hL, fun t g => st1 t (by rw [r.1]; exact g)⟩
        exact r.ext (ext_push _ _) (by show (T.heap.push _).size = _; simp) ⟨fun _ => by rw [r.1]; exact r.2.1, (back32 z1).2, _, made_arr hZ h1 h2 h3, by simp, fun i hi => by simp [hi]⟩
      · cases h
    · cases h
  | new i =>
    have hl : len = 3 := hl; subst hl
    dsimp only [stp] at h
    split at h
    · rename_i g0
      obtain rfl := Option.some.inj h
      obtain ⟨z1, z2, z3⟩ := g0
      rw [ho.1] at z3 ⊢
      obtain ⟨vm1, cC, kC, h1, h2, h3, h4, X1, st1⟩ := X.newCold hx hown (mv hZ (hw _ ho.2)) (mv hZ (hw _ hG.1)) (mv hZ (hw _ hG.2.1)) (g := mkF mid pc L.toArray S) rfl hd z2 z3
      obtain ⟨A1, D1⟩ := made_obj (h := T.heap) (a0 := a0) hZ h1 h2
      refine ⟨_, locs, X1, ?_, N, z2, z3, hL, fun t g => st1 t (by rw [r.1]; exact g)⟩
      exact r.ext (ext_push _ _) (by show (T.heap.push _).size = _; simp) ⟨fun _ => by rw [r.1]; exact r.2.1, A1, fun j hj => D1 (((hG.2.2.1 j hj).2).imp (hw _) (hw _)) (hG.2.2.1 j hj).1⟩
    · cases h
  | invokespecial i =>
    have hl : len = 3 := hl; subst hl
    dsimp only [stp] at h
    split at h
    · rename_i a S'
      split at h
      · rename_i g0
        obtain rfl := Option.some.inj h
        obtain ⟨rfl, z2, z3⟩ := g0
        obtain ⟨o1, o2, o3⟩ := ho.1 rfl
        obtain ⟨T1, X1, e1, st1⟩ := initO X hx hZ hown (hw _ o1) (hw _ o2) (hw _ o3) rfl (g := mkF mid pc L.toArray (.ref a :: S')) rfl (by rw [hml, ← hL]; simp) rfl hd z2 (W := cs S') (by show 2 * 0 + _ ≤ _; exact Nat.le_of_eq (Nat.zero_add _)) z3
        exact go_heap X1 r e1 N hk hn hL fun t g => st1 t g
      · cases h
    · cases h
  | _ => exact absurd (show (none : Option Fm) = some q from h) (by simp)
end Step
end Jvm.JX

namespace Jvm.JX
open Sem ClassFile Op Lib Jvm.Stand Jvm.Free Jvm.LawKit Jvm.RoadKit
section Sound
variable {P : Prog} {tb : List Jvm.Cond} {C : String} {fn : Nat → String × String} {F : List Nat} {nsl : Nat} {nm : Nat → MethodName} {bt : Nat → ByteArray} {R : List Nat} {top : Nat}
variable {l : Launch} {Z : State} {a0 : Array Value} {n0 : Nat}
def Endd (C : String) (fn : Nat → String × String) (F : List Nat) (Z : State) (n0 : Nat) (p : Program) (l : Launch) (e : Env) (Rm : Jvm.Room) (s : State) (mid : MethodId) (args : Array Value) (below : List Frame) (meth : Method) (c : Code) (rt0 : Option FieldType) (start : State) (v : Option Value) (H' : AH) : Prop :=
  ∃ T' locs' k' n', Stand p l e Rm s mid args below meth c T' locs' k' n' ∧ RelH C fn F Z n0 T'.heap H' ∧ Fr n0 locs' ∧ k' ≤ Rm.cells ∧ n' ≤ Rm.slots ∧ (rt0 = none → v = none) ∧
    ∀ fs, (∀ (f : JFrame) (acts : List Action), f.method = mid → f.locked = none → f.entered = [] → (doReturn e (T'.setTop f) acts v).1 = T'.setFrames fs) → Steps p.tables e below start (T'.setFrames fs)
def Says (P : Prog) (C : String) (fn : Nat → String × String) (F : List Nat) (nm : Nat → MethodName) (bt : Nat → ByteArray) (l : Launch) (Z : State) (n0 m pc : Nat) (L : List Slot) (S : List Value) (k n : Nat) (H : AH) (v : Option Value) (H' : AH) : Prop :=
  ∀ (p : Program) (e : Env) (s : State) (mid : MethodId) (args : Array Value) (below : List Frame) (meth : Method) (c : Code) (T : State) (locs : List Loc), Stand p l e (rm P m) s mid args below meth c T locs k n → p.tables.exec = Jvm.exec → Z.Warmed39 s.vm → c.code = bt m → c.maxLocals = ml P m →
    s.vm.findClass (nm m).cls = some mid.cls → meth.name = (nm m).name → meth.sig.returnType = rt P m → L.length = ml P m → RelH C fn F Z n0 T.heap H → Fr n0 locs → k ≤ (rm P m).cells → n ≤ (rm P m).slots →
    Endd C fn F Z n0 p l e (rm P m) s mid args below meth c (rt P m) (T.setTop (mkF mid pc L.toArray S)) v H'
theorem Endd.back {p : Program} {e : Env} {Rm : Jvm.Room} {s : State} {mid : MethodId} {args : Array Value} {below : List Frame} {meth : Method} {c : Code} {rt0 : Option FieldType} {start start' : State} {v : Option Value} {H' : AH}
    (h : Endd C fn F Z n0 p l e Rm s mid args below meth c rt0 start' v H') (st : ∀ t, Steps p.tables e below start' t → Steps p.tables e below start t) : Endd C fn F Z n0 p l e Rm s mid args below meth c rt0 start v H' := by
  obtain ⟨T', locs', k', n', h1, h2, h3, h4, h5, h6, h7⟩ := h
  exact ⟨T', locs', k', n', h1, h2, h3, h4, h5, h6, fun fs g => st _ (h7 fs g)⟩
theorem met_of {m : Nat} {as : List Value} {H H' : AH} {v : Option Value} {h : Heap} (ws : List Jvm.Cond) (hp : plainName (nm m).cls = true) (hl : (Sym.laidSlots as).length ≤ ml P m) (r : RelH C fn F Z n0 h H)
    (hS : Says P C fn F nm bt l Z n0 m 0 (ent P m as) [] 0 0 H v H') :
    MetFree l (nm m) (head1 (Jvm.Cond.code (nm m) (bt m) (ml P m) (rt P m) :: ws) (rm P m)) (fun a U => a = as.toArray ∧ Z.Warmed39 U.vm ∧ U.heap = h) (fun _ _ _ _ _ => True)
      (fun _ U o U' => ∃ v' L, o = .returned v' ∧ (v' = v ∧ Fr n0 L ∧ RelH C fn F Z n0 U'.heap H') ∧ FrameEnd U o U' L (rm P m).cells (rm P m).slots) := by
  refine MetFree.of_bodySF (plainFor_of_name hp) hisR ?_
  intro p e s mid args below meth c s₁ Bd hml0 hP hK
  obtain ⟨rfl, hZ, hh⟩ := hP
  have X0 : Stand p l e (rm P m) s mid as.toArray below meth c s₁ [] 0 0 := Stand.of_body Bd
  have e0 : s₁.heap = h := by rw [← hh, Bd.state]; rfl
  have hle : (ent P m as).length = ml P m := by simp [ent]; omega
  obtain ⟨T', locs', k', n', X1, r1, N1, hk1, hn1, hv1, st1⟩ := hS p e s mid as.toArray below meth c s₁ [] X0 Bd.exec hZ Bd.bytes hml0 (findClass_of_methodNamed Bd.named) (name_of_methodNamed Bd.named Bd.method).1 Bd.returns hle (by rw [e0]; exact r) (Fr.nil n0) (Nat.zero_le _) (Nat.zero_le _)
  obtain ⟨fs, hr, hrun, hended, hW, hsame⟩ := X1.leave (v := v) (fun q => hv1 (Bd.returns.symm.trans q))
  refine ⟨_, _, (Jvm.Free.XT.entry (Ls := (ent P m as).toArray) (by simp [ent])).trans (st1 fs hr), hrun, hended, v, locs', rfl, ⟨rfl, N1, r1⟩, ⟨_, rfl⟩, hW, hsame.mono hk1 hn1⟩
theorem ret_ok {m : Nat} {ins : Instr} {S : List Value} {v : Option Value} (h : ret P m ins S = some v) : (rt P m = none ∧ v = none ∧ ins = .return_ ∧ S = []) ∨ ∃ t w rest, rt P m = some t ∧ v = some w ∧ S = w :: rest ∧ narrow t w = w ∧
    ((ins = .ireturn ∧ (t = .int ∨ t = .boolean ∨ t = .byte ∨ t = .char ∨ t = .short) ∧ ∃ z, w = .int z) ∨ (ins = .lreturn ∧ t = .long ∧ ∃ z, w = .long z)) := by
  unfold ret at h
  split at h
  · split at h
    · rename_i g; cases h; exact Or.inl ⟨g.1, rfl, rfl, g.2⟩
    · cases h
  · split at h
    · rename_i z rest g; cases h; exact Or.inr ⟨.int, _, rest, g, rfl, rfl, rfl, Or.inl ⟨rfl, Or.inl rfl, z, rfl⟩⟩
    · rename_i z rest g
      split at h
      · rename_i g0
        cases h
        refine Or.inr ⟨.boolean, _, rest, g, rfl, rfl, ?_, Or.inl ⟨rfl, Or.inr (Or.inl rfl), z, rfl⟩⟩
        rcases g0 with rfl | rfl <;> rfl
      · cases h
    · cases h
  · split at h
    · rename_i z rest g; cases h; exact Or.inr ⟨.long, _, rest, g, rfl, rfl, rfl, Or.inr ⟨rfl, rfl, z, rfl⟩⟩
    · cases h
  · cases h
theorem cal_ok {m m' k n : Nat} {ins : Instr} {aux : Int} {S a r : List Value} {H : AH} (h : cal P m ins aux S k n H = some (m', a, r)) : aux = (m' : Int) ∧ kindOk ins (kd P m') = true ∧ may P m m' a r k n H = true ∧ S = a.reverse ++ r := by
  have h1 : cal1 P m ins aux S k n H = some (m', a, r) := by
    unfold cal at h
    split at h <;> first | exact h | (cases h)
  unfold cal1 at h1
  split at h1
  · rename_i g
    cases h1
    exact ⟨by omega, g.2.1, g.2.2, by rw [List.reverse_reverse]; exact (List.take_append_drop ..).symm⟩
  · cases h1
end Sound
end Jvm.JX

namespace Jvm.JX
open Sem ClassFile Op Lib Jvm.Stand Jvm.Free Jvm.LawKit Jvm.RoadKit
section Sound
variable {P : Prog} {tb : List Jvm.Cond} {C : String} {fn : Nat → String × String} {F : List Nat} {nsl : Nat} {nm : Nat → MethodName} {bt : Nat → ByteArray} {R : List Nat} {top : Nat}
variable {l : Launch} {Z : State} {a0 : Array Value} {n0 : Nat}
theorem may_ok {m m' k n : Nat} {a r : List Value} {H : AH} (h : may P m m' a r k n H = true) : (Sym.laidSlots a).length ≤ ml P m' ∧ a.length = na P m' ∧ (rm P m').frames + 1 ≤ (rm P m).frames ∧ cs r + (ml P m' + 11) + (rm P m').locals ≤ (rm P m).locals ∧
    (((rm P m').cells = 0 ∧ (rm P m').slots = 0) ∨ (k + (rm P m').cells ≤ (rm P m).cells ∧ n + (rm P m').slots ≤ (rm P m).slots)) ∧ (kd P m' = 0 ∨ rcv H a = true) := by
  simpa [may, and_assoc] using h
theorem rcv_ok {H : AH} {a : List Value} (h : rcv H a = true) : ∃ b as, a = .ref b :: as ∧ isO H b = true := by
  unfold rcv at h
  split at h
  · exact ⟨_, _, rfl, h⟩
  · cases h
set_option maxHeartbeats 1000000 in
theorem call_go {m pc len k n m' : Nat} {aux : Int} {L : List Slot} {S a r : List Value} {H H1 : AH} {ins : Instr} {v1 : Option Value} {p : Program} {e : Env} {s : State} {mid : MethodId} {args : Array Value} {below : List Frame} {meth : Method} {c : Code} {T : State} {locs : List Loc}
    (hG : Good P tb C fn F nsl nm bt R top) (hw : ∀ d ∈ tb, d.before a0 Z = true) (hm : m ∈ R) (hrow : P.1 m pc = some (ins, len, aux)) (hc : cal P m ins aux S k n H = some (m', a, r)) (hS : m' ∈ R → Says P C fn F nm bt l Z n0 m' 0 (ent P m' a) [] 0 0 H v1 H1)
    (X : Stand p l e (rm P m) s mid args below meth c T locs k n) (hx : p.tables.exec = Jvm.exec) (hZ : Z.Warmed39 s.vm)
    (hby : c.code = bt m) (hml : c.maxLocals = ml P m) (hown : s.vm.findClass (nm m).cls = some mid.cls) (hL : L.length = ml P m) (rr : RelH C fn F Z n0 T.heap H) (N : Fr n0 locs) (hk : k ≤ (rm P m).cells) (hn : n ≤ (rm P m).slots) :
    Go C fn F Z n0 p l e (rm P m) s mid args below meth c (T.setTop (mkF mid pc L.toArray S)) (ml P m) (pc + len, L, v1.toList ++ r, k + (rm P m').cells, n + (rm P m').slots, H1) := by
  obtain ⟨hd, hl, ho⟩ := (hG.2.2.2.2.1 m hm).2.2 pc ins len aux hrow
  replace hd := hb hby hd
  obtain ⟨e1, e2, e3, e4⟩ := cal_ok hc
  obtain ⟨y1, y2, y3, y4, y5, y6⟩ := may_ok e3
  have hnt : m' ≠ top := fun q => by
    have := hG.2.2.2.2.2.2 m hm pc ins len aux hrow (by rw [e1, q])
    rw [q, this] at e2; cases e2
  have y5' : k + (rm P m').cells ≤ (rm P m).cells ∧ n + (rm P m').slots ≤ (rm P m).slots := by rcases y5 with ⟨q1, q2⟩ | q <;> omega
  have hsize : (mkF mid pc L.toArray S).locals.size = c.maxLocals := by rw [hml, ← hL]; simp
  have hcs : 2 * (mkF mid pc L.toArray S).monitorRoom + (r.map fun v => v.category).sum ≤ cs r := by show 2 * 0 + _ ≤ _; exact Nat.le_of_eq (Nat.zero_add _)
  subst e1
  cases ins with
  | invokevirtual ix =>
    have hl : len = 3 := hl
    subst hl
    obtain ⟨mR, lnk⟩ := ho
    rw [Int.toNat_natCast] at mR lnk
    obtain ⟨c1, c2, ⟨ps, rr0, c3, c4⟩, c5, c6, c7, c8, c9⟩ := hG.2.2.2.2.2.1 m' mR hnt
    have hk0 : kd P m' ≠ 0 := fun q => by rw [q] at e2; cases e2
    obtain ⟨hcls, hinst⟩ := c6 hk0
    obtain ⟨b, as, rfl, hb⟩ := rcv_ok (y6.resolve_left hk0)
    obtain ⟨Eb, -⟩ := rr.obj hb
    have hlen : as.length = ps.length := by rw [if_neg hk0] at c4; simp only [List.length_cons] at y2; omega
    have eS : S = as.reverse ++ .ref b :: r := by rw [e4]; simp
    subst eS
    obtain ⟨pn, hy, -⟩ := hG.2.2.2.2.1 m' mR
    have BK := backOf (Q := fun v' h' L' => v' = v1 ∧ Fr n0 L' ∧ RelH C fn F Z n0 h' H1) (R := rm P m) (W := cs r) (p := p) (e := e) (below := below) (s := s) (args := args) (len := 3) (met_of [] pn y1 rr (hS mR)) hZ (hw _ c1) (hw _ c2) y3 y4
    have hkk : kd P m' = 1 ∨ kd P m' = 2 := by simpa [kindOk] using e2
    rcases hkk with hkk | hkk
    · obtain ⟨d1, d2⟩ := c7 hkk
      obtain ⟨cB, kB, q1, q2, q3⟩ := isOf (T := T) hZ rfl Eb
      obtain ⟨v, vm1, ⟨T1, L1, k1, n1⟩, -, X1, ⟨Lc, hQ, l1, z1, z2⟩, st⟩ := X.virtualBack hx (y := nm m') (z := nm m') hown (mvT hZ (hw _ lnk)) (mvT hZ (hw _ d1)) (notFace_of_selects (args := #[]) (mvT hZ (hw _ d2))) (mvT hZ (hw _ d2)) (mvT hZ (hw _ hinst)) hy BK q1 q3 (g := mkF mid pc L.toArray (as.reverse ++ .ref b :: r)) rfl hsize (Steps.refl _) (argsL := as) (rest := r) (lenOf c3 hlen) rfl hcs hd (fun _ _ => ⟨rfl, rfl, y5'.1, y5'.2⟩)
      dsimp only [Pt.U, Pt.locs, Pt.cells, Pt.slots] at X1 l1 z1 z2 st hQ
      subst l1 z1 z2
      obtain ⟨rfl, N1, r1⟩ := hQ
      exact ⟨T1, _, X1, r1, Fr.app N N1, y5'.1, y5'.2, hL, fun t g => st.trans g⟩
    · obtain ⟨ci, ki, i1, i2, i3, i4, -⟩ := Cond.instantiable_spec (show (Jvm.Cond.instantiable C nsl).before args s = true from mv hZ (hw _ hG.1))
      have hni : ki.isInterface = false := (Bool.or_eq_false_iff.mp i4).1
      have hpriv := Cond.privateMethod_at (mvP hZ (hw _ (c8 hkk)) (args := #[]))
      have hsel : (Jvm.Cond.selects (nm m').cls (nm m') (nm m')).before args s = true := selects_self_of_private (by rw [hcls]; exact i1) i2 hni hpriv (mvT hZ (hw _ hinst)) hy
      obtain ⟨cl, hcl, hcl'⟩ := Eb.cell
      obtain ⟨v, vm1, ⟨T1, L1, k1, n1⟩, -, X1, ⟨Lc, hQ, l1, z1, z2⟩, st⟩ := X.privateBack hx (y := nm m') hown (mvT hZ (hw _ lnk)) (mvT hZ (hw _ hinst)) hsel hpriv (mvT hZ (hw _ c1)) hy BK (g := mkF mid pc L.toArray (as.reverse ++ .ref b :: r)) rfl hsize (Steps.refl _) (a := b) hcl hcl' (argsL := as) (rest := r) (lenOf c3 hlen) rfl hcs hd (fun _ _ => ⟨rfl, rfl, y5'.1, y5'.2⟩)
      dsimp only [Pt.U, Pt.locs, Pt.cells, Pt.slots] at X1 l1 z1 z2 st hQ
      subst l1 z1 z2
      obtain ⟨rfl, N1, r1⟩ := hQ
      exact ⟨T1, _, X1, r1, Fr.app N N1, y5'.1, y5'.2, hL, fun t g => st.trans g⟩
  | invokestatic ix =>
    have hl : len = 3 := hl
    subst hl
    obtain ⟨mR, lnk⟩ := ho
    rw [Int.toNat_natCast] at mR lnk
    obtain ⟨c1, c2, ⟨ps, rr0, c3, c4⟩, c5, c6, c7, c8, c9⟩ := hG.2.2.2.2.2.1 m' mR hnt
    have hk0 : kd P m' = 0 := by simpa [kindOk] using e2
    have hlen : a.length = ps.length := by rw [if_pos hk0] at c4; omega
    subst e4
    obtain ⟨pn, hy, -⟩ := hG.2.2.2.2.1 m' mR
    have BK := backOf (Q := fun v' h' L' => v' = v1 ∧ Fr n0 L' ∧ RelH C fn F Z n0 h' H1) (R := rm P m) (W := cs r) (p := p) (e := e) (below := below) (s := s) (args := args) (len := 3) (met_of [] pn y1 rr (hS mR)) hZ (hw _ c1) (hw _ c2) y3 y4
    obtain ⟨v, vm1, ⟨T1, L1, k1, n1⟩, -, X1, ⟨Lc, hQ, l1, z1, z2⟩, st⟩ := Jvm.LawKit.callS X hx (y := nm m') hown (mvT hZ (hw _ lnk)) (mvT hZ (hw _ (c5 hk0))) (mvT hZ (hw _ c2)) (mvT hZ (hw _ c1)) hy BK (g := mkF mid pc L.toArray (a.reverse ++ r)) rfl hsize (argsL := a) (rest := r) (lenOf c3 hlen) rfl hcs hd (fun _ _ => ⟨rfl, rfl, y5'.1, y5'.2⟩)
    dsimp only [Pt.U, Pt.locs, Pt.cells, Pt.slots] at X1 l1 z1 z2 st hQ
    subst l1 z1 z2
    obtain ⟨rfl, N1, r1⟩ := hQ
    exact ⟨T1, _, X1, r1, Fr.app N N1, y5'.1, y5'.2, hL, fun t g => st t g⟩
  | invokespecial ix =>
    have hl : len = 3 := hl
    subst hl
    obtain ⟨mR, lnk⟩ := ho.2 (by omega)
    rw [Int.toNat_natCast] at mR lnk
    obtain ⟨c1, c2, ⟨ps, rr0, c3, c4⟩, c5, c6, c7, c8, c9⟩ := hG.2.2.2.2.2.1 m' mR hnt
    have hk3 : kd P m' = 3 := by simpa [kindOk] using e2
    have hk0 : kd P m' ≠ 0 := by omega
    obtain ⟨hcls, hinst⟩ := c6 hk0
    obtain ⟨hn3, hr3⟩ := c9 hk3
    obtain ⟨b, as, rfl, hb⟩ := rcv_ok (y6.resolve_left hk0)
    have hlen : as.length = ps.length := by rw [if_neg hk0] at c4; simp only [List.length_cons] at y2; omega
    have eS : S = as.reverse ++ .ref b :: r := by rw [e4]; simp
    subst eS
    obtain ⟨pn, hy, -⟩ := hG.2.2.2.2.1 m' mR
    have BK := backOf (Q := fun v' h' L' => v' = v1 ∧ Fr n0 L' ∧ RelH C fn F Z n0 h' H1) (R := rm P m) (W := cs r) (p := p) (e := e) (below := below) (s := s) (args := args) (len := 3) (met_of [] pn y1 rr (hS mR)) hZ (hw _ c1) (hw _ c2) y3 y4
    rw [hr3] at c1
    obtain ⟨v, vm1, ⟨T1, L1, k1, n1⟩, -, X1, ⟨Lc, hQ, l1, z1, z2⟩, st⟩ := X.specialBack hx (y := nm m') hn3 hown (mvT hZ (hw _ lnk)) (mvT hZ (hw _ hinst)) (mvT hZ (hw _ c1)) hy BK (g := mkF mid pc L.toArray (as.reverse ++ .ref b :: r)) rfl hsize (Steps.refl _) (a := b) (argsL := as) (rest := r) (lenOf c3 hlen) rfl hcs hd (fun _ _ => ⟨rfl, rfl, y5'.1, y5'.2⟩)
    dsimp only [Pt.U, Pt.locs, Pt.cells, Pt.slots] at X1 l1 z1 z2 st hQ
    subst l1 z1 z2
    obtain ⟨rfl, N1, r1⟩ := hQ
    exact ⟨T1, _, X1, r1, Fr.app N N1, y5'.1, y5'.2, hL, fun t g => st.trans g⟩
  | _ => cases e2
theorem sound (hG : Good P tb C fn F nsl nm bt R top) (hw : ∀ d ∈ tb, d.before a0 Z = true) : ∀ (f m : Nat), m ∈ R → ∀ (pc : Nat) (L : List Slot) (S : List Value) (k n : Nat) (H : AH) (v : Option Value) (H' : AH), run P f m pc L S k n H = some (v, H') → Says P C fn F nm bt l Z n0 m pc L S k n H v H' := by
  intro f
  induction f with
  | zero => intro m _ pc L S k n H v H' h; cases h
  | succ f ih =>
    intro m hm pc L S k n H v H' h p e s mid args below meth c T locs X hx hZ hby hml hown hnm hret hL r N hk hn
    rw [run_succ] at h
    cases hd : P.1 m pc with
    | none => rw [hd] at h; cases h
    | some d =>
      obtain ⟨ins, len, aux⟩ := d
      rw [hd] at h
      simp only at h
      cases hr : ret P m ins S with
      | some v1 =>
        rw [hr] at h
        cases h
        obtain ⟨hdec, hl, -⟩ := (hG.2.2.2.2.1 m hm).2.2 pc ins len aux hd
        replace hdec := hb hby hdec
        rcases ret_ok hr with ⟨q1, rfl, rfl, q0⟩ | ⟨t, w, rest, q1, rfl, rfl, q4, q5⟩
        · have hl : len = 1 := hl
          subst hl
          exact ⟨T, locs, k, n, X, r, N, hk, hn, fun _ => rfl, fun fs g => by subst q0; exact X.returnOut hx (hret.trans q1) hdec g⟩
        · refine ⟨T, locs, k, n, X, r, N, hk, hn, fun q => absurd (q1.symm.trans q) (by simp), fun fs g => ?_⟩
          have hl1 : len = 1 := by
            rcases q5 with ⟨rfl, -⟩ | ⟨rfl, -⟩ <;> exact hl
          subst hl1
          exact retOut X hx (hret.trans q1) q4 (q5.elim (fun u => Or.inl u) (fun u => Or.inr (Or.inl u))) hdec g
      | none =>
        rw [hr] at h
        simp only at h
        cases hc : cal P m ins aux S k n H with
        | some cc =>
          obtain ⟨m', a, rs⟩ := cc
          rw [hc] at h
          simp only at h
          cases hq : run P f m' 0 (ent P m' a) [] 0 0 H with
          | none => rw [hq] at h; cases h
          | some q =>
            obtain ⟨v1, H1⟩ := q
            rw [hq] at h
            obtain ⟨T1, locs1, X1, r1, N1, hk1, hn1, hL1, st⟩ := call_go hG hw hm hd hc (fun mR => ih m' mR _ _ _ _ _ _ _ _ hq) X hx hZ hby hml hown hL r N hk hn
            exact (ih m hm _ _ _ _ _ _ _ _ h p e s mid args below meth c T1 locs1 X1 hx hZ hby hml hown hnm hret hL1 r1 N1 hk1 hn1).back st
        | none =>
          rw [hc] at h
          simp only at h
          cases hs : stp P m ins len aux pc L S k n H with
          | none => rw [hs] at h; cases h
          | some q =>
            rw [hs] at h
            obtain ⟨T1, locs1, X1, r1, N1, hk1, hn1, hL1, st⟩ := stp_go hG hw hm hd hs X hx hZ hby hml hown hnm hL r N hk hn
            exact (ih m hm _ _ _ _ _ _ _ _ h p e s mid args below meth c T1 locs1 X1 hx hZ hby hml hown hnm hret hL1 r1 N1 hk1 hn1).back st
theorem law_met (hG : Good P tb C fn F nsl nm bt R top) (hw : ∀ d ∈ tb, d.before a0 Z = true) {as : List Value} {H : AH} {h : Heap} {Q : Option Value → AH → Prop} (ws : List Jvm.Cond) (ht : top ∈ R) (hl : (Sym.laidSlots as).length ≤ ml P top) (r : RelH C fn F Z n0 h H) (hC : Cl P top as H Q) :
    MetFree l (nm top) (head1 (Jvm.Cond.code (nm top) (bt top) (ml P top) (rt P top) :: ws) (rm P top)) (fun a U => a = as.toArray ∧ Z.Warmed39 U.vm ∧ U.heap = h) (fun _ _ _ _ _ => True)
      (fun _ U o U' => ∃ v' L, o = .returned v' ∧ (Fr n0 L ∧ ∃ H', Q v' H') ∧ FrameEnd U o U' L (rm P top).cells (rm P top).slots) := by
  obtain ⟨f, v, H', h1, h2⟩ := hC
  have hM := met_of (l := l) (h := h) ws (hG.2.2.2.2.1 top ht).1 hl r (sound hG hw f top ht _ _ _ _ _ _ _ _ h1)
  intro p e ha hc hk s m args below hf happ hP hK
  obtain ⟨n, o, q1, q2, q3, v', L, q4, ⟨q5, q6, q7⟩, q8⟩ := hM p e ha hc hk s m args below hf happ hP hK
  exact ⟨n, o, q1, q2, q3, v', L, q4, ⟨q6, H', by rw [q5]; exact h2⟩, q8⟩
end Sound
end Jvm.JX
namespace Jvm.JX
open Sem ClassFile Op Lib Jvm.Stand Jvm.Free Jvm.LawKit Jvm.RoadKit
theorem fa0 {α : Type} {p : α → Prop} : ∀ x ∈ ([] : List α), p x := fun _ q => nomatch q
theorem faS {α : Type} {p : α → Prop} {y : α} {L : List α} (q : p y) (r : ∀ x ∈ L, p x) : ∀ x ∈ y :: L, p x := fun x z => (List.mem_cons.mp z).elim (fun u => u ▸ q) (r x)
def rowChk (FL ML : List (Nat × Nat × Nat)) (KI KJ : List (Nat × Nat × Int)) (AT : List FieldType) (WF : List Nat) (nsl nw : Nat) (own : Nat) (ini : Bool) (ins : Instr) (aux : Int) : Bool :=
  match ins with
  | .getfield i => FL.contains (own, i, aux.toNat)
  | .putfield i => FL.contains (own, i, aux.toNat) && (WF.contains aux.toNat || ini)
  | .new i => decide (aux.toNat = nsl) && decide (own = 1) && decide (i = nw)
  | .newarray t => decide (newarray.typeOf t ∈ AT)
  | .ldc i => KI.contains (own, i, aux)
  | .ldc2_w i => KJ.contains (own, i, aux)
  | .invokevirtual i => ML.contains (own, i, aux.toNat)
  | .invokestatic i => ML.contains (own, i, aux.toNat)
  | .invokespecial i => if aux = -1 then decide (own = 0) && decide (i = 1) else ML.contains (own, i, aux.toNat)
  | _ => true
def rowOne (FL ML : List (Nat × Nat × Nat)) (KI KJ : List (Nat × Nat × Int)) (AT : List FieldType) (WF : List Nat) (nsl nw : Nat) (bt : Nat → ByteArray) (own : Nat → Nat) (ini : Nat → Bool) (m : Nat) (r : Row) : Bool :=
  decide (decode (bt m) r.1 = .ok (r.2.1, r.2.2.1)) && decide (r.2.2.1 = ilen2 r.2.1 r.2.2.1) && rowChk FL ML KI KJ AT WF nsl nw (own m) (ini m) r.2.1 r.2.2.2
theorem lookup_mem {L : List Row} {pc : Nat} {d : Instr × Nat × Int} (h : L.lookup pc = some d) : (pc, d) ∈ L := by
  induction L with
  | nil => cases h
  | cons x L ih =>
    obtain ⟨k, v⟩ := x
    rw [List.lookup_cons] at h
    by_cases e : pc = k
    · subst e; simp at h; subst h; exact List.mem_cons_self ..
    · have : (pc == k) = false := by simpa using e
      rw [this] at h; exact List.mem_cons_of_mem _ (ih h)
theorem row_ok {P : Prog} {tb : List Jvm.Cond} {C : String} {fn : Nat → String × String} {F : List Nat} {nsl nw : Nat} {nm : Nat → MethodName} {R : List Nat} {cn : Nat → String} {own : Nat → Nat} {ini : Nat → Bool}
    {FL ML : List (Nat × Nat × Nat)} {KI KJ : List (Nat × Nat × Int)} {AT : List FieldType} {WF : List Nat} {m : Nat} {ins : Instr} {aux : Int}
    (hown : (nm m).cls = cn (own m)) (hini : ini m = true → (nm m).cls = C ∧ (nm m).name = "<init>")
    (hFL : ∀ t ∈ FL, t.2.2 ∈ F ∧ Jvm.Cond.fieldLink (cn t.1) t.2.1 C (fn t.2.2).1 (fn t.2.2).2 ∈ tb) (hWF : ∀ k ∈ WF, Jvm.Cond.lays C C (fn k).1 (fn k).2 ∈ tb)
    (hML : ∀ t ∈ ML, t.2.2 ∈ R ∧ Jvm.Cond.methodLink (cn t.1) t.2.1 (nm t.2.2) ∈ tb) (hKI : ∀ t ∈ KI, Jvm.Cond.constant (cn t.1) t.2.1 (Int32.ofInt t.2.2) ∈ tb) (hKJ : ∀ t ∈ KJ, Jvm.Cond.constantLong (cn t.1) t.2.1 (Int64.ofInt t.2.2) ∈ tb)
    (hAT : ∀ t ∈ AT, Jvm.Cond.arrayClass t ∈ tb) (hN : Jvm.Cond.classLink (cn 1) nw C ∈ tb)
    (hO : Jvm.Cond.methodLink (cn 0) 1 Lib.objectInit ∈ tb ∧ Jvm.Cond.instanceMethod Lib.objectInit ∈ tb ∧ Jvm.Cond.code Lib.objectInit ⟨#[0xb1]⟩ 1 none ∈ tb)
    (h : rowChk FL ML KI KJ AT WF nsl nw (own m) (ini m) ins aux = true) : RowOk P tb C fn F nsl nm R m ins aux := by
  cases ins <;> first | trivial | skip
  case getfield i => have q := hFL _ (List.contains_iff_mem.mp h); exact ⟨q.1, by rw [hown]; exact q.2⟩
  case putfield i =>
    simp only [rowChk, Bool.and_eq_true, Bool.or_eq_true] at h
    have q := hFL _ (List.contains_iff_mem.mp h.1)
    exact ⟨q.1, by rw [hown]; exact q.2, h.2.imp (fun u => hWF _ (List.contains_iff_mem.mp u)) hini⟩
  case new i =>
    simp only [rowChk, Bool.and_eq_true, decide_eq_true_eq] at h
    obtain ⟨⟨h1, h2⟩, h3⟩ := h
    exact ⟨h1, by rw [hown, h2, h3]; exact hN⟩
  case newarray t => exact hAT _ (of_decide_eq_true h)
  case ldc i => have q := hKI _ (List.contains_iff_mem.mp h); show _ ∈ tb; rw [hown]; exact q
  case ldc2_w i => have q := hKJ _ (List.contains_iff_mem.mp h); show _ ∈ tb; rw [hown]; exact q
  case invokevirtual i => have q := hML _ (List.contains_iff_mem.mp h); exact ⟨q.1, by rw [hown]; exact q.2⟩
  case invokestatic i => have q := hML _ (List.contains_iff_mem.mp h); exact ⟨q.1, by rw [hown]; exact q.2⟩
  case invokespecial i =>
    simp only [rowChk] at h
    refine ⟨fun e => ?_, fun e => ?_⟩
    · rw [if_pos e] at h
      simp only [Bool.and_eq_true, decide_eq_true_eq] at h
      rw [hown, h.1, h.2]; exact hO
    · rw [if_neg (by omega)] at h
      have q := hML _ (List.contains_iff_mem.mp h)
      exact ⟨q.1, by rw [hown]; exact q.2⟩
theorem rel_H0 {C : String} {fn : Nat → String × String} {F : List Nat} {Z : State} (h : Heap) : RelH C fn F Z h.size h (H0 h.size) := ⟨rfl, Nat.le_refl _, fun a => ⟨fun q => (by cases q), trivial⟩⟩
theorem rel_H1 {C : String} {fn : Nat → String × String} {F : List Nat} {s : State} {a : Addr} {cl : Cell} (hf : Fit s) (A : Arr s s.heap a cl .int) (hl : cl.slots.size < 2 ^ 31) :
    ∃ f : Nat → Int32, RelH C fn F s s.heap.size s.heap (H1 s.heap.size a cl.slots.size f) := by
  refine ⟨fun i => match cl.slots[i]? with | some (.int x) => x | _ => 0, rfl, Nat.le_refl _, fun b => ?_⟩
  simp only [H1]
  by_cases e : b = a
  · subst e
    simp only [if_true]
    refine ⟨fun q => (by cases q), hl, cl, A, rfl, fun i hi => ?_⟩
    have hi : i < cl.slots.size := hi
    have hj := idx_in hi hl
    obtain ⟨v, q1, q2⟩ := elem_fit hf A hj
    have e2 : (i.toInt32).toNatClampNeg = i := by
      have := len_toInt (n := i) (by omega)
      simp only [Int32.toNatClampNeg, this]; omega
    rw [e2] at q1
    obtain ⟨x, rfl⟩ := fit_I q2 (Or.inl rfl)
    show _ = some (Value.int (match cl.slots[i]? with | some (.int x) => x | _ => 0))
    rw [q1]
  · simp only [e, if_false]; exact ⟨fun q => (by cases q), trivial⟩
end Jvm.JX

namespace Jvm.JX.Pj
open Jvm Jvm.ClassFile Sem Op Lib Jvm.JX
def r1 : List Row := [(0, .aload_n 0, 1, 0), (1, .invokespecial 1, 3, (-1)), (4, .aload_n 0, 1, 0), (5, .sipush 128, 3, 0), (8, .newarray .int, 2, 0), (10, .putfield 7, 3, 1), (13, .aload_n 0, 1, 0), (14, .sipush 128, 3, 0), (17, .newarray .int, 2, 0), (19, .putfield 13, 3, 2), (22, .aload_n 0, 1, 0), (23, .sipush 128, 3, 0), (26, .newarray .int, 2, 0), (28, .putfield 16, 3, 3), (31, .aload_n 0, 1, 0), (32, .sipush 128, 3, 0), (35, .newarray .boolean, 2, 0), (37, .putfield 19, 3, 4), (40, .aload_n 0, 1, 0), (41, .sipush 128, 3, 0), (44, .newarray .boolean, 2, 0), (46, .putfield 23, 3, 5), (49, .aload_n 0, 1, 0), (50, .sipush 1024, 3, 0), (53, .newarray .int, 2, 0), (55, .putfield 26, 3, 6), (58, .aload_n 0, 1, 0), (59, .bipush 32, 2, 0), (61, .newarray .int, 2, 0), (63, .putfield 29, 3, 7), (66, .aload_n 0, 1, 0), (67, .bipush 32, 2, 0), (69, .newarray .boolean, 2, 0), (71, .putfield 32, 3, 8), (74, .aload_n 0, 1, 0), (75, .bipush 32, 2, 0), (77, .newarray .int, 2, 0), (79, .putfield 35, 3, 9), (82, .aload_n 0, 1, 0), (83, .bipush 32, 2, 0), (85, .newarray .int, 2, 0), (87, .putfield 38, 3, 10), (90, .aload_n 0, 1, 0), (91, .bipush 32, 2, 0), (93, .newarray .int, 2, 0), (95, .putfield 41, 3, 11), (98, .iload_n 1, 1, 0), (99, .istore_n 2, 1, 0), (100, .iload_n 2, 1, 0), (101, .iconst 2, 1, 0), (102, .if_icmp .ge 5, 3, 0), (105, .iconst 2, 1, 0), (106, .istore_n 2, 1, 0), (107, .iload_n 2, 1, 0), (108, .bipush 32, 2, 0), (110, .if_icmp .le 6, 3, 0), (113, .bipush 32, 2, 0), (115, .istore_n 2, 1, 0), (116, .aload_n 0, 1, 0), (117, .iload_n 2, 1, 0), (118, .putfield 44, 3, 0), (121, .aload_n 0, 1, 0), (122, .iconst 0, 1, 0), (123, .putfield 48, 3, 12), (126, .aload_n 0, 1, 0), (127, .iconst 0, 1, 0), (128, .putfield 51, 3, 13), (131, .aload_n 0, 1, 0), (132, .lconst 0, 1, 0), (133, .putfield 54, 3, 14), (136, .aload_n 0, 1, 0), (137, .iconst (-1), 1, 0), (138, .putfield 58, 3, 15), (141, .aload_n 0, 1, 0), (142, .iconst (-1), 1, 0), (143, .putfield 61, 3, 16), (146, .iconst 0, 1, 0), (147, .istore_n 3, 1, 0), (148, .iload_n 3, 1, 0), (149, .bipush 32, 2, 0), (151, .if_icmp .ge 16, 3, 0), (154, .aload_n 0, 1, 0), (155, .getfield 29, 3, 7), (158, .iload_n 3, 1, 0), (159, .iconst 0, 1, 0), (160, .iastore, 1, 0), (161, .iinc 3 1, 3, 0), (164, .goto (-16), 3, 0), (167, .aload_n 0, 1, 0), (168, .invokevirtual 64, 3, 29), (171, .return_, 1, 0)]
def r2 : List Row := [(0, .aload_n 0, 1, 0), (1, .iload_n 1, 1, 0), (2, .invokevirtual 67, 3, 39), (5, .ifCond .eq 11, 3, 0), (8, .aload_n 0, 1, 0), (9, .iload_n 2, 1, 0), (10, .invokevirtual 67, 3, 39), (13, .ifCond .ne 6, 3, 0), (16, .bipush (-2), 2, 0), (18, .ireturn, 1, 0), (19, .iload_n 1, 1, 0), (20, .iload_n 2, 1, 0), (21, .if_icmp .ne 6, 3, 0), (24, .bipush (-3), 2, 0), (26, .ireturn, 1, 0), (27, .aload_n 0, 1, 0), (28, .invokevirtual 71, 3, 22), (31, .istore 4, 2, 0), (33, .iload 4, 2, 0), (35, .iconst (-1), 1, 0), (36, .if_icmp .ne 6, 3, 0), (39, .bipush (-4), 2, 0), (41, .ireturn, 1, 0), (42, .aload_n 0, 1, 0), (43, .iload_n 3, 1, 0), (44, .invokevirtual 75, 3, 41), (47, .istore 5, 2, 0), (49, .aload_n 0, 1, 0), (50, .iload 4, 2, 0), (52, .iload_n 1, 1, 0), (53, .iload_n 2, 1, 0), (54, .iload 5, 2, 0), (56, .invokevirtual 79, 3, 23), (59, .aload_n 0, 1, 0), (60, .iload 4, 2, 0), (62, .invokevirtual 83, 3, 18), (65, .iload 4, 2, 0), (67, .ireturn, 1, 0)]
def r5 : List Row := [(0, .aload_n 0, 1, 0), (1, .iload_n 1, 1, 0), (2, .invokevirtual 103, 3, 40), (5, .ifCond .eq 16, 3, 0), (8, .aload_n 0, 1, 0), (9, .getfield 19, 3, 4), (12, .iload_n 1, 1, 0), (13, .baload, 1, 0), (14, .ifCond .eq 7, 3, 0), (17, .iconst 1, 1, 0), (18, .goto 4, 3, 0), (21, .iconst 0, 1, 0), (22, .ireturn, 1, 0)]
def r6 : List Row := [(0, .aload_n 0, 1, 0), (1, .iload_n 1, 1, 0), (2, .invokevirtual 103, 3, 40), (5, .ifCond .eq 25, 3, 0), (8, .aload_n 0, 1, 0), (9, .getfield 19, 3, 4), (12, .iload_n 1, 1, 0), (13, .baload, 1, 0), (14, .ifCond .eq 16, 3, 0), (17, .aload_n 0, 1, 0), (18, .getfield 23, 3, 5), (21, .iload_n 1, 1, 0), (22, .baload, 1, 0), (23, .ifCond .eq 7, 3, 0), (26, .iconst 1, 1, 0), (27, .goto 4, 3, 0), (30, .iconst 0, 1, 0), (31, .ireturn, 1, 0)]
def r7 : List Row := [(0, .aload_n 0, 1, 0), (1, .iload_n 1, 1, 0), (2, .invokevirtual 87, 3, 5), (5, .ifCond .ne 5, 3, 0), (8, .iconst (-1), 1, 0), (9, .ireturn, 1, 0), (10, .iload_n 2, 1, 0), (11, .ifCond .ne 10, 3, 0), (14, .aload_n 0, 1, 0), (15, .getfield 7, 3, 1), (18, .iload_n 1, 1, 0), (19, .iaload, 1, 0), (20, .ireturn, 1, 0), (21, .iload_n 2, 1, 0), (22, .iconst 1, 1, 0), (23, .if_icmp .ne 10, 3, 0), (26, .aload_n 0, 1, 0), (27, .getfield 13, 3, 2), (30, .iload_n 1, 1, 0), (31, .iaload, 1, 0), (32, .ireturn, 1, 0), (33, .iconst (-1), 1, 0), (34, .ireturn, 1, 0)]
def r8 : List Row := [(0, .aload_n 0, 1, 0), (1, .iload_n 1, 1, 0), (2, .invokevirtual 87, 3, 5), (5, .ifCond .ne 5, 3, 0), (8, .iconst 0, 1, 0), (9, .ireturn, 1, 0), (10, .aload_n 0, 1, 0), (11, .getfield 16, 3, 3), (14, .iload_n 1, 1, 0), (15, .iaload, 1, 0), (16, .ireturn, 1, 0)]
def r9 : List Row := [(0, .aload_n 0, 1, 0), (1, .getfield 48, 3, 12), (4, .ireturn, 1, 0)]
def r10 : List Row := [(0, .aload_n 0, 1, 0), (1, .getfield 54, 3, 14), (4, .lreturn, 1, 0)]
def r12 : List Row := [(0, .aload_n 0, 1, 0), (1, .getfield 44, 3, 0), (4, .aload_n 0, 1, 0), (5, .getfield 51, 3, 13), (8, .isub, 1, 0), (9, .ireturn, 1, 0)]
def r16 : List Row := [(0, .aload_n 0, 1, 0), (1, .getfield 58, 3, 15), (4, .ireturn, 1, 0)]
def r17 : List Row := [(0, .aload_n 0, 1, 0), (1, .getfield 61, 3, 16), (4, .ireturn, 1, 0)]
def r18 : List Row := [(0, .aload_n 0, 1, 0), (1, .aload_n 0, 1, 0), (2, .getfield 7, 3, 1), (5, .iload_n 1, 1, 0), (6, .iaload, 1, 0), (7, .iconst (-1), 1, 0), (8, .invokevirtual 106, 3, 30), (11, .pop, 1, 0), (12, .aload_n 0, 1, 0), (13, .getfield 13, 3, 2), (16, .iload_n 1, 1, 0), (17, .iaload, 1, 0), (18, .istore_n 2, 1, 0), (19, .aload_n 0, 1, 0), (20, .iload_n 2, 1, 0), (21, .invokevirtual 67, 3, 39), (24, .ifCond .eq 12, 3, 0), (27, .aload_n 0, 1, 0), (28, .getfield 32, 3, 8), (31, .iload_n 2, 1, 0), (32, .baload, 1, 0), (33, .ifCond .ne 15, 3, 0), (36, .aload_n 0, 1, 0), (37, .iload_n 1, 1, 0), (38, .invokevirtual 119, 3, 25), (41, .aload_n 0, 1, 0), (42, .iload_n 1, 1, 0), (43, .iconst (-1), 1, 0), (44, .invokevirtual 93, 3, 21), (47, .return_, 1, 0), (48, .aload_n 0, 1, 0), (49, .iload_n 2, 1, 0), (53, .istore_n 3, 1, 0), (54, .iload_n 3, 1, 0), (55, .iconst (-1), 1, 0), (56, .if_icmp .eq 29, 3, 0), (59, .aload_n 0, 1, 0), (60, .iload_n 1, 1, 0), (61, .iload_n 3, 1, 0), (65, .ifCond .eq 20, 3, 0), (68, .aload_n 0, 1, 0), (69, .iload_n 3, 1, 0), (73, .aload_n 0, 1, 0), (74, .iload_n 1, 1, 0), (75, .invokevirtual 119, 3, 25), (78, .aload_n 0, 1, 0), (79, .iload_n 1, 1, 0), (80, .iload_n 3, 1, 0), (81, .invokevirtual 93, 3, 21), (84, .return_, 1, 0), (85, .aload_n 0, 1, 0), (86, .iconst (-1), 1, 0), (87, .iconst (-1), 1, 0), (88, .invokevirtual 93, 3, 21), (91, .return_, 1, 0)]
def r21 : List Row := [(0, .aload_n 0, 1, 0), (1, .iload_n 1, 1, 0), (2, .putfield 58, 3, 15), (5, .aload_n 0, 1, 0), (6, .iload_n 2, 1, 0), (7, .putfield 61, 3, 16), (10, .return_, 1, 0)]
def r22 : List Row := [(0, .iconst 0, 1, 0), (1, .istore_n 1, 1, 0), (2, .iload_n 1, 1, 0), (3, .sipush 128, 3, 0), (6, .if_icmp .ge 20, 3, 0), (9, .aload_n 0, 1, 0), (10, .getfield 19, 3, 4), (13, .iload_n 1, 1, 0), (14, .baload, 1, 0), (15, .ifCond .ne 5, 3, 0), (18, .iload_n 1, 1, 0), (19, .ireturn, 1, 0), (20, .iinc 1 1, 3, 0), (23, .goto (-21), 3, 0), (26, .iconst (-1), 1, 0), (27, .ireturn, 1, 0)]
def r23 : List Row := [(0, .aload_n 0, 1, 0), (1, .getfield 7, 3, 1), (4, .iload_n 1, 1, 0), (5, .iload_n 2, 1, 0), (6, .iastore, 1, 0), (7, .aload_n 0, 1, 0), (8, .getfield 13, 3, 2), (11, .iload_n 1, 1, 0), (12, .iload_n 3, 1, 0), (13, .iastore, 1, 0), (14, .aload_n 0, 1, 0), (15, .getfield 16, 3, 3), (18, .iload_n 1, 1, 0), (19, .iload 4, 2, 0), (21, .iastore, 1, 0), (22, .aload_n 0, 1, 0), (23, .getfield 19, 3, 4), (26, .iload_n 1, 1, 0), (27, .iconst 1, 1, 0), (28, .bastore, 1, 0), (29, .aload_n 0, 1, 0), (30, .getfield 23, 3, 5), (33, .iload_n 1, 1, 0), (34, .iconst 0, 1, 0), (35, .bastore, 1, 0), (36, .aload_n 0, 1, 0), (37, .dup, 1, 0), (38, .getfield 48, 3, 12), (41, .iconst 1, 1, 0), (42, .iadd, 1, 0), (43, .putfield 48, 3, 12), (46, .return_, 1, 0)]
def r25 : List Row := [(0, .aload_n 0, 1, 0), (1, .iload_n 1, 1, 0), (2, .invokevirtual 103, 3, 40), (5, .ifCond .eq 12, 3, 0), (8, .aload_n 0, 1, 0), (9, .getfield 23, 3, 5), (12, .iload_n 1, 1, 0), (13, .baload, 1, 0), (14, .ifCond .eq 4, 3, 0), (17, .return_, 1, 0), (18, .aload_n 0, 1, 0), (19, .getfield 23, 3, 5), (22, .iload_n 1, 1, 0), (23, .iconst 1, 1, 0), (24, .bastore, 1, 0), (25, .aload_n 0, 1, 0), (26, .dup, 1, 0), (27, .getfield 51, 3, 13), (30, .iconst 1, 1, 0), (31, .iadd, 1, 0), (32, .putfield 51, 3, 13), (35, .aload_n 0, 1, 0), (36, .dup, 1, 0), (37, .getfield 54, 3, 14), (40, .aload_n 0, 1, 0), (41, .getfield 16, 3, 3), (44, .iload_n 1, 1, 0), (45, .iaload, 1, 0), (46, .i2l, 1, 0), (47, .ladd, 1, 0), (48, .putfield 54, 3, 14), (51, .aload_n 0, 1, 0), (52, .aload_n 0, 1, 0), (53, .getfield 7, 3, 1), (56, .iload_n 1, 1, 0), (57, .iaload, 1, 0), (58, .iload_n 1, 1, 0), (59, .invokevirtual 129, 3, 27), (62, .aload_n 0, 1, 0), (63, .aload_n 0, 1, 0), (64, .getfield 13, 3, 2), (67, .iload_n 1, 1, 0), (68, .iaload, 1, 0), (69, .iload_n 1, 1, 0), (70, .invokevirtual 129, 3, 27), (73, .return_, 1, 0)]
def r27 : List Row := [(0, .iload_n 1, 1, 0), (1, .ifCond .lt 9, 3, 0), (4, .iload_n 1, 1, 0), (5, .bipush 32, 2, 0), (7, .if_icmp .lt 4, 3, 0), (10, .return_, 1, 0), (11, .aload_n 0, 1, 0), (12, .getfield 29, 3, 7), (15, .iload_n 1, 1, 0), (16, .iaload, 1, 0), (17, .ifCond .lt 14, 3, 0), (20, .aload_n 0, 1, 0), (21, .getfield 29, 3, 7), (24, .iload_n 1, 1, 0), (25, .iaload, 1, 0), (26, .bipush 32, 2, 0), (28, .if_icmp .lt 4, 3, 0), (31, .return_, 1, 0), (32, .aload_n 0, 1, 0), (33, .getfield 26, 3, 6), (36, .iload_n 1, 1, 0), (37, .bipush 32, 2, 0), (39, .imul, 1, 0), (40, .aload_n 0, 1, 0), (41, .getfield 29, 3, 7), (44, .iload_n 1, 1, 0), (45, .iaload, 1, 0), (46, .iadd, 1, 0), (47, .iload_n 2, 1, 0), (48, .iastore, 1, 0), (49, .aload_n 0, 1, 0), (50, .getfield 29, 3, 7), (53, .iload_n 1, 1, 0), (54, .dup2, 1, 0), (55, .iaload, 1, 0), (56, .iconst 1, 1, 0), (57, .iadd, 1, 0), (58, .iastore, 1, 0), (59, .return_, 1, 0)]
def r29 : List Row := [(0, .iconst 0, 1, 0), (1, .istore_n 1, 1, 0), (2, .iload_n 1, 1, 0), (3, .bipush 32, 2, 0), (5, .if_icmp .ge 37, 3, 0), (8, .aload_n 0, 1, 0), (9, .getfield 32, 3, 8), (12, .iload_n 1, 1, 0), (13, .iconst 0, 1, 0), (14, .bastore, 1, 0), (15, .aload_n 0, 1, 0), (16, .getfield 35, 3, 9), (19, .iload_n 1, 1, 0), (20, .iconst (-1), 1, 0), (21, .iastore, 1, 0), (22, .aload_n 0, 1, 0), (23, .getfield 38, 3, 10), (26, .iload_n 1, 1, 0), (27, .iconst (-1), 1, 0), (28, .iastore, 1, 0), (29, .aload_n 0, 1, 0), (30, .getfield 41, 3, 11), (33, .iload_n 1, 1, 0), (34, .iconst 0, 1, 0), (35, .iastore, 1, 0), (36, .iinc 1 1, 3, 0), (39, .goto (-37), 3, 0), (42, .return_, 1, 0)]
def r30 : List Row := [(0, .aload_n 0, 1, 0), (1, .invokevirtual 64, 3, 29), (4, .aload_n 0, 1, 0), (5, .iload_n 1, 1, 0), (6, .invokevirtual 67, 3, 39), (9, .ifCond .ne 5, 3, 0), (12, .iconst 0, 1, 0), (13, .ireturn, 1, 0), (14, .aload_n 0, 1, 0), (15, .getfield 32, 3, 8), (18, .iload_n 1, 1, 0), (19, .iconst 1, 1, 0), (20, .bastore, 1, 0), (21, .aload_n 0, 1, 0), (22, .getfield 41, 3, 11), (25, .iconst 0, 1, 0), (26, .iload_n 1, 1, 0), (27, .iastore, 1, 0), (28, .iconst 1, 1, 0), (29, .istore_n 3, 1, 0), (30, .iconst 0, 1, 0), (31, .istore 4, 2, 0), (33, .iload 4, 2, 0), (35, .iload_n 3, 1, 0), (36, .if_icmp .ge 30, 3, 0), (39, .iload 4, 2, 0), (41, .bipush 32, 2, 0), (43, .if_icmp .ge 23, 3, 0), (46, .aload_n 0, 1, 0), (47, .aload_n 0, 1, 0), (48, .getfield 41, 3, 11), (51, .iload 4, 2, 0), (53, .iaload, 1, 0), (54, .iload_n 2, 1, 0), (55, .iload_n 3, 1, 0), (56, .invokevirtual 135, 3, 31), (59, .istore_n 3, 1, 0), (60, .iinc 4 1, 3, 0), (63, .goto (-30), 3, 0), (66, .iload_n 3, 1, 0), (67, .ireturn, 1, 0)]
def r31 : List Row := [(0, .iload_n 3, 1, 0), (1, .istore 4, 2, 0), (3, .iload_n 1, 1, 0), (4, .ifCond .lt 9, 3, 0), (7, .iload_n 1, 1, 0), (8, .bipush 32, 2, 0), (10, .if_icmp .lt 6, 3, 0), (13, .iload 4, 2, 0), (15, .ireturn, 1, 0), (16, .iload_n 1, 1, 0), (17, .bipush 32, 2, 0), (19, .imul, 1, 0), (20, .istore 5, 2, 0), (22, .iconst 0, 1, 0), (23, .istore 6, 2, 0), (25, .iload 6, 2, 0), (27, .aload_n 0, 1, 0), (28, .getfield 29, 3, 7), (31, .iload_n 1, 1, 0), (32, .iaload, 1, 0), (33, .if_icmp .ge 124, 3, 0), (36, .iload 6, 2, 0), (38, .bipush 32, 2, 0), (40, .if_icmp .ge 117, 3, 0), (43, .aload_n 0, 1, 0), (44, .getfield 26, 3, 6), (47, .iload 5, 2, 0), (49, .iload 6, 2, 0), (51, .iadd, 1, 0), (52, .iaload, 1, 0), (53, .istore 7, 2, 0), (55, .iload 7, 2, 0), (57, .iload_n 2, 1, 0), (58, .if_icmp .eq 93, 3, 0), (61, .aload_n 0, 1, 0), (62, .iload 7, 2, 0), (64, .invokevirtual 103, 3, 40), (67, .ifCond .ne 6, 3, 0), (70, .goto 81, 3, 0), (73, .aload_n 0, 1, 0), (74, .iload 7, 2, 0), (76, .iload_n 1, 1, 0), (80, .istore 8, 2, 0), (82, .iload 8, 2, 0), (84, .ifCond .lt 67, 3, 0), (87, .iload 8, 2, 0), (89, .bipush 32, 2, 0), (91, .if_icmp .ge 60, 3, 0), (94, .aload_n 0, 1, 0), (95, .getfield 32, 3, 8), (98, .iload 8, 2, 0), (100, .baload, 1, 0), (101, .ifCond .ne 50, 3, 0), (104, .iload 4, 2, 0), (106, .bipush 32, 2, 0), (108, .if_icmp .lt 6, 3, 0), (111, .goto 40, 3, 0), (114, .aload_n 0, 1, 0), (115, .getfield 32, 3, 8), (118, .iload 8, 2, 0), (120, .iconst 1, 1, 0), (121, .bastore, 1, 0), (122, .aload_n 0, 1, 0), (123, .getfield 35, 3, 9), (126, .iload 8, 2, 0), (128, .iload 7, 2, 0), (130, .iastore, 1, 0), (131, .aload_n 0, 1, 0), (132, .getfield 38, 3, 10), (135, .iload 8, 2, 0), (137, .iload_n 1, 1, 0), (138, .iastore, 1, 0), (139, .aload_n 0, 1, 0), (140, .getfield 41, 3, 11), (143, .iload 4, 2, 0), (145, .iload 8, 2, 0), (147, .iastore, 1, 0), (148, .iinc 4 1, 3, 0), (151, .iinc 6 1, 3, 0), (154, .goto (-129), 3, 0), (157, .iload 4, 2, 0), (159, .ireturn, 1, 0)]
def r39 : List Row := [(0, .iload_n 1, 1, 0), (1, .ifCond .lt 21, 3, 0), (4, .iload_n 1, 1, 0), (5, .aload_n 0, 1, 0), (6, .getfield 44, 3, 0), (9, .if_icmp .ge 13, 3, 0), (12, .iload_n 1, 1, 0), (13, .bipush 32, 2, 0), (15, .if_icmp .ge 7, 3, 0), (18, .iconst 1, 1, 0), (19, .goto 4, 3, 0), (22, .iconst 0, 1, 0), (23, .ireturn, 1, 0)]
def r40 : List Row := [(0, .iload_n 1, 1, 0), (1, .ifCond .lt 14, 3, 0), (4, .iload_n 1, 1, 0), (5, .sipush 128, 3, 0), (8, .if_icmp .ge 7, 3, 0), (11, .iconst 1, 1, 0), (12, .goto 4, 3, 0), (15, .iconst 0, 1, 0), (16, .ireturn, 1, 0)]
def r41 : List Row := [(0, .iload_n 1, 1, 0), (1, .ldc 151, 2, (-1000000)), (3, .if_icmp .ge 6, 3, 0), (6, .ldc 151, 2, (-1000000)), (8, .ireturn, 1, 0), (9, .iload_n 1, 1, 0), (10, .ldc 152, 2, 1000000), (12, .if_icmp .le 6, 3, 0), (15, .ldc 152, 2, 1000000), (17, .ireturn, 1, 0), (18, .iload_n 1, 1, 0), (19, .ireturn, 1, 0)]
def prows : List (List Row) := [[], r1, r2, [], [], r5, r6, r7, r8, r9, r10, [], r12, [], [], [], r16, r17, r18, [], [], r21, r22, r23, [], r25, [], r27, [], r29, r30, r31, [], [], [], [], [], [], [], r39, r40, r41]
def pinfo : List MInfo := [(0, 0, 9, none, {}), (2, 4, 3, none, { frames := 1, cells := 11, slots := 1824, locals := 13 }), (4, 6, 1, some .int, { frames := 4, cells := 0, slots := 0, locals := 65 }), (2, 2, 1, some .boolean, { frames := 4, cells := 0, slots := 0, locals := 64 }), (3, 4, 1, some .boolean, { frames := 4, cells := 0, slots := 0, locals := 65 }), (2, 2, 1, some .boolean, { frames := 1, cells := 0, slots := 0, locals := 13 }), (2, 2, 1, some .boolean, { frames := 1, cells := 0, slots := 0, locals := 13 }), (3, 3, 1, some .int, { frames := 2, cells := 0, slots := 0, locals := 26 }), (2, 2, 1, some .int, { frames := 2, cells := 0, slots := 0, locals := 26 }), (1, 1, 1, some .int, { frames := 0, cells := 0, slots := 0, locals := 0 }), (1, 1, 1, some .long, { frames := 0, cells := 0, slots := 0, locals := 0 }), (1, 1, 1, some .int, { frames := 0, cells := 0, slots := 0, locals := 0 }), (1, 1, 1, some .int, { frames := 0, cells := 0, slots := 0, locals := 0 }), (2, 3, 1, some .int, { frames := 3, cells := 0, slots := 0, locals := 50 }), (3, 3, 1, some .int, { frames := 3, cells := 0, slots := 0, locals := 50 }), (2, 2, 1, some .int, { frames := 3, cells := 0, slots := 0, locals := 50 }), (1, 1, 1, some .int, { frames := 0, cells := 0, slots := 0, locals := 0 }), (1, 1, 1, some .int, { frames := 0, cells := 0, slots := 0, locals := 0 }), (2, 4, 2, none, { frames := 3, cells := 0, slots := 0, locals := 50 }), (2, 3, 2, none, { frames := 3, cells := 0, slots := 0, locals := 50 }), (3, 4, 2, none, { frames := 3, cells := 0, slots := 0, locals := 50 }), (3, 3, 2, none, { frames := 0, cells := 0, slots := 0, locals := 0 }), (1, 2, 2, some .int, { frames := 0, cells := 0, slots := 0, locals := 0 }), (5, 5, 2, none, { frames := 0, cells := 0, slots := 0, locals := 0 }), (2, 2, 2, none, { frames := 0, cells := 0, slots := 0, locals := 0 }), (2, 2, 2, none, { frames := 1, cells := 0, slots := 0, locals := 14 }), (2, 2, 2, none, { frames := 1, cells := 0, slots := 0, locals := 16 }), (3, 3, 2, none, { frames := 0, cells := 0, slots := 0, locals := 0 }), (3, 5, 2, none, { frames := 0, cells := 0, slots := 0, locals := 0 }), (1, 2, 2, none, { frames := 0, cells := 0, slots := 0, locals := 0 }), (3, 5, 2, some .int, { frames := 2, cells := 0, slots := 0, locals := 34 }), (4, 9, 2, some .int, { frames := 1, cells := 0, slots := 0, locals := 14 }), (2, 6, 2, some .int, { frames := 2, cells := 0, slots := 0, locals := 28 }), (1, 3, 2, some .int, { frames := 2, cells := 0, slots := 0, locals := 28 }), (2, 4, 2, some .boolean, { frames := 0, cells := 0, slots := 0, locals := 0 }), (3, 3, 2, some .int, { frames := 0, cells := 0, slots := 0, locals := 0 }), (3, 3, 2, some .boolean, { frames := 0, cells := 0, slots := 0, locals := 0 }), (3, 3, 2, some .int, { frames := 1, cells := 0, slots := 0, locals := 14 }), (3, 3, 2, some .int, { frames := 1, cells := 0, slots := 0, locals := 14 }), (2, 2, 2, some .boolean, { frames := 0, cells := 0, slots := 0, locals := 0 }), (2, 2, 2, some .boolean, { frames := 0, cells := 0, slots := 0, locals := 0 }), (2, 2, 2, some .int, { frames := 0, cells := 0, slots := 0, locals := 0 })]
def pft : List FieldType := [.int, .array .int, .array .int, .array .int, .array .boolean, .array .boolean, .array .int, .array .int, .array .boolean, .array .int, .array .int, .array .int, .int, .int, .long, .int, .int]
def pj (lw : LW) : Prog := (fun m pc => if m < 100 then (prows.getD m []).lookup pc else lw.1 (m - 100) pc, fun m => if m < 100 then pinfo.getD m (0, 0, 9, none, {}) else lw.2 (m - 100), fun k => pft.getD k .int, 17)
def lay : Lay := ([(.int, 0), (.array .int, 1), (.array .int, 2), (.array .int, 3), (.array .boolean, 4), (.array .boolean, 5), (.array .int, 6), (.array .int, 7), (.array .boolean, 8), (.array .int, 9), (.array .int, 10), (.array .int, 11), (.int, 0), (.int, 0), (.long, 0), (.int, 0), (.int, 0)], [(.int, 128), (.int, 128), (.int, 128), (.boolean, 128), (.boolean, 128), (.int, 1024), (.int, 32), (.boolean, 32), (.int, 32), (.int, 32), (.int, 32)])
abbrev ob (H : AH) (p : Nat) (s : St) : AH := put lay 11 H p s
section Acc
variable {H : AH} {p : Nat} {s : St} {i : Int32} {j q : Nat} {v : Int32} {w : Int64}
theorem g0 : fld (put lay j H p s) p 0 = .int (sI s 0) := fld_I (ty := .int) rfl (by decide) (by simp)
theorem s0 : wr (put lay j H p s) p 0 (.int v) = put lay j H p (uI s 0 v) := wr_I (ty := .int) rfl (by decide) (by simp)
theorem g1 : fld (ob H p s) p 1 = .ref (p + 1) := fld_R (ty := .int) rfl (by decide)
theorem g2 : fld (ob H p s) p 2 = .ref (p + 2) := fld_R (ty := .int) rfl (by decide)
theorem g3 : fld (ob H p s) p 3 = .ref (p + 3) := fld_R (ty := .int) rfl (by decide)
theorem g4 : fld (ob H p s) p 4 = .ref (p + 4) := fld_R (ty := .boolean) rfl (by decide)
theorem g5 : fld (ob H p s) p 5 = .ref (p + 5) := fld_R (ty := .boolean) rfl (by decide)
theorem g6 : fld (ob H p s) p 6 = .ref (p + 6) := fld_R (ty := .int) rfl (by decide)
theorem g7 : fld (ob H p s) p 7 = .ref (p + 7) := fld_R (ty := .int) rfl (by decide)
theorem g8 : fld (ob H p s) p 8 = .ref (p + 8) := fld_R (ty := .boolean) rfl (by decide)
theorem g9 : fld (ob H p s) p 9 = .ref (p + 9) := fld_R (ty := .int) rfl (by decide)
theorem g10 : fld (ob H p s) p 10 = .ref (p + 10) := fld_R (ty := .int) rfl (by decide)
theorem g11 : fld (ob H p s) p 11 = .ref (p + 11) := fld_R (ty := .int) rfl (by decide)
theorem g12 : fld (put lay j H p s) p 12 = .int (sI s 12) := fld_I (ty := .int) rfl (by decide) (by simp)
theorem s12 : wr (put lay j H p s) p 12 (.int v) = put lay j H p (uI s 12 v) := wr_I (ty := .int) rfl (by decide) (by simp)
theorem g13 : fld (put lay j H p s) p 13 = .int (sI s 13) := fld_I (ty := .int) rfl (by decide) (by simp)
theorem s13 : wr (put lay j H p s) p 13 (.int v) = put lay j H p (uI s 13 v) := wr_I (ty := .int) rfl (by decide) (by simp)
theorem g14 : fld (put lay j H p s) p 14 = .long (sJ s 14) := fld_J rfl
theorem s14 : wr (put lay j H p s) p 14 (.long w) = put lay j H p (uJ s 14 w) := wr_J rfl
theorem g15 : fld (put lay j H p s) p 15 = .int (sI s 15) := fld_I (ty := .int) rfl (by decide) (by simp)
theorem s15 : wr (put lay j H p s) p 15 (.int v) = put lay j H p (uI s 15 v) := wr_I (ty := .int) rfl (by decide) (by simp)
theorem g16 : fld (put lay j H p s) p 16 = .int (sI s 16) := fld_I (ty := .int) rfl (by decide) (by simp)
theorem s16 : wr (put lay j H p s) p 16 (.int v) = put lay j H p (uI s 16 v) := wr_I (ty := .int) rfl (by decide) (by simp)
theorem ai1 : inA (ob H p s) (p + 1) .int i = true ↔ (0 ≤ i.toInt ∧ i.toInt < 128) := inA_I (t := 0) rfl (by decide) (by decide)
theorem aw1 : inAw (ob H p s) (p + 1) .int i = true ↔ (0 ≤ i.toInt ∧ i.toInt < 128) := inAw_I (t := 0) rfl (by decide) (by decide)
theorem ae1 : elt (ob H p s) (p + 1) i = .int (sA s 1 i.toNatClampNeg) := elt_I (t := 0) (ty := .int) rfl (by decide) (by decide)
theorem as1 : wr (ob H p s) (p + 1) q (.int v) = ob H p (uA s 1 q v) := wr_A (t := 0) (ty := .int) rfl (by decide) (by decide)
theorem ai2 : inA (ob H p s) (p + 2) .int i = true ↔ (0 ≤ i.toInt ∧ i.toInt < 128) := inA_I (t := 1) rfl (by decide) (by decide)
theorem aw2 : inAw (ob H p s) (p + 2) .int i = true ↔ (0 ≤ i.toInt ∧ i.toInt < 128) := inAw_I (t := 1) rfl (by decide) (by decide)
theorem ae2 : elt (ob H p s) (p + 2) i = .int (sA s 2 i.toNatClampNeg) := elt_I (t := 1) (ty := .int) rfl (by decide) (by decide)
theorem as2 : wr (ob H p s) (p + 2) q (.int v) = ob H p (uA s 2 q v) := wr_A (t := 1) (ty := .int) rfl (by decide) (by decide)
theorem ai3 : inA (ob H p s) (p + 3) .int i = true ↔ (0 ≤ i.toInt ∧ i.toInt < 128) := inA_I (t := 2) rfl (by decide) (by decide)
theorem aw3 : inAw (ob H p s) (p + 3) .int i = true ↔ (0 ≤ i.toInt ∧ i.toInt < 128) := inAw_I (t := 2) rfl (by decide) (by decide)
theorem ae3 : elt (ob H p s) (p + 3) i = .int (sA s 3 i.toNatClampNeg) := elt_I (t := 2) (ty := .int) rfl (by decide) (by decide)
theorem as3 : wr (ob H p s) (p + 3) q (.int v) = ob H p (uA s 3 q v) := wr_A (t := 2) (ty := .int) rfl (by decide) (by decide)
theorem ai4 : inA (ob H p s) (p + 4) .boolean i = true ↔ (0 ≤ i.toInt ∧ i.toInt < 128) := inA_I (t := 3) rfl (by decide) (by decide)
theorem aw4 : inAw (ob H p s) (p + 4) .boolean i = true ↔ (0 ≤ i.toInt ∧ i.toInt < 128) := inAw_I (t := 3) rfl (by decide) (by decide)
theorem ain4 : inA (ob H p s) (p + 4) .byte i = true ↔ False := inA_no (t := 3) (ty := .boolean) rfl (by decide) (by decide) (by decide)
theorem awn4 : inAw (ob H p s) (p + 4) .byte i = true ↔ False := inAw_no (t := 3) (ty := .boolean) rfl (by decide) (by decide) (by decide)
theorem ae4 : elt (ob H p s) (p + 4) i = .int (sA s 4 i.toNatClampNeg) := elt_I (t := 3) (ty := .boolean) rfl (by decide) (by decide)
theorem as4 : wr (ob H p s) (p + 4) q (.int v) = ob H p (uA s 4 q v) := wr_A (t := 3) (ty := .boolean) rfl (by decide) (by decide)
theorem ai5 : inA (ob H p s) (p + 5) .boolean i = true ↔ (0 ≤ i.toInt ∧ i.toInt < 128) := inA_I (t := 4) rfl (by decide) (by decide)
theorem aw5 : inAw (ob H p s) (p + 5) .boolean i = true ↔ (0 ≤ i.toInt ∧ i.toInt < 128) := inAw_I (t := 4) rfl (by decide) (by decide)
theorem ain5 : inA (ob H p s) (p + 5) .byte i = true ↔ False := inA_no (t := 4) (ty := .boolean) rfl (by decide) (by decide) (by decide)
theorem awn5 : inAw (ob H p s) (p + 5) .byte i = true ↔ False := inAw_no (t := 4) (ty := .boolean) rfl (by decide) (by decide) (by decide)
theorem ae5 : elt (ob H p s) (p + 5) i = .int (sA s 5 i.toNatClampNeg) := elt_I (t := 4) (ty := .boolean) rfl (by decide) (by decide)
theorem as5 : wr (ob H p s) (p + 5) q (.int v) = ob H p (uA s 5 q v) := wr_A (t := 4) (ty := .boolean) rfl (by decide) (by decide)
theorem ai6 : inA (ob H p s) (p + 6) .int i = true ↔ (0 ≤ i.toInt ∧ i.toInt < 1024) := inA_I (t := 5) rfl (by decide) (by decide)
theorem aw6 : inAw (ob H p s) (p + 6) .int i = true ↔ (0 ≤ i.toInt ∧ i.toInt < 1024) := inAw_I (t := 5) rfl (by decide) (by decide)
theorem ae6 : elt (ob H p s) (p + 6) i = .int (sA s 6 i.toNatClampNeg) := elt_I (t := 5) (ty := .int) rfl (by decide) (by decide)
theorem as6 : wr (ob H p s) (p + 6) q (.int v) = ob H p (uA s 6 q v) := wr_A (t := 5) (ty := .int) rfl (by decide) (by decide)
theorem ai7 : inA (ob H p s) (p + 7) .int i = true ↔ (0 ≤ i.toInt ∧ i.toInt < 32) := inA_I (t := 6) rfl (by decide) (by decide)
theorem aw7 : inAw (ob H p s) (p + 7) .int i = true ↔ (0 ≤ i.toInt ∧ i.toInt < 32) := inAw_I (t := 6) rfl (by decide) (by decide)
theorem ae7 : elt (ob H p s) (p + 7) i = .int (sA s 7 i.toNatClampNeg) := elt_I (t := 6) (ty := .int) rfl (by decide) (by decide)
theorem as7 : wr (ob H p s) (p + 7) q (.int v) = ob H p (uA s 7 q v) := wr_A (t := 6) (ty := .int) rfl (by decide) (by decide)
theorem ai8 : inA (ob H p s) (p + 8) .boolean i = true ↔ (0 ≤ i.toInt ∧ i.toInt < 32) := inA_I (t := 7) rfl (by decide) (by decide)
theorem aw8 : inAw (ob H p s) (p + 8) .boolean i = true ↔ (0 ≤ i.toInt ∧ i.toInt < 32) := inAw_I (t := 7) rfl (by decide) (by decide)
theorem ain8 : inA (ob H p s) (p + 8) .byte i = true ↔ False := inA_no (t := 7) (ty := .boolean) rfl (by decide) (by decide) (by decide)
theorem awn8 : inAw (ob H p s) (p + 8) .byte i = true ↔ False := inAw_no (t := 7) (ty := .boolean) rfl (by decide) (by decide) (by decide)
theorem ae8 : elt (ob H p s) (p + 8) i = .int (sA s 8 i.toNatClampNeg) := elt_I (t := 7) (ty := .boolean) rfl (by decide) (by decide)
theorem as8 : wr (ob H p s) (p + 8) q (.int v) = ob H p (uA s 8 q v) := wr_A (t := 7) (ty := .boolean) rfl (by decide) (by decide)
theorem ai9 : inA (ob H p s) (p + 9) .int i = true ↔ (0 ≤ i.toInt ∧ i.toInt < 32) := inA_I (t := 8) rfl (by decide) (by decide)
theorem aw9 : inAw (ob H p s) (p + 9) .int i = true ↔ (0 ≤ i.toInt ∧ i.toInt < 32) := inAw_I (t := 8) rfl (by decide) (by decide)
theorem ae9 : elt (ob H p s) (p + 9) i = .int (sA s 9 i.toNatClampNeg) := elt_I (t := 8) (ty := .int) rfl (by decide) (by decide)
theorem as9 : wr (ob H p s) (p + 9) q (.int v) = ob H p (uA s 9 q v) := wr_A (t := 8) (ty := .int) rfl (by decide) (by decide)
theorem ai10 : inA (ob H p s) (p + 10) .int i = true ↔ (0 ≤ i.toInt ∧ i.toInt < 32) := inA_I (t := 9) rfl (by decide) (by decide)
theorem aw10 : inAw (ob H p s) (p + 10) .int i = true ↔ (0 ≤ i.toInt ∧ i.toInt < 32) := inAw_I (t := 9) rfl (by decide) (by decide)
theorem ae10 : elt (ob H p s) (p + 10) i = .int (sA s 10 i.toNatClampNeg) := elt_I (t := 9) (ty := .int) rfl (by decide) (by decide)
theorem as10 : wr (ob H p s) (p + 10) q (.int v) = ob H p (uA s 10 q v) := wr_A (t := 9) (ty := .int) rfl (by decide) (by decide)
theorem ai11 : inA (ob H p s) (p + 11) .int i = true ↔ (0 ≤ i.toInt ∧ i.toInt < 32) := inA_I (t := 10) rfl (by decide) (by decide)
theorem aw11 : inAw (ob H p s) (p + 11) .int i = true ↔ (0 ≤ i.toInt ∧ i.toInt < 32) := inAw_I (t := 10) rfl (by decide) (by decide)
theorem ae11 : elt (ob H p s) (p + 11) i = .int (sA s 11 i.toNatClampNeg) := elt_I (t := 10) (ty := .int) rfl (by decide) (by decide)
theorem as11 : wr (ob H p s) (p + 11) q (.int v) = ob H p (uA s 11 q v) := wr_A (t := 10) (ty := .int) rfl (by decide) (by decide)
theorem mkO_ob {lw : LW} : mkO (pj lw) H = put lay 0 (H.1 + 1, H.2) H.1 z0 := mkO_put rfl (fun k => match k with | 0 => rfl | 1 => rfl | 2 => rfl | 3 => rfl | 4 => rfl | 5 => rfl | 6 => rfl | 7 => rfl | 8 => rfl | 9 => rfl | 10 => rfl | 11 => rfl | 12 => rfl | 13 => rfl | 14 => rfl | 15 => rfl | 16 => rfl | (_ + 17) => rfl)
theorem mk1 {h : Nat → Cel} (hz : zr s 1) : wr (mkA .int 128 (put lay 0 (p + 1, h) p s)) p 1 (.ref (p + 1)) = put lay 1 (p + 2, h) p s := mkA_put (j := 0) rfl rfl (by decide) hz.1 hz.2 (Or.inl rfl)
theorem io1 {h : Nat → Cel} : isOw (mkA .int 128 (put lay 0 (p + 1, h) p s)) p = true := isOw_mk (c := 0)
theorem mk2 {h : Nat → Cel} (hz : zr s 2) : wr (mkA .int 128 (put lay 1 (p + 2, h) p s)) p 2 (.ref (p + 2)) = put lay 2 (p + 3, h) p s := mkA_put (j := 1) rfl rfl (by decide) hz.1 hz.2 (Or.inl rfl)
theorem io2 {h : Nat → Cel} : isOw (mkA .int 128 (put lay 1 (p + 2, h) p s)) p = true := isOw_mk (c := 1)
theorem mk3 {h : Nat → Cel} (hz : zr s 3) : wr (mkA .int 128 (put lay 2 (p + 3, h) p s)) p 3 (.ref (p + 3)) = put lay 3 (p + 4, h) p s := mkA_put (j := 2) rfl rfl (by decide) hz.1 hz.2 (Or.inl rfl)
theorem io3 {h : Nat → Cel} : isOw (mkA .int 128 (put lay 2 (p + 3, h) p s)) p = true := isOw_mk (c := 2)
theorem mk4 {h : Nat → Cel} (hz : zr s 4) : wr (mkA .boolean 128 (put lay 3 (p + 4, h) p s)) p 4 (.ref (p + 4)) = put lay 4 (p + 5, h) p s := mkA_put (j := 3) rfl rfl (by decide) hz.1 hz.2 (Or.inr (Or.inr (Or.inr rfl)))
theorem io4 {h : Nat → Cel} : isOw (mkA .boolean 128 (put lay 3 (p + 4, h) p s)) p = true := isOw_mk (c := 3)
theorem mk5 {h : Nat → Cel} (hz : zr s 5) : wr (mkA .boolean 128 (put lay 4 (p + 5, h) p s)) p 5 (.ref (p + 5)) = put lay 5 (p + 6, h) p s := mkA_put (j := 4) rfl rfl (by decide) hz.1 hz.2 (Or.inr (Or.inr (Or.inr rfl)))
theorem io5 {h : Nat → Cel} : isOw (mkA .boolean 128 (put lay 4 (p + 5, h) p s)) p = true := isOw_mk (c := 4)
theorem mk6 {h : Nat → Cel} (hz : zr s 6) : wr (mkA .int 1024 (put lay 5 (p + 6, h) p s)) p 6 (.ref (p + 6)) = put lay 6 (p + 7, h) p s := mkA_put (j := 5) rfl rfl (by decide) hz.1 hz.2 (Or.inl rfl)
theorem io6 {h : Nat → Cel} : isOw (mkA .int 1024 (put lay 5 (p + 6, h) p s)) p = true := isOw_mk (c := 5)
theorem mk7 {h : Nat → Cel} (hz : zr s 7) : wr (mkA .int 32 (put lay 6 (p + 7, h) p s)) p 7 (.ref (p + 7)) = put lay 7 (p + 8, h) p s := mkA_put (j := 6) rfl rfl (by decide) hz.1 hz.2 (Or.inl rfl)
theorem io7 {h : Nat → Cel} : isOw (mkA .int 32 (put lay 6 (p + 7, h) p s)) p = true := isOw_mk (c := 6)
theorem mk8 {h : Nat → Cel} (hz : zr s 8) : wr (mkA .boolean 32 (put lay 7 (p + 8, h) p s)) p 8 (.ref (p + 8)) = put lay 8 (p + 9, h) p s := mkA_put (j := 7) rfl rfl (by decide) hz.1 hz.2 (Or.inr (Or.inr (Or.inr rfl)))
theorem io8 {h : Nat → Cel} : isOw (mkA .boolean 32 (put lay 7 (p + 8, h) p s)) p = true := isOw_mk (c := 7)
theorem mk9 {h : Nat → Cel} (hz : zr s 9) : wr (mkA .int 32 (put lay 8 (p + 9, h) p s)) p 9 (.ref (p + 9)) = put lay 9 (p + 10, h) p s := mkA_put (j := 8) rfl rfl (by decide) hz.1 hz.2 (Or.inl rfl)
theorem io9 {h : Nat → Cel} : isOw (mkA .int 32 (put lay 8 (p + 9, h) p s)) p = true := isOw_mk (c := 8)
theorem mk10 {h : Nat → Cel} (hz : zr s 10) : wr (mkA .int 32 (put lay 9 (p + 10, h) p s)) p 10 (.ref (p + 10)) = put lay 10 (p + 11, h) p s := mkA_put (j := 9) rfl rfl (by decide) hz.1 hz.2 (Or.inl rfl)
theorem io10 {h : Nat → Cel} : isOw (mkA .int 32 (put lay 9 (p + 10, h) p s)) p = true := isOw_mk (c := 9)
theorem mk11 {h : Nat → Cel} (hz : zr s 11) : wr (mkA .int 32 (put lay 10 (p + 11, h) p s)) p 11 (.ref (p + 11)) = put lay 11 (p + 12, h) p s := mkA_put (j := 10) rfl rfl (by decide) hz.1 hz.2 (Or.inl rfl)
theorem io11 {h : Nat → Cel} : isOw (mkA .int 32 (put lay 10 (p + 11, h) p s)) p = true := isOw_mk (c := 10)
end Acc
section Pc
variable {lw : LW} {L : List Slot} {S : List Value} {k n : Nat} {H : AH} {Q : Option Value → AH → Prop}
theorem c1 {x0 : Nat} {x1 : Int32} : Cl (pj lw) 1 [.ref x0, .int x1] H Q ↔ W (pj lw) 1 0 [.val (.ref x0), .val (.int x1), .unset, .unset] [] 0 0 H Q := cl_unf rfl
theorem w1_0 {x : Nat} : W (pj lw) 1 0 (.val (.ref x) :: L) S k n H Q ↔ W (pj lw) 1 1 (.val (.ref x) :: L) (.ref x :: S) k n H Q := W_s (rfl : (pj lw).1 1 0 = some (.aload_n 0, 1, 0)) rfl rfl rfl
theorem w1_1 {a : Nat} : W (pj lw) 1 1 L (.ref a :: S) k n H Q ↔ ((1 ≤ 1 ∧ cs S + 12 ≤ 13) ∧ W (pj lw) 1 4 L S k n H Q) := W_oinit (rfl : (pj lw).1 1 1 = some (.invokespecial 1, 3, (-1)))
theorem w1_4 {x : Nat} : W (pj lw) 1 4 (.val (.ref x) :: L) S k n H Q ↔ W (pj lw) 1 5 (.val (.ref x) :: L) (.ref x :: S) k n H Q := W_s (rfl : (pj lw).1 1 4 = some (.aload_n 0, 1, 0)) rfl rfl rfl
theorem w1_5 : W (pj lw) 1 5 L S k n H Q ↔ W (pj lw) 1 8 L (.int 128 :: S) k n H Q := W_s (rfl : (pj lw).1 1 5 = some (.sipush 128, 3, 0)) rfl rfl rfl
theorem w1_8 : W (pj lw) 1 8 L (.int 128 :: S) k n H Q ↔ ((k + 1 ≤ 11 ∧ n + 128 ≤ 1824) ∧ W (pj lw) 1 10 L (.ref H.1 :: S) (k + 1) (n + 128) (mkA .int 128 H) Q) := W_newarr' (rfl : (pj lw).1 1 8 = some (.newarray .int, 2, 0)) rfl (by decide) (by decide)
theorem w1_10 {a : Nat} {v : Value} : W (pj lw) 1 10 L (v :: .ref a :: S) k n H Q ↔ ((isOw H a = true ∧ okv (.array .int) v = true) ∧ W (pj lw) 1 13 L S k n (wr H a 1 v) Q) := W_putf (rfl : (pj lw).1 1 10 = some (.putfield 7, 3, 1))
theorem w1_13 {x : Nat} : W (pj lw) 1 13 (.val (.ref x) :: L) S k n H Q ↔ W (pj lw) 1 14 (.val (.ref x) :: L) (.ref x :: S) k n H Q := W_s (rfl : (pj lw).1 1 13 = some (.aload_n 0, 1, 0)) rfl rfl rfl
theorem w1_14 : W (pj lw) 1 14 L S k n H Q ↔ W (pj lw) 1 17 L (.int 128 :: S) k n H Q := W_s (rfl : (pj lw).1 1 14 = some (.sipush 128, 3, 0)) rfl rfl rfl
theorem w1_17 : W (pj lw) 1 17 L (.int 128 :: S) k n H Q ↔ ((k + 1 ≤ 11 ∧ n + 128 ≤ 1824) ∧ W (pj lw) 1 19 L (.ref H.1 :: S) (k + 1) (n + 128) (mkA .int 128 H) Q) := W_newarr' (rfl : (pj lw).1 1 17 = some (.newarray .int, 2, 0)) rfl (by decide) (by decide)
theorem w1_19 {a : Nat} {v : Value} : W (pj lw) 1 19 L (v :: .ref a :: S) k n H Q ↔ ((isOw H a = true ∧ okv (.array .int) v = true) ∧ W (pj lw) 1 22 L S k n (wr H a 2 v) Q) := W_putf (rfl : (pj lw).1 1 19 = some (.putfield 13, 3, 2))
theorem w1_22 {x : Nat} : W (pj lw) 1 22 (.val (.ref x) :: L) S k n H Q ↔ W (pj lw) 1 23 (.val (.ref x) :: L) (.ref x :: S) k n H Q := W_s (rfl : (pj lw).1 1 22 = some (.aload_n 0, 1, 0)) rfl rfl rfl
theorem w1_23 : W (pj lw) 1 23 L S k n H Q ↔ W (pj lw) 1 26 L (.int 128 :: S) k n H Q := W_s (rfl : (pj lw).1 1 23 = some (.sipush 128, 3, 0)) rfl rfl rfl
theorem w1_26 : W (pj lw) 1 26 L (.int 128 :: S) k n H Q ↔ ((k + 1 ≤ 11 ∧ n + 128 ≤ 1824) ∧ W (pj lw) 1 28 L (.ref H.1 :: S) (k + 1) (n + 128) (mkA .int 128 H) Q) := W_newarr' (rfl : (pj lw).1 1 26 = some (.newarray .int, 2, 0)) rfl (by decide) (by decide)
theorem w1_28 {a : Nat} {v : Value} : W (pj lw) 1 28 L (v :: .ref a :: S) k n H Q ↔ ((isOw H a = true ∧ okv (.array .int) v = true) ∧ W (pj lw) 1 31 L S k n (wr H a 3 v) Q) := W_putf (rfl : (pj lw).1 1 28 = some (.putfield 16, 3, 3))
theorem w1_31 {x : Nat} : W (pj lw) 1 31 (.val (.ref x) :: L) S k n H Q ↔ W (pj lw) 1 32 (.val (.ref x) :: L) (.ref x :: S) k n H Q := W_s (rfl : (pj lw).1 1 31 = some (.aload_n 0, 1, 0)) rfl rfl rfl
theorem w1_32 : W (pj lw) 1 32 L S k n H Q ↔ W (pj lw) 1 35 L (.int 128 :: S) k n H Q := W_s (rfl : (pj lw).1 1 32 = some (.sipush 128, 3, 0)) rfl rfl rfl
theorem w1_35 : W (pj lw) 1 35 L (.int 128 :: S) k n H Q ↔ ((k + 1 ≤ 11 ∧ n + 128 ≤ 1824) ∧ W (pj lw) 1 37 L (.ref H.1 :: S) (k + 1) (n + 128) (mkA .boolean 128 H) Q) := W_newarr' (rfl : (pj lw).1 1 35 = some (.newarray .boolean, 2, 0)) rfl (by decide) (by decide)
theorem w1_37 {a : Nat} {v : Value} : W (pj lw) 1 37 L (v :: .ref a :: S) k n H Q ↔ ((isOw H a = true ∧ okv (.array .boolean) v = true) ∧ W (pj lw) 1 40 L S k n (wr H a 4 v) Q) := W_putf (rfl : (pj lw).1 1 37 = some (.putfield 19, 3, 4))
theorem w1_40 {x : Nat} : W (pj lw) 1 40 (.val (.ref x) :: L) S k n H Q ↔ W (pj lw) 1 41 (.val (.ref x) :: L) (.ref x :: S) k n H Q := W_s (rfl : (pj lw).1 1 40 = some (.aload_n 0, 1, 0)) rfl rfl rfl
theorem w1_41 : W (pj lw) 1 41 L S k n H Q ↔ W (pj lw) 1 44 L (.int 128 :: S) k n H Q := W_s (rfl : (pj lw).1 1 41 = some (.sipush 128, 3, 0)) rfl rfl rfl
theorem w1_44 : W (pj lw) 1 44 L (.int 128 :: S) k n H Q ↔ ((k + 1 ≤ 11 ∧ n + 128 ≤ 1824) ∧ W (pj lw) 1 46 L (.ref H.1 :: S) (k + 1) (n + 128) (mkA .boolean 128 H) Q) := W_newarr' (rfl : (pj lw).1 1 44 = some (.newarray .boolean, 2, 0)) rfl (by decide) (by decide)
theorem w1_46 {a : Nat} {v : Value} : W (pj lw) 1 46 L (v :: .ref a :: S) k n H Q ↔ ((isOw H a = true ∧ okv (.array .boolean) v = true) ∧ W (pj lw) 1 49 L S k n (wr H a 5 v) Q) := W_putf (rfl : (pj lw).1 1 46 = some (.putfield 23, 3, 5))
theorem w1_49 {x : Nat} : W (pj lw) 1 49 (.val (.ref x) :: L) S k n H Q ↔ W (pj lw) 1 50 (.val (.ref x) :: L) (.ref x :: S) k n H Q := W_s (rfl : (pj lw).1 1 49 = some (.aload_n 0, 1, 0)) rfl rfl rfl
theorem w1_50 : W (pj lw) 1 50 L S k n H Q ↔ W (pj lw) 1 53 L (.int 1024 :: S) k n H Q := W_s (rfl : (pj lw).1 1 50 = some (.sipush 1024, 3, 0)) rfl rfl rfl
theorem w1_53 : W (pj lw) 1 53 L (.int 1024 :: S) k n H Q ↔ ((k + 1 ≤ 11 ∧ n + 1024 ≤ 1824) ∧ W (pj lw) 1 55 L (.ref H.1 :: S) (k + 1) (n + 1024) (mkA .int 1024 H) Q) := W_newarr' (rfl : (pj lw).1 1 53 = some (.newarray .int, 2, 0)) rfl (by decide) (by decide)
theorem w1_55 {a : Nat} {v : Value} : W (pj lw) 1 55 L (v :: .ref a :: S) k n H Q ↔ ((isOw H a = true ∧ okv (.array .int) v = true) ∧ W (pj lw) 1 58 L S k n (wr H a 6 v) Q) := W_putf (rfl : (pj lw).1 1 55 = some (.putfield 26, 3, 6))
theorem w1_58 {x : Nat} : W (pj lw) 1 58 (.val (.ref x) :: L) S k n H Q ↔ W (pj lw) 1 59 (.val (.ref x) :: L) (.ref x :: S) k n H Q := W_s (rfl : (pj lw).1 1 58 = some (.aload_n 0, 1, 0)) rfl rfl rfl
theorem w1_59 : W (pj lw) 1 59 L S k n H Q ↔ W (pj lw) 1 61 L (.int 32 :: S) k n H Q := W_s (rfl : (pj lw).1 1 59 = some (.bipush 32, 2, 0)) rfl rfl rfl
theorem w1_61 : W (pj lw) 1 61 L (.int 32 :: S) k n H Q ↔ ((k + 1 ≤ 11 ∧ n + 32 ≤ 1824) ∧ W (pj lw) 1 63 L (.ref H.1 :: S) (k + 1) (n + 32) (mkA .int 32 H) Q) := W_newarr' (rfl : (pj lw).1 1 61 = some (.newarray .int, 2, 0)) rfl (by decide) (by decide)
theorem w1_63 {a : Nat} {v : Value} : W (pj lw) 1 63 L (v :: .ref a :: S) k n H Q ↔ ((isOw H a = true ∧ okv (.array .int) v = true) ∧ W (pj lw) 1 66 L S k n (wr H a 7 v) Q) := W_putf (rfl : (pj lw).1 1 63 = some (.putfield 29, 3, 7))
theorem w1_66 {x : Nat} : W (pj lw) 1 66 (.val (.ref x) :: L) S k n H Q ↔ W (pj lw) 1 67 (.val (.ref x) :: L) (.ref x :: S) k n H Q := W_s (rfl : (pj lw).1 1 66 = some (.aload_n 0, 1, 0)) rfl rfl rfl
theorem w1_67 : W (pj lw) 1 67 L S k n H Q ↔ W (pj lw) 1 69 L (.int 32 :: S) k n H Q := W_s (rfl : (pj lw).1 1 67 = some (.bipush 32, 2, 0)) rfl rfl rfl
theorem w1_69 : W (pj lw) 1 69 L (.int 32 :: S) k n H Q ↔ ((k + 1 ≤ 11 ∧ n + 32 ≤ 1824) ∧ W (pj lw) 1 71 L (.ref H.1 :: S) (k + 1) (n + 32) (mkA .boolean 32 H) Q) := W_newarr' (rfl : (pj lw).1 1 69 = some (.newarray .boolean, 2, 0)) rfl (by decide) (by decide)
theorem w1_71 {a : Nat} {v : Value} : W (pj lw) 1 71 L (v :: .ref a :: S) k n H Q ↔ ((isOw H a = true ∧ okv (.array .boolean) v = true) ∧ W (pj lw) 1 74 L S k n (wr H a 8 v) Q) := W_putf (rfl : (pj lw).1 1 71 = some (.putfield 32, 3, 8))
theorem w1_74 {x : Nat} : W (pj lw) 1 74 (.val (.ref x) :: L) S k n H Q ↔ W (pj lw) 1 75 (.val (.ref x) :: L) (.ref x :: S) k n H Q := W_s (rfl : (pj lw).1 1 74 = some (.aload_n 0, 1, 0)) rfl rfl rfl
theorem w1_75 : W (pj lw) 1 75 L S k n H Q ↔ W (pj lw) 1 77 L (.int 32 :: S) k n H Q := W_s (rfl : (pj lw).1 1 75 = some (.bipush 32, 2, 0)) rfl rfl rfl
theorem w1_77 : W (pj lw) 1 77 L (.int 32 :: S) k n H Q ↔ ((k + 1 ≤ 11 ∧ n + 32 ≤ 1824) ∧ W (pj lw) 1 79 L (.ref H.1 :: S) (k + 1) (n + 32) (mkA .int 32 H) Q) := W_newarr' (rfl : (pj lw).1 1 77 = some (.newarray .int, 2, 0)) rfl (by decide) (by decide)
theorem w1_79 {a : Nat} {v : Value} : W (pj lw) 1 79 L (v :: .ref a :: S) k n H Q ↔ ((isOw H a = true ∧ okv (.array .int) v = true) ∧ W (pj lw) 1 82 L S k n (wr H a 9 v) Q) := W_putf (rfl : (pj lw).1 1 79 = some (.putfield 35, 3, 9))
theorem w1_82 {x : Nat} : W (pj lw) 1 82 (.val (.ref x) :: L) S k n H Q ↔ W (pj lw) 1 83 (.val (.ref x) :: L) (.ref x :: S) k n H Q := W_s (rfl : (pj lw).1 1 82 = some (.aload_n 0, 1, 0)) rfl rfl rfl
theorem w1_83 : W (pj lw) 1 83 L S k n H Q ↔ W (pj lw) 1 85 L (.int 32 :: S) k n H Q := W_s (rfl : (pj lw).1 1 83 = some (.bipush 32, 2, 0)) rfl rfl rfl
theorem w1_85 : W (pj lw) 1 85 L (.int 32 :: S) k n H Q ↔ ((k + 1 ≤ 11 ∧ n + 32 ≤ 1824) ∧ W (pj lw) 1 87 L (.ref H.1 :: S) (k + 1) (n + 32) (mkA .int 32 H) Q) := W_newarr' (rfl : (pj lw).1 1 85 = some (.newarray .int, 2, 0)) rfl (by decide) (by decide)
theorem w1_87 {a : Nat} {v : Value} : W (pj lw) 1 87 L (v :: .ref a :: S) k n H Q ↔ ((isOw H a = true ∧ okv (.array .int) v = true) ∧ W (pj lw) 1 90 L S k n (wr H a 10 v) Q) := W_putf (rfl : (pj lw).1 1 87 = some (.putfield 38, 3, 10))
theorem w1_90 {x : Nat} : W (pj lw) 1 90 (.val (.ref x) :: L) S k n H Q ↔ W (pj lw) 1 91 (.val (.ref x) :: L) (.ref x :: S) k n H Q := W_s (rfl : (pj lw).1 1 90 = some (.aload_n 0, 1, 0)) rfl rfl rfl
theorem w1_91 : W (pj lw) 1 91 L S k n H Q ↔ W (pj lw) 1 93 L (.int 32 :: S) k n H Q := W_s (rfl : (pj lw).1 1 91 = some (.bipush 32, 2, 0)) rfl rfl rfl
theorem w1_93 : W (pj lw) 1 93 L (.int 32 :: S) k n H Q ↔ ((k + 1 ≤ 11 ∧ n + 32 ≤ 1824) ∧ W (pj lw) 1 95 L (.ref H.1 :: S) (k + 1) (n + 32) (mkA .int 32 H) Q) := W_newarr' (rfl : (pj lw).1 1 93 = some (.newarray .int, 2, 0)) rfl (by decide) (by decide)
theorem w1_95 {a : Nat} {v : Value} : W (pj lw) 1 95 L (v :: .ref a :: S) k n H Q ↔ ((isOw H a = true ∧ okv (.array .int) v = true) ∧ W (pj lw) 1 98 L S k n (wr H a 11 v) Q) := W_putf (rfl : (pj lw).1 1 95 = some (.putfield 41, 3, 11))
theorem w1_98 {x : Int32} {l0 : Slot} : W (pj lw) 1 98 (l0 :: .val (.int x) :: L) S k n H Q ↔ W (pj lw) 1 99 (l0 :: .val (.int x) :: L) (.int x :: S) k n H Q := W_s (rfl : (pj lw).1 1 98 = some (.iload_n 1, 1, 0)) rfl rfl rfl
theorem w1_99 {x : Int32} {l0 l1 : Slot} : W (pj lw) 1 99 (l0 :: l1 :: .unset :: L) (.int x :: S) k n H Q ↔ W (pj lw) 1 100 (l0 :: l1 :: .val (.int x) :: L) S k n H Q := W_istn (rfl : (pj lw).1 1 99 = some (.istore_n 2, 1, 0)) rfl rfl
theorem w1_100 {x : Int32} {l0 l1 : Slot} : W (pj lw) 1 100 (l0 :: l1 :: .val (.int x) :: L) S k n H Q ↔ W (pj lw) 1 101 (l0 :: l1 :: .val (.int x) :: L) (.int x :: S) k n H Q := W_s (rfl : (pj lw).1 1 100 = some (.iload_n 2, 1, 0)) rfl rfl rfl
theorem w1_101 : W (pj lw) 1 101 L S k n H Q ↔ W (pj lw) 1 102 L (.int 2 :: S) k n H Q := W_s (rfl : (pj lw).1 1 101 = some (.iconst 2, 1, 0)) rfl rfl rfl
theorem w1_102 {x y : Int32} : W (pj lw) 1 102 L (.int y :: .int x :: S) k n H Q ↔ (if x < y then W (pj lw) 1 105 L S k n H Q else W (pj lw) 1 107 L S k n H Q) := W_icmp_ge (rfl : (pj lw).1 1 102 = some (.if_icmp .ge 5, 3, 0)) rfl
theorem w1_105 : W (pj lw) 1 105 L S k n H Q ↔ W (pj lw) 1 106 L (.int 2 :: S) k n H Q := W_s (rfl : (pj lw).1 1 105 = some (.iconst 2, 1, 0)) rfl rfl rfl
theorem w1_106i {y : Int32} {x : Int32} {l0 l1 : Slot} : W (pj lw) 1 106 (l0 :: l1 :: .val (.int y) :: L) (.int x :: S) k n H Q ↔ W (pj lw) 1 107 (l0 :: l1 :: .val (.int x) :: L) S k n H Q := W_istn (rfl : (pj lw).1 1 106 = some (.istore_n 2, 1, 0)) rfl rfl
theorem w1_107 {x : Int32} {l0 l1 : Slot} : W (pj lw) 1 107 (l0 :: l1 :: .val (.int x) :: L) S k n H Q ↔ W (pj lw) 1 108 (l0 :: l1 :: .val (.int x) :: L) (.int x :: S) k n H Q := W_s (rfl : (pj lw).1 1 107 = some (.iload_n 2, 1, 0)) rfl rfl rfl
theorem w1_108 : W (pj lw) 1 108 L S k n H Q ↔ W (pj lw) 1 110 L (.int 32 :: S) k n H Q := W_s (rfl : (pj lw).1 1 108 = some (.bipush 32, 2, 0)) rfl rfl rfl
theorem w1_110 {x y : Int32} : W (pj lw) 1 110 L (.int y :: .int x :: S) k n H Q ↔ (if y < x then W (pj lw) 1 113 L S k n H Q else W (pj lw) 1 116 L S k n H Q) := W_icmp_le (rfl : (pj lw).1 1 110 = some (.if_icmp .le 6, 3, 0)) rfl
theorem w1_113 : W (pj lw) 1 113 L S k n H Q ↔ W (pj lw) 1 115 L (.int 32 :: S) k n H Q := W_s (rfl : (pj lw).1 1 113 = some (.bipush 32, 2, 0)) rfl rfl rfl
theorem w1_115i {y : Int32} {x : Int32} {l0 l1 : Slot} : W (pj lw) 1 115 (l0 :: l1 :: .val (.int y) :: L) (.int x :: S) k n H Q ↔ W (pj lw) 1 116 (l0 :: l1 :: .val (.int x) :: L) S k n H Q := W_istn (rfl : (pj lw).1 1 115 = some (.istore_n 2, 1, 0)) rfl rfl
theorem w1_116 {x : Nat} : W (pj lw) 1 116 (.val (.ref x) :: L) S k n H Q ↔ W (pj lw) 1 117 (.val (.ref x) :: L) (.ref x :: S) k n H Q := W_s (rfl : (pj lw).1 1 116 = some (.aload_n 0, 1, 0)) rfl rfl rfl
theorem w1_117 {x : Int32} {l0 l1 : Slot} : W (pj lw) 1 117 (l0 :: l1 :: .val (.int x) :: L) S k n H Q ↔ W (pj lw) 1 118 (l0 :: l1 :: .val (.int x) :: L) (.int x :: S) k n H Q := W_s (rfl : (pj lw).1 1 117 = some (.iload_n 2, 1, 0)) rfl rfl rfl
theorem w1_118 {a : Nat} {v : Value} : W (pj lw) 1 118 L (v :: .ref a :: S) k n H Q ↔ ((isOw H a = true ∧ okv (.int) v = true) ∧ W (pj lw) 1 121 L S k n (wr H a 0 v) Q) := W_putf (rfl : (pj lw).1 1 118 = some (.putfield 44, 3, 0))
theorem w1_121 {x : Nat} : W (pj lw) 1 121 (.val (.ref x) :: L) S k n H Q ↔ W (pj lw) 1 122 (.val (.ref x) :: L) (.ref x :: S) k n H Q := W_s (rfl : (pj lw).1 1 121 = some (.aload_n 0, 1, 0)) rfl rfl rfl
theorem w1_122 : W (pj lw) 1 122 L S k n H Q ↔ W (pj lw) 1 123 L (.int 0 :: S) k n H Q := W_s (rfl : (pj lw).1 1 122 = some (.iconst 0, 1, 0)) rfl rfl rfl
theorem w1_123 {a : Nat} {v : Value} : W (pj lw) 1 123 L (v :: .ref a :: S) k n H Q ↔ ((isOw H a = true ∧ okv (.int) v = true) ∧ W (pj lw) 1 126 L S k n (wr H a 12 v) Q) := W_putf (rfl : (pj lw).1 1 123 = some (.putfield 48, 3, 12))
theorem w1_126 {x : Nat} : W (pj lw) 1 126 (.val (.ref x) :: L) S k n H Q ↔ W (pj lw) 1 127 (.val (.ref x) :: L) (.ref x :: S) k n H Q := W_s (rfl : (pj lw).1 1 126 = some (.aload_n 0, 1, 0)) rfl rfl rfl
theorem w1_127 : W (pj lw) 1 127 L S k n H Q ↔ W (pj lw) 1 128 L (.int 0 :: S) k n H Q := W_s (rfl : (pj lw).1 1 127 = some (.iconst 0, 1, 0)) rfl rfl rfl
theorem w1_128 {a : Nat} {v : Value} : W (pj lw) 1 128 L (v :: .ref a :: S) k n H Q ↔ ((isOw H a = true ∧ okv (.int) v = true) ∧ W (pj lw) 1 131 L S k n (wr H a 13 v) Q) := W_putf (rfl : (pj lw).1 1 128 = some (.putfield 51, 3, 13))
theorem w1_131 {x : Nat} : W (pj lw) 1 131 (.val (.ref x) :: L) S k n H Q ↔ W (pj lw) 1 132 (.val (.ref x) :: L) (.ref x :: S) k n H Q := W_s (rfl : (pj lw).1 1 131 = some (.aload_n 0, 1, 0)) rfl rfl rfl
theorem w1_132 : W (pj lw) 1 132 L S k n H Q ↔ W (pj lw) 1 133 L (.long 0 :: S) k n H Q := W_s (rfl : (pj lw).1 1 132 = some (.lconst 0, 1, 0)) rfl rfl rfl
theorem w1_133 {a : Nat} {v : Value} : W (pj lw) 1 133 L (v :: .ref a :: S) k n H Q ↔ ((isOw H a = true ∧ okv (.long) v = true) ∧ W (pj lw) 1 136 L S k n (wr H a 14 v) Q) := W_putf (rfl : (pj lw).1 1 133 = some (.putfield 54, 3, 14))
theorem w1_136 {x : Nat} : W (pj lw) 1 136 (.val (.ref x) :: L) S k n H Q ↔ W (pj lw) 1 137 (.val (.ref x) :: L) (.ref x :: S) k n H Q := W_s (rfl : (pj lw).1 1 136 = some (.aload_n 0, 1, 0)) rfl rfl rfl
theorem w1_137 : W (pj lw) 1 137 L S k n H Q ↔ W (pj lw) 1 138 L (.int (-1) :: S) k n H Q := W_s (rfl : (pj lw).1 1 137 = some (.iconst (-1), 1, 0)) rfl rfl rfl
theorem w1_138 {a : Nat} {v : Value} : W (pj lw) 1 138 L (v :: .ref a :: S) k n H Q ↔ ((isOw H a = true ∧ okv (.int) v = true) ∧ W (pj lw) 1 141 L S k n (wr H a 15 v) Q) := W_putf (rfl : (pj lw).1 1 138 = some (.putfield 58, 3, 15))
theorem w1_141 {x : Nat} : W (pj lw) 1 141 (.val (.ref x) :: L) S k n H Q ↔ W (pj lw) 1 142 (.val (.ref x) :: L) (.ref x :: S) k n H Q := W_s (rfl : (pj lw).1 1 141 = some (.aload_n 0, 1, 0)) rfl rfl rfl
theorem w1_142 : W (pj lw) 1 142 L S k n H Q ↔ W (pj lw) 1 143 L (.int (-1) :: S) k n H Q := W_s (rfl : (pj lw).1 1 142 = some (.iconst (-1), 1, 0)) rfl rfl rfl
theorem w1_143 {a : Nat} {v : Value} : W (pj lw) 1 143 L (v :: .ref a :: S) k n H Q ↔ ((isOw H a = true ∧ okv (.int) v = true) ∧ W (pj lw) 1 146 L S k n (wr H a 16 v) Q) := W_putf (rfl : (pj lw).1 1 143 = some (.putfield 61, 3, 16))
theorem w1_146 : W (pj lw) 1 146 L S k n H Q ↔ W (pj lw) 1 147 L (.int 0 :: S) k n H Q := W_s (rfl : (pj lw).1 1 146 = some (.iconst 0, 1, 0)) rfl rfl rfl
theorem w1_147 {x : Int32} {l0 l1 l2 : Slot} : W (pj lw) 1 147 (l0 :: l1 :: l2 :: .unset :: L) (.int x :: S) k n H Q ↔ W (pj lw) 1 148 (l0 :: l1 :: l2 :: .val (.int x) :: L) S k n H Q := W_istn (rfl : (pj lw).1 1 147 = some (.istore_n 3, 1, 0)) rfl rfl
theorem w1_148 {x : Int32} {l0 l1 l2 : Slot} : W (pj lw) 1 148 (l0 :: l1 :: l2 :: .val (.int x) :: L) S k n H Q ↔ W (pj lw) 1 149 (l0 :: l1 :: l2 :: .val (.int x) :: L) (.int x :: S) k n H Q := W_s (rfl : (pj lw).1 1 148 = some (.iload_n 3, 1, 0)) rfl rfl rfl
theorem w1_149 : W (pj lw) 1 149 L S k n H Q ↔ W (pj lw) 1 151 L (.int 32 :: S) k n H Q := W_s (rfl : (pj lw).1 1 149 = some (.bipush 32, 2, 0)) rfl rfl rfl
theorem w1_151 {x y : Int32} : W (pj lw) 1 151 L (.int y :: .int x :: S) k n H Q ↔ (if x < y then W (pj lw) 1 154 L S k n H Q else W (pj lw) 1 167 L S k n H Q) := W_icmp_ge (rfl : (pj lw).1 1 151 = some (.if_icmp .ge 16, 3, 0)) rfl
theorem w1_154 {x : Nat} : W (pj lw) 1 154 (.val (.ref x) :: L) S k n H Q ↔ W (pj lw) 1 155 (.val (.ref x) :: L) (.ref x :: S) k n H Q := W_s (rfl : (pj lw).1 1 154 = some (.aload_n 0, 1, 0)) rfl rfl rfl
theorem w1_155 {a : Nat} : W (pj lw) 1 155 L (.ref a :: S) k n H Q ↔ (isO H a = true ∧ W (pj lw) 1 158 L (fld H a 7 :: S) k n H Q) := W_getf (rfl : (pj lw).1 1 155 = some (.getfield 29, 3, 7))
theorem w1_158 {x : Int32} {l0 l1 l2 : Slot} : W (pj lw) 1 158 (l0 :: l1 :: l2 :: .val (.int x) :: L) S k n H Q ↔ W (pj lw) 1 159 (l0 :: l1 :: l2 :: .val (.int x) :: L) (.int x :: S) k n H Q := W_s (rfl : (pj lw).1 1 158 = some (.iload_n 3, 1, 0)) rfl rfl rfl
theorem w1_159 : W (pj lw) 1 159 L S k n H Q ↔ W (pj lw) 1 160 L (.int 0 :: S) k n H Q := W_s (rfl : (pj lw).1 1 159 = some (.iconst 0, 1, 0)) rfl rfl rfl
theorem w1_160 {x i : Int32} {a : Nat} : W (pj lw) 1 160 L (.int x :: .int i :: .ref a :: S) k n H Q ↔ (inAw H a .int i = true ∧ W (pj lw) 1 161 L S k n (wr H a i.toNatClampNeg (.int x)) Q) := W_iastore (rfl : (pj lw).1 1 160 = some (.iastore, 1, 0))
theorem w1_161 {x : Int32} {l0 l1 l2 : Slot} : W (pj lw) 1 161 (l0 :: l1 :: l2 :: .val (.int x) :: L) S k n H Q ↔ W (pj lw) 1 164 (l0 :: l1 :: l2 :: .val (.int (x + 1)) :: L) S k n H Q := W_s (rfl : (pj lw).1 1 161 = some (.iinc 3 1, 3, 0)) rfl rfl rfl
theorem w1_164 : W (pj lw) 1 164 L S k n H Q ↔ W (pj lw) 1 148 L S k n H Q := W_goto (rfl : (pj lw).1 1 164 = some (.goto (-16), 3, 0)) rfl
theorem w1_167 {x : Nat} : W (pj lw) 1 167 (.val (.ref x) :: L) S k n H Q ↔ W (pj lw) 1 168 (.val (.ref x) :: L) (.ref x :: S) k n H Q := W_s (rfl : (pj lw).1 1 167 = some (.aload_n 0, 1, 0)) rfl rfl rfl
theorem w1_168 {a : Nat} : W (pj lw) 1 168 L (.ref a :: S) k n H Q ↔ ((isO H a = true ∧ cs S + (2 + 11) + 0 ≤ 13) ∧ Cl (pj lw) 29 [.ref a] H (fun v H => W (pj lw) 1 171 L (v.toList ++ S) k n H Q)) := W_inst (as := []) (rfl : (pj lw).1 1 168 = some (.invokevirtual 64, 3, 29)) rfl rfl rfl (Nat.le_of_ble_eq_true rfl) (Nat.le_of_ble_eq_true rfl) ⟨rfl, rfl⟩
theorem w1_171 : W (pj lw) 1 171 L [] k n H Q ↔ Q none H := W_r (rfl : (pj lw).1 1 171 = some (.return_, 1, 0)) rfl
theorem c2 {x0 : Nat} {x1 : Int32} {x2 : Int32} {x3 : Int32} : Cl (pj lw) 2 [.ref x0, .int x1, .int x2, .int x3] H Q ↔ W (pj lw) 2 0 [.val (.ref x0), .val (.int x1), .val (.int x2), .val (.int x3), .unset, .unset] [] 0 0 H Q := cl_unf rfl
theorem w2_0 {x : Nat} : W (pj lw) 2 0 (.val (.ref x) :: L) S k n H Q ↔ W (pj lw) 2 1 (.val (.ref x) :: L) (.ref x :: S) k n H Q := W_s (rfl : (pj lw).1 2 0 = some (.aload_n 0, 1, 0)) rfl rfl rfl
theorem w2_1 {x : Int32} {l0 : Slot} : W (pj lw) 2 1 (l0 :: .val (.int x) :: L) S k n H Q ↔ W (pj lw) 2 2 (l0 :: .val (.int x) :: L) (.int x :: S) k n H Q := W_s (rfl : (pj lw).1 2 1 = some (.iload_n 1, 1, 0)) rfl rfl rfl
theorem w2_2 {a : Nat} {x0 : Int32} : W (pj lw) 2 2 L (.int x0 :: .ref a :: S) k n H Q ↔ ((isO H a = true ∧ cs S + (2 + 11) + 0 ≤ 65) ∧ Cl (pj lw) 39 [.ref a, .int x0] H (fun v H => W (pj lw) 2 5 L (v.toList ++ S) k n H Q)) := W_inst (as := [.int x0]) (rfl : (pj lw).1 2 2 = some (.invokevirtual 67, 3, 39)) rfl rfl rfl (Nat.le_of_ble_eq_true rfl) (Nat.le_of_ble_eq_true rfl) ⟨rfl, rfl⟩
theorem w2_5 {x : Int32} : W (pj lw) 2 5 L (.int x :: S) k n H Q ↔ (if x = 0 then W (pj lw) 2 16 L S k n H Q else W (pj lw) 2 8 L S k n H Q) := W_if_eq (rfl : (pj lw).1 2 5 = some (.ifCond .eq 11, 3, 0)) rfl
theorem w2_8 {x : Nat} : W (pj lw) 2 8 (.val (.ref x) :: L) S k n H Q ↔ W (pj lw) 2 9 (.val (.ref x) :: L) (.ref x :: S) k n H Q := W_s (rfl : (pj lw).1 2 8 = some (.aload_n 0, 1, 0)) rfl rfl rfl
theorem w2_9 {x : Int32} {l0 l1 : Slot} : W (pj lw) 2 9 (l0 :: l1 :: .val (.int x) :: L) S k n H Q ↔ W (pj lw) 2 10 (l0 :: l1 :: .val (.int x) :: L) (.int x :: S) k n H Q := W_s (rfl : (pj lw).1 2 9 = some (.iload_n 2, 1, 0)) rfl rfl rfl
theorem w2_10 {a : Nat} {x0 : Int32} : W (pj lw) 2 10 L (.int x0 :: .ref a :: S) k n H Q ↔ ((isO H a = true ∧ cs S + (2 + 11) + 0 ≤ 65) ∧ Cl (pj lw) 39 [.ref a, .int x0] H (fun v H => W (pj lw) 2 13 L (v.toList ++ S) k n H Q)) := W_inst (as := [.int x0]) (rfl : (pj lw).1 2 10 = some (.invokevirtual 67, 3, 39)) rfl rfl rfl (Nat.le_of_ble_eq_true rfl) (Nat.le_of_ble_eq_true rfl) ⟨rfl, rfl⟩
theorem w2_13 {x : Int32} : W (pj lw) 2 13 L (.int x :: S) k n H Q ↔ (if x = 0 then W (pj lw) 2 16 L S k n H Q else W (pj lw) 2 19 L S k n H Q) := W_if_ne (rfl : (pj lw).1 2 13 = some (.ifCond .ne 6, 3, 0)) rfl
theorem w2_16 : W (pj lw) 2 16 L S k n H Q ↔ W (pj lw) 2 18 L (.int (-2) :: S) k n H Q := W_s (rfl : (pj lw).1 2 16 = some (.bipush (-2), 2, 0)) rfl rfl rfl
theorem w2_18 {x : Int32} : W (pj lw) 2 18 L (.int x :: S) k n H Q ↔ Q (some (.int x)) H := W_r (rfl : (pj lw).1 2 18 = some (.ireturn, 1, 0)) rfl
theorem w2_19 {x : Int32} {l0 : Slot} : W (pj lw) 2 19 (l0 :: .val (.int x) :: L) S k n H Q ↔ W (pj lw) 2 20 (l0 :: .val (.int x) :: L) (.int x :: S) k n H Q := W_s (rfl : (pj lw).1 2 19 = some (.iload_n 1, 1, 0)) rfl rfl rfl
theorem w2_20 {x : Int32} {l0 l1 : Slot} : W (pj lw) 2 20 (l0 :: l1 :: .val (.int x) :: L) S k n H Q ↔ W (pj lw) 2 21 (l0 :: l1 :: .val (.int x) :: L) (.int x :: S) k n H Q := W_s (rfl : (pj lw).1 2 20 = some (.iload_n 2, 1, 0)) rfl rfl rfl
theorem w2_21 {x y : Int32} : W (pj lw) 2 21 L (.int y :: .int x :: S) k n H Q ↔ (if x = y then W (pj lw) 2 24 L S k n H Q else W (pj lw) 2 27 L S k n H Q) := W_icmp_ne (rfl : (pj lw).1 2 21 = some (.if_icmp .ne 6, 3, 0)) rfl
theorem w2_24 : W (pj lw) 2 24 L S k n H Q ↔ W (pj lw) 2 26 L (.int (-3) :: S) k n H Q := W_s (rfl : (pj lw).1 2 24 = some (.bipush (-3), 2, 0)) rfl rfl rfl
theorem w2_26 {x : Int32} : W (pj lw) 2 26 L (.int x :: S) k n H Q ↔ Q (some (.int x)) H := W_r (rfl : (pj lw).1 2 26 = some (.ireturn, 1, 0)) rfl
theorem w2_27 {x : Nat} : W (pj lw) 2 27 (.val (.ref x) :: L) S k n H Q ↔ W (pj lw) 2 28 (.val (.ref x) :: L) (.ref x :: S) k n H Q := W_s (rfl : (pj lw).1 2 27 = some (.aload_n 0, 1, 0)) rfl rfl rfl
theorem w2_28 {a : Nat} : W (pj lw) 2 28 L (.ref a :: S) k n H Q ↔ ((isO H a = true ∧ cs S + (2 + 11) + 0 ≤ 65) ∧ Cl (pj lw) 22 [.ref a] H (fun v H => W (pj lw) 2 31 L (v.toList ++ S) k n H Q)) := W_inst (as := []) (rfl : (pj lw).1 2 28 = some (.invokevirtual 71, 3, 22)) rfl rfl rfl (Nat.le_of_ble_eq_true rfl) (Nat.le_of_ble_eq_true rfl) ⟨rfl, rfl⟩
theorem w2_31 {x : Int32} {l0 l1 l2 l3 : Slot} : W (pj lw) 2 31 (l0 :: l1 :: l2 :: l3 :: .unset :: L) (.int x :: S) k n H Q ↔ W (pj lw) 2 33 (l0 :: l1 :: l2 :: l3 :: .val (.int x) :: L) S k n H Q := W_ist (rfl : (pj lw).1 2 31 = some (.istore 4, 2, 0)) rfl rfl
theorem w2_33 {x : Int32} {l0 l1 l2 l3 : Slot} : W (pj lw) 2 33 (l0 :: l1 :: l2 :: l3 :: .val (.int x) :: L) S k n H Q ↔ W (pj lw) 2 35 (l0 :: l1 :: l2 :: l3 :: .val (.int x) :: L) (.int x :: S) k n H Q := W_s (rfl : (pj lw).1 2 33 = some (.iload 4, 2, 0)) rfl rfl rfl
theorem w2_35 : W (pj lw) 2 35 L S k n H Q ↔ W (pj lw) 2 36 L (.int (-1) :: S) k n H Q := W_s (rfl : (pj lw).1 2 35 = some (.iconst (-1), 1, 0)) rfl rfl rfl
theorem w2_36 {x y : Int32} : W (pj lw) 2 36 L (.int y :: .int x :: S) k n H Q ↔ (if x = y then W (pj lw) 2 39 L S k n H Q else W (pj lw) 2 42 L S k n H Q) := W_icmp_ne (rfl : (pj lw).1 2 36 = some (.if_icmp .ne 6, 3, 0)) rfl
theorem w2_39 : W (pj lw) 2 39 L S k n H Q ↔ W (pj lw) 2 41 L (.int (-4) :: S) k n H Q := W_s (rfl : (pj lw).1 2 39 = some (.bipush (-4), 2, 0)) rfl rfl rfl
theorem w2_41 {x : Int32} : W (pj lw) 2 41 L (.int x :: S) k n H Q ↔ Q (some (.int x)) H := W_r (rfl : (pj lw).1 2 41 = some (.ireturn, 1, 0)) rfl
theorem w2_42 {x : Nat} : W (pj lw) 2 42 (.val (.ref x) :: L) S k n H Q ↔ W (pj lw) 2 43 (.val (.ref x) :: L) (.ref x :: S) k n H Q := W_s (rfl : (pj lw).1 2 42 = some (.aload_n 0, 1, 0)) rfl rfl rfl
theorem w2_43 {x : Int32} {l0 l1 l2 : Slot} : W (pj lw) 2 43 (l0 :: l1 :: l2 :: .val (.int x) :: L) S k n H Q ↔ W (pj lw) 2 44 (l0 :: l1 :: l2 :: .val (.int x) :: L) (.int x :: S) k n H Q := W_s (rfl : (pj lw).1 2 43 = some (.iload_n 3, 1, 0)) rfl rfl rfl
theorem w2_44 {a : Nat} {x0 : Int32} : W (pj lw) 2 44 L (.int x0 :: .ref a :: S) k n H Q ↔ ((isO H a = true ∧ cs S + (2 + 11) + 0 ≤ 65) ∧ Cl (pj lw) 41 [.ref a, .int x0] H (fun v H => W (pj lw) 2 47 L (v.toList ++ S) k n H Q)) := W_inst (as := [.int x0]) (rfl : (pj lw).1 2 44 = some (.invokevirtual 75, 3, 41)) rfl rfl rfl (Nat.le_of_ble_eq_true rfl) (Nat.le_of_ble_eq_true rfl) ⟨rfl, rfl⟩
theorem w2_47 {x : Int32} {l0 l1 l2 l3 l4 : Slot} : W (pj lw) 2 47 (l0 :: l1 :: l2 :: l3 :: l4 :: .unset :: L) (.int x :: S) k n H Q ↔ W (pj lw) 2 49 (l0 :: l1 :: l2 :: l3 :: l4 :: .val (.int x) :: L) S k n H Q := W_ist (rfl : (pj lw).1 2 47 = some (.istore 5, 2, 0)) rfl rfl
theorem w2_49 {x : Nat} : W (pj lw) 2 49 (.val (.ref x) :: L) S k n H Q ↔ W (pj lw) 2 50 (.val (.ref x) :: L) (.ref x :: S) k n H Q := W_s (rfl : (pj lw).1 2 49 = some (.aload_n 0, 1, 0)) rfl rfl rfl
theorem w2_50 {x : Int32} {l0 l1 l2 l3 : Slot} : W (pj lw) 2 50 (l0 :: l1 :: l2 :: l3 :: .val (.int x) :: L) S k n H Q ↔ W (pj lw) 2 52 (l0 :: l1 :: l2 :: l3 :: .val (.int x) :: L) (.int x :: S) k n H Q := W_s (rfl : (pj lw).1 2 50 = some (.iload 4, 2, 0)) rfl rfl rfl
theorem w2_52 {x : Int32} {l0 : Slot} : W (pj lw) 2 52 (l0 :: .val (.int x) :: L) S k n H Q ↔ W (pj lw) 2 53 (l0 :: .val (.int x) :: L) (.int x :: S) k n H Q := W_s (rfl : (pj lw).1 2 52 = some (.iload_n 1, 1, 0)) rfl rfl rfl
theorem w2_53 {x : Int32} {l0 l1 : Slot} : W (pj lw) 2 53 (l0 :: l1 :: .val (.int x) :: L) S k n H Q ↔ W (pj lw) 2 54 (l0 :: l1 :: .val (.int x) :: L) (.int x :: S) k n H Q := W_s (rfl : (pj lw).1 2 53 = some (.iload_n 2, 1, 0)) rfl rfl rfl
theorem w2_54 {x : Int32} {l0 l1 l2 l3 l4 : Slot} : W (pj lw) 2 54 (l0 :: l1 :: l2 :: l3 :: l4 :: .val (.int x) :: L) S k n H Q ↔ W (pj lw) 2 56 (l0 :: l1 :: l2 :: l3 :: l4 :: .val (.int x) :: L) (.int x :: S) k n H Q := W_s (rfl : (pj lw).1 2 54 = some (.iload 5, 2, 0)) rfl rfl rfl
theorem w2_56 {a : Nat} {x0 : Int32} {x1 : Int32} {x2 : Int32} {x3 : Int32} : W (pj lw) 2 56 L (.int x3 :: .int x2 :: .int x1 :: .int x0 :: .ref a :: S) k n H Q ↔ ((isO H a = true ∧ cs S + (5 + 11) + 0 ≤ 65) ∧ Cl (pj lw) 23 [.ref a, .int x0, .int x1, .int x2, .int x3] H (fun v H => W (pj lw) 2 59 L (v.toList ++ S) k n H Q)) := W_inst (as := [.int x0, .int x1, .int x2, .int x3]) (rfl : (pj lw).1 2 56 = some (.invokevirtual 79, 3, 23)) rfl rfl rfl (Nat.le_of_ble_eq_true rfl) (Nat.le_of_ble_eq_true rfl) ⟨rfl, rfl⟩
theorem w2_59 {x : Nat} : W (pj lw) 2 59 (.val (.ref x) :: L) S k n H Q ↔ W (pj lw) 2 60 (.val (.ref x) :: L) (.ref x :: S) k n H Q := W_s (rfl : (pj lw).1 2 59 = some (.aload_n 0, 1, 0)) rfl rfl rfl
theorem w2_60 {x : Int32} {l0 l1 l2 l3 : Slot} : W (pj lw) 2 60 (l0 :: l1 :: l2 :: l3 :: .val (.int x) :: L) S k n H Q ↔ W (pj lw) 2 62 (l0 :: l1 :: l2 :: l3 :: .val (.int x) :: L) (.int x :: S) k n H Q := W_s (rfl : (pj lw).1 2 60 = some (.iload 4, 2, 0)) rfl rfl rfl
theorem w2_62 {a : Nat} {x0 : Int32} : W (pj lw) 2 62 L (.int x0 :: .ref a :: S) k n H Q ↔ ((isO H a = true ∧ cs S + (4 + 11) + 50 ≤ 65) ∧ Cl (pj lw) 18 [.ref a, .int x0] H (fun v H => W (pj lw) 2 65 L (v.toList ++ S) k n H Q)) := W_inst (as := [.int x0]) (rfl : (pj lw).1 2 62 = some (.invokevirtual 83, 3, 18)) rfl rfl rfl (Nat.le_of_ble_eq_true rfl) (Nat.le_of_ble_eq_true rfl) ⟨rfl, rfl⟩
theorem w2_65 {x : Int32} {l0 l1 l2 l3 : Slot} : W (pj lw) 2 65 (l0 :: l1 :: l2 :: l3 :: .val (.int x) :: L) S k n H Q ↔ W (pj lw) 2 67 (l0 :: l1 :: l2 :: l3 :: .val (.int x) :: L) (.int x :: S) k n H Q := W_s (rfl : (pj lw).1 2 65 = some (.iload 4, 2, 0)) rfl rfl rfl
theorem w2_67 {x : Int32} : W (pj lw) 2 67 L (.int x :: S) k n H Q ↔ Q (some (.int x)) H := W_r (rfl : (pj lw).1 2 67 = some (.ireturn, 1, 0)) rfl
theorem c5 {x0 : Nat} {x1 : Int32} : Cl (pj lw) 5 [.ref x0, .int x1] H Q ↔ W (pj lw) 5 0 [.val (.ref x0), .val (.int x1)] [] 0 0 H Q := cl_unf rfl
theorem w5_0 {x : Nat} : W (pj lw) 5 0 (.val (.ref x) :: L) S k n H Q ↔ W (pj lw) 5 1 (.val (.ref x) :: L) (.ref x :: S) k n H Q := W_s (rfl : (pj lw).1 5 0 = some (.aload_n 0, 1, 0)) rfl rfl rfl
theorem w5_1 {x : Int32} {l0 : Slot} : W (pj lw) 5 1 (l0 :: .val (.int x) :: L) S k n H Q ↔ W (pj lw) 5 2 (l0 :: .val (.int x) :: L) (.int x :: S) k n H Q := W_s (rfl : (pj lw).1 5 1 = some (.iload_n 1, 1, 0)) rfl rfl rfl
theorem w5_2 {a : Nat} {x0 : Int32} : W (pj lw) 5 2 L (.int x0 :: .ref a :: S) k n H Q ↔ ((isO H a = true ∧ cs S + (2 + 11) + 0 ≤ 13) ∧ Cl (pj lw) 40 [.ref a, .int x0] H (fun v H => W (pj lw) 5 5 L (v.toList ++ S) k n H Q)) := W_inst (as := [.int x0]) (rfl : (pj lw).1 5 2 = some (.invokevirtual 103, 3, 40)) rfl rfl rfl (Nat.le_of_ble_eq_true rfl) (Nat.le_of_ble_eq_true rfl) ⟨rfl, rfl⟩
theorem w5_5 {x : Int32} : W (pj lw) 5 5 L (.int x :: S) k n H Q ↔ (if x = 0 then W (pj lw) 5 21 L S k n H Q else W (pj lw) 5 8 L S k n H Q) := W_if_eq (rfl : (pj lw).1 5 5 = some (.ifCond .eq 16, 3, 0)) rfl
theorem w5_8 {x : Nat} : W (pj lw) 5 8 (.val (.ref x) :: L) S k n H Q ↔ W (pj lw) 5 9 (.val (.ref x) :: L) (.ref x :: S) k n H Q := W_s (rfl : (pj lw).1 5 8 = some (.aload_n 0, 1, 0)) rfl rfl rfl
theorem w5_9 {a : Nat} : W (pj lw) 5 9 L (.ref a :: S) k n H Q ↔ (isO H a = true ∧ W (pj lw) 5 12 L (fld H a 4 :: S) k n H Q) := W_getf (rfl : (pj lw).1 5 9 = some (.getfield 19, 3, 4))
theorem w5_12 {x : Int32} {l0 : Slot} : W (pj lw) 5 12 (l0 :: .val (.int x) :: L) S k n H Q ↔ W (pj lw) 5 13 (l0 :: .val (.int x) :: L) (.int x :: S) k n H Q := W_s (rfl : (pj lw).1 5 12 = some (.iload_n 1, 1, 0)) rfl rfl rfl
theorem w5_13 {i : Int32} {a : Nat} : W (pj lw) 5 13 L (.int i :: .ref a :: S) k n H Q ↔ ((inA H a .byte i = true ∨ inA H a .boolean i = true) ∧ W (pj lw) 5 14 L (elt H a i :: S) k n H Q) := W_baload (rfl : (pj lw).1 5 13 = some (.baload, 1, 0))
theorem w5_14 {x : Int32} : W (pj lw) 5 14 L (.int x :: S) k n H Q ↔ (if x = 0 then W (pj lw) 5 21 L S k n H Q else W (pj lw) 5 17 L S k n H Q) := W_if_eq (rfl : (pj lw).1 5 14 = some (.ifCond .eq 7, 3, 0)) rfl
theorem w5_17 : W (pj lw) 5 17 L S k n H Q ↔ W (pj lw) 5 18 L (.int 1 :: S) k n H Q := W_s (rfl : (pj lw).1 5 17 = some (.iconst 1, 1, 0)) rfl rfl rfl
theorem w5_18 : W (pj lw) 5 18 L S k n H Q ↔ W (pj lw) 5 22 L S k n H Q := W_goto (rfl : (pj lw).1 5 18 = some (.goto 4, 3, 0)) rfl
theorem w5_21 : W (pj lw) 5 21 L S k n H Q ↔ W (pj lw) 5 22 L (.int 0 :: S) k n H Q := W_s (rfl : (pj lw).1 5 21 = some (.iconst 0, 1, 0)) rfl rfl rfl
theorem w5_22 {x : Int32} : W (pj lw) 5 22 L (.int x :: S) k n H Q ↔ ((x = 0 ∨ x = 1) ∧ Q (some (.int x)) H) := W_rz (rfl : (pj lw).1 5 22 = some (.ireturn, 1, 0)) rfl
theorem c6 {x0 : Nat} {x1 : Int32} : Cl (pj lw) 6 [.ref x0, .int x1] H Q ↔ W (pj lw) 6 0 [.val (.ref x0), .val (.int x1)] [] 0 0 H Q := cl_unf rfl
theorem w6_0 {x : Nat} : W (pj lw) 6 0 (.val (.ref x) :: L) S k n H Q ↔ W (pj lw) 6 1 (.val (.ref x) :: L) (.ref x :: S) k n H Q := W_s (rfl : (pj lw).1 6 0 = some (.aload_n 0, 1, 0)) rfl rfl rfl
theorem w6_1 {x : Int32} {l0 : Slot} : W (pj lw) 6 1 (l0 :: .val (.int x) :: L) S k n H Q ↔ W (pj lw) 6 2 (l0 :: .val (.int x) :: L) (.int x :: S) k n H Q := W_s (rfl : (pj lw).1 6 1 = some (.iload_n 1, 1, 0)) rfl rfl rfl
theorem w6_2 {a : Nat} {x0 : Int32} : W (pj lw) 6 2 L (.int x0 :: .ref a :: S) k n H Q ↔ ((isO H a = true ∧ cs S + (2 + 11) + 0 ≤ 13) ∧ Cl (pj lw) 40 [.ref a, .int x0] H (fun v H => W (pj lw) 6 5 L (v.toList ++ S) k n H Q)) := W_inst (as := [.int x0]) (rfl : (pj lw).1 6 2 = some (.invokevirtual 103, 3, 40)) rfl rfl rfl (Nat.le_of_ble_eq_true rfl) (Nat.le_of_ble_eq_true rfl) ⟨rfl, rfl⟩
theorem w6_5 {x : Int32} : W (pj lw) 6 5 L (.int x :: S) k n H Q ↔ (if x = 0 then W (pj lw) 6 30 L S k n H Q else W (pj lw) 6 8 L S k n H Q) := W_if_eq (rfl : (pj lw).1 6 5 = some (.ifCond .eq 25, 3, 0)) rfl
theorem w6_8 {x : Nat} : W (pj lw) 6 8 (.val (.ref x) :: L) S k n H Q ↔ W (pj lw) 6 9 (.val (.ref x) :: L) (.ref x :: S) k n H Q := W_s (rfl : (pj lw).1 6 8 = some (.aload_n 0, 1, 0)) rfl rfl rfl
theorem w6_9 {a : Nat} : W (pj lw) 6 9 L (.ref a :: S) k n H Q ↔ (isO H a = true ∧ W (pj lw) 6 12 L (fld H a 4 :: S) k n H Q) := W_getf (rfl : (pj lw).1 6 9 = some (.getfield 19, 3, 4))
theorem w6_12 {x : Int32} {l0 : Slot} : W (pj lw) 6 12 (l0 :: .val (.int x) :: L) S k n H Q ↔ W (pj lw) 6 13 (l0 :: .val (.int x) :: L) (.int x :: S) k n H Q := W_s (rfl : (pj lw).1 6 12 = some (.iload_n 1, 1, 0)) rfl rfl rfl
theorem w6_13 {i : Int32} {a : Nat} : W (pj lw) 6 13 L (.int i :: .ref a :: S) k n H Q ↔ ((inA H a .byte i = true ∨ inA H a .boolean i = true) ∧ W (pj lw) 6 14 L (elt H a i :: S) k n H Q) := W_baload (rfl : (pj lw).1 6 13 = some (.baload, 1, 0))
theorem w6_14 {x : Int32} : W (pj lw) 6 14 L (.int x :: S) k n H Q ↔ (if x = 0 then W (pj lw) 6 30 L S k n H Q else W (pj lw) 6 17 L S k n H Q) := W_if_eq (rfl : (pj lw).1 6 14 = some (.ifCond .eq 16, 3, 0)) rfl
theorem w6_17 {x : Nat} : W (pj lw) 6 17 (.val (.ref x) :: L) S k n H Q ↔ W (pj lw) 6 18 (.val (.ref x) :: L) (.ref x :: S) k n H Q := W_s (rfl : (pj lw).1 6 17 = some (.aload_n 0, 1, 0)) rfl rfl rfl
theorem w6_18 {a : Nat} : W (pj lw) 6 18 L (.ref a :: S) k n H Q ↔ (isO H a = true ∧ W (pj lw) 6 21 L (fld H a 5 :: S) k n H Q) := W_getf (rfl : (pj lw).1 6 18 = some (.getfield 23, 3, 5))
theorem w6_21 {x : Int32} {l0 : Slot} : W (pj lw) 6 21 (l0 :: .val (.int x) :: L) S k n H Q ↔ W (pj lw) 6 22 (l0 :: .val (.int x) :: L) (.int x :: S) k n H Q := W_s (rfl : (pj lw).1 6 21 = some (.iload_n 1, 1, 0)) rfl rfl rfl
theorem w6_22 {i : Int32} {a : Nat} : W (pj lw) 6 22 L (.int i :: .ref a :: S) k n H Q ↔ ((inA H a .byte i = true ∨ inA H a .boolean i = true) ∧ W (pj lw) 6 23 L (elt H a i :: S) k n H Q) := W_baload (rfl : (pj lw).1 6 22 = some (.baload, 1, 0))
theorem w6_23 {x : Int32} : W (pj lw) 6 23 L (.int x :: S) k n H Q ↔ (if x = 0 then W (pj lw) 6 30 L S k n H Q else W (pj lw) 6 26 L S k n H Q) := W_if_eq (rfl : (pj lw).1 6 23 = some (.ifCond .eq 7, 3, 0)) rfl
theorem w6_26 : W (pj lw) 6 26 L S k n H Q ↔ W (pj lw) 6 27 L (.int 1 :: S) k n H Q := W_s (rfl : (pj lw).1 6 26 = some (.iconst 1, 1, 0)) rfl rfl rfl
theorem w6_27 : W (pj lw) 6 27 L S k n H Q ↔ W (pj lw) 6 31 L S k n H Q := W_goto (rfl : (pj lw).1 6 27 = some (.goto 4, 3, 0)) rfl
theorem w6_30 : W (pj lw) 6 30 L S k n H Q ↔ W (pj lw) 6 31 L (.int 0 :: S) k n H Q := W_s (rfl : (pj lw).1 6 30 = some (.iconst 0, 1, 0)) rfl rfl rfl
theorem w6_31 {x : Int32} : W (pj lw) 6 31 L (.int x :: S) k n H Q ↔ ((x = 0 ∨ x = 1) ∧ Q (some (.int x)) H) := W_rz (rfl : (pj lw).1 6 31 = some (.ireturn, 1, 0)) rfl
theorem c7 {x0 : Nat} {x1 : Int32} {x2 : Int32} : Cl (pj lw) 7 [.ref x0, .int x1, .int x2] H Q ↔ W (pj lw) 7 0 [.val (.ref x0), .val (.int x1), .val (.int x2)] [] 0 0 H Q := cl_unf rfl
theorem w7_0 {x : Nat} : W (pj lw) 7 0 (.val (.ref x) :: L) S k n H Q ↔ W (pj lw) 7 1 (.val (.ref x) :: L) (.ref x :: S) k n H Q := W_s (rfl : (pj lw).1 7 0 = some (.aload_n 0, 1, 0)) rfl rfl rfl
theorem w7_1 {x : Int32} {l0 : Slot} : W (pj lw) 7 1 (l0 :: .val (.int x) :: L) S k n H Q ↔ W (pj lw) 7 2 (l0 :: .val (.int x) :: L) (.int x :: S) k n H Q := W_s (rfl : (pj lw).1 7 1 = some (.iload_n 1, 1, 0)) rfl rfl rfl
theorem w7_2 {a : Nat} {x0 : Int32} : W (pj lw) 7 2 L (.int x0 :: .ref a :: S) k n H Q ↔ ((isO H a = true ∧ cs S + (2 + 11) + 13 ≤ 26) ∧ Cl (pj lw) 5 [.ref a, .int x0] H (fun v H => W (pj lw) 7 5 L (v.toList ++ S) k n H Q)) := W_inst (as := [.int x0]) (rfl : (pj lw).1 7 2 = some (.invokevirtual 87, 3, 5)) rfl rfl rfl (Nat.le_of_ble_eq_true rfl) (Nat.le_of_ble_eq_true rfl) ⟨rfl, rfl⟩
theorem w7_5 {x : Int32} : W (pj lw) 7 5 L (.int x :: S) k n H Q ↔ (if x = 0 then W (pj lw) 7 8 L S k n H Q else W (pj lw) 7 10 L S k n H Q) := W_if_ne (rfl : (pj lw).1 7 5 = some (.ifCond .ne 5, 3, 0)) rfl
theorem w7_8 : W (pj lw) 7 8 L S k n H Q ↔ W (pj lw) 7 9 L (.int (-1) :: S) k n H Q := W_s (rfl : (pj lw).1 7 8 = some (.iconst (-1), 1, 0)) rfl rfl rfl
theorem w7_9 {x : Int32} : W (pj lw) 7 9 L (.int x :: S) k n H Q ↔ Q (some (.int x)) H := W_r (rfl : (pj lw).1 7 9 = some (.ireturn, 1, 0)) rfl
theorem w7_10 {x : Int32} {l0 l1 : Slot} : W (pj lw) 7 10 (l0 :: l1 :: .val (.int x) :: L) S k n H Q ↔ W (pj lw) 7 11 (l0 :: l1 :: .val (.int x) :: L) (.int x :: S) k n H Q := W_s (rfl : (pj lw).1 7 10 = some (.iload_n 2, 1, 0)) rfl rfl rfl
theorem w7_11 {x : Int32} : W (pj lw) 7 11 L (.int x :: S) k n H Q ↔ (if x = 0 then W (pj lw) 7 14 L S k n H Q else W (pj lw) 7 21 L S k n H Q) := W_if_ne (rfl : (pj lw).1 7 11 = some (.ifCond .ne 10, 3, 0)) rfl
theorem w7_14 {x : Nat} : W (pj lw) 7 14 (.val (.ref x) :: L) S k n H Q ↔ W (pj lw) 7 15 (.val (.ref x) :: L) (.ref x :: S) k n H Q := W_s (rfl : (pj lw).1 7 14 = some (.aload_n 0, 1, 0)) rfl rfl rfl
theorem w7_15 {a : Nat} : W (pj lw) 7 15 L (.ref a :: S) k n H Q ↔ (isO H a = true ∧ W (pj lw) 7 18 L (fld H a 1 :: S) k n H Q) := W_getf (rfl : (pj lw).1 7 15 = some (.getfield 7, 3, 1))
theorem w7_18 {x : Int32} {l0 : Slot} : W (pj lw) 7 18 (l0 :: .val (.int x) :: L) S k n H Q ↔ W (pj lw) 7 19 (l0 :: .val (.int x) :: L) (.int x :: S) k n H Q := W_s (rfl : (pj lw).1 7 18 = some (.iload_n 1, 1, 0)) rfl rfl rfl
theorem w7_19 {i : Int32} {a : Nat} : W (pj lw) 7 19 L (.int i :: .ref a :: S) k n H Q ↔ (inA H a .int i = true ∧ W (pj lw) 7 20 L (elt H a i :: S) k n H Q) := W_iaload (rfl : (pj lw).1 7 19 = some (.iaload, 1, 0))
theorem w7_20 {x : Int32} : W (pj lw) 7 20 L (.int x :: S) k n H Q ↔ Q (some (.int x)) H := W_r (rfl : (pj lw).1 7 20 = some (.ireturn, 1, 0)) rfl
theorem w7_21 {x : Int32} {l0 l1 : Slot} : W (pj lw) 7 21 (l0 :: l1 :: .val (.int x) :: L) S k n H Q ↔ W (pj lw) 7 22 (l0 :: l1 :: .val (.int x) :: L) (.int x :: S) k n H Q := W_s (rfl : (pj lw).1 7 21 = some (.iload_n 2, 1, 0)) rfl rfl rfl
theorem w7_22 : W (pj lw) 7 22 L S k n H Q ↔ W (pj lw) 7 23 L (.int 1 :: S) k n H Q := W_s (rfl : (pj lw).1 7 22 = some (.iconst 1, 1, 0)) rfl rfl rfl
theorem w7_23 {x y : Int32} : W (pj lw) 7 23 L (.int y :: .int x :: S) k n H Q ↔ (if x = y then W (pj lw) 7 26 L S k n H Q else W (pj lw) 7 33 L S k n H Q) := W_icmp_ne (rfl : (pj lw).1 7 23 = some (.if_icmp .ne 10, 3, 0)) rfl
theorem w7_26 {x : Nat} : W (pj lw) 7 26 (.val (.ref x) :: L) S k n H Q ↔ W (pj lw) 7 27 (.val (.ref x) :: L) (.ref x :: S) k n H Q := W_s (rfl : (pj lw).1 7 26 = some (.aload_n 0, 1, 0)) rfl rfl rfl
theorem w7_27 {a : Nat} : W (pj lw) 7 27 L (.ref a :: S) k n H Q ↔ (isO H a = true ∧ W (pj lw) 7 30 L (fld H a 2 :: S) k n H Q) := W_getf (rfl : (pj lw).1 7 27 = some (.getfield 13, 3, 2))
theorem w7_30 {x : Int32} {l0 : Slot} : W (pj lw) 7 30 (l0 :: .val (.int x) :: L) S k n H Q ↔ W (pj lw) 7 31 (l0 :: .val (.int x) :: L) (.int x :: S) k n H Q := W_s (rfl : (pj lw).1 7 30 = some (.iload_n 1, 1, 0)) rfl rfl rfl
theorem w7_31 {i : Int32} {a : Nat} : W (pj lw) 7 31 L (.int i :: .ref a :: S) k n H Q ↔ (inA H a .int i = true ∧ W (pj lw) 7 32 L (elt H a i :: S) k n H Q) := W_iaload (rfl : (pj lw).1 7 31 = some (.iaload, 1, 0))
theorem w7_32 {x : Int32} : W (pj lw) 7 32 L (.int x :: S) k n H Q ↔ Q (some (.int x)) H := W_r (rfl : (pj lw).1 7 32 = some (.ireturn, 1, 0)) rfl
theorem w7_33 : W (pj lw) 7 33 L S k n H Q ↔ W (pj lw) 7 34 L (.int (-1) :: S) k n H Q := W_s (rfl : (pj lw).1 7 33 = some (.iconst (-1), 1, 0)) rfl rfl rfl
theorem w7_34 {x : Int32} : W (pj lw) 7 34 L (.int x :: S) k n H Q ↔ Q (some (.int x)) H := W_r (rfl : (pj lw).1 7 34 = some (.ireturn, 1, 0)) rfl
theorem c8 {x0 : Nat} {x1 : Int32} : Cl (pj lw) 8 [.ref x0, .int x1] H Q ↔ W (pj lw) 8 0 [.val (.ref x0), .val (.int x1)] [] 0 0 H Q := cl_unf rfl
theorem w8_0 {x : Nat} : W (pj lw) 8 0 (.val (.ref x) :: L) S k n H Q ↔ W (pj lw) 8 1 (.val (.ref x) :: L) (.ref x :: S) k n H Q := W_s (rfl : (pj lw).1 8 0 = some (.aload_n 0, 1, 0)) rfl rfl rfl
theorem w8_1 {x : Int32} {l0 : Slot} : W (pj lw) 8 1 (l0 :: .val (.int x) :: L) S k n H Q ↔ W (pj lw) 8 2 (l0 :: .val (.int x) :: L) (.int x :: S) k n H Q := W_s (rfl : (pj lw).1 8 1 = some (.iload_n 1, 1, 0)) rfl rfl rfl
theorem w8_2 {a : Nat} {x0 : Int32} : W (pj lw) 8 2 L (.int x0 :: .ref a :: S) k n H Q ↔ ((isO H a = true ∧ cs S + (2 + 11) + 13 ≤ 26) ∧ Cl (pj lw) 5 [.ref a, .int x0] H (fun v H => W (pj lw) 8 5 L (v.toList ++ S) k n H Q)) := W_inst (as := [.int x0]) (rfl : (pj lw).1 8 2 = some (.invokevirtual 87, 3, 5)) rfl rfl rfl (Nat.le_of_ble_eq_true rfl) (Nat.le_of_ble_eq_true rfl) ⟨rfl, rfl⟩
theorem w8_5 {x : Int32} : W (pj lw) 8 5 L (.int x :: S) k n H Q ↔ (if x = 0 then W (pj lw) 8 8 L S k n H Q else W (pj lw) 8 10 L S k n H Q) := W_if_ne (rfl : (pj lw).1 8 5 = some (.ifCond .ne 5, 3, 0)) rfl
theorem w8_8 : W (pj lw) 8 8 L S k n H Q ↔ W (pj lw) 8 9 L (.int 0 :: S) k n H Q := W_s (rfl : (pj lw).1 8 8 = some (.iconst 0, 1, 0)) rfl rfl rfl
theorem w8_9 {x : Int32} : W (pj lw) 8 9 L (.int x :: S) k n H Q ↔ Q (some (.int x)) H := W_r (rfl : (pj lw).1 8 9 = some (.ireturn, 1, 0)) rfl
theorem w8_10 {x : Nat} : W (pj lw) 8 10 (.val (.ref x) :: L) S k n H Q ↔ W (pj lw) 8 11 (.val (.ref x) :: L) (.ref x :: S) k n H Q := W_s (rfl : (pj lw).1 8 10 = some (.aload_n 0, 1, 0)) rfl rfl rfl
theorem w8_11 {a : Nat} : W (pj lw) 8 11 L (.ref a :: S) k n H Q ↔ (isO H a = true ∧ W (pj lw) 8 14 L (fld H a 3 :: S) k n H Q) := W_getf (rfl : (pj lw).1 8 11 = some (.getfield 16, 3, 3))
theorem w8_14 {x : Int32} {l0 : Slot} : W (pj lw) 8 14 (l0 :: .val (.int x) :: L) S k n H Q ↔ W (pj lw) 8 15 (l0 :: .val (.int x) :: L) (.int x :: S) k n H Q := W_s (rfl : (pj lw).1 8 14 = some (.iload_n 1, 1, 0)) rfl rfl rfl
theorem w8_15 {i : Int32} {a : Nat} : W (pj lw) 8 15 L (.int i :: .ref a :: S) k n H Q ↔ (inA H a .int i = true ∧ W (pj lw) 8 16 L (elt H a i :: S) k n H Q) := W_iaload (rfl : (pj lw).1 8 15 = some (.iaload, 1, 0))
theorem w8_16 {x : Int32} : W (pj lw) 8 16 L (.int x :: S) k n H Q ↔ Q (some (.int x)) H := W_r (rfl : (pj lw).1 8 16 = some (.ireturn, 1, 0)) rfl
theorem c9 {x0 : Nat} : Cl (pj lw) 9 [.ref x0] H Q ↔ W (pj lw) 9 0 [.val (.ref x0)] [] 0 0 H Q := cl_unf rfl
theorem w9_0 {x : Nat} : W (pj lw) 9 0 (.val (.ref x) :: L) S k n H Q ↔ W (pj lw) 9 1 (.val (.ref x) :: L) (.ref x :: S) k n H Q := W_s (rfl : (pj lw).1 9 0 = some (.aload_n 0, 1, 0)) rfl rfl rfl
theorem w9_1 {a : Nat} : W (pj lw) 9 1 L (.ref a :: S) k n H Q ↔ (isO H a = true ∧ W (pj lw) 9 4 L (fld H a 12 :: S) k n H Q) := W_getf (rfl : (pj lw).1 9 1 = some (.getfield 48, 3, 12))
theorem w9_4 {x : Int32} : W (pj lw) 9 4 L (.int x :: S) k n H Q ↔ Q (some (.int x)) H := W_r (rfl : (pj lw).1 9 4 = some (.ireturn, 1, 0)) rfl
theorem c10 {x0 : Nat} : Cl (pj lw) 10 [.ref x0] H Q ↔ W (pj lw) 10 0 [.val (.ref x0)] [] 0 0 H Q := cl_unf rfl
theorem w10_0 {x : Nat} : W (pj lw) 10 0 (.val (.ref x) :: L) S k n H Q ↔ W (pj lw) 10 1 (.val (.ref x) :: L) (.ref x :: S) k n H Q := W_s (rfl : (pj lw).1 10 0 = some (.aload_n 0, 1, 0)) rfl rfl rfl
theorem w10_1 {a : Nat} : W (pj lw) 10 1 L (.ref a :: S) k n H Q ↔ (isO H a = true ∧ W (pj lw) 10 4 L (fld H a 14 :: S) k n H Q) := W_getf (rfl : (pj lw).1 10 1 = some (.getfield 54, 3, 14))
theorem w10_4 {x : Int64} : W (pj lw) 10 4 L (.long x :: S) k n H Q ↔ Q (some (.long x)) H := W_r (rfl : (pj lw).1 10 4 = some (.lreturn, 1, 0)) rfl
theorem c12 {x0 : Nat} : Cl (pj lw) 12 [.ref x0] H Q ↔ W (pj lw) 12 0 [.val (.ref x0)] [] 0 0 H Q := cl_unf rfl
theorem w12_0 {x : Nat} : W (pj lw) 12 0 (.val (.ref x) :: L) S k n H Q ↔ W (pj lw) 12 1 (.val (.ref x) :: L) (.ref x :: S) k n H Q := W_s (rfl : (pj lw).1 12 0 = some (.aload_n 0, 1, 0)) rfl rfl rfl
theorem w12_1 {a : Nat} : W (pj lw) 12 1 L (.ref a :: S) k n H Q ↔ (isO H a = true ∧ W (pj lw) 12 4 L (fld H a 0 :: S) k n H Q) := W_getf (rfl : (pj lw).1 12 1 = some (.getfield 44, 3, 0))
theorem w12_4 {x : Nat} : W (pj lw) 12 4 (.val (.ref x) :: L) S k n H Q ↔ W (pj lw) 12 5 (.val (.ref x) :: L) (.ref x :: S) k n H Q := W_s (rfl : (pj lw).1 12 4 = some (.aload_n 0, 1, 0)) rfl rfl rfl
theorem w12_5 {a : Nat} : W (pj lw) 12 5 L (.ref a :: S) k n H Q ↔ (isO H a = true ∧ W (pj lw) 12 8 L (fld H a 13 :: S) k n H Q) := W_getf (rfl : (pj lw).1 12 5 = some (.getfield 51, 3, 13))
theorem w12_8 {x y : Int32} : W (pj lw) 12 8 L (.int y :: .int x :: S) k n H Q ↔ W (pj lw) 12 9 L (.int (x - y) :: S) k n H Q := W_s (rfl : (pj lw).1 12 8 = some (.isub, 1, 0)) rfl rfl rfl
theorem w12_9 {x : Int32} : W (pj lw) 12 9 L (.int x :: S) k n H Q ↔ Q (some (.int x)) H := W_r (rfl : (pj lw).1 12 9 = some (.ireturn, 1, 0)) rfl
theorem c16 {x0 : Nat} : Cl (pj lw) 16 [.ref x0] H Q ↔ W (pj lw) 16 0 [.val (.ref x0)] [] 0 0 H Q := cl_unf rfl
theorem w16_0 {x : Nat} : W (pj lw) 16 0 (.val (.ref x) :: L) S k n H Q ↔ W (pj lw) 16 1 (.val (.ref x) :: L) (.ref x :: S) k n H Q := W_s (rfl : (pj lw).1 16 0 = some (.aload_n 0, 1, 0)) rfl rfl rfl
theorem w16_1 {a : Nat} : W (pj lw) 16 1 L (.ref a :: S) k n H Q ↔ (isO H a = true ∧ W (pj lw) 16 4 L (fld H a 15 :: S) k n H Q) := W_getf (rfl : (pj lw).1 16 1 = some (.getfield 58, 3, 15))
theorem w16_4 {x : Int32} : W (pj lw) 16 4 L (.int x :: S) k n H Q ↔ Q (some (.int x)) H := W_r (rfl : (pj lw).1 16 4 = some (.ireturn, 1, 0)) rfl
theorem c17 {x0 : Nat} : Cl (pj lw) 17 [.ref x0] H Q ↔ W (pj lw) 17 0 [.val (.ref x0)] [] 0 0 H Q := cl_unf rfl
theorem w17_0 {x : Nat} : W (pj lw) 17 0 (.val (.ref x) :: L) S k n H Q ↔ W (pj lw) 17 1 (.val (.ref x) :: L) (.ref x :: S) k n H Q := W_s (rfl : (pj lw).1 17 0 = some (.aload_n 0, 1, 0)) rfl rfl rfl
theorem w17_1 {a : Nat} : W (pj lw) 17 1 L (.ref a :: S) k n H Q ↔ (isO H a = true ∧ W (pj lw) 17 4 L (fld H a 16 :: S) k n H Q) := W_getf (rfl : (pj lw).1 17 1 = some (.getfield 61, 3, 16))
theorem w17_4 {x : Int32} : W (pj lw) 17 4 L (.int x :: S) k n H Q ↔ Q (some (.int x)) H := W_r (rfl : (pj lw).1 17 4 = some (.ireturn, 1, 0)) rfl
theorem c18 {x0 : Nat} {x1 : Int32} : Cl (pj lw) 18 [.ref x0, .int x1] H Q ↔ W (pj lw) 18 0 [.val (.ref x0), .val (.int x1), .unset, .unset] [] 0 0 H Q := cl_unf rfl
theorem w18_0 {x : Nat} : W (pj lw) 18 0 (.val (.ref x) :: L) S k n H Q ↔ W (pj lw) 18 1 (.val (.ref x) :: L) (.ref x :: S) k n H Q := W_s (rfl : (pj lw).1 18 0 = some (.aload_n 0, 1, 0)) rfl rfl rfl
theorem w18_1 {x : Nat} : W (pj lw) 18 1 (.val (.ref x) :: L) S k n H Q ↔ W (pj lw) 18 2 (.val (.ref x) :: L) (.ref x :: S) k n H Q := W_s (rfl : (pj lw).1 18 1 = some (.aload_n 0, 1, 0)) rfl rfl rfl
theorem w18_2 {a : Nat} : W (pj lw) 18 2 L (.ref a :: S) k n H Q ↔ (isO H a = true ∧ W (pj lw) 18 5 L (fld H a 1 :: S) k n H Q) := W_getf (rfl : (pj lw).1 18 2 = some (.getfield 7, 3, 1))
theorem w18_5 {x : Int32} {l0 : Slot} : W (pj lw) 18 5 (l0 :: .val (.int x) :: L) S k n H Q ↔ W (pj lw) 18 6 (l0 :: .val (.int x) :: L) (.int x :: S) k n H Q := W_s (rfl : (pj lw).1 18 5 = some (.iload_n 1, 1, 0)) rfl rfl rfl
theorem w18_6 {i : Int32} {a : Nat} : W (pj lw) 18 6 L (.int i :: .ref a :: S) k n H Q ↔ (inA H a .int i = true ∧ W (pj lw) 18 7 L (elt H a i :: S) k n H Q) := W_iaload (rfl : (pj lw).1 18 6 = some (.iaload, 1, 0))
theorem w18_7 : W (pj lw) 18 7 L S k n H Q ↔ W (pj lw) 18 8 L (.int (-1) :: S) k n H Q := W_s (rfl : (pj lw).1 18 7 = some (.iconst (-1), 1, 0)) rfl rfl rfl
theorem w18_8 {a : Nat} {x0 : Int32} {x1 : Int32} : W (pj lw) 18 8 L (.int x1 :: .int x0 :: .ref a :: S) k n H Q ↔ ((isO H a = true ∧ cs S + (5 + 11) + 34 ≤ 50) ∧ Cl (pj lw) 30 [.ref a, .int x0, .int x1] H (fun v H => W (pj lw) 18 11 L (v.toList ++ S) k n H Q)) := W_inst (as := [.int x0, .int x1]) (rfl : (pj lw).1 18 8 = some (.invokevirtual 106, 3, 30)) rfl rfl rfl (Nat.le_of_ble_eq_true rfl) (Nat.le_of_ble_eq_true rfl) ⟨rfl, rfl⟩
theorem w18_11 {x : Int32} : W (pj lw) 18 11 L (.int x :: S) k n H Q ↔ W (pj lw) 18 12 L S k n H Q := W_s (rfl : (pj lw).1 18 11 = some (.pop, 1, 0)) rfl rfl rfl
theorem w18_12 {x : Nat} : W (pj lw) 18 12 (.val (.ref x) :: L) S k n H Q ↔ W (pj lw) 18 13 (.val (.ref x) :: L) (.ref x :: S) k n H Q := W_s (rfl : (pj lw).1 18 12 = some (.aload_n 0, 1, 0)) rfl rfl rfl
theorem w18_13 {a : Nat} : W (pj lw) 18 13 L (.ref a :: S) k n H Q ↔ (isO H a = true ∧ W (pj lw) 18 16 L (fld H a 2 :: S) k n H Q) := W_getf (rfl : (pj lw).1 18 13 = some (.getfield 13, 3, 2))
theorem w18_16 {x : Int32} {l0 : Slot} : W (pj lw) 18 16 (l0 :: .val (.int x) :: L) S k n H Q ↔ W (pj lw) 18 17 (l0 :: .val (.int x) :: L) (.int x :: S) k n H Q := W_s (rfl : (pj lw).1 18 16 = some (.iload_n 1, 1, 0)) rfl rfl rfl
theorem w18_17 {i : Int32} {a : Nat} : W (pj lw) 18 17 L (.int i :: .ref a :: S) k n H Q ↔ (inA H a .int i = true ∧ W (pj lw) 18 18 L (elt H a i :: S) k n H Q) := W_iaload (rfl : (pj lw).1 18 17 = some (.iaload, 1, 0))
theorem w18_18 {x : Int32} {l0 l1 : Slot} : W (pj lw) 18 18 (l0 :: l1 :: .unset :: L) (.int x :: S) k n H Q ↔ W (pj lw) 18 19 (l0 :: l1 :: .val (.int x) :: L) S k n H Q := W_istn (rfl : (pj lw).1 18 18 = some (.istore_n 2, 1, 0)) rfl rfl
theorem w18_19 {x : Nat} : W (pj lw) 18 19 (.val (.ref x) :: L) S k n H Q ↔ W (pj lw) 18 20 (.val (.ref x) :: L) (.ref x :: S) k n H Q := W_s (rfl : (pj lw).1 18 19 = some (.aload_n 0, 1, 0)) rfl rfl rfl
theorem w18_20 {x : Int32} {l0 l1 : Slot} : W (pj lw) 18 20 (l0 :: l1 :: .val (.int x) :: L) S k n H Q ↔ W (pj lw) 18 21 (l0 :: l1 :: .val (.int x) :: L) (.int x :: S) k n H Q := W_s (rfl : (pj lw).1 18 20 = some (.iload_n 2, 1, 0)) rfl rfl rfl
theorem w18_21 {a : Nat} {x0 : Int32} : W (pj lw) 18 21 L (.int x0 :: .ref a :: S) k n H Q ↔ ((isO H a = true ∧ cs S + (2 + 11) + 0 ≤ 50) ∧ Cl (pj lw) 39 [.ref a, .int x0] H (fun v H => W (pj lw) 18 24 L (v.toList ++ S) k n H Q)) := W_inst (as := [.int x0]) (rfl : (pj lw).1 18 21 = some (.invokevirtual 67, 3, 39)) rfl rfl rfl (Nat.le_of_ble_eq_true rfl) (Nat.le_of_ble_eq_true rfl) ⟨rfl, rfl⟩
theorem w18_24 {x : Int32} : W (pj lw) 18 24 L (.int x :: S) k n H Q ↔ (if x = 0 then W (pj lw) 18 36 L S k n H Q else W (pj lw) 18 27 L S k n H Q) := W_if_eq (rfl : (pj lw).1 18 24 = some (.ifCond .eq 12, 3, 0)) rfl
theorem w18_27 {x : Nat} : W (pj lw) 18 27 (.val (.ref x) :: L) S k n H Q ↔ W (pj lw) 18 28 (.val (.ref x) :: L) (.ref x :: S) k n H Q := W_s (rfl : (pj lw).1 18 27 = some (.aload_n 0, 1, 0)) rfl rfl rfl
theorem w18_28 {a : Nat} : W (pj lw) 18 28 L (.ref a :: S) k n H Q ↔ (isO H a = true ∧ W (pj lw) 18 31 L (fld H a 8 :: S) k n H Q) := W_getf (rfl : (pj lw).1 18 28 = some (.getfield 32, 3, 8))
theorem w18_31 {x : Int32} {l0 l1 : Slot} : W (pj lw) 18 31 (l0 :: l1 :: .val (.int x) :: L) S k n H Q ↔ W (pj lw) 18 32 (l0 :: l1 :: .val (.int x) :: L) (.int x :: S) k n H Q := W_s (rfl : (pj lw).1 18 31 = some (.iload_n 2, 1, 0)) rfl rfl rfl
theorem w18_32 {i : Int32} {a : Nat} : W (pj lw) 18 32 L (.int i :: .ref a :: S) k n H Q ↔ ((inA H a .byte i = true ∨ inA H a .boolean i = true) ∧ W (pj lw) 18 33 L (elt H a i :: S) k n H Q) := W_baload (rfl : (pj lw).1 18 32 = some (.baload, 1, 0))
theorem w18_33 {x : Int32} : W (pj lw) 18 33 L (.int x :: S) k n H Q ↔ (if x = 0 then W (pj lw) 18 36 L S k n H Q else W (pj lw) 18 48 L S k n H Q) := W_if_ne (rfl : (pj lw).1 18 33 = some (.ifCond .ne 15, 3, 0)) rfl
theorem w18_36 {x : Nat} : W (pj lw) 18 36 (.val (.ref x) :: L) S k n H Q ↔ W (pj lw) 18 37 (.val (.ref x) :: L) (.ref x :: S) k n H Q := W_s (rfl : (pj lw).1 18 36 = some (.aload_n 0, 1, 0)) rfl rfl rfl
theorem w18_37 {x : Int32} {l0 : Slot} : W (pj lw) 18 37 (l0 :: .val (.int x) :: L) S k n H Q ↔ W (pj lw) 18 38 (l0 :: .val (.int x) :: L) (.int x :: S) k n H Q := W_s (rfl : (pj lw).1 18 37 = some (.iload_n 1, 1, 0)) rfl rfl rfl
theorem w18_38 {a : Nat} {x0 : Int32} : W (pj lw) 18 38 L (.int x0 :: .ref a :: S) k n H Q ↔ ((isO H a = true ∧ cs S + (2 + 11) + 14 ≤ 50) ∧ Cl (pj lw) 25 [.ref a, .int x0] H (fun v H => W (pj lw) 18 41 L (v.toList ++ S) k n H Q)) := W_inst (as := [.int x0]) (rfl : (pj lw).1 18 38 = some (.invokevirtual 119, 3, 25)) rfl rfl rfl (Nat.le_of_ble_eq_true rfl) (Nat.le_of_ble_eq_true rfl) ⟨rfl, rfl⟩
theorem w18_41 {x : Nat} : W (pj lw) 18 41 (.val (.ref x) :: L) S k n H Q ↔ W (pj lw) 18 42 (.val (.ref x) :: L) (.ref x :: S) k n H Q := W_s (rfl : (pj lw).1 18 41 = some (.aload_n 0, 1, 0)) rfl rfl rfl
theorem w18_42 {x : Int32} {l0 : Slot} : W (pj lw) 18 42 (l0 :: .val (.int x) :: L) S k n H Q ↔ W (pj lw) 18 43 (l0 :: .val (.int x) :: L) (.int x :: S) k n H Q := W_s (rfl : (pj lw).1 18 42 = some (.iload_n 1, 1, 0)) rfl rfl rfl
theorem w18_43 : W (pj lw) 18 43 L S k n H Q ↔ W (pj lw) 18 44 L (.int (-1) :: S) k n H Q := W_s (rfl : (pj lw).1 18 43 = some (.iconst (-1), 1, 0)) rfl rfl rfl
theorem w18_44 {a : Nat} {x0 : Int32} {x1 : Int32} : W (pj lw) 18 44 L (.int x1 :: .int x0 :: .ref a :: S) k n H Q ↔ ((isO H a = true ∧ cs S + (3 + 11) + 0 ≤ 50) ∧ Cl (pj lw) 21 [.ref a, .int x0, .int x1] H (fun v H => W (pj lw) 18 47 L (v.toList ++ S) k n H Q)) := W_inst (as := [.int x0, .int x1]) (rfl : (pj lw).1 18 44 = some (.invokevirtual 93, 3, 21)) rfl rfl rfl (Nat.le_of_ble_eq_true rfl) (Nat.le_of_ble_eq_true rfl) ⟨rfl, rfl⟩
theorem w18_47 : W (pj lw) 18 47 L [] k n H Q ↔ Q none H := W_r (rfl : (pj lw).1 18 47 = some (.return_, 1, 0)) rfl
theorem w18_48 {x : Nat} : W (pj lw) 18 48 (.val (.ref x) :: L) S k n H Q ↔ W (pj lw) 18 49 (.val (.ref x) :: L) (.ref x :: S) k n H Q := W_s (rfl : (pj lw).1 18 48 = some (.aload_n 0, 1, 0)) rfl rfl rfl
theorem w18_49 {x : Int32} {l0 l1 : Slot} : W (pj lw) 18 49 (l0 :: l1 :: .val (.int x) :: L) S k n H Q ↔ W (pj lw) 18 50 (l0 :: l1 :: .val (.int x) :: L) (.int x :: S) k n H Q := W_s (rfl : (pj lw).1 18 49 = some (.iload_n 2, 1, 0)) rfl rfl rfl
theorem w18_53 {x : Int32} {l0 l1 l2 : Slot} : W (pj lw) 18 53 (l0 :: l1 :: l2 :: .unset :: L) (.int x :: S) k n H Q ↔ W (pj lw) 18 54 (l0 :: l1 :: l2 :: .val (.int x) :: L) S k n H Q := W_istn (rfl : (pj lw).1 18 53 = some (.istore_n 3, 1, 0)) rfl rfl
theorem w18_54 {x : Int32} {l0 l1 l2 : Slot} : W (pj lw) 18 54 (l0 :: l1 :: l2 :: .val (.int x) :: L) S k n H Q ↔ W (pj lw) 18 55 (l0 :: l1 :: l2 :: .val (.int x) :: L) (.int x :: S) k n H Q := W_s (rfl : (pj lw).1 18 54 = some (.iload_n 3, 1, 0)) rfl rfl rfl
theorem w18_55 : W (pj lw) 18 55 L S k n H Q ↔ W (pj lw) 18 56 L (.int (-1) :: S) k n H Q := W_s (rfl : (pj lw).1 18 55 = some (.iconst (-1), 1, 0)) rfl rfl rfl
theorem w18_56 {x y : Int32} : W (pj lw) 18 56 L (.int y :: .int x :: S) k n H Q ↔ (if x = y then W (pj lw) 18 85 L S k n H Q else W (pj lw) 18 59 L S k n H Q) := W_icmp_eq (rfl : (pj lw).1 18 56 = some (.if_icmp .eq 29, 3, 0)) rfl
theorem w18_59 {x : Nat} : W (pj lw) 18 59 (.val (.ref x) :: L) S k n H Q ↔ W (pj lw) 18 60 (.val (.ref x) :: L) (.ref x :: S) k n H Q := W_s (rfl : (pj lw).1 18 59 = some (.aload_n 0, 1, 0)) rfl rfl rfl
theorem w18_60 {x : Int32} {l0 : Slot} : W (pj lw) 18 60 (l0 :: .val (.int x) :: L) S k n H Q ↔ W (pj lw) 18 61 (l0 :: .val (.int x) :: L) (.int x :: S) k n H Q := W_s (rfl : (pj lw).1 18 60 = some (.iload_n 1, 1, 0)) rfl rfl rfl
theorem w18_61 {x : Int32} {l0 l1 l2 : Slot} : W (pj lw) 18 61 (l0 :: l1 :: l2 :: .val (.int x) :: L) S k n H Q ↔ W (pj lw) 18 62 (l0 :: l1 :: l2 :: .val (.int x) :: L) (.int x :: S) k n H Q := W_s (rfl : (pj lw).1 18 61 = some (.iload_n 3, 1, 0)) rfl rfl rfl
theorem w18_65 {x : Int32} : W (pj lw) 18 65 L (.int x :: S) k n H Q ↔ (if x = 0 then W (pj lw) 18 85 L S k n H Q else W (pj lw) 18 68 L S k n H Q) := W_if_eq (rfl : (pj lw).1 18 65 = some (.ifCond .eq 20, 3, 0)) rfl
theorem w18_68 {x : Nat} : W (pj lw) 18 68 (.val (.ref x) :: L) S k n H Q ↔ W (pj lw) 18 69 (.val (.ref x) :: L) (.ref x :: S) k n H Q := W_s (rfl : (pj lw).1 18 68 = some (.aload_n 0, 1, 0)) rfl rfl rfl
theorem w18_69 {x : Int32} {l0 l1 l2 : Slot} : W (pj lw) 18 69 (l0 :: l1 :: l2 :: .val (.int x) :: L) S k n H Q ↔ W (pj lw) 18 70 (l0 :: l1 :: l2 :: .val (.int x) :: L) (.int x :: S) k n H Q := W_s (rfl : (pj lw).1 18 69 = some (.iload_n 3, 1, 0)) rfl rfl rfl
theorem w18_73 {x : Nat} : W (pj lw) 18 73 (.val (.ref x) :: L) S k n H Q ↔ W (pj lw) 18 74 (.val (.ref x) :: L) (.ref x :: S) k n H Q := W_s (rfl : (pj lw).1 18 73 = some (.aload_n 0, 1, 0)) rfl rfl rfl
theorem w18_74 {x : Int32} {l0 : Slot} : W (pj lw) 18 74 (l0 :: .val (.int x) :: L) S k n H Q ↔ W (pj lw) 18 75 (l0 :: .val (.int x) :: L) (.int x :: S) k n H Q := W_s (rfl : (pj lw).1 18 74 = some (.iload_n 1, 1, 0)) rfl rfl rfl
theorem w18_75 {a : Nat} {x0 : Int32} : W (pj lw) 18 75 L (.int x0 :: .ref a :: S) k n H Q ↔ ((isO H a = true ∧ cs S + (2 + 11) + 14 ≤ 50) ∧ Cl (pj lw) 25 [.ref a, .int x0] H (fun v H => W (pj lw) 18 78 L (v.toList ++ S) k n H Q)) := W_inst (as := [.int x0]) (rfl : (pj lw).1 18 75 = some (.invokevirtual 119, 3, 25)) rfl rfl rfl (Nat.le_of_ble_eq_true rfl) (Nat.le_of_ble_eq_true rfl) ⟨rfl, rfl⟩
theorem w18_78 {x : Nat} : W (pj lw) 18 78 (.val (.ref x) :: L) S k n H Q ↔ W (pj lw) 18 79 (.val (.ref x) :: L) (.ref x :: S) k n H Q := W_s (rfl : (pj lw).1 18 78 = some (.aload_n 0, 1, 0)) rfl rfl rfl
theorem w18_79 {x : Int32} {l0 : Slot} : W (pj lw) 18 79 (l0 :: .val (.int x) :: L) S k n H Q ↔ W (pj lw) 18 80 (l0 :: .val (.int x) :: L) (.int x :: S) k n H Q := W_s (rfl : (pj lw).1 18 79 = some (.iload_n 1, 1, 0)) rfl rfl rfl
theorem w18_80 {x : Int32} {l0 l1 l2 : Slot} : W (pj lw) 18 80 (l0 :: l1 :: l2 :: .val (.int x) :: L) S k n H Q ↔ W (pj lw) 18 81 (l0 :: l1 :: l2 :: .val (.int x) :: L) (.int x :: S) k n H Q := W_s (rfl : (pj lw).1 18 80 = some (.iload_n 3, 1, 0)) rfl rfl rfl
theorem w18_81 {a : Nat} {x0 : Int32} {x1 : Int32} : W (pj lw) 18 81 L (.int x1 :: .int x0 :: .ref a :: S) k n H Q ↔ ((isO H a = true ∧ cs S + (3 + 11) + 0 ≤ 50) ∧ Cl (pj lw) 21 [.ref a, .int x0, .int x1] H (fun v H => W (pj lw) 18 84 L (v.toList ++ S) k n H Q)) := W_inst (as := [.int x0, .int x1]) (rfl : (pj lw).1 18 81 = some (.invokevirtual 93, 3, 21)) rfl rfl rfl (Nat.le_of_ble_eq_true rfl) (Nat.le_of_ble_eq_true rfl) ⟨rfl, rfl⟩
theorem w18_84 : W (pj lw) 18 84 L [] k n H Q ↔ Q none H := W_r (rfl : (pj lw).1 18 84 = some (.return_, 1, 0)) rfl
theorem w18_85 {x : Nat} : W (pj lw) 18 85 (.val (.ref x) :: L) S k n H Q ↔ W (pj lw) 18 86 (.val (.ref x) :: L) (.ref x :: S) k n H Q := W_s (rfl : (pj lw).1 18 85 = some (.aload_n 0, 1, 0)) rfl rfl rfl
theorem w18_86 : W (pj lw) 18 86 L S k n H Q ↔ W (pj lw) 18 87 L (.int (-1) :: S) k n H Q := W_s (rfl : (pj lw).1 18 86 = some (.iconst (-1), 1, 0)) rfl rfl rfl
theorem w18_87 : W (pj lw) 18 87 L S k n H Q ↔ W (pj lw) 18 88 L (.int (-1) :: S) k n H Q := W_s (rfl : (pj lw).1 18 87 = some (.iconst (-1), 1, 0)) rfl rfl rfl
theorem w18_88 {a : Nat} {x0 : Int32} {x1 : Int32} : W (pj lw) 18 88 L (.int x1 :: .int x0 :: .ref a :: S) k n H Q ↔ ((isO H a = true ∧ cs S + (3 + 11) + 0 ≤ 50) ∧ Cl (pj lw) 21 [.ref a, .int x0, .int x1] H (fun v H => W (pj lw) 18 91 L (v.toList ++ S) k n H Q)) := W_inst (as := [.int x0, .int x1]) (rfl : (pj lw).1 18 88 = some (.invokevirtual 93, 3, 21)) rfl rfl rfl (Nat.le_of_ble_eq_true rfl) (Nat.le_of_ble_eq_true rfl) ⟨rfl, rfl⟩
theorem w18_91 : W (pj lw) 18 91 L [] k n H Q ↔ Q none H := W_r (rfl : (pj lw).1 18 91 = some (.return_, 1, 0)) rfl
theorem c21 {x0 : Nat} {x1 : Int32} {x2 : Int32} : Cl (pj lw) 21 [.ref x0, .int x1, .int x2] H Q ↔ W (pj lw) 21 0 [.val (.ref x0), .val (.int x1), .val (.int x2)] [] 0 0 H Q := cl_unf rfl
theorem w21_0 {x : Nat} : W (pj lw) 21 0 (.val (.ref x) :: L) S k n H Q ↔ W (pj lw) 21 1 (.val (.ref x) :: L) (.ref x :: S) k n H Q := W_s (rfl : (pj lw).1 21 0 = some (.aload_n 0, 1, 0)) rfl rfl rfl
theorem w21_1 {x : Int32} {l0 : Slot} : W (pj lw) 21 1 (l0 :: .val (.int x) :: L) S k n H Q ↔ W (pj lw) 21 2 (l0 :: .val (.int x) :: L) (.int x :: S) k n H Q := W_s (rfl : (pj lw).1 21 1 = some (.iload_n 1, 1, 0)) rfl rfl rfl
theorem w21_2 {a : Nat} {v : Value} : W (pj lw) 21 2 L (v :: .ref a :: S) k n H Q ↔ ((isOw H a = true ∧ okv (.int) v = true) ∧ W (pj lw) 21 5 L S k n (wr H a 15 v) Q) := W_putf (rfl : (pj lw).1 21 2 = some (.putfield 58, 3, 15))
theorem w21_5 {x : Nat} : W (pj lw) 21 5 (.val (.ref x) :: L) S k n H Q ↔ W (pj lw) 21 6 (.val (.ref x) :: L) (.ref x :: S) k n H Q := W_s (rfl : (pj lw).1 21 5 = some (.aload_n 0, 1, 0)) rfl rfl rfl
theorem w21_6 {x : Int32} {l0 l1 : Slot} : W (pj lw) 21 6 (l0 :: l1 :: .val (.int x) :: L) S k n H Q ↔ W (pj lw) 21 7 (l0 :: l1 :: .val (.int x) :: L) (.int x :: S) k n H Q := W_s (rfl : (pj lw).1 21 6 = some (.iload_n 2, 1, 0)) rfl rfl rfl
theorem w21_7 {a : Nat} {v : Value} : W (pj lw) 21 7 L (v :: .ref a :: S) k n H Q ↔ ((isOw H a = true ∧ okv (.int) v = true) ∧ W (pj lw) 21 10 L S k n (wr H a 16 v) Q) := W_putf (rfl : (pj lw).1 21 7 = some (.putfield 61, 3, 16))
theorem w21_10 : W (pj lw) 21 10 L [] k n H Q ↔ Q none H := W_r (rfl : (pj lw).1 21 10 = some (.return_, 1, 0)) rfl
theorem c22 {x0 : Nat} : Cl (pj lw) 22 [.ref x0] H Q ↔ W (pj lw) 22 0 [.val (.ref x0), .unset] [] 0 0 H Q := cl_unf rfl
theorem w22_0 : W (pj lw) 22 0 L S k n H Q ↔ W (pj lw) 22 1 L (.int 0 :: S) k n H Q := W_s (rfl : (pj lw).1 22 0 = some (.iconst 0, 1, 0)) rfl rfl rfl
theorem w22_1 {x : Int32} {l0 : Slot} : W (pj lw) 22 1 (l0 :: .unset :: L) (.int x :: S) k n H Q ↔ W (pj lw) 22 2 (l0 :: .val (.int x) :: L) S k n H Q := W_istn (rfl : (pj lw).1 22 1 = some (.istore_n 1, 1, 0)) rfl rfl
theorem w22_2 {x : Int32} {l0 : Slot} : W (pj lw) 22 2 (l0 :: .val (.int x) :: L) S k n H Q ↔ W (pj lw) 22 3 (l0 :: .val (.int x) :: L) (.int x :: S) k n H Q := W_s (rfl : (pj lw).1 22 2 = some (.iload_n 1, 1, 0)) rfl rfl rfl
theorem w22_3 : W (pj lw) 22 3 L S k n H Q ↔ W (pj lw) 22 6 L (.int 128 :: S) k n H Q := W_s (rfl : (pj lw).1 22 3 = some (.sipush 128, 3, 0)) rfl rfl rfl
theorem w22_6 {x y : Int32} : W (pj lw) 22 6 L (.int y :: .int x :: S) k n H Q ↔ (if x < y then W (pj lw) 22 9 L S k n H Q else W (pj lw) 22 26 L S k n H Q) := W_icmp_ge (rfl : (pj lw).1 22 6 = some (.if_icmp .ge 20, 3, 0)) rfl
theorem w22_9 {x : Nat} : W (pj lw) 22 9 (.val (.ref x) :: L) S k n H Q ↔ W (pj lw) 22 10 (.val (.ref x) :: L) (.ref x :: S) k n H Q := W_s (rfl : (pj lw).1 22 9 = some (.aload_n 0, 1, 0)) rfl rfl rfl
theorem w22_10 {a : Nat} : W (pj lw) 22 10 L (.ref a :: S) k n H Q ↔ (isO H a = true ∧ W (pj lw) 22 13 L (fld H a 4 :: S) k n H Q) := W_getf (rfl : (pj lw).1 22 10 = some (.getfield 19, 3, 4))
theorem w22_13 {x : Int32} {l0 : Slot} : W (pj lw) 22 13 (l0 :: .val (.int x) :: L) S k n H Q ↔ W (pj lw) 22 14 (l0 :: .val (.int x) :: L) (.int x :: S) k n H Q := W_s (rfl : (pj lw).1 22 13 = some (.iload_n 1, 1, 0)) rfl rfl rfl
theorem w22_14 {i : Int32} {a : Nat} : W (pj lw) 22 14 L (.int i :: .ref a :: S) k n H Q ↔ ((inA H a .byte i = true ∨ inA H a .boolean i = true) ∧ W (pj lw) 22 15 L (elt H a i :: S) k n H Q) := W_baload (rfl : (pj lw).1 22 14 = some (.baload, 1, 0))
theorem w22_15 {x : Int32} : W (pj lw) 22 15 L (.int x :: S) k n H Q ↔ (if x = 0 then W (pj lw) 22 18 L S k n H Q else W (pj lw) 22 20 L S k n H Q) := W_if_ne (rfl : (pj lw).1 22 15 = some (.ifCond .ne 5, 3, 0)) rfl
theorem w22_18 {x : Int32} {l0 : Slot} : W (pj lw) 22 18 (l0 :: .val (.int x) :: L) S k n H Q ↔ W (pj lw) 22 19 (l0 :: .val (.int x) :: L) (.int x :: S) k n H Q := W_s (rfl : (pj lw).1 22 18 = some (.iload_n 1, 1, 0)) rfl rfl rfl
theorem w22_19 {x : Int32} : W (pj lw) 22 19 L (.int x :: S) k n H Q ↔ Q (some (.int x)) H := W_r (rfl : (pj lw).1 22 19 = some (.ireturn, 1, 0)) rfl
theorem w22_20 {x : Int32} {l0 : Slot} : W (pj lw) 22 20 (l0 :: .val (.int x) :: L) S k n H Q ↔ W (pj lw) 22 23 (l0 :: .val (.int (x + 1)) :: L) S k n H Q := W_s (rfl : (pj lw).1 22 20 = some (.iinc 1 1, 3, 0)) rfl rfl rfl
theorem w22_23 : W (pj lw) 22 23 L S k n H Q ↔ W (pj lw) 22 2 L S k n H Q := W_goto (rfl : (pj lw).1 22 23 = some (.goto (-21), 3, 0)) rfl
theorem w22_26 : W (pj lw) 22 26 L S k n H Q ↔ W (pj lw) 22 27 L (.int (-1) :: S) k n H Q := W_s (rfl : (pj lw).1 22 26 = some (.iconst (-1), 1, 0)) rfl rfl rfl
theorem w22_27 {x : Int32} : W (pj lw) 22 27 L (.int x :: S) k n H Q ↔ Q (some (.int x)) H := W_r (rfl : (pj lw).1 22 27 = some (.ireturn, 1, 0)) rfl
theorem c23 {x0 : Nat} {x1 : Int32} {x2 : Int32} {x3 : Int32} {x4 : Int32} : Cl (pj lw) 23 [.ref x0, .int x1, .int x2, .int x3, .int x4] H Q ↔ W (pj lw) 23 0 [.val (.ref x0), .val (.int x1), .val (.int x2), .val (.int x3), .val (.int x4)] [] 0 0 H Q := cl_unf rfl
theorem w23_0 {x : Nat} : W (pj lw) 23 0 (.val (.ref x) :: L) S k n H Q ↔ W (pj lw) 23 1 (.val (.ref x) :: L) (.ref x :: S) k n H Q := W_s (rfl : (pj lw).1 23 0 = some (.aload_n 0, 1, 0)) rfl rfl rfl
theorem w23_1 {a : Nat} : W (pj lw) 23 1 L (.ref a :: S) k n H Q ↔ (isO H a = true ∧ W (pj lw) 23 4 L (fld H a 1 :: S) k n H Q) := W_getf (rfl : (pj lw).1 23 1 = some (.getfield 7, 3, 1))
theorem w23_4 {x : Int32} {l0 : Slot} : W (pj lw) 23 4 (l0 :: .val (.int x) :: L) S k n H Q ↔ W (pj lw) 23 5 (l0 :: .val (.int x) :: L) (.int x :: S) k n H Q := W_s (rfl : (pj lw).1 23 4 = some (.iload_n 1, 1, 0)) rfl rfl rfl
theorem w23_5 {x : Int32} {l0 l1 : Slot} : W (pj lw) 23 5 (l0 :: l1 :: .val (.int x) :: L) S k n H Q ↔ W (pj lw) 23 6 (l0 :: l1 :: .val (.int x) :: L) (.int x :: S) k n H Q := W_s (rfl : (pj lw).1 23 5 = some (.iload_n 2, 1, 0)) rfl rfl rfl
theorem w23_6 {x i : Int32} {a : Nat} : W (pj lw) 23 6 L (.int x :: .int i :: .ref a :: S) k n H Q ↔ (inAw H a .int i = true ∧ W (pj lw) 23 7 L S k n (wr H a i.toNatClampNeg (.int x)) Q) := W_iastore (rfl : (pj lw).1 23 6 = some (.iastore, 1, 0))
theorem w23_7 {x : Nat} : W (pj lw) 23 7 (.val (.ref x) :: L) S k n H Q ↔ W (pj lw) 23 8 (.val (.ref x) :: L) (.ref x :: S) k n H Q := W_s (rfl : (pj lw).1 23 7 = some (.aload_n 0, 1, 0)) rfl rfl rfl
theorem w23_8 {a : Nat} : W (pj lw) 23 8 L (.ref a :: S) k n H Q ↔ (isO H a = true ∧ W (pj lw) 23 11 L (fld H a 2 :: S) k n H Q) := W_getf (rfl : (pj lw).1 23 8 = some (.getfield 13, 3, 2))
theorem w23_11 {x : Int32} {l0 : Slot} : W (pj lw) 23 11 (l0 :: .val (.int x) :: L) S k n H Q ↔ W (pj lw) 23 12 (l0 :: .val (.int x) :: L) (.int x :: S) k n H Q := W_s (rfl : (pj lw).1 23 11 = some (.iload_n 1, 1, 0)) rfl rfl rfl
theorem w23_12 {x : Int32} {l0 l1 l2 : Slot} : W (pj lw) 23 12 (l0 :: l1 :: l2 :: .val (.int x) :: L) S k n H Q ↔ W (pj lw) 23 13 (l0 :: l1 :: l2 :: .val (.int x) :: L) (.int x :: S) k n H Q := W_s (rfl : (pj lw).1 23 12 = some (.iload_n 3, 1, 0)) rfl rfl rfl
theorem w23_13 {x i : Int32} {a : Nat} : W (pj lw) 23 13 L (.int x :: .int i :: .ref a :: S) k n H Q ↔ (inAw H a .int i = true ∧ W (pj lw) 23 14 L S k n (wr H a i.toNatClampNeg (.int x)) Q) := W_iastore (rfl : (pj lw).1 23 13 = some (.iastore, 1, 0))
theorem w23_14 {x : Nat} : W (pj lw) 23 14 (.val (.ref x) :: L) S k n H Q ↔ W (pj lw) 23 15 (.val (.ref x) :: L) (.ref x :: S) k n H Q := W_s (rfl : (pj lw).1 23 14 = some (.aload_n 0, 1, 0)) rfl rfl rfl
theorem w23_15 {a : Nat} : W (pj lw) 23 15 L (.ref a :: S) k n H Q ↔ (isO H a = true ∧ W (pj lw) 23 18 L (fld H a 3 :: S) k n H Q) := W_getf (rfl : (pj lw).1 23 15 = some (.getfield 16, 3, 3))
theorem w23_18 {x : Int32} {l0 : Slot} : W (pj lw) 23 18 (l0 :: .val (.int x) :: L) S k n H Q ↔ W (pj lw) 23 19 (l0 :: .val (.int x) :: L) (.int x :: S) k n H Q := W_s (rfl : (pj lw).1 23 18 = some (.iload_n 1, 1, 0)) rfl rfl rfl
theorem w23_19 {x : Int32} {l0 l1 l2 l3 : Slot} : W (pj lw) 23 19 (l0 :: l1 :: l2 :: l3 :: .val (.int x) :: L) S k n H Q ↔ W (pj lw) 23 21 (l0 :: l1 :: l2 :: l3 :: .val (.int x) :: L) (.int x :: S) k n H Q := W_s (rfl : (pj lw).1 23 19 = some (.iload 4, 2, 0)) rfl rfl rfl
theorem w23_21 {x i : Int32} {a : Nat} : W (pj lw) 23 21 L (.int x :: .int i :: .ref a :: S) k n H Q ↔ (inAw H a .int i = true ∧ W (pj lw) 23 22 L S k n (wr H a i.toNatClampNeg (.int x)) Q) := W_iastore (rfl : (pj lw).1 23 21 = some (.iastore, 1, 0))
theorem w23_22 {x : Nat} : W (pj lw) 23 22 (.val (.ref x) :: L) S k n H Q ↔ W (pj lw) 23 23 (.val (.ref x) :: L) (.ref x :: S) k n H Q := W_s (rfl : (pj lw).1 23 22 = some (.aload_n 0, 1, 0)) rfl rfl rfl
theorem w23_23 {a : Nat} : W (pj lw) 23 23 L (.ref a :: S) k n H Q ↔ (isO H a = true ∧ W (pj lw) 23 26 L (fld H a 4 :: S) k n H Q) := W_getf (rfl : (pj lw).1 23 23 = some (.getfield 19, 3, 4))
theorem w23_26 {x : Int32} {l0 : Slot} : W (pj lw) 23 26 (l0 :: .val (.int x) :: L) S k n H Q ↔ W (pj lw) 23 27 (l0 :: .val (.int x) :: L) (.int x :: S) k n H Q := W_s (rfl : (pj lw).1 23 26 = some (.iload_n 1, 1, 0)) rfl rfl rfl
theorem w23_27 : W (pj lw) 23 27 L S k n H Q ↔ W (pj lw) 23 28 L (.int 1 :: S) k n H Q := W_s (rfl : (pj lw).1 23 27 = some (.iconst 1, 1, 0)) rfl rfl rfl
theorem w23_28 {x i : Int32} {a : Nat} : W (pj lw) 23 28 L (.int x :: .int i :: .ref a :: S) k n H Q ↔ (((inAw H a .byte i = true ∧ okv .byte (.int x) = true) ∨ (inAw H a .boolean i = true ∧ okv .boolean (.int x) = true)) ∧ W (pj lw) 23 29 L S k n (wr H a i.toNatClampNeg (.int x)) Q) := W_bastore (rfl : (pj lw).1 23 28 = some (.bastore, 1, 0))
theorem w23_29 {x : Nat} : W (pj lw) 23 29 (.val (.ref x) :: L) S k n H Q ↔ W (pj lw) 23 30 (.val (.ref x) :: L) (.ref x :: S) k n H Q := W_s (rfl : (pj lw).1 23 29 = some (.aload_n 0, 1, 0)) rfl rfl rfl
theorem w23_30 {a : Nat} : W (pj lw) 23 30 L (.ref a :: S) k n H Q ↔ (isO H a = true ∧ W (pj lw) 23 33 L (fld H a 5 :: S) k n H Q) := W_getf (rfl : (pj lw).1 23 30 = some (.getfield 23, 3, 5))
theorem w23_33 {x : Int32} {l0 : Slot} : W (pj lw) 23 33 (l0 :: .val (.int x) :: L) S k n H Q ↔ W (pj lw) 23 34 (l0 :: .val (.int x) :: L) (.int x :: S) k n H Q := W_s (rfl : (pj lw).1 23 33 = some (.iload_n 1, 1, 0)) rfl rfl rfl
theorem w23_34 : W (pj lw) 23 34 L S k n H Q ↔ W (pj lw) 23 35 L (.int 0 :: S) k n H Q := W_s (rfl : (pj lw).1 23 34 = some (.iconst 0, 1, 0)) rfl rfl rfl
theorem w23_35 {x i : Int32} {a : Nat} : W (pj lw) 23 35 L (.int x :: .int i :: .ref a :: S) k n H Q ↔ (((inAw H a .byte i = true ∧ okv .byte (.int x) = true) ∨ (inAw H a .boolean i = true ∧ okv .boolean (.int x) = true)) ∧ W (pj lw) 23 36 L S k n (wr H a i.toNatClampNeg (.int x)) Q) := W_bastore (rfl : (pj lw).1 23 35 = some (.bastore, 1, 0))
theorem w23_36 {x : Nat} : W (pj lw) 23 36 (.val (.ref x) :: L) S k n H Q ↔ W (pj lw) 23 37 (.val (.ref x) :: L) (.ref x :: S) k n H Q := W_s (rfl : (pj lw).1 23 36 = some (.aload_n 0, 1, 0)) rfl rfl rfl
theorem w23_37 {x : Nat} : W (pj lw) 23 37 L (.ref x :: S) k n H Q ↔ W (pj lw) 23 38 L (.ref x :: .ref x :: S) k n H Q := W_s (rfl : (pj lw).1 23 37 = some (.dup, 1, 0)) rfl rfl rfl
theorem w23_38 {a : Nat} : W (pj lw) 23 38 L (.ref a :: S) k n H Q ↔ (isO H a = true ∧ W (pj lw) 23 41 L (fld H a 12 :: S) k n H Q) := W_getf (rfl : (pj lw).1 23 38 = some (.getfield 48, 3, 12))
theorem w23_41 : W (pj lw) 23 41 L S k n H Q ↔ W (pj lw) 23 42 L (.int 1 :: S) k n H Q := W_s (rfl : (pj lw).1 23 41 = some (.iconst 1, 1, 0)) rfl rfl rfl
theorem w23_42 {x y : Int32} : W (pj lw) 23 42 L (.int y :: .int x :: S) k n H Q ↔ W (pj lw) 23 43 L (.int (x + y) :: S) k n H Q := W_s (rfl : (pj lw).1 23 42 = some (.iadd, 1, 0)) rfl rfl rfl
theorem w23_43 {a : Nat} {v : Value} : W (pj lw) 23 43 L (v :: .ref a :: S) k n H Q ↔ ((isOw H a = true ∧ okv (.int) v = true) ∧ W (pj lw) 23 46 L S k n (wr H a 12 v) Q) := W_putf (rfl : (pj lw).1 23 43 = some (.putfield 48, 3, 12))
theorem w23_46 : W (pj lw) 23 46 L [] k n H Q ↔ Q none H := W_r (rfl : (pj lw).1 23 46 = some (.return_, 1, 0)) rfl
theorem c25 {x0 : Nat} {x1 : Int32} : Cl (pj lw) 25 [.ref x0, .int x1] H Q ↔ W (pj lw) 25 0 [.val (.ref x0), .val (.int x1)] [] 0 0 H Q := cl_unf rfl
theorem w25_0 {x : Nat} : W (pj lw) 25 0 (.val (.ref x) :: L) S k n H Q ↔ W (pj lw) 25 1 (.val (.ref x) :: L) (.ref x :: S) k n H Q := W_s (rfl : (pj lw).1 25 0 = some (.aload_n 0, 1, 0)) rfl rfl rfl
theorem w25_1 {x : Int32} {l0 : Slot} : W (pj lw) 25 1 (l0 :: .val (.int x) :: L) S k n H Q ↔ W (pj lw) 25 2 (l0 :: .val (.int x) :: L) (.int x :: S) k n H Q := W_s (rfl : (pj lw).1 25 1 = some (.iload_n 1, 1, 0)) rfl rfl rfl
theorem w25_2 {a : Nat} {x0 : Int32} : W (pj lw) 25 2 L (.int x0 :: .ref a :: S) k n H Q ↔ ((isO H a = true ∧ cs S + (2 + 11) + 0 ≤ 14) ∧ Cl (pj lw) 40 [.ref a, .int x0] H (fun v H => W (pj lw) 25 5 L (v.toList ++ S) k n H Q)) := W_inst (as := [.int x0]) (rfl : (pj lw).1 25 2 = some (.invokevirtual 103, 3, 40)) rfl rfl rfl (Nat.le_of_ble_eq_true rfl) (Nat.le_of_ble_eq_true rfl) ⟨rfl, rfl⟩
theorem w25_5 {x : Int32} : W (pj lw) 25 5 L (.int x :: S) k n H Q ↔ (if x = 0 then W (pj lw) 25 17 L S k n H Q else W (pj lw) 25 8 L S k n H Q) := W_if_eq (rfl : (pj lw).1 25 5 = some (.ifCond .eq 12, 3, 0)) rfl
theorem w25_8 {x : Nat} : W (pj lw) 25 8 (.val (.ref x) :: L) S k n H Q ↔ W (pj lw) 25 9 (.val (.ref x) :: L) (.ref x :: S) k n H Q := W_s (rfl : (pj lw).1 25 8 = some (.aload_n 0, 1, 0)) rfl rfl rfl
theorem w25_9 {a : Nat} : W (pj lw) 25 9 L (.ref a :: S) k n H Q ↔ (isO H a = true ∧ W (pj lw) 25 12 L (fld H a 5 :: S) k n H Q) := W_getf (rfl : (pj lw).1 25 9 = some (.getfield 23, 3, 5))
theorem w25_12 {x : Int32} {l0 : Slot} : W (pj lw) 25 12 (l0 :: .val (.int x) :: L) S k n H Q ↔ W (pj lw) 25 13 (l0 :: .val (.int x) :: L) (.int x :: S) k n H Q := W_s (rfl : (pj lw).1 25 12 = some (.iload_n 1, 1, 0)) rfl rfl rfl
theorem w25_13 {i : Int32} {a : Nat} : W (pj lw) 25 13 L (.int i :: .ref a :: S) k n H Q ↔ ((inA H a .byte i = true ∨ inA H a .boolean i = true) ∧ W (pj lw) 25 14 L (elt H a i :: S) k n H Q) := W_baload (rfl : (pj lw).1 25 13 = some (.baload, 1, 0))
theorem w25_14 {x : Int32} : W (pj lw) 25 14 L (.int x :: S) k n H Q ↔ (if x = 0 then W (pj lw) 25 18 L S k n H Q else W (pj lw) 25 17 L S k n H Q) := W_if_eq (rfl : (pj lw).1 25 14 = some (.ifCond .eq 4, 3, 0)) rfl
theorem w25_17 : W (pj lw) 25 17 L [] k n H Q ↔ Q none H := W_r (rfl : (pj lw).1 25 17 = some (.return_, 1, 0)) rfl
theorem w25_18 {x : Nat} : W (pj lw) 25 18 (.val (.ref x) :: L) S k n H Q ↔ W (pj lw) 25 19 (.val (.ref x) :: L) (.ref x :: S) k n H Q := W_s (rfl : (pj lw).1 25 18 = some (.aload_n 0, 1, 0)) rfl rfl rfl
theorem w25_19 {a : Nat} : W (pj lw) 25 19 L (.ref a :: S) k n H Q ↔ (isO H a = true ∧ W (pj lw) 25 22 L (fld H a 5 :: S) k n H Q) := W_getf (rfl : (pj lw).1 25 19 = some (.getfield 23, 3, 5))
theorem w25_22 {x : Int32} {l0 : Slot} : W (pj lw) 25 22 (l0 :: .val (.int x) :: L) S k n H Q ↔ W (pj lw) 25 23 (l0 :: .val (.int x) :: L) (.int x :: S) k n H Q := W_s (rfl : (pj lw).1 25 22 = some (.iload_n 1, 1, 0)) rfl rfl rfl
theorem w25_23 : W (pj lw) 25 23 L S k n H Q ↔ W (pj lw) 25 24 L (.int 1 :: S) k n H Q := W_s (rfl : (pj lw).1 25 23 = some (.iconst 1, 1, 0)) rfl rfl rfl
theorem w25_24 {x i : Int32} {a : Nat} : W (pj lw) 25 24 L (.int x :: .int i :: .ref a :: S) k n H Q ↔ (((inAw H a .byte i = true ∧ okv .byte (.int x) = true) ∨ (inAw H a .boolean i = true ∧ okv .boolean (.int x) = true)) ∧ W (pj lw) 25 25 L S k n (wr H a i.toNatClampNeg (.int x)) Q) := W_bastore (rfl : (pj lw).1 25 24 = some (.bastore, 1, 0))
theorem w25_25 {x : Nat} : W (pj lw) 25 25 (.val (.ref x) :: L) S k n H Q ↔ W (pj lw) 25 26 (.val (.ref x) :: L) (.ref x :: S) k n H Q := W_s (rfl : (pj lw).1 25 25 = some (.aload_n 0, 1, 0)) rfl rfl rfl
theorem w25_26 {x : Nat} : W (pj lw) 25 26 L (.ref x :: S) k n H Q ↔ W (pj lw) 25 27 L (.ref x :: .ref x :: S) k n H Q := W_s (rfl : (pj lw).1 25 26 = some (.dup, 1, 0)) rfl rfl rfl
theorem w25_27 {a : Nat} : W (pj lw) 25 27 L (.ref a :: S) k n H Q ↔ (isO H a = true ∧ W (pj lw) 25 30 L (fld H a 13 :: S) k n H Q) := W_getf (rfl : (pj lw).1 25 27 = some (.getfield 51, 3, 13))
theorem w25_30 : W (pj lw) 25 30 L S k n H Q ↔ W (pj lw) 25 31 L (.int 1 :: S) k n H Q := W_s (rfl : (pj lw).1 25 30 = some (.iconst 1, 1, 0)) rfl rfl rfl
theorem w25_31 {x y : Int32} : W (pj lw) 25 31 L (.int y :: .int x :: S) k n H Q ↔ W (pj lw) 25 32 L (.int (x + y) :: S) k n H Q := W_s (rfl : (pj lw).1 25 31 = some (.iadd, 1, 0)) rfl rfl rfl
theorem w25_32 {a : Nat} {v : Value} : W (pj lw) 25 32 L (v :: .ref a :: S) k n H Q ↔ ((isOw H a = true ∧ okv (.int) v = true) ∧ W (pj lw) 25 35 L S k n (wr H a 13 v) Q) := W_putf (rfl : (pj lw).1 25 32 = some (.putfield 51, 3, 13))
theorem w25_35 {x : Nat} : W (pj lw) 25 35 (.val (.ref x) :: L) S k n H Q ↔ W (pj lw) 25 36 (.val (.ref x) :: L) (.ref x :: S) k n H Q := W_s (rfl : (pj lw).1 25 35 = some (.aload_n 0, 1, 0)) rfl rfl rfl
theorem w25_36 {x : Nat} : W (pj lw) 25 36 L (.ref x :: S) k n H Q ↔ W (pj lw) 25 37 L (.ref x :: .ref x :: S) k n H Q := W_s (rfl : (pj lw).1 25 36 = some (.dup, 1, 0)) rfl rfl rfl
theorem w25_37 {a : Nat} : W (pj lw) 25 37 L (.ref a :: S) k n H Q ↔ (isO H a = true ∧ W (pj lw) 25 40 L (fld H a 14 :: S) k n H Q) := W_getf (rfl : (pj lw).1 25 37 = some (.getfield 54, 3, 14))
theorem w25_40 {x : Nat} : W (pj lw) 25 40 (.val (.ref x) :: L) S k n H Q ↔ W (pj lw) 25 41 (.val (.ref x) :: L) (.ref x :: S) k n H Q := W_s (rfl : (pj lw).1 25 40 = some (.aload_n 0, 1, 0)) rfl rfl rfl
theorem w25_41 {a : Nat} : W (pj lw) 25 41 L (.ref a :: S) k n H Q ↔ (isO H a = true ∧ W (pj lw) 25 44 L (fld H a 3 :: S) k n H Q) := W_getf (rfl : (pj lw).1 25 41 = some (.getfield 16, 3, 3))
theorem w25_44 {x : Int32} {l0 : Slot} : W (pj lw) 25 44 (l0 :: .val (.int x) :: L) S k n H Q ↔ W (pj lw) 25 45 (l0 :: .val (.int x) :: L) (.int x :: S) k n H Q := W_s (rfl : (pj lw).1 25 44 = some (.iload_n 1, 1, 0)) rfl rfl rfl
theorem w25_45 {i : Int32} {a : Nat} : W (pj lw) 25 45 L (.int i :: .ref a :: S) k n H Q ↔ (inA H a .int i = true ∧ W (pj lw) 25 46 L (elt H a i :: S) k n H Q) := W_iaload (rfl : (pj lw).1 25 45 = some (.iaload, 1, 0))
theorem w25_46 {x : Int32} : W (pj lw) 25 46 L (.int x :: S) k n H Q ↔ W (pj lw) 25 47 L (.long x.toInt64 :: S) k n H Q := W_s (rfl : (pj lw).1 25 46 = some (.i2l, 1, 0)) rfl rfl rfl
theorem w25_47 {x y : Int64} : W (pj lw) 25 47 L (.long y :: .long x :: S) k n H Q ↔ W (pj lw) 25 48 L (.long (x + y) :: S) k n H Q := W_s (rfl : (pj lw).1 25 47 = some (.ladd, 1, 0)) rfl rfl rfl
theorem w25_48 {a : Nat} {v : Value} : W (pj lw) 25 48 L (v :: .ref a :: S) k n H Q ↔ ((isOw H a = true ∧ okv (.long) v = true) ∧ W (pj lw) 25 51 L S k n (wr H a 14 v) Q) := W_putf (rfl : (pj lw).1 25 48 = some (.putfield 54, 3, 14))
theorem w25_51 {x : Nat} : W (pj lw) 25 51 (.val (.ref x) :: L) S k n H Q ↔ W (pj lw) 25 52 (.val (.ref x) :: L) (.ref x :: S) k n H Q := W_s (rfl : (pj lw).1 25 51 = some (.aload_n 0, 1, 0)) rfl rfl rfl
theorem w25_52 {x : Nat} : W (pj lw) 25 52 (.val (.ref x) :: L) S k n H Q ↔ W (pj lw) 25 53 (.val (.ref x) :: L) (.ref x :: S) k n H Q := W_s (rfl : (pj lw).1 25 52 = some (.aload_n 0, 1, 0)) rfl rfl rfl
theorem w25_53 {a : Nat} : W (pj lw) 25 53 L (.ref a :: S) k n H Q ↔ (isO H a = true ∧ W (pj lw) 25 56 L (fld H a 1 :: S) k n H Q) := W_getf (rfl : (pj lw).1 25 53 = some (.getfield 7, 3, 1))
theorem w25_56 {x : Int32} {l0 : Slot} : W (pj lw) 25 56 (l0 :: .val (.int x) :: L) S k n H Q ↔ W (pj lw) 25 57 (l0 :: .val (.int x) :: L) (.int x :: S) k n H Q := W_s (rfl : (pj lw).1 25 56 = some (.iload_n 1, 1, 0)) rfl rfl rfl
theorem w25_57 {i : Int32} {a : Nat} : W (pj lw) 25 57 L (.int i :: .ref a :: S) k n H Q ↔ (inA H a .int i = true ∧ W (pj lw) 25 58 L (elt H a i :: S) k n H Q) := W_iaload (rfl : (pj lw).1 25 57 = some (.iaload, 1, 0))
theorem w25_58 {x : Int32} {l0 : Slot} : W (pj lw) 25 58 (l0 :: .val (.int x) :: L) S k n H Q ↔ W (pj lw) 25 59 (l0 :: .val (.int x) :: L) (.int x :: S) k n H Q := W_s (rfl : (pj lw).1 25 58 = some (.iload_n 1, 1, 0)) rfl rfl rfl
theorem w25_59 {a : Nat} {x0 : Int32} {x1 : Int32} : W (pj lw) 25 59 L (.int x1 :: .int x0 :: .ref a :: S) k n H Q ↔ ((isO H a = true ∧ cs S + (3 + 11) + 0 ≤ 14) ∧ Cl (pj lw) 27 [.ref a, .int x0, .int x1] H (fun v H => W (pj lw) 25 62 L (v.toList ++ S) k n H Q)) := W_inst (as := [.int x0, .int x1]) (rfl : (pj lw).1 25 59 = some (.invokevirtual 129, 3, 27)) rfl rfl rfl (Nat.le_of_ble_eq_true rfl) (Nat.le_of_ble_eq_true rfl) ⟨rfl, rfl⟩
theorem w25_62 {x : Nat} : W (pj lw) 25 62 (.val (.ref x) :: L) S k n H Q ↔ W (pj lw) 25 63 (.val (.ref x) :: L) (.ref x :: S) k n H Q := W_s (rfl : (pj lw).1 25 62 = some (.aload_n 0, 1, 0)) rfl rfl rfl
theorem w25_63 {x : Nat} : W (pj lw) 25 63 (.val (.ref x) :: L) S k n H Q ↔ W (pj lw) 25 64 (.val (.ref x) :: L) (.ref x :: S) k n H Q := W_s (rfl : (pj lw).1 25 63 = some (.aload_n 0, 1, 0)) rfl rfl rfl
theorem w25_64 {a : Nat} : W (pj lw) 25 64 L (.ref a :: S) k n H Q ↔ (isO H a = true ∧ W (pj lw) 25 67 L (fld H a 2 :: S) k n H Q) := W_getf (rfl : (pj lw).1 25 64 = some (.getfield 13, 3, 2))
theorem w25_67 {x : Int32} {l0 : Slot} : W (pj lw) 25 67 (l0 :: .val (.int x) :: L) S k n H Q ↔ W (pj lw) 25 68 (l0 :: .val (.int x) :: L) (.int x :: S) k n H Q := W_s (rfl : (pj lw).1 25 67 = some (.iload_n 1, 1, 0)) rfl rfl rfl
theorem w25_68 {i : Int32} {a : Nat} : W (pj lw) 25 68 L (.int i :: .ref a :: S) k n H Q ↔ (inA H a .int i = true ∧ W (pj lw) 25 69 L (elt H a i :: S) k n H Q) := W_iaload (rfl : (pj lw).1 25 68 = some (.iaload, 1, 0))
theorem w25_69 {x : Int32} {l0 : Slot} : W (pj lw) 25 69 (l0 :: .val (.int x) :: L) S k n H Q ↔ W (pj lw) 25 70 (l0 :: .val (.int x) :: L) (.int x :: S) k n H Q := W_s (rfl : (pj lw).1 25 69 = some (.iload_n 1, 1, 0)) rfl rfl rfl
theorem w25_70 {a : Nat} {x0 : Int32} {x1 : Int32} : W (pj lw) 25 70 L (.int x1 :: .int x0 :: .ref a :: S) k n H Q ↔ ((isO H a = true ∧ cs S + (3 + 11) + 0 ≤ 14) ∧ Cl (pj lw) 27 [.ref a, .int x0, .int x1] H (fun v H => W (pj lw) 25 73 L (v.toList ++ S) k n H Q)) := W_inst (as := [.int x0, .int x1]) (rfl : (pj lw).1 25 70 = some (.invokevirtual 129, 3, 27)) rfl rfl rfl (Nat.le_of_ble_eq_true rfl) (Nat.le_of_ble_eq_true rfl) ⟨rfl, rfl⟩
theorem w25_73 : W (pj lw) 25 73 L [] k n H Q ↔ Q none H := W_r (rfl : (pj lw).1 25 73 = some (.return_, 1, 0)) rfl
theorem c27 {x0 : Nat} {x1 : Int32} {x2 : Int32} : Cl (pj lw) 27 [.ref x0, .int x1, .int x2] H Q ↔ W (pj lw) 27 0 [.val (.ref x0), .val (.int x1), .val (.int x2)] [] 0 0 H Q := cl_unf rfl
theorem w27_0 {x : Int32} {l0 : Slot} : W (pj lw) 27 0 (l0 :: .val (.int x) :: L) S k n H Q ↔ W (pj lw) 27 1 (l0 :: .val (.int x) :: L) (.int x :: S) k n H Q := W_s (rfl : (pj lw).1 27 0 = some (.iload_n 1, 1, 0)) rfl rfl rfl
theorem w27_1 {x : Int32} : W (pj lw) 27 1 L (.int x :: S) k n H Q ↔ (if x < 0 then W (pj lw) 27 10 L S k n H Q else W (pj lw) 27 4 L S k n H Q) := W_if_lt (rfl : (pj lw).1 27 1 = some (.ifCond .lt 9, 3, 0)) rfl
theorem w27_4 {x : Int32} {l0 : Slot} : W (pj lw) 27 4 (l0 :: .val (.int x) :: L) S k n H Q ↔ W (pj lw) 27 5 (l0 :: .val (.int x) :: L) (.int x :: S) k n H Q := W_s (rfl : (pj lw).1 27 4 = some (.iload_n 1, 1, 0)) rfl rfl rfl
theorem w27_5 : W (pj lw) 27 5 L S k n H Q ↔ W (pj lw) 27 7 L (.int 32 :: S) k n H Q := W_s (rfl : (pj lw).1 27 5 = some (.bipush 32, 2, 0)) rfl rfl rfl
theorem w27_7 {x y : Int32} : W (pj lw) 27 7 L (.int y :: .int x :: S) k n H Q ↔ (if x < y then W (pj lw) 27 11 L S k n H Q else W (pj lw) 27 10 L S k n H Q) := W_icmp_lt (rfl : (pj lw).1 27 7 = some (.if_icmp .lt 4, 3, 0)) rfl
theorem w27_10 : W (pj lw) 27 10 L [] k n H Q ↔ Q none H := W_r (rfl : (pj lw).1 27 10 = some (.return_, 1, 0)) rfl
theorem w27_11 {x : Nat} : W (pj lw) 27 11 (.val (.ref x) :: L) S k n H Q ↔ W (pj lw) 27 12 (.val (.ref x) :: L) (.ref x :: S) k n H Q := W_s (rfl : (pj lw).1 27 11 = some (.aload_n 0, 1, 0)) rfl rfl rfl
theorem w27_12 {a : Nat} : W (pj lw) 27 12 L (.ref a :: S) k n H Q ↔ (isO H a = true ∧ W (pj lw) 27 15 L (fld H a 7 :: S) k n H Q) := W_getf (rfl : (pj lw).1 27 12 = some (.getfield 29, 3, 7))
theorem w27_15 {x : Int32} {l0 : Slot} : W (pj lw) 27 15 (l0 :: .val (.int x) :: L) S k n H Q ↔ W (pj lw) 27 16 (l0 :: .val (.int x) :: L) (.int x :: S) k n H Q := W_s (rfl : (pj lw).1 27 15 = some (.iload_n 1, 1, 0)) rfl rfl rfl
theorem w27_16 {i : Int32} {a : Nat} : W (pj lw) 27 16 L (.int i :: .ref a :: S) k n H Q ↔ (inA H a .int i = true ∧ W (pj lw) 27 17 L (elt H a i :: S) k n H Q) := W_iaload (rfl : (pj lw).1 27 16 = some (.iaload, 1, 0))
theorem w27_17 {x : Int32} : W (pj lw) 27 17 L (.int x :: S) k n H Q ↔ (if x < 0 then W (pj lw) 27 31 L S k n H Q else W (pj lw) 27 20 L S k n H Q) := W_if_lt (rfl : (pj lw).1 27 17 = some (.ifCond .lt 14, 3, 0)) rfl
theorem w27_20 {x : Nat} : W (pj lw) 27 20 (.val (.ref x) :: L) S k n H Q ↔ W (pj lw) 27 21 (.val (.ref x) :: L) (.ref x :: S) k n H Q := W_s (rfl : (pj lw).1 27 20 = some (.aload_n 0, 1, 0)) rfl rfl rfl
theorem w27_21 {a : Nat} : W (pj lw) 27 21 L (.ref a :: S) k n H Q ↔ (isO H a = true ∧ W (pj lw) 27 24 L (fld H a 7 :: S) k n H Q) := W_getf (rfl : (pj lw).1 27 21 = some (.getfield 29, 3, 7))
theorem w27_24 {x : Int32} {l0 : Slot} : W (pj lw) 27 24 (l0 :: .val (.int x) :: L) S k n H Q ↔ W (pj lw) 27 25 (l0 :: .val (.int x) :: L) (.int x :: S) k n H Q := W_s (rfl : (pj lw).1 27 24 = some (.iload_n 1, 1, 0)) rfl rfl rfl
theorem w27_25 {i : Int32} {a : Nat} : W (pj lw) 27 25 L (.int i :: .ref a :: S) k n H Q ↔ (inA H a .int i = true ∧ W (pj lw) 27 26 L (elt H a i :: S) k n H Q) := W_iaload (rfl : (pj lw).1 27 25 = some (.iaload, 1, 0))
theorem w27_26 : W (pj lw) 27 26 L S k n H Q ↔ W (pj lw) 27 28 L (.int 32 :: S) k n H Q := W_s (rfl : (pj lw).1 27 26 = some (.bipush 32, 2, 0)) rfl rfl rfl
theorem w27_28 {x y : Int32} : W (pj lw) 27 28 L (.int y :: .int x :: S) k n H Q ↔ (if x < y then W (pj lw) 27 32 L S k n H Q else W (pj lw) 27 31 L S k n H Q) := W_icmp_lt (rfl : (pj lw).1 27 28 = some (.if_icmp .lt 4, 3, 0)) rfl
theorem w27_31 : W (pj lw) 27 31 L [] k n H Q ↔ Q none H := W_r (rfl : (pj lw).1 27 31 = some (.return_, 1, 0)) rfl
theorem w27_32 {x : Nat} : W (pj lw) 27 32 (.val (.ref x) :: L) S k n H Q ↔ W (pj lw) 27 33 (.val (.ref x) :: L) (.ref x :: S) k n H Q := W_s (rfl : (pj lw).1 27 32 = some (.aload_n 0, 1, 0)) rfl rfl rfl
theorem w27_33 {a : Nat} : W (pj lw) 27 33 L (.ref a :: S) k n H Q ↔ (isO H a = true ∧ W (pj lw) 27 36 L (fld H a 6 :: S) k n H Q) := W_getf (rfl : (pj lw).1 27 33 = some (.getfield 26, 3, 6))
theorem w27_36 {x : Int32} {l0 : Slot} : W (pj lw) 27 36 (l0 :: .val (.int x) :: L) S k n H Q ↔ W (pj lw) 27 37 (l0 :: .val (.int x) :: L) (.int x :: S) k n H Q := W_s (rfl : (pj lw).1 27 36 = some (.iload_n 1, 1, 0)) rfl rfl rfl
theorem w27_37 : W (pj lw) 27 37 L S k n H Q ↔ W (pj lw) 27 39 L (.int 32 :: S) k n H Q := W_s (rfl : (pj lw).1 27 37 = some (.bipush 32, 2, 0)) rfl rfl rfl
theorem w27_39 {x y : Int32} : W (pj lw) 27 39 L (.int y :: .int x :: S) k n H Q ↔ W (pj lw) 27 40 L (.int (x * y) :: S) k n H Q := W_s (rfl : (pj lw).1 27 39 = some (.imul, 1, 0)) rfl rfl rfl
theorem w27_40 {x : Nat} : W (pj lw) 27 40 (.val (.ref x) :: L) S k n H Q ↔ W (pj lw) 27 41 (.val (.ref x) :: L) (.ref x :: S) k n H Q := W_s (rfl : (pj lw).1 27 40 = some (.aload_n 0, 1, 0)) rfl rfl rfl
theorem w27_41 {a : Nat} : W (pj lw) 27 41 L (.ref a :: S) k n H Q ↔ (isO H a = true ∧ W (pj lw) 27 44 L (fld H a 7 :: S) k n H Q) := W_getf (rfl : (pj lw).1 27 41 = some (.getfield 29, 3, 7))
theorem w27_44 {x : Int32} {l0 : Slot} : W (pj lw) 27 44 (l0 :: .val (.int x) :: L) S k n H Q ↔ W (pj lw) 27 45 (l0 :: .val (.int x) :: L) (.int x :: S) k n H Q := W_s (rfl : (pj lw).1 27 44 = some (.iload_n 1, 1, 0)) rfl rfl rfl
theorem w27_45 {i : Int32} {a : Nat} : W (pj lw) 27 45 L (.int i :: .ref a :: S) k n H Q ↔ (inA H a .int i = true ∧ W (pj lw) 27 46 L (elt H a i :: S) k n H Q) := W_iaload (rfl : (pj lw).1 27 45 = some (.iaload, 1, 0))
theorem w27_46 {x y : Int32} : W (pj lw) 27 46 L (.int y :: .int x :: S) k n H Q ↔ W (pj lw) 27 47 L (.int (x + y) :: S) k n H Q := W_s (rfl : (pj lw).1 27 46 = some (.iadd, 1, 0)) rfl rfl rfl
theorem w27_47 {x : Int32} {l0 l1 : Slot} : W (pj lw) 27 47 (l0 :: l1 :: .val (.int x) :: L) S k n H Q ↔ W (pj lw) 27 48 (l0 :: l1 :: .val (.int x) :: L) (.int x :: S) k n H Q := W_s (rfl : (pj lw).1 27 47 = some (.iload_n 2, 1, 0)) rfl rfl rfl
theorem w27_48 {x i : Int32} {a : Nat} : W (pj lw) 27 48 L (.int x :: .int i :: .ref a :: S) k n H Q ↔ (inAw H a .int i = true ∧ W (pj lw) 27 49 L S k n (wr H a i.toNatClampNeg (.int x)) Q) := W_iastore (rfl : (pj lw).1 27 48 = some (.iastore, 1, 0))
theorem w27_49 {x : Nat} : W (pj lw) 27 49 (.val (.ref x) :: L) S k n H Q ↔ W (pj lw) 27 50 (.val (.ref x) :: L) (.ref x :: S) k n H Q := W_s (rfl : (pj lw).1 27 49 = some (.aload_n 0, 1, 0)) rfl rfl rfl
theorem w27_50 {a : Nat} : W (pj lw) 27 50 L (.ref a :: S) k n H Q ↔ (isO H a = true ∧ W (pj lw) 27 53 L (fld H a 7 :: S) k n H Q) := W_getf (rfl : (pj lw).1 27 50 = some (.getfield 29, 3, 7))
theorem w27_53 {x : Int32} {l0 : Slot} : W (pj lw) 27 53 (l0 :: .val (.int x) :: L) S k n H Q ↔ W (pj lw) 27 54 (l0 :: .val (.int x) :: L) (.int x :: S) k n H Q := W_s (rfl : (pj lw).1 27 53 = some (.iload_n 1, 1, 0)) rfl rfl rfl
theorem w27_54 {x : Int32} {y : Nat} : W (pj lw) 27 54 L (.int x :: .ref y :: S) k n H Q ↔ W (pj lw) 27 55 L (.int x :: .ref y :: .int x :: .ref y :: S) k n H Q := W_s (rfl : (pj lw).1 27 54 = some (.dup2, 1, 0)) rfl rfl rfl
theorem w27_55 {i : Int32} {a : Nat} : W (pj lw) 27 55 L (.int i :: .ref a :: S) k n H Q ↔ (inA H a .int i = true ∧ W (pj lw) 27 56 L (elt H a i :: S) k n H Q) := W_iaload (rfl : (pj lw).1 27 55 = some (.iaload, 1, 0))
theorem w27_56 : W (pj lw) 27 56 L S k n H Q ↔ W (pj lw) 27 57 L (.int 1 :: S) k n H Q := W_s (rfl : (pj lw).1 27 56 = some (.iconst 1, 1, 0)) rfl rfl rfl
theorem w27_57 {x y : Int32} : W (pj lw) 27 57 L (.int y :: .int x :: S) k n H Q ↔ W (pj lw) 27 58 L (.int (x + y) :: S) k n H Q := W_s (rfl : (pj lw).1 27 57 = some (.iadd, 1, 0)) rfl rfl rfl
theorem w27_58 {x i : Int32} {a : Nat} : W (pj lw) 27 58 L (.int x :: .int i :: .ref a :: S) k n H Q ↔ (inAw H a .int i = true ∧ W (pj lw) 27 59 L S k n (wr H a i.toNatClampNeg (.int x)) Q) := W_iastore (rfl : (pj lw).1 27 58 = some (.iastore, 1, 0))
theorem w27_59 : W (pj lw) 27 59 L [] k n H Q ↔ Q none H := W_r (rfl : (pj lw).1 27 59 = some (.return_, 1, 0)) rfl
theorem c29 {x0 : Nat} : Cl (pj lw) 29 [.ref x0] H Q ↔ W (pj lw) 29 0 [.val (.ref x0), .unset] [] 0 0 H Q := cl_unf rfl
theorem w29_0 : W (pj lw) 29 0 L S k n H Q ↔ W (pj lw) 29 1 L (.int 0 :: S) k n H Q := W_s (rfl : (pj lw).1 29 0 = some (.iconst 0, 1, 0)) rfl rfl rfl
theorem w29_1 {x : Int32} {l0 : Slot} : W (pj lw) 29 1 (l0 :: .unset :: L) (.int x :: S) k n H Q ↔ W (pj lw) 29 2 (l0 :: .val (.int x) :: L) S k n H Q := W_istn (rfl : (pj lw).1 29 1 = some (.istore_n 1, 1, 0)) rfl rfl
theorem w29_2 {x : Int32} {l0 : Slot} : W (pj lw) 29 2 (l0 :: .val (.int x) :: L) S k n H Q ↔ W (pj lw) 29 3 (l0 :: .val (.int x) :: L) (.int x :: S) k n H Q := W_s (rfl : (pj lw).1 29 2 = some (.iload_n 1, 1, 0)) rfl rfl rfl
theorem w29_3 : W (pj lw) 29 3 L S k n H Q ↔ W (pj lw) 29 5 L (.int 32 :: S) k n H Q := W_s (rfl : (pj lw).1 29 3 = some (.bipush 32, 2, 0)) rfl rfl rfl
theorem w29_5 {x y : Int32} : W (pj lw) 29 5 L (.int y :: .int x :: S) k n H Q ↔ (if x < y then W (pj lw) 29 8 L S k n H Q else W (pj lw) 29 42 L S k n H Q) := W_icmp_ge (rfl : (pj lw).1 29 5 = some (.if_icmp .ge 37, 3, 0)) rfl
theorem w29_8 {x : Nat} : W (pj lw) 29 8 (.val (.ref x) :: L) S k n H Q ↔ W (pj lw) 29 9 (.val (.ref x) :: L) (.ref x :: S) k n H Q := W_s (rfl : (pj lw).1 29 8 = some (.aload_n 0, 1, 0)) rfl rfl rfl
theorem w29_9 {a : Nat} : W (pj lw) 29 9 L (.ref a :: S) k n H Q ↔ (isO H a = true ∧ W (pj lw) 29 12 L (fld H a 8 :: S) k n H Q) := W_getf (rfl : (pj lw).1 29 9 = some (.getfield 32, 3, 8))
theorem w29_12 {x : Int32} {l0 : Slot} : W (pj lw) 29 12 (l0 :: .val (.int x) :: L) S k n H Q ↔ W (pj lw) 29 13 (l0 :: .val (.int x) :: L) (.int x :: S) k n H Q := W_s (rfl : (pj lw).1 29 12 = some (.iload_n 1, 1, 0)) rfl rfl rfl
theorem w29_13 : W (pj lw) 29 13 L S k n H Q ↔ W (pj lw) 29 14 L (.int 0 :: S) k n H Q := W_s (rfl : (pj lw).1 29 13 = some (.iconst 0, 1, 0)) rfl rfl rfl
theorem w29_14 {x i : Int32} {a : Nat} : W (pj lw) 29 14 L (.int x :: .int i :: .ref a :: S) k n H Q ↔ (((inAw H a .byte i = true ∧ okv .byte (.int x) = true) ∨ (inAw H a .boolean i = true ∧ okv .boolean (.int x) = true)) ∧ W (pj lw) 29 15 L S k n (wr H a i.toNatClampNeg (.int x)) Q) := W_bastore (rfl : (pj lw).1 29 14 = some (.bastore, 1, 0))
theorem w29_15 {x : Nat} : W (pj lw) 29 15 (.val (.ref x) :: L) S k n H Q ↔ W (pj lw) 29 16 (.val (.ref x) :: L) (.ref x :: S) k n H Q := W_s (rfl : (pj lw).1 29 15 = some (.aload_n 0, 1, 0)) rfl rfl rfl
theorem w29_16 {a : Nat} : W (pj lw) 29 16 L (.ref a :: S) k n H Q ↔ (isO H a = true ∧ W (pj lw) 29 19 L (fld H a 9 :: S) k n H Q) := W_getf (rfl : (pj lw).1 29 16 = some (.getfield 35, 3, 9))
theorem w29_19 {x : Int32} {l0 : Slot} : W (pj lw) 29 19 (l0 :: .val (.int x) :: L) S k n H Q ↔ W (pj lw) 29 20 (l0 :: .val (.int x) :: L) (.int x :: S) k n H Q := W_s (rfl : (pj lw).1 29 19 = some (.iload_n 1, 1, 0)) rfl rfl rfl
theorem w29_20 : W (pj lw) 29 20 L S k n H Q ↔ W (pj lw) 29 21 L (.int (-1) :: S) k n H Q := W_s (rfl : (pj lw).1 29 20 = some (.iconst (-1), 1, 0)) rfl rfl rfl
theorem w29_21 {x i : Int32} {a : Nat} : W (pj lw) 29 21 L (.int x :: .int i :: .ref a :: S) k n H Q ↔ (inAw H a .int i = true ∧ W (pj lw) 29 22 L S k n (wr H a i.toNatClampNeg (.int x)) Q) := W_iastore (rfl : (pj lw).1 29 21 = some (.iastore, 1, 0))
theorem w29_22 {x : Nat} : W (pj lw) 29 22 (.val (.ref x) :: L) S k n H Q ↔ W (pj lw) 29 23 (.val (.ref x) :: L) (.ref x :: S) k n H Q := W_s (rfl : (pj lw).1 29 22 = some (.aload_n 0, 1, 0)) rfl rfl rfl
theorem w29_23 {a : Nat} : W (pj lw) 29 23 L (.ref a :: S) k n H Q ↔ (isO H a = true ∧ W (pj lw) 29 26 L (fld H a 10 :: S) k n H Q) := W_getf (rfl : (pj lw).1 29 23 = some (.getfield 38, 3, 10))
theorem w29_26 {x : Int32} {l0 : Slot} : W (pj lw) 29 26 (l0 :: .val (.int x) :: L) S k n H Q ↔ W (pj lw) 29 27 (l0 :: .val (.int x) :: L) (.int x :: S) k n H Q := W_s (rfl : (pj lw).1 29 26 = some (.iload_n 1, 1, 0)) rfl rfl rfl
theorem w29_27 : W (pj lw) 29 27 L S k n H Q ↔ W (pj lw) 29 28 L (.int (-1) :: S) k n H Q := W_s (rfl : (pj lw).1 29 27 = some (.iconst (-1), 1, 0)) rfl rfl rfl
theorem w29_28 {x i : Int32} {a : Nat} : W (pj lw) 29 28 L (.int x :: .int i :: .ref a :: S) k n H Q ↔ (inAw H a .int i = true ∧ W (pj lw) 29 29 L S k n (wr H a i.toNatClampNeg (.int x)) Q) := W_iastore (rfl : (pj lw).1 29 28 = some (.iastore, 1, 0))
theorem w29_29 {x : Nat} : W (pj lw) 29 29 (.val (.ref x) :: L) S k n H Q ↔ W (pj lw) 29 30 (.val (.ref x) :: L) (.ref x :: S) k n H Q := W_s (rfl : (pj lw).1 29 29 = some (.aload_n 0, 1, 0)) rfl rfl rfl
theorem w29_30 {a : Nat} : W (pj lw) 29 30 L (.ref a :: S) k n H Q ↔ (isO H a = true ∧ W (pj lw) 29 33 L (fld H a 11 :: S) k n H Q) := W_getf (rfl : (pj lw).1 29 30 = some (.getfield 41, 3, 11))
theorem w29_33 {x : Int32} {l0 : Slot} : W (pj lw) 29 33 (l0 :: .val (.int x) :: L) S k n H Q ↔ W (pj lw) 29 34 (l0 :: .val (.int x) :: L) (.int x :: S) k n H Q := W_s (rfl : (pj lw).1 29 33 = some (.iload_n 1, 1, 0)) rfl rfl rfl
theorem w29_34 : W (pj lw) 29 34 L S k n H Q ↔ W (pj lw) 29 35 L (.int 0 :: S) k n H Q := W_s (rfl : (pj lw).1 29 34 = some (.iconst 0, 1, 0)) rfl rfl rfl
theorem w29_35 {x i : Int32} {a : Nat} : W (pj lw) 29 35 L (.int x :: .int i :: .ref a :: S) k n H Q ↔ (inAw H a .int i = true ∧ W (pj lw) 29 36 L S k n (wr H a i.toNatClampNeg (.int x)) Q) := W_iastore (rfl : (pj lw).1 29 35 = some (.iastore, 1, 0))
theorem w29_36 {x : Int32} {l0 : Slot} : W (pj lw) 29 36 (l0 :: .val (.int x) :: L) S k n H Q ↔ W (pj lw) 29 39 (l0 :: .val (.int (x + 1)) :: L) S k n H Q := W_s (rfl : (pj lw).1 29 36 = some (.iinc 1 1, 3, 0)) rfl rfl rfl
theorem w29_39 : W (pj lw) 29 39 L S k n H Q ↔ W (pj lw) 29 2 L S k n H Q := W_goto (rfl : (pj lw).1 29 39 = some (.goto (-37), 3, 0)) rfl
theorem w29_42 : W (pj lw) 29 42 L [] k n H Q ↔ Q none H := W_r (rfl : (pj lw).1 29 42 = some (.return_, 1, 0)) rfl
theorem c30 {x0 : Nat} {x1 : Int32} {x2 : Int32} : Cl (pj lw) 30 [.ref x0, .int x1, .int x2] H Q ↔ W (pj lw) 30 0 [.val (.ref x0), .val (.int x1), .val (.int x2), .unset, .unset] [] 0 0 H Q := cl_unf rfl
theorem w30_0 {x : Nat} : W (pj lw) 30 0 (.val (.ref x) :: L) S k n H Q ↔ W (pj lw) 30 1 (.val (.ref x) :: L) (.ref x :: S) k n H Q := W_s (rfl : (pj lw).1 30 0 = some (.aload_n 0, 1, 0)) rfl rfl rfl
theorem w30_1 {a : Nat} : W (pj lw) 30 1 L (.ref a :: S) k n H Q ↔ ((isO H a = true ∧ cs S + (2 + 11) + 0 ≤ 34) ∧ Cl (pj lw) 29 [.ref a] H (fun v H => W (pj lw) 30 4 L (v.toList ++ S) k n H Q)) := W_inst (as := []) (rfl : (pj lw).1 30 1 = some (.invokevirtual 64, 3, 29)) rfl rfl rfl (Nat.le_of_ble_eq_true rfl) (Nat.le_of_ble_eq_true rfl) ⟨rfl, rfl⟩
theorem w30_4 {x : Nat} : W (pj lw) 30 4 (.val (.ref x) :: L) S k n H Q ↔ W (pj lw) 30 5 (.val (.ref x) :: L) (.ref x :: S) k n H Q := W_s (rfl : (pj lw).1 30 4 = some (.aload_n 0, 1, 0)) rfl rfl rfl
theorem w30_5 {x : Int32} {l0 : Slot} : W (pj lw) 30 5 (l0 :: .val (.int x) :: L) S k n H Q ↔ W (pj lw) 30 6 (l0 :: .val (.int x) :: L) (.int x :: S) k n H Q := W_s (rfl : (pj lw).1 30 5 = some (.iload_n 1, 1, 0)) rfl rfl rfl
theorem w30_6 {a : Nat} {x0 : Int32} : W (pj lw) 30 6 L (.int x0 :: .ref a :: S) k n H Q ↔ ((isO H a = true ∧ cs S + (2 + 11) + 0 ≤ 34) ∧ Cl (pj lw) 39 [.ref a, .int x0] H (fun v H => W (pj lw) 30 9 L (v.toList ++ S) k n H Q)) := W_inst (as := [.int x0]) (rfl : (pj lw).1 30 6 = some (.invokevirtual 67, 3, 39)) rfl rfl rfl (Nat.le_of_ble_eq_true rfl) (Nat.le_of_ble_eq_true rfl) ⟨rfl, rfl⟩
theorem w30_9 {x : Int32} : W (pj lw) 30 9 L (.int x :: S) k n H Q ↔ (if x = 0 then W (pj lw) 30 12 L S k n H Q else W (pj lw) 30 14 L S k n H Q) := W_if_ne (rfl : (pj lw).1 30 9 = some (.ifCond .ne 5, 3, 0)) rfl
theorem w30_12 : W (pj lw) 30 12 L S k n H Q ↔ W (pj lw) 30 13 L (.int 0 :: S) k n H Q := W_s (rfl : (pj lw).1 30 12 = some (.iconst 0, 1, 0)) rfl rfl rfl
theorem w30_13 {x : Int32} : W (pj lw) 30 13 L (.int x :: S) k n H Q ↔ Q (some (.int x)) H := W_r (rfl : (pj lw).1 30 13 = some (.ireturn, 1, 0)) rfl
theorem w30_14 {x : Nat} : W (pj lw) 30 14 (.val (.ref x) :: L) S k n H Q ↔ W (pj lw) 30 15 (.val (.ref x) :: L) (.ref x :: S) k n H Q := W_s (rfl : (pj lw).1 30 14 = some (.aload_n 0, 1, 0)) rfl rfl rfl
theorem w30_15 {a : Nat} : W (pj lw) 30 15 L (.ref a :: S) k n H Q ↔ (isO H a = true ∧ W (pj lw) 30 18 L (fld H a 8 :: S) k n H Q) := W_getf (rfl : (pj lw).1 30 15 = some (.getfield 32, 3, 8))
theorem w30_18 {x : Int32} {l0 : Slot} : W (pj lw) 30 18 (l0 :: .val (.int x) :: L) S k n H Q ↔ W (pj lw) 30 19 (l0 :: .val (.int x) :: L) (.int x :: S) k n H Q := W_s (rfl : (pj lw).1 30 18 = some (.iload_n 1, 1, 0)) rfl rfl rfl
theorem w30_19 : W (pj lw) 30 19 L S k n H Q ↔ W (pj lw) 30 20 L (.int 1 :: S) k n H Q := W_s (rfl : (pj lw).1 30 19 = some (.iconst 1, 1, 0)) rfl rfl rfl
theorem w30_20 {x i : Int32} {a : Nat} : W (pj lw) 30 20 L (.int x :: .int i :: .ref a :: S) k n H Q ↔ (((inAw H a .byte i = true ∧ okv .byte (.int x) = true) ∨ (inAw H a .boolean i = true ∧ okv .boolean (.int x) = true)) ∧ W (pj lw) 30 21 L S k n (wr H a i.toNatClampNeg (.int x)) Q) := W_bastore (rfl : (pj lw).1 30 20 = some (.bastore, 1, 0))
theorem w30_21 {x : Nat} : W (pj lw) 30 21 (.val (.ref x) :: L) S k n H Q ↔ W (pj lw) 30 22 (.val (.ref x) :: L) (.ref x :: S) k n H Q := W_s (rfl : (pj lw).1 30 21 = some (.aload_n 0, 1, 0)) rfl rfl rfl
theorem w30_22 {a : Nat} : W (pj lw) 30 22 L (.ref a :: S) k n H Q ↔ (isO H a = true ∧ W (pj lw) 30 25 L (fld H a 11 :: S) k n H Q) := W_getf (rfl : (pj lw).1 30 22 = some (.getfield 41, 3, 11))
theorem w30_25 : W (pj lw) 30 25 L S k n H Q ↔ W (pj lw) 30 26 L (.int 0 :: S) k n H Q := W_s (rfl : (pj lw).1 30 25 = some (.iconst 0, 1, 0)) rfl rfl rfl
theorem w30_26 {x : Int32} {l0 : Slot} : W (pj lw) 30 26 (l0 :: .val (.int x) :: L) S k n H Q ↔ W (pj lw) 30 27 (l0 :: .val (.int x) :: L) (.int x :: S) k n H Q := W_s (rfl : (pj lw).1 30 26 = some (.iload_n 1, 1, 0)) rfl rfl rfl
theorem w30_27 {x i : Int32} {a : Nat} : W (pj lw) 30 27 L (.int x :: .int i :: .ref a :: S) k n H Q ↔ (inAw H a .int i = true ∧ W (pj lw) 30 28 L S k n (wr H a i.toNatClampNeg (.int x)) Q) := W_iastore (rfl : (pj lw).1 30 27 = some (.iastore, 1, 0))
theorem w30_28 : W (pj lw) 30 28 L S k n H Q ↔ W (pj lw) 30 29 L (.int 1 :: S) k n H Q := W_s (rfl : (pj lw).1 30 28 = some (.iconst 1, 1, 0)) rfl rfl rfl
theorem w30_29 {x : Int32} {l0 l1 l2 : Slot} : W (pj lw) 30 29 (l0 :: l1 :: l2 :: .unset :: L) (.int x :: S) k n H Q ↔ W (pj lw) 30 30 (l0 :: l1 :: l2 :: .val (.int x) :: L) S k n H Q := W_istn (rfl : (pj lw).1 30 29 = some (.istore_n 3, 1, 0)) rfl rfl
theorem w30_30 : W (pj lw) 30 30 L S k n H Q ↔ W (pj lw) 30 31 L (.int 0 :: S) k n H Q := W_s (rfl : (pj lw).1 30 30 = some (.iconst 0, 1, 0)) rfl rfl rfl
theorem w30_31 {x : Int32} {l0 l1 l2 l3 : Slot} : W (pj lw) 30 31 (l0 :: l1 :: l2 :: l3 :: .unset :: L) (.int x :: S) k n H Q ↔ W (pj lw) 30 33 (l0 :: l1 :: l2 :: l3 :: .val (.int x) :: L) S k n H Q := W_ist (rfl : (pj lw).1 30 31 = some (.istore 4, 2, 0)) rfl rfl
theorem w30_33 {x : Int32} {l0 l1 l2 l3 : Slot} : W (pj lw) 30 33 (l0 :: l1 :: l2 :: l3 :: .val (.int x) :: L) S k n H Q ↔ W (pj lw) 30 35 (l0 :: l1 :: l2 :: l3 :: .val (.int x) :: L) (.int x :: S) k n H Q := W_s (rfl : (pj lw).1 30 33 = some (.iload 4, 2, 0)) rfl rfl rfl
theorem w30_35 {x : Int32} {l0 l1 l2 : Slot} : W (pj lw) 30 35 (l0 :: l1 :: l2 :: .val (.int x) :: L) S k n H Q ↔ W (pj lw) 30 36 (l0 :: l1 :: l2 :: .val (.int x) :: L) (.int x :: S) k n H Q := W_s (rfl : (pj lw).1 30 35 = some (.iload_n 3, 1, 0)) rfl rfl rfl
theorem w30_36 {x y : Int32} : W (pj lw) 30 36 L (.int y :: .int x :: S) k n H Q ↔ (if x < y then W (pj lw) 30 39 L S k n H Q else W (pj lw) 30 66 L S k n H Q) := W_icmp_ge (rfl : (pj lw).1 30 36 = some (.if_icmp .ge 30, 3, 0)) rfl
theorem w30_39 {x : Int32} {l0 l1 l2 l3 : Slot} : W (pj lw) 30 39 (l0 :: l1 :: l2 :: l3 :: .val (.int x) :: L) S k n H Q ↔ W (pj lw) 30 41 (l0 :: l1 :: l2 :: l3 :: .val (.int x) :: L) (.int x :: S) k n H Q := W_s (rfl : (pj lw).1 30 39 = some (.iload 4, 2, 0)) rfl rfl rfl
theorem w30_41 : W (pj lw) 30 41 L S k n H Q ↔ W (pj lw) 30 43 L (.int 32 :: S) k n H Q := W_s (rfl : (pj lw).1 30 41 = some (.bipush 32, 2, 0)) rfl rfl rfl
theorem w30_43 {x y : Int32} : W (pj lw) 30 43 L (.int y :: .int x :: S) k n H Q ↔ (if x < y then W (pj lw) 30 46 L S k n H Q else W (pj lw) 30 66 L S k n H Q) := W_icmp_ge (rfl : (pj lw).1 30 43 = some (.if_icmp .ge 23, 3, 0)) rfl
theorem w30_46 {x : Nat} : W (pj lw) 30 46 (.val (.ref x) :: L) S k n H Q ↔ W (pj lw) 30 47 (.val (.ref x) :: L) (.ref x :: S) k n H Q := W_s (rfl : (pj lw).1 30 46 = some (.aload_n 0, 1, 0)) rfl rfl rfl
theorem w30_47 {x : Nat} : W (pj lw) 30 47 (.val (.ref x) :: L) S k n H Q ↔ W (pj lw) 30 48 (.val (.ref x) :: L) (.ref x :: S) k n H Q := W_s (rfl : (pj lw).1 30 47 = some (.aload_n 0, 1, 0)) rfl rfl rfl
theorem w30_48 {a : Nat} : W (pj lw) 30 48 L (.ref a :: S) k n H Q ↔ (isO H a = true ∧ W (pj lw) 30 51 L (fld H a 11 :: S) k n H Q) := W_getf (rfl : (pj lw).1 30 48 = some (.getfield 41, 3, 11))
theorem w30_51 {x : Int32} {l0 l1 l2 l3 : Slot} : W (pj lw) 30 51 (l0 :: l1 :: l2 :: l3 :: .val (.int x) :: L) S k n H Q ↔ W (pj lw) 30 53 (l0 :: l1 :: l2 :: l3 :: .val (.int x) :: L) (.int x :: S) k n H Q := W_s (rfl : (pj lw).1 30 51 = some (.iload 4, 2, 0)) rfl rfl rfl
theorem w30_53 {i : Int32} {a : Nat} : W (pj lw) 30 53 L (.int i :: .ref a :: S) k n H Q ↔ (inA H a .int i = true ∧ W (pj lw) 30 54 L (elt H a i :: S) k n H Q) := W_iaload (rfl : (pj lw).1 30 53 = some (.iaload, 1, 0))
theorem w30_54 {x : Int32} {l0 l1 : Slot} : W (pj lw) 30 54 (l0 :: l1 :: .val (.int x) :: L) S k n H Q ↔ W (pj lw) 30 55 (l0 :: l1 :: .val (.int x) :: L) (.int x :: S) k n H Q := W_s (rfl : (pj lw).1 30 54 = some (.iload_n 2, 1, 0)) rfl rfl rfl
theorem w30_55 {x : Int32} {l0 l1 l2 : Slot} : W (pj lw) 30 55 (l0 :: l1 :: l2 :: .val (.int x) :: L) S k n H Q ↔ W (pj lw) 30 56 (l0 :: l1 :: l2 :: .val (.int x) :: L) (.int x :: S) k n H Q := W_s (rfl : (pj lw).1 30 55 = some (.iload_n 3, 1, 0)) rfl rfl rfl
theorem w30_56 {a : Nat} {x0 : Int32} {x1 : Int32} {x2 : Int32} : W (pj lw) 30 56 L (.int x2 :: .int x1 :: .int x0 :: .ref a :: S) k n H Q ↔ ((isO H a = true ∧ cs S + (9 + 11) + 14 ≤ 34) ∧ Cl (pj lw) 31 [.ref a, .int x0, .int x1, .int x2] H (fun v H => W (pj lw) 30 59 L (v.toList ++ S) k n H Q)) := W_inst (as := [.int x0, .int x1, .int x2]) (rfl : (pj lw).1 30 56 = some (.invokevirtual 135, 3, 31)) rfl rfl rfl (Nat.le_of_ble_eq_true rfl) (Nat.le_of_ble_eq_true rfl) ⟨rfl, rfl⟩
theorem w30_59i {y : Int32} {x : Int32} {l0 l1 l2 : Slot} : W (pj lw) 30 59 (l0 :: l1 :: l2 :: .val (.int y) :: L) (.int x :: S) k n H Q ↔ W (pj lw) 30 60 (l0 :: l1 :: l2 :: .val (.int x) :: L) S k n H Q := W_istn (rfl : (pj lw).1 30 59 = some (.istore_n 3, 1, 0)) rfl rfl
theorem w30_60 {x : Int32} {l0 l1 l2 l3 : Slot} : W (pj lw) 30 60 (l0 :: l1 :: l2 :: l3 :: .val (.int x) :: L) S k n H Q ↔ W (pj lw) 30 63 (l0 :: l1 :: l2 :: l3 :: .val (.int (x + 1)) :: L) S k n H Q := W_s (rfl : (pj lw).1 30 60 = some (.iinc 4 1, 3, 0)) rfl rfl rfl
theorem w30_63 : W (pj lw) 30 63 L S k n H Q ↔ W (pj lw) 30 33 L S k n H Q := W_goto (rfl : (pj lw).1 30 63 = some (.goto (-30), 3, 0)) rfl
theorem w30_66 {x : Int32} {l0 l1 l2 : Slot} : W (pj lw) 30 66 (l0 :: l1 :: l2 :: .val (.int x) :: L) S k n H Q ↔ W (pj lw) 30 67 (l0 :: l1 :: l2 :: .val (.int x) :: L) (.int x :: S) k n H Q := W_s (rfl : (pj lw).1 30 66 = some (.iload_n 3, 1, 0)) rfl rfl rfl
theorem w30_67 {x : Int32} : W (pj lw) 30 67 L (.int x :: S) k n H Q ↔ Q (some (.int x)) H := W_r (rfl : (pj lw).1 30 67 = some (.ireturn, 1, 0)) rfl
theorem c31 {x0 : Nat} {x1 : Int32} {x2 : Int32} {x3 : Int32} : Cl (pj lw) 31 [.ref x0, .int x1, .int x2, .int x3] H Q ↔ W (pj lw) 31 0 [.val (.ref x0), .val (.int x1), .val (.int x2), .val (.int x3), .unset, .unset, .unset, .unset, .unset] [] 0 0 H Q := cl_unf rfl
theorem w31_0 {x : Int32} {l0 l1 l2 : Slot} : W (pj lw) 31 0 (l0 :: l1 :: l2 :: .val (.int x) :: L) S k n H Q ↔ W (pj lw) 31 1 (l0 :: l1 :: l2 :: .val (.int x) :: L) (.int x :: S) k n H Q := W_s (rfl : (pj lw).1 31 0 = some (.iload_n 3, 1, 0)) rfl rfl rfl
theorem w31_1 {x : Int32} {l0 l1 l2 l3 : Slot} : W (pj lw) 31 1 (l0 :: l1 :: l2 :: l3 :: .unset :: L) (.int x :: S) k n H Q ↔ W (pj lw) 31 3 (l0 :: l1 :: l2 :: l3 :: .val (.int x) :: L) S k n H Q := W_ist (rfl : (pj lw).1 31 1 = some (.istore 4, 2, 0)) rfl rfl
theorem w31_3 {x : Int32} {l0 : Slot} : W (pj lw) 31 3 (l0 :: .val (.int x) :: L) S k n H Q ↔ W (pj lw) 31 4 (l0 :: .val (.int x) :: L) (.int x :: S) k n H Q := W_s (rfl : (pj lw).1 31 3 = some (.iload_n 1, 1, 0)) rfl rfl rfl
theorem w31_4 {x : Int32} : W (pj lw) 31 4 L (.int x :: S) k n H Q ↔ (if x < 0 then W (pj lw) 31 13 L S k n H Q else W (pj lw) 31 7 L S k n H Q) := W_if_lt (rfl : (pj lw).1 31 4 = some (.ifCond .lt 9, 3, 0)) rfl
theorem w31_7 {x : Int32} {l0 : Slot} : W (pj lw) 31 7 (l0 :: .val (.int x) :: L) S k n H Q ↔ W (pj lw) 31 8 (l0 :: .val (.int x) :: L) (.int x :: S) k n H Q := W_s (rfl : (pj lw).1 31 7 = some (.iload_n 1, 1, 0)) rfl rfl rfl
theorem w31_8 : W (pj lw) 31 8 L S k n H Q ↔ W (pj lw) 31 10 L (.int 32 :: S) k n H Q := W_s (rfl : (pj lw).1 31 8 = some (.bipush 32, 2, 0)) rfl rfl rfl
theorem w31_10 {x y : Int32} : W (pj lw) 31 10 L (.int y :: .int x :: S) k n H Q ↔ (if x < y then W (pj lw) 31 16 L S k n H Q else W (pj lw) 31 13 L S k n H Q) := W_icmp_lt (rfl : (pj lw).1 31 10 = some (.if_icmp .lt 6, 3, 0)) rfl
theorem w31_13 {x : Int32} {l0 l1 l2 l3 : Slot} : W (pj lw) 31 13 (l0 :: l1 :: l2 :: l3 :: .val (.int x) :: L) S k n H Q ↔ W (pj lw) 31 15 (l0 :: l1 :: l2 :: l3 :: .val (.int x) :: L) (.int x :: S) k n H Q := W_s (rfl : (pj lw).1 31 13 = some (.iload 4, 2, 0)) rfl rfl rfl
theorem w31_15 {x : Int32} : W (pj lw) 31 15 L (.int x :: S) k n H Q ↔ Q (some (.int x)) H := W_r (rfl : (pj lw).1 31 15 = some (.ireturn, 1, 0)) rfl
theorem w31_16 {x : Int32} {l0 : Slot} : W (pj lw) 31 16 (l0 :: .val (.int x) :: L) S k n H Q ↔ W (pj lw) 31 17 (l0 :: .val (.int x) :: L) (.int x :: S) k n H Q := W_s (rfl : (pj lw).1 31 16 = some (.iload_n 1, 1, 0)) rfl rfl rfl
theorem w31_17 : W (pj lw) 31 17 L S k n H Q ↔ W (pj lw) 31 19 L (.int 32 :: S) k n H Q := W_s (rfl : (pj lw).1 31 17 = some (.bipush 32, 2, 0)) rfl rfl rfl
theorem w31_19 {x y : Int32} : W (pj lw) 31 19 L (.int y :: .int x :: S) k n H Q ↔ W (pj lw) 31 20 L (.int (x * y) :: S) k n H Q := W_s (rfl : (pj lw).1 31 19 = some (.imul, 1, 0)) rfl rfl rfl
theorem w31_20 {x : Int32} {l0 l1 l2 l3 l4 : Slot} : W (pj lw) 31 20 (l0 :: l1 :: l2 :: l3 :: l4 :: .unset :: L) (.int x :: S) k n H Q ↔ W (pj lw) 31 22 (l0 :: l1 :: l2 :: l3 :: l4 :: .val (.int x) :: L) S k n H Q := W_ist (rfl : (pj lw).1 31 20 = some (.istore 5, 2, 0)) rfl rfl
theorem w31_22 : W (pj lw) 31 22 L S k n H Q ↔ W (pj lw) 31 23 L (.int 0 :: S) k n H Q := W_s (rfl : (pj lw).1 31 22 = some (.iconst 0, 1, 0)) rfl rfl rfl
theorem w31_23 {x : Int32} {l0 l1 l2 l3 l4 l5 : Slot} : W (pj lw) 31 23 (l0 :: l1 :: l2 :: l3 :: l4 :: l5 :: .unset :: L) (.int x :: S) k n H Q ↔ W (pj lw) 31 25 (l0 :: l1 :: l2 :: l3 :: l4 :: l5 :: .val (.int x) :: L) S k n H Q := W_ist (rfl : (pj lw).1 31 23 = some (.istore 6, 2, 0)) rfl rfl
theorem w31_25 {x : Int32} {l0 l1 l2 l3 l4 l5 : Slot} : W (pj lw) 31 25 (l0 :: l1 :: l2 :: l3 :: l4 :: l5 :: .val (.int x) :: L) S k n H Q ↔ W (pj lw) 31 27 (l0 :: l1 :: l2 :: l3 :: l4 :: l5 :: .val (.int x) :: L) (.int x :: S) k n H Q := W_s (rfl : (pj lw).1 31 25 = some (.iload 6, 2, 0)) rfl rfl rfl
theorem w31_27 {x : Nat} : W (pj lw) 31 27 (.val (.ref x) :: L) S k n H Q ↔ W (pj lw) 31 28 (.val (.ref x) :: L) (.ref x :: S) k n H Q := W_s (rfl : (pj lw).1 31 27 = some (.aload_n 0, 1, 0)) rfl rfl rfl
theorem w31_28 {a : Nat} : W (pj lw) 31 28 L (.ref a :: S) k n H Q ↔ (isO H a = true ∧ W (pj lw) 31 31 L (fld H a 7 :: S) k n H Q) := W_getf (rfl : (pj lw).1 31 28 = some (.getfield 29, 3, 7))
theorem w31_31 {x : Int32} {l0 : Slot} : W (pj lw) 31 31 (l0 :: .val (.int x) :: L) S k n H Q ↔ W (pj lw) 31 32 (l0 :: .val (.int x) :: L) (.int x :: S) k n H Q := W_s (rfl : (pj lw).1 31 31 = some (.iload_n 1, 1, 0)) rfl rfl rfl
theorem w31_32 {i : Int32} {a : Nat} : W (pj lw) 31 32 L (.int i :: .ref a :: S) k n H Q ↔ (inA H a .int i = true ∧ W (pj lw) 31 33 L (elt H a i :: S) k n H Q) := W_iaload (rfl : (pj lw).1 31 32 = some (.iaload, 1, 0))
theorem w31_33 {x y : Int32} : W (pj lw) 31 33 L (.int y :: .int x :: S) k n H Q ↔ (if x < y then W (pj lw) 31 36 L S k n H Q else W (pj lw) 31 157 L S k n H Q) := W_icmp_ge (rfl : (pj lw).1 31 33 = some (.if_icmp .ge 124, 3, 0)) rfl
theorem w31_36 {x : Int32} {l0 l1 l2 l3 l4 l5 : Slot} : W (pj lw) 31 36 (l0 :: l1 :: l2 :: l3 :: l4 :: l5 :: .val (.int x) :: L) S k n H Q ↔ W (pj lw) 31 38 (l0 :: l1 :: l2 :: l3 :: l4 :: l5 :: .val (.int x) :: L) (.int x :: S) k n H Q := W_s (rfl : (pj lw).1 31 36 = some (.iload 6, 2, 0)) rfl rfl rfl
theorem w31_38 : W (pj lw) 31 38 L S k n H Q ↔ W (pj lw) 31 40 L (.int 32 :: S) k n H Q := W_s (rfl : (pj lw).1 31 38 = some (.bipush 32, 2, 0)) rfl rfl rfl
theorem w31_40 {x y : Int32} : W (pj lw) 31 40 L (.int y :: .int x :: S) k n H Q ↔ (if x < y then W (pj lw) 31 43 L S k n H Q else W (pj lw) 31 157 L S k n H Q) := W_icmp_ge (rfl : (pj lw).1 31 40 = some (.if_icmp .ge 117, 3, 0)) rfl
theorem w31_43 {x : Nat} : W (pj lw) 31 43 (.val (.ref x) :: L) S k n H Q ↔ W (pj lw) 31 44 (.val (.ref x) :: L) (.ref x :: S) k n H Q := W_s (rfl : (pj lw).1 31 43 = some (.aload_n 0, 1, 0)) rfl rfl rfl
theorem w31_44 {a : Nat} : W (pj lw) 31 44 L (.ref a :: S) k n H Q ↔ (isO H a = true ∧ W (pj lw) 31 47 L (fld H a 6 :: S) k n H Q) := W_getf (rfl : (pj lw).1 31 44 = some (.getfield 26, 3, 6))
theorem w31_47 {x : Int32} {l0 l1 l2 l3 l4 : Slot} : W (pj lw) 31 47 (l0 :: l1 :: l2 :: l3 :: l4 :: .val (.int x) :: L) S k n H Q ↔ W (pj lw) 31 49 (l0 :: l1 :: l2 :: l3 :: l4 :: .val (.int x) :: L) (.int x :: S) k n H Q := W_s (rfl : (pj lw).1 31 47 = some (.iload 5, 2, 0)) rfl rfl rfl
theorem w31_49 {x : Int32} {l0 l1 l2 l3 l4 l5 : Slot} : W (pj lw) 31 49 (l0 :: l1 :: l2 :: l3 :: l4 :: l5 :: .val (.int x) :: L) S k n H Q ↔ W (pj lw) 31 51 (l0 :: l1 :: l2 :: l3 :: l4 :: l5 :: .val (.int x) :: L) (.int x :: S) k n H Q := W_s (rfl : (pj lw).1 31 49 = some (.iload 6, 2, 0)) rfl rfl rfl
theorem w31_51 {x y : Int32} : W (pj lw) 31 51 L (.int y :: .int x :: S) k n H Q ↔ W (pj lw) 31 52 L (.int (x + y) :: S) k n H Q := W_s (rfl : (pj lw).1 31 51 = some (.iadd, 1, 0)) rfl rfl rfl
theorem w31_52 {i : Int32} {a : Nat} : W (pj lw) 31 52 L (.int i :: .ref a :: S) k n H Q ↔ (inA H a .int i = true ∧ W (pj lw) 31 53 L (elt H a i :: S) k n H Q) := W_iaload (rfl : (pj lw).1 31 52 = some (.iaload, 1, 0))
theorem w31_53i {y : Int32} {x : Int32} {l0 l1 l2 l3 l4 l5 l6 : Slot} : W (pj lw) 31 53 (l0 :: l1 :: l2 :: l3 :: l4 :: l5 :: l6 :: .val (.int y) :: L) (.int x :: S) k n H Q ↔ W (pj lw) 31 55 (l0 :: l1 :: l2 :: l3 :: l4 :: l5 :: l6 :: .val (.int x) :: L) S k n H Q := W_ist (rfl : (pj lw).1 31 53 = some (.istore 7, 2, 0)) rfl rfl
theorem w31_53 {x : Int32} {l0 l1 l2 l3 l4 l5 l6 : Slot} : W (pj lw) 31 53 (l0 :: l1 :: l2 :: l3 :: l4 :: l5 :: l6 :: .unset :: L) (.int x :: S) k n H Q ↔ W (pj lw) 31 55 (l0 :: l1 :: l2 :: l3 :: l4 :: l5 :: l6 :: .val (.int x) :: L) S k n H Q := W_ist (rfl : (pj lw).1 31 53 = some (.istore 7, 2, 0)) rfl rfl
theorem w31_55 {x : Int32} {l0 l1 l2 l3 l4 l5 l6 : Slot} : W (pj lw) 31 55 (l0 :: l1 :: l2 :: l3 :: l4 :: l5 :: l6 :: .val (.int x) :: L) S k n H Q ↔ W (pj lw) 31 57 (l0 :: l1 :: l2 :: l3 :: l4 :: l5 :: l6 :: .val (.int x) :: L) (.int x :: S) k n H Q := W_s (rfl : (pj lw).1 31 55 = some (.iload 7, 2, 0)) rfl rfl rfl
theorem w31_57 {x : Int32} {l0 l1 : Slot} : W (pj lw) 31 57 (l0 :: l1 :: .val (.int x) :: L) S k n H Q ↔ W (pj lw) 31 58 (l0 :: l1 :: .val (.int x) :: L) (.int x :: S) k n H Q := W_s (rfl : (pj lw).1 31 57 = some (.iload_n 2, 1, 0)) rfl rfl rfl
theorem w31_58 {x y : Int32} : W (pj lw) 31 58 L (.int y :: .int x :: S) k n H Q ↔ (if x = y then W (pj lw) 31 151 L S k n H Q else W (pj lw) 31 61 L S k n H Q) := W_icmp_eq (rfl : (pj lw).1 31 58 = some (.if_icmp .eq 93, 3, 0)) rfl
theorem w31_61 {x : Nat} : W (pj lw) 31 61 (.val (.ref x) :: L) S k n H Q ↔ W (pj lw) 31 62 (.val (.ref x) :: L) (.ref x :: S) k n H Q := W_s (rfl : (pj lw).1 31 61 = some (.aload_n 0, 1, 0)) rfl rfl rfl
theorem w31_62 {x : Int32} {l0 l1 l2 l3 l4 l5 l6 : Slot} : W (pj lw) 31 62 (l0 :: l1 :: l2 :: l3 :: l4 :: l5 :: l6 :: .val (.int x) :: L) S k n H Q ↔ W (pj lw) 31 64 (l0 :: l1 :: l2 :: l3 :: l4 :: l5 :: l6 :: .val (.int x) :: L) (.int x :: S) k n H Q := W_s (rfl : (pj lw).1 31 62 = some (.iload 7, 2, 0)) rfl rfl rfl
theorem w31_64 {a : Nat} {x0 : Int32} : W (pj lw) 31 64 L (.int x0 :: .ref a :: S) k n H Q ↔ ((isO H a = true ∧ cs S + (2 + 11) + 0 ≤ 14) ∧ Cl (pj lw) 40 [.ref a, .int x0] H (fun v H => W (pj lw) 31 67 L (v.toList ++ S) k n H Q)) := W_inst (as := [.int x0]) (rfl : (pj lw).1 31 64 = some (.invokevirtual 103, 3, 40)) rfl rfl rfl (Nat.le_of_ble_eq_true rfl) (Nat.le_of_ble_eq_true rfl) ⟨rfl, rfl⟩
theorem w31_67 {x : Int32} : W (pj lw) 31 67 L (.int x :: S) k n H Q ↔ (if x = 0 then W (pj lw) 31 70 L S k n H Q else W (pj lw) 31 73 L S k n H Q) := W_if_ne (rfl : (pj lw).1 31 67 = some (.ifCond .ne 6, 3, 0)) rfl
theorem w31_70 : W (pj lw) 31 70 L S k n H Q ↔ W (pj lw) 31 151 L S k n H Q := W_goto (rfl : (pj lw).1 31 70 = some (.goto 81, 3, 0)) rfl
theorem w31_73 {x : Nat} : W (pj lw) 31 73 (.val (.ref x) :: L) S k n H Q ↔ W (pj lw) 31 74 (.val (.ref x) :: L) (.ref x :: S) k n H Q := W_s (rfl : (pj lw).1 31 73 = some (.aload_n 0, 1, 0)) rfl rfl rfl
theorem w31_74 {x : Int32} {l0 l1 l2 l3 l4 l5 l6 : Slot} : W (pj lw) 31 74 (l0 :: l1 :: l2 :: l3 :: l4 :: l5 :: l6 :: .val (.int x) :: L) S k n H Q ↔ W (pj lw) 31 76 (l0 :: l1 :: l2 :: l3 :: l4 :: l5 :: l6 :: .val (.int x) :: L) (.int x :: S) k n H Q := W_s (rfl : (pj lw).1 31 74 = some (.iload 7, 2, 0)) rfl rfl rfl
theorem w31_76 {x : Int32} {l0 : Slot} : W (pj lw) 31 76 (l0 :: .val (.int x) :: L) S k n H Q ↔ W (pj lw) 31 77 (l0 :: .val (.int x) :: L) (.int x :: S) k n H Q := W_s (rfl : (pj lw).1 31 76 = some (.iload_n 1, 1, 0)) rfl rfl rfl
theorem w31_80i {y : Int32} {x : Int32} {l0 l1 l2 l3 l4 l5 l6 l7 : Slot} : W (pj lw) 31 80 (l0 :: l1 :: l2 :: l3 :: l4 :: l5 :: l6 :: l7 :: .val (.int y) :: L) (.int x :: S) k n H Q ↔ W (pj lw) 31 82 (l0 :: l1 :: l2 :: l3 :: l4 :: l5 :: l6 :: l7 :: .val (.int x) :: L) S k n H Q := W_ist (rfl : (pj lw).1 31 80 = some (.istore 8, 2, 0)) rfl rfl
theorem w31_80 {x : Int32} {l0 l1 l2 l3 l4 l5 l6 l7 : Slot} : W (pj lw) 31 80 (l0 :: l1 :: l2 :: l3 :: l4 :: l5 :: l6 :: l7 :: .unset :: L) (.int x :: S) k n H Q ↔ W (pj lw) 31 82 (l0 :: l1 :: l2 :: l3 :: l4 :: l5 :: l6 :: l7 :: .val (.int x) :: L) S k n H Q := W_ist (rfl : (pj lw).1 31 80 = some (.istore 8, 2, 0)) rfl rfl
theorem w31_82 {x : Int32} {l0 l1 l2 l3 l4 l5 l6 l7 : Slot} : W (pj lw) 31 82 (l0 :: l1 :: l2 :: l3 :: l4 :: l5 :: l6 :: l7 :: .val (.int x) :: L) S k n H Q ↔ W (pj lw) 31 84 (l0 :: l1 :: l2 :: l3 :: l4 :: l5 :: l6 :: l7 :: .val (.int x) :: L) (.int x :: S) k n H Q := W_s (rfl : (pj lw).1 31 82 = some (.iload 8, 2, 0)) rfl rfl rfl
theorem w31_84 {x : Int32} : W (pj lw) 31 84 L (.int x :: S) k n H Q ↔ (if x < 0 then W (pj lw) 31 151 L S k n H Q else W (pj lw) 31 87 L S k n H Q) := W_if_lt (rfl : (pj lw).1 31 84 = some (.ifCond .lt 67, 3, 0)) rfl
theorem w31_87 {x : Int32} {l0 l1 l2 l3 l4 l5 l6 l7 : Slot} : W (pj lw) 31 87 (l0 :: l1 :: l2 :: l3 :: l4 :: l5 :: l6 :: l7 :: .val (.int x) :: L) S k n H Q ↔ W (pj lw) 31 89 (l0 :: l1 :: l2 :: l3 :: l4 :: l5 :: l6 :: l7 :: .val (.int x) :: L) (.int x :: S) k n H Q := W_s (rfl : (pj lw).1 31 87 = some (.iload 8, 2, 0)) rfl rfl rfl
theorem w31_89 : W (pj lw) 31 89 L S k n H Q ↔ W (pj lw) 31 91 L (.int 32 :: S) k n H Q := W_s (rfl : (pj lw).1 31 89 = some (.bipush 32, 2, 0)) rfl rfl rfl
theorem w31_91 {x y : Int32} : W (pj lw) 31 91 L (.int y :: .int x :: S) k n H Q ↔ (if x < y then W (pj lw) 31 94 L S k n H Q else W (pj lw) 31 151 L S k n H Q) := W_icmp_ge (rfl : (pj lw).1 31 91 = some (.if_icmp .ge 60, 3, 0)) rfl
theorem w31_94 {x : Nat} : W (pj lw) 31 94 (.val (.ref x) :: L) S k n H Q ↔ W (pj lw) 31 95 (.val (.ref x) :: L) (.ref x :: S) k n H Q := W_s (rfl : (pj lw).1 31 94 = some (.aload_n 0, 1, 0)) rfl rfl rfl
theorem w31_95 {a : Nat} : W (pj lw) 31 95 L (.ref a :: S) k n H Q ↔ (isO H a = true ∧ W (pj lw) 31 98 L (fld H a 8 :: S) k n H Q) := W_getf (rfl : (pj lw).1 31 95 = some (.getfield 32, 3, 8))
theorem w31_98 {x : Int32} {l0 l1 l2 l3 l4 l5 l6 l7 : Slot} : W (pj lw) 31 98 (l0 :: l1 :: l2 :: l3 :: l4 :: l5 :: l6 :: l7 :: .val (.int x) :: L) S k n H Q ↔ W (pj lw) 31 100 (l0 :: l1 :: l2 :: l3 :: l4 :: l5 :: l6 :: l7 :: .val (.int x) :: L) (.int x :: S) k n H Q := W_s (rfl : (pj lw).1 31 98 = some (.iload 8, 2, 0)) rfl rfl rfl
theorem w31_100 {i : Int32} {a : Nat} : W (pj lw) 31 100 L (.int i :: .ref a :: S) k n H Q ↔ ((inA H a .byte i = true ∨ inA H a .boolean i = true) ∧ W (pj lw) 31 101 L (elt H a i :: S) k n H Q) := W_baload (rfl : (pj lw).1 31 100 = some (.baload, 1, 0))
theorem w31_101 {x : Int32} : W (pj lw) 31 101 L (.int x :: S) k n H Q ↔ (if x = 0 then W (pj lw) 31 104 L S k n H Q else W (pj lw) 31 151 L S k n H Q) := W_if_ne (rfl : (pj lw).1 31 101 = some (.ifCond .ne 50, 3, 0)) rfl
theorem w31_104 {x : Int32} {l0 l1 l2 l3 : Slot} : W (pj lw) 31 104 (l0 :: l1 :: l2 :: l3 :: .val (.int x) :: L) S k n H Q ↔ W (pj lw) 31 106 (l0 :: l1 :: l2 :: l3 :: .val (.int x) :: L) (.int x :: S) k n H Q := W_s (rfl : (pj lw).1 31 104 = some (.iload 4, 2, 0)) rfl rfl rfl
theorem w31_106 : W (pj lw) 31 106 L S k n H Q ↔ W (pj lw) 31 108 L (.int 32 :: S) k n H Q := W_s (rfl : (pj lw).1 31 106 = some (.bipush 32, 2, 0)) rfl rfl rfl
theorem w31_108 {x y : Int32} : W (pj lw) 31 108 L (.int y :: .int x :: S) k n H Q ↔ (if x < y then W (pj lw) 31 114 L S k n H Q else W (pj lw) 31 111 L S k n H Q) := W_icmp_lt (rfl : (pj lw).1 31 108 = some (.if_icmp .lt 6, 3, 0)) rfl
theorem w31_111 : W (pj lw) 31 111 L S k n H Q ↔ W (pj lw) 31 151 L S k n H Q := W_goto (rfl : (pj lw).1 31 111 = some (.goto 40, 3, 0)) rfl
theorem w31_114 {x : Nat} : W (pj lw) 31 114 (.val (.ref x) :: L) S k n H Q ↔ W (pj lw) 31 115 (.val (.ref x) :: L) (.ref x :: S) k n H Q := W_s (rfl : (pj lw).1 31 114 = some (.aload_n 0, 1, 0)) rfl rfl rfl
theorem w31_115 {a : Nat} : W (pj lw) 31 115 L (.ref a :: S) k n H Q ↔ (isO H a = true ∧ W (pj lw) 31 118 L (fld H a 8 :: S) k n H Q) := W_getf (rfl : (pj lw).1 31 115 = some (.getfield 32, 3, 8))
theorem w31_118 {x : Int32} {l0 l1 l2 l3 l4 l5 l6 l7 : Slot} : W (pj lw) 31 118 (l0 :: l1 :: l2 :: l3 :: l4 :: l5 :: l6 :: l7 :: .val (.int x) :: L) S k n H Q ↔ W (pj lw) 31 120 (l0 :: l1 :: l2 :: l3 :: l4 :: l5 :: l6 :: l7 :: .val (.int x) :: L) (.int x :: S) k n H Q := W_s (rfl : (pj lw).1 31 118 = some (.iload 8, 2, 0)) rfl rfl rfl
theorem w31_120 : W (pj lw) 31 120 L S k n H Q ↔ W (pj lw) 31 121 L (.int 1 :: S) k n H Q := W_s (rfl : (pj lw).1 31 120 = some (.iconst 1, 1, 0)) rfl rfl rfl
theorem w31_121 {x i : Int32} {a : Nat} : W (pj lw) 31 121 L (.int x :: .int i :: .ref a :: S) k n H Q ↔ (((inAw H a .byte i = true ∧ okv .byte (.int x) = true) ∨ (inAw H a .boolean i = true ∧ okv .boolean (.int x) = true)) ∧ W (pj lw) 31 122 L S k n (wr H a i.toNatClampNeg (.int x)) Q) := W_bastore (rfl : (pj lw).1 31 121 = some (.bastore, 1, 0))
theorem w31_122 {x : Nat} : W (pj lw) 31 122 (.val (.ref x) :: L) S k n H Q ↔ W (pj lw) 31 123 (.val (.ref x) :: L) (.ref x :: S) k n H Q := W_s (rfl : (pj lw).1 31 122 = some (.aload_n 0, 1, 0)) rfl rfl rfl
theorem w31_123 {a : Nat} : W (pj lw) 31 123 L (.ref a :: S) k n H Q ↔ (isO H a = true ∧ W (pj lw) 31 126 L (fld H a 9 :: S) k n H Q) := W_getf (rfl : (pj lw).1 31 123 = some (.getfield 35, 3, 9))
theorem w31_126 {x : Int32} {l0 l1 l2 l3 l4 l5 l6 l7 : Slot} : W (pj lw) 31 126 (l0 :: l1 :: l2 :: l3 :: l4 :: l5 :: l6 :: l7 :: .val (.int x) :: L) S k n H Q ↔ W (pj lw) 31 128 (l0 :: l1 :: l2 :: l3 :: l4 :: l5 :: l6 :: l7 :: .val (.int x) :: L) (.int x :: S) k n H Q := W_s (rfl : (pj lw).1 31 126 = some (.iload 8, 2, 0)) rfl rfl rfl
theorem w31_128 {x : Int32} {l0 l1 l2 l3 l4 l5 l6 : Slot} : W (pj lw) 31 128 (l0 :: l1 :: l2 :: l3 :: l4 :: l5 :: l6 :: .val (.int x) :: L) S k n H Q ↔ W (pj lw) 31 130 (l0 :: l1 :: l2 :: l3 :: l4 :: l5 :: l6 :: .val (.int x) :: L) (.int x :: S) k n H Q := W_s (rfl : (pj lw).1 31 128 = some (.iload 7, 2, 0)) rfl rfl rfl
theorem w31_130 {x i : Int32} {a : Nat} : W (pj lw) 31 130 L (.int x :: .int i :: .ref a :: S) k n H Q ↔ (inAw H a .int i = true ∧ W (pj lw) 31 131 L S k n (wr H a i.toNatClampNeg (.int x)) Q) := W_iastore (rfl : (pj lw).1 31 130 = some (.iastore, 1, 0))
theorem w31_131 {x : Nat} : W (pj lw) 31 131 (.val (.ref x) :: L) S k n H Q ↔ W (pj lw) 31 132 (.val (.ref x) :: L) (.ref x :: S) k n H Q := W_s (rfl : (pj lw).1 31 131 = some (.aload_n 0, 1, 0)) rfl rfl rfl
theorem w31_132 {a : Nat} : W (pj lw) 31 132 L (.ref a :: S) k n H Q ↔ (isO H a = true ∧ W (pj lw) 31 135 L (fld H a 10 :: S) k n H Q) := W_getf (rfl : (pj lw).1 31 132 = some (.getfield 38, 3, 10))
theorem w31_135 {x : Int32} {l0 l1 l2 l3 l4 l5 l6 l7 : Slot} : W (pj lw) 31 135 (l0 :: l1 :: l2 :: l3 :: l4 :: l5 :: l6 :: l7 :: .val (.int x) :: L) S k n H Q ↔ W (pj lw) 31 137 (l0 :: l1 :: l2 :: l3 :: l4 :: l5 :: l6 :: l7 :: .val (.int x) :: L) (.int x :: S) k n H Q := W_s (rfl : (pj lw).1 31 135 = some (.iload 8, 2, 0)) rfl rfl rfl
theorem w31_137 {x : Int32} {l0 : Slot} : W (pj lw) 31 137 (l0 :: .val (.int x) :: L) S k n H Q ↔ W (pj lw) 31 138 (l0 :: .val (.int x) :: L) (.int x :: S) k n H Q := W_s (rfl : (pj lw).1 31 137 = some (.iload_n 1, 1, 0)) rfl rfl rfl
theorem w31_138 {x i : Int32} {a : Nat} : W (pj lw) 31 138 L (.int x :: .int i :: .ref a :: S) k n H Q ↔ (inAw H a .int i = true ∧ W (pj lw) 31 139 L S k n (wr H a i.toNatClampNeg (.int x)) Q) := W_iastore (rfl : (pj lw).1 31 138 = some (.iastore, 1, 0))
theorem w31_139 {x : Nat} : W (pj lw) 31 139 (.val (.ref x) :: L) S k n H Q ↔ W (pj lw) 31 140 (.val (.ref x) :: L) (.ref x :: S) k n H Q := W_s (rfl : (pj lw).1 31 139 = some (.aload_n 0, 1, 0)) rfl rfl rfl
theorem w31_140 {a : Nat} : W (pj lw) 31 140 L (.ref a :: S) k n H Q ↔ (isO H a = true ∧ W (pj lw) 31 143 L (fld H a 11 :: S) k n H Q) := W_getf (rfl : (pj lw).1 31 140 = some (.getfield 41, 3, 11))
theorem w31_143 {x : Int32} {l0 l1 l2 l3 : Slot} : W (pj lw) 31 143 (l0 :: l1 :: l2 :: l3 :: .val (.int x) :: L) S k n H Q ↔ W (pj lw) 31 145 (l0 :: l1 :: l2 :: l3 :: .val (.int x) :: L) (.int x :: S) k n H Q := W_s (rfl : (pj lw).1 31 143 = some (.iload 4, 2, 0)) rfl rfl rfl
theorem w31_145 {x : Int32} {l0 l1 l2 l3 l4 l5 l6 l7 : Slot} : W (pj lw) 31 145 (l0 :: l1 :: l2 :: l3 :: l4 :: l5 :: l6 :: l7 :: .val (.int x) :: L) S k n H Q ↔ W (pj lw) 31 147 (l0 :: l1 :: l2 :: l3 :: l4 :: l5 :: l6 :: l7 :: .val (.int x) :: L) (.int x :: S) k n H Q := W_s (rfl : (pj lw).1 31 145 = some (.iload 8, 2, 0)) rfl rfl rfl
theorem w31_147 {x i : Int32} {a : Nat} : W (pj lw) 31 147 L (.int x :: .int i :: .ref a :: S) k n H Q ↔ (inAw H a .int i = true ∧ W (pj lw) 31 148 L S k n (wr H a i.toNatClampNeg (.int x)) Q) := W_iastore (rfl : (pj lw).1 31 147 = some (.iastore, 1, 0))
theorem w31_148 {x : Int32} {l0 l1 l2 l3 : Slot} : W (pj lw) 31 148 (l0 :: l1 :: l2 :: l3 :: .val (.int x) :: L) S k n H Q ↔ W (pj lw) 31 151 (l0 :: l1 :: l2 :: l3 :: .val (.int (x + 1)) :: L) S k n H Q := W_s (rfl : (pj lw).1 31 148 = some (.iinc 4 1, 3, 0)) rfl rfl rfl
theorem w31_151 {x : Int32} {l0 l1 l2 l3 l4 l5 : Slot} : W (pj lw) 31 151 (l0 :: l1 :: l2 :: l3 :: l4 :: l5 :: .val (.int x) :: L) S k n H Q ↔ W (pj lw) 31 154 (l0 :: l1 :: l2 :: l3 :: l4 :: l5 :: .val (.int (x + 1)) :: L) S k n H Q := W_s (rfl : (pj lw).1 31 151 = some (.iinc 6 1, 3, 0)) rfl rfl rfl
theorem w31_154 : W (pj lw) 31 154 L S k n H Q ↔ W (pj lw) 31 25 L S k n H Q := W_goto (rfl : (pj lw).1 31 154 = some (.goto (-129), 3, 0)) rfl
theorem w31_157 {x : Int32} {l0 l1 l2 l3 : Slot} : W (pj lw) 31 157 (l0 :: l1 :: l2 :: l3 :: .val (.int x) :: L) S k n H Q ↔ W (pj lw) 31 159 (l0 :: l1 :: l2 :: l3 :: .val (.int x) :: L) (.int x :: S) k n H Q := W_s (rfl : (pj lw).1 31 157 = some (.iload 4, 2, 0)) rfl rfl rfl
theorem w31_159 {x : Int32} : W (pj lw) 31 159 L (.int x :: S) k n H Q ↔ Q (some (.int x)) H := W_r (rfl : (pj lw).1 31 159 = some (.ireturn, 1, 0)) rfl
theorem c39 {x0 : Nat} {x1 : Int32} : Cl (pj lw) 39 [.ref x0, .int x1] H Q ↔ W (pj lw) 39 0 [.val (.ref x0), .val (.int x1)] [] 0 0 H Q := cl_unf rfl
theorem w39_0 {x : Int32} {l0 : Slot} : W (pj lw) 39 0 (l0 :: .val (.int x) :: L) S k n H Q ↔ W (pj lw) 39 1 (l0 :: .val (.int x) :: L) (.int x :: S) k n H Q := W_s (rfl : (pj lw).1 39 0 = some (.iload_n 1, 1, 0)) rfl rfl rfl
theorem w39_1 {x : Int32} : W (pj lw) 39 1 L (.int x :: S) k n H Q ↔ (if x < 0 then W (pj lw) 39 22 L S k n H Q else W (pj lw) 39 4 L S k n H Q) := W_if_lt (rfl : (pj lw).1 39 1 = some (.ifCond .lt 21, 3, 0)) rfl
theorem w39_4 {x : Int32} {l0 : Slot} : W (pj lw) 39 4 (l0 :: .val (.int x) :: L) S k n H Q ↔ W (pj lw) 39 5 (l0 :: .val (.int x) :: L) (.int x :: S) k n H Q := W_s (rfl : (pj lw).1 39 4 = some (.iload_n 1, 1, 0)) rfl rfl rfl
theorem w39_5 {x : Nat} : W (pj lw) 39 5 (.val (.ref x) :: L) S k n H Q ↔ W (pj lw) 39 6 (.val (.ref x) :: L) (.ref x :: S) k n H Q := W_s (rfl : (pj lw).1 39 5 = some (.aload_n 0, 1, 0)) rfl rfl rfl
theorem w39_6 {a : Nat} : W (pj lw) 39 6 L (.ref a :: S) k n H Q ↔ (isO H a = true ∧ W (pj lw) 39 9 L (fld H a 0 :: S) k n H Q) := W_getf (rfl : (pj lw).1 39 6 = some (.getfield 44, 3, 0))
theorem w39_9 {x y : Int32} : W (pj lw) 39 9 L (.int y :: .int x :: S) k n H Q ↔ (if x < y then W (pj lw) 39 12 L S k n H Q else W (pj lw) 39 22 L S k n H Q) := W_icmp_ge (rfl : (pj lw).1 39 9 = some (.if_icmp .ge 13, 3, 0)) rfl
theorem w39_12 {x : Int32} {l0 : Slot} : W (pj lw) 39 12 (l0 :: .val (.int x) :: L) S k n H Q ↔ W (pj lw) 39 13 (l0 :: .val (.int x) :: L) (.int x :: S) k n H Q := W_s (rfl : (pj lw).1 39 12 = some (.iload_n 1, 1, 0)) rfl rfl rfl
theorem w39_13 : W (pj lw) 39 13 L S k n H Q ↔ W (pj lw) 39 15 L (.int 32 :: S) k n H Q := W_s (rfl : (pj lw).1 39 13 = some (.bipush 32, 2, 0)) rfl rfl rfl
theorem w39_15 {x y : Int32} : W (pj lw) 39 15 L (.int y :: .int x :: S) k n H Q ↔ (if x < y then W (pj lw) 39 18 L S k n H Q else W (pj lw) 39 22 L S k n H Q) := W_icmp_ge (rfl : (pj lw).1 39 15 = some (.if_icmp .ge 7, 3, 0)) rfl
theorem w39_18 : W (pj lw) 39 18 L S k n H Q ↔ W (pj lw) 39 19 L (.int 1 :: S) k n H Q := W_s (rfl : (pj lw).1 39 18 = some (.iconst 1, 1, 0)) rfl rfl rfl
theorem w39_19 : W (pj lw) 39 19 L S k n H Q ↔ W (pj lw) 39 23 L S k n H Q := W_goto (rfl : (pj lw).1 39 19 = some (.goto 4, 3, 0)) rfl
theorem w39_22 : W (pj lw) 39 22 L S k n H Q ↔ W (pj lw) 39 23 L (.int 0 :: S) k n H Q := W_s (rfl : (pj lw).1 39 22 = some (.iconst 0, 1, 0)) rfl rfl rfl
theorem w39_23 {x : Int32} : W (pj lw) 39 23 L (.int x :: S) k n H Q ↔ ((x = 0 ∨ x = 1) ∧ Q (some (.int x)) H) := W_rz (rfl : (pj lw).1 39 23 = some (.ireturn, 1, 0)) rfl
theorem c40 {x0 : Nat} {x1 : Int32} : Cl (pj lw) 40 [.ref x0, .int x1] H Q ↔ W (pj lw) 40 0 [.val (.ref x0), .val (.int x1)] [] 0 0 H Q := cl_unf rfl
theorem w40_0 {x : Int32} {l0 : Slot} : W (pj lw) 40 0 (l0 :: .val (.int x) :: L) S k n H Q ↔ W (pj lw) 40 1 (l0 :: .val (.int x) :: L) (.int x :: S) k n H Q := W_s (rfl : (pj lw).1 40 0 = some (.iload_n 1, 1, 0)) rfl rfl rfl
theorem w40_1 {x : Int32} : W (pj lw) 40 1 L (.int x :: S) k n H Q ↔ (if x < 0 then W (pj lw) 40 15 L S k n H Q else W (pj lw) 40 4 L S k n H Q) := W_if_lt (rfl : (pj lw).1 40 1 = some (.ifCond .lt 14, 3, 0)) rfl
theorem w40_4 {x : Int32} {l0 : Slot} : W (pj lw) 40 4 (l0 :: .val (.int x) :: L) S k n H Q ↔ W (pj lw) 40 5 (l0 :: .val (.int x) :: L) (.int x :: S) k n H Q := W_s (rfl : (pj lw).1 40 4 = some (.iload_n 1, 1, 0)) rfl rfl rfl
theorem w40_5 : W (pj lw) 40 5 L S k n H Q ↔ W (pj lw) 40 8 L (.int 128 :: S) k n H Q := W_s (rfl : (pj lw).1 40 5 = some (.sipush 128, 3, 0)) rfl rfl rfl
theorem w40_8 {x y : Int32} : W (pj lw) 40 8 L (.int y :: .int x :: S) k n H Q ↔ (if x < y then W (pj lw) 40 11 L S k n H Q else W (pj lw) 40 15 L S k n H Q) := W_icmp_ge (rfl : (pj lw).1 40 8 = some (.if_icmp .ge 7, 3, 0)) rfl
theorem w40_11 : W (pj lw) 40 11 L S k n H Q ↔ W (pj lw) 40 12 L (.int 1 :: S) k n H Q := W_s (rfl : (pj lw).1 40 11 = some (.iconst 1, 1, 0)) rfl rfl rfl
theorem w40_12 : W (pj lw) 40 12 L S k n H Q ↔ W (pj lw) 40 16 L S k n H Q := W_goto (rfl : (pj lw).1 40 12 = some (.goto 4, 3, 0)) rfl
theorem w40_15 : W (pj lw) 40 15 L S k n H Q ↔ W (pj lw) 40 16 L (.int 0 :: S) k n H Q := W_s (rfl : (pj lw).1 40 15 = some (.iconst 0, 1, 0)) rfl rfl rfl
theorem w40_16 {x : Int32} : W (pj lw) 40 16 L (.int x :: S) k n H Q ↔ ((x = 0 ∨ x = 1) ∧ Q (some (.int x)) H) := W_rz (rfl : (pj lw).1 40 16 = some (.ireturn, 1, 0)) rfl
theorem c41 {x0 : Nat} {x1 : Int32} : Cl (pj lw) 41 [.ref x0, .int x1] H Q ↔ W (pj lw) 41 0 [.val (.ref x0), .val (.int x1)] [] 0 0 H Q := cl_unf rfl
theorem w41_0 {x : Int32} {l0 : Slot} : W (pj lw) 41 0 (l0 :: .val (.int x) :: L) S k n H Q ↔ W (pj lw) 41 1 (l0 :: .val (.int x) :: L) (.int x :: S) k n H Q := W_s (rfl : (pj lw).1 41 0 = some (.iload_n 1, 1, 0)) rfl rfl rfl
theorem w41_1 : W (pj lw) 41 1 L S k n H Q ↔ W (pj lw) 41 3 L (.int (-1000000) :: S) k n H Q := W_s (rfl : (pj lw).1 41 1 = some (.ldc 151, 2, (-1000000))) rfl rfl rfl
theorem w41_3 {x y : Int32} : W (pj lw) 41 3 L (.int y :: .int x :: S) k n H Q ↔ (if x < y then W (pj lw) 41 6 L S k n H Q else W (pj lw) 41 9 L S k n H Q) := W_icmp_ge (rfl : (pj lw).1 41 3 = some (.if_icmp .ge 6, 3, 0)) rfl
theorem w41_6 : W (pj lw) 41 6 L S k n H Q ↔ W (pj lw) 41 8 L (.int (-1000000) :: S) k n H Q := W_s (rfl : (pj lw).1 41 6 = some (.ldc 151, 2, (-1000000))) rfl rfl rfl
theorem w41_8 {x : Int32} : W (pj lw) 41 8 L (.int x :: S) k n H Q ↔ Q (some (.int x)) H := W_r (rfl : (pj lw).1 41 8 = some (.ireturn, 1, 0)) rfl
theorem w41_9 {x : Int32} {l0 : Slot} : W (pj lw) 41 9 (l0 :: .val (.int x) :: L) S k n H Q ↔ W (pj lw) 41 10 (l0 :: .val (.int x) :: L) (.int x :: S) k n H Q := W_s (rfl : (pj lw).1 41 9 = some (.iload_n 1, 1, 0)) rfl rfl rfl
theorem w41_10 : W (pj lw) 41 10 L S k n H Q ↔ W (pj lw) 41 12 L (.int 1000000 :: S) k n H Q := W_s (rfl : (pj lw).1 41 10 = some (.ldc 152, 2, 1000000)) rfl rfl rfl
theorem w41_12 {x y : Int32} : W (pj lw) 41 12 L (.int y :: .int x :: S) k n H Q ↔ (if y < x then W (pj lw) 41 15 L S k n H Q else W (pj lw) 41 18 L S k n H Q) := W_icmp_le (rfl : (pj lw).1 41 12 = some (.if_icmp .le 6, 3, 0)) rfl
theorem w41_15 : W (pj lw) 41 15 L S k n H Q ↔ W (pj lw) 41 17 L (.int 1000000 :: S) k n H Q := W_s (rfl : (pj lw).1 41 15 = some (.ldc 152, 2, 1000000)) rfl rfl rfl
theorem w41_17 {x : Int32} : W (pj lw) 41 17 L (.int x :: S) k n H Q ↔ Q (some (.int x)) H := W_r (rfl : (pj lw).1 41 17 = some (.ireturn, 1, 0)) rfl
theorem w41_18 {x : Int32} {l0 : Slot} : W (pj lw) 41 18 (l0 :: .val (.int x) :: L) S k n H Q ↔ W (pj lw) 41 19 (l0 :: .val (.int x) :: L) (.int x :: S) k n H Q := W_s (rfl : (pj lw).1 41 18 = some (.iload_n 1, 1, 0)) rfl rfl rfl
theorem w41_19 {x : Int32} : W (pj lw) 41 19 L (.int x :: S) k n H Q ↔ Q (some (.int x)) H := W_r (rfl : (pj lw).1 41 19 = some (.ireturn, 1, 0)) rfl
end Pc
section A
variable {lw : LW} {H : AH} {p j : Nat} {s : St} {Q : Option Value → AH → Prop} {a b c d : Int32} {h : Nat → Cel} {k n : Nat}
def F2 (s : St) (lo : Nat) : St := fA (fA (fA (fA s 8 lo 32 0) 9 lo 32 (-1)) 10 lo 32 (-1)) 11 lo 32 0
theorem F2_nil {lo : Nat} (h : 32 ≤ lo) : F2 s lo = s := by simp only [F2, fA_nil h]
theorem F2_step {lo : Nat} (h : lo < 32) : F2 (uA (uA (uA (uA s 8 lo 0) 9 lo (-1)) 10 lo (-1)) 11 lo 0) (lo + 1) = F2 s lo := by
  refine St_ext (fun k => by simp only [F2, sI_fA, sI_uA]) (fun k => by simp only [F2, sJ_fA, sJ_uA]) (fun t' i => ?_) (fun t' i => by simp only [F2, sB_fA, sB_uA])
  simp only [F2, sA_fA, sA_uA]
  by_cases hi : i = lo
  · subst hi
    have h1 : ¬ (i + 1 ≤ i) := by omega
    simp only [h1, h, Nat.le_refl, and_true, and_false, true_and, false_and, if_false]
  · have h1 : (lo + 1 ≤ i) = (lo ≤ i) := propext ⟨fun _ => by omega, fun _ => by omega⟩
    simp only [hi, h1, and_false, if_false]
theorem l29 (m : Nat) : ∀ (i : Int32) (s : St), i.toInt = 32 - m → m ≤ 32 → (W (pj lw) 29 2 [.val (.ref p), .val (.int i)] [] k n (ob H p s) Q ↔ Q none (ob H p (F2 s i.toNatClampNeg))) := by
  induction m with
  | zero =>
    intro i s hi _
    have h1 : ¬ i < 32 := by rw [lt32]; simp only [Int32.reduceToInt]; omega
    rw [w29_2]; simp +decide only [w29_0, w29_1, w29_3, w29_5, w29_8, w29_9, w29_12, w29_13, w29_14, w29_15, w29_16, w29_19, w29_20, w29_21, w29_22, w29_23, w29_26, w29_27, w29_28, w29_29, w29_30, w29_33, w29_34, w29_35, w29_36, w29_39, w29_42, zr_z0, zr_uI, zr_uJ, isO_put, isOw_put, put_fst, okv_int, okv_long, okv_ref, okv_bool, okv_byte, cat1_unset, cat1_int, cat1_ref, cs_nil, cs_int, cs_ref, cs_long, cmpL_lt, cmpL_gt, cmpL_eq, sI_uI, sI_uJ, sI_uA, sI_uB, sJ_uI, sJ_uJ, sJ_uA, sJ_uB, sA_uI, sA_uJ, sA_uA, sA_uB, sB_uI, sB_uJ, sB_uA, sB_uB, sI_fA, sJ_fA, sA_fA, sB_fA, sI_z0, sJ_z0, sA_z0, sB_z0, Option.toList_some, Option.toList_none, List.cons_append, List.nil_append, true_and, and_true, false_and, and_false, or_false, false_or, or_true, true_or, not_true_eq_false, not_false_eq_true, ↓reduceIte, Nat.reduceAdd, Nat.reduceLeDiff, Nat.reduceEqDiff, Nat.reduceSub, Int32.reduceAdd, Int32.reduceSub, Int32.reduceMul, Int32.reduceToNatClampNeg, Int64.reduceAdd, Int64.reduceSub, Int64.reduceMul, Int64.reduceLT, Int32.reduceLT, Int32.reduceToInt, Nat.add_zero, Nat.zero_add, Nat.le_refl, eq_self, implies_true, ne_eq, h1]
    rw [F2_nil (by rw [cln]; omega)]
  | succ m ih =>
    intro i s hi hm
    have h1 : i < 32 := by rw [lt32]; simp only [Int32.reduceToInt]; omega
    have h2 : (i + 1).toInt = i.toInt + 1 := ia (by simp only [Int32.reduceToInt]; omega) (by simp only [Int32.reduceToInt]; omega)
    have h3 : 0 ≤ i.toInt ∧ i.toInt < 32 := by omega
    rw [w29_2]; simp +decide only [w29_0, w29_1, w29_3, w29_5, w29_8, w29_9, w29_12, w29_13, w29_14, w29_15, w29_16, w29_19, w29_20, w29_21, w29_22, w29_23, w29_26, w29_27, w29_28, w29_29, w29_30, w29_33, w29_34, w29_35, w29_36, w29_39, w29_42, zr_z0, zr_uI, zr_uJ, isO_put, isOw_put, put_fst, okv_int, okv_long, okv_ref, okv_bool, okv_byte, cat1_unset, cat1_int, cat1_ref, cs_nil, cs_int, cs_ref, cs_long, cmpL_lt, cmpL_gt, cmpL_eq, sI_uI, sI_uJ, sI_uA, sI_uB, sJ_uI, sJ_uJ, sJ_uA, sJ_uB, sA_uI, sA_uJ, sA_uA, sA_uB, sB_uI, sB_uJ, sB_uA, sB_uB, sI_fA, sJ_fA, sA_fA, sB_fA, sI_z0, sJ_z0, sA_z0, sB_z0, Option.toList_some, Option.toList_none, List.cons_append, List.nil_append, true_and, and_true, false_and, and_false, or_false, false_or, or_true, true_or, not_true_eq_false, not_false_eq_true, ↓reduceIte, Nat.reduceAdd, Nat.reduceLeDiff, Nat.reduceEqDiff, Nat.reduceSub, Int32.reduceAdd, Int32.reduceSub, Int32.reduceMul, Int32.reduceToNatClampNeg, Int64.reduceAdd, Int64.reduceSub, Int64.reduceMul, Int64.reduceLT, Int32.reduceLT, Int32.reduceToInt, Nat.add_zero, Nat.zero_add, Nat.le_refl, eq_self, implies_true, ne_eq, g0, s0, g1, g2, g3, g4, g5, g6, g7, g8, g9, g10, g11, g12, s12, g13, s13, g14, s14, g15, s15, g16, s16, ai1, aw1, ae1, as1, ai2, aw2, ae2, as2, ai3, aw3, ae3, as3, ai4, aw4, ain4, awn4, ae4, as4, ai5, aw5, ain5, awn5, ae5, as5, ai6, aw6, ae6, as6, ai7, aw7, ae7, as7, ai8, aw8, ain8, awn8, ae8, as8, ai9, aw9, ae9, as9, ai10, aw10, ae10, as10, ai11, aw11, ae11, as11, h1, h3]
    rw [ih (i + 1) _ (by omega) (by omega)]
    have h4 : (i + 1).toNatClampNeg = i.toNatClampNeg + 1 := by rw [cln, cln]; omega
    rw [h4, F2_step (by rw [cln]; omega)]
theorem t29 : Cl (pj lw) 29 [.ref p] (ob H p s) Q ↔ Q none (ob H p (F2 s 0)) := by
  rw [c29]; simp +decide only [w29_0, w29_1, w29_3, w29_5, w29_8, w29_9, w29_12, w29_13, w29_14, w29_15, w29_16, w29_19, w29_20, w29_21, w29_22, w29_23, w29_26, w29_27, w29_28, w29_29, w29_30, w29_33, w29_34, w29_35, w29_36, w29_39, w29_42, zr_z0, zr_uI, zr_uJ, isO_put, isOw_put, put_fst, okv_int, okv_long, okv_ref, okv_bool, okv_byte, cat1_unset, cat1_int, cat1_ref, cs_nil, cs_int, cs_ref, cs_long, cmpL_lt, cmpL_gt, cmpL_eq, sI_uI, sI_uJ, sI_uA, sI_uB, sJ_uI, sJ_uJ, sJ_uA, sJ_uB, sA_uI, sA_uJ, sA_uA, sA_uB, sB_uI, sB_uJ, sB_uA, sB_uB, sI_fA, sJ_fA, sA_fA, sB_fA, sI_z0, sJ_z0, sA_z0, sB_z0, Option.toList_some, Option.toList_none, List.cons_append, List.nil_append, true_and, and_true, false_and, and_false, or_false, false_or, or_true, true_or, not_true_eq_false, not_false_eq_true, ↓reduceIte, Nat.reduceAdd, Nat.reduceLeDiff, Nat.reduceEqDiff, Nat.reduceSub, Int32.reduceAdd, Int32.reduceSub, Int32.reduceMul, Int32.reduceToNatClampNeg, Int64.reduceAdd, Int64.reduceSub, Int64.reduceMul, Int64.reduceLT, Int32.reduceLT, Int32.reduceToInt, Nat.add_zero, Nat.zero_add, Nat.le_refl, eq_self, implies_true, ne_eq]
  rw [l29 32 0 _ (by decide) (by decide)]; simp only [Int32.reduceToNatClampNeg]
theorem l1 (m : Nat) : ∀ (i : Int32) (s : St), i.toInt = 32 - m → m ≤ 32 → (W (pj lw) 1 148 [.val (.ref p), .val (.int a), .val (.int b), .val (.int i)] [] k n (ob H p s) Q ↔ W (pj lw) 1 167 [.val (.ref p), .val (.int a), .val (.int b), .val (.int 32)] [] k n (ob H p (fA s 7 i.toNatClampNeg 32 0)) Q) := by
  induction m with
  | zero =>
    intro i s hi _
    have h1 : ¬ i < 32 := by rw [lt32]; simp only [Int32.reduceToInt]; omega
    have h0 : i = 32 := by rw [eq32]; simp only [Int32.reduceToInt]; omega
    rw [w1_148]; simp +decide only [w1_149, w1_151, w1_154, w1_155, w1_158, w1_159, w1_160, w1_161, w1_164, zr_z0, zr_uI, zr_uJ, isO_put, isOw_put, put_fst, okv_int, okv_long, okv_ref, okv_bool, okv_byte, cat1_unset, cat1_int, cat1_ref, cs_nil, cs_int, cs_ref, cs_long, cmpL_lt, cmpL_gt, cmpL_eq, sI_uI, sI_uJ, sI_uA, sI_uB, sJ_uI, sJ_uJ, sJ_uA, sJ_uB, sA_uI, sA_uJ, sA_uA, sA_uB, sB_uI, sB_uJ, sB_uA, sB_uB, sI_fA, sJ_fA, sA_fA, sB_fA, sI_z0, sJ_z0, sA_z0, sB_z0, Option.toList_some, Option.toList_none, List.cons_append, List.nil_append, true_and, and_true, false_and, and_false, or_false, false_or, or_true, true_or, not_true_eq_false, not_false_eq_true, ↓reduceIte, Nat.reduceAdd, Nat.reduceLeDiff, Nat.reduceEqDiff, Nat.reduceSub, Int32.reduceAdd, Int32.reduceSub, Int32.reduceMul, Int32.reduceToNatClampNeg, Int64.reduceAdd, Int64.reduceSub, Int64.reduceMul, Int64.reduceLT, Int32.reduceLT, Int32.reduceToInt, Nat.add_zero, Nat.zero_add, Nat.le_refl, eq_self, implies_true, ne_eq, h1]
    rw [fA_nil (by rw [cln]; omega), h0]
  | succ m ih =>
    intro i s hi hm
    have h1 : i < 32 := by rw [lt32]; simp only [Int32.reduceToInt]; omega
    have h2 : (i + 1).toInt = i.toInt + 1 := ia (by simp only [Int32.reduceToInt]; omega) (by simp only [Int32.reduceToInt]; omega)
    have h3 : 0 ≤ i.toInt ∧ i.toInt < 32 := by omega
    rw [w1_148]; simp +decide only [w1_149, w1_151, w1_154, w1_155, w1_158, w1_159, w1_160, w1_161, w1_164, zr_z0, zr_uI, zr_uJ, isO_put, isOw_put, put_fst, okv_int, okv_long, okv_ref, okv_bool, okv_byte, cat1_unset, cat1_int, cat1_ref, cs_nil, cs_int, cs_ref, cs_long, cmpL_lt, cmpL_gt, cmpL_eq, sI_uI, sI_uJ, sI_uA, sI_uB, sJ_uI, sJ_uJ, sJ_uA, sJ_uB, sA_uI, sA_uJ, sA_uA, sA_uB, sB_uI, sB_uJ, sB_uA, sB_uB, sI_fA, sJ_fA, sA_fA, sB_fA, sI_z0, sJ_z0, sA_z0, sB_z0, Option.toList_some, Option.toList_none, List.cons_append, List.nil_append, true_and, and_true, false_and, and_false, or_false, false_or, or_true, true_or, not_true_eq_false, not_false_eq_true, ↓reduceIte, Nat.reduceAdd, Nat.reduceLeDiff, Nat.reduceEqDiff, Nat.reduceSub, Int32.reduceAdd, Int32.reduceSub, Int32.reduceMul, Int32.reduceToNatClampNeg, Int64.reduceAdd, Int64.reduceSub, Int64.reduceMul, Int64.reduceLT, Int32.reduceLT, Int32.reduceToInt, Nat.add_zero, Nat.zero_add, Nat.le_refl, eq_self, implies_true, ne_eq, g0, s0, g1, g2, g3, g4, g5, g6, g7, g8, g9, g10, g11, g12, s12, g13, s13, g14, s14, g15, s15, g16, s16, ai1, aw1, ae1, as1, ai2, aw2, ae2, as2, ai3, aw3, ae3, as3, ai4, aw4, ain4, awn4, ae4, as4, ai5, aw5, ain5, awn5, ae5, as5, ai6, aw6, ae6, as6, ai7, aw7, ae7, as7, ai8, aw8, ain8, awn8, ae8, as8, ai9, aw9, ae9, as9, ai10, aw10, ae10, as10, ai11, aw11, ae11, as11, h1, h3]
    rw [ih (i + 1) _ (by omega) (by omega)]
    have h4 : (i + 1).toNatClampNeg = i.toNatClampNeg + 1 := by rw [cln, cln]; omega
    rw [h4, fA_step (by rw [cln]; omega)]
def ini0 (a : Int32) : St := F2 (fA (uI (uI (uJ (uI (uI (uI z0 0 (cl 2 32 a)) 12 0) 13 0) 14 0) 15 (-1)) 16 (-1)) 7 0 32 0) 0
set_option maxRecDepth 100000 in
theorem t1 : Cl (pj lw) 1 [.ref p, .int a] (put lay 0 (p + 1, h) p z0) Q ↔ Q none (ob (p + 12, h) p (ini0 a)) := by
  rw [c1]
  rcases cl3 (lo := 2) (hi := 32) a (by decide) with ⟨h1, h2⟩ | ⟨h1, h2⟩ | ⟨h1, h2⟩ <;>
  · simp +decide only [w1_0, w1_1, w1_4, w1_5, w1_8, w1_10, w1_13, w1_14, w1_17, w1_19, w1_22, w1_23, w1_26, w1_28, w1_31, w1_32, w1_35, w1_37, w1_40, w1_41, w1_44, w1_46, w1_49, w1_50, w1_53, w1_55, w1_58, w1_59, w1_61, w1_63, w1_66, w1_67, w1_69, w1_71, w1_74, w1_75, w1_77, w1_79, w1_82, w1_83, w1_85, w1_87, w1_90, w1_91, w1_93, w1_95, w1_98, w1_99, w1_100, w1_101, w1_102, w1_105, w1_106i, w1_107, w1_108, w1_110, w1_113, w1_115i, w1_116, w1_117, w1_118, w1_121, w1_122, w1_123, w1_126, w1_127, w1_128, w1_131, w1_132, w1_133, w1_136, w1_137, w1_138, w1_141, w1_142, w1_143, w1_146, w1_147, w1_149, w1_151, w1_154, w1_155, w1_158, w1_159, w1_160, w1_161, w1_164, w1_167, w1_168, w1_171, zr_z0, zr_uI, zr_uJ, isO_put, isOw_put, put_fst, okv_int, okv_long, okv_ref, okv_bool, okv_byte, cat1_unset, cat1_int, cat1_ref, cs_nil, cs_int, cs_ref, cs_long, cmpL_lt, cmpL_gt, cmpL_eq, sI_uI, sI_uJ, sI_uA, sI_uB, sJ_uI, sJ_uJ, sJ_uA, sJ_uB, sA_uI, sA_uJ, sA_uA, sA_uB, sB_uI, sB_uJ, sB_uA, sB_uB, sI_fA, sJ_fA, sA_fA, sB_fA, sI_z0, sJ_z0, sA_z0, sB_z0, Option.toList_some, Option.toList_none, List.cons_append, List.nil_append, true_and, and_true, false_and, and_false, or_false, false_or, or_true, true_or, not_true_eq_false, not_false_eq_true, ↓reduceIte, Nat.reduceAdd, Nat.reduceLeDiff, Nat.reduceEqDiff, Nat.reduceSub, Int32.reduceAdd, Int32.reduceSub, Int32.reduceMul, Int32.reduceToNatClampNeg, Int64.reduceAdd, Int64.reduceSub, Int64.reduceMul, Int64.reduceLT, Int32.reduceLT, Int32.reduceToInt, Nat.add_zero, Nat.zero_add, Nat.le_refl, eq_self, implies_true, ne_eq, g0, s0, g1, g2, g3, g4, g5, g6, g7, g8, g9, g10, g11, g12, s12, g13, s13, g14, s14, g15, s15, g16, s16, ai1, aw1, ae1, as1, ai2, aw2, ae2, as2, ai3, aw3, ae3, as3, ai4, aw4, ain4, awn4, ae4, as4, ai5, aw5, ain5, awn5, ae5, as5, ai6, aw6, ae6, as6, ai7, aw7, ae7, as7, ai8, aw8, ain8, awn8, ae8, as8, ai9, aw9, ae9, as9, ai10, aw10, ae10, as10, ai11, aw11, ae11, as11, mk1, io1, mk2, io2, mk3, io3, mk4, io4, mk5, io5, mk6, io6, mk7, io7, mk8, io8, mk9, io9, mk10, io10, mk11, io11, h1, h2]
    rw [l1 32 0 _ (by decide) (by decide)]
    simp +decide only [w1_0, w1_1, w1_4, w1_5, w1_8, w1_10, w1_13, w1_14, w1_17, w1_19, w1_22, w1_23, w1_26, w1_28, w1_31, w1_32, w1_35, w1_37, w1_40, w1_41, w1_44, w1_46, w1_49, w1_50, w1_53, w1_55, w1_58, w1_59, w1_61, w1_63, w1_66, w1_67, w1_69, w1_71, w1_74, w1_75, w1_77, w1_79, w1_82, w1_83, w1_85, w1_87, w1_90, w1_91, w1_93, w1_95, w1_98, w1_99, w1_100, w1_101, w1_102, w1_105, w1_106i, w1_107, w1_108, w1_110, w1_113, w1_115i, w1_116, w1_117, w1_118, w1_121, w1_122, w1_123, w1_126, w1_127, w1_128, w1_131, w1_132, w1_133, w1_136, w1_137, w1_138, w1_141, w1_142, w1_143, w1_146, w1_147, w1_149, w1_151, w1_154, w1_155, w1_158, w1_159, w1_160, w1_161, w1_164, w1_167, w1_168, w1_171, zr_z0, zr_uI, zr_uJ, isO_put, isOw_put, put_fst, okv_int, okv_long, okv_ref, okv_bool, okv_byte, cat1_unset, cat1_int, cat1_ref, cs_nil, cs_int, cs_ref, cs_long, cmpL_lt, cmpL_gt, cmpL_eq, sI_uI, sI_uJ, sI_uA, sI_uB, sJ_uI, sJ_uJ, sJ_uA, sJ_uB, sA_uI, sA_uJ, sA_uA, sA_uB, sB_uI, sB_uJ, sB_uA, sB_uB, sI_fA, sJ_fA, sA_fA, sB_fA, sI_z0, sJ_z0, sA_z0, sB_z0, Option.toList_some, Option.toList_none, List.cons_append, List.nil_append, true_and, and_true, false_and, and_false, or_false, false_or, or_true, true_or, not_true_eq_false, not_false_eq_true, ↓reduceIte, Nat.reduceAdd, Nat.reduceLeDiff, Nat.reduceEqDiff, Nat.reduceSub, Int32.reduceAdd, Int32.reduceSub, Int32.reduceMul, Int32.reduceToNatClampNeg, Int64.reduceAdd, Int64.reduceSub, Int64.reduceMul, Int64.reduceLT, Int32.reduceLT, Int32.reduceToInt, Nat.add_zero, Nat.zero_add, Nat.le_refl, eq_self, implies_true, ne_eq, g0, s0, g1, g2, g3, g4, g5, g6, g7, g8, g9, g10, g11, g12, s12, g13, s13, g14, s14, g15, s15, g16, s16, ai1, aw1, ae1, as1, ai2, aw2, ae2, as2, ai3, aw3, ae3, as3, ai4, aw4, ain4, awn4, ae4, as4, ai5, aw5, ain5, awn5, ae5, as5, ai6, aw6, ae6, as6, ai7, aw7, ae7, as7, ai8, aw8, ain8, awn8, ae8, as8, ai9, aw9, ae9, as9, ai10, aw10, ae10, as10, ai11, aw11, ae11, as11, t29, ini0, cl, h1, h2]
theorem t41 : Cl (pj lw) 41 [.ref p, .int a] H Q ↔ Q (some (.int (cl (-1000000) 1000000 a))) H := by
  rw [c41]
  rcases cl3 (lo := -1000000) (hi := 1000000) a (by decide) with ⟨h1, h2⟩ | ⟨h1, h2⟩ | ⟨h1, h2⟩ <;> simp +decide only [w41_0, w41_1, w41_3, w41_6, w41_8, w41_9, w41_10, w41_12, w41_15, w41_17, w41_18, w41_19, zr_z0, zr_uI, zr_uJ, isO_put, isOw_put, put_fst, okv_int, okv_long, okv_ref, okv_bool, okv_byte, cat1_unset, cat1_int, cat1_ref, cs_nil, cs_int, cs_ref, cs_long, cmpL_lt, cmpL_gt, cmpL_eq, sI_uI, sI_uJ, sI_uA, sI_uB, sJ_uI, sJ_uJ, sJ_uA, sJ_uB, sA_uI, sA_uJ, sA_uA, sA_uB, sB_uI, sB_uJ, sB_uA, sB_uB, sI_fA, sJ_fA, sA_fA, sB_fA, sI_z0, sJ_z0, sA_z0, sB_z0, Option.toList_some, Option.toList_none, List.cons_append, List.nil_append, true_and, and_true, false_and, and_false, or_false, false_or, or_true, true_or, not_true_eq_false, not_false_eq_true, ↓reduceIte, Nat.reduceAdd, Nat.reduceLeDiff, Nat.reduceEqDiff, Nat.reduceSub, Int32.reduceAdd, Int32.reduceSub, Int32.reduceMul, Int32.reduceToNatClampNeg, Int64.reduceAdd, Int64.reduceSub, Int64.reduceMul, Int64.reduceLT, Int32.reduceLT, Int32.reduceToInt, Nat.add_zero, Nat.zero_add, Nat.le_refl, eq_self, implies_true, ne_eq, h1, h2, cl]
end A

end Jvm.JX.Pj
namespace Jvm.JX.Lw
open Jvm Jvm.ClassFile Sem Op Lib Jvm.JX Jvm.JX.Pj
def lr0 : List Row := [(0, .new 7, 3, 17), (3, .dup, 1, 0), (4, .iload_n 0, 1, 0), (5, .invokespecial 9, 3, 1), (8, .astore 4, 2, 0), (10, .iconst (-1), 1, 0), (11, .istore 5, 2, 0), (13, .iconst 2, 1, 0), (14, .istore 6, 2, 0), (16, .bipush 32, 2, 0), (18, .istore 7, 2, 0), (20, .iload_n 0, 1, 0), (21, .iload 6, 2, 0), (23, .if_icmp .ge 8, 3, 0), (26, .iload 6, 2, 0), (28, .goto 15, 3, 0), (31, .iload_n 0, 1, 0), (32, .iload 7, 2, 0), (34, .if_icmp .le 8, 3, 0), (37, .iload 7, 2, 0), (39, .goto 4, 3, 0), (42, .iload_n 0, 1, 0), (43, .istore 8, 2, 0), (45, .ldc 12, 2, (-1000000)), (47, .istore 9, 2, 0), (49, .ldc 13, 2, 1000000), (51, .istore 10, 2, 0), (53, .iload_n 3, 1, 0), (54, .iload 9, 2, 0), (56, .if_icmp .ge 8, 3, 0), (59, .iload 9, 2, 0), (61, .goto 15, 3, 0), (64, .iload_n 3, 1, 0), (65, .iload 10, 2, 0), (67, .if_icmp .le 8, 3, 0), (70, .iload 10, 2, 0), (72, .goto 4, 3, 0), (75, .iload_n 3, 1, 0), (76, .istore 11, 2, 0), (78, .iload_n 1, 1, 0), (79, .ifCond .lt 19, 3, 0), (82, .iload_n 1, 1, 0), (83, .iload 8, 2, 0), (85, .if_icmp .ge 13, 3, 0), (88, .iload_n 2, 1, 0), (89, .ifCond .lt 9, 3, 0), (92, .iload_n 2, 1, 0), (93, .iload 8, 2, 0), (95, .if_icmp .lt 7, 3, 0), (98, .iconst 1, 1, 0), (99, .goto 4, 3, 0), (102, .iconst 0, 1, 0), (103, .istore 12, 2, 0), (105, .iload 12, 2, 0), (107, .ifCond .eq 8, 3, 0), (110, .bipush (-2), 2, 0), (112, .goto 14, 3, 0), (115, .iload_n 1, 1, 0), (116, .iload_n 2, 1, 0), (117, .if_icmp .ne 8, 3, 0), (120, .bipush (-3), 2, 0), (122, .goto 4, 3, 0), (125, .iconst 0, 1, 0), (126, .istore 13, 2, 0), (128, .iload 13, 2, 0), (130, .ifCond .ne 7, 3, 0), (133, .iconst 1, 1, 0), (134, .goto 4, 3, 0), (137, .iconst 0, 1, 0), (138, .istore 14, 2, 0), (140, .aload 4, 2, 0), (142, .iload_n 1, 1, 0), (143, .iload_n 2, 1, 0), (144, .iload_n 3, 1, 0), (145, .invokevirtual 14, 3, 2), (148, .istore 15, 2, 0), (150, .iload 15, 2, 0), (152, .iload 13, 2, 0), (154, .if_icmp .eq 5, 3, 0), (157, .iconst 0, 1, 0), (158, .ireturn, 1, 0), (159, .aload 4, 2, 0), (161, .invokevirtual 18, 3, 9), (164, .iload 14, 2, 0), (166, .ifCond .eq 7, 3, 0), (169, .iconst 1, 1, 0), (170, .goto 4, 3, 0), (173, .iconst 0, 1, 0), (174, .if_icmp .eq 5, 3, 0), (177, .iconst 0, 1, 0), (178, .ireturn, 1, 0), (179, .aload 4, 2, 0), (181, .iconst 0, 1, 0), (182, .invokevirtual 22, 3, 6), (185, .iload 14, 2, 0), (187, .if_icmp .eq 5, 3, 0), (190, .iconst 0, 1, 0), (191, .ireturn, 1, 0), (192, .aload 4, 2, 0), (194, .iconst 0, 1, 0), (195, .invokevirtual 26, 3, 8), (198, .iload 14, 2, 0), (200, .ifCond .eq 8, 3, 0), (203, .iload 11, 2, 0), (205, .goto 4, 3, 0), (208, .iconst 0, 1, 0), (209, .if_icmp .eq 5, 3, 0), (212, .iconst 0, 1, 0), (213, .ireturn, 1, 0), (214, .aload 4, 2, 0), (216, .iconst 0, 1, 0), (217, .iconst 0, 1, 0), (218, .invokevirtual 30, 3, 7), (221, .iload 14, 2, 0), (223, .ifCond .eq 7, 3, 0), (226, .iload_n 1, 1, 0), (227, .goto 5, 3, 0), (230, .iload 5, 2, 0), (232, .if_icmp .eq 5, 3, 0), (235, .iconst 0, 1, 0), (236, .ireturn, 1, 0), (237, .aload 4, 2, 0), (239, .iconst 0, 1, 0), (240, .iconst 1, 1, 0), (241, .invokevirtual 30, 3, 7), (244, .iload 14, 2, 0), (246, .ifCond .eq 7, 3, 0), (249, .iload_n 2, 1, 0), (250, .goto 5, 3, 0), (253, .iload 5, 2, 0), (255, .if_icmp .eq 5, 3, 0), (258, .iconst 0, 1, 0), (259, .ireturn, 1, 0), (260, .aload 4, 2, 0), (262, .invokevirtual 34, 3, 10), (265, .iload 14, 2, 0), (267, .ifCond .eq 9, 3, 0), (270, .iload 11, 2, 0), (272, .i2l, 1, 0), (273, .goto 4, 3, 0), (276, .lconst 0, 1, 0), (277, .lcmp, 1, 0), (278, .ifCond .eq 5, 3, 0), (281, .iconst 0, 1, 0), (282, .ireturn, 1, 0), (283, .aload 4, 2, 0), (285, .invokevirtual 38, 3, 12), (288, .iload 14, 2, 0), (290, .ifCond .eq 10, 3, 0), (293, .iload 8, 2, 0), (295, .iconst 1, 1, 0), (296, .isub, 1, 0), (297, .goto 5, 3, 0), (300, .iload 8, 2, 0), (302, .if_icmp .eq 5, 3, 0), (305, .iconst 0, 1, 0), (306, .ireturn, 1, 0), (307, .aload 4, 2, 0), (309, .invokevirtual 41, 3, 16), (312, .iload 14, 2, 0), (314, .ifCond .eq 7, 3, 0), (317, .iconst 0, 1, 0), (318, .goto 5, 3, 0), (321, .iload 5, 2, 0), (323, .if_icmp .eq 5, 3, 0), (326, .iconst 0, 1, 0), (327, .ireturn, 1, 0), (328, .aload 4, 2, 0), (330, .invokevirtual 44, 3, 17), (333, .iload 5, 2, 0), (335, .if_icmp .ne 7, 3, 0), (338, .iconst 1, 1, 0), (339, .goto 4, 3, 0), (342, .iconst 0, 1, 0), (343, .ireturn, 1, 0)]
def lrows : List (List Row) := [lr0]
def linfo : List MInfo := [(4, 16, 9, some .boolean, { frames := 7, cells := 32, slots := 3776, locals := 176 })]
def lw : LW := (fun j pc => (lrows.getD j []).lookup pc, fun j => linfo.getD j (0, 0, 9, none, {}))
section LPc
variable {L : List Slot} {S : List Value} {k n : Nat} {H : AH} {Q : Option Value → AH → Prop}
theorem c100 {x0 : Int32} {x1 : Int32} {x2 : Int32} {x3 : Int32} : Cl (pj lw) 100 [.int x0, .int x1, .int x2, .int x3] H Q ↔ W (pj lw) 100 0 [.val (.int x0), .val (.int x1), .val (.int x2), .val (.int x3), .unset, .unset, .unset, .unset, .unset, .unset, .unset, .unset, .unset, .unset, .unset, .unset] [] 0 0 H Q := cl_unf rfl
theorem w100_0 : W (pj lw) 100 0 L S k n H Q ↔ ((k + 1 ≤ 32 ∧ n + 17 ≤ 3776) ∧ W (pj lw) 100 3 L (.ref H.1 :: S) (k + 1) (n + 17) (mkO (pj lw) H) Q) := W_new' (rfl : (pj lw).1 100 0 = some (.new 7, 3, 17)) (by decide)
theorem w100_3 {x : Nat} : W (pj lw) 100 3 L (.ref x :: S) k n H Q ↔ W (pj lw) 100 4 L (.ref x :: .ref x :: S) k n H Q := W_s (rfl : (pj lw).1 100 3 = some (.dup, 1, 0)) rfl rfl rfl
theorem w100_4 {x : Int32} : W (pj lw) 100 4 (.val (.int x) :: L) S k n H Q ↔ W (pj lw) 100 5 (.val (.int x) :: L) (.int x :: S) k n H Q := W_s (rfl : (pj lw).1 100 4 = some (.iload_n 0, 1, 0)) rfl rfl rfl
theorem w100_5 {a : Nat} {x0 : Int32} : W (pj lw) 100 5 L (.int x0 :: .ref a :: S) k n H Q ↔ ((isO H a = true ∧ cs S + (4 + 11) + 13 ≤ 176 ∧ k + 11 ≤ 32 ∧ n + 1824 ≤ 3776) ∧ Cl (pj lw) 1 [.ref a, .int x0] H (fun v H => W (pj lw) 100 8 L (v.toList ++ S) (k + 11) (n + 1824) H Q)) := W_init (as := [.int x0]) (rfl : (pj lw).1 100 5 = some (.invokespecial 9, 3, 1)) rfl rfl rfl (Nat.le_of_ble_eq_true rfl) (Nat.le_of_ble_eq_true rfl) (fun h => absurd (show (11 : Nat) = 0 from h.1) (by decide))
theorem w100_8 {x : Nat} {l0 l1 l2 l3 : Slot} : W (pj lw) 100 8 (l0 :: l1 :: l2 :: l3 :: .unset :: L) (.ref x :: S) k n H Q ↔ W (pj lw) 100 10 (l0 :: l1 :: l2 :: l3 :: .val (.ref x) :: L) S k n H Q := W_ast (rfl : (pj lw).1 100 8 = some (.astore 4, 2, 0)) rfl rfl
theorem w100_10 : W (pj lw) 100 10 L S k n H Q ↔ W (pj lw) 100 11 L (.int (-1) :: S) k n H Q := W_s (rfl : (pj lw).1 100 10 = some (.iconst (-1), 1, 0)) rfl rfl rfl
theorem w100_11 {x : Int32} {l0 l1 l2 l3 l4 : Slot} : W (pj lw) 100 11 (l0 :: l1 :: l2 :: l3 :: l4 :: .unset :: L) (.int x :: S) k n H Q ↔ W (pj lw) 100 13 (l0 :: l1 :: l2 :: l3 :: l4 :: .val (.int x) :: L) S k n H Q := W_ist (rfl : (pj lw).1 100 11 = some (.istore 5, 2, 0)) rfl rfl
theorem w100_13 : W (pj lw) 100 13 L S k n H Q ↔ W (pj lw) 100 14 L (.int 2 :: S) k n H Q := W_s (rfl : (pj lw).1 100 13 = some (.iconst 2, 1, 0)) rfl rfl rfl
theorem w100_14 {x : Int32} {l0 l1 l2 l3 l4 l5 : Slot} : W (pj lw) 100 14 (l0 :: l1 :: l2 :: l3 :: l4 :: l5 :: .unset :: L) (.int x :: S) k n H Q ↔ W (pj lw) 100 16 (l0 :: l1 :: l2 :: l3 :: l4 :: l5 :: .val (.int x) :: L) S k n H Q := W_ist (rfl : (pj lw).1 100 14 = some (.istore 6, 2, 0)) rfl rfl
theorem w100_16 : W (pj lw) 100 16 L S k n H Q ↔ W (pj lw) 100 18 L (.int 32 :: S) k n H Q := W_s (rfl : (pj lw).1 100 16 = some (.bipush 32, 2, 0)) rfl rfl rfl
theorem w100_18 {x : Int32} {l0 l1 l2 l3 l4 l5 l6 : Slot} : W (pj lw) 100 18 (l0 :: l1 :: l2 :: l3 :: l4 :: l5 :: l6 :: .unset :: L) (.int x :: S) k n H Q ↔ W (pj lw) 100 20 (l0 :: l1 :: l2 :: l3 :: l4 :: l5 :: l6 :: .val (.int x) :: L) S k n H Q := W_ist (rfl : (pj lw).1 100 18 = some (.istore 7, 2, 0)) rfl rfl
theorem w100_20 {x : Int32} : W (pj lw) 100 20 (.val (.int x) :: L) S k n H Q ↔ W (pj lw) 100 21 (.val (.int x) :: L) (.int x :: S) k n H Q := W_s (rfl : (pj lw).1 100 20 = some (.iload_n 0, 1, 0)) rfl rfl rfl
theorem w100_21 {x : Int32} {l0 l1 l2 l3 l4 l5 : Slot} : W (pj lw) 100 21 (l0 :: l1 :: l2 :: l3 :: l4 :: l5 :: .val (.int x) :: L) S k n H Q ↔ W (pj lw) 100 23 (l0 :: l1 :: l2 :: l3 :: l4 :: l5 :: .val (.int x) :: L) (.int x :: S) k n H Q := W_s (rfl : (pj lw).1 100 21 = some (.iload 6, 2, 0)) rfl rfl rfl
theorem w100_23 {x y : Int32} : W (pj lw) 100 23 L (.int y :: .int x :: S) k n H Q ↔ (if x < y then W (pj lw) 100 26 L S k n H Q else W (pj lw) 100 31 L S k n H Q) := W_icmp_ge (rfl : (pj lw).1 100 23 = some (.if_icmp .ge 8, 3, 0)) rfl
theorem w100_26 {x : Int32} {l0 l1 l2 l3 l4 l5 : Slot} : W (pj lw) 100 26 (l0 :: l1 :: l2 :: l3 :: l4 :: l5 :: .val (.int x) :: L) S k n H Q ↔ W (pj lw) 100 28 (l0 :: l1 :: l2 :: l3 :: l4 :: l5 :: .val (.int x) :: L) (.int x :: S) k n H Q := W_s (rfl : (pj lw).1 100 26 = some (.iload 6, 2, 0)) rfl rfl rfl
theorem w100_28 : W (pj lw) 100 28 L S k n H Q ↔ W (pj lw) 100 43 L S k n H Q := W_goto (rfl : (pj lw).1 100 28 = some (.goto 15, 3, 0)) rfl
theorem w100_31 {x : Int32} : W (pj lw) 100 31 (.val (.int x) :: L) S k n H Q ↔ W (pj lw) 100 32 (.val (.int x) :: L) (.int x :: S) k n H Q := W_s (rfl : (pj lw).1 100 31 = some (.iload_n 0, 1, 0)) rfl rfl rfl
theorem w100_32 {x : Int32} {l0 l1 l2 l3 l4 l5 l6 : Slot} : W (pj lw) 100 32 (l0 :: l1 :: l2 :: l3 :: l4 :: l5 :: l6 :: .val (.int x) :: L) S k n H Q ↔ W (pj lw) 100 34 (l0 :: l1 :: l2 :: l3 :: l4 :: l5 :: l6 :: .val (.int x) :: L) (.int x :: S) k n H Q := W_s (rfl : (pj lw).1 100 32 = some (.iload 7, 2, 0)) rfl rfl rfl
theorem w100_34 {x y : Int32} : W (pj lw) 100 34 L (.int y :: .int x :: S) k n H Q ↔ (if y < x then W (pj lw) 100 37 L S k n H Q else W (pj lw) 100 42 L S k n H Q) := W_icmp_le (rfl : (pj lw).1 100 34 = some (.if_icmp .le 8, 3, 0)) rfl
theorem w100_37 {x : Int32} {l0 l1 l2 l3 l4 l5 l6 : Slot} : W (pj lw) 100 37 (l0 :: l1 :: l2 :: l3 :: l4 :: l5 :: l6 :: .val (.int x) :: L) S k n H Q ↔ W (pj lw) 100 39 (l0 :: l1 :: l2 :: l3 :: l4 :: l5 :: l6 :: .val (.int x) :: L) (.int x :: S) k n H Q := W_s (rfl : (pj lw).1 100 37 = some (.iload 7, 2, 0)) rfl rfl rfl
theorem w100_39 : W (pj lw) 100 39 L S k n H Q ↔ W (pj lw) 100 43 L S k n H Q := W_goto (rfl : (pj lw).1 100 39 = some (.goto 4, 3, 0)) rfl
theorem w100_42 {x : Int32} : W (pj lw) 100 42 (.val (.int x) :: L) S k n H Q ↔ W (pj lw) 100 43 (.val (.int x) :: L) (.int x :: S) k n H Q := W_s (rfl : (pj lw).1 100 42 = some (.iload_n 0, 1, 0)) rfl rfl rfl
theorem w100_43 {x : Int32} {l0 l1 l2 l3 l4 l5 l6 l7 : Slot} : W (pj lw) 100 43 (l0 :: l1 :: l2 :: l3 :: l4 :: l5 :: l6 :: l7 :: .unset :: L) (.int x :: S) k n H Q ↔ W (pj lw) 100 45 (l0 :: l1 :: l2 :: l3 :: l4 :: l5 :: l6 :: l7 :: .val (.int x) :: L) S k n H Q := W_ist (rfl : (pj lw).1 100 43 = some (.istore 8, 2, 0)) rfl rfl
theorem w100_45 : W (pj lw) 100 45 L S k n H Q ↔ W (pj lw) 100 47 L (.int (-1000000) :: S) k n H Q := W_s (rfl : (pj lw).1 100 45 = some (.ldc 12, 2, (-1000000))) rfl rfl rfl
theorem w100_47 {x : Int32} {l0 l1 l2 l3 l4 l5 l6 l7 l8 : Slot} : W (pj lw) 100 47 (l0 :: l1 :: l2 :: l3 :: l4 :: l5 :: l6 :: l7 :: l8 :: .unset :: L) (.int x :: S) k n H Q ↔ W (pj lw) 100 49 (l0 :: l1 :: l2 :: l3 :: l4 :: l5 :: l6 :: l7 :: l8 :: .val (.int x) :: L) S k n H Q := W_ist (rfl : (pj lw).1 100 47 = some (.istore 9, 2, 0)) rfl rfl
theorem w100_49 : W (pj lw) 100 49 L S k n H Q ↔ W (pj lw) 100 51 L (.int 1000000 :: S) k n H Q := W_s (rfl : (pj lw).1 100 49 = some (.ldc 13, 2, 1000000)) rfl rfl rfl
theorem w100_51 {x : Int32} {l0 l1 l2 l3 l4 l5 l6 l7 l8 l9 : Slot} : W (pj lw) 100 51 (l0 :: l1 :: l2 :: l3 :: l4 :: l5 :: l6 :: l7 :: l8 :: l9 :: .unset :: L) (.int x :: S) k n H Q ↔ W (pj lw) 100 53 (l0 :: l1 :: l2 :: l3 :: l4 :: l5 :: l6 :: l7 :: l8 :: l9 :: .val (.int x) :: L) S k n H Q := W_ist (rfl : (pj lw).1 100 51 = some (.istore 10, 2, 0)) rfl rfl
theorem w100_53 {x : Int32} {l0 l1 l2 : Slot} : W (pj lw) 100 53 (l0 :: l1 :: l2 :: .val (.int x) :: L) S k n H Q ↔ W (pj lw) 100 54 (l0 :: l1 :: l2 :: .val (.int x) :: L) (.int x :: S) k n H Q := W_s (rfl : (pj lw).1 100 53 = some (.iload_n 3, 1, 0)) rfl rfl rfl
theorem w100_54 {x : Int32} {l0 l1 l2 l3 l4 l5 l6 l7 l8 : Slot} : W (pj lw) 100 54 (l0 :: l1 :: l2 :: l3 :: l4 :: l5 :: l6 :: l7 :: l8 :: .val (.int x) :: L) S k n H Q ↔ W (pj lw) 100 56 (l0 :: l1 :: l2 :: l3 :: l4 :: l5 :: l6 :: l7 :: l8 :: .val (.int x) :: L) (.int x :: S) k n H Q := W_s (rfl : (pj lw).1 100 54 = some (.iload 9, 2, 0)) rfl rfl rfl
theorem w100_56 {x y : Int32} : W (pj lw) 100 56 L (.int y :: .int x :: S) k n H Q ↔ (if x < y then W (pj lw) 100 59 L S k n H Q else W (pj lw) 100 64 L S k n H Q) := W_icmp_ge (rfl : (pj lw).1 100 56 = some (.if_icmp .ge 8, 3, 0)) rfl
theorem w100_59 {x : Int32} {l0 l1 l2 l3 l4 l5 l6 l7 l8 : Slot} : W (pj lw) 100 59 (l0 :: l1 :: l2 :: l3 :: l4 :: l5 :: l6 :: l7 :: l8 :: .val (.int x) :: L) S k n H Q ↔ W (pj lw) 100 61 (l0 :: l1 :: l2 :: l3 :: l4 :: l5 :: l6 :: l7 :: l8 :: .val (.int x) :: L) (.int x :: S) k n H Q := W_s (rfl : (pj lw).1 100 59 = some (.iload 9, 2, 0)) rfl rfl rfl
theorem w100_61 : W (pj lw) 100 61 L S k n H Q ↔ W (pj lw) 100 76 L S k n H Q := W_goto (rfl : (pj lw).1 100 61 = some (.goto 15, 3, 0)) rfl
theorem w100_64 {x : Int32} {l0 l1 l2 : Slot} : W (pj lw) 100 64 (l0 :: l1 :: l2 :: .val (.int x) :: L) S k n H Q ↔ W (pj lw) 100 65 (l0 :: l1 :: l2 :: .val (.int x) :: L) (.int x :: S) k n H Q := W_s (rfl : (pj lw).1 100 64 = some (.iload_n 3, 1, 0)) rfl rfl rfl
theorem w100_65 {x : Int32} {l0 l1 l2 l3 l4 l5 l6 l7 l8 l9 : Slot} : W (pj lw) 100 65 (l0 :: l1 :: l2 :: l3 :: l4 :: l5 :: l6 :: l7 :: l8 :: l9 :: .val (.int x) :: L) S k n H Q ↔ W (pj lw) 100 67 (l0 :: l1 :: l2 :: l3 :: l4 :: l5 :: l6 :: l7 :: l8 :: l9 :: .val (.int x) :: L) (.int x :: S) k n H Q := W_s (rfl : (pj lw).1 100 65 = some (.iload 10, 2, 0)) rfl rfl rfl
theorem w100_67 {x y : Int32} : W (pj lw) 100 67 L (.int y :: .int x :: S) k n H Q ↔ (if y < x then W (pj lw) 100 70 L S k n H Q else W (pj lw) 100 75 L S k n H Q) := W_icmp_le (rfl : (pj lw).1 100 67 = some (.if_icmp .le 8, 3, 0)) rfl
theorem w100_70 {x : Int32} {l0 l1 l2 l3 l4 l5 l6 l7 l8 l9 : Slot} : W (pj lw) 100 70 (l0 :: l1 :: l2 :: l3 :: l4 :: l5 :: l6 :: l7 :: l8 :: l9 :: .val (.int x) :: L) S k n H Q ↔ W (pj lw) 100 72 (l0 :: l1 :: l2 :: l3 :: l4 :: l5 :: l6 :: l7 :: l8 :: l9 :: .val (.int x) :: L) (.int x :: S) k n H Q := W_s (rfl : (pj lw).1 100 70 = some (.iload 10, 2, 0)) rfl rfl rfl
theorem w100_72 : W (pj lw) 100 72 L S k n H Q ↔ W (pj lw) 100 76 L S k n H Q := W_goto (rfl : (pj lw).1 100 72 = some (.goto 4, 3, 0)) rfl
theorem w100_75 {x : Int32} {l0 l1 l2 : Slot} : W (pj lw) 100 75 (l0 :: l1 :: l2 :: .val (.int x) :: L) S k n H Q ↔ W (pj lw) 100 76 (l0 :: l1 :: l2 :: .val (.int x) :: L) (.int x :: S) k n H Q := W_s (rfl : (pj lw).1 100 75 = some (.iload_n 3, 1, 0)) rfl rfl rfl
theorem w100_76 {x : Int32} {l0 l1 l2 l3 l4 l5 l6 l7 l8 l9 l10 : Slot} : W (pj lw) 100 76 (l0 :: l1 :: l2 :: l3 :: l4 :: l5 :: l6 :: l7 :: l8 :: l9 :: l10 :: .unset :: L) (.int x :: S) k n H Q ↔ W (pj lw) 100 78 (l0 :: l1 :: l2 :: l3 :: l4 :: l5 :: l6 :: l7 :: l8 :: l9 :: l10 :: .val (.int x) :: L) S k n H Q := W_ist (rfl : (pj lw).1 100 76 = some (.istore 11, 2, 0)) rfl rfl
theorem w100_78 {x : Int32} {l0 : Slot} : W (pj lw) 100 78 (l0 :: .val (.int x) :: L) S k n H Q ↔ W (pj lw) 100 79 (l0 :: .val (.int x) :: L) (.int x :: S) k n H Q := W_s (rfl : (pj lw).1 100 78 = some (.iload_n 1, 1, 0)) rfl rfl rfl
theorem w100_79 {x : Int32} : W (pj lw) 100 79 L (.int x :: S) k n H Q ↔ (if x < 0 then W (pj lw) 100 98 L S k n H Q else W (pj lw) 100 82 L S k n H Q) := W_if_lt (rfl : (pj lw).1 100 79 = some (.ifCond .lt 19, 3, 0)) rfl
theorem w100_82 {x : Int32} {l0 : Slot} : W (pj lw) 100 82 (l0 :: .val (.int x) :: L) S k n H Q ↔ W (pj lw) 100 83 (l0 :: .val (.int x) :: L) (.int x :: S) k n H Q := W_s (rfl : (pj lw).1 100 82 = some (.iload_n 1, 1, 0)) rfl rfl rfl
theorem w100_83 {x : Int32} {l0 l1 l2 l3 l4 l5 l6 l7 : Slot} : W (pj lw) 100 83 (l0 :: l1 :: l2 :: l3 :: l4 :: l5 :: l6 :: l7 :: .val (.int x) :: L) S k n H Q ↔ W (pj lw) 100 85 (l0 :: l1 :: l2 :: l3 :: l4 :: l5 :: l6 :: l7 :: .val (.int x) :: L) (.int x :: S) k n H Q := W_s (rfl : (pj lw).1 100 83 = some (.iload 8, 2, 0)) rfl rfl rfl
theorem w100_85 {x y : Int32} : W (pj lw) 100 85 L (.int y :: .int x :: S) k n H Q ↔ (if x < y then W (pj lw) 100 88 L S k n H Q else W (pj lw) 100 98 L S k n H Q) := W_icmp_ge (rfl : (pj lw).1 100 85 = some (.if_icmp .ge 13, 3, 0)) rfl
theorem w100_88 {x : Int32} {l0 l1 : Slot} : W (pj lw) 100 88 (l0 :: l1 :: .val (.int x) :: L) S k n H Q ↔ W (pj lw) 100 89 (l0 :: l1 :: .val (.int x) :: L) (.int x :: S) k n H Q := W_s (rfl : (pj lw).1 100 88 = some (.iload_n 2, 1, 0)) rfl rfl rfl
theorem w100_89 {x : Int32} : W (pj lw) 100 89 L (.int x :: S) k n H Q ↔ (if x < 0 then W (pj lw) 100 98 L S k n H Q else W (pj lw) 100 92 L S k n H Q) := W_if_lt (rfl : (pj lw).1 100 89 = some (.ifCond .lt 9, 3, 0)) rfl
theorem w100_92 {x : Int32} {l0 l1 : Slot} : W (pj lw) 100 92 (l0 :: l1 :: .val (.int x) :: L) S k n H Q ↔ W (pj lw) 100 93 (l0 :: l1 :: .val (.int x) :: L) (.int x :: S) k n H Q := W_s (rfl : (pj lw).1 100 92 = some (.iload_n 2, 1, 0)) rfl rfl rfl
theorem w100_93 {x : Int32} {l0 l1 l2 l3 l4 l5 l6 l7 : Slot} : W (pj lw) 100 93 (l0 :: l1 :: l2 :: l3 :: l4 :: l5 :: l6 :: l7 :: .val (.int x) :: L) S k n H Q ↔ W (pj lw) 100 95 (l0 :: l1 :: l2 :: l3 :: l4 :: l5 :: l6 :: l7 :: .val (.int x) :: L) (.int x :: S) k n H Q := W_s (rfl : (pj lw).1 100 93 = some (.iload 8, 2, 0)) rfl rfl rfl
theorem w100_95 {x y : Int32} : W (pj lw) 100 95 L (.int y :: .int x :: S) k n H Q ↔ (if x < y then W (pj lw) 100 102 L S k n H Q else W (pj lw) 100 98 L S k n H Q) := W_icmp_lt (rfl : (pj lw).1 100 95 = some (.if_icmp .lt 7, 3, 0)) rfl
theorem w100_98 : W (pj lw) 100 98 L S k n H Q ↔ W (pj lw) 100 99 L (.int 1 :: S) k n H Q := W_s (rfl : (pj lw).1 100 98 = some (.iconst 1, 1, 0)) rfl rfl rfl
theorem w100_99 : W (pj lw) 100 99 L S k n H Q ↔ W (pj lw) 100 103 L S k n H Q := W_goto (rfl : (pj lw).1 100 99 = some (.goto 4, 3, 0)) rfl
theorem w100_102 : W (pj lw) 100 102 L S k n H Q ↔ W (pj lw) 100 103 L (.int 0 :: S) k n H Q := W_s (rfl : (pj lw).1 100 102 = some (.iconst 0, 1, 0)) rfl rfl rfl
theorem w100_103 {x : Int32} {l0 l1 l2 l3 l4 l5 l6 l7 l8 l9 l10 l11 : Slot} : W (pj lw) 100 103 (l0 :: l1 :: l2 :: l3 :: l4 :: l5 :: l6 :: l7 :: l8 :: l9 :: l10 :: l11 :: .unset :: L) (.int x :: S) k n H Q ↔ W (pj lw) 100 105 (l0 :: l1 :: l2 :: l3 :: l4 :: l5 :: l6 :: l7 :: l8 :: l9 :: l10 :: l11 :: .val (.int x) :: L) S k n H Q := W_ist (rfl : (pj lw).1 100 103 = some (.istore 12, 2, 0)) rfl rfl
theorem w100_105 {x : Int32} {l0 l1 l2 l3 l4 l5 l6 l7 l8 l9 l10 l11 : Slot} : W (pj lw) 100 105 (l0 :: l1 :: l2 :: l3 :: l4 :: l5 :: l6 :: l7 :: l8 :: l9 :: l10 :: l11 :: .val (.int x) :: L) S k n H Q ↔ W (pj lw) 100 107 (l0 :: l1 :: l2 :: l3 :: l4 :: l5 :: l6 :: l7 :: l8 :: l9 :: l10 :: l11 :: .val (.int x) :: L) (.int x :: S) k n H Q := W_s (rfl : (pj lw).1 100 105 = some (.iload 12, 2, 0)) rfl rfl rfl
theorem w100_107 {x : Int32} : W (pj lw) 100 107 L (.int x :: S) k n H Q ↔ (if x = 0 then W (pj lw) 100 115 L S k n H Q else W (pj lw) 100 110 L S k n H Q) := W_if_eq (rfl : (pj lw).1 100 107 = some (.ifCond .eq 8, 3, 0)) rfl
theorem w100_110 : W (pj lw) 100 110 L S k n H Q ↔ W (pj lw) 100 112 L (.int (-2) :: S) k n H Q := W_s (rfl : (pj lw).1 100 110 = some (.bipush (-2), 2, 0)) rfl rfl rfl
theorem w100_112 : W (pj lw) 100 112 L S k n H Q ↔ W (pj lw) 100 126 L S k n H Q := W_goto (rfl : (pj lw).1 100 112 = some (.goto 14, 3, 0)) rfl
theorem w100_115 {x : Int32} {l0 : Slot} : W (pj lw) 100 115 (l0 :: .val (.int x) :: L) S k n H Q ↔ W (pj lw) 100 116 (l0 :: .val (.int x) :: L) (.int x :: S) k n H Q := W_s (rfl : (pj lw).1 100 115 = some (.iload_n 1, 1, 0)) rfl rfl rfl
theorem w100_116 {x : Int32} {l0 l1 : Slot} : W (pj lw) 100 116 (l0 :: l1 :: .val (.int x) :: L) S k n H Q ↔ W (pj lw) 100 117 (l0 :: l1 :: .val (.int x) :: L) (.int x :: S) k n H Q := W_s (rfl : (pj lw).1 100 116 = some (.iload_n 2, 1, 0)) rfl rfl rfl
theorem w100_117 {x y : Int32} : W (pj lw) 100 117 L (.int y :: .int x :: S) k n H Q ↔ (if x = y then W (pj lw) 100 120 L S k n H Q else W (pj lw) 100 125 L S k n H Q) := W_icmp_ne (rfl : (pj lw).1 100 117 = some (.if_icmp .ne 8, 3, 0)) rfl
theorem w100_120 : W (pj lw) 100 120 L S k n H Q ↔ W (pj lw) 100 122 L (.int (-3) :: S) k n H Q := W_s (rfl : (pj lw).1 100 120 = some (.bipush (-3), 2, 0)) rfl rfl rfl
theorem w100_122 : W (pj lw) 100 122 L S k n H Q ↔ W (pj lw) 100 126 L S k n H Q := W_goto (rfl : (pj lw).1 100 122 = some (.goto 4, 3, 0)) rfl
theorem w100_125 : W (pj lw) 100 125 L S k n H Q ↔ W (pj lw) 100 126 L (.int 0 :: S) k n H Q := W_s (rfl : (pj lw).1 100 125 = some (.iconst 0, 1, 0)) rfl rfl rfl
theorem w100_126 {x : Int32} {l0 l1 l2 l3 l4 l5 l6 l7 l8 l9 l10 l11 l12 : Slot} : W (pj lw) 100 126 (l0 :: l1 :: l2 :: l3 :: l4 :: l5 :: l6 :: l7 :: l8 :: l9 :: l10 :: l11 :: l12 :: .unset :: L) (.int x :: S) k n H Q ↔ W (pj lw) 100 128 (l0 :: l1 :: l2 :: l3 :: l4 :: l5 :: l6 :: l7 :: l8 :: l9 :: l10 :: l11 :: l12 :: .val (.int x) :: L) S k n H Q := W_ist (rfl : (pj lw).1 100 126 = some (.istore 13, 2, 0)) rfl rfl
theorem w100_128 {x : Int32} {l0 l1 l2 l3 l4 l5 l6 l7 l8 l9 l10 l11 l12 : Slot} : W (pj lw) 100 128 (l0 :: l1 :: l2 :: l3 :: l4 :: l5 :: l6 :: l7 :: l8 :: l9 :: l10 :: l11 :: l12 :: .val (.int x) :: L) S k n H Q ↔ W (pj lw) 100 130 (l0 :: l1 :: l2 :: l3 :: l4 :: l5 :: l6 :: l7 :: l8 :: l9 :: l10 :: l11 :: l12 :: .val (.int x) :: L) (.int x :: S) k n H Q := W_s (rfl : (pj lw).1 100 128 = some (.iload 13, 2, 0)) rfl rfl rfl
theorem w100_130 {x : Int32} : W (pj lw) 100 130 L (.int x :: S) k n H Q ↔ (if x = 0 then W (pj lw) 100 133 L S k n H Q else W (pj lw) 100 137 L S k n H Q) := W_if_ne (rfl : (pj lw).1 100 130 = some (.ifCond .ne 7, 3, 0)) rfl
theorem w100_133 : W (pj lw) 100 133 L S k n H Q ↔ W (pj lw) 100 134 L (.int 1 :: S) k n H Q := W_s (rfl : (pj lw).1 100 133 = some (.iconst 1, 1, 0)) rfl rfl rfl
theorem w100_134 : W (pj lw) 100 134 L S k n H Q ↔ W (pj lw) 100 138 L S k n H Q := W_goto (rfl : (pj lw).1 100 134 = some (.goto 4, 3, 0)) rfl
theorem w100_137 : W (pj lw) 100 137 L S k n H Q ↔ W (pj lw) 100 138 L (.int 0 :: S) k n H Q := W_s (rfl : (pj lw).1 100 137 = some (.iconst 0, 1, 0)) rfl rfl rfl
theorem w100_138 {x : Int32} {l0 l1 l2 l3 l4 l5 l6 l7 l8 l9 l10 l11 l12 l13 : Slot} : W (pj lw) 100 138 (l0 :: l1 :: l2 :: l3 :: l4 :: l5 :: l6 :: l7 :: l8 :: l9 :: l10 :: l11 :: l12 :: l13 :: .unset :: L) (.int x :: S) k n H Q ↔ W (pj lw) 100 140 (l0 :: l1 :: l2 :: l3 :: l4 :: l5 :: l6 :: l7 :: l8 :: l9 :: l10 :: l11 :: l12 :: l13 :: .val (.int x) :: L) S k n H Q := W_ist (rfl : (pj lw).1 100 138 = some (.istore 14, 2, 0)) rfl rfl
theorem w100_140 {x : Nat} {l0 l1 l2 l3 : Slot} : W (pj lw) 100 140 (l0 :: l1 :: l2 :: l3 :: .val (.ref x) :: L) S k n H Q ↔ W (pj lw) 100 142 (l0 :: l1 :: l2 :: l3 :: .val (.ref x) :: L) (.ref x :: S) k n H Q := W_s (rfl : (pj lw).1 100 140 = some (.aload 4, 2, 0)) rfl rfl rfl
theorem w100_142 {x : Int32} {l0 : Slot} : W (pj lw) 100 142 (l0 :: .val (.int x) :: L) S k n H Q ↔ W (pj lw) 100 143 (l0 :: .val (.int x) :: L) (.int x :: S) k n H Q := W_s (rfl : (pj lw).1 100 142 = some (.iload_n 1, 1, 0)) rfl rfl rfl
theorem w100_143 {x : Int32} {l0 l1 : Slot} : W (pj lw) 100 143 (l0 :: l1 :: .val (.int x) :: L) S k n H Q ↔ W (pj lw) 100 144 (l0 :: l1 :: .val (.int x) :: L) (.int x :: S) k n H Q := W_s (rfl : (pj lw).1 100 143 = some (.iload_n 2, 1, 0)) rfl rfl rfl
theorem w100_144 {x : Int32} {l0 l1 l2 : Slot} : W (pj lw) 100 144 (l0 :: l1 :: l2 :: .val (.int x) :: L) S k n H Q ↔ W (pj lw) 100 145 (l0 :: l1 :: l2 :: .val (.int x) :: L) (.int x :: S) k n H Q := W_s (rfl : (pj lw).1 100 144 = some (.iload_n 3, 1, 0)) rfl rfl rfl
theorem w100_145 {a : Nat} {x0 : Int32} {x1 : Int32} {x2 : Int32} : W (pj lw) 100 145 L (.int x2 :: .int x1 :: .int x0 :: .ref a :: S) k n H Q ↔ ((isO H a = true ∧ cs S + (6 + 11) + 65 ≤ 176) ∧ Cl (pj lw) 2 [.ref a, .int x0, .int x1, .int x2] H (fun v H => W (pj lw) 100 148 L (v.toList ++ S) k n H Q)) := W_inst (as := [.int x0, .int x1, .int x2]) (rfl : (pj lw).1 100 145 = some (.invokevirtual 14, 3, 2)) rfl rfl rfl (Nat.le_of_ble_eq_true rfl) (Nat.le_of_ble_eq_true rfl) ⟨rfl, rfl⟩
theorem w100_148 {x : Int32} {l0 l1 l2 l3 l4 l5 l6 l7 l8 l9 l10 l11 l12 l13 l14 : Slot} : W (pj lw) 100 148 (l0 :: l1 :: l2 :: l3 :: l4 :: l5 :: l6 :: l7 :: l8 :: l9 :: l10 :: l11 :: l12 :: l13 :: l14 :: .unset :: L) (.int x :: S) k n H Q ↔ W (pj lw) 100 150 (l0 :: l1 :: l2 :: l3 :: l4 :: l5 :: l6 :: l7 :: l8 :: l9 :: l10 :: l11 :: l12 :: l13 :: l14 :: .val (.int x) :: L) S k n H Q := W_ist (rfl : (pj lw).1 100 148 = some (.istore 15, 2, 0)) rfl rfl
theorem w100_150 {x : Int32} {l0 l1 l2 l3 l4 l5 l6 l7 l8 l9 l10 l11 l12 l13 l14 : Slot} : W (pj lw) 100 150 (l0 :: l1 :: l2 :: l3 :: l4 :: l5 :: l6 :: l7 :: l8 :: l9 :: l10 :: l11 :: l12 :: l13 :: l14 :: .val (.int x) :: L) S k n H Q ↔ W (pj lw) 100 152 (l0 :: l1 :: l2 :: l3 :: l4 :: l5 :: l6 :: l7 :: l8 :: l9 :: l10 :: l11 :: l12 :: l13 :: l14 :: .val (.int x) :: L) (.int x :: S) k n H Q := W_s (rfl : (pj lw).1 100 150 = some (.iload 15, 2, 0)) rfl rfl rfl
theorem w100_152 {x : Int32} {l0 l1 l2 l3 l4 l5 l6 l7 l8 l9 l10 l11 l12 : Slot} : W (pj lw) 100 152 (l0 :: l1 :: l2 :: l3 :: l4 :: l5 :: l6 :: l7 :: l8 :: l9 :: l10 :: l11 :: l12 :: .val (.int x) :: L) S k n H Q ↔ W (pj lw) 100 154 (l0 :: l1 :: l2 :: l3 :: l4 :: l5 :: l6 :: l7 :: l8 :: l9 :: l10 :: l11 :: l12 :: .val (.int x) :: L) (.int x :: S) k n H Q := W_s (rfl : (pj lw).1 100 152 = some (.iload 13, 2, 0)) rfl rfl rfl
theorem w100_154 {x y : Int32} : W (pj lw) 100 154 L (.int y :: .int x :: S) k n H Q ↔ (if x = y then W (pj lw) 100 159 L S k n H Q else W (pj lw) 100 157 L S k n H Q) := W_icmp_eq (rfl : (pj lw).1 100 154 = some (.if_icmp .eq 5, 3, 0)) rfl
theorem w100_157 : W (pj lw) 100 157 L S k n H Q ↔ W (pj lw) 100 158 L (.int 0 :: S) k n H Q := W_s (rfl : (pj lw).1 100 157 = some (.iconst 0, 1, 0)) rfl rfl rfl
theorem w100_158 {x : Int32} : W (pj lw) 100 158 L (.int x :: S) k n H Q ↔ ((x = 0 ∨ x = 1) ∧ Q (some (.int x)) H) := W_rz (rfl : (pj lw).1 100 158 = some (.ireturn, 1, 0)) rfl
theorem w100_159 {x : Nat} {l0 l1 l2 l3 : Slot} : W (pj lw) 100 159 (l0 :: l1 :: l2 :: l3 :: .val (.ref x) :: L) S k n H Q ↔ W (pj lw) 100 161 (l0 :: l1 :: l2 :: l3 :: .val (.ref x) :: L) (.ref x :: S) k n H Q := W_s (rfl : (pj lw).1 100 159 = some (.aload 4, 2, 0)) rfl rfl rfl
theorem w100_161 {a : Nat} : W (pj lw) 100 161 L (.ref a :: S) k n H Q ↔ ((isO H a = true ∧ cs S + (1 + 11) + 0 ≤ 176) ∧ Cl (pj lw) 9 [.ref a] H (fun v H => W (pj lw) 100 164 L (v.toList ++ S) k n H Q)) := W_inst (as := []) (rfl : (pj lw).1 100 161 = some (.invokevirtual 18, 3, 9)) rfl rfl rfl (Nat.le_of_ble_eq_true rfl) (Nat.le_of_ble_eq_true rfl) ⟨rfl, rfl⟩
theorem w100_164 {x : Int32} {l0 l1 l2 l3 l4 l5 l6 l7 l8 l9 l10 l11 l12 l13 : Slot} : W (pj lw) 100 164 (l0 :: l1 :: l2 :: l3 :: l4 :: l5 :: l6 :: l7 :: l8 :: l9 :: l10 :: l11 :: l12 :: l13 :: .val (.int x) :: L) S k n H Q ↔ W (pj lw) 100 166 (l0 :: l1 :: l2 :: l3 :: l4 :: l5 :: l6 :: l7 :: l8 :: l9 :: l10 :: l11 :: l12 :: l13 :: .val (.int x) :: L) (.int x :: S) k n H Q := W_s (rfl : (pj lw).1 100 164 = some (.iload 14, 2, 0)) rfl rfl rfl
theorem w100_166 {x : Int32} : W (pj lw) 100 166 L (.int x :: S) k n H Q ↔ (if x = 0 then W (pj lw) 100 173 L S k n H Q else W (pj lw) 100 169 L S k n H Q) := W_if_eq (rfl : (pj lw).1 100 166 = some (.ifCond .eq 7, 3, 0)) rfl
theorem w100_169 : W (pj lw) 100 169 L S k n H Q ↔ W (pj lw) 100 170 L (.int 1 :: S) k n H Q := W_s (rfl : (pj lw).1 100 169 = some (.iconst 1, 1, 0)) rfl rfl rfl
theorem w100_170 : W (pj lw) 100 170 L S k n H Q ↔ W (pj lw) 100 174 L S k n H Q := W_goto (rfl : (pj lw).1 100 170 = some (.goto 4, 3, 0)) rfl
theorem w100_173 : W (pj lw) 100 173 L S k n H Q ↔ W (pj lw) 100 174 L (.int 0 :: S) k n H Q := W_s (rfl : (pj lw).1 100 173 = some (.iconst 0, 1, 0)) rfl rfl rfl
theorem w100_174 {x y : Int32} : W (pj lw) 100 174 L (.int y :: .int x :: S) k n H Q ↔ (if x = y then W (pj lw) 100 179 L S k n H Q else W (pj lw) 100 177 L S k n H Q) := W_icmp_eq (rfl : (pj lw).1 100 174 = some (.if_icmp .eq 5, 3, 0)) rfl
theorem w100_177 : W (pj lw) 100 177 L S k n H Q ↔ W (pj lw) 100 178 L (.int 0 :: S) k n H Q := W_s (rfl : (pj lw).1 100 177 = some (.iconst 0, 1, 0)) rfl rfl rfl
theorem w100_178 {x : Int32} : W (pj lw) 100 178 L (.int x :: S) k n H Q ↔ ((x = 0 ∨ x = 1) ∧ Q (some (.int x)) H) := W_rz (rfl : (pj lw).1 100 178 = some (.ireturn, 1, 0)) rfl
theorem w100_179 {x : Nat} {l0 l1 l2 l3 : Slot} : W (pj lw) 100 179 (l0 :: l1 :: l2 :: l3 :: .val (.ref x) :: L) S k n H Q ↔ W (pj lw) 100 181 (l0 :: l1 :: l2 :: l3 :: .val (.ref x) :: L) (.ref x :: S) k n H Q := W_s (rfl : (pj lw).1 100 179 = some (.aload 4, 2, 0)) rfl rfl rfl
theorem w100_181 : W (pj lw) 100 181 L S k n H Q ↔ W (pj lw) 100 182 L (.int 0 :: S) k n H Q := W_s (rfl : (pj lw).1 100 181 = some (.iconst 0, 1, 0)) rfl rfl rfl
theorem w100_182 {a : Nat} {x0 : Int32} : W (pj lw) 100 182 L (.int x0 :: .ref a :: S) k n H Q ↔ ((isO H a = true ∧ cs S + (2 + 11) + 13 ≤ 176) ∧ Cl (pj lw) 6 [.ref a, .int x0] H (fun v H => W (pj lw) 100 185 L (v.toList ++ S) k n H Q)) := W_inst (as := [.int x0]) (rfl : (pj lw).1 100 182 = some (.invokevirtual 22, 3, 6)) rfl rfl rfl (Nat.le_of_ble_eq_true rfl) (Nat.le_of_ble_eq_true rfl) ⟨rfl, rfl⟩
theorem w100_185 {x : Int32} {l0 l1 l2 l3 l4 l5 l6 l7 l8 l9 l10 l11 l12 l13 : Slot} : W (pj lw) 100 185 (l0 :: l1 :: l2 :: l3 :: l4 :: l5 :: l6 :: l7 :: l8 :: l9 :: l10 :: l11 :: l12 :: l13 :: .val (.int x) :: L) S k n H Q ↔ W (pj lw) 100 187 (l0 :: l1 :: l2 :: l3 :: l4 :: l5 :: l6 :: l7 :: l8 :: l9 :: l10 :: l11 :: l12 :: l13 :: .val (.int x) :: L) (.int x :: S) k n H Q := W_s (rfl : (pj lw).1 100 185 = some (.iload 14, 2, 0)) rfl rfl rfl
theorem w100_187 {x y : Int32} : W (pj lw) 100 187 L (.int y :: .int x :: S) k n H Q ↔ (if x = y then W (pj lw) 100 192 L S k n H Q else W (pj lw) 100 190 L S k n H Q) := W_icmp_eq (rfl : (pj lw).1 100 187 = some (.if_icmp .eq 5, 3, 0)) rfl
theorem w100_190 : W (pj lw) 100 190 L S k n H Q ↔ W (pj lw) 100 191 L (.int 0 :: S) k n H Q := W_s (rfl : (pj lw).1 100 190 = some (.iconst 0, 1, 0)) rfl rfl rfl
theorem w100_191 {x : Int32} : W (pj lw) 100 191 L (.int x :: S) k n H Q ↔ ((x = 0 ∨ x = 1) ∧ Q (some (.int x)) H) := W_rz (rfl : (pj lw).1 100 191 = some (.ireturn, 1, 0)) rfl
theorem w100_192 {x : Nat} {l0 l1 l2 l3 : Slot} : W (pj lw) 100 192 (l0 :: l1 :: l2 :: l3 :: .val (.ref x) :: L) S k n H Q ↔ W (pj lw) 100 194 (l0 :: l1 :: l2 :: l3 :: .val (.ref x) :: L) (.ref x :: S) k n H Q := W_s (rfl : (pj lw).1 100 192 = some (.aload 4, 2, 0)) rfl rfl rfl
theorem w100_194 : W (pj lw) 100 194 L S k n H Q ↔ W (pj lw) 100 195 L (.int 0 :: S) k n H Q := W_s (rfl : (pj lw).1 100 194 = some (.iconst 0, 1, 0)) rfl rfl rfl
theorem w100_195 {a : Nat} {x0 : Int32} : W (pj lw) 100 195 L (.int x0 :: .ref a :: S) k n H Q ↔ ((isO H a = true ∧ cs S + (2 + 11) + 26 ≤ 176) ∧ Cl (pj lw) 8 [.ref a, .int x0] H (fun v H => W (pj lw) 100 198 L (v.toList ++ S) k n H Q)) := W_inst (as := [.int x0]) (rfl : (pj lw).1 100 195 = some (.invokevirtual 26, 3, 8)) rfl rfl rfl (Nat.le_of_ble_eq_true rfl) (Nat.le_of_ble_eq_true rfl) ⟨rfl, rfl⟩
theorem w100_198 {x : Int32} {l0 l1 l2 l3 l4 l5 l6 l7 l8 l9 l10 l11 l12 l13 : Slot} : W (pj lw) 100 198 (l0 :: l1 :: l2 :: l3 :: l4 :: l5 :: l6 :: l7 :: l8 :: l9 :: l10 :: l11 :: l12 :: l13 :: .val (.int x) :: L) S k n H Q ↔ W (pj lw) 100 200 (l0 :: l1 :: l2 :: l3 :: l4 :: l5 :: l6 :: l7 :: l8 :: l9 :: l10 :: l11 :: l12 :: l13 :: .val (.int x) :: L) (.int x :: S) k n H Q := W_s (rfl : (pj lw).1 100 198 = some (.iload 14, 2, 0)) rfl rfl rfl
theorem w100_200 {x : Int32} : W (pj lw) 100 200 L (.int x :: S) k n H Q ↔ (if x = 0 then W (pj lw) 100 208 L S k n H Q else W (pj lw) 100 203 L S k n H Q) := W_if_eq (rfl : (pj lw).1 100 200 = some (.ifCond .eq 8, 3, 0)) rfl
theorem w100_203 {x : Int32} {l0 l1 l2 l3 l4 l5 l6 l7 l8 l9 l10 : Slot} : W (pj lw) 100 203 (l0 :: l1 :: l2 :: l3 :: l4 :: l5 :: l6 :: l7 :: l8 :: l9 :: l10 :: .val (.int x) :: L) S k n H Q ↔ W (pj lw) 100 205 (l0 :: l1 :: l2 :: l3 :: l4 :: l5 :: l6 :: l7 :: l8 :: l9 :: l10 :: .val (.int x) :: L) (.int x :: S) k n H Q := W_s (rfl : (pj lw).1 100 203 = some (.iload 11, 2, 0)) rfl rfl rfl
theorem w100_205 : W (pj lw) 100 205 L S k n H Q ↔ W (pj lw) 100 209 L S k n H Q := W_goto (rfl : (pj lw).1 100 205 = some (.goto 4, 3, 0)) rfl
theorem w100_208 : W (pj lw) 100 208 L S k n H Q ↔ W (pj lw) 100 209 L (.int 0 :: S) k n H Q := W_s (rfl : (pj lw).1 100 208 = some (.iconst 0, 1, 0)) rfl rfl rfl
theorem w100_209 {x y : Int32} : W (pj lw) 100 209 L (.int y :: .int x :: S) k n H Q ↔ (if x = y then W (pj lw) 100 214 L S k n H Q else W (pj lw) 100 212 L S k n H Q) := W_icmp_eq (rfl : (pj lw).1 100 209 = some (.if_icmp .eq 5, 3, 0)) rfl
theorem w100_212 : W (pj lw) 100 212 L S k n H Q ↔ W (pj lw) 100 213 L (.int 0 :: S) k n H Q := W_s (rfl : (pj lw).1 100 212 = some (.iconst 0, 1, 0)) rfl rfl rfl
theorem w100_213 {x : Int32} : W (pj lw) 100 213 L (.int x :: S) k n H Q ↔ ((x = 0 ∨ x = 1) ∧ Q (some (.int x)) H) := W_rz (rfl : (pj lw).1 100 213 = some (.ireturn, 1, 0)) rfl
theorem w100_214 {x : Nat} {l0 l1 l2 l3 : Slot} : W (pj lw) 100 214 (l0 :: l1 :: l2 :: l3 :: .val (.ref x) :: L) S k n H Q ↔ W (pj lw) 100 216 (l0 :: l1 :: l2 :: l3 :: .val (.ref x) :: L) (.ref x :: S) k n H Q := W_s (rfl : (pj lw).1 100 214 = some (.aload 4, 2, 0)) rfl rfl rfl
theorem w100_216 : W (pj lw) 100 216 L S k n H Q ↔ W (pj lw) 100 217 L (.int 0 :: S) k n H Q := W_s (rfl : (pj lw).1 100 216 = some (.iconst 0, 1, 0)) rfl rfl rfl
theorem w100_217 : W (pj lw) 100 217 L S k n H Q ↔ W (pj lw) 100 218 L (.int 0 :: S) k n H Q := W_s (rfl : (pj lw).1 100 217 = some (.iconst 0, 1, 0)) rfl rfl rfl
theorem w100_218 {a : Nat} {x0 : Int32} {x1 : Int32} : W (pj lw) 100 218 L (.int x1 :: .int x0 :: .ref a :: S) k n H Q ↔ ((isO H a = true ∧ cs S + (3 + 11) + 26 ≤ 176) ∧ Cl (pj lw) 7 [.ref a, .int x0, .int x1] H (fun v H => W (pj lw) 100 221 L (v.toList ++ S) k n H Q)) := W_inst (as := [.int x0, .int x1]) (rfl : (pj lw).1 100 218 = some (.invokevirtual 30, 3, 7)) rfl rfl rfl (Nat.le_of_ble_eq_true rfl) (Nat.le_of_ble_eq_true rfl) ⟨rfl, rfl⟩
theorem w100_221 {x : Int32} {l0 l1 l2 l3 l4 l5 l6 l7 l8 l9 l10 l11 l12 l13 : Slot} : W (pj lw) 100 221 (l0 :: l1 :: l2 :: l3 :: l4 :: l5 :: l6 :: l7 :: l8 :: l9 :: l10 :: l11 :: l12 :: l13 :: .val (.int x) :: L) S k n H Q ↔ W (pj lw) 100 223 (l0 :: l1 :: l2 :: l3 :: l4 :: l5 :: l6 :: l7 :: l8 :: l9 :: l10 :: l11 :: l12 :: l13 :: .val (.int x) :: L) (.int x :: S) k n H Q := W_s (rfl : (pj lw).1 100 221 = some (.iload 14, 2, 0)) rfl rfl rfl
theorem w100_223 {x : Int32} : W (pj lw) 100 223 L (.int x :: S) k n H Q ↔ (if x = 0 then W (pj lw) 100 230 L S k n H Q else W (pj lw) 100 226 L S k n H Q) := W_if_eq (rfl : (pj lw).1 100 223 = some (.ifCond .eq 7, 3, 0)) rfl
theorem w100_226 {x : Int32} {l0 : Slot} : W (pj lw) 100 226 (l0 :: .val (.int x) :: L) S k n H Q ↔ W (pj lw) 100 227 (l0 :: .val (.int x) :: L) (.int x :: S) k n H Q := W_s (rfl : (pj lw).1 100 226 = some (.iload_n 1, 1, 0)) rfl rfl rfl
theorem w100_227 : W (pj lw) 100 227 L S k n H Q ↔ W (pj lw) 100 232 L S k n H Q := W_goto (rfl : (pj lw).1 100 227 = some (.goto 5, 3, 0)) rfl
theorem w100_230 {x : Int32} {l0 l1 l2 l3 l4 : Slot} : W (pj lw) 100 230 (l0 :: l1 :: l2 :: l3 :: l4 :: .val (.int x) :: L) S k n H Q ↔ W (pj lw) 100 232 (l0 :: l1 :: l2 :: l3 :: l4 :: .val (.int x) :: L) (.int x :: S) k n H Q := W_s (rfl : (pj lw).1 100 230 = some (.iload 5, 2, 0)) rfl rfl rfl
theorem w100_232 {x y : Int32} : W (pj lw) 100 232 L (.int y :: .int x :: S) k n H Q ↔ (if x = y then W (pj lw) 100 237 L S k n H Q else W (pj lw) 100 235 L S k n H Q) := W_icmp_eq (rfl : (pj lw).1 100 232 = some (.if_icmp .eq 5, 3, 0)) rfl
theorem w100_235 : W (pj lw) 100 235 L S k n H Q ↔ W (pj lw) 100 236 L (.int 0 :: S) k n H Q := W_s (rfl : (pj lw).1 100 235 = some (.iconst 0, 1, 0)) rfl rfl rfl
theorem w100_236 {x : Int32} : W (pj lw) 100 236 L (.int x :: S) k n H Q ↔ ((x = 0 ∨ x = 1) ∧ Q (some (.int x)) H) := W_rz (rfl : (pj lw).1 100 236 = some (.ireturn, 1, 0)) rfl
theorem w100_237 {x : Nat} {l0 l1 l2 l3 : Slot} : W (pj lw) 100 237 (l0 :: l1 :: l2 :: l3 :: .val (.ref x) :: L) S k n H Q ↔ W (pj lw) 100 239 (l0 :: l1 :: l2 :: l3 :: .val (.ref x) :: L) (.ref x :: S) k n H Q := W_s (rfl : (pj lw).1 100 237 = some (.aload 4, 2, 0)) rfl rfl rfl
theorem w100_239 : W (pj lw) 100 239 L S k n H Q ↔ W (pj lw) 100 240 L (.int 0 :: S) k n H Q := W_s (rfl : (pj lw).1 100 239 = some (.iconst 0, 1, 0)) rfl rfl rfl
theorem w100_240 : W (pj lw) 100 240 L S k n H Q ↔ W (pj lw) 100 241 L (.int 1 :: S) k n H Q := W_s (rfl : (pj lw).1 100 240 = some (.iconst 1, 1, 0)) rfl rfl rfl
theorem w100_241 {a : Nat} {x0 : Int32} {x1 : Int32} : W (pj lw) 100 241 L (.int x1 :: .int x0 :: .ref a :: S) k n H Q ↔ ((isO H a = true ∧ cs S + (3 + 11) + 26 ≤ 176) ∧ Cl (pj lw) 7 [.ref a, .int x0, .int x1] H (fun v H => W (pj lw) 100 244 L (v.toList ++ S) k n H Q)) := W_inst (as := [.int x0, .int x1]) (rfl : (pj lw).1 100 241 = some (.invokevirtual 30, 3, 7)) rfl rfl rfl (Nat.le_of_ble_eq_true rfl) (Nat.le_of_ble_eq_true rfl) ⟨rfl, rfl⟩
theorem w100_244 {x : Int32} {l0 l1 l2 l3 l4 l5 l6 l7 l8 l9 l10 l11 l12 l13 : Slot} : W (pj lw) 100 244 (l0 :: l1 :: l2 :: l3 :: l4 :: l5 :: l6 :: l7 :: l8 :: l9 :: l10 :: l11 :: l12 :: l13 :: .val (.int x) :: L) S k n H Q ↔ W (pj lw) 100 246 (l0 :: l1 :: l2 :: l3 :: l4 :: l5 :: l6 :: l7 :: l8 :: l9 :: l10 :: l11 :: l12 :: l13 :: .val (.int x) :: L) (.int x :: S) k n H Q := W_s (rfl : (pj lw).1 100 244 = some (.iload 14, 2, 0)) rfl rfl rfl
theorem w100_246 {x : Int32} : W (pj lw) 100 246 L (.int x :: S) k n H Q ↔ (if x = 0 then W (pj lw) 100 253 L S k n H Q else W (pj lw) 100 249 L S k n H Q) := W_if_eq (rfl : (pj lw).1 100 246 = some (.ifCond .eq 7, 3, 0)) rfl
theorem w100_249 {x : Int32} {l0 l1 : Slot} : W (pj lw) 100 249 (l0 :: l1 :: .val (.int x) :: L) S k n H Q ↔ W (pj lw) 100 250 (l0 :: l1 :: .val (.int x) :: L) (.int x :: S) k n H Q := W_s (rfl : (pj lw).1 100 249 = some (.iload_n 2, 1, 0)) rfl rfl rfl
theorem w100_250 : W (pj lw) 100 250 L S k n H Q ↔ W (pj lw) 100 255 L S k n H Q := W_goto (rfl : (pj lw).1 100 250 = some (.goto 5, 3, 0)) rfl
theorem w100_253 {x : Int32} {l0 l1 l2 l3 l4 : Slot} : W (pj lw) 100 253 (l0 :: l1 :: l2 :: l3 :: l4 :: .val (.int x) :: L) S k n H Q ↔ W (pj lw) 100 255 (l0 :: l1 :: l2 :: l3 :: l4 :: .val (.int x) :: L) (.int x :: S) k n H Q := W_s (rfl : (pj lw).1 100 253 = some (.iload 5, 2, 0)) rfl rfl rfl
theorem w100_255 {x y : Int32} : W (pj lw) 100 255 L (.int y :: .int x :: S) k n H Q ↔ (if x = y then W (pj lw) 100 260 L S k n H Q else W (pj lw) 100 258 L S k n H Q) := W_icmp_eq (rfl : (pj lw).1 100 255 = some (.if_icmp .eq 5, 3, 0)) rfl
theorem w100_258 : W (pj lw) 100 258 L S k n H Q ↔ W (pj lw) 100 259 L (.int 0 :: S) k n H Q := W_s (rfl : (pj lw).1 100 258 = some (.iconst 0, 1, 0)) rfl rfl rfl
theorem w100_259 {x : Int32} : W (pj lw) 100 259 L (.int x :: S) k n H Q ↔ ((x = 0 ∨ x = 1) ∧ Q (some (.int x)) H) := W_rz (rfl : (pj lw).1 100 259 = some (.ireturn, 1, 0)) rfl
theorem w100_260 {x : Nat} {l0 l1 l2 l3 : Slot} : W (pj lw) 100 260 (l0 :: l1 :: l2 :: l3 :: .val (.ref x) :: L) S k n H Q ↔ W (pj lw) 100 262 (l0 :: l1 :: l2 :: l3 :: .val (.ref x) :: L) (.ref x :: S) k n H Q := W_s (rfl : (pj lw).1 100 260 = some (.aload 4, 2, 0)) rfl rfl rfl
theorem w100_262 {a : Nat} : W (pj lw) 100 262 L (.ref a :: S) k n H Q ↔ ((isO H a = true ∧ cs S + (1 + 11) + 0 ≤ 176) ∧ Cl (pj lw) 10 [.ref a] H (fun v H => W (pj lw) 100 265 L (v.toList ++ S) k n H Q)) := W_inst (as := []) (rfl : (pj lw).1 100 262 = some (.invokevirtual 34, 3, 10)) rfl rfl rfl (Nat.le_of_ble_eq_true rfl) (Nat.le_of_ble_eq_true rfl) ⟨rfl, rfl⟩
theorem w100_265 {x : Int32} {l0 l1 l2 l3 l4 l5 l6 l7 l8 l9 l10 l11 l12 l13 : Slot} : W (pj lw) 100 265 (l0 :: l1 :: l2 :: l3 :: l4 :: l5 :: l6 :: l7 :: l8 :: l9 :: l10 :: l11 :: l12 :: l13 :: .val (.int x) :: L) S k n H Q ↔ W (pj lw) 100 267 (l0 :: l1 :: l2 :: l3 :: l4 :: l5 :: l6 :: l7 :: l8 :: l9 :: l10 :: l11 :: l12 :: l13 :: .val (.int x) :: L) (.int x :: S) k n H Q := W_s (rfl : (pj lw).1 100 265 = some (.iload 14, 2, 0)) rfl rfl rfl
theorem w100_267 {x : Int32} : W (pj lw) 100 267 L (.int x :: S) k n H Q ↔ (if x = 0 then W (pj lw) 100 276 L S k n H Q else W (pj lw) 100 270 L S k n H Q) := W_if_eq (rfl : (pj lw).1 100 267 = some (.ifCond .eq 9, 3, 0)) rfl
theorem w100_270 {x : Int32} {l0 l1 l2 l3 l4 l5 l6 l7 l8 l9 l10 : Slot} : W (pj lw) 100 270 (l0 :: l1 :: l2 :: l3 :: l4 :: l5 :: l6 :: l7 :: l8 :: l9 :: l10 :: .val (.int x) :: L) S k n H Q ↔ W (pj lw) 100 272 (l0 :: l1 :: l2 :: l3 :: l4 :: l5 :: l6 :: l7 :: l8 :: l9 :: l10 :: .val (.int x) :: L) (.int x :: S) k n H Q := W_s (rfl : (pj lw).1 100 270 = some (.iload 11, 2, 0)) rfl rfl rfl
theorem w100_272 {x : Int32} : W (pj lw) 100 272 L (.int x :: S) k n H Q ↔ W (pj lw) 100 273 L (.long x.toInt64 :: S) k n H Q := W_s (rfl : (pj lw).1 100 272 = some (.i2l, 1, 0)) rfl rfl rfl
theorem w100_273 : W (pj lw) 100 273 L S k n H Q ↔ W (pj lw) 100 277 L S k n H Q := W_goto (rfl : (pj lw).1 100 273 = some (.goto 4, 3, 0)) rfl
theorem w100_276 : W (pj lw) 100 276 L S k n H Q ↔ W (pj lw) 100 277 L (.long 0 :: S) k n H Q := W_s (rfl : (pj lw).1 100 276 = some (.lconst 0, 1, 0)) rfl rfl rfl
theorem w100_277 {x y : Int64} : W (pj lw) 100 277 L (.long y :: .long x :: S) k n H Q ↔ W (pj lw) 100 278 L (.int (Jvm.Free.XT.cmpL x y) :: S) k n H Q := W_s (rfl : (pj lw).1 100 277 = some (.lcmp, 1, 0)) rfl rfl rfl
theorem w100_278 {x : Int32} : W (pj lw) 100 278 L (.int x :: S) k n H Q ↔ (if x = 0 then W (pj lw) 100 283 L S k n H Q else W (pj lw) 100 281 L S k n H Q) := W_if_eq (rfl : (pj lw).1 100 278 = some (.ifCond .eq 5, 3, 0)) rfl
theorem w100_281 : W (pj lw) 100 281 L S k n H Q ↔ W (pj lw) 100 282 L (.int 0 :: S) k n H Q := W_s (rfl : (pj lw).1 100 281 = some (.iconst 0, 1, 0)) rfl rfl rfl
theorem w100_282 {x : Int32} : W (pj lw) 100 282 L (.int x :: S) k n H Q ↔ ((x = 0 ∨ x = 1) ∧ Q (some (.int x)) H) := W_rz (rfl : (pj lw).1 100 282 = some (.ireturn, 1, 0)) rfl
theorem w100_283 {x : Nat} {l0 l1 l2 l3 : Slot} : W (pj lw) 100 283 (l0 :: l1 :: l2 :: l3 :: .val (.ref x) :: L) S k n H Q ↔ W (pj lw) 100 285 (l0 :: l1 :: l2 :: l3 :: .val (.ref x) :: L) (.ref x :: S) k n H Q := W_s (rfl : (pj lw).1 100 283 = some (.aload 4, 2, 0)) rfl rfl rfl
theorem w100_285 {a : Nat} : W (pj lw) 100 285 L (.ref a :: S) k n H Q ↔ ((isO H a = true ∧ cs S + (1 + 11) + 0 ≤ 176) ∧ Cl (pj lw) 12 [.ref a] H (fun v H => W (pj lw) 100 288 L (v.toList ++ S) k n H Q)) := W_inst (as := []) (rfl : (pj lw).1 100 285 = some (.invokevirtual 38, 3, 12)) rfl rfl rfl (Nat.le_of_ble_eq_true rfl) (Nat.le_of_ble_eq_true rfl) ⟨rfl, rfl⟩
theorem w100_288 {x : Int32} {l0 l1 l2 l3 l4 l5 l6 l7 l8 l9 l10 l11 l12 l13 : Slot} : W (pj lw) 100 288 (l0 :: l1 :: l2 :: l3 :: l4 :: l5 :: l6 :: l7 :: l8 :: l9 :: l10 :: l11 :: l12 :: l13 :: .val (.int x) :: L) S k n H Q ↔ W (pj lw) 100 290 (l0 :: l1 :: l2 :: l3 :: l4 :: l5 :: l6 :: l7 :: l8 :: l9 :: l10 :: l11 :: l12 :: l13 :: .val (.int x) :: L) (.int x :: S) k n H Q := W_s (rfl : (pj lw).1 100 288 = some (.iload 14, 2, 0)) rfl rfl rfl
theorem w100_290 {x : Int32} : W (pj lw) 100 290 L (.int x :: S) k n H Q ↔ (if x = 0 then W (pj lw) 100 300 L S k n H Q else W (pj lw) 100 293 L S k n H Q) := W_if_eq (rfl : (pj lw).1 100 290 = some (.ifCond .eq 10, 3, 0)) rfl
theorem w100_293 {x : Int32} {l0 l1 l2 l3 l4 l5 l6 l7 : Slot} : W (pj lw) 100 293 (l0 :: l1 :: l2 :: l3 :: l4 :: l5 :: l6 :: l7 :: .val (.int x) :: L) S k n H Q ↔ W (pj lw) 100 295 (l0 :: l1 :: l2 :: l3 :: l4 :: l5 :: l6 :: l7 :: .val (.int x) :: L) (.int x :: S) k n H Q := W_s (rfl : (pj lw).1 100 293 = some (.iload 8, 2, 0)) rfl rfl rfl
theorem w100_295 : W (pj lw) 100 295 L S k n H Q ↔ W (pj lw) 100 296 L (.int 1 :: S) k n H Q := W_s (rfl : (pj lw).1 100 295 = some (.iconst 1, 1, 0)) rfl rfl rfl
theorem w100_296 {x y : Int32} : W (pj lw) 100 296 L (.int y :: .int x :: S) k n H Q ↔ W (pj lw) 100 297 L (.int (x - y) :: S) k n H Q := W_s (rfl : (pj lw).1 100 296 = some (.isub, 1, 0)) rfl rfl rfl
theorem w100_297 : W (pj lw) 100 297 L S k n H Q ↔ W (pj lw) 100 302 L S k n H Q := W_goto (rfl : (pj lw).1 100 297 = some (.goto 5, 3, 0)) rfl
theorem w100_300 {x : Int32} {l0 l1 l2 l3 l4 l5 l6 l7 : Slot} : W (pj lw) 100 300 (l0 :: l1 :: l2 :: l3 :: l4 :: l5 :: l6 :: l7 :: .val (.int x) :: L) S k n H Q ↔ W (pj lw) 100 302 (l0 :: l1 :: l2 :: l3 :: l4 :: l5 :: l6 :: l7 :: .val (.int x) :: L) (.int x :: S) k n H Q := W_s (rfl : (pj lw).1 100 300 = some (.iload 8, 2, 0)) rfl rfl rfl
theorem w100_302 {x y : Int32} : W (pj lw) 100 302 L (.int y :: .int x :: S) k n H Q ↔ (if x = y then W (pj lw) 100 307 L S k n H Q else W (pj lw) 100 305 L S k n H Q) := W_icmp_eq (rfl : (pj lw).1 100 302 = some (.if_icmp .eq 5, 3, 0)) rfl
theorem w100_305 : W (pj lw) 100 305 L S k n H Q ↔ W (pj lw) 100 306 L (.int 0 :: S) k n H Q := W_s (rfl : (pj lw).1 100 305 = some (.iconst 0, 1, 0)) rfl rfl rfl
theorem w100_306 {x : Int32} : W (pj lw) 100 306 L (.int x :: S) k n H Q ↔ ((x = 0 ∨ x = 1) ∧ Q (some (.int x)) H) := W_rz (rfl : (pj lw).1 100 306 = some (.ireturn, 1, 0)) rfl
theorem w100_307 {x : Nat} {l0 l1 l2 l3 : Slot} : W (pj lw) 100 307 (l0 :: l1 :: l2 :: l3 :: .val (.ref x) :: L) S k n H Q ↔ W (pj lw) 100 309 (l0 :: l1 :: l2 :: l3 :: .val (.ref x) :: L) (.ref x :: S) k n H Q := W_s (rfl : (pj lw).1 100 307 = some (.aload 4, 2, 0)) rfl rfl rfl
theorem w100_309 {a : Nat} : W (pj lw) 100 309 L (.ref a :: S) k n H Q ↔ ((isO H a = true ∧ cs S + (1 + 11) + 0 ≤ 176) ∧ Cl (pj lw) 16 [.ref a] H (fun v H => W (pj lw) 100 312 L (v.toList ++ S) k n H Q)) := W_inst (as := []) (rfl : (pj lw).1 100 309 = some (.invokevirtual 41, 3, 16)) rfl rfl rfl (Nat.le_of_ble_eq_true rfl) (Nat.le_of_ble_eq_true rfl) ⟨rfl, rfl⟩
theorem w100_312 {x : Int32} {l0 l1 l2 l3 l4 l5 l6 l7 l8 l9 l10 l11 l12 l13 : Slot} : W (pj lw) 100 312 (l0 :: l1 :: l2 :: l3 :: l4 :: l5 :: l6 :: l7 :: l8 :: l9 :: l10 :: l11 :: l12 :: l13 :: .val (.int x) :: L) S k n H Q ↔ W (pj lw) 100 314 (l0 :: l1 :: l2 :: l3 :: l4 :: l5 :: l6 :: l7 :: l8 :: l9 :: l10 :: l11 :: l12 :: l13 :: .val (.int x) :: L) (.int x :: S) k n H Q := W_s (rfl : (pj lw).1 100 312 = some (.iload 14, 2, 0)) rfl rfl rfl
theorem w100_314 {x : Int32} : W (pj lw) 100 314 L (.int x :: S) k n H Q ↔ (if x = 0 then W (pj lw) 100 321 L S k n H Q else W (pj lw) 100 317 L S k n H Q) := W_if_eq (rfl : (pj lw).1 100 314 = some (.ifCond .eq 7, 3, 0)) rfl
theorem w100_317 : W (pj lw) 100 317 L S k n H Q ↔ W (pj lw) 100 318 L (.int 0 :: S) k n H Q := W_s (rfl : (pj lw).1 100 317 = some (.iconst 0, 1, 0)) rfl rfl rfl
theorem w100_318 : W (pj lw) 100 318 L S k n H Q ↔ W (pj lw) 100 323 L S k n H Q := W_goto (rfl : (pj lw).1 100 318 = some (.goto 5, 3, 0)) rfl
theorem w100_321 {x : Int32} {l0 l1 l2 l3 l4 : Slot} : W (pj lw) 100 321 (l0 :: l1 :: l2 :: l3 :: l4 :: .val (.int x) :: L) S k n H Q ↔ W (pj lw) 100 323 (l0 :: l1 :: l2 :: l3 :: l4 :: .val (.int x) :: L) (.int x :: S) k n H Q := W_s (rfl : (pj lw).1 100 321 = some (.iload 5, 2, 0)) rfl rfl rfl
theorem w100_323 {x y : Int32} : W (pj lw) 100 323 L (.int y :: .int x :: S) k n H Q ↔ (if x = y then W (pj lw) 100 328 L S k n H Q else W (pj lw) 100 326 L S k n H Q) := W_icmp_eq (rfl : (pj lw).1 100 323 = some (.if_icmp .eq 5, 3, 0)) rfl
theorem w100_326 : W (pj lw) 100 326 L S k n H Q ↔ W (pj lw) 100 327 L (.int 0 :: S) k n H Q := W_s (rfl : (pj lw).1 100 326 = some (.iconst 0, 1, 0)) rfl rfl rfl
theorem w100_327 {x : Int32} : W (pj lw) 100 327 L (.int x :: S) k n H Q ↔ ((x = 0 ∨ x = 1) ∧ Q (some (.int x)) H) := W_rz (rfl : (pj lw).1 100 327 = some (.ireturn, 1, 0)) rfl
theorem w100_328 {x : Nat} {l0 l1 l2 l3 : Slot} : W (pj lw) 100 328 (l0 :: l1 :: l2 :: l3 :: .val (.ref x) :: L) S k n H Q ↔ W (pj lw) 100 330 (l0 :: l1 :: l2 :: l3 :: .val (.ref x) :: L) (.ref x :: S) k n H Q := W_s (rfl : (pj lw).1 100 328 = some (.aload 4, 2, 0)) rfl rfl rfl
theorem w100_330 {a : Nat} : W (pj lw) 100 330 L (.ref a :: S) k n H Q ↔ ((isO H a = true ∧ cs S + (1 + 11) + 0 ≤ 176) ∧ Cl (pj lw) 17 [.ref a] H (fun v H => W (pj lw) 100 333 L (v.toList ++ S) k n H Q)) := W_inst (as := []) (rfl : (pj lw).1 100 330 = some (.invokevirtual 44, 3, 17)) rfl rfl rfl (Nat.le_of_ble_eq_true rfl) (Nat.le_of_ble_eq_true rfl) ⟨rfl, rfl⟩
theorem w100_333 {x : Int32} {l0 l1 l2 l3 l4 : Slot} : W (pj lw) 100 333 (l0 :: l1 :: l2 :: l3 :: l4 :: .val (.int x) :: L) S k n H Q ↔ W (pj lw) 100 335 (l0 :: l1 :: l2 :: l3 :: l4 :: .val (.int x) :: L) (.int x :: S) k n H Q := W_s (rfl : (pj lw).1 100 333 = some (.iload 5, 2, 0)) rfl rfl rfl
theorem w100_335 {x y : Int32} : W (pj lw) 100 335 L (.int y :: .int x :: S) k n H Q ↔ (if x = y then W (pj lw) 100 338 L S k n H Q else W (pj lw) 100 342 L S k n H Q) := W_icmp_ne (rfl : (pj lw).1 100 335 = some (.if_icmp .ne 7, 3, 0)) rfl
theorem w100_338 : W (pj lw) 100 338 L S k n H Q ↔ W (pj lw) 100 339 L (.int 1 :: S) k n H Q := W_s (rfl : (pj lw).1 100 338 = some (.iconst 1, 1, 0)) rfl rfl rfl
theorem w100_339 : W (pj lw) 100 339 L S k n H Q ↔ W (pj lw) 100 343 L S k n H Q := W_goto (rfl : (pj lw).1 100 339 = some (.goto 4, 3, 0)) rfl
theorem w100_342 : W (pj lw) 100 342 L S k n H Q ↔ W (pj lw) 100 343 L (.int 0 :: S) k n H Q := W_s (rfl : (pj lw).1 100 342 = some (.iconst 0, 1, 0)) rfl rfl rfl
theorem w100_343 {x : Int32} : W (pj lw) 100 343 L (.int x :: S) k n H Q ↔ ((x = 0 ∨ x = 1) ∧ Q (some (.int x)) H) := W_rz (rfl : (pj lw).1 100 343 = some (.ireturn, 1, 0)) rfl
end LPc
set_option maxRecDepth 100000 in
set_option maxHeartbeats 4000000 in
theorem law_ok (i0 i1 i2 i3 : Int32) (N : Nat) : Cl (pj lw) 100 [.int i0, .int i1, .int i2, .int i3] (H0 N) (fun v _ => v = some (.int 1)) := by
  rw [c100]
  have e1 : (if i0 < 2 then 2 else if 32 < i0 then 32 else i0) = cl 2 32 i0 := rfl
  have e2 : (if i3 < -1000000 then -1000000 else if 1000000 < i3 then 1000000 else i3) = cl (-1000000) 1000000 i3 := rfl
  simp +decide only [w100_0, w100_3, w100_4, w100_5, w100_8, w100_10, w100_11, w100_13, w100_14, w100_16, w100_18, w100_20, w100_21, w100_23, w100_26, w100_28, w100_31, w100_32, w100_34, w100_37, w100_39, w100_42, w100_45, w100_47, w100_49, w100_51, w100_53, w100_54, w100_56, w100_59, w100_61, w100_64, w100_65, w100_67, w100_70, w100_72, w100_75, w100_78, w100_79, w100_82, w100_83, w100_85, w100_88, w100_89, w100_92, w100_93, w100_95, w100_98, w100_99, w100_102, w100_105, w100_107, w100_110, w100_112, w100_115, w100_116, w100_117, w100_120, w100_122, w100_125, w100_128, w100_130, w100_133, w100_134, w100_137, w100_140, w100_142, w100_143, w100_144, w100_145, w100_148, w100_150, w100_152, w100_154, w100_157, w100_158, w100_159, w100_161, w100_164, w100_166, w100_169, w100_170, w100_173, w100_177, w100_178, w100_179, w100_181, w100_182, w100_185, w100_187, w100_190, w100_191, w100_192, w100_194, w100_195, w100_198, w100_200, w100_203, w100_205, w100_208, w100_212, w100_213, w100_214, w100_216, w100_217, w100_218, w100_221, w100_223, w100_226, w100_227, w100_230, w100_235, w100_236, w100_237, w100_239, w100_240, w100_241, w100_244, w100_246, w100_249, w100_250, w100_253, w100_258, w100_259, w100_260, w100_262, w100_265, w100_267, w100_270, w100_272, w100_273, w100_276, w100_278, w100_281, w100_282, w100_283, w100_285, w100_288, w100_290, w100_293, w100_295, w100_296, w100_297, w100_300, w100_305, w100_306, w100_307, w100_309, w100_312, w100_314, w100_317, w100_318, w100_321, w100_326, w100_327, w100_328, w100_330, w100_333, w100_335, w100_338, w100_339, w100_342, zr_z0, zr_uI, zr_uJ, isO_put, isOw_put, put_fst, okv_int, okv_long, okv_ref, okv_bool, okv_byte, cat1_unset, cat1_int, cat1_ref, cs_nil, cs_int, cs_ref, cs_long, cmpL_lt, cmpL_gt, cmpL_eq, sI_uI, sI_uJ, sI_uA, sI_uB, sJ_uI, sJ_uJ, sJ_uA, sJ_uB, sA_uI, sA_uJ, sA_uA, sA_uB, sB_uI, sB_uJ, sB_uA, sB_uB, sI_fA, sJ_fA, sA_fA, sB_fA, sI_z0, sJ_z0, sA_z0, sB_z0, Option.toList_some, Option.toList_none, List.cons_append, List.nil_append, true_and, and_true, false_and, and_false, or_false, false_or, or_true, true_or, not_true_eq_false, not_false_eq_true, ↓reduceIte, Nat.reduceAdd, Nat.reduceLeDiff, Nat.reduceEqDiff, Nat.reduceSub, Int32.reduceAdd, Int32.reduceSub, Int32.reduceMul, Int32.reduceToNatClampNeg, Int64.reduceAdd, Int64.reduceSub, Int64.reduceMul, Int64.reduceLT, Int32.reduceLT, Int32.reduceToInt, Nat.add_zero, Nat.zero_add, Nat.le_refl, eq_self, implies_true, ne_eq, mkO_ob, t1, H0, W_ite, e1, e2]
  simp +decide only [w100_0, w100_3, w100_4, w100_5, w100_8, w100_10, w100_11, w100_13, w100_14, w100_16, w100_18, w100_20, w100_21, w100_23, w100_26, w100_28, w100_31, w100_32, w100_34, w100_37, w100_39, w100_42, w100_45, w100_47, w100_49, w100_51, w100_53, w100_54, w100_56, w100_59, w100_61, w100_64, w100_65, w100_67, w100_70, w100_72, w100_75, w100_78, w100_79, w100_82, w100_83, w100_85, w100_88, w100_89, w100_92, w100_93, w100_95, w100_98, w100_99, w100_102, w100_105, w100_107, w100_110, w100_112, w100_115, w100_116, w100_117, w100_120, w100_122, w100_125, w100_128, w100_130, w100_133, w100_134, w100_137, w100_140, w100_142, w100_143, w100_144, w100_145, w100_148, w100_150, w100_152, w100_154, w100_157, w100_158, w100_159, w100_161, w100_164, w100_166, w100_169, w100_170, w100_173, w100_177, w100_178, w100_179, w100_181, w100_182, w100_185, w100_187, w100_190, w100_191, w100_192, w100_194, w100_195, w100_198, w100_200, w100_203, w100_205, w100_208, w100_212, w100_213, w100_214, w100_216, w100_217, w100_218, w100_221, w100_223, w100_226, w100_227, w100_230, w100_235, w100_236, w100_237, w100_239, w100_240, w100_241, w100_244, w100_246, w100_249, w100_250, w100_253, w100_258, w100_259, w100_260, w100_262, w100_265, w100_267, w100_270, w100_272, w100_273, w100_276, w100_278, w100_281, w100_282, w100_283, w100_285, w100_288, w100_290, w100_293, w100_295, w100_296, w100_297, w100_300, w100_305, w100_306, w100_307, w100_309, w100_312, w100_314, w100_317, w100_318, w100_321, w100_326, w100_327, w100_328, w100_330, w100_333, w100_335, w100_338, w100_339, w100_342, w100_43, zr_z0, zr_uI, zr_uJ, isO_put, isOw_put, put_fst, okv_int, okv_long, okv_ref, okv_bool, okv_byte, cat1_unset, cat1_int, cat1_ref, cs_nil, cs_int, cs_ref, cs_long, cmpL_lt, cmpL_gt, cmpL_eq, sI_uI, sI_uJ, sI_uA, sI_uB, sJ_uI, sJ_uJ, sJ_uA, sJ_uB, sA_uI, sA_uJ, sA_uA, sA_uB, sB_uI, sB_uJ, sB_uA, sB_uB, sI_fA, sJ_fA, sA_fA, sB_fA, sI_z0, sJ_z0, sA_z0, sB_z0, Option.toList_some, Option.toList_none, List.cons_append, List.nil_append, true_and, and_true, false_and, and_false, or_false, false_or, or_true, true_or, not_true_eq_false, not_false_eq_true, ↓reduceIte, Nat.reduceAdd, Nat.reduceLeDiff, Nat.reduceEqDiff, Nat.reduceSub, Int32.reduceAdd, Int32.reduceSub, Int32.reduceMul, Int32.reduceToNatClampNeg, Int64.reduceAdd, Int64.reduceSub, Int64.reduceMul, Int64.reduceLT, Int32.reduceLT, Int32.reduceToInt, Nat.add_zero, Nat.zero_add, Nat.le_refl, eq_self, implies_true, ne_eq, mkO_ob, t1, H0, W_ite, e1, e2]
  have hr1 := cl_rg (lo := 2) (hi := 32) i0 (by decide)
  clear e1 e2
  simp only [Int32.reduceToInt] at hr1
  simp only [ini0]
  generalize cl 2 32 i0 = nn at *
  have h1 : True := trivial
  have h2 : True := trivial
  have h3 : True := trivial
  have h4 : True := trivial
  have h5 : True := trivial
  have h6 : True := trivial
  have h7 : True := trivial
  have h8 : True := trivial
  have h9 : True := trivial
  have h10 : True := trivial
  have h11 : True := trivial
  have h3' : True := trivial
  have h4' : True := trivial
  have q32 : ∀ x : Int32, ¬ x < 0 → x < nn → x < 32 ∧ (0 ≤ x.toInt ∧ x.toInt < 32) ∧ x.toNatClampNeg < 32 := fun x a b => by
    simp only [lt32, Int32.reduceToInt] at *; rw [cln]; omega
  by_cases h0 : i1 < 0
  · simp +decide only [w100_0, w100_3, w100_4, w100_5, w100_8, w100_10, w100_11, w100_13, w100_14, w100_16, w100_18, w100_20, w100_21, w100_23, w100_26, w100_28, w100_31, w100_32, w100_34, w100_37, w100_39, w100_42, w100_43, w100_45, w100_47, w100_49, w100_51, w100_53, w100_54, w100_56, w100_59, w100_61, w100_64, w100_65, w100_67, w100_70, w100_72, w100_75, w100_76, w100_78, w100_79, w100_82, w100_83, w100_85, w100_88, w100_89, w100_92, w100_93, w100_95, w100_98, w100_99, w100_102, w100_103, w100_105, w100_107, w100_110, w100_112, w100_115, w100_116, w100_117, w100_120, w100_122, w100_125, w100_126, w100_128, w100_130, w100_133, w100_134, w100_137, w100_138, w100_140, w100_142, w100_143, w100_144, w100_145, w100_148, w100_150, w100_152, w100_154, w100_157, w100_158, w100_159, w100_161, w100_164, w100_166, w100_169, w100_170, w100_173, w100_174, w100_177, w100_178, w100_179, w100_181, w100_182, w100_185, w100_187, w100_190, w100_191, w100_192, w100_194, w100_195, w100_198, w100_200, w100_203, w100_205, w100_208, w100_209, w100_212, w100_213, w100_214, w100_216, w100_217, w100_218, w100_221, w100_223, w100_226, w100_227, w100_230, w100_232, w100_235, w100_236, w100_237, w100_239, w100_240, w100_241, w100_244, w100_246, w100_249, w100_250, w100_253, w100_255, w100_258, w100_259, w100_260, w100_262, w100_265, w100_267, w100_270, w100_272, w100_273, w100_276, w100_277, w100_278, w100_281, w100_282, w100_283, w100_285, w100_288, w100_290, w100_293, w100_295, w100_296, w100_297, w100_300, w100_302, w100_305, w100_306, w100_307, w100_309, w100_312, w100_314, w100_317, w100_318, w100_321, w100_323, w100_326, w100_327, w100_328, w100_330, w100_333, w100_335, w100_338, w100_339, w100_342, w100_343, zr_z0, zr_uI, zr_uJ, isO_put, isOw_put, put_fst, okv_int, okv_long, okv_ref, okv_bool, okv_byte, cat1_unset, cat1_int, cat1_ref, cs_nil, cs_int, cs_ref, cs_long, cmpL_lt, cmpL_gt, cmpL_eq, sI_uI, sI_uJ, sI_uA, sI_uB, sJ_uI, sJ_uJ, sJ_uA, sJ_uB, sA_uI, sA_uJ, sA_uA, sA_uB, sB_uI, sB_uJ, sB_uA, sB_uB, sI_fA, sJ_fA, sA_fA, sB_fA, sI_z0, sJ_z0, sA_z0, sB_z0, Option.toList_some, Option.toList_none, List.cons_append, List.nil_append, true_and, and_true, false_and, and_false, or_false, false_or, or_true, true_or, not_true_eq_false, not_false_eq_true, ↓reduceIte, Nat.reduceAdd, Nat.reduceLeDiff, Nat.reduceEqDiff, Nat.reduceSub, Int32.reduceAdd, Int32.reduceSub, Int32.reduceMul, Int32.reduceToNatClampNeg, Int64.reduceAdd, Int64.reduceSub, Int64.reduceMul, Int64.reduceLT, Int32.reduceLT, Int32.reduceToInt, Nat.add_zero, Nat.zero_add, Nat.le_refl, eq_self, implies_true, ne_eq, g0, s0, g1, g2, g3, g4, g5, g6, g7, g8, g9, g10, g11, g12, s12, g13, s13, g14, s14, g15, s15, g16, s16, ai1, aw1, ae1, as1, ai2, aw2, ae2, as2, ai3, aw3, ae3, as3, ai4, aw4, ain4, awn4, ae4, as4, ai5, aw5, ain5, awn5, ae5, as5, ai6, aw6, ae6, as6, ai7, aw7, ae7, as7, ai8, aw8, ain8, awn8, ae8, as8, ai9, aw9, ae9, as9, ai10, aw10, ae10, as10, ai11, aw11, ae11, as11, t29, t41, F2, Int32.sub_zero, Nat.zero_le, c2, w2_0, w2_1, w2_2, w2_5, w2_8, w2_9, w2_10, w2_13, w2_16, w2_18, w2_19, w2_20, w2_21, w2_24, w2_26, w2_27, w2_28, w2_31, w2_33, w2_35, w2_36, w2_39, w2_41, w2_42, w2_43, w2_44, w2_47, w2_49, w2_50, w2_52, w2_53, w2_54, w2_56, w2_59, w2_60, w2_62, w2_65, w2_67, c5, w5_0, w5_1, w5_2, w5_5, w5_8, w5_9, w5_12, w5_13, w5_14, w5_17, w5_18, w5_21, w5_22, c6, w6_0, w6_1, w6_2, w6_5, w6_8, w6_9, w6_12, w6_13, w6_14, w6_17, w6_18, w6_21, w6_22, w6_23, w6_26, w6_27, w6_30, w6_31, c7, w7_0, w7_1, w7_2, w7_5, w7_8, w7_9, w7_10, w7_11, w7_14, w7_15, w7_18, w7_19, w7_20, w7_21, w7_22, w7_23, w7_26, w7_27, w7_30, w7_31, w7_32, w7_33, w7_34, c8, w8_0, w8_1, w8_2, w8_5, w8_8, w8_9, w8_10, w8_11, w8_14, w8_15, w8_16, c9, w9_0, w9_1, w9_4, c10, w10_0, w10_1, w10_4, c12, w12_0, w12_1, w12_4, w12_5, w12_8, w12_9, c16, w16_0, w16_1, w16_4, c17, w17_0, w17_1, w17_4, c18, w18_0, w18_1, w18_2, w18_5, w18_6, w18_7, w18_8, w18_11, w18_12, w18_13, w18_16, w18_17, w18_18, w18_19, w18_20, w18_21, w18_24, w18_27, w18_28, w18_31, w18_32, w18_33, w18_36, w18_37, w18_38, w18_41, w18_42, w18_43, w18_44, w18_47, w18_48, w18_49, w18_53, w18_54, w18_55, w18_56, w18_59, w18_60, w18_61, w18_65, w18_68, w18_69, w18_73, w18_74, w18_75, w18_78, w18_79, w18_80, w18_81, w18_84, w18_85, w18_86, w18_87, w18_88, w18_91, c21, w21_0, w21_1, w21_2, w21_5, w21_6, w21_7, w21_10, c22, w22_0, w22_1, w22_3, w22_6, w22_9, w22_10, w22_13, w22_14, w22_15, w22_18, w22_19, w22_20, w22_23, w22_26, w22_27, c23, w23_0, w23_1, w23_4, w23_5, w23_6, w23_7, w23_8, w23_11, w23_12, w23_13, w23_14, w23_15, w23_18, w23_19, w23_21, w23_22, w23_23, w23_26, w23_27, w23_28, w23_29, w23_30, w23_33, w23_34, w23_35, w23_36, w23_37, w23_38, w23_41, w23_42, w23_43, w23_46, c25, w25_0, w25_1, w25_2, w25_5, w25_8, w25_9, w25_12, w25_13, w25_14, w25_17, w25_18, w25_19, w25_22, w25_23, w25_24, w25_25, w25_26, w25_27, w25_30, w25_31, w25_32, w25_35, w25_36, w25_37, w25_40, w25_41, w25_44, w25_45, w25_46, w25_47, w25_48, w25_51, w25_52, w25_53, w25_56, w25_57, w25_58, w25_59, w25_62, w25_63, w25_64, w25_67, w25_68, w25_69, w25_70, w25_73, c27, w27_0, w27_1, w27_4, w27_5, w27_7, w27_10, w27_11, w27_12, w27_15, w27_16, w27_17, w27_20, w27_21, w27_24, w27_25, w27_26, w27_28, w27_31, w27_32, w27_33, w27_36, w27_37, w27_39, w27_40, w27_41, w27_44, w27_45, w27_46, w27_47, w27_48, w27_49, w27_50, w27_53, w27_54, w27_55, w27_56, w27_57, w27_58, w27_59, c30, w30_0, w30_1, w30_4, w30_5, w30_6, w30_9, w30_12, w30_13, w30_14, w30_15, w30_18, w30_19, w30_20, w30_21, w30_22, w30_25, w30_26, w30_27, w30_28, w30_29, w30_30, w30_31, w30_35, w30_36, w30_39, w30_41, w30_43, w30_46, w30_47, w30_48, w30_51, w30_53, w30_54, w30_55, w30_56, w30_59i, w30_60, w30_63, w30_66, w30_67, c31, w31_0, w31_1, w31_3, w31_4, w31_7, w31_8, w31_10, w31_13, w31_15, w31_16, w31_17, w31_19, w31_20, w31_22, w31_23, w31_27, w31_28, w31_31, w31_32, w31_33, w31_36, w31_38, w31_40, w31_43, w31_44, w31_47, w31_49, w31_51, w31_52, w31_53i, w31_53, w31_55, w31_57, w31_58, w31_61, w31_62, w31_64, w31_67, w31_70, w31_73, w31_74, w31_76, w31_80i, w31_80, w31_82, w31_84, w31_87, w31_89, w31_91, w31_94, w31_95, w31_98, w31_100, w31_101, w31_104, w31_106, w31_108, w31_111, w31_114, w31_115, w31_118, w31_120, w31_121, w31_122, w31_123, w31_126, w31_128, w31_130, w31_131, w31_132, w31_135, w31_137, w31_138, w31_139, w31_140, w31_143, w31_145, w31_147, w31_148, w31_151, w31_154, w31_157, w31_159, c39, w39_0, w39_1, w39_4, w39_5, w39_6, w39_9, w39_12, w39_13, w39_15, w39_18, w39_19, w39_22, w39_23, c40, w40_0, w40_1, w40_4, w40_5, w40_8, w40_11, w40_12, w40_15, w40_16, w22_2, w30_33, w31_25, ain4, ain5, ain8, awn4, awn5, awn8, Int64.zero_add, Int32.zero_add, and_self, h0, h1, h2, h3, h4, h5, h6, h7, h8, h9, h10, h11, h3', h4', Int32.add_zero]
  clear h1
  by_cases h1 : i1 < nn
  rotate_left
  · simp +decide only [w100_0, w100_3, w100_4, w100_5, w100_8, w100_10, w100_11, w100_13, w100_14, w100_16, w100_18, w100_20, w100_21, w100_23, w100_26, w100_28, w100_31, w100_32, w100_34, w100_37, w100_39, w100_42, w100_43, w100_45, w100_47, w100_49, w100_51, w100_53, w100_54, w100_56, w100_59, w100_61, w100_64, w100_65, w100_67, w100_70, w100_72, w100_75, w100_76, w100_78, w100_79, w100_82, w100_83, w100_85, w100_88, w100_89, w100_92, w100_93, w100_95, w100_98, w100_99, w100_102, w100_103, w100_105, w100_107, w100_110, w100_112, w100_115, w100_116, w100_117, w100_120, w100_122, w100_125, w100_126, w100_128, w100_130, w100_133, w100_134, w100_137, w100_138, w100_140, w100_142, w100_143, w100_144, w100_145, w100_148, w100_150, w100_152, w100_154, w100_157, w100_158, w100_159, w100_161, w100_164, w100_166, w100_169, w100_170, w100_173, w100_174, w100_177, w100_178, w100_179, w100_181, w100_182, w100_185, w100_187, w100_190, w100_191, w100_192, w100_194, w100_195, w100_198, w100_200, w100_203, w100_205, w100_208, w100_209, w100_212, w100_213, w100_214, w100_216, w100_217, w100_218, w100_221, w100_223, w100_226, w100_227, w100_230, w100_232, w100_235, w100_236, w100_237, w100_239, w100_240, w100_241, w100_244, w100_246, w100_249, w100_250, w100_253, w100_255, w100_258, w100_259, w100_260, w100_262, w100_265, w100_267, w100_270, w100_272, w100_273, w100_276, w100_277, w100_278, w100_281, w100_282, w100_283, w100_285, w100_288, w100_290, w100_293, w100_295, w100_296, w100_297, w100_300, w100_302, w100_305, w100_306, w100_307, w100_309, w100_312, w100_314, w100_317, w100_318, w100_321, w100_323, w100_326, w100_327, w100_328, w100_330, w100_333, w100_335, w100_338, w100_339, w100_342, w100_343, zr_z0, zr_uI, zr_uJ, isO_put, isOw_put, put_fst, okv_int, okv_long, okv_ref, okv_bool, okv_byte, cat1_unset, cat1_int, cat1_ref, cs_nil, cs_int, cs_ref, cs_long, cmpL_lt, cmpL_gt, cmpL_eq, sI_uI, sI_uJ, sI_uA, sI_uB, sJ_uI, sJ_uJ, sJ_uA, sJ_uB, sA_uI, sA_uJ, sA_uA, sA_uB, sB_uI, sB_uJ, sB_uA, sB_uB, sI_fA, sJ_fA, sA_fA, sB_fA, sI_z0, sJ_z0, sA_z0, sB_z0, Option.toList_some, Option.toList_none, List.cons_append, List.nil_append, true_and, and_true, false_and, and_false, or_false, false_or, or_true, true_or, not_true_eq_false, not_false_eq_true, ↓reduceIte, Nat.reduceAdd, Nat.reduceLeDiff, Nat.reduceEqDiff, Nat.reduceSub, Int32.reduceAdd, Int32.reduceSub, Int32.reduceMul, Int32.reduceToNatClampNeg, Int64.reduceAdd, Int64.reduceSub, Int64.reduceMul, Int64.reduceLT, Int32.reduceLT, Int32.reduceToInt, Nat.add_zero, Nat.zero_add, Nat.le_refl, eq_self, implies_true, ne_eq, g0, s0, g1, g2, g3, g4, g5, g6, g7, g8, g9, g10, g11, g12, s12, g13, s13, g14, s14, g15, s15, g16, s16, ai1, aw1, ae1, as1, ai2, aw2, ae2, as2, ai3, aw3, ae3, as3, ai4, aw4, ain4, awn4, ae4, as4, ai5, aw5, ain5, awn5, ae5, as5, ai6, aw6, ae6, as6, ai7, aw7, ae7, as7, ai8, aw8, ain8, awn8, ae8, as8, ai9, aw9, ae9, as9, ai10, aw10, ae10, as10, ai11, aw11, ae11, as11, t29, t41, F2, Int32.sub_zero, Nat.zero_le, c2, w2_0, w2_1, w2_2, w2_5, w2_8, w2_9, w2_10, w2_13, w2_16, w2_18, w2_19, w2_20, w2_21, w2_24, w2_26, w2_27, w2_28, w2_31, w2_33, w2_35, w2_36, w2_39, w2_41, w2_42, w2_43, w2_44, w2_47, w2_49, w2_50, w2_52, w2_53, w2_54, w2_56, w2_59, w2_60, w2_62, w2_65, w2_67, c5, w5_0, w5_1, w5_2, w5_5, w5_8, w5_9, w5_12, w5_13, w5_14, w5_17, w5_18, w5_21, w5_22, c6, w6_0, w6_1, w6_2, w6_5, w6_8, w6_9, w6_12, w6_13, w6_14, w6_17, w6_18, w6_21, w6_22, w6_23, w6_26, w6_27, w6_30, w6_31, c7, w7_0, w7_1, w7_2, w7_5, w7_8, w7_9, w7_10, w7_11, w7_14, w7_15, w7_18, w7_19, w7_20, w7_21, w7_22, w7_23, w7_26, w7_27, w7_30, w7_31, w7_32, w7_33, w7_34, c8, w8_0, w8_1, w8_2, w8_5, w8_8, w8_9, w8_10, w8_11, w8_14, w8_15, w8_16, c9, w9_0, w9_1, w9_4, c10, w10_0, w10_1, w10_4, c12, w12_0, w12_1, w12_4, w12_5, w12_8, w12_9, c16, w16_0, w16_1, w16_4, c17, w17_0, w17_1, w17_4, c18, w18_0, w18_1, w18_2, w18_5, w18_6, w18_7, w18_8, w18_11, w18_12, w18_13, w18_16, w18_17, w18_18, w18_19, w18_20, w18_21, w18_24, w18_27, w18_28, w18_31, w18_32, w18_33, w18_36, w18_37, w18_38, w18_41, w18_42, w18_43, w18_44, w18_47, w18_48, w18_49, w18_53, w18_54, w18_55, w18_56, w18_59, w18_60, w18_61, w18_65, w18_68, w18_69, w18_73, w18_74, w18_75, w18_78, w18_79, w18_80, w18_81, w18_84, w18_85, w18_86, w18_87, w18_88, w18_91, c21, w21_0, w21_1, w21_2, w21_5, w21_6, w21_7, w21_10, c22, w22_0, w22_1, w22_3, w22_6, w22_9, w22_10, w22_13, w22_14, w22_15, w22_18, w22_19, w22_20, w22_23, w22_26, w22_27, c23, w23_0, w23_1, w23_4, w23_5, w23_6, w23_7, w23_8, w23_11, w23_12, w23_13, w23_14, w23_15, w23_18, w23_19, w23_21, w23_22, w23_23, w23_26, w23_27, w23_28, w23_29, w23_30, w23_33, w23_34, w23_35, w23_36, w23_37, w23_38, w23_41, w23_42, w23_43, w23_46, c25, w25_0, w25_1, w25_2, w25_5, w25_8, w25_9, w25_12, w25_13, w25_14, w25_17, w25_18, w25_19, w25_22, w25_23, w25_24, w25_25, w25_26, w25_27, w25_30, w25_31, w25_32, w25_35, w25_36, w25_37, w25_40, w25_41, w25_44, w25_45, w25_46, w25_47, w25_48, w25_51, w25_52, w25_53, w25_56, w25_57, w25_58, w25_59, w25_62, w25_63, w25_64, w25_67, w25_68, w25_69, w25_70, w25_73, c27, w27_0, w27_1, w27_4, w27_5, w27_7, w27_10, w27_11, w27_12, w27_15, w27_16, w27_17, w27_20, w27_21, w27_24, w27_25, w27_26, w27_28, w27_31, w27_32, w27_33, w27_36, w27_37, w27_39, w27_40, w27_41, w27_44, w27_45, w27_46, w27_47, w27_48, w27_49, w27_50, w27_53, w27_54, w27_55, w27_56, w27_57, w27_58, w27_59, c30, w30_0, w30_1, w30_4, w30_5, w30_6, w30_9, w30_12, w30_13, w30_14, w30_15, w30_18, w30_19, w30_20, w30_21, w30_22, w30_25, w30_26, w30_27, w30_28, w30_29, w30_30, w30_31, w30_35, w30_36, w30_39, w30_41, w30_43, w30_46, w30_47, w30_48, w30_51, w30_53, w30_54, w30_55, w30_56, w30_59i, w30_60, w30_63, w30_66, w30_67, c31, w31_0, w31_1, w31_3, w31_4, w31_7, w31_8, w31_10, w31_13, w31_15, w31_16, w31_17, w31_19, w31_20, w31_22, w31_23, w31_27, w31_28, w31_31, w31_32, w31_33, w31_36, w31_38, w31_40, w31_43, w31_44, w31_47, w31_49, w31_51, w31_52, w31_53i, w31_53, w31_55, w31_57, w31_58, w31_61, w31_62, w31_64, w31_67, w31_70, w31_73, w31_74, w31_76, w31_80i, w31_80, w31_82, w31_84, w31_87, w31_89, w31_91, w31_94, w31_95, w31_98, w31_100, w31_101, w31_104, w31_106, w31_108, w31_111, w31_114, w31_115, w31_118, w31_120, w31_121, w31_122, w31_123, w31_126, w31_128, w31_130, w31_131, w31_132, w31_135, w31_137, w31_138, w31_139, w31_140, w31_143, w31_145, w31_147, w31_148, w31_151, w31_154, w31_157, w31_159, c39, w39_0, w39_1, w39_4, w39_5, w39_6, w39_9, w39_12, w39_13, w39_15, w39_18, w39_19, w39_22, w39_23, c40, w40_0, w40_1, w40_4, w40_5, w40_8, w40_11, w40_12, w40_15, w40_16, w22_2, w30_33, w31_25, ain4, ain5, ain8, awn4, awn5, awn8, Int64.zero_add, Int32.zero_add, and_self, h0, h1, h2, h3, h4, h5, h6, h7, h8, h9, h10, h11, h3', h4', Int32.add_zero]
  clear h2 h3' h4'
  obtain ⟨h2, h3', h4'⟩ := q32 i1 h0 h1
  clear h3
  by_cases h3 : i2 < 0
  · simp +decide only [w100_0, w100_3, w100_4, w100_5, w100_8, w100_10, w100_11, w100_13, w100_14, w100_16, w100_18, w100_20, w100_21, w100_23, w100_26, w100_28, w100_31, w100_32, w100_34, w100_37, w100_39, w100_42, w100_43, w100_45, w100_47, w100_49, w100_51, w100_53, w100_54, w100_56, w100_59, w100_61, w100_64, w100_65, w100_67, w100_70, w100_72, w100_75, w100_76, w100_78, w100_79, w100_82, w100_83, w100_85, w100_88, w100_89, w100_92, w100_93, w100_95, w100_98, w100_99, w100_102, w100_103, w100_105, w100_107, w100_110, w100_112, w100_115, w100_116, w100_117, w100_120, w100_122, w100_125, w100_126, w100_128, w100_130, w100_133, w100_134, w100_137, w100_138, w100_140, w100_142, w100_143, w100_144, w100_145, w100_148, w100_150, w100_152, w100_154, w100_157, w100_158, w100_159, w100_161, w100_164, w100_166, w100_169, w100_170, w100_173, w100_174, w100_177, w100_178, w100_179, w100_181, w100_182, w100_185, w100_187, w100_190, w100_191, w100_192, w100_194, w100_195, w100_198, w100_200, w100_203, w100_205, w100_208, w100_209, w100_212, w100_213, w100_214, w100_216, w100_217, w100_218, w100_221, w100_223, w100_226, w100_227, w100_230, w100_232, w100_235, w100_236, w100_237, w100_239, w100_240, w100_241, w100_244, w100_246, w100_249, w100_250, w100_253, w100_255, w100_258, w100_259, w100_260, w100_262, w100_265, w100_267, w100_270, w100_272, w100_273, w100_276, w100_277, w100_278, w100_281, w100_282, w100_283, w100_285, w100_288, w100_290, w100_293, w100_295, w100_296, w100_297, w100_300, w100_302, w100_305, w100_306, w100_307, w100_309, w100_312, w100_314, w100_317, w100_318, w100_321, w100_323, w100_326, w100_327, w100_328, w100_330, w100_333, w100_335, w100_338, w100_339, w100_342, w100_343, zr_z0, zr_uI, zr_uJ, isO_put, isOw_put, put_fst, okv_int, okv_long, okv_ref, okv_bool, okv_byte, cat1_unset, cat1_int, cat1_ref, cs_nil, cs_int, cs_ref, cs_long, cmpL_lt, cmpL_gt, cmpL_eq, sI_uI, sI_uJ, sI_uA, sI_uB, sJ_uI, sJ_uJ, sJ_uA, sJ_uB, sA_uI, sA_uJ, sA_uA, sA_uB, sB_uI, sB_uJ, sB_uA, sB_uB, sI_fA, sJ_fA, sA_fA, sB_fA, sI_z0, sJ_z0, sA_z0, sB_z0, Option.toList_some, Option.toList_none, List.cons_append, List.nil_append, true_and, and_true, false_and, and_false, or_false, false_or, or_true, true_or, not_true_eq_false, not_false_eq_true, ↓reduceIte, Nat.reduceAdd, Nat.reduceLeDiff, Nat.reduceEqDiff, Nat.reduceSub, Int32.reduceAdd, Int32.reduceSub, Int32.reduceMul, Int32.reduceToNatClampNeg, Int64.reduceAdd, Int64.reduceSub, Int64.reduceMul, Int64.reduceLT, Int32.reduceLT, Int32.reduceToInt, Nat.add_zero, Nat.zero_add, Nat.le_refl, eq_self, implies_true, ne_eq, g0, s0, g1, g2, g3, g4, g5, g6, g7, g8, g9, g10, g11, g12, s12, g13, s13, g14, s14, g15, s15, g16, s16, ai1, aw1, ae1, as1, ai2, aw2, ae2, as2, ai3, aw3, ae3, as3, ai4, aw4, ain4, awn4, ae4, as4, ai5, aw5, ain5, awn5, ae5, as5, ai6, aw6, ae6, as6, ai7, aw7, ae7, as7, ai8, aw8, ain8, awn8, ae8, as8, ai9, aw9, ae9, as9, ai10, aw10, ae10, as10, ai11, aw11, ae11, as11, t29, t41, F2, Int32.sub_zero, Nat.zero_le, c2, w2_0, w2_1, w2_2, w2_5, w2_8, w2_9, w2_10, w2_13, w2_16, w2_18, w2_19, w2_20, w2_21, w2_24, w2_26, w2_27, w2_28, w2_31, w2_33, w2_35, w2_36, w2_39, w2_41, w2_42, w2_43, w2_44, w2_47, w2_49, w2_50, w2_52, w2_53, w2_54, w2_56, w2_59, w2_60, w2_62, w2_65, w2_67, c5, w5_0, w5_1, w5_2, w5_5, w5_8, w5_9, w5_12, w5_13, w5_14, w5_17, w5_18, w5_21, w5_22, c6, w6_0, w6_1, w6_2, w6_5, w6_8, w6_9, w6_12, w6_13, w6_14, w6_17, w6_18, w6_21, w6_22, w6_23, w6_26, w6_27, w6_30, w6_31, c7, w7_0, w7_1, w7_2, w7_5, w7_8, w7_9, w7_10, w7_11, w7_14, w7_15, w7_18, w7_19, w7_20, w7_21, w7_22, w7_23, w7_26, w7_27, w7_30, w7_31, w7_32, w7_33, w7_34, c8, w8_0, w8_1, w8_2, w8_5, w8_8, w8_9, w8_10, w8_11, w8_14, w8_15, w8_16, c9, w9_0, w9_1, w9_4, c10, w10_0, w10_1, w10_4, c12, w12_0, w12_1, w12_4, w12_5, w12_8, w12_9, c16, w16_0, w16_1, w16_4, c17, w17_0, w17_1, w17_4, c18, w18_0, w18_1, w18_2, w18_5, w18_6, w18_7, w18_8, w18_11, w18_12, w18_13, w18_16, w18_17, w18_18, w18_19, w18_20, w18_21, w18_24, w18_27, w18_28, w18_31, w18_32, w18_33, w18_36, w18_37, w18_38, w18_41, w18_42, w18_43, w18_44, w18_47, w18_48, w18_49, w18_53, w18_54, w18_55, w18_56, w18_59, w18_60, w18_61, w18_65, w18_68, w18_69, w18_73, w18_74, w18_75, w18_78, w18_79, w18_80, w18_81, w18_84, w18_85, w18_86, w18_87, w18_88, w18_91, c21, w21_0, w21_1, w21_2, w21_5, w21_6, w21_7, w21_10, c22, w22_0, w22_1, w22_3, w22_6, w22_9, w22_10, w22_13, w22_14, w22_15, w22_18, w22_19, w22_20, w22_23, w22_26, w22_27, c23, w23_0, w23_1, w23_4, w23_5, w23_6, w23_7, w23_8, w23_11, w23_12, w23_13, w23_14, w23_15, w23_18, w23_19, w23_21, w23_22, w23_23, w23_26, w23_27, w23_28, w23_29, w23_30, w23_33, w23_34, w23_35, w23_36, w23_37, w23_38, w23_41, w23_42, w23_43, w23_46, c25, w25_0, w25_1, w25_2, w25_5, w25_8, w25_9, w25_12, w25_13, w25_14, w25_17, w25_18, w25_19, w25_22, w25_23, w25_24, w25_25, w25_26, w25_27, w25_30, w25_31, w25_32, w25_35, w25_36, w25_37, w25_40, w25_41, w25_44, w25_45, w25_46, w25_47, w25_48, w25_51, w25_52, w25_53, w25_56, w25_57, w25_58, w25_59, w25_62, w25_63, w25_64, w25_67, w25_68, w25_69, w25_70, w25_73, c27, w27_0, w27_1, w27_4, w27_5, w27_7, w27_10, w27_11, w27_12, w27_15, w27_16, w27_17, w27_20, w27_21, w27_24, w27_25, w27_26, w27_28, w27_31, w27_32, w27_33, w27_36, w27_37, w27_39, w27_40, w27_41, w27_44, w27_45, w27_46, w27_47, w27_48, w27_49, w27_50, w27_53, w27_54, w27_55, w27_56, w27_57, w27_58, w27_59, c30, w30_0, w30_1, w30_4, w30_5, w30_6, w30_9, w30_12, w30_13, w30_14, w30_15, w30_18, w30_19, w30_20, w30_21, w30_22, w30_25, w30_26, w30_27, w30_28, w30_29, w30_30, w30_31, w30_35, w30_36, w30_39, w30_41, w30_43, w30_46, w30_47, w30_48, w30_51, w30_53, w30_54, w30_55, w30_56, w30_59i, w30_60, w30_63, w30_66, w30_67, c31, w31_0, w31_1, w31_3, w31_4, w31_7, w31_8, w31_10, w31_13, w31_15, w31_16, w31_17, w31_19, w31_20, w31_22, w31_23, w31_27, w31_28, w31_31, w31_32, w31_33, w31_36, w31_38, w31_40, w31_43, w31_44, w31_47, w31_49, w31_51, w31_52, w31_53i, w31_53, w31_55, w31_57, w31_58, w31_61, w31_62, w31_64, w31_67, w31_70, w31_73, w31_74, w31_76, w31_80i, w31_80, w31_82, w31_84, w31_87, w31_89, w31_91, w31_94, w31_95, w31_98, w31_100, w31_101, w31_104, w31_106, w31_108, w31_111, w31_114, w31_115, w31_118, w31_120, w31_121, w31_122, w31_123, w31_126, w31_128, w31_130, w31_131, w31_132, w31_135, w31_137, w31_138, w31_139, w31_140, w31_143, w31_145, w31_147, w31_148, w31_151, w31_154, w31_157, w31_159, c39, w39_0, w39_1, w39_4, w39_5, w39_6, w39_9, w39_12, w39_13, w39_15, w39_18, w39_19, w39_22, w39_23, c40, w40_0, w40_1, w40_4, w40_5, w40_8, w40_11, w40_12, w40_15, w40_16, w22_2, w30_33, w31_25, ain4, ain5, ain8, awn4, awn5, awn8, Int64.zero_add, Int32.zero_add, and_self, h0, h1, h2, h3, h4, h5, h6, h7, h8, h9, h10, h11, h3', h4', Int32.add_zero]
  clear h4
  by_cases h4 : i2 < nn
  rotate_left
  · simp +decide only [w100_0, w100_3, w100_4, w100_5, w100_8, w100_10, w100_11, w100_13, w100_14, w100_16, w100_18, w100_20, w100_21, w100_23, w100_26, w100_28, w100_31, w100_32, w100_34, w100_37, w100_39, w100_42, w100_43, w100_45, w100_47, w100_49, w100_51, w100_53, w100_54, w100_56, w100_59, w100_61, w100_64, w100_65, w100_67, w100_70, w100_72, w100_75, w100_76, w100_78, w100_79, w100_82, w100_83, w100_85, w100_88, w100_89, w100_92, w100_93, w100_95, w100_98, w100_99, w100_102, w100_103, w100_105, w100_107, w100_110, w100_112, w100_115, w100_116, w100_117, w100_120, w100_122, w100_125, w100_126, w100_128, w100_130, w100_133, w100_134, w100_137, w100_138, w100_140, w100_142, w100_143, w100_144, w100_145, w100_148, w100_150, w100_152, w100_154, w100_157, w100_158, w100_159, w100_161, w100_164, w100_166, w100_169, w100_170, w100_173, w100_174, w100_177, w100_178, w100_179, w100_181, w100_182, w100_185, w100_187, w100_190, w100_191, w100_192, w100_194, w100_195, w100_198, w100_200, w100_203, w100_205, w100_208, w100_209, w100_212, w100_213, w100_214, w100_216, w100_217, w100_218, w100_221, w100_223, w100_226, w100_227, w100_230, w100_232, w100_235, w100_236, w100_237, w100_239, w100_240, w100_241, w100_244, w100_246, w100_249, w100_250, w100_253, w100_255, w100_258, w100_259, w100_260, w100_262, w100_265, w100_267, w100_270, w100_272, w100_273, w100_276, w100_277, w100_278, w100_281, w100_282, w100_283, w100_285, w100_288, w100_290, w100_293, w100_295, w100_296, w100_297, w100_300, w100_302, w100_305, w100_306, w100_307, w100_309, w100_312, w100_314, w100_317, w100_318, w100_321, w100_323, w100_326, w100_327, w100_328, w100_330, w100_333, w100_335, w100_338, w100_339, w100_342, w100_343, zr_z0, zr_uI, zr_uJ, isO_put, isOw_put, put_fst, okv_int, okv_long, okv_ref, okv_bool, okv_byte, cat1_unset, cat1_int, cat1_ref, cs_nil, cs_int, cs_ref, cs_long, cmpL_lt, cmpL_gt, cmpL_eq, sI_uI, sI_uJ, sI_uA, sI_uB, sJ_uI, sJ_uJ, sJ_uA, sJ_uB, sA_uI, sA_uJ, sA_uA, sA_uB, sB_uI, sB_uJ, sB_uA, sB_uB, sI_fA, sJ_fA, sA_fA, sB_fA, sI_z0, sJ_z0, sA_z0, sB_z0, Option.toList_some, Option.toList_none, List.cons_append, List.nil_append, true_and, and_true, false_and, and_false, or_false, false_or, or_true, true_or, not_true_eq_false, not_false_eq_true, ↓reduceIte, Nat.reduceAdd, Nat.reduceLeDiff, Nat.reduceEqDiff, Nat.reduceSub, Int32.reduceAdd, Int32.reduceSub, Int32.reduceMul, Int32.reduceToNatClampNeg, Int64.reduceAdd, Int64.reduceSub, Int64.reduceMul, Int64.reduceLT, Int32.reduceLT, Int32.reduceToInt, Nat.add_zero, Nat.zero_add, Nat.le_refl, eq_self, implies_true, ne_eq, g0, s0, g1, g2, g3, g4, g5, g6, g7, g8, g9, g10, g11, g12, s12, g13, s13, g14, s14, g15, s15, g16, s16, ai1, aw1, ae1, as1, ai2, aw2, ae2, as2, ai3, aw3, ae3, as3, ai4, aw4, ain4, awn4, ae4, as4, ai5, aw5, ain5, awn5, ae5, as5, ai6, aw6, ae6, as6, ai7, aw7, ae7, as7, ai8, aw8, ain8, awn8, ae8, as8, ai9, aw9, ae9, as9, ai10, aw10, ae10, as10, ai11, aw11, ae11, as11, t29, t41, F2, Int32.sub_zero, Nat.zero_le, c2, w2_0, w2_1, w2_2, w2_5, w2_8, w2_9, w2_10, w2_13, w2_16, w2_18, w2_19, w2_20, w2_21, w2_24, w2_26, w2_27, w2_28, w2_31, w2_33, w2_35, w2_36, w2_39, w2_41, w2_42, w2_43, w2_44, w2_47, w2_49, w2_50, w2_52, w2_53, w2_54, w2_56, w2_59, w2_60, w2_62, w2_65, w2_67, c5, w5_0, w5_1, w5_2, w5_5, w5_8, w5_9, w5_12, w5_13, w5_14, w5_17, w5_18, w5_21, w5_22, c6, w6_0, w6_1, w6_2, w6_5, w6_8, w6_9, w6_12, w6_13, w6_14, w6_17, w6_18, w6_21, w6_22, w6_23, w6_26, w6_27, w6_30, w6_31, c7, w7_0, w7_1, w7_2, w7_5, w7_8, w7_9, w7_10, w7_11, w7_14, w7_15, w7_18, w7_19, w7_20, w7_21, w7_22, w7_23, w7_26, w7_27, w7_30, w7_31, w7_32, w7_33, w7_34, c8, w8_0, w8_1, w8_2, w8_5, w8_8, w8_9, w8_10, w8_11, w8_14, w8_15, w8_16, c9, w9_0, w9_1, w9_4, c10, w10_0, w10_1, w10_4, c12, w12_0, w12_1, w12_4, w12_5, w12_8, w12_9, c16, w16_0, w16_1, w16_4, c17, w17_0, w17_1, w17_4, c18, w18_0, w18_1, w18_2, w18_5, w18_6, w18_7, w18_8, w18_11, w18_12, w18_13, w18_16, w18_17, w18_18, w18_19, w18_20, w18_21, w18_24, w18_27, w18_28, w18_31, w18_32, w18_33, w18_36, w18_37, w18_38, w18_41, w18_42, w18_43, w18_44, w18_47, w18_48, w18_49, w18_53, w18_54, w18_55, w18_56, w18_59, w18_60, w18_61, w18_65, w18_68, w18_69, w18_73, w18_74, w18_75, w18_78, w18_79, w18_80, w18_81, w18_84, w18_85, w18_86, w18_87, w18_88, w18_91, c21, w21_0, w21_1, w21_2, w21_5, w21_6, w21_7, w21_10, c22, w22_0, w22_1, w22_3, w22_6, w22_9, w22_10, w22_13, w22_14, w22_15, w22_18, w22_19, w22_20, w22_23, w22_26, w22_27, c23, w23_0, w23_1, w23_4, w23_5, w23_6, w23_7, w23_8, w23_11, w23_12, w23_13, w23_14, w23_15, w23_18, w23_19, w23_21, w23_22, w23_23, w23_26, w23_27, w23_28, w23_29, w23_30, w23_33, w23_34, w23_35, w23_36, w23_37, w23_38, w23_41, w23_42, w23_43, w23_46, c25, w25_0, w25_1, w25_2, w25_5, w25_8, w25_9, w25_12, w25_13, w25_14, w25_17, w25_18, w25_19, w25_22, w25_23, w25_24, w25_25, w25_26, w25_27, w25_30, w25_31, w25_32, w25_35, w25_36, w25_37, w25_40, w25_41, w25_44, w25_45, w25_46, w25_47, w25_48, w25_51, w25_52, w25_53, w25_56, w25_57, w25_58, w25_59, w25_62, w25_63, w25_64, w25_67, w25_68, w25_69, w25_70, w25_73, c27, w27_0, w27_1, w27_4, w27_5, w27_7, w27_10, w27_11, w27_12, w27_15, w27_16, w27_17, w27_20, w27_21, w27_24, w27_25, w27_26, w27_28, w27_31, w27_32, w27_33, w27_36, w27_37, w27_39, w27_40, w27_41, w27_44, w27_45, w27_46, w27_47, w27_48, w27_49, w27_50, w27_53, w27_54, w27_55, w27_56, w27_57, w27_58, w27_59, c30, w30_0, w30_1, w30_4, w30_5, w30_6, w30_9, w30_12, w30_13, w30_14, w30_15, w30_18, w30_19, w30_20, w30_21, w30_22, w30_25, w30_26, w30_27, w30_28, w30_29, w30_30, w30_31, w30_35, w30_36, w30_39, w30_41, w30_43, w30_46, w30_47, w30_48, w30_51, w30_53, w30_54, w30_55, w30_56, w30_59i, w30_60, w30_63, w30_66, w30_67, c31, w31_0, w31_1, w31_3, w31_4, w31_7, w31_8, w31_10, w31_13, w31_15, w31_16, w31_17, w31_19, w31_20, w31_22, w31_23, w31_27, w31_28, w31_31, w31_32, w31_33, w31_36, w31_38, w31_40, w31_43, w31_44, w31_47, w31_49, w31_51, w31_52, w31_53i, w31_53, w31_55, w31_57, w31_58, w31_61, w31_62, w31_64, w31_67, w31_70, w31_73, w31_74, w31_76, w31_80i, w31_80, w31_82, w31_84, w31_87, w31_89, w31_91, w31_94, w31_95, w31_98, w31_100, w31_101, w31_104, w31_106, w31_108, w31_111, w31_114, w31_115, w31_118, w31_120, w31_121, w31_122, w31_123, w31_126, w31_128, w31_130, w31_131, w31_132, w31_135, w31_137, w31_138, w31_139, w31_140, w31_143, w31_145, w31_147, w31_148, w31_151, w31_154, w31_157, w31_159, c39, w39_0, w39_1, w39_4, w39_5, w39_6, w39_9, w39_12, w39_13, w39_15, w39_18, w39_19, w39_22, w39_23, c40, w40_0, w40_1, w40_4, w40_5, w40_8, w40_11, w40_12, w40_15, w40_16, w22_2, w30_33, w31_25, ain4, ain5, ain8, awn4, awn5, awn8, Int64.zero_add, Int32.zero_add, and_self, h0, h1, h2, h3, h4, h5, h6, h7, h8, h9, h10, h11, h3', h4', Int32.add_zero]
  clear h5 h6 h7 h8
  obtain ⟨h5, h6, h7⟩ := q32 i2 h3 h4
  by_cases h8 : i1 = i2
  · subst h8
    simp +decide only [w100_0, w100_3, w100_4, w100_5, w100_8, w100_10, w100_11, w100_13, w100_14, w100_16, w100_18, w100_20, w100_21, w100_23, w100_26, w100_28, w100_31, w100_32, w100_34, w100_37, w100_39, w100_42, w100_43, w100_45, w100_47, w100_49, w100_51, w100_53, w100_54, w100_56, w100_59, w100_61, w100_64, w100_65, w100_67, w100_70, w100_72, w100_75, w100_76, w100_78, w100_79, w100_82, w100_83, w100_85, w100_88, w100_89, w100_92, w100_93, w100_95, w100_98, w100_99, w100_102, w100_103, w100_105, w100_107, w100_110, w100_112, w100_115, w100_116, w100_117, w100_120, w100_122, w100_125, w100_126, w100_128, w100_130, w100_133, w100_134, w100_137, w100_138, w100_140, w100_142, w100_143, w100_144, w100_145, w100_148, w100_150, w100_152, w100_154, w100_157, w100_158, w100_159, w100_161, w100_164, w100_166, w100_169, w100_170, w100_173, w100_174, w100_177, w100_178, w100_179, w100_181, w100_182, w100_185, w100_187, w100_190, w100_191, w100_192, w100_194, w100_195, w100_198, w100_200, w100_203, w100_205, w100_208, w100_209, w100_212, w100_213, w100_214, w100_216, w100_217, w100_218, w100_221, w100_223, w100_226, w100_227, w100_230, w100_232, w100_235, w100_236, w100_237, w100_239, w100_240, w100_241, w100_244, w100_246, w100_249, w100_250, w100_253, w100_255, w100_258, w100_259, w100_260, w100_262, w100_265, w100_267, w100_270, w100_272, w100_273, w100_276, w100_277, w100_278, w100_281, w100_282, w100_283, w100_285, w100_288, w100_290, w100_293, w100_295, w100_296, w100_297, w100_300, w100_302, w100_305, w100_306, w100_307, w100_309, w100_312, w100_314, w100_317, w100_318, w100_321, w100_323, w100_326, w100_327, w100_328, w100_330, w100_333, w100_335, w100_338, w100_339, w100_342, w100_343, zr_z0, zr_uI, zr_uJ, isO_put, isOw_put, put_fst, okv_int, okv_long, okv_ref, okv_bool, okv_byte, cat1_unset, cat1_int, cat1_ref, cs_nil, cs_int, cs_ref, cs_long, cmpL_lt, cmpL_gt, cmpL_eq, sI_uI, sI_uJ, sI_uA, sI_uB, sJ_uI, sJ_uJ, sJ_uA, sJ_uB, sA_uI, sA_uJ, sA_uA, sA_uB, sB_uI, sB_uJ, sB_uA, sB_uB, sI_fA, sJ_fA, sA_fA, sB_fA, sI_z0, sJ_z0, sA_z0, sB_z0, Option.toList_some, Option.toList_none, List.cons_append, List.nil_append, true_and, and_true, false_and, and_false, or_false, false_or, or_true, true_or, not_true_eq_false, not_false_eq_true, ↓reduceIte, Nat.reduceAdd, Nat.reduceLeDiff, Nat.reduceEqDiff, Nat.reduceSub, Int32.reduceAdd, Int32.reduceSub, Int32.reduceMul, Int32.reduceToNatClampNeg, Int64.reduceAdd, Int64.reduceSub, Int64.reduceMul, Int64.reduceLT, Int32.reduceLT, Int32.reduceToInt, Nat.add_zero, Nat.zero_add, Nat.le_refl, eq_self, implies_true, ne_eq, g0, s0, g1, g2, g3, g4, g5, g6, g7, g8, g9, g10, g11, g12, s12, g13, s13, g14, s14, g15, s15, g16, s16, ai1, aw1, ae1, as1, ai2, aw2, ae2, as2, ai3, aw3, ae3, as3, ai4, aw4, ain4, awn4, ae4, as4, ai5, aw5, ain5, awn5, ae5, as5, ai6, aw6, ae6, as6, ai7, aw7, ae7, as7, ai8, aw8, ain8, awn8, ae8, as8, ai9, aw9, ae9, as9, ai10, aw10, ae10, as10, ai11, aw11, ae11, as11, c2, w2_0, w2_1, w2_2, w2_5, w2_8, w2_9, w2_10, w2_13, w2_16, w2_18, w2_19, w2_20, w2_21, w2_24, w2_26, w2_27, w2_28, w2_31, w2_33, w2_35, w2_36, w2_39, w2_41, w2_42, w2_43, w2_44, w2_47, w2_49, w2_50, w2_52, w2_53, w2_54, w2_56, w2_59, w2_60, w2_62, w2_65, w2_67, c5, w5_0, w5_1, w5_2, w5_5, w5_8, w5_9, w5_12, w5_13, w5_14, w5_17, w5_18, w5_21, w5_22, c6, w6_0, w6_1, w6_2, w6_5, w6_8, w6_9, w6_12, w6_13, w6_14, w6_17, w6_18, w6_21, w6_22, w6_23, w6_26, w6_27, w6_30, w6_31, c7, w7_0, w7_1, w7_2, w7_5, w7_8, w7_9, w7_10, w7_11, w7_14, w7_15, w7_18, w7_19, w7_20, w7_21, w7_22, w7_23, w7_26, w7_27, w7_30, w7_31, w7_32, w7_33, w7_34, c8, w8_0, w8_1, w8_2, w8_5, w8_8, w8_9, w8_10, w8_11, w8_14, w8_15, w8_16, c9, w9_0, w9_1, w9_4, c10, w10_0, w10_1, w10_4, c12, w12_0, w12_1, w12_4, w12_5, w12_8, w12_9, c16, w16_0, w16_1, w16_4, c17, w17_0, w17_1, w17_4, c39, w39_0, w39_1, w39_4, w39_5, w39_6, w39_9, w39_12, w39_13, w39_15, w39_18, w39_19, w39_22, w39_23, c40, w40_0, w40_1, w40_4, w40_5, w40_8, w40_11, w40_12, w40_15, w40_16, h0, h1, h2, h3', h4', F2, Nat.zero_le, ain4, ain5, Int32.sub_zero]
  clear h9 h10
  have h9 : ¬ i2.toNatClampNeg = i1.toNatClampNeg := fun q => h8 (by rw [cln, cln] at q; rw [eq32]; omega)
  have h10 : 0 ≤ (i1 * 32).toInt ∧ (i1 * 32).toInt < 1024 := by
    rw [im (by simp only [Int32.reduceToInt]; omega) (by simp only [Int32.reduceToInt]; omega)]; simp only [Int32.reduceToInt]; omega
  clear h11
  have h11 : 0 ≤ (i2 * 32).toInt ∧ (i2 * 32).toInt < 1024 := by
    rw [im (by simp only [Int32.reduceToInt]; omega) (by simp only [Int32.reduceToInt]; omega)]; simp only [Int32.reduceToInt]; omega
  simp +decide only [w100_0, w100_3, w100_4, w100_5, w100_8, w100_10, w100_11, w100_13, w100_14, w100_16, w100_18, w100_20, w100_21, w100_23, w100_26, w100_28, w100_31, w100_32, w100_34, w100_37, w100_39, w100_42, w100_43, w100_45, w100_47, w100_49, w100_51, w100_53, w100_54, w100_56, w100_59, w100_61, w100_64, w100_65, w100_67, w100_70, w100_72, w100_75, w100_76, w100_78, w100_79, w100_82, w100_83, w100_85, w100_88, w100_89, w100_92, w100_93, w100_95, w100_98, w100_99, w100_102, w100_103, w100_105, w100_107, w100_110, w100_112, w100_115, w100_116, w100_117, w100_120, w100_122, w100_125, w100_126, w100_128, w100_130, w100_133, w100_134, w100_137, w100_138, w100_140, w100_142, w100_143, w100_144, w100_145, w100_148, w100_150, w100_152, w100_154, w100_157, w100_158, w100_159, w100_161, w100_164, w100_166, w100_169, w100_170, w100_173, w100_174, w100_177, w100_178, w100_179, w100_181, w100_182, w100_185, w100_187, w100_190, w100_191, w100_192, w100_194, w100_195, w100_198, w100_200, w100_203, w100_205, w100_208, w100_209, w100_212, w100_213, w100_214, w100_216, w100_217, w100_218, w100_221, w100_223, w100_226, w100_227, w100_230, w100_232, w100_235, w100_236, w100_237, w100_239, w100_240, w100_241, w100_244, w100_246, w100_249, w100_250, w100_253, w100_255, w100_258, w100_259, w100_260, w100_262, w100_265, w100_267, w100_270, w100_272, w100_273, w100_276, w100_277, w100_278, w100_281, w100_282, w100_283, w100_285, w100_288, w100_290, w100_293, w100_295, w100_296, w100_297, w100_300, w100_302, w100_305, w100_306, w100_307, w100_309, w100_312, w100_314, w100_317, w100_318, w100_321, w100_323, w100_326, w100_327, w100_328, w100_330, w100_333, w100_335, w100_338, w100_339, w100_342, w100_343, zr_z0, zr_uI, zr_uJ, isO_put, isOw_put, put_fst, okv_int, okv_long, okv_ref, okv_bool, okv_byte, cat1_unset, cat1_int, cat1_ref, cs_nil, cs_int, cs_ref, cs_long, cmpL_lt, cmpL_gt, cmpL_eq, sI_uI, sI_uJ, sI_uA, sI_uB, sJ_uI, sJ_uJ, sJ_uA, sJ_uB, sA_uI, sA_uJ, sA_uA, sA_uB, sB_uI, sB_uJ, sB_uA, sB_uB, sI_fA, sJ_fA, sA_fA, sB_fA, sI_z0, sJ_z0, sA_z0, sB_z0, Option.toList_some, Option.toList_none, List.cons_append, List.nil_append, true_and, and_true, false_and, and_false, or_false, false_or, or_true, true_or, not_true_eq_false, not_false_eq_true, ↓reduceIte, Nat.reduceAdd, Nat.reduceLeDiff, Nat.reduceEqDiff, Nat.reduceSub, Int32.reduceAdd, Int32.reduceSub, Int32.reduceMul, Int32.reduceToNatClampNeg, Int64.reduceAdd, Int64.reduceSub, Int64.reduceMul, Int64.reduceLT, Int32.reduceLT, Int32.reduceToInt, Nat.add_zero, Nat.zero_add, Nat.le_refl, eq_self, implies_true, ne_eq, g0, s0, g1, g2, g3, g4, g5, g6, g7, g8, g9, g10, g11, g12, s12, g13, s13, g14, s14, g15, s15, g16, s16, ai1, aw1, ae1, as1, ai2, aw2, ae2, as2, ai3, aw3, ae3, as3, ai4, aw4, ain4, awn4, ae4, as4, ai5, aw5, ain5, awn5, ae5, as5, ai6, aw6, ae6, as6, ai7, aw7, ae7, as7, ai8, aw8, ain8, awn8, ae8, as8, ai9, aw9, ae9, as9, ai10, aw10, ae10, as10, ai11, aw11, ae11, as11, t29, t41, F2, Int32.sub_zero, Nat.zero_le, c2, w2_0, w2_1, w2_2, w2_5, w2_8, w2_9, w2_10, w2_13, w2_16, w2_18, w2_19, w2_20, w2_21, w2_24, w2_26, w2_27, w2_28, w2_31, w2_33, w2_35, w2_36, w2_39, w2_41, w2_42, w2_43, w2_44, w2_47, w2_49, w2_50, w2_52, w2_53, w2_54, w2_56, w2_59, w2_60, w2_62, w2_65, w2_67, c5, w5_0, w5_1, w5_2, w5_5, w5_8, w5_9, w5_12, w5_13, w5_14, w5_17, w5_18, w5_21, w5_22, c6, w6_0, w6_1, w6_2, w6_5, w6_8, w6_9, w6_12, w6_13, w6_14, w6_17, w6_18, w6_21, w6_22, w6_23, w6_26, w6_27, w6_30, w6_31, c7, w7_0, w7_1, w7_2, w7_5, w7_8, w7_9, w7_10, w7_11, w7_14, w7_15, w7_18, w7_19, w7_20, w7_21, w7_22, w7_23, w7_26, w7_27, w7_30, w7_31, w7_32, w7_33, w7_34, c8, w8_0, w8_1, w8_2, w8_5, w8_8, w8_9, w8_10, w8_11, w8_14, w8_15, w8_16, c9, w9_0, w9_1, w9_4, c10, w10_0, w10_1, w10_4, c12, w12_0, w12_1, w12_4, w12_5, w12_8, w12_9, c16, w16_0, w16_1, w16_4, c17, w17_0, w17_1, w17_4, c18, w18_0, w18_1, w18_2, w18_5, w18_6, w18_7, w18_8, w18_11, w18_12, w18_13, w18_16, w18_17, w18_18, w18_19, w18_20, w18_21, w18_24, w18_27, w18_28, w18_31, w18_32, w18_33, w18_36, w18_37, w18_38, w18_41, w18_42, w18_43, w18_44, w18_47, w18_48, w18_49, w18_53, w18_54, w18_55, w18_56, w18_59, w18_60, w18_61, w18_65, w18_68, w18_69, w18_73, w18_74, w18_75, w18_78, w18_79, w18_80, w18_81, w18_84, w18_85, w18_86, w18_87, w18_88, w18_91, c21, w21_0, w21_1, w21_2, w21_5, w21_6, w21_7, w21_10, c22, w22_0, w22_1, w22_3, w22_6, w22_9, w22_10, w22_13, w22_14, w22_15, w22_18, w22_19, w22_20, w22_23, w22_26, w22_27, c23, w23_0, w23_1, w23_4, w23_5, w23_6, w23_7, w23_8, w23_11, w23_12, w23_13, w23_14, w23_15, w23_18, w23_19, w23_21, w23_22, w23_23, w23_26, w23_27, w23_28, w23_29, w23_30, w23_33, w23_34, w23_35, w23_36, w23_37, w23_38, w23_41, w23_42, w23_43, w23_46, c25, w25_0, w25_1, w25_2, w25_5, w25_8, w25_9, w25_12, w25_13, w25_14, w25_17, w25_18, w25_19, w25_22, w25_23, w25_24, w25_25, w25_26, w25_27, w25_30, w25_31, w25_32, w25_35, w25_36, w25_37, w25_40, w25_41, w25_44, w25_45, w25_46, w25_47, w25_48, w25_51, w25_52, w25_53, w25_56, w25_57, w25_58, w25_59, w25_62, w25_63, w25_64, w25_67, w25_68, w25_69, w25_70, w25_73, c27, w27_0, w27_1, w27_4, w27_5, w27_7, w27_10, w27_11, w27_12, w27_15, w27_16, w27_17, w27_20, w27_21, w27_24, w27_25, w27_26, w27_28, w27_31, w27_32, w27_33, w27_36, w27_37, w27_39, w27_40, w27_41, w27_44, w27_45, w27_46, w27_47, w27_48, w27_49, w27_50, w27_53, w27_54, w27_55, w27_56, w27_57, w27_58, w27_59, c30, w30_0, w30_1, w30_4, w30_5, w30_6, w30_9, w30_12, w30_13, w30_14, w30_15, w30_18, w30_19, w30_20, w30_21, w30_22, w30_25, w30_26, w30_27, w30_28, w30_29, w30_30, w30_31, w30_35, w30_36, w30_39, w30_41, w30_43, w30_46, w30_47, w30_48, w30_51, w30_53, w30_54, w30_55, w30_56, w30_59i, w30_60, w30_63, w30_66, w30_67, c31, w31_0, w31_1, w31_3, w31_4, w31_7, w31_8, w31_10, w31_13, w31_15, w31_16, w31_17, w31_19, w31_20, w31_22, w31_23, w31_27, w31_28, w31_31, w31_32, w31_33, w31_36, w31_38, w31_40, w31_43, w31_44, w31_47, w31_49, w31_51, w31_52, w31_53i, w31_53, w31_55, w31_57, w31_58, w31_61, w31_62, w31_64, w31_67, w31_70, w31_73, w31_74, w31_76, w31_80i, w31_80, w31_82, w31_84, w31_87, w31_89, w31_91, w31_94, w31_95, w31_98, w31_100, w31_101, w31_104, w31_106, w31_108, w31_111, w31_114, w31_115, w31_118, w31_120, w31_121, w31_122, w31_123, w31_126, w31_128, w31_130, w31_131, w31_132, w31_135, w31_137, w31_138, w31_139, w31_140, w31_143, w31_145, w31_147, w31_148, w31_151, w31_154, w31_157, w31_159, c39, w39_0, w39_1, w39_4, w39_5, w39_6, w39_9, w39_12, w39_13, w39_15, w39_18, w39_19, w39_22, w39_23, c40, w40_0, w40_1, w40_4, w40_5, w40_8, w40_11, w40_12, w40_15, w40_16, w22_2, w30_33, w31_25, ain4, ain5, ain8, awn4, awn5, awn8, Int64.zero_add, Int32.zero_add, and_self, h0, h1, h2, h3, h4, h5, h6, h7, h8, h9, h10, h11, h3', h4', Int32.add_zero]

end Jvm.JX.Lw
namespace Jvm.Pilot.@@N@@
open Jvm Jvm.ClassFile Sem Op Lib Jvm.Free Jvm.Stand Jvm.LawKit Jvm.RoadKit Bundle Jvm.Pilot.@@N@@.Jvm.D Jvm.JX Jvm.JX.Pj Jvm.JX.Lw
def nmL : List (Nat × MethodName) := [(1, ⟨"DynamicMinForest", "<init>", "(I)V"⟩), (2, ⟨"DynamicMinForest", "addEdge", "(III)I"⟩), (5, ⟨"DynamicMinForest", "isPresent", "(I)Z"⟩), (6, ⟨"DynamicMinForest", "isTreeEdge", "(I)Z"⟩), (7, ⟨"DynamicMinForest", "edgeEnd", "(II)I"⟩), (8, ⟨"DynamicMinForest", "edgeWeight", "(I)I"⟩), (9, ⟨"DynamicMinForest", "edgeCount", "()I"⟩), (10, ⟨"DynamicMinForest", "forestWeight", "()J"⟩), (12, ⟨"DynamicMinForest", "componentCount", "()I"⟩), (16, ⟨"DynamicMinForest", "lastEntered", "()I"⟩), (17, ⟨"DynamicMinForest", "lastLeft", "()I"⟩), (18, ⟨"DynamicMinForest", "insertUpdate", "(I)V"⟩), (21, ⟨"DynamicMinForest", "setLast", "(II)V"⟩), (22, ⟨"DynamicMinForest", "lowestFreeSlot", "()I"⟩), (23, ⟨"DynamicMinForest", "storeEdge", "(IIII)V"⟩), (25, ⟨"DynamicMinForest", "joinTree", "(I)V"⟩), (27, ⟨"DynamicMinForest", "addAdjacent", "(II)V"⟩), (29, ⟨"DynamicMinForest", "resetSearch", "()V"⟩), (30, ⟨"DynamicMinForest", "explore", "(II)I"⟩), (31, ⟨"DynamicMinForest", "visitNeighbours", "(III)I"⟩), (39, ⟨"DynamicMinForest", "validVertex", "(I)Z"⟩), (40, ⟨"DynamicMinForest", "validId", "(I)Z"⟩), (41, ⟨"DynamicMinForest", "clampWeight", "(I)I"⟩), (100, ⟨"DynamicMinForestL2", "law", "(IIII)Z"⟩)]
def nm (m : Nat) : MethodName := (nmL.lookup m).getD ⟨"", "", ""⟩
def btL : List (Nat × ByteArray) := [(1, prog_1_method_1_code), (2, prog_1_method_2_code), (5, prog_1_method_5_code), (6, prog_1_method_6_code), (7, prog_1_method_7_code), (8, prog_1_method_8_code), (9, prog_1_method_9_code), (10, prog_1_method_10_code), (12, prog_1_method_12_code), (16, prog_1_method_16_code), (17, prog_1_method_17_code), (18, prog_1_method_18_code), (21, prog_1_method_21_code), (22, prog_1_method_22_code), (23, prog_1_method_23_code), (25, prog_1_method_25_code), (27, prog_1_method_27_code), (29, prog_1_method_29_code), (30, prog_1_method_30_code), (31, prog_1_method_31_code), (39, prog_1_method_39_code), (40, prog_1_method_40_code), (41, prog_1_method_41_code), (100, code)]
def bt (m : Nat) : ByteArray := (btL.lookup m).getD ⟨#[]⟩
def fnL : List (String × String) := [("n", "I"), ("endA", "[I"), ("endB", "[I"), ("weight", "[I"), ("used", "[Z"), ("inTree", "[Z"), ("adj", "[I"), ("deg", "[I"), ("seen", "[Z"), ("parentEdge", "[I"), ("parentVertex", "[I"), ("queue", "[I"), ("presentCount", "I"), ("treeCount", "I"), ("treeWeight", "J"), ("entered", "I"), ("left", "I")]
def fn (k : Nat) : String × String := fnL.getD k ("", "")
def RL : List Nat := [1, 2, 5, 6, 7, 8, 9, 10, 12, 16, 17, 18, 21, 22, 23, 25, 27, 29, 30, 31, 39, 40, 41, 100]
def FS : List Nat := [0, 1, 2, 3, 4, 5, 6, 7, 8, 9, 10, 11, 12, 13, 14, 15, 16]
def WF : List Nat := [0, 1, 2, 3, 4, 5, 6, 7, 8, 9, 10, 11, 12, 13, 14, 15, 16]
def FL : List (Nat × Nat × Nat) := [(0, 7, 1), (0, 13, 2), (0, 16, 3), (0, 19, 4), (0, 23, 5), (0, 26, 6), (0, 29, 7), (0, 32, 8), (0, 35, 9), (0, 38, 10), (0, 41, 11), (0, 44, 0), (0, 48, 12), (0, 51, 13), (0, 54, 14), (0, 58, 15), (0, 61, 16)]
def ML : List (Nat × Nat × Nat) := [(0, 64, 29), (0, 67, 39), (0, 71, 22), (0, 75, 41), (0, 79, 23), (0, 83, 18), (0, 103, 40), (0, 87, 5), (0, 106, 30), (0, 119, 25), (0, 93, 21), (0, 129, 27), (0, 135, 31), (1, 9, 1), (1, 14, 2), (1, 18, 9), (1, 22, 6), (1, 26, 8), (1, 30, 7), (1, 34, 10), (1, 38, 12), (1, 41, 16), (1, 44, 17)]
def KI : List (Nat × Nat × Int) := [(0, 151, -1000000), (0, 152, 1000000), (1, 12, -1000000), (1, 13, 1000000)]
def KJ : List (Nat × Nat × Int) := []
def ATL : List FieldType := [.boolean, .int]
def cn (j : Nat) : String := if j = 0 then "DynamicMinForest" else "DynamicMinForestL2"
def own (m : Nat) : Nat := if m < 100 then 0 else 1
def ini (m : Nat) : Bool := m == 1
def rowsOf (m : Nat) : List Jvm.JX.Row := if m < 100 then prows.getD m [] else lrows.getD (m - 100) []
theorem hFL : ∀ t ∈ FL, t.2.2 ∈ FS ∧ Jvm.Cond.fieldLink (cn t.1) t.2.1 "DynamicMinForest" (fn t.2.2).1 (fn t.2.2).2 ∈ tables_1 := (faS ⟨by decide, (List.mem_of_getElem? (i := 10) rfl)⟩ (faS ⟨by decide, (List.mem_of_getElem? (i := 12) rfl)⟩ (faS ⟨by decide, (List.mem_of_getElem? (i := 14) rfl)⟩ (faS ⟨by decide, (List.mem_of_getElem? (i := 17) rfl)⟩ (faS ⟨by decide, (List.mem_of_getElem? (i := 19) rfl)⟩ (faS ⟨by decide, (List.mem_of_getElem? (i := 21) rfl)⟩ (faS ⟨by decide, (List.mem_of_getElem? (i := 23) rfl)⟩ (faS ⟨by decide, (List.mem_of_getElem? (i := 25) rfl)⟩ (faS ⟨by decide, (List.mem_of_getElem? (i := 27) rfl)⟩ (faS ⟨by decide, (List.mem_of_getElem? (i := 29) rfl)⟩ (faS ⟨by decide, (List.mem_of_getElem? (i := 31) rfl)⟩ (faS ⟨by decide, (List.mem_of_getElem? (i := 33) rfl)⟩ (faS ⟨by decide, (List.mem_of_getElem? (i := 35) rfl)⟩ (faS ⟨by decide, (List.mem_of_getElem? (i := 37) rfl)⟩ (faS ⟨by decide, (List.mem_of_getElem? (i := 39) rfl)⟩ (faS ⟨by decide, (List.mem_of_getElem? (i := 41) rfl)⟩ (faS ⟨by decide, (List.mem_of_getElem? (i := 43) rfl)⟩ fa0)))))))))))))))))
theorem hWF : ∀ k ∈ WF, Jvm.Cond.lays "DynamicMinForest" "DynamicMinForest" (fn k).1 (fn k).2 ∈ tables_1 := (faS (List.mem_of_getElem? (i := 34) rfl) (faS (List.mem_of_getElem? (i := 11) rfl) (faS (List.mem_of_getElem? (i := 13) rfl) (faS (List.mem_of_getElem? (i := 15) rfl) (faS (List.mem_of_getElem? (i := 18) rfl) (faS (List.mem_of_getElem? (i := 20) rfl) (faS (List.mem_of_getElem? (i := 22) rfl) (faS (List.mem_of_getElem? (i := 24) rfl) (faS (List.mem_of_getElem? (i := 26) rfl) (faS (List.mem_of_getElem? (i := 28) rfl) (faS (List.mem_of_getElem? (i := 30) rfl) (faS (List.mem_of_getElem? (i := 32) rfl) (faS (List.mem_of_getElem? (i := 36) rfl) (faS (List.mem_of_getElem? (i := 38) rfl) (faS (List.mem_of_getElem? (i := 40) rfl) (faS (List.mem_of_getElem? (i := 42) rfl) (faS (List.mem_of_getElem? (i := 44) rfl) fa0)))))))))))))))))
theorem hML : ∀ t ∈ ML, t.2.2 ∈ RL ∧ Jvm.Cond.methodLink (cn t.1) t.2.1 (nm t.2.2) ∈ tables_1 := (faS ⟨by decide, (List.mem_of_getElem? (i := 45) rfl)⟩ (faS ⟨by decide, (List.mem_of_getElem? (i := 56) rfl)⟩ (faS ⟨by decide, (List.mem_of_getElem? (i := 109) rfl)⟩ (faS ⟨by decide, (List.mem_of_getElem? (i := 113) rfl)⟩ (faS ⟨by decide, (List.mem_of_getElem? (i := 119) rfl)⟩ (faS ⟨by decide, (List.mem_of_getElem? (i := 123) rfl)⟩ (faS ⟨by decide, (List.mem_of_getElem? (i := 70) rfl)⟩ (faS ⟨by decide, (List.mem_of_getElem? (i := 79) rfl)⟩ (faS ⟨by decide, (List.mem_of_getElem? (i := 127) rfl)⟩ (faS ⟨by decide, (List.mem_of_getElem? (i := 135) rfl)⟩ (faS ⟨by decide, (List.mem_of_getElem? (i := 143) rfl)⟩ (faS ⟨by decide, (List.mem_of_getElem? (i := 139) rfl)⟩ (faS ⟨by decide, (List.mem_of_getElem? (i := 131) rfl)⟩ (faS ⟨by decide, (List.mem_of_getElem? (i := 3) rfl)⟩ (faS ⟨by decide, (List.mem_of_getElem? (i := 51) rfl)⟩ (faS ⟨by decide, (List.mem_of_getElem? (i := 60) rfl)⟩ (faS ⟨by decide, (List.mem_of_getElem? (i := 65) rfl)⟩ (faS ⟨by decide, (List.mem_of_getElem? (i := 74) rfl)⟩ (faS ⟨by decide, (List.mem_of_getElem? (i := 84) rfl)⟩ (faS ⟨by decide, (List.mem_of_getElem? (i := 89) rfl)⟩ (faS ⟨by decide, (List.mem_of_getElem? (i := 94) rfl)⟩ (faS ⟨by decide, (List.mem_of_getElem? (i := 99) rfl)⟩ (faS ⟨by decide, (List.mem_of_getElem? (i := 104) rfl)⟩ fa0)))))))))))))))))))))))
theorem hKI : ∀ t ∈ KI, Jvm.Cond.constant (cn t.1) t.2.1 (Int32.ofInt t.2.2) ∈ tables_1 := (faS (List.mem_of_getElem? (i := 117) rfl) (faS (List.mem_of_getElem? (i := 118) rfl) (faS (List.mem_of_getElem? (i := 49) rfl) (faS (List.mem_of_getElem? (i := 50) rfl) fa0))))
theorem hKJ : ∀ t ∈ KJ, Jvm.Cond.constantLong (cn t.1) t.2.1 (Int64.ofInt t.2.2) ∈ tables_1 := fa0
theorem hAT : ∀ t ∈ ATL, Jvm.Cond.arrayClass t ∈ tables_1 := (faS (List.mem_of_getElem? (i := 16) rfl) (faS (List.mem_of_getElem? (i := 9) rfl) fa0))
theorem hrows : RL.all (fun m => (rowsOf m).all (rowOne FL ML KI KJ ATL WF 17 7 bt own ini m)) = true := by decide +kernel
theorem cal1 : CalOk (pj lw) tables_1 "DynamicMinForest" nm bt 1 := ⟨(List.mem_of_getElem? (i := 5) rfl), (List.mem_of_getElem? (i := 2) rfl), ⟨[.int], none, by decide +kernel, rfl⟩, fun h => absurd h (by decide), fun _ => ⟨rfl, (List.mem_of_getElem? (i := 4) rfl)⟩, fun h => absurd h (by decide), fun h => absurd h (by decide), fun _ => ⟨rfl, rfl⟩⟩
theorem cal2 : CalOk (pj lw) tables_1 "DynamicMinForest" nm bt 2 := ⟨(List.mem_of_getElem? (i := 55) rfl), (List.mem_of_getElem? (i := 2) rfl), ⟨[.int, .int, .int], some .int, by decide +kernel, rfl⟩, fun h => absurd h (by decide), fun _ => ⟨rfl, (List.mem_of_getElem? (i := 53) rfl)⟩, fun _ => ⟨(List.mem_of_getElem? (i := 52) rfl), (List.mem_of_getElem? (i := 54) rfl)⟩, fun h => absurd h (by decide), fun h => absurd h (by decide)⟩
theorem cal5 : CalOk (pj lw) tables_1 "DynamicMinForest" nm bt 5 := ⟨(List.mem_of_getElem? (i := 83) rfl), (List.mem_of_getElem? (i := 2) rfl), ⟨[.int], some .boolean, by decide +kernel, rfl⟩, fun h => absurd h (by decide), fun _ => ⟨rfl, (List.mem_of_getElem? (i := 81) rfl)⟩, fun _ => ⟨(List.mem_of_getElem? (i := 80) rfl), (List.mem_of_getElem? (i := 82) rfl)⟩, fun h => absurd h (by decide), fun h => absurd h (by decide)⟩
theorem cal6 : CalOk (pj lw) tables_1 "DynamicMinForest" nm bt 6 := ⟨(List.mem_of_getElem? (i := 69) rfl), (List.mem_of_getElem? (i := 2) rfl), ⟨[.int], some .boolean, by decide +kernel, rfl⟩, fun h => absurd h (by decide), fun _ => ⟨rfl, (List.mem_of_getElem? (i := 67) rfl)⟩, fun _ => ⟨(List.mem_of_getElem? (i := 66) rfl), (List.mem_of_getElem? (i := 68) rfl)⟩, fun h => absurd h (by decide), fun h => absurd h (by decide)⟩
theorem cal7 : CalOk (pj lw) tables_1 "DynamicMinForest" nm bt 7 := ⟨(List.mem_of_getElem? (i := 88) rfl), (List.mem_of_getElem? (i := 2) rfl), ⟨[.int, .int], some .int, by decide +kernel, rfl⟩, fun h => absurd h (by decide), fun _ => ⟨rfl, (List.mem_of_getElem? (i := 86) rfl)⟩, fun _ => ⟨(List.mem_of_getElem? (i := 85) rfl), (List.mem_of_getElem? (i := 87) rfl)⟩, fun h => absurd h (by decide), fun h => absurd h (by decide)⟩
theorem cal8 : CalOk (pj lw) tables_1 "DynamicMinForest" nm bt 8 := ⟨(List.mem_of_getElem? (i := 78) rfl), (List.mem_of_getElem? (i := 2) rfl), ⟨[.int], some .int, by decide +kernel, rfl⟩, fun h => absurd h (by decide), fun _ => ⟨rfl, (List.mem_of_getElem? (i := 76) rfl)⟩, fun _ => ⟨(List.mem_of_getElem? (i := 75) rfl), (List.mem_of_getElem? (i := 77) rfl)⟩, fun h => absurd h (by decide), fun h => absurd h (by decide)⟩
theorem cal9 : CalOk (pj lw) tables_1 "DynamicMinForest" nm bt 9 := ⟨(List.mem_of_getElem? (i := 64) rfl), (List.mem_of_getElem? (i := 2) rfl), ⟨[], some .int, by decide +kernel, rfl⟩, fun h => absurd h (by decide), fun _ => ⟨rfl, (List.mem_of_getElem? (i := 62) rfl)⟩, fun _ => ⟨(List.mem_of_getElem? (i := 61) rfl), (List.mem_of_getElem? (i := 63) rfl)⟩, fun h => absurd h (by decide), fun h => absurd h (by decide)⟩
theorem cal10 : CalOk (pj lw) tables_1 "DynamicMinForest" nm bt 10 := ⟨(List.mem_of_getElem? (i := 93) rfl), (List.mem_of_getElem? (i := 2) rfl), ⟨[], some .long, by decide +kernel, rfl⟩, fun h => absurd h (by decide), fun _ => ⟨rfl, (List.mem_of_getElem? (i := 91) rfl)⟩, fun _ => ⟨(List.mem_of_getElem? (i := 90) rfl), (List.mem_of_getElem? (i := 92) rfl)⟩, fun h => absurd h (by decide), fun h => absurd h (by decide)⟩
theorem cal12 : CalOk (pj lw) tables_1 "DynamicMinForest" nm bt 12 := ⟨(List.mem_of_getElem? (i := 98) rfl), (List.mem_of_getElem? (i := 2) rfl), ⟨[], some .int, by decide +kernel, rfl⟩, fun h => absurd h (by decide), fun _ => ⟨rfl, (List.mem_of_getElem? (i := 96) rfl)⟩, fun _ => ⟨(List.mem_of_getElem? (i := 95) rfl), (List.mem_of_getElem? (i := 97) rfl)⟩, fun h => absurd h (by decide), fun h => absurd h (by decide)⟩
theorem cal16 : CalOk (pj lw) tables_1 "DynamicMinForest" nm bt 16 := ⟨(List.mem_of_getElem? (i := 103) rfl), (List.mem_of_getElem? (i := 2) rfl), ⟨[], some .int, by decide +kernel, rfl⟩, fun h => absurd h (by decide), fun _ => ⟨rfl, (List.mem_of_getElem? (i := 101) rfl)⟩, fun _ => ⟨(List.mem_of_getElem? (i := 100) rfl), (List.mem_of_getElem? (i := 102) rfl)⟩, fun h => absurd h (by decide), fun h => absurd h (by decide)⟩
theorem cal17 : CalOk (pj lw) tables_1 "DynamicMinForest" nm bt 17 := ⟨(List.mem_of_getElem? (i := 108) rfl), (List.mem_of_getElem? (i := 2) rfl), ⟨[], some .int, by decide +kernel, rfl⟩, fun h => absurd h (by decide), fun _ => ⟨rfl, (List.mem_of_getElem? (i := 106) rfl)⟩, fun _ => ⟨(List.mem_of_getElem? (i := 105) rfl), (List.mem_of_getElem? (i := 107) rfl)⟩, fun h => absurd h (by decide), fun h => absurd h (by decide)⟩
theorem cal18 : CalOk (pj lw) tables_1 "DynamicMinForest" nm bt 18 := ⟨(List.mem_of_getElem? (i := 126) rfl), (List.mem_of_getElem? (i := 2) rfl), ⟨[.int], none, by decide +kernel, rfl⟩, fun h => absurd h (by decide), fun _ => ⟨rfl, (List.mem_of_getElem? (i := 124) rfl)⟩, fun h => absurd h (by decide), fun _ => (List.mem_of_getElem? (i := 125) rfl), fun h => absurd h (by decide)⟩
theorem cal21 : CalOk (pj lw) tables_1 "DynamicMinForest" nm bt 21 := ⟨(List.mem_of_getElem? (i := 146) rfl), (List.mem_of_getElem? (i := 2) rfl), ⟨[.int, .int], none, by decide +kernel, rfl⟩, fun h => absurd h (by decide), fun _ => ⟨rfl, (List.mem_of_getElem? (i := 144) rfl)⟩, fun h => absurd h (by decide), fun _ => (List.mem_of_getElem? (i := 145) rfl), fun h => absurd h (by decide)⟩
theorem cal22 : CalOk (pj lw) tables_1 "DynamicMinForest" nm bt 22 := ⟨(List.mem_of_getElem? (i := 112) rfl), (List.mem_of_getElem? (i := 2) rfl), ⟨[], some .int, by decide +kernel, rfl⟩, fun h => absurd h (by decide), fun _ => ⟨rfl, (List.mem_of_getElem? (i := 110) rfl)⟩, fun h => absurd h (by decide), fun _ => (List.mem_of_getElem? (i := 111) rfl), fun h => absurd h (by decide)⟩
theorem cal23 : CalOk (pj lw) tables_1 "DynamicMinForest" nm bt 23 := ⟨(List.mem_of_getElem? (i := 122) rfl), (List.mem_of_getElem? (i := 2) rfl), ⟨[.int, .int, .int, .int], none, by decide +kernel, rfl⟩, fun h => absurd h (by decide), fun _ => ⟨rfl, (List.mem_of_getElem? (i := 120) rfl)⟩, fun h => absurd h (by decide), fun _ => (List.mem_of_getElem? (i := 121) rfl), fun h => absurd h (by decide)⟩
theorem cal25 : CalOk (pj lw) tables_1 "DynamicMinForest" nm bt 25 := ⟨(List.mem_of_getElem? (i := 138) rfl), (List.mem_of_getElem? (i := 2) rfl), ⟨[.int], none, by decide +kernel, rfl⟩, fun h => absurd h (by decide), fun _ => ⟨rfl, (List.mem_of_getElem? (i := 136) rfl)⟩, fun h => absurd h (by decide), fun _ => (List.mem_of_getElem? (i := 137) rfl), fun h => absurd h (by decide)⟩
theorem cal27 : CalOk (pj lw) tables_1 "DynamicMinForest" nm bt 27 := ⟨(List.mem_of_getElem? (i := 142) rfl), (List.mem_of_getElem? (i := 2) rfl), ⟨[.int, .int], none, by decide +kernel, rfl⟩, fun h => absurd h (by decide), fun _ => ⟨rfl, (List.mem_of_getElem? (i := 140) rfl)⟩, fun h => absurd h (by decide), fun _ => (List.mem_of_getElem? (i := 141) rfl), fun h => absurd h (by decide)⟩
theorem cal29 : CalOk (pj lw) tables_1 "DynamicMinForest" nm bt 29 := ⟨(List.mem_of_getElem? (i := 48) rfl), (List.mem_of_getElem? (i := 2) rfl), ⟨[], none, by decide +kernel, rfl⟩, fun h => absurd h (by decide), fun _ => ⟨rfl, (List.mem_of_getElem? (i := 46) rfl)⟩, fun h => absurd h (by decide), fun _ => (List.mem_of_getElem? (i := 47) rfl), fun h => absurd h (by decide)⟩
theorem cal30 : CalOk (pj lw) tables_1 "DynamicMinForest" nm bt 30 := ⟨(List.mem_of_getElem? (i := 130) rfl), (List.mem_of_getElem? (i := 2) rfl), ⟨[.int, .int], some .int, by decide +kernel, rfl⟩, fun h => absurd h (by decide), fun _ => ⟨rfl, (List.mem_of_getElem? (i := 128) rfl)⟩, fun h => absurd h (by decide), fun _ => (List.mem_of_getElem? (i := 129) rfl), fun h => absurd h (by decide)⟩
theorem cal31 : CalOk (pj lw) tables_1 "DynamicMinForest" nm bt 31 := ⟨(List.mem_of_getElem? (i := 134) rfl), (List.mem_of_getElem? (i := 2) rfl), ⟨[.int, .int, .int], some .int, by decide +kernel, rfl⟩, fun h => absurd h (by decide), fun _ => ⟨rfl, (List.mem_of_getElem? (i := 132) rfl)⟩, fun h => absurd h (by decide), fun _ => (List.mem_of_getElem? (i := 133) rfl), fun h => absurd h (by decide)⟩
theorem cal39 : CalOk (pj lw) tables_1 "DynamicMinForest" nm bt 39 := ⟨(List.mem_of_getElem? (i := 59) rfl), (List.mem_of_getElem? (i := 2) rfl), ⟨[.int], some .boolean, by decide +kernel, rfl⟩, fun h => absurd h (by decide), fun _ => ⟨rfl, (List.mem_of_getElem? (i := 57) rfl)⟩, fun h => absurd h (by decide), fun _ => (List.mem_of_getElem? (i := 58) rfl), fun h => absurd h (by decide)⟩
theorem cal40 : CalOk (pj lw) tables_1 "DynamicMinForest" nm bt 40 := ⟨(List.mem_of_getElem? (i := 73) rfl), (List.mem_of_getElem? (i := 2) rfl), ⟨[.int], some .boolean, by decide +kernel, rfl⟩, fun h => absurd h (by decide), fun _ => ⟨rfl, (List.mem_of_getElem? (i := 71) rfl)⟩, fun h => absurd h (by decide), fun _ => (List.mem_of_getElem? (i := 72) rfl), fun h => absurd h (by decide)⟩
theorem cal41 : CalOk (pj lw) tables_1 "DynamicMinForest" nm bt 41 := ⟨(List.mem_of_getElem? (i := 116) rfl), (List.mem_of_getElem? (i := 2) rfl), ⟨[.int], some .int, by decide +kernel, rfl⟩, fun h => absurd h (by decide), fun _ => ⟨rfl, (List.mem_of_getElem? (i := 114) rfl)⟩, fun h => absurd h (by decide), fun _ => (List.mem_of_getElem? (i := 115) rfl), fun h => absurd h (by decide)⟩
theorem hcal : ∀ m ∈ RL, m ≠ 100 → CalOk (pj lw) tables_1 "DynamicMinForest" nm bt m := (faS (fun _ => cal1) (faS (fun _ => cal2) (faS (fun _ => cal5) (faS (fun _ => cal6) (faS (fun _ => cal7) (faS (fun _ => cal8) (faS (fun _ => cal9) (faS (fun _ => cal10) (faS (fun _ => cal12) (faS (fun _ => cal16) (faS (fun _ => cal17) (faS (fun _ => cal18) (faS (fun _ => cal21) (faS (fun _ => cal22) (faS (fun _ => cal23) (faS (fun _ => cal25) (faS (fun _ => cal27) (faS (fun _ => cal29) (faS (fun _ => cal30) (faS (fun _ => cal31) (faS (fun _ => cal39) (faS (fun _ => cal40) (faS (fun _ => cal41) (faS (fun h => absurd rfl h) fa0))))))))))))))))))))))))
theorem hfld : ∀ k ∈ FS, parseFieldDescriptor (fn k).2 = some ((pj lw).2.2.1 k) ∧ (Jvm.Cond.lays "DynamicMinForest" "DynamicMinForest" (fn k).1 (fn k).2 ∈ tables_1 ∨ Jvm.Cond.laysFinal "DynamicMinForest" "DynamicMinForest" (fn k).1 (fn k).2 ∈ tables_1) := (faS ⟨by decide +kernel, Or.inl (List.mem_of_getElem? (i := 34) rfl)⟩ (faS ⟨by decide +kernel, Or.inl (List.mem_of_getElem? (i := 11) rfl)⟩ (faS ⟨by decide +kernel, Or.inl (List.mem_of_getElem? (i := 13) rfl)⟩ (faS ⟨by decide +kernel, Or.inl (List.mem_of_getElem? (i := 15) rfl)⟩ (faS ⟨by decide +kernel, Or.inl (List.mem_of_getElem? (i := 18) rfl)⟩ (faS ⟨by decide +kernel, Or.inl (List.mem_of_getElem? (i := 20) rfl)⟩ (faS ⟨by decide +kernel, Or.inl (List.mem_of_getElem? (i := 22) rfl)⟩ (faS ⟨by decide +kernel, Or.inl (List.mem_of_getElem? (i := 24) rfl)⟩ (faS ⟨by decide +kernel, Or.inl (List.mem_of_getElem? (i := 26) rfl)⟩ (faS ⟨by decide +kernel, Or.inl (List.mem_of_getElem? (i := 28) rfl)⟩ (faS ⟨by decide +kernel, Or.inl (List.mem_of_getElem? (i := 30) rfl)⟩ (faS ⟨by decide +kernel, Or.inl (List.mem_of_getElem? (i := 32) rfl)⟩ (faS ⟨by decide +kernel, Or.inl (List.mem_of_getElem? (i := 36) rfl)⟩ (faS ⟨by decide +kernel, Or.inl (List.mem_of_getElem? (i := 38) rfl)⟩ (faS ⟨by decide +kernel, Or.inl (List.mem_of_getElem? (i := 40) rfl)⟩ (faS ⟨by decide +kernel, Or.inl (List.mem_of_getElem? (i := 42) rfl)⟩ (faS ⟨by decide +kernel, Or.inl (List.mem_of_getElem? (i := 44) rfl)⟩ fa0)))))))))))))))))
theorem good : Good (pj lw) tables_1 "DynamicMinForest" fn FS 17 nm bt RL 100 := by
  refine ⟨(List.mem_of_getElem? (i := 1) rfl), (List.mem_of_getElem? (i := 2) rfl), hfld, by decide +kernel, fun m hm => ?_, hcal, fun m _ pc ins len aux _ _ => by cases ins <;> rfl⟩
  have hpl : plainName "DynamicMinForest" = true ∧ plainName "DynamicMinForestL2" = true := ⟨by first | (simp [plainName, overriddenIn]; done) | decide +kernel, by first | (simp [plainName, overriddenIn]; done) | decide +kernel⟩
  have hcn : ∀ m ∈ RL, (nm m).cls = cn (own m) := by decide +kernel
  have hin : ∀ m ∈ RL, ini m = true → (nm m).cls = "DynamicMinForest" ∧ (nm m).name = "<init>" := by decide +kernel
  have hor : (nm m).cls = "DynamicMinForest" ∨ (nm m).cls = "DynamicMinForestL2" := by rw [hcn m hm]; unfold cn; split <;> simp
  refine ⟨by rcases hor with h | h <;> rw [h] <;> simp [hpl], by rcases hor with h | h <;> rw [h] <;> decide, fun pc ins len aux h => ?_⟩
  have hmem : (pc, ins, len, aux) ∈ rowsOf m := by
    unfold rowsOf
    by_cases g : m < 100
    · rw [if_pos g]; exact lookup_mem (by simpa [pj, g] using h)
    · rw [if_neg g]; exact lookup_mem (by simpa [pj, lw, g] using h)
  have hrow := List.all_eq_true.mp (List.all_eq_true.mp hrows m hm) _ hmem
  simp only [rowOne, Bool.and_eq_true, decide_eq_true_eq] at hrow
  exact ⟨hrow.1.1, hrow.1.2, row_ok (hcn m hm) (hin m hm) hFL hWF hML hKI hKJ hAT (List.mem_of_getElem? (i := 0) rfl) ⟨(List.mem_of_getElem? (i := 6) rfl), (List.mem_of_getElem? (i := 7) rfl), (List.mem_of_getElem? (i := 8) rfl)⟩ hrow.2⟩
set_option maxRecDepth 65536 in
set_option maxHeartbeats 40000000 in
theorem comes_1 {Post : Tables → Env → Array Value → State → Outcome → State → Prop} (hpost : ∀ tb e args s v u, (limb_1_1.after args s (.returned v) u = true ∧ limb_1_2.after args s (.returned v) u = true ∧ True) → FrameEnd s (.returned v) u (Jvm.fieldLocs frame_1_writes args s ++ Jvm.arrayLocs frame_1_arrays args s ++ Jvm.staticLocs frame_1_statics s) 32 3776 → Post tb e args s (.returned v) u) :
    ArmFor flags0 classFile x code maxLocals ret World_1 tables_1 room_1 Calls_1 rest_1 Pre_1 Post := by
  intro l hfl _ _ p e ha hc hk s m args below hf hA hF happ hP
  obtain ⟨hcalls, hrest, hpre⟩ := hP
  obtain ⟨-, -, -, hnamed, -, -, -, hat⟩ := (Spec.applies_iff hf).mp happ
  obtain ⟨hg, hn⟩ := and_e (Cond.before_iff.mp (show (Jvm.Cond.and given_1 narrow_1).before args s = true from hpre))
  have hw := fun d (hd : d ∈ tables_1) => atoms_spec (ws := Jvm.Cond.code x code maxLocals ret :: tables_1) hat d (List.mem_cons_of_mem _ hd)
  obtain ⟨g0, r0⟩ := and_e hg
  obtain ⟨w0, w1, w2, w3, rfl⟩ : ∃ w0 w1 w2 w3 : Value, args = #[w0, w1, w2, w3] := by
    have hs : args.size = 4 := by simpa [Cond.value, given_1] using g0
    obtain ⟨L⟩ := args
    match L, hs with
    | [w0, w1, w2, w3], _ => exact ⟨w0, w1, w2, w3, rfl⟩
  obtain ⟨g1, r1⟩ := and_e r0
  obtain ⟨g2, r2⟩ := and_e r1
  obtain ⟨g3, r3⟩ := and_e r2
  have g4 := r3
  obtain ⟨i0, e0⟩ := is_v g1
  obtain rfl : w0 = (.int i0) := Option.some.inj e0
  obtain ⟨i1, e1⟩ := is_v g2
  obtain rfl : w1 = (.int i1) := Option.some.inj e1
  obtain ⟨i2, e2⟩ := is_v g3
  obtain rfl : w2 = (.int i2) := Option.some.inj e2
  obtain ⟨i3, e3⟩ := is_v g4
  obtain rfl : w3 = (.int i3) := Option.some.inj e3
  obtain ⟨n, o, h1, h2, h3, _, L, rfl, ⟨N, H2, rfl⟩, hq⟩ := law_met (l := l) (Z := s) (a0 := _) (n0 := s.heap.size) good hw (as := [.int i0, .int i1, .int i2, .int i3]) (h := s.heap) tables_1 (by decide) (by simp [Sym.laidSlots, Value.category]; decide) (rel_H0 s.heap) (law_ok i0 i1 i2 i3 s.heap.size) p e ha hc hk s m _ below hf ((Spec.applies_iff_loose hf).mp happ).1 ⟨rfl, State.Warmed39.refl s, rfl⟩ trivial
  exact ⟨n, _, h1, h2, h3, hpost _ _ _ _ _ _ ⟨Cond.after_iff.mpr rfl, Cond.after_iff.mpr (eq_i res_at (Term.int_eval (1)) rfl), trivial⟩ ⟨hq.1, hq.2.1, (hq.2.2.sift fun y hy => Or.inr (N y hy)).mono (by decide) (by decide)⟩⟩
theorem main_1_1 : Claimed_1_1 := comes_1 fun _ _ _ _ _ _ h hF => ⟨h.1, hF⟩
theorem main_1_2 : Claimed_1_2 := comes_1 fun _ _ _ _ _ _ h hF => ⟨h.2.1, hF⟩
end Jvm.Pilot.@@N@@
namespace Jvm.Pilot.@@N@@
open Jvm Jvm.ClassFile Sem Op Lib Jvm.Free Jvm.Stand Jvm.Pilot.@@N@@.Jvm.D
/-! MADE BY PROGRAM (witnessworld.py) out of the Statement's table words and the real class files: 11 classes; the members and pool entries that the words name. The judged class is class 1, her method 1. -/
namespace start1
open Jvm.ClassFile
def u (s : String) : CpInfo := .utf8 (stringToUtf16 s)
/-- a pool by its gaps: so many unusable entries, then the entry; so many at the end -/
def gap : Nat → List CpInfo → List CpInfo
  | 0, r => r
  | n + 1, r => .unusable :: gap n r
def poolList (es : List (Nat × CpInfo)) (last : Nat) : List CpInfo := es.foldr (fun e r => gap e.1 (e.2 :: r)) (gap last [])
def pool (es : List (Nat × CpInfo)) (last : Nat) : Array CpInfo := ⟨poolList es last⟩
def fileOf (pool : Array CpInfo) (this : Nat) (attrs : Array Attribute := #[]) (ms : Array MethodInfo := #[]) (fl : Nat := 33) (sup : Nat := 0) (ifs : Array Nat := #[]) (fds : Array FieldInfo := #[]) : ClassFile where
  minorVersion := 0
  majorVersion := 65
  constantPool := pool
  accessFlags := fl
  thisClass := this
  superClass := sup
  interfaces := ifs
  fields := fds
  methods := ms
  attributes := attrs
def plain (name : String) (sup : Option ClassId) : Class where
  name := name
  kind := .ordinary
  loader := none
  accessFlags := 33
  super := sup
  interfaces := #[]
  cf := none
  fields := #[]
  methods := #[]
  instanceTypes := #[]
  staticTypes := #[]
  resolved := #[]
  callSites := []
  init := .initialized
  statics := none
  mirror := none

def pool0 : Array CpInfo := pool [(5, u "<init>"), (0, u "()V"), (1, .class_ 10), (1, u "java/lang/Object")] 113

def k0c0 : Code := { maxStack := 0, maxLocals := 1, code := object_method_1_code, exceptionTable := #[], attributes := #[] }
def k0m0 : Method := { name := "<init>", desc := "()V", sig := { parameters := [], returnType := none }, accessFlags := 1, code := some k0c0 }
/-- java/lang/Object -/
def k0 : Class := { plain "java/lang/Object" none with
  accessFlags := 33
  interfaces := #[]
  cf := some (fileOf pool0 8 #[] #[{ accessFlags := 1, nameIndex := 5, descriptorIndex := 6, attributes := #[] }] 33 0 #[] #[])
  fields := #[]
  methods := #[k0m0]
  instanceTypes := #[]
  staticTypes := #[]
  resolved := Array.replicate 124 none
  statics := none }

def pool1 : Array CpInfo := pool [(2, .class_ 4), (1, u "java/lang/Object"), (0, u "<init>"), (0, u "()V"), (0, .class_ 8), (0, u "DynamicMinForest"), (0, .methodref 7 10), (0, .nameAndType 5 11), (0, u "(I)V"), (0, .integer 4293967296), (0, .integer 1000000), (0, .methodref 7 15), (0, .nameAndType 16 17), (0, u "addEdge"), (0, u "(III)I"), (0, .methodref 7 19), (0, .nameAndType 20 21), (0, u "edgeCount"), (0, u "()I"), (0, .methodref 7 23), (0, .nameAndType 24 25), (0, u "isTreeEdge"), (0, u "(I)Z"), (0, .methodref 7 27), (0, .nameAndType 28 29), (0, u "edgeWeight"), (0, u "(I)I"), (0, .methodref 7 31), (0, .nameAndType 32 33), (0, u "edgeEnd"), (0, u "(II)I"), (0, .methodref 7 35), (0, .nameAndType 36 37), (0, u "forestWeight"), (0, u "()J"), (0, .methodref 7 39), (0, .nameAndType 40 21), (0, u "componentCount"), (0, .methodref 7 42), (0, .nameAndType 43 21), (0, u "lastEntered"), (0, .methodref 7 45), (0, .nameAndType 46 21), (0, u "lastLeft"), (0, .class_ 48), (0, u "DynamicMinForestL2"), (2, u "law"), (0, u "(IIII)Z")] 3

def k1m0 : Method := { name := "<init>", desc := "()V", sig := { parameters := [], returnType := none }, accessFlags := 1, code := none }
def k1c1 : Code := { maxStack := 4, maxLocals := 16, code := code, exceptionTable := #[], attributes := #[] }
def k1m1 : Method := { name := "law", desc := "(IIII)Z", sig := { parameters := [.int, .int, .int, .int], returnType := some .boolean }, accessFlags := 9, code := some k1c1 }
/-- DynamicMinForestL2 -/
def k1 : Class := { plain "DynamicMinForestL2" (some 0) with
  accessFlags := 49
  interfaces := #[]
  cf := some (fileOf pool1 47 #[] #[{ accessFlags := 1, nameIndex := 5, descriptorIndex := 6, attributes := #[] }, { accessFlags := 9, nameIndex := 51, descriptorIndex := 52, attributes := #[] }] 49 2 #[] #[])
  fields := #[]
  methods := #[k1m0, k1m1]
  instanceTypes := #[]
  staticTypes := #[]
  resolved := Array.replicate 56 none
  statics := none }

def pool2 : Array CpInfo := pool [(1, .methodref 2 3), (0, .class_ 4), (0, .nameAndType 5 6), (0, u "java/lang/Object"), (0, u "<init>"), (0, u "()V"), (0, .fieldref 8 9), (0, .class_ 10), (0, .nameAndType 11 12), (0, u "DynamicMinForest"), (0, u "endA"), (0, u "[I"), (0, .fieldref 8 14), (0, .nameAndType 15 12), (0, u "endB"), (0, .fieldref 8 17), (0, .nameAndType 18 12), (0, u "weight"), (0, .fieldref 8 20), (0, .nameAndType 21 22), (0, u "used"), (0, u "[Z"), (0, .fieldref 8 24), (0, .nameAndType 25 22), (0, u "inTree"), (0, .fieldref 8 27), (0, .nameAndType 28 12), (0, u "adj"), (0, .fieldref 8 30), (0, .nameAndType 31 12), (0, u "deg"), (0, .fieldref 8 33), (0, .nameAndType 34 22), (0, u "seen"), (0, .fieldref 8 36), (0, .nameAndType 37 12), (0, u "parentEdge"), (0, .fieldref 8 39), (0, .nameAndType 40 12), (0, u "parentVertex"), (0, .fieldref 8 42), (0, .nameAndType 43 12), (0, u "queue"), (0, .fieldref 8 45), (0, .nameAndType 46 47), (0, u "n"), (0, u "I"), (0, .fieldref 8 49), (0, .nameAndType 50 47), (0, u "presentCount"), (0, .fieldref 8 52), (0, .nameAndType 53 47), (0, u "treeCount"), (0, .fieldref 8 55), (0, .nameAndType 56 57), (0, u "treeWeight"), (0, u "J"), (0, .fieldref 8 59), (0, .nameAndType 60 47), (0, u "entered"), (0, .fieldref 8 62), (0, .nameAndType 63 47), (0, u "left"), (0, .methodref 8 65), (0, .nameAndType 66 6), (0, u "resetSearch"), (0, .methodref 8 68), (0, .nameAndType 69 70), (0, u "validVertex"), (0, u "(I)Z"), (0, .methodref 8 72), (0, .nameAndType 73 74), (0, u "lowestFreeSlot"), (0, u "()I"), (0, .methodref 8 76), (0, .nameAndType 77 78), (0, u "clampWeight"), (0, u "(I)I"), (0, .methodref 8 80), (0, .nameAndType 81 82), (0, u "storeEdge"), (0, u "(IIII)V"), (0, .methodref 8 84), (0, .nameAndType 85 86), (0, u "insertUpdate"), (0, u "(I)V"), (0, .methodref 8 88), (0, .nameAndType 89 70), (0, u "isPresent"), (3, .methodref 8 94), (0, .nameAndType 95 96), (0, u "setLast"), (0, u "(II)V"), (6, .methodref 8 104), (0, .nameAndType 105 70), (0, u "validId"), (0, .methodref 8 107), (0, .nameAndType 108 109), (0, u "explore"), (0, u "(II)I"), (5, u "isTreeEdge"), (3, .methodref 8 120), (0, .nameAndType 121 86), (0, u "joinTree"), (7, .methodref 8 130), (0, .nameAndType 131 96), (0, u "addAdjacent"), (3, .methodref 8 136), (0, .nameAndType 137 138), (0, u "visitNeighbours"), (0, u "(III)I"), (12, .integer 4293967296), (0, .integer 1000000), (0, u "MIN_VERTICES"), (2, u "MAX_VERTICES"), (1, u "MAX_EDGES"), (1, u "MIN_WEIGHT"), (0, u "MAX_WEIGHT"), (0, u "NONE"), (1, u "ERR_VERTEX"), (1, u "ERR_LOOP"), (1, u "ERR_FULL"), (4, u "addEdge"), (2, u "edgeEnd"), (0, u "edgeWeight"), (0, u "edgeCount"), (0, u "forestWeight"), (0, u "()J"), (1, u "componentCount"), (3, u "lastEntered"), (0, u "lastLeft")] 2

def k2c0 : Code := { maxStack := 3, maxLocals := 4, code := prog_1_method_1_code, exceptionTable := #[], attributes := #[] }
def k2m0 : Method := { name := "<init>", desc := "(I)V", sig := { parameters := [.int], returnType := none }, accessFlags := 1, code := some k2c0 }
def k2c1 : Code := { maxStack := 5, maxLocals := 6, code := prog_1_method_2_code, exceptionTable := #[], attributes := #[] }
def k2m1 : Method := { name := "addEdge", desc := "(III)I", sig := { parameters := [.int, .int, .int], returnType := some .int }, accessFlags := 1, code := some k2c1 }
def k2c2 : Code := { maxStack := 2, maxLocals := 2, code := prog_1_method_5_code, exceptionTable := #[], attributes := #[] }
def k2m2 : Method := { name := "isPresent", desc := "(I)Z", sig := { parameters := [.int], returnType := some .boolean }, accessFlags := 1, code := some k2c2 }
def k2c3 : Code := { maxStack := 2, maxLocals := 2, code := prog_1_method_6_code, exceptionTable := #[], attributes := #[] }
def k2m3 : Method := { name := "isTreeEdge", desc := "(I)Z", sig := { parameters := [.int], returnType := some .boolean }, accessFlags := 1, code := some k2c3 }
def k2c4 : Code := { maxStack := 2, maxLocals := 3, code := prog_1_method_7_code, exceptionTable := #[], attributes := #[] }
def k2m4 : Method := { name := "edgeEnd", desc := "(II)I", sig := { parameters := [.int, .int], returnType := some .int }, accessFlags := 1, code := some k2c4 }
def k2c5 : Code := { maxStack := 2, maxLocals := 2, code := prog_1_method_8_code, exceptionTable := #[], attributes := #[] }
def k2m5 : Method := { name := "edgeWeight", desc := "(I)I", sig := { parameters := [.int], returnType := some .int }, accessFlags := 1, code := some k2c5 }
def k2c6 : Code := { maxStack := 1, maxLocals := 1, code := prog_1_method_9_code, exceptionTable := #[], attributes := #[] }
def k2m6 : Method := { name := "edgeCount", desc := "()I", sig := { parameters := [], returnType := some .int }, accessFlags := 1, code := some k2c6 }
def k2c7 : Code := { maxStack := 2, maxLocals := 1, code := prog_1_method_10_code, exceptionTable := #[], attributes := #[] }
def k2m7 : Method := { name := "forestWeight", desc := "()J", sig := { parameters := [], returnType := some .long }, accessFlags := 1, code := some k2c7 }
def k2c8 : Code := { maxStack := 2, maxLocals := 1, code := prog_1_method_12_code, exceptionTable := #[], attributes := #[] }
def k2m8 : Method := { name := "componentCount", desc := "()I", sig := { parameters := [], returnType := some .int }, accessFlags := 1, code := some k2c8 }
def k2c9 : Code := { maxStack := 1, maxLocals := 1, code := prog_1_method_16_code, exceptionTable := #[], attributes := #[] }
def k2m9 : Method := { name := "lastEntered", desc := "()I", sig := { parameters := [], returnType := some .int }, accessFlags := 1, code := some k2c9 }
def k2c10 : Code := { maxStack := 1, maxLocals := 1, code := prog_1_method_17_code, exceptionTable := #[], attributes := #[] }
def k2m10 : Method := { name := "lastLeft", desc := "()I", sig := { parameters := [], returnType := some .int }, accessFlags := 1, code := some k2c10 }
def k2c11 : Code := { maxStack := 3, maxLocals := 4, code := prog_1_method_18_code, exceptionTable := #[], attributes := #[] }
def k2m11 : Method := { name := "insertUpdate", desc := "(I)V", sig := { parameters := [.int], returnType := none }, accessFlags := 2, code := some k2c11 }
def k2c12 : Code := { maxStack := 2, maxLocals := 3, code := prog_1_method_21_code, exceptionTable := #[], attributes := #[] }
def k2m12 : Method := { name := "setLast", desc := "(II)V", sig := { parameters := [.int, .int], returnType := none }, accessFlags := 2, code := some k2c12 }
def k2c13 : Code := { maxStack := 2, maxLocals := 2, code := prog_1_method_22_code, exceptionTable := #[], attributes := #[] }
def k2m13 : Method := { name := "lowestFreeSlot", desc := "()I", sig := { parameters := [], returnType := some .int }, accessFlags := 2, code := some k2c13 }
def k2c14 : Code := { maxStack := 3, maxLocals := 5, code := prog_1_method_23_code, exceptionTable := #[], attributes := #[] }
def k2m14 : Method := { name := "storeEdge", desc := "(IIII)V", sig := { parameters := [.int, .int, .int, .int], returnType := none }, accessFlags := 2, code := some k2c14 }
def k2c15 : Code := { maxStack := 5, maxLocals := 2, code := prog_1_method_25_code, exceptionTable := #[], attributes := #[] }
def k2m15 : Method := { name := "joinTree", desc := "(I)V", sig := { parameters := [.int], returnType := none }, accessFlags := 2, code := some k2c15 }
def k2c16 : Code := { maxStack := 4, maxLocals := 3, code := prog_1_method_27_code, exceptionTable := #[], attributes := #[] }
def k2m16 : Method := { name := "addAdjacent", desc := "(II)V", sig := { parameters := [.int, .int], returnType := none }, accessFlags := 2, code := some k2c16 }
def k2c17 : Code := { maxStack := 3, maxLocals := 2, code := prog_1_method_29_code, exceptionTable := #[], attributes := #[] }
def k2m17 : Method := { name := "resetSearch", desc := "()V", sig := { parameters := [], returnType := none }, accessFlags := 2, code := some k2c17 }
def k2c18 : Code := { maxStack := 4, maxLocals := 5, code := prog_1_method_30_code, exceptionTable := #[], attributes := #[] }
def k2m18 : Method := { name := "explore", desc := "(II)I", sig := { parameters := [.int, .int], returnType := some .int }, accessFlags := 2, code := some k2c18 }
def k2c19 : Code := { maxStack := 3, maxLocals := 9, code := prog_1_method_31_code, exceptionTable := #[], attributes := #[] }
def k2m19 : Method := { name := "visitNeighbours", desc := "(III)I", sig := { parameters := [.int, .int, .int], returnType := some .int }, accessFlags := 2, code := some k2c19 }
def k2c20 : Code := { maxStack := 2, maxLocals := 2, code := prog_1_method_39_code, exceptionTable := #[], attributes := #[] }
def k2m20 : Method := { name := "validVertex", desc := "(I)Z", sig := { parameters := [.int], returnType := some .boolean }, accessFlags := 2, code := some k2c20 }
def k2c21 : Code := { maxStack := 2, maxLocals := 2, code := prog_1_method_40_code, exceptionTable := #[], attributes := #[] }
def k2m21 : Method := { name := "validId", desc := "(I)Z", sig := { parameters := [.int], returnType := some .boolean }, accessFlags := 2, code := some k2c21 }
def k2c22 : Code := { maxStack := 2, maxLocals := 2, code := prog_1_method_41_code, exceptionTable := #[], attributes := #[] }
def k2m22 : Method := { name := "clampWeight", desc := "(I)I", sig := { parameters := [.int], returnType := some .int }, accessFlags := 2, code := some k2c22 }
/-- DynamicMinForest -/
def k2 : Class := { plain "DynamicMinForest" (some 0) with
  accessFlags := 49
  interfaces := #[]
  cf := some (fileOf pool2 8 #[] #[{ accessFlags := 1, nameIndex := 5, descriptorIndex := 86, attributes := #[] }, { accessFlags := 1, nameIndex := 173, descriptorIndex := 138, attributes := #[] }, { accessFlags := 1, nameIndex := 89, descriptorIndex := 70, attributes := #[] }, { accessFlags := 1, nameIndex := 115, descriptorIndex := 70, attributes := #[] }, { accessFlags := 1, nameIndex := 176, descriptorIndex := 109, attributes := #[] }, { accessFlags := 1, nameIndex := 177, descriptorIndex := 78, attributes := #[] }, { accessFlags := 1, nameIndex := 178, descriptorIndex := 74, attributes := #[] }, { accessFlags := 1, nameIndex := 179, descriptorIndex := 180, attributes := #[] }, { accessFlags := 1, nameIndex := 182, descriptorIndex := 74, attributes := #[] }, { accessFlags := 1, nameIndex := 186, descriptorIndex := 74, attributes := #[] }, { accessFlags := 1, nameIndex := 187, descriptorIndex := 74, attributes := #[] }, { accessFlags := 2, nameIndex := 85, descriptorIndex := 86, attributes := #[] }, { accessFlags := 2, nameIndex := 95, descriptorIndex := 96, attributes := #[] }, { accessFlags := 2, nameIndex := 73, descriptorIndex := 74, attributes := #[] }, { accessFlags := 2, nameIndex := 81, descriptorIndex := 82, attributes := #[] }, { accessFlags := 2, nameIndex := 121, descriptorIndex := 86, attributes := #[] }, { accessFlags := 2, nameIndex := 131, descriptorIndex := 96, attributes := #[] }, { accessFlags := 2, nameIndex := 66, descriptorIndex := 6, attributes := #[] }, { accessFlags := 2, nameIndex := 108, descriptorIndex := 109, attributes := #[] }, { accessFlags := 2, nameIndex := 137, descriptorIndex := 138, attributes := #[] }, { accessFlags := 2, nameIndex := 69, descriptorIndex := 70, attributes := #[] }, { accessFlags := 2, nameIndex := 105, descriptorIndex := 70, attributes := #[] }, { accessFlags := 2, nameIndex := 77, descriptorIndex := 78, attributes := #[] }] 49 2 #[] #[{ accessFlags := 25, nameIndex := 153, descriptorIndex := 47, attributes := #[] }, { accessFlags := 25, nameIndex := 156, descriptorIndex := 47, attributes := #[] }, { accessFlags := 25, nameIndex := 158, descriptorIndex := 47, attributes := #[] }, { accessFlags := 25, nameIndex := 160, descriptorIndex := 47, attributes := #[] }, { accessFlags := 25, nameIndex := 161, descriptorIndex := 47, attributes := #[] }, { accessFlags := 25, nameIndex := 162, descriptorIndex := 47, attributes := #[] }, { accessFlags := 25, nameIndex := 164, descriptorIndex := 47, attributes := #[] }, { accessFlags := 25, nameIndex := 166, descriptorIndex := 47, attributes := #[] }, { accessFlags := 25, nameIndex := 168, descriptorIndex := 47, attributes := #[] }, { accessFlags := 2, nameIndex := 46, descriptorIndex := 47, attributes := #[] }, { accessFlags := 2, nameIndex := 11, descriptorIndex := 12, attributes := #[] }, { accessFlags := 2, nameIndex := 15, descriptorIndex := 12, attributes := #[] }, { accessFlags := 2, nameIndex := 18, descriptorIndex := 12, attributes := #[] }, { accessFlags := 2, nameIndex := 21, descriptorIndex := 22, attributes := #[] }, { accessFlags := 2, nameIndex := 25, descriptorIndex := 22, attributes := #[] }, { accessFlags := 2, nameIndex := 28, descriptorIndex := 12, attributes := #[] }, { accessFlags := 2, nameIndex := 31, descriptorIndex := 12, attributes := #[] }, { accessFlags := 2, nameIndex := 34, descriptorIndex := 22, attributes := #[] }, { accessFlags := 2, nameIndex := 37, descriptorIndex := 12, attributes := #[] }, { accessFlags := 2, nameIndex := 40, descriptorIndex := 12, attributes := #[] }, { accessFlags := 2, nameIndex := 43, descriptorIndex := 12, attributes := #[] }, { accessFlags := 2, nameIndex := 50, descriptorIndex := 47, attributes := #[] }, { accessFlags := 2, nameIndex := 53, descriptorIndex := 47, attributes := #[] }, { accessFlags := 2, nameIndex := 56, descriptorIndex := 57, attributes := #[] }, { accessFlags := 2, nameIndex := 60, descriptorIndex := 47, attributes := #[] }, { accessFlags := 2, nameIndex := 63, descriptorIndex := 47, attributes := #[] }])
  fields := #[{ name := "MIN_VERTICES", type := .int, accessFlags := 25, slot := 0, constantValue := 0 }, { name := "MAX_VERTICES", type := .int, accessFlags := 25, slot := 1, constantValue := 0 }, { name := "MAX_EDGES", type := .int, accessFlags := 25, slot := 2, constantValue := 0 }, { name := "MIN_WEIGHT", type := .int, accessFlags := 25, slot := 3, constantValue := 0 }, { name := "MAX_WEIGHT", type := .int, accessFlags := 25, slot := 4, constantValue := 0 }, { name := "NONE", type := .int, accessFlags := 25, slot := 5, constantValue := 0 }, { name := "ERR_VERTEX", type := .int, accessFlags := 25, slot := 6, constantValue := 0 }, { name := "ERR_LOOP", type := .int, accessFlags := 25, slot := 7, constantValue := 0 }, { name := "ERR_FULL", type := .int, accessFlags := 25, slot := 8, constantValue := 0 }, { name := "n", type := .int, accessFlags := 2, slot := 0, constantValue := 0 }, { name := "endA", type := (.array .int), accessFlags := 2, slot := 1, constantValue := 0 }, { name := "endB", type := (.array .int), accessFlags := 2, slot := 2, constantValue := 0 }, { name := "weight", type := (.array .int), accessFlags := 2, slot := 3, constantValue := 0 }, { name := "used", type := (.array .boolean), accessFlags := 2, slot := 4, constantValue := 0 }, { name := "inTree", type := (.array .boolean), accessFlags := 2, slot := 5, constantValue := 0 }, { name := "adj", type := (.array .int), accessFlags := 2, slot := 6, constantValue := 0 }, { name := "deg", type := (.array .int), accessFlags := 2, slot := 7, constantValue := 0 }, { name := "seen", type := (.array .boolean), accessFlags := 2, slot := 8, constantValue := 0 }, { name := "parentEdge", type := (.array .int), accessFlags := 2, slot := 9, constantValue := 0 }, { name := "parentVertex", type := (.array .int), accessFlags := 2, slot := 10, constantValue := 0 }, { name := "queue", type := (.array .int), accessFlags := 2, slot := 11, constantValue := 0 }, { name := "presentCount", type := .int, accessFlags := 2, slot := 12, constantValue := 0 }, { name := "treeCount", type := .int, accessFlags := 2, slot := 13, constantValue := 0 }, { name := "treeWeight", type := .long, accessFlags := 2, slot := 14, constantValue := 0 }, { name := "entered", type := .int, accessFlags := 2, slot := 15, constantValue := 0 }, { name := "left", type := .int, accessFlags := 2, slot := 16, constantValue := 0 }]
  methods := #[k2m0, k2m1, k2m2, k2m3, k2m4, k2m5, k2m6, k2m7, k2m8, k2m9, k2m10, k2m11, k2m12, k2m13, k2m14, k2m15, k2m16, k2m17, k2m18, k2m19, k2m20, k2m21, k2m22]
  instanceTypes := #[.int, (.array .int), (.array .int), (.array .int), (.array .boolean), (.array .boolean), (.array .int), (.array .int), (.array .boolean), (.array .int), (.array .int), (.array .int), .int, .int, .long, .int, .int]
  staticTypes := #[.int, .int, .int, .int, .int, .int, .int, .int, .int]
  resolved := Array.replicate 190 none
  statics := none }

def pool3 : Array CpInfo := pool [(1, u "java/lang/Cloneable"), (0, .class_ 1), (0, u "java/lang/Object"), (0, .class_ 3)] 3

/-- java/lang/Cloneable -/
def k3 : Class := { plain "java/lang/Cloneable" (some 0) with
  accessFlags := 1537
  interfaces := #[]
  cf := some (fileOf pool3 2 #[] #[] 1537 4 #[] #[])
  fields := #[]
  methods := #[]
  instanceTypes := #[]
  staticTypes := #[]
  resolved := Array.replicate 8 none
  statics := none }

def pool4 : Array CpInfo := pool [(1, u "java/io/Serializable"), (0, .class_ 1), (0, u "java/lang/Object"), (0, .class_ 3)] 3

/-- java/io/Serializable -/
def k4 : Class := { plain "java/io/Serializable" (some 0) with
  accessFlags := 1537
  interfaces := #[]
  cf := some (fileOf pool4 2 #[] #[] 1537 4 #[] #[])
  fields := #[]
  methods := #[]
  instanceTypes := #[]
  staticTypes := #[]
  resolved := Array.replicate 8 none
  statics := none }

/-- the primitive boolean -/
def k5 : Class := { plain "boolean" none with kind := .primitive 'Z', accessFlags := 0x411 }
/-- [Z -/
def k6 : Class := { plain "[Z" (some 0) with kind := .array 5 .boolean, interfaces := #[3, 4], accessFlags := 1041 }

/-- the primitive byte -/
def k7 : Class := { plain "byte" none with kind := .primitive 'B', accessFlags := 0x411 }
/-- [B -/
def k8 : Class := { plain "[B" (some 0) with kind := .array 7 .byte, interfaces := #[3, 4], accessFlags := 1041 }

/-- the primitive int -/
def k9 : Class := { plain "int" none with kind := .primitive 'I', accessFlags := 0x411 }
/-- [I -/
def k10 : Class := { plain "[I" (some 0) with kind := .array 9 .int, interfaces := #[3, 4], accessFlags := 1041 }

def heap : Heap := #[]
def classes : Array Class := #[k0, k1, k2, k3, k4, k5, k6, k7, k8, k9, k10]
def interned : List (Array UInt16 × Addr) := []
def slotsUsed : Nat := 0
def theMethod : MethodId := ⟨1, 1⟩
def args0 : Array Value := #[.int 5, .int 1, .int 3, .int 7]
def aboutOver (below : List Frame) : State where
  vm := { classes := classes, interned := interned.toArray }
  heap := heap
  slotsUsed := slotsUsed
  threads := #[{ frames := .invoking theMethod args0 :: below }]
def below0 : List Frame := [.native { method := ⟨0, 0⟩, args := #[] }]
def about1 : State := aboutOver below0
def p0 : Program := .bare "" "" ""
def e0 : Env := launch0.env 0 0 0
theorem w_frames : about1.frames = Frame.invoking theMethod args0 :: below0 := rfl
set_option maxRecDepth 65536 in
theorem w_args : argsFit about1.vm theMethod args0 = true := by decide +kernel
set_option maxRecDepth 65536 in
theorem w_heap : heapFits about1 = true := by decide +kernel
set_option maxRecDepth 65536 in
theorem w_runnable : about1.curStatus? = some .runnable := by decide +kernel
set_option maxRecDepth 65536 in
theorem w_alone : about1.alone = true := by decide +kernel
set_option maxRecDepth 65536 in
theorem w_named : about1.methodNamed? x = some theMethod := by decide +kernel
set_option maxRecDepth 65536 in
theorem w_hears : about1.hears theMethod below0 = true := by decide +kernel
set_option maxRecDepth 65536 in
theorem w_ripe : about1.ripe theMethod args0 below0 = true := by decide +kernel
theorem w_running : about1.status = .running := rfl
set_option maxRecDepth 65536 in
theorem w_room : about1.hasRoom e0.platform room_1 = true :=
  launch0.hasRoom_least _ room_1 (by decide +kernel) (by decide +kernel) (by decide +kernel) (by decide +kernel) (by decide +kernel) (by decide +kernel)
theorem allAtoms_all (ts : List Jvm.Cond) (a : Array Jvm.Value) (st : Jvm.State) : (allAtoms ts).before a st = ts.all (fun c => c.before a st) := by
  induction ts with
  | nil => rfl
  | cons c t ih =>
    show (Jvm.Cond.and c (allAtoms t)).before a st = _
    rw [Jvm.Cond.before_and, ih, List.all_cons]
def words1 : List Jvm.Cond := Jvm.Cond.code x code maxLocals ret :: tables_1
/-- a 'code' word, met by the world's own term for the bytes: nothing is compared byte by byte -/
theorem code_word {y : MethodName} {bytes : ByteArray} {mx : Nat} {rt : Option FieldType} {a : Array Value} {s : State} {m : MethodId} {meth : Method} {c : Code} (h1 : s.methodNamed? y = some m) (h2 : s.vm.method? m = some meth) (h3 : meth.code = some c) (h4 : c.code = bytes)
    (h5 : (c.maxLocals == mx && c.exceptionTable.isEmpty && decide (c.maxStack ≤ mostOperands) && decide (meth.sig.returnType = rt) && !meth.locks && decide (parseMethodDescriptor y.desc = some meth.sig)) = true) : (Jvm.Cond.code y bytes mx rt).before a s = true := by
  simp only [Bool.and_eq_true, beq_iff_eq, Bool.not_eq_true', decide_eq_true_eq] at h5
  obtain ⟨⟨⟨⟨⟨g1, g2⟩, g3⟩, g4⟩, g5⟩, g6⟩ := h5
  simp [Cond.before, Cond.holds, Cond.value, h1, h2, h3, h4, g1, g2, g3, g4, g5, g6]
def isCode : Jvm.Cond → Bool
  | .code _ _ _ _ => true
  | _ => false
theorem all_split {L : List Jvm.Cond} {P : Jvm.Cond → Bool} (h1 : L.all (fun c => isCode c || P c) = true) (h2 : ∀ c ∈ L.filter isCode, P c = true) : L.all P = true := by
  refine List.all_eq_true.mpr fun c hc => ?_
  have h := List.all_eq_true.mp h1 c hc
  rcases Bool.eq_false_or_eq_true (isCode c) with hi | hi
  · exact h2 c (List.mem_filter.mpr ⟨hc, hi⟩)
  · simpa [hi] using h
set_option maxRecDepth 65536 in
theorem w_c0 : (Jvm.Cond.code x code maxLocals ret).before args0 about1 = true := code_word (m := ⟨1, 1⟩) (meth := k1m1) (c := k1c1) (by decide +kernel) rfl rfl rfl (by decide +kernel)
set_option maxRecDepth 65536 in
theorem w_c1 : (Jvm.Cond.code ({ cls := "DynamicMinForest", name := "<init>", desc := "(I)V" } : Jvm.MethodName) prog_1_method_1_code (4 : Nat) (Option.none : Option Jvm.ClassFile.FieldType)).before args0 about1 = true := code_word (m := ⟨2, 0⟩) (meth := k2m0) (c := k2c0) (by decide +kernel) rfl rfl rfl (by decide +kernel)
set_option maxRecDepth 65536 in
theorem w_c2 : (Jvm.Cond.code ({ cls := "java/lang/Object", name := "<init>", desc := "()V" } : Jvm.MethodName) object_method_1_code (1 : Nat) (Option.none : Option Jvm.ClassFile.FieldType)).before args0 about1 = true := code_word (m := ⟨0, 0⟩) (meth := k0m0) (c := k0c0) (by decide +kernel) rfl rfl rfl (by decide +kernel)
set_option maxRecDepth 65536 in
theorem w_c3 : (Jvm.Cond.code ({ cls := "DynamicMinForest", name := "resetSearch", desc := "()V" } : Jvm.MethodName) prog_1_method_29_code (2 : Nat) (Option.none : Option Jvm.ClassFile.FieldType)).before args0 about1 = true := code_word (m := ⟨2, 17⟩) (meth := k2m17) (c := k2c17) (by decide +kernel) rfl rfl rfl (by decide +kernel)
set_option maxRecDepth 65536 in
theorem w_c4 : (Jvm.Cond.code ({ cls := "DynamicMinForest", name := "addEdge", desc := "(III)I" } : Jvm.MethodName) prog_1_method_2_code (6 : Nat) (Option.some Jvm.ClassFile.FieldType.int)).before args0 about1 = true := code_word (m := ⟨2, 1⟩) (meth := k2m1) (c := k2c1) (by decide +kernel) rfl rfl rfl (by decide +kernel)
set_option maxRecDepth 65536 in
theorem w_c5 : (Jvm.Cond.code ({ cls := "DynamicMinForest", name := "validVertex", desc := "(I)Z" } : Jvm.MethodName) prog_1_method_39_code (2 : Nat) (Option.some Jvm.ClassFile.FieldType.boolean)).before args0 about1 = true := code_word (m := ⟨2, 20⟩) (meth := k2m20) (c := k2c20) (by decide +kernel) rfl rfl rfl (by decide +kernel)
set_option maxRecDepth 65536 in
theorem w_c6 : (Jvm.Cond.code ({ cls := "DynamicMinForest", name := "edgeCount", desc := "()I" } : Jvm.MethodName) prog_1_method_9_code (1 : Nat) (Option.some Jvm.ClassFile.FieldType.int)).before args0 about1 = true := code_word (m := ⟨2, 6⟩) (meth := k2m6) (c := k2c6) (by decide +kernel) rfl rfl rfl (by decide +kernel)
set_option maxRecDepth 65536 in
theorem w_c7 : (Jvm.Cond.code ({ cls := "DynamicMinForest", name := "isTreeEdge", desc := "(I)Z" } : Jvm.MethodName) prog_1_method_6_code (2 : Nat) (Option.some Jvm.ClassFile.FieldType.boolean)).before args0 about1 = true := code_word (m := ⟨2, 3⟩) (meth := k2m3) (c := k2c3) (by decide +kernel) rfl rfl rfl (by decide +kernel)
set_option maxRecDepth 65536 in
theorem w_c8 : (Jvm.Cond.code ({ cls := "DynamicMinForest", name := "validId", desc := "(I)Z" } : Jvm.MethodName) prog_1_method_40_code (2 : Nat) (Option.some Jvm.ClassFile.FieldType.boolean)).before args0 about1 = true := code_word (m := ⟨2, 21⟩) (meth := k2m21) (c := k2c21) (by decide +kernel) rfl rfl rfl (by decide +kernel)
set_option maxRecDepth 65536 in
theorem w_c9 : (Jvm.Cond.code ({ cls := "DynamicMinForest", name := "edgeWeight", desc := "(I)I" } : Jvm.MethodName) prog_1_method_8_code (2 : Nat) (Option.some Jvm.ClassFile.FieldType.int)).before args0 about1 = true := code_word (m := ⟨2, 5⟩) (meth := k2m5) (c := k2c5) (by decide +kernel) rfl rfl rfl (by decide +kernel)
set_option maxRecDepth 65536 in
theorem w_c10 : (Jvm.Cond.code ({ cls := "DynamicMinForest", name := "isPresent", desc := "(I)Z" } : Jvm.MethodName) prog_1_method_5_code (2 : Nat) (Option.some Jvm.ClassFile.FieldType.boolean)).before args0 about1 = true := code_word (m := ⟨2, 2⟩) (meth := k2m2) (c := k2c2) (by decide +kernel) rfl rfl rfl (by decide +kernel)
set_option maxRecDepth 65536 in
theorem w_c11 : (Jvm.Cond.code ({ cls := "DynamicMinForest", name := "edgeEnd", desc := "(II)I" } : Jvm.MethodName) prog_1_method_7_code (3 : Nat) (Option.some Jvm.ClassFile.FieldType.int)).before args0 about1 = true := code_word (m := ⟨2, 4⟩) (meth := k2m4) (c := k2c4) (by decide +kernel) rfl rfl rfl (by decide +kernel)
set_option maxRecDepth 65536 in
theorem w_c12 : (Jvm.Cond.code ({ cls := "DynamicMinForest", name := "forestWeight", desc := "()J" } : Jvm.MethodName) prog_1_method_10_code (1 : Nat) (Option.some Jvm.ClassFile.FieldType.long)).before args0 about1 = true := code_word (m := ⟨2, 7⟩) (meth := k2m7) (c := k2c7) (by decide +kernel) rfl rfl rfl (by decide +kernel)
set_option maxRecDepth 65536 in
theorem w_c13 : (Jvm.Cond.code ({ cls := "DynamicMinForest", name := "componentCount", desc := "()I" } : Jvm.MethodName) prog_1_method_12_code (1 : Nat) (Option.some Jvm.ClassFile.FieldType.int)).before args0 about1 = true := code_word (m := ⟨2, 8⟩) (meth := k2m8) (c := k2c8) (by decide +kernel) rfl rfl rfl (by decide +kernel)
set_option maxRecDepth 65536 in
theorem w_c14 : (Jvm.Cond.code ({ cls := "DynamicMinForest", name := "lastEntered", desc := "()I" } : Jvm.MethodName) prog_1_method_16_code (1 : Nat) (Option.some Jvm.ClassFile.FieldType.int)).before args0 about1 = true := code_word (m := ⟨2, 9⟩) (meth := k2m9) (c := k2c9) (by decide +kernel) rfl rfl rfl (by decide +kernel)
set_option maxRecDepth 65536 in
theorem w_c15 : (Jvm.Cond.code ({ cls := "DynamicMinForest", name := "lastLeft", desc := "()I" } : Jvm.MethodName) prog_1_method_17_code (1 : Nat) (Option.some Jvm.ClassFile.FieldType.int)).before args0 about1 = true := code_word (m := ⟨2, 10⟩) (meth := k2m10) (c := k2c10) (by decide +kernel) rfl rfl rfl (by decide +kernel)
set_option maxRecDepth 65536 in
theorem w_c16 : (Jvm.Cond.code ({ cls := "DynamicMinForest", name := "lowestFreeSlot", desc := "()I" } : Jvm.MethodName) prog_1_method_22_code (2 : Nat) (Option.some Jvm.ClassFile.FieldType.int)).before args0 about1 = true := code_word (m := ⟨2, 13⟩) (meth := k2m13) (c := k2c13) (by decide +kernel) rfl rfl rfl (by decide +kernel)
set_option maxRecDepth 65536 in
theorem w_c17 : (Jvm.Cond.code ({ cls := "DynamicMinForest", name := "clampWeight", desc := "(I)I" } : Jvm.MethodName) prog_1_method_41_code (2 : Nat) (Option.some Jvm.ClassFile.FieldType.int)).before args0 about1 = true := code_word (m := ⟨2, 22⟩) (meth := k2m22) (c := k2c22) (by decide +kernel) rfl rfl rfl (by decide +kernel)
set_option maxRecDepth 65536 in
theorem w_c18 : (Jvm.Cond.code ({ cls := "DynamicMinForest", name := "storeEdge", desc := "(IIII)V" } : Jvm.MethodName) prog_1_method_23_code (5 : Nat) (Option.none : Option Jvm.ClassFile.FieldType)).before args0 about1 = true := code_word (m := ⟨2, 14⟩) (meth := k2m14) (c := k2c14) (by decide +kernel) rfl rfl rfl (by decide +kernel)
set_option maxRecDepth 65536 in
theorem w_c19 : (Jvm.Cond.code ({ cls := "DynamicMinForest", name := "insertUpdate", desc := "(I)V" } : Jvm.MethodName) prog_1_method_18_code (4 : Nat) (Option.none : Option Jvm.ClassFile.FieldType)).before args0 about1 = true := code_word (m := ⟨2, 11⟩) (meth := k2m11) (c := k2c11) (by decide +kernel) rfl rfl rfl (by decide +kernel)
set_option maxRecDepth 65536 in
theorem w_c20 : (Jvm.Cond.code ({ cls := "DynamicMinForest", name := "explore", desc := "(II)I" } : Jvm.MethodName) prog_1_method_30_code (5 : Nat) (Option.some Jvm.ClassFile.FieldType.int)).before args0 about1 = true := code_word (m := ⟨2, 18⟩) (meth := k2m18) (c := k2c18) (by decide +kernel) rfl rfl rfl (by decide +kernel)
set_option maxRecDepth 65536 in
theorem w_c21 : (Jvm.Cond.code ({ cls := "DynamicMinForest", name := "visitNeighbours", desc := "(III)I" } : Jvm.MethodName) prog_1_method_31_code (9 : Nat) (Option.some Jvm.ClassFile.FieldType.int)).before args0 about1 = true := code_word (m := ⟨2, 19⟩) (meth := k2m19) (c := k2c19) (by decide +kernel) rfl rfl rfl (by decide +kernel)
set_option maxRecDepth 65536 in
theorem w_c22 : (Jvm.Cond.code ({ cls := "DynamicMinForest", name := "joinTree", desc := "(I)V" } : Jvm.MethodName) prog_1_method_25_code (2 : Nat) (Option.none : Option Jvm.ClassFile.FieldType)).before args0 about1 = true := code_word (m := ⟨2, 15⟩) (meth := k2m15) (c := k2c15) (by decide +kernel) rfl rfl rfl (by decide +kernel)
set_option maxRecDepth 65536 in
theorem w_c23 : (Jvm.Cond.code ({ cls := "DynamicMinForest", name := "addAdjacent", desc := "(II)V" } : Jvm.MethodName) prog_1_method_27_code (3 : Nat) (Option.none : Option Jvm.ClassFile.FieldType)).before args0 about1 = true := code_word (m := ⟨2, 16⟩) (meth := k2m16) (c := k2c16) (by decide +kernel) rfl rfl rfl (by decide +kernel)
set_option maxRecDepth 65536 in
theorem w_c24 : (Jvm.Cond.code ({ cls := "DynamicMinForest", name := "setLast", desc := "(II)V" } : Jvm.MethodName) prog_1_method_21_code (3 : Nat) (Option.none : Option Jvm.ClassFile.FieldType)).before args0 about1 = true := code_word (m := ⟨2, 12⟩) (meth := k2m12) (c := k2c12) (by decide +kernel) rfl rfl rfl (by decide +kernel)
def codes1 : List Jvm.Cond := [Jvm.Cond.code x code maxLocals ret, Jvm.Cond.code ({ cls := "DynamicMinForest", name := "<init>", desc := "(I)V" } : Jvm.MethodName) prog_1_method_1_code (4 : Nat) (Option.none : Option Jvm.ClassFile.FieldType), Jvm.Cond.code ({ cls := "java/lang/Object", name := "<init>", desc := "()V" } : Jvm.MethodName) object_method_1_code (1 : Nat) (Option.none : Option Jvm.ClassFile.FieldType), Jvm.Cond.code ({ cls := "DynamicMinForest", name := "resetSearch", desc := "()V" } : Jvm.MethodName) prog_1_method_29_code (2 : Nat) (Option.none : Option Jvm.ClassFile.FieldType), Jvm.Cond.code ({ cls := "DynamicMinForest", name := "addEdge", desc := "(III)I" } : Jvm.MethodName) prog_1_method_2_code (6 : Nat) (Option.some Jvm.ClassFile.FieldType.int), Jvm.Cond.code ({ cls := "DynamicMinForest", name := "validVertex", desc := "(I)Z" } : Jvm.MethodName) prog_1_method_39_code (2 : Nat) (Option.some Jvm.ClassFile.FieldType.boolean), Jvm.Cond.code ({ cls := "DynamicMinForest", name := "edgeCount", desc := "()I" } : Jvm.MethodName) prog_1_method_9_code (1 : Nat) (Option.some Jvm.ClassFile.FieldType.int), Jvm.Cond.code ({ cls := "DynamicMinForest", name := "isTreeEdge", desc := "(I)Z" } : Jvm.MethodName) prog_1_method_6_code (2 : Nat) (Option.some Jvm.ClassFile.FieldType.boolean), Jvm.Cond.code ({ cls := "DynamicMinForest", name := "validId", desc := "(I)Z" } : Jvm.MethodName) prog_1_method_40_code (2 : Nat) (Option.some Jvm.ClassFile.FieldType.boolean), Jvm.Cond.code ({ cls := "DynamicMinForest", name := "edgeWeight", desc := "(I)I" } : Jvm.MethodName) prog_1_method_8_code (2 : Nat) (Option.some Jvm.ClassFile.FieldType.int), Jvm.Cond.code ({ cls := "DynamicMinForest", name := "isPresent", desc := "(I)Z" } : Jvm.MethodName) prog_1_method_5_code (2 : Nat) (Option.some Jvm.ClassFile.FieldType.boolean), Jvm.Cond.code ({ cls := "DynamicMinForest", name := "edgeEnd", desc := "(II)I" } : Jvm.MethodName) prog_1_method_7_code (3 : Nat) (Option.some Jvm.ClassFile.FieldType.int), Jvm.Cond.code ({ cls := "DynamicMinForest", name := "forestWeight", desc := "()J" } : Jvm.MethodName) prog_1_method_10_code (1 : Nat) (Option.some Jvm.ClassFile.FieldType.long), Jvm.Cond.code ({ cls := "DynamicMinForest", name := "componentCount", desc := "()I" } : Jvm.MethodName) prog_1_method_12_code (1 : Nat) (Option.some Jvm.ClassFile.FieldType.int), Jvm.Cond.code ({ cls := "DynamicMinForest", name := "lastEntered", desc := "()I" } : Jvm.MethodName) prog_1_method_16_code (1 : Nat) (Option.some Jvm.ClassFile.FieldType.int), Jvm.Cond.code ({ cls := "DynamicMinForest", name := "lastLeft", desc := "()I" } : Jvm.MethodName) prog_1_method_17_code (1 : Nat) (Option.some Jvm.ClassFile.FieldType.int), Jvm.Cond.code ({ cls := "DynamicMinForest", name := "lowestFreeSlot", desc := "()I" } : Jvm.MethodName) prog_1_method_22_code (2 : Nat) (Option.some Jvm.ClassFile.FieldType.int), Jvm.Cond.code ({ cls := "DynamicMinForest", name := "clampWeight", desc := "(I)I" } : Jvm.MethodName) prog_1_method_41_code (2 : Nat) (Option.some Jvm.ClassFile.FieldType.int), Jvm.Cond.code ({ cls := "DynamicMinForest", name := "storeEdge", desc := "(IIII)V" } : Jvm.MethodName) prog_1_method_23_code (5 : Nat) (Option.none : Option Jvm.ClassFile.FieldType), Jvm.Cond.code ({ cls := "DynamicMinForest", name := "insertUpdate", desc := "(I)V" } : Jvm.MethodName) prog_1_method_18_code (4 : Nat) (Option.none : Option Jvm.ClassFile.FieldType), Jvm.Cond.code ({ cls := "DynamicMinForest", name := "explore", desc := "(II)I" } : Jvm.MethodName) prog_1_method_30_code (5 : Nat) (Option.some Jvm.ClassFile.FieldType.int), Jvm.Cond.code ({ cls := "DynamicMinForest", name := "visitNeighbours", desc := "(III)I" } : Jvm.MethodName) prog_1_method_31_code (9 : Nat) (Option.some Jvm.ClassFile.FieldType.int), Jvm.Cond.code ({ cls := "DynamicMinForest", name := "joinTree", desc := "(I)V" } : Jvm.MethodName) prog_1_method_25_code (2 : Nat) (Option.none : Option Jvm.ClassFile.FieldType), Jvm.Cond.code ({ cls := "DynamicMinForest", name := "addAdjacent", desc := "(II)V" } : Jvm.MethodName) prog_1_method_27_code (3 : Nat) (Option.none : Option Jvm.ClassFile.FieldType), Jvm.Cond.code ({ cls := "DynamicMinForest", name := "setLast", desc := "(II)V" } : Jvm.MethodName) prog_1_method_21_code (3 : Nat) (Option.none : Option Jvm.ClassFile.FieldType)]
set_option maxRecDepth 65536 in
theorem codes_eq : words1.filter isCode = codes1 := rfl
theorem w_codes : ∀ c ∈ words1.filter isCode, c.before args0 about1 = true := by
  rw [codes_eq]
  intro c hc
  simp only [codes1, List.mem_cons, List.not_mem_nil, or_false] at hc
  rcases hc with rfl | rfl | rfl | rfl | rfl | rfl | rfl | rfl | rfl | rfl | rfl | rfl | rfl | rfl | rfl | rfl | rfl | rfl | rfl | rfl | rfl | rfl | rfl | rfl | rfl
  · exact w_c0
  · exact w_c1
  · exact w_c2
  · exact w_c3
  · exact w_c4
  · exact w_c5
  · exact w_c6
  · exact w_c7
  · exact w_c8
  · exact w_c9
  · exact w_c10
  · exact w_c11
  · exact w_c12
  · exact w_c13
  · exact w_c14
  · exact w_c15
  · exact w_c16
  · exact w_c17
  · exact w_c18
  · exact w_c19
  · exact w_c20
  · exact w_c21
  · exact w_c22
  · exact w_c23
  · exact w_c24
set_option maxRecDepth 65536 in
theorem w_t1 : (words1.take 24).all (fun c => isCode c || c.before args0 about1) = true := by decide +kernel
set_option maxRecDepth 65536 in
theorem w_t2 : ((words1.drop 24).take 24).all (fun c => isCode c || c.before args0 about1) = true := by decide +kernel
set_option maxRecDepth 65536 in
theorem w_t3 : (((words1.drop 24).drop 24).take 24).all (fun c => isCode c || c.before args0 about1) = true := by decide +kernel
set_option maxRecDepth 65536 in
theorem w_t4 : ((((words1.drop 24).drop 24).drop 24).take 24).all (fun c => isCode c || c.before args0 about1) = true := by decide +kernel
set_option maxRecDepth 65536 in
theorem w_t5 : (((((words1.drop 24).drop 24).drop 24).drop 24).take 24).all (fun c => isCode c || c.before args0 about1) = true := by decide +kernel
set_option maxRecDepth 65536 in
theorem w_t6 : ((((((words1.drop 24).drop 24).drop 24).drop 24).drop 24).take 24).all (fun c => isCode c || c.before args0 about1) = true := by decide +kernel
set_option maxRecDepth 65536 in
theorem w_t7 : ((((((words1.drop 24).drop 24).drop 24).drop 24).drop 24).drop 24).all (fun c => isCode c || c.before args0 about1) = true := by decide +kernel
theorem w_tables : (allAtoms (Jvm.Cond.code x code maxLocals ret :: tables_1)).before args0 about1 = true := by
  rw [allAtoms_all]
  show words1.all (fun c => c.before args0 about1) = true
  refine all_split ?_ w_codes
  rw [← List.take_append_drop 24 words1, List.all_append, w_t1, ← List.take_append_drop 24 (words1.drop 24), List.all_append, w_t2, ← List.take_append_drop 24 ((words1.drop 24).drop 24), List.all_append, w_t3, ← List.take_append_drop 24 (((words1.drop 24).drop 24).drop 24), List.all_append, w_t4, ← List.take_append_drop 24 ((((words1.drop 24).drop 24).drop 24).drop 24), List.all_append, w_t5, ← List.take_append_drop 24 (((((words1.drop 24).drop 24).drop 24).drop 24).drop 24), List.all_append, w_t6, w_t7]
  rfl
set_option maxRecDepth 65536 in
theorem w_case : (Jvm.Cond.and given_1 narrow_1).before args0 about1 = true := by decide +kernel
theorem w_applies : (headSpec (Jvm.Cond.code x code maxLocals ret :: tables_1) room_1).applies x e0.platform about1 = true :=
  (Spec.applies_iff w_frames).mpr ⟨w_running, w_runnable, w_alone, w_named, w_hears, w_ripe, w_room, w_tables⟩
theorem atStart : AtStart classFile x code maxLocals ret World_1 tables_1 room_1 Calls_1 rest_1 Pre_1 launch0 p0 e0 about1 theMethod args0 below0 :=
  ⟨lists_1, trivial, launch0.admits_env _ _ _, launch0.least_env, fairChoices_fair.cas, fairChoices_fair.clock, w_frames, w_args, w_heap, w_applies, trivial, trivial, w_case⟩
end start1
theorem witness_1 : WitnessClaimed_1 := ⟨start1.p0, start1.e0, start1.about1, start1.theMethod, start1.args0, start1.below0, start1.atStart⟩
end Jvm.Pilot.@@N@@
