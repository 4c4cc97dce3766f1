import JvmDerived
import JvmDerived.Pilot.@@N@@Statement
import JvmDerived.Pilot.@@N@@Code
set_option linter.unusedVariables false
set_option linter.unusedSimpArgs false
namespace Jvm.JX
open Sem ClassFile Op Lib
abbrev Cel : Type := FieldType × Nat × Bool × (Nat → Value)
abbrev AH : Type := Nat × (Nat → Cel)
abbrev MInfo : Type := Nat × Nat × Nat × Option FieldType × Jvm.Room
abbrev Prog : Type := (Nat → Nat → Option (Instr × Nat × Int)) × (Nat → MInfo) × (Nat → FieldType) × Nat
abbrev Fm : Type := Nat × List Slot × List Value × Nat × Nat × AH
def na (P : Prog) (m : Nat) : Nat := (P.2.1 m).1
def ml (P : Prog) (m : Nat) : Nat := (P.2.1 m).2.1
def kd (P : Prog) (m : Nat) : Nat := (P.2.1 m).2.2.1
def rt (P : Prog) (m : Nat) : Option FieldType := (P.2.1 m).2.2.2.1
def rm (P : Prog) (m : Nat) : Jvm.Room := (P.2.1 m).2.2.2.2
def isO (H : AH) (a : Nat) : Bool := match (H.2 a).1 with | .object _ => true | _ => false
def isOw (H : AH) (a : Nat) : Bool := isO H a && (H.2 a).2.2.1
def inA (H : AH) (a : Nat) (t : FieldType) (i : Int32) : Bool := decide ((H.2 a).1 = .array t) && !decide (i < 0) && decide (i.toNatClampNeg < (H.2 a).2.1)
def inAw (H : AH) (a : Nat) (t : FieldType) (i : Int32) : Bool := inA H a t i && (H.2 a).2.2.1
def isA (H : AH) (a : Nat) : Bool := match (H.2 a).1 with | .array _ => true | _ => false
def elt (H : AH) (a : Nat) (i : Int32) : Value := (H.2 a).2.2.2 i.toNatClampNeg
def fld (H : AH) (a k : Nat) : Value := (H.2 a).2.2.2 k
def alen (H : AH) (a : Nat) : Nat := (H.2 a).2.1
def wr (H : AH) (a j : Nat) (v : Value) : AH := (H.1, fun b => if b = a then ((H.2 a).1, (H.2 a).2.1, (H.2 a).2.2.1, fun i => if i = j then v else (H.2 a).2.2.2 i) else H.2 b)
def okv : FieldType → Value → Bool
  | .int, .int _ => true
  | .boolean, .int z => z == 0 || z == 1
  | .byte, .int z => z.toInt8.toInt32 == z
  | .long, .long _ => true
  | .array _, .ref _ => true
  | _, _ => false
def mkO (P : Prog) (H : AH) : AH := (H.1 + 1, fun b => if b = H.1 then (.object "", P.2.2.2, true, fun k => defaultValue (P.2.2.1 k)) else H.2 b)
def mkA (t : FieldType) (n : Nat) (H : AH) : AH := (H.1 + 1, fun b => if b = H.1 then (.array t, n, true, fun _ => defaultValue t) else H.2 b)
def cat1 : Slot → Bool | .unset => true | .val v => v.category == 1 | .second => false
def cs (S : List Value) : Nat := (S.map fun v => v.category).sum
def stl (L : List Slot) (i : Nat) (v : Value) : Option (List Slot) :=
  match L[i]? with
  | some .unset => some (L.set i (.val v))
  | some (.val w) => if w.category = 1 then some (L.set i (.val v)) else if i + 1 < L.length then some ((L.set (i + 1) .unset).set i (.val v)) else none
  | some .second => if 1 ≤ i then some ((L.set (i - 1) .unset).set i (.val v)) else none
  | none => none
def stL (L : List Slot) (i : Nat) (v : Value) : Option (List Slot) :=
  match L[i]?, L[i + 1]? with
  | some (.val w), some o2 => if w.category = 2 then some ((L.set i (.val v)).set (i + 1) .second) else if cat1 o2 = true then some ((L.set i (.val v)).set (i + 1) .second) else none
  | some .unset, some o2 => if cat1 o2 = true then some ((L.set i (.val v)).set (i + 1) .second) else none
  | _, _ => none
def ent (P : Prog) (m : Nat) (a : List Value) : List Slot := Sym.laidSlots a ++ List.replicate (ml P m - (Sym.laidSlots a).length) .unset
def ilen : Instr → Nat
  | .bipush _ | .iload _ | .istore _ | .aload _ | .astore _ | .lload _ | .lstore _ | .newarray _ | .ldc _ => 2
  | .sipush _ | .getfield _ | .putfield _ | .new _ | .invokevirtual _ | .invokestatic _ | .invokespecial _ | .ldc2_w _ | .goto _ | .ifCond _ _ | .if_icmp _ _ | .iinc _ _ => 3
  | _ => 1
def ldI (L : List Slot) (i : Nat) : Option Value := match L[i]? with | some (.val (.int x)) => some (.int x) | _ => none
def ldJ (L : List Slot) (i : Nat) : Option Value := match L[i]? with | some (.val (.long x)) => some (.long x) | _ => none
def ldR (L : List Slot) (i : Nat) : Option Value := match L[i]? with | some (.val (.ref x)) => some (.ref x) | _ => none
def jmp (pc : Nat) (o : Int) : Option Nat := if 0 ≤ (pc : Int) + o then some ((pc : Int) + o).toNat else none
def ret (P : Prog) (m : Nat) (ins : Instr) (S : List Value) : Option (Option Value) :=
  match ins with
  | .return_ => if rt P m = none ∧ S = [] then some none else none
  | .ireturn => match S, rt P m with
    | .int z :: _, some .int => some (some (.int z))
    | .int z :: _, some .boolean => if z = 0 ∨ z = 1 then some (some (.int z)) else none
    | _, _ => none
  | .lreturn => match S, rt P m with
    | .long z :: _, some .long => some (some (.long z))
    | _, _ => none
  | _ => none
def rcv (H : AH) : List Value → Bool | .ref a :: _ => isO H a | _ => false
def may (P : Prog) (m m' : Nat) (a r : List Value) (k n : Nat) (H : AH) : Bool :=
  decide ((Sym.laidSlots a).length ≤ ml P m') && decide (a.length = na P m') && decide ((rm P m').frames + 1 ≤ (rm P m).frames) && decide (cs r + (ml P m' + 11) + (rm P m').locals ≤ (rm P m).locals)
    && (decide ((rm P m').cells = 0 ∧ (rm P m').slots = 0) || decide (k + (rm P m').cells ≤ (rm P m).cells ∧ n + (rm P m').slots ≤ (rm P m).slots))
    && (decide (kd P m' = 0) || rcv H a)
def kindOk : Instr → Nat → Bool
  | .invokevirtual _, k => k == 1 || k == 2
  | .invokestatic _, k => k == 0
  | .invokespecial _, k => k == 3
  | _, _ => false
def cal1 (P : Prog) (m : Nat) (ins : Instr) (aux : Int) (S : List Value) (k n : Nat) (H : AH) : Option (Nat × List Value × List Value) :=
  if 0 ≤ aux ∧ kindOk ins (kd P aux.toNat) = true ∧ may P m aux.toNat (S.take (na P aux.toNat)).reverse (S.drop (na P aux.toNat)) k n H = true
  then some (aux.toNat, (S.take (na P aux.toNat)).reverse, S.drop (na P aux.toNat)) else none
def cal (P : Prog) (m : Nat) (ins : Instr) (aux : Int) (S : List Value) (k n : Nat) (H : AH) : Option (Nat × List Value × List Value) :=
  match ins with
  | .invokevirtual _ | .invokestatic _ | .invokespecial _ => cal1 P m ins aux S k n H
  | _ => none
def opI : Instr → Option (Int32 → Int32 → Int32)
  | .iadd => some fun x y => x + y
  | .isub => some fun x y => x - y
  | .imul => some fun x y => x * y
  | .iand => some fun x y => x &&& y
  | .ior => some fun x y => x ||| y
  | .ixor => some fun x y => x ^^^ y
  | .ishl => some fun x y => x <<< (y &&& 31)
  | .ishr => some fun x y => x >>> (y &&& 31)
  | .iushr => some Jvm.Free.XT.ushr
  | _ => none
def opJ : Instr → Option (Int64 → Int64 → Int64)
  | .ladd => some fun x y => x + y
  | .lsub => some fun x y => x - y
  | .lmul => some fun x y => x * y
  | .land => some fun x y => x &&& y
  | .lor => some fun x y => x ||| y
  | .lxor => some fun x y => x ^^^ y
  | _ => none
def opS : Instr → Option (Int64 → Int32 → Int64)
  | .lshl => some fun x y => x <<< (y.toInt64 &&& 63)
  | .lshr => some fun x y => x >>> (y.toInt64 &&& 63)
  | .lushr => some Jvm.Free.XT.ushrL
  | _ => none
def stp (P : Prog) (m : Nat) (ins : Instr) (len : Nat) (aux : Int) (pc : Nat) (L : List Slot) (S : List Value) (k n : Nat) (H : AH) : Option Fm :=
  match ins with
  | .iconst i => some (pc + len, L, .int (Int32.ofInt i) :: S, k, n, H)
  | .bipush i => some (pc + len, L, .int (Int8.ofInt i).toInt32 :: S, k, n, H)
  | .sipush i => some (pc + len, L, .int (Int16.ofInt i).toInt32 :: S, k, n, H)
  | .lconst i => some (pc + len, L, .long (Int64.ofNat i) :: S, k, n, H)
  | .ldc _ => some (pc + len, L, .int (Int32.ofInt aux) :: S, k, n, H)
  | .ldc2_w _ => some (pc + len, L, .long (Int64.ofInt aux) :: S, k, n, H)
  | .iload i => (ldI L i).map fun v => (pc + len, L, v :: S, k, n, H)
  | .iload_n i => (ldI L i.val).map fun v => (pc + len, L, v :: S, k, n, H)
  | .lload i => (ldJ L i).map fun v => (pc + len, L, v :: S, k, n, H)
  | .lload_n i => (ldJ L i.val).map fun v => (pc + len, L, v :: S, k, n, H)
  | .aload i => (ldR L i).map fun v => (pc + len, L, v :: S, k, n, H)
  | .aload_n i => (ldR L i.val).map fun v => (pc + len, L, v :: S, k, n, H)
  | .istore i => match S with | .int x :: S => (stl L i (.int x)).map fun L => (pc + len, L, S, k, n, H) | _ => none
  | .istore_n i => match S with | .int x :: S => (stl L i.val (.int x)).map fun L => (pc + len, L, S, k, n, H) | _ => none
  | .astore i => match S with | .ref x :: S => (stl L i (.ref x)).map fun L => (pc + len, L, S, k, n, H) | _ => none
  | .astore_n i => match S with | .ref x :: S => (stl L i.val (.ref x)).map fun L => (pc + len, L, S, k, n, H) | _ => none
  | .lstore i => match S with | .long x :: S => (stL L i (.long x)).map fun L => (pc + len, L, S, k, n, H) | _ => none
  | .lstore_n i => match S with | .long x :: S => (stL L i.val (.long x)).map fun L => (pc + len, L, S, k, n, H) | _ => none
  | .iinc i c => match L[i]? with | some (.val (.int x)) => some (pc + len, L.set i (.val (.int (x + Int32.ofInt c))), S, k, n, H) | _ => none
  | .iadd | .isub | .imul | .iand | .ior | .ixor | .ishl | .ishr | .iushr => match S with | .int y :: .int x :: S => (opI ins).map fun f => (pc + len, L, .int (f x y) :: S, k, n, H) | _ => none
  | .ladd | .lsub | .lmul | .land | .lor | .lxor => match S with | .long y :: .long x :: S => (opJ ins).map fun f => (pc + len, L, .long (f x y) :: S, k, n, H) | _ => none
  | .lshl | .lshr | .lushr => match S with | .int y :: .long x :: S => (opS ins).map fun f => (pc + len, L, .long (f x y) :: S, k, n, H) | _ => none
  | .idiv => match S with | .int y :: .int x :: S => if y = 0 then none else some (pc + len, L, .int (x / y) :: S, k, n, H) | _ => none
  | .irem => match S with | .int y :: .int x :: S => if y = 0 then none else some (pc + len, L, .int (x % y) :: S, k, n, H) | _ => none
  | .ldiv => match S with | .long y :: .long x :: S => if y = 0 then none else some (pc + len, L, .long (x / y) :: S, k, n, H) | _ => none
  | .lrem => match S with | .long y :: .long x :: S => if y = 0 then none else some (pc + len, L, .long (x % y) :: S, k, n, H) | _ => none
  | .ineg => match S with | .int x :: S => some (pc + len, L, .int (-x) :: S, k, n, H) | _ => none
  | .lneg => match S with | .long x :: S => some (pc + len, L, .long (-x) :: S, k, n, H) | _ => none
  | .i2l => match S with | .int x :: S => some (pc + len, L, .long x.toInt64 :: S, k, n, H) | _ => none
  | .l2i => match S with | .long x :: S => some (pc + len, L, .int x.toInt32 :: S, k, n, H) | _ => none
  | .i2b => match S with | .int x :: S => some (pc + len, L, .int x.toInt8.toInt32 :: S, k, n, H) | _ => none
  | .lcmp => match S with | .long y :: .long x :: S => some (pc + len, L, .int (Jvm.Free.XT.cmpL x y) :: S, k, n, H) | _ => none
  | .dup => match S with | v :: S => if v.category = 1 then some (pc + len, L, v :: v :: S, k, n, H) else none | _ => none
  | .dup2 => match S with
    | .long x :: S => some (pc + len, L, .long x :: .long x :: S, k, n, H)
    | v :: w :: S => if v.category = 1 ∧ w.category = 1 then some (pc + len, L, v :: w :: v :: w :: S, k, n, H) else none
    | _ => none
  | .pop => match S with | v :: S => if v.category = 1 then some (pc + len, L, S, k, n, H) else none | _ => none
  | .goto o => (jmp pc o).map fun q => (q, L, S, k, n, H)
  | .ifCond c o => match S with | .int x :: S => if ifCond.holds c x = true then (jmp pc o).map fun q => (q, L, S, k, n, H) else some (pc + len, L, S, k, n, H) | _ => none
  | .if_icmp c o => match S with | .int y :: .int x :: S => if if_icmp.holds c x y = true then (jmp pc o).map fun q => (q, L, S, k, n, H) else some (pc + len, L, S, k, n, H) | _ => none
  | .tableswitch d lo hi os => match S with
    | .int x :: S => if x.toInt < lo ∨ x.toInt > hi then (jmp pc d).map fun q => (q, L, S, k, n, H) else (os[(x.toInt - lo).toNat]?).bind fun o => (jmp pc o).map fun q => (q, L, S, k, n, H)
    | _ => none
  | .getfield _ => match S with | .ref a :: S => if isO H a = true then some (pc + len, L, fld H a aux.toNat :: S, k, n, H) else none | _ => none
  | .putfield _ => match S with | v :: .ref a :: S => if isOw H a = true ∧ okv (P.2.2.1 aux.toNat) v = true then some (pc + len, L, S, k, n, wr H a aux.toNat v) else none | _ => none
  | .iaload => match S with | .int i :: .ref a :: S => if inA H a .int i = true then some (pc + len, L, elt H a i :: S, k, n, H) else none | _ => none
  | .laload => match S with | .int i :: .ref a :: S => if inA H a .long i = true then some (pc + len, L, elt H a i :: S, k, n, H) else none | _ => none
  | .baload => match S with | .int i :: .ref a :: S => if inA H a .byte i = true ∨ inA H a .boolean i = true then some (pc + len, L, elt H a i :: S, k, n, H) else none | _ => none
  | .iastore => match S with | .int x :: .int i :: .ref a :: S => if inAw H a .int i = true then some (pc + len, L, S, k, n, wr H a i.toNatClampNeg (.int x)) else none | _ => none
  | .lastore => match S with | .long x :: .int i :: .ref a :: S => if inAw H a .long i = true then some (pc + len, L, S, k, n, wr H a i.toNatClampNeg (.long x)) else none | _ => none
  | .bastore => match S with
    | .int x :: .int i :: .ref a :: S => if (inAw H a .byte i = true ∧ okv .byte (.int x) = true) ∨ (inAw H a .boolean i = true ∧ okv .boolean (.int x) = true) then some (pc + len, L, S, k, n, wr H a i.toNatClampNeg (.int x)) else none
    | _ => none
  | .arraylength => match S with | .ref a :: S => if isA H a = true then some (pc + len, L, .int (alen H a).toInt32 :: S, k, n, H) else none | _ => none
  | .newarray t => match S with | .int c :: S => if ¬ c < 0 ∧ c.toNatClampNeg * 8 ≤ 536870912 ∧ k + 1 ≤ (rm P m).cells ∧ n + c.toNatClampNeg ≤ (rm P m).slots then some (pc + len, L, .ref H.1 :: S, k + 1, n + c.toNatClampNeg, mkA (newarray.typeOf t) c.toNatClampNeg H) else none | _ => none
  | .new _ => if 0 ≤ aux ∧ k + 1 ≤ (rm P m).cells ∧ n + aux.toNat ≤ (rm P m).slots then some (pc + len, L, .ref H.1 :: S, k + 1, n + aux.toNat, mkO P H) else none
  | .invokespecial _ => match S with | .ref a :: S => if aux = -1 ∧ 1 ≤ (rm P m).frames ∧ cs S + 12 ≤ (rm P m).locals then some (pc + len, L, S, k, n, H) else none | _ => none
  | _ => none
def run (P : Prog) : Nat → Nat → Nat → List Slot → List Value → Nat → Nat → AH → Option (Option Value × AH)
  | 0, _, _, _, _, _, _, _ => none
  | f + 1, m, pc, L, S, k, n, H =>
    match P.1 m pc with
    | none => none
    | some d =>
      match ret P m d.1 S with
      | some v => some (v, H)
      | none => match cal P m d.1 d.2.2 S k n H with
        | some c => match run P f c.1 0 (ent P c.1 c.2.1) [] 0 0 H with
          | none => none
          | some r => run P f m (pc + d.2.1) L (r.1.toList ++ c.2.2) (k + (rm P c.1).cells) (n + (rm P c.1).slots) r.2
        | none => match stp P m d.1 d.2.1 d.2.2 pc L S k n H with
          | none => none
          | some q => run P f m q.1 q.2.1 q.2.2.1 q.2.2.2.1 q.2.2.2.2.1 q.2.2.2.2.2
end Jvm.JX

namespace Jvm.JX
open Sem ClassFile Op Lib
section
variable {P : Prog}
theorem run_succ (f m pc : Nat) (L : List Slot) (S : List Value) (k n : Nat) (H : AH) : run P (f + 1) m pc L S k n H =
    match P.1 m pc with
    | none => none
    | some d =>
      match ret P m d.1 S with
      | some v => some (v, H)
      | none => match cal P m d.1 d.2.2 S k n H with
        | some c => match run P f c.1 0 (ent P c.1 c.2.1) [] 0 0 H with
          | none => none
          | some r => run P f m (pc + d.2.1) L (r.1.toList ++ c.2.2) (k + (rm P c.1).cells) (n + (rm P c.1).slots) r.2
        | none => match stp P m d.1 d.2.1 d.2.2 pc L S k n H with
          | none => none
          | some q => run P f m q.1 q.2.1 q.2.2.1 q.2.2.2.1 q.2.2.2.2.1 q.2.2.2.2.2 := rfl
theorem run_mono : ∀ (f m pc : Nat) (L : List Slot) (S : List Value) (k n : Nat) (H : AH) (r : Option Value × AH), run P f m pc L S k n H = some r → run P (f + 1) m pc L S k n H = some r := by
  intro f
  induction f with
  | zero => intro m pc L S k n H r h; cases h
  | succ f ih =>
    intro m pc L S k n H r h
    rw [run_succ] at h ⊢
    cases hd : P.1 m pc with
    | none => rw [hd] at h; cases h
    | some d =>
      rw [hd] at h
      simp only at h ⊢
      cases hr : ret P m d.1 S with
      | some v => rw [hr] at h; exact h
      | none =>
        rw [hr] at h
        simp only at h ⊢
        cases hc : cal P m d.1 d.2.2 S k n H with
        | some c =>
          rw [hc] at h
          simp only at h ⊢
          cases hq : run P f c.1 0 (ent P c.1 c.2.1) [] 0 0 H with
          | none => rw [hq] at h; cases h
          | some q =>
            rw [hq] at h
            rw [ih _ _ _ _ _ _ _ _ hq]
            exact ih _ _ _ _ _ _ _ _ h
        | none =>
          rw [hc] at h
          simp only at h ⊢
          cases hs : stp P m d.1 d.2.1 d.2.2 pc L S k n H with
          | none => rw [hs] at h; cases h
          | some q => rw [hs] at h; exact ih _ _ _ _ _ _ _ _ h
theorem run_le {f g : Nat} (hfg : f ≤ g) {m pc : Nat} {L : List Slot} {S : List Value} {k n : Nat} {H : AH} {r : Option Value × AH} (h : run P f m pc L S k n H = some r) : run P g m pc L S k n H = some r := by
  induction hfg with
  | refl => exact h
  | step _ ih => exact run_mono _ _ _ _ _ _ _ _ _ ih
end
def W (P : Prog) (m pc : Nat) (L : List Slot) (S : List Value) (k n : Nat) (H : AH) (Q : Option Value → AH → Prop) : Prop := ∃ f v H', run P f m pc L S k n H = some (v, H') ∧ Q v H'
def Cl (P : Prog) (m : Nat) (a : List Value) (H : AH) (Q : Option Value → AH → Prop) : Prop := W P m 0 (ent P m a) [] 0 0 H Q
section Rules
variable {P : Prog} {m pc : Nat} {L : List Slot} {S : List Value} {k n : Nat} {H : AH} {Q : Option Value → AH → Prop} {ins : Instr} {len : Nat} {aux : Int}
theorem W_mono {Q' : Option Value → AH → Prop} (h : W P m pc L S k n H Q) (hq : ∀ v H', Q v H' → Q' v H') : W P m pc L S k n H Q' := by
  obtain ⟨f, v, H', h1, h2⟩ := h
  exact ⟨f, v, H', h1, hq _ _ h2⟩
theorem W_r {v : Option Value} (hd : P.1 m pc = some (ins, len, aux)) (hr : ret P m ins S = some v) : W P m pc L S k n H Q ↔ Q v H := by
  constructor
  · rintro ⟨f, v', H', h1, h2⟩
    cases f with
    | zero => cases h1
    | succ f => rw [run_succ, hd] at h1; simp only [hr] at h1; cases h1; exact h2
  · intro h
    refine ⟨1, v, H, ?_, h⟩
    rw [run_succ, hd]; simp only [hr]
theorem W_c {m' : Nat} {a r : List Value} (hd : P.1 m pc = some (ins, len, aux)) (hr : ret P m ins S = none) (hc : cal P m ins aux S k n H = some (m', a, r)) :
    W P m pc L S k n H Q ↔ Cl P m' a H (fun v H' => W P m (pc + len) L (v.toList ++ r) (k + (rm P m').cells) (n + (rm P m').slots) H' Q) := by
  constructor
  · rintro ⟨f, v', H', h1, h2⟩
    cases f with
    | zero => cases h1
    | succ f =>
      rw [run_succ, hd] at h1; simp only [hr, hc] at h1
      cases hq : run P f m' 0 (ent P m' a) [] 0 0 H with
      | none => rw [hq] at h1; cases h1
      | some q => rw [hq] at h1; exact ⟨f, q.1, q.2, hq, f, v', H', h1, h2⟩
  · rintro ⟨f, v, H', h1, g, v', H'', h2, h3⟩
    refine ⟨max f g + 1, v', H'', ?_, h3⟩
    rw [run_succ, hd]; simp only [hr, hc]
    rw [run_le (Nat.le_max_left f g) h1]
    exact run_le (Nat.le_max_right f g) h2
theorem W_q (hd : P.1 m pc = some (ins, len, aux)) (hr : ret P m ins S = none) (hc : cal P m ins aux S k n H = none) :
    W P m pc L S k n H Q ↔ ∃ q, stp P m ins len aux pc L S k n H = some q ∧ W P m q.1 q.2.1 q.2.2.1 q.2.2.2.1 q.2.2.2.2.1 q.2.2.2.2.2 Q := by
  constructor
  · rintro ⟨f, v', H', h1, h2⟩
    cases f with
    | zero => cases h1
    | succ f =>
      rw [run_succ, hd] at h1; simp only [hr, hc] at h1
      cases hq : stp P m ins len aux pc L S k n H with
      | none => rw [hq] at h1; cases h1
      | some q => rw [hq] at h1; exact ⟨q, rfl, f, v', H', h1, h2⟩
  · rintro ⟨q, hq, f, v', H', h1, h2⟩
    refine ⟨f + 1, v', H', ?_, h2⟩
    rw [run_succ, hd]; simp only [hr, hc, hq]; exact h1
theorem W_s {pc' : Nat} {L' : List Slot} {S' : List Value} {k' n' : Nat} {H' : AH} (hd : P.1 m pc = some (ins, len, aux)) (hr : ret P m ins S = none) (hc : cal P m ins aux S k n H = none)
    (hs : stp P m ins len aux pc L S k n H = some (pc', L', S', k', n', H')) : W P m pc L S k n H Q ↔ W P m pc' L' S' k' n' H' Q := by
  rw [W_q hd hr hc, hs]
  exact ⟨fun ⟨q, e, h⟩ => by cases e; exact h, fun h => ⟨_, rfl, h⟩⟩
theorem W_g {G : Prop} [Decidable G] {pc' : Nat} {L' : List Slot} {S' : List Value} {k' n' : Nat} {H' : AH} (hd : P.1 m pc = some (ins, len, aux)) (hr : ret P m ins S = none) (hc : cal P m ins aux S k n H = none)
    (hs : stp P m ins len aux pc L S k n H = if G then some (pc', L', S', k', n', H') else none) : W P m pc L S k n H Q ↔ (G ∧ W P m pc' L' S' k' n' H' Q) := by
  rw [W_q hd hr hc, hs]
  by_cases g : G
  · rw [if_pos g]; exact ⟨fun ⟨q, e, h⟩ => by cases e; exact ⟨g, h⟩, fun h => ⟨_, rfl, h.2⟩⟩
  · rw [if_neg g]; exact ⟨fun ⟨q, e, h⟩ => (by cases e), fun h => absurd h.1 g⟩
theorem W_n {G : Prop} [Decidable G] {pc' : Nat} {L' : List Slot} {S' : List Value} {k' n' : Nat} {H' : AH} (hd : P.1 m pc = some (ins, len, aux)) (hr : ret P m ins S = none) (hc : cal P m ins aux S k n H = none)
    (hs : stp P m ins len aux pc L S k n H = if G then none else some (pc', L', S', k', n', H')) : W P m pc L S k n H Q ↔ (¬ G ∧ W P m pc' L' S' k' n' H' Q) := by
  rw [W_q hd hr hc, hs]
  by_cases g : G
  · rw [if_pos g]; exact ⟨fun ⟨q, e, h⟩ => (by cases e), fun h => absurd g h.1⟩
  · rw [if_neg g]; exact ⟨fun ⟨q, e, h⟩ => by cases e; exact ⟨g, h⟩, fun h => ⟨_, rfl, h.2⟩⟩
theorem W_f {G : Prop} [Decidable G] {q1 q2 : Fm} (hd : P.1 m pc = some (ins, len, aux)) (hr : ret P m ins S = none) (hc : cal P m ins aux S k n H = none)
    (hs : stp P m ins len aux pc L S k n H = if G then some q1 else some q2) : W P m pc L S k n H Q ↔ (if G then W P m q1.1 q1.2.1 q1.2.2.1 q1.2.2.2.1 q1.2.2.2.2.1 q1.2.2.2.2.2 Q else W P m q2.1 q2.2.1 q2.2.2.1 q2.2.2.2.1 q2.2.2.2.2.1 q2.2.2.2.2.2 Q) := by
  rw [W_q hd hr hc, hs]
  by_cases g : G
  · rw [if_pos g, if_pos g]; exact ⟨fun ⟨q, e, h⟩ => by cases e; exact h, fun h => ⟨_, rfl, h⟩⟩
  · rw [if_neg g, if_neg g]; exact ⟨fun ⟨q, e, h⟩ => by cases e; exact h, fun h => ⟨_, rfl, h⟩⟩
section Cmp
variable {x y : Int32} {o : Int} {q : Nat}
theorem W_icmp_eq (hd : P.1 m pc = some (.if_icmp .eq o, len, aux)) (hj : jmp pc o = some q) : W P m pc L (.int y :: .int x :: S) k n H Q ↔ (if x = y then W P m q L S k n H Q else W P m (pc + len) L S k n H Q) :=
  W_f (G := x = y) (q1 := (q, L, S, k, n, H)) (q2 := (pc + len, L, S, k, n, H)) hd rfl rfl (by simp only [stp, hj, if_icmp.holds]; by_cases h : x = y <;> simp [h])
theorem W_icmp_ne (hd : P.1 m pc = some (.if_icmp .ne o, len, aux)) (hj : jmp pc o = some q) : W P m pc L (.int y :: .int x :: S) k n H Q ↔ (if x = y then W P m (pc + len) L S k n H Q else W P m q L S k n H Q) :=
  W_f (G := x = y) (q1 := (pc + len, L, S, k, n, H)) (q2 := (q, L, S, k, n, H)) hd rfl rfl (by simp only [stp, hj, if_icmp.holds]; by_cases h : x = y <;> simp [h])
theorem W_icmp_lt (hd : P.1 m pc = some (.if_icmp .lt o, len, aux)) (hj : jmp pc o = some q) : W P m pc L (.int y :: .int x :: S) k n H Q ↔ (if x < y then W P m q L S k n H Q else W P m (pc + len) L S k n H Q) :=
  W_f (G := x < y) (q1 := (q, L, S, k, n, H)) (q2 := (pc + len, L, S, k, n, H)) hd rfl rfl (by
    by_cases h : x < y
    · simp [stp, hj, Jvm.Free.XT.ii_lt_t h, h]
    · simp [stp, hj, Jvm.Free.XT.ii_lt_f h, h])
theorem W_icmp_ge (hd : P.1 m pc = some (.if_icmp .ge o, len, aux)) (hj : jmp pc o = some q) : W P m pc L (.int y :: .int x :: S) k n H Q ↔ (if x < y then W P m (pc + len) L S k n H Q else W P m q L S k n H Q) :=
  W_f (G := x < y) (q1 := (pc + len, L, S, k, n, H)) (q2 := (q, L, S, k, n, H)) hd rfl rfl (by
    by_cases h : x < y
    · simp [stp, hj, Jvm.Free.XT.ii_ge_f h, h]
    · simp [stp, hj, Jvm.Free.XT.ii_ge_t h, h])
theorem W_icmp_gt (hd : P.1 m pc = some (.if_icmp .gt o, len, aux)) (hj : jmp pc o = some q) : W P m pc L (.int y :: .int x :: S) k n H Q ↔ (if y < x then W P m q L S k n H Q else W P m (pc + len) L S k n H Q) :=
  W_f (G := y < x) (q1 := (q, L, S, k, n, H)) (q2 := (pc + len, L, S, k, n, H)) hd rfl rfl (by
    by_cases h : y < x
    · simp [stp, hj, Jvm.Free.XT.ii_gt_t h, h]
    · simp [stp, hj, Jvm.Free.XT.ii_gt_f h, h])
theorem W_icmp_le (hd : P.1 m pc = some (.if_icmp .le o, len, aux)) (hj : jmp pc o = some q) : W P m pc L (.int y :: .int x :: S) k n H Q ↔ (if y < x then W P m (pc + len) L S k n H Q else W P m q L S k n H Q) :=
  W_f (G := y < x) (q1 := (pc + len, L, S, k, n, H)) (q2 := (q, L, S, k, n, H)) hd rfl rfl (by
    by_cases h : y < x
    · simp [stp, hj, Jvm.Free.XT.ii_le_f h, h]
    · simp [stp, hj, Jvm.Free.XT.ii_le_t h, h])
theorem W_if_eq (hd : P.1 m pc = some (.ifCond .eq o, len, aux)) (hj : jmp pc o = some q) : W P m pc L (.int x :: S) k n H Q ↔ (if x = 0 then W P m q L S k n H Q else W P m (pc + len) L S k n H Q) :=
  W_f (G := x = 0) (q1 := (q, L, S, k, n, H)) (q2 := (pc + len, L, S, k, n, H)) hd rfl rfl (by
    by_cases h : x = 0
    · have e := Jvm.Free.XT.i0_eq_t h; simp only [stp, hj, e, if_pos h, if_true, Option.map_some]
    · simp [stp, hj, Jvm.Free.XT.i0_eq_f h, h])
theorem W_if_ne (hd : P.1 m pc = some (.ifCond .ne o, len, aux)) (hj : jmp pc o = some q) : W P m pc L (.int x :: S) k n H Q ↔ (if x = 0 then W P m (pc + len) L S k n H Q else W P m q L S k n H Q) :=
  W_f (G := x = 0) (q1 := (pc + len, L, S, k, n, H)) (q2 := (q, L, S, k, n, H)) hd rfl rfl (by
    by_cases h : x = 0
    · have e := Jvm.Free.XT.i0_ne_f h; simp only [stp, hj, e, if_pos h, Bool.false_eq_true, if_false]
    · simp [stp, hj, Jvm.Free.XT.i0_ne_t h, h])
theorem W_if_lt (hd : P.1 m pc = some (.ifCond .lt o, len, aux)) (hj : jmp pc o = some q) : W P m pc L (.int x :: S) k n H Q ↔ (if x < 0 then W P m q L S k n H Q else W P m (pc + len) L S k n H Q) :=
  W_f (G := x < 0) (q1 := (q, L, S, k, n, H)) (q2 := (pc + len, L, S, k, n, H)) hd rfl rfl (by
    by_cases h : x < 0
    · simp [stp, hj, Jvm.Free.XT.i0_lt_t h, h]
    · simp [stp, hj, Jvm.Free.XT.i0_lt_f h, h])
theorem W_if_ge (hd : P.1 m pc = some (.ifCond .ge o, len, aux)) (hj : jmp pc o = some q) : W P m pc L (.int x :: S) k n H Q ↔ (if x < 0 then W P m (pc + len) L S k n H Q else W P m q L S k n H Q) :=
  W_f (G := x < 0) (q1 := (pc + len, L, S, k, n, H)) (q2 := (q, L, S, k, n, H)) hd rfl rfl (by
    by_cases h : x < 0
    · simp [stp, hj, Jvm.Free.XT.i0_ge_f h, h]
    · simp [stp, hj, Jvm.Free.XT.i0_ge_t h, h])
theorem W_if_gt (hd : P.1 m pc = some (.ifCond .gt o, len, aux)) (hj : jmp pc o = some q) : W P m pc L (.int x :: S) k n H Q ↔ (if 0 < x then W P m q L S k n H Q else W P m (pc + len) L S k n H Q) :=
  W_f (G := 0 < x) (q1 := (q, L, S, k, n, H)) (q2 := (pc + len, L, S, k, n, H)) hd rfl rfl (by
    by_cases h : 0 < x
    · simp [stp, hj, Jvm.Free.XT.i0_gt_t h, h]
    · simp [stp, hj, Jvm.Free.XT.i0_gt_f h, h])
theorem W_if_le (hd : P.1 m pc = some (.ifCond .le o, len, aux)) (hj : jmp pc o = some q) : W P m pc L (.int x :: S) k n H Q ↔ (if 0 < x then W P m (pc + len) L S k n H Q else W P m q L S k n H Q) :=
  W_f (G := 0 < x) (q1 := (pc + len, L, S, k, n, H)) (q2 := (q, L, S, k, n, H)) hd rfl rfl (by
    by_cases h : 0 < x
    · simp [stp, hj, Jvm.Free.XT.i0_le_f h, h]
    · simp [stp, hj, Jvm.Free.XT.i0_le_t h, h])
theorem W_goto (hd : P.1 m pc = some (.goto o, len, aux)) (hj : jmp pc o = some q) : W P m pc L S k n H Q ↔ W P m q L S k n H Q := W_s hd rfl rfl (by simp [stp, hj])
end Cmp
section Sto
variable {i : Nat} {o o2 : Slot} {x y : Int32} {v : Value} {l : Int64} {a : Nat}
theorem stl_plain (h : L[i]? = some o) (ho : cat1 o = true) : stl L i v = some (L.set i (.val v)) := by
  unfold stl
  rw [h]
  cases o with
  | unset => rfl
  | second => cases ho
  | val w => simp only [cat1, beq_iff_eq] at ho; simp [ho]
theorem stL_plain (h : L[i]? = some o) (h2 : L[i + 1]? = some o2) (ho : cat1 o = true) (ho2 : cat1 o2 = true) : stL L i v = some ((L.set i (.val v)).set (i + 1) .second) := by
  unfold stL
  rw [h, h2]
  cases o with
  | unset => simp [ho2]
  | second => cases ho
  | val w => simp only [cat1, beq_iff_eq] at ho; simp [ho, ho2]
theorem stL_again (h : L[i]? = some (.val (.long l))) (h2 : L[i + 1]? = some o2) : stL L i v = some ((L.set i (.val v)).set (i + 1) .second) := by
  unfold stL
  rw [h, h2]; simp [Value.category]
theorem W_ist (hd : P.1 m pc = some (.istore i, len, aux)) (h : L[i]? = some o) (ho : cat1 o = true) : W P m pc L (.int x :: S) k n H Q ↔ W P m (pc + len) (L.set i (.val (.int x))) S k n H Q := W_s hd rfl rfl (by simp [stp, stl_plain h ho])
theorem W_istn {i : Fin 4} (hd : P.1 m pc = some (.istore_n i, len, aux)) (h : L[i.val]? = some o) (ho : cat1 o = true) : W P m pc L (.int x :: S) k n H Q ↔ W P m (pc + len) (L.set i.val (.val (.int x))) S k n H Q := W_s hd rfl rfl (by simp [stp, stl_plain h ho])
theorem W_ast (hd : P.1 m pc = some (.astore i, len, aux)) (h : L[i]? = some o) (ho : cat1 o = true) : W P m pc L (.ref a :: S) k n H Q ↔ W P m (pc + len) (L.set i (.val (.ref a))) S k n H Q := W_s hd rfl rfl (by simp [stp, stl_plain h ho])
theorem W_astn {i : Fin 4} (hd : P.1 m pc = some (.astore_n i, len, aux)) (h : L[i.val]? = some o) (ho : cat1 o = true) : W P m pc L (.ref a :: S) k n H Q ↔ W P m (pc + len) (L.set i.val (.val (.ref a))) S k n H Q := W_s hd rfl rfl (by simp [stp, stl_plain h ho])
theorem W_lst (hd : P.1 m pc = some (.lstore i, len, aux)) (h : L[i]? = some o) (h2 : L[i + 1]? = some o2) (ho : cat1 o = true) (ho2 : cat1 o2 = true) : W P m pc L (.long l :: S) k n H Q ↔ W P m (pc + len) ((L.set i (.val (.long l))).set (i + 1) .second) S k n H Q := W_s hd rfl rfl (by simp [stp, stL_plain h h2 ho ho2])
theorem W_lstn {i : Fin 4} (hd : P.1 m pc = some (.lstore_n i, len, aux)) (h : L[i.val]? = some o) (h2 : L[i.val + 1]? = some o2) (ho : cat1 o = true) (ho2 : cat1 o2 = true) : W P m pc L (.long l :: S) k n H Q ↔ W P m (pc + len) ((L.set i.val (.val (.long l))).set (i.val + 1) .second) S k n H Q := W_s hd rfl rfl (by simp [stp, stL_plain h h2 ho ho2])
theorem W_lst' {l' : Int64} (hd : P.1 m pc = some (.lstore i, len, aux)) (h : L[i]? = some (.val (.long l'))) (h2 : L[i + 1]? = some o2) : W P m pc L (.long l :: S) k n H Q ↔ W P m (pc + len) ((L.set i (.val (.long l))).set (i + 1) .second) S k n H Q := W_s hd rfl rfl (by simp [stp, stL_again h h2])
theorem W_lstn' {l' : Int64} {i : Fin 4} (hd : P.1 m pc = some (.lstore_n i, len, aux)) (h : L[i.val]? = some (.val (.long l'))) (h2 : L[i.val + 1]? = some o2) : W P m pc L (.long l :: S) k n H Q ↔ W P m (pc + len) ((L.set i.val (.val (.long l))).set (i.val + 1) .second) S k n H Q := W_s hd rfl rfl (by simp [stp, stL_again h h2])
theorem st_long {S' : List Value} (h : L[i]? = some (.val (.long l))) (h2 : L[i + 1]? = some .second) : ((stl L i v).map fun L => (pc, L, S', k, n, H)) = some (pc, (L.set (i + 1) .unset).set i (.val v), S', k, n, H) := by
  have := (List.getElem?_eq_some_iff.mp h2).1
  simp [stl, h, Value.category, this]
theorem cat1_unset : cat1 .unset = true := rfl
theorem cat1_int : cat1 (.val (.int x)) = true := rfl
theorem cat1_ref : cat1 (.val (.ref a)) = true := rfl
theorem cs_nil : cs [] = 0 := rfl
theorem cs_int : cs (.int x :: S) = 1 + cs S := by simp [cs, Value.category]
theorem cs_ref : cs (.ref a :: S) = 1 + cs S := by simp [cs, Value.category]
theorem cs_long : cs (.long l :: S) = 2 + cs S := by simp [cs, Value.category]
end Sto
section Heap
variable {a j : Nat} {i x c : Int32} {v : Value} {l : Int64}
theorem W_getf {ix : Nat} (hd : P.1 m pc = some (.getfield ix, len, aux)) : W P m pc L (.ref a :: S) k n H Q ↔ (isO H a = true ∧ W P m (pc + len) L (fld H a aux.toNat :: S) k n H Q) := W_g hd rfl rfl rfl
theorem W_putf {ix : Nat} (hd : P.1 m pc = some (.putfield ix, len, aux)) : W P m pc L (v :: .ref a :: S) k n H Q ↔ ((isOw H a = true ∧ okv (P.2.2.1 aux.toNat) v = true) ∧ W P m (pc + len) L S k n (wr H a aux.toNat v) Q) := W_g hd rfl rfl rfl
theorem W_iaload (hd : P.1 m pc = some (.iaload, len, aux)) : W P m pc L (.int i :: .ref a :: S) k n H Q ↔ (inA H a .int i = true ∧ W P m (pc + len) L (elt H a i :: S) k n H Q) := W_g hd rfl rfl rfl
theorem W_laload (hd : P.1 m pc = some (.laload, len, aux)) : W P m pc L (.int i :: .ref a :: S) k n H Q ↔ (inA H a .long i = true ∧ W P m (pc + len) L (elt H a i :: S) k n H Q) := W_g hd rfl rfl rfl
theorem W_baload (hd : P.1 m pc = some (.baload, len, aux)) : W P m pc L (.int i :: .ref a :: S) k n H Q ↔ ((inA H a .byte i = true ∨ inA H a .boolean i = true) ∧ W P m (pc + len) L (elt H a i :: S) k n H Q) := W_g hd rfl rfl rfl
theorem W_iastore (hd : P.1 m pc = some (.iastore, len, aux)) : W P m pc L (.int x :: .int i :: .ref a :: S) k n H Q ↔ (inAw H a .int i = true ∧ W P m (pc + len) L S k n (wr H a i.toNatClampNeg (.int x)) Q) := W_g hd rfl rfl rfl
theorem W_lastore (hd : P.1 m pc = some (.lastore, len, aux)) : W P m pc L (.long l :: .int i :: .ref a :: S) k n H Q ↔ (inAw H a .long i = true ∧ W P m (pc + len) L S k n (wr H a i.toNatClampNeg (.long l)) Q) := W_g hd rfl rfl rfl
theorem W_bastore (hd : P.1 m pc = some (.bastore, len, aux)) : W P m pc L (.int x :: .int i :: .ref a :: S) k n H Q ↔ (((inAw H a .byte i = true ∧ okv .byte (.int x) = true) ∨ (inAw H a .boolean i = true ∧ okv .boolean (.int x) = true)) ∧ W P m (pc + len) L S k n (wr H a i.toNatClampNeg (.int x)) Q) := W_g hd rfl rfl rfl
theorem W_alen (hd : P.1 m pc = some (.arraylength, len, aux)) : W P m pc L (.ref a :: S) k n H Q ↔ (isA H a = true ∧ W P m (pc + len) L (.int (alen H a).toInt32 :: S) k n H Q) := W_g hd rfl rfl rfl
theorem W_newarr {t : ArrayType} (hd : P.1 m pc = some (.newarray t, len, aux)) : W P m pc L (.int c :: S) k n H Q ↔ ((¬ c < 0 ∧ c.toNatClampNeg * 8 ≤ 536870912 ∧ k + 1 ≤ (rm P m).cells ∧ n + c.toNatClampNeg ≤ (rm P m).slots) ∧ W P m (pc + len) L (.ref H.1 :: S) (k + 1) (n + c.toNatClampNeg) (mkA (newarray.typeOf t) c.toNatClampNeg H) Q) := W_g hd rfl rfl rfl
theorem W_new {ix : Nat} (hd : P.1 m pc = some (.new ix, len, aux)) : W P m pc L S k n H Q ↔ ((0 ≤ aux ∧ k + 1 ≤ (rm P m).cells ∧ n + aux.toNat ≤ (rm P m).slots) ∧ W P m (pc + len) L (.ref H.1 :: S) (k + 1) (n + aux.toNat) (mkO P H) Q) := W_g hd rfl rfl rfl
theorem W_oinit {ix : Nat} (hd : P.1 m pc = some (.invokespecial ix, len, -1)) : W P m pc L (.ref a :: S) k n H Q ↔ ((1 ≤ (rm P m).frames ∧ cs S + 12 ≤ (rm P m).locals) ∧ W P m (pc + len) L S k n H Q) :=
  W_g (G := 1 ≤ (rm P m).frames ∧ cs S + 12 ≤ (rm P m).locals) hd rfl (by simp [cal, cal1]) (by simp [stp])
theorem W_idiv {y : Int32} (hd : P.1 m pc = some (.idiv, len, aux)) : W P m pc L (.int y :: .int x :: S) k n H Q ↔ (¬ y = 0 ∧ W P m (pc + len) L (.int (x / y) :: S) k n H Q) := W_n hd rfl rfl rfl
theorem W_irem {y : Int32} (hd : P.1 m pc = some (.irem, len, aux)) : W P m pc L (.int y :: .int x :: S) k n H Q ↔ (¬ y = 0 ∧ W P m (pc + len) L (.int (x % y) :: S) k n H Q) := W_n hd rfl rfl rfl
theorem W_ldiv {l' : Int64} (hd : P.1 m pc = some (.ldiv, len, aux)) : W P m pc L (.long l' :: .long l :: S) k n H Q ↔ (¬ l' = 0 ∧ W P m (pc + len) L (.long (l / l') :: S) k n H Q) := W_n hd rfl rfl rfl
theorem W_lrem {l' : Int64} (hd : P.1 m pc = some (.lrem, len, aux)) : W P m pc L (.long l' :: .long l :: S) k n H Q ↔ (¬ l' = 0 ∧ W P m (pc + len) L (.long (l % l') :: S) k n H Q) := W_n hd rfl rfl rfl
end Heap
section Call
variable {m' : Nat} {a r : List Value} {b : Nat}
theorem cal_eq (hk : kindOk ins (kd P m') = true) (hl : a.length = na P m') : cal P m ins (m' : Int) (a.reverse ++ r) k n H = if may P m m' a r k n H = true then some (m', a, r) else none := by
  have e1 : (a.reverse ++ r).take (na P m') = a.reverse := by rw [← hl, ← List.length_reverse (as := a)]; exact List.take_left ..
  have e2 : (a.reverse ++ r).drop (na P m') = r := by rw [← hl, ← List.length_reverse (as := a)]; exact List.drop_left ..
  have key : cal1 P m ins (m' : Int) (a.reverse ++ r) k n H = if may P m m' a r k n H = true then some (m', a, r) else none := by
    unfold cal1
    rw [Int.toNat_natCast, e1, e2, List.reverse_reverse]
    simp [hk]
  cases ins <;> first | exact key | (cases hk)
theorem W_call (hd : P.1 m pc = some (ins, len, (m' : Int))) (hr : ret P m ins S = none) (hk : kindOk ins (kd P m') = true) (hl : a.length = na P m') (hS : S = a.reverse ++ r) (hns : stp P m ins len (m' : Int) pc L S k n H = none) :
    W P m pc L S k n H Q ↔ (may P m m' a r k n H = true ∧ Cl P m' a H (fun v H' => W P m (pc + len) L (v.toList ++ r) (k + (rm P m').cells) (n + (rm P m').slots) H' Q)) := by
  have hc : cal P m ins (m' : Int) S k n H = if may P m m' a r k n H = true then some (m', a, r) else none := by rw [hS]; exact cal_eq hk hl
  by_cases g : may P m m' a r k n H = true
  · rw [if_pos g] at hc
    rw [W_c hd hr hc]; simp [g]
  · rw [if_neg g] at hc
    rw [W_q hd hr hc, hns]
    exact ⟨fun ⟨q, e, h⟩ => (by cases e), fun h => absurd h.1 g⟩
theorem W_inst {ix : Nat} {as : List Value} (hd : P.1 m pc = some (.invokevirtual ix, len, (m' : Int))) (hk : kindOk (.invokevirtual ix) (kd P m') = true) (hl : as.length + 1 = na P m') (hS : S = as.reverse ++ .ref b :: r)
    (h1 : (Sym.laidSlots (.ref b :: as)).length ≤ ml P m') (h2 : (rm P m').frames + 1 ≤ (rm P m).frames) (h3 : (rm P m').cells = 0 ∧ (rm P m').slots = 0) :
    W P m pc L S k n H Q ↔ ((isO H b = true ∧ cs r + (ml P m' + 11) + (rm P m').locals ≤ (rm P m).locals) ∧ Cl P m' (.ref b :: as) H (fun v H' => W P m (pc + len) L (v.toList ++ r) k n H' Q)) := by
  rw [W_call (a := .ref b :: as) (r := r) hd rfl hk hl (by rw [hS]; simp) rfl]
  have e : may P m m' (.ref b :: as) r k n H = true ↔ (isO H b = true ∧ cs r + (ml P m' + 11) + (rm P m').locals ≤ (rm P m).locals) := by
    have hk0 : kd P m' ≠ 0 := by intro h; rw [h] at hk; cases hk
    simp [may, rcv, h1, h2, h3, ← hl, hk0]; exact And.comm
  rw [e, h3.1, h3.2]; rfl
theorem W_stat {ix : Nat} (hd : P.1 m pc = some (.invokestatic ix, len, (m' : Int))) (hk : kindOk (.invokestatic ix) (kd P m') = true) (hl : a.length = na P m') (hS : S = a.reverse ++ r)
    (h1 : (Sym.laidSlots a).length ≤ ml P m') (h2 : (rm P m').frames + 1 ≤ (rm P m).frames) (h3 : (rm P m').cells = 0 ∧ (rm P m').slots = 0) :
    W P m pc L S k n H Q ↔ ((cs r + (ml P m' + 11) + (rm P m').locals ≤ (rm P m).locals) ∧ Cl P m' a H (fun v H' => W P m (pc + len) L (v.toList ++ r) k n H' Q)) := by
  rw [W_call (a := a) (r := r) hd rfl hk hl hS rfl]
  have e : may P m m' a r k n H = true ↔ (cs r + (ml P m' + 11) + (rm P m').locals ≤ (rm P m).locals) := by
    have hk0 : kd P m' = 0 := by simpa [kindOk] using hk
    simp [may, h1, h2, h3, hl, hk0]
  rw [e, h3.1, h3.2]; rfl
theorem W_init {ix : Nat} {as : List Value} (hd : P.1 m pc = some (.invokespecial ix, len, (m' : Int))) (hk : kindOk (.invokespecial ix) (kd P m') = true) (hl : as.length + 1 = na P m') (hS : S = as.reverse ++ .ref b :: r)
    (h1 : (Sym.laidSlots (.ref b :: as)).length ≤ ml P m') (h2 : (rm P m').frames + 1 ≤ (rm P m).frames) (h3 : ¬ ((rm P m').cells = 0 ∧ (rm P m').slots = 0)) :
    W P m pc L S k n H Q ↔ ((isO H b = true ∧ cs r + (ml P m' + 11) + (rm P m').locals ≤ (rm P m).locals ∧ k + (rm P m').cells ≤ (rm P m).cells ∧ n + (rm P m').slots ≤ (rm P m).slots) ∧ Cl P m' (.ref b :: as) H (fun v H' => W P m (pc + len) L (v.toList ++ r) (k + (rm P m').cells) (n + (rm P m').slots) H' Q)) := by
  have hns : stp P m (.invokespecial ix) len (m' : Int) pc L S k n H = none := by
    dsimp only [stp]
    split
    · rw [if_neg]; omega
    · rfl
  rw [W_call (a := .ref b :: as) (r := r) hd rfl hk hl (by rw [hS]; simp) hns]
  have e : may P m m' (.ref b :: as) r k n H = true ↔ (isO H b = true ∧ cs r + (ml P m' + 11) + (rm P m').locals ≤ (rm P m).locals ∧ k + (rm P m').cells ≤ (rm P m).cells ∧ n + (rm P m').slots ≤ (rm P m).slots) := by
    have hk0 : kd P m' ≠ 0 := by intro h; rw [h] at hk; cases hk
    simp only [may, rcv, h1, h2, h3, ← hl, hk0, List.length_cons, decide_true, decide_false, Bool.true_and, Bool.false_or, Bool.and_eq_true, decide_eq_true_eq]
    constructor
    · rintro ⟨⟨q1, q2⟩, q3⟩; exact ⟨q3, q1, q2⟩
    · rintro ⟨q3, q1, q2⟩; exact ⟨⟨q1, q2⟩, q3⟩
  rw [e]
end Call
section Last
theorem W_rz {x : Int32} (hd : P.1 m pc = some (.ireturn, len, aux)) (hr : rt P m = some .boolean) : W P m pc L (.int x :: S) k n H Q ↔ ((x = 0 ∨ x = 1) ∧ Q (some (.int x)) H) := by
  by_cases g : x = 0 ∨ x = 1
  · rw [W_r hd (by simp only [ret, hr]; rw [if_pos g])]; simp [g]
  · rw [W_q hd (by simp only [ret, hr]; rw [if_neg g]) rfl]
    constructor
    · rintro ⟨q, e, -⟩; cases e
    · intro h; exact absurd h.1 g
theorem W_newarr' {t : ArrayType} {c : Int32} {N : Nat} (hd : P.1 m pc = some (.newarray t, len, aux)) (hN : c.toNatClampNeg = N) (h1 : ¬ c < 0) (h2 : N * 8 ≤ 536870912) :
    W P m pc L (.int c :: S) k n H Q ↔ ((k + 1 ≤ (rm P m).cells ∧ n + N ≤ (rm P m).slots) ∧ W P m (pc + len) L (.ref H.1 :: S) (k + 1) (n + N) (mkA (newarray.typeOf t) N H) Q) := by
  rw [W_newarr hd, hN]; simp [h1, h2]
theorem W_new' {ix : Nat} (hd : P.1 m pc = some (.new ix, len, aux)) (h0 : 0 ≤ aux) : W P m pc L S k n H Q ↔ ((k + 1 ≤ (rm P m).cells ∧ n + aux.toNat ≤ (rm P m).slots) ∧ W P m (pc + len) L (.ref H.1 :: S) (k + 1) (n + aux.toNat) (mkO P H) Q) := by
  rw [W_new hd]; simp [h0]
def tswW (f : Nat → Prop) (x : Int32) (d : Nat) : Int → List Nat → Prop
  | _, [] => f d
  | lo, q :: qs => if x = Int32.ofInt lo then f q else tswW f x d (lo + 1) qs
theorem tswW_eq (f : Nat → Prop) (x : Int32) (d : Nat) : ∀ (qs : List Nat) (lo : Int), -2147483648 ≤ lo → lo + qs.length ≤ 2147483648 → (tswW f x d lo qs ↔ f (if x.toInt < lo ∨ lo + qs.length ≤ x.toInt then d else qs.getD (x.toInt - lo).toNat d)) := by
  intro qs
  induction qs with
  | nil => intro lo h1 h2; simp only [tswW, List.length_nil]; rw [if_pos (by omega)]
  | cons q qs ih =>
    intro lo h1 h2
    simp only [List.length_cons] at h2 ⊢
    have hx : x = Int32.ofInt lo ↔ x.toInt = lo := by
      rw [← Int32.toInt_inj, Int32.toInt_ofInt_of_le (by omega) (by omega)]
    simp only [tswW]
    by_cases e : x.toInt = lo
    · rw [if_pos (hx.mpr e), if_neg (by omega)]
      have : (x.toInt - lo).toNat = 0 := by omega
      rw [this]; rfl
    · rw [if_neg (fun h => e (hx.mp h)), ih (lo + 1) (by omega) (by omega)]
      by_cases g : x.toInt < lo ∨ lo + ((qs.length : Int) + 1) ≤ x.toInt
      · rw [if_pos (by omega), if_pos (by omega)]
      · rw [if_neg (by omega), if_neg (by omega)]
        have : (x.toInt - lo).toNat = (x.toInt - (lo + 1)).toNat + 1 := by omega
        rw [this]; rfl
theorem W_tsw {x : Int32} {d lo hi : Int} {os : Array Int} {qs : List Nat} {dq : Nat} (hd : P.1 m pc = some (.tableswitch d lo hi os, len, aux)) (h0 : jmp pc d = some dq) (h1 : os.toList.map (jmp pc) = qs.map some) (h2 : -2147483648 ≤ lo ∧ lo + qs.length ≤ 2147483648 ∧ hi = lo + qs.length - 1) :
    W P m pc L (.int x :: S) k n H Q ↔ tswW (fun q => W P m q L S k n H Q) x dq lo qs := by
  rw [tswW_eq _ _ _ _ _ h2.1 h2.2.1]
  have hlen : os.size = qs.length := by have := congrArg List.length h1; simpa using this
  refine W_s hd rfl rfl ?_
  show (if x.toInt < lo ∨ x.toInt > hi then (jmp pc d).map fun q => (q, L, S, k, n, H) else (os[(x.toInt - lo).toNat]?).bind fun o => (jmp pc o).map fun q => (q, L, S, k, n, H)) = _
  by_cases g : x.toInt < lo ∨ x.toInt > hi
  · rw [if_pos g, if_pos (by omega), h0]; rfl
  · rw [if_neg g, if_neg (by omega)]
    have hi2 : (x.toInt - lo).toNat < qs.length := by omega
    have e1 : (os.toList.map (jmp pc))[(x.toInt - lo).toNat]? = some (some (qs.getD (x.toInt - lo).toNat dq)) := by
      rw [h1]; simp [hi2]
    rw [List.getElem?_map, Array.getElem?_toList] at e1
    obtain ⟨o, ho, hj⟩ := Option.map_eq_some_iff.mp e1
    rw [ho]; simp [hj]
theorem cmpL_lt {x y : Int64} : Jvm.Free.XT.cmpL x y < 0 ↔ x < y := by
  unfold Jvm.Free.XT.cmpL
  by_cases h1 : y < x
  · rw [if_pos h1]; exact ⟨fun h => absurd h (by decide), fun h => by rw [Int64.lt_iff_toInt_lt] at *; omega⟩
  · rw [if_neg h1]
    by_cases h2 : x = y
    · rw [if_pos h2]; exact ⟨fun h => absurd h (by decide), fun h => by subst h2; rw [Int64.lt_iff_toInt_lt] at *; omega⟩
    · rw [if_neg h2]; refine ⟨fun _ => ?_, fun _ => by decide⟩
      rw [Int64.lt_iff_toInt_lt] at *; rw [← Int64.toInt_inj] at h2; omega
theorem cmpL_gt {x y : Int64} : 0 < Jvm.Free.XT.cmpL x y ↔ y < x := by
  unfold Jvm.Free.XT.cmpL
  by_cases h1 : y < x
  · rw [if_pos h1]; exact ⟨fun _ => h1, fun _ => by decide⟩
  · rw [if_neg h1]
    by_cases h2 : x = y
    · rw [if_pos h2]; exact ⟨fun h => absurd h (by decide), fun h => absurd h h1⟩
    · rw [if_neg h2]; exact ⟨fun h => absurd h (by decide), fun h => absurd h h1⟩
theorem cmpL_eq {x y : Int64} : Jvm.Free.XT.cmpL x y = 0 ↔ x = y := by
  unfold Jvm.Free.XT.cmpL
  by_cases h1 : y < x
  · rw [if_pos h1]; exact ⟨fun h => absurd h (by decide), fun h => by subst h; rw [Int64.lt_iff_toInt_lt] at h1; omega⟩
  · rw [if_neg h1]
    by_cases h2 : x = y
    · rw [if_pos h2]; exact ⟨fun _ => h2, fun _ => rfl⟩
    · rw [if_neg h2]; exact ⟨fun h => absurd h (by decide), fun h => absurd h h2⟩
end Last
end Rules
abbrev LW : Type := (Nat → Nat → Option (Instr × Nat × Int)) × (Nat → MInfo)
abbrev Row : Type := Nat × Instr × Nat × Int
end Jvm.JX

namespace Jvm.JX
open Sem ClassFile Op Lib
abbrev St : Type := (Nat → Int32) × (Nat → Int64) × (Nat → Nat → Int32) × (Nat → Nat → Int64)
abbrev Lay : Type := List (FieldType × Nat) × List (FieldType × Nat)
def sI (s : St) (k : Nat) : Int32 := s.1 k
def sJ (s : St) (k : Nat) : Int64 := s.2.1 k
def sA (s : St) (t i : Nat) : Int32 := s.2.2.1 t i
def sB (s : St) (t i : Nat) : Int64 := s.2.2.2 t i
def uI (s : St) (k : Nat) (v : Int32) : St := (fun j => if j = k then v else s.1 j, s.2.1, s.2.2.1, s.2.2.2)
def uJ (s : St) (k : Nat) (v : Int64) : St := (s.1, fun j => if j = k then v else s.2.1 j, s.2.2.1, s.2.2.2)
def uA (s : St) (t i : Nat) (v : Int32) : St := (s.1, s.2.1, fun t' i' => if t' = t ∧ i' = i then v else s.2.2.1 t' i', s.2.2.2)
def uB (s : St) (t i : Nat) (v : Int64) : St := (s.1, s.2.1, s.2.2.1, fun t' i' => if t' = t ∧ i' = i then v else s.2.2.2 t' i')
def z0 : St := (fun _ => 0, fun _ => 0, fun _ _ => 0, fun _ _ => 0)
section St
variable {s : St} {k j t i t' i' : Nat} {v : Int32} {w : Int64}
theorem sI_uI : sI (uI s k v) j = if j = k then v else sI s j := rfl
theorem sI_uJ : sI (uJ s k w) j = sI s j := rfl
theorem sI_uA : sI (uA s t i v) j = sI s j := rfl
theorem sI_uB : sI (uB s t i w) j = sI s j := rfl
theorem sJ_uI : sJ (uI s k v) j = sJ s j := rfl
theorem sJ_uJ : sJ (uJ s k w) j = if j = k then w else sJ s j := rfl
theorem sJ_uA : sJ (uA s t i v) j = sJ s j := rfl
theorem sJ_uB : sJ (uB s t i w) j = sJ s j := rfl
theorem sA_uI : sA (uI s k v) t' i' = sA s t' i' := rfl
theorem sA_uJ : sA (uJ s k w) t' i' = sA s t' i' := rfl
theorem sA_uA : sA (uA s t i v) t' i' = if t' = t ∧ i' = i then v else sA s t' i' := rfl
theorem sA_uB : sA (uB s t i w) t' i' = sA s t' i' := rfl
theorem sB_uI : sB (uI s k v) t' i' = sB s t' i' := rfl
theorem sB_uJ : sB (uJ s k w) t' i' = sB s t' i' := rfl
theorem sB_uA : sB (uA s t i v) t' i' = sB s t' i' := rfl
theorem sB_uB : sB (uB s t i w) t' i' = if t' = t ∧ i' = i then w else sB s t' i' := rfl
theorem sI_z0 : sI z0 k = 0 := rfl
theorem sJ_z0 : sJ z0 k = 0 := rfl
theorem sA_z0 : sA z0 t i = 0 := rfl
theorem sB_z0 : sB z0 t i = 0 := rfl
theorem St_ext {s s' : St} (h1 : ∀ k, sI s k = sI s' k) (h2 : ∀ k, sJ s k = sJ s' k) (h3 : ∀ t i, sA s t i = sA s' t i) (h4 : ∀ t i, sB s t i = sB s' t i) : s = s' :=
  Prod.ext (funext h1) (Prod.ext (funext h2) (Prod.ext (funext fun t => funext (h3 t)) (funext fun t => funext (h4 t))))
end St
def zr (s : St) (t : Nat) : Prop := (∀ i, sA s t i = 0) ∧ ∀ i, sB s t i = 0
theorem zr_z0 {t : Nat} : zr z0 t = True := by simp [zr, sA_z0, sB_z0]
theorem zr_uI {s : St} {t k : Nat} {v : Int32} : zr (uI s k v) t = zr s t := rfl
theorem zr_uJ {s : St} {t k : Nat} {v : Int64} : zr (uJ s k v) t = zr s t := rfl
def fvl (y : Lay) (j p : Nat) (s : St) (k : Nat) : Value := match y.1[k]? with
  | some (.long, _) => .long (sJ s k)
  | some (.array _, t) => if t ≤ j then .ref (p + t) else .null
  | _ => .int (sI s k)
def blk (y : Lay) (j p : Nat) (s : St) : Nat → Cel
  | 0 => (.object "", y.1.length, true, fvl y j p s)
  | t + 1 => match y.2[t]? with
    | some (.long, n) => (.array .long, n, true, fun i => .long (sB s (t + 1) i))
    | some (ty, n) => (.array ty, n, true, fun i => .int (sA s (t + 1) i))
    | none => (.char, 0, false, fun _ => .null)
def put (y : Lay) (j : Nat) (H : AH) (p : Nat) (s : St) : AH := (H.1, fun a => if p ≤ a ∧ a ≤ p + j then blk y j p s (a - p) else H.2 a)
section Put
variable {y : Lay} {j : Nat} {H : AH} {p : Nat} {s : St} {k t n : Nat} {ty : FieldType} {i : Int32}
theorem put_0 : (put y j H p s).2 p = (.object "", y.1.length, true, fvl y j p s) := by simp [put, blk]
theorem put_t (ht : t ≤ j) : (put y j H p s).2 (p + t) = blk y j p s t := by simp [put, ht]
theorem put_ot {a : Nat} (h : a < p ∨ p + j < a) : (put y j H p s).2 a = H.2 a := by
  have : ¬ (p ≤ a ∧ a ≤ p + j) := by omega
  simp [put, this]
theorem isO_put : isO (put y j H p s) p = true := by simp [isO, put_0]
theorem isOw_put : isOw (put y j H p s) p = true := by simp [isOw, isO_put, put_0]
theorem fld_I (h : y.1[k]? = some (ty, t)) (hl : ty ≠ .long) (ha : ∀ e, ty ≠ .array e) : fld (put y j H p s) p k = .int (sI s k) := by
  simp only [fld, put_0, fvl, h]; cases ty <;> first | rfl | exact absurd rfl hl | exact absurd rfl (ha _)
theorem fld_J (h : y.1[k]? = some (.long, t)) : fld (put y j H p s) p k = .long (sJ s k) := by simp only [fld, put_0, fvl, h]
theorem fld_R (h : y.1[k]? = some (.array ty, t)) (ht : t ≤ j) : fld (put y j H p s) p k = .ref (p + t) := by simp only [fld, put_0, fvl, h, ht, if_true]
theorem blk_I (h : y.2[t]? = some (ty, n)) (hl : ty ≠ .long) : blk y j p s (t + 1) = (.array ty, n, true, fun i => .int (sA s (t + 1) i)) := by
  simp only [blk, h]
theorem blk_J (h : y.2[t]? = some (.long, n)) : blk y j p s (t + 1) = (.array .long, n, true, fun i => .long (sB s (t + 1) i)) := by simp only [blk, h]
theorem clamp_lt {i : Int32} {n : Nat} : (¬ i < 0 ∧ i.toNatClampNeg < n) ↔ (0 ≤ i.toInt ∧ i.toInt < n) := by
  simp only [Int32.lt_iff_toInt_lt, Int32.toNatClampNeg, Int32.reduceToInt]; omega
theorem inA_I (h : y.2[t]? = some (ty, n)) (hl : ty ≠ .long) (ht : t + 1 ≤ j) : inA (put y j H p s) (p + (t + 1)) ty i = true ↔ (0 ≤ i.toInt ∧ i.toInt < n) := by
  rw [← clamp_lt]; simp [inA, put_t ht, blk_I h hl]
theorem inA_J (h : y.2[t]? = some (.long, n)) (ht : t + 1 ≤ j) : inA (put y j H p s) (p + (t + 1)) .long i = true ↔ (0 ≤ i.toInt ∧ i.toInt < n) := by
  rw [← clamp_lt]; simp [inA, put_t ht, blk_J h]
theorem inA_no {ty' : FieldType} (h : y.2[t]? = some (ty, n)) (hl : ty ≠ .long) (ht : t + 1 ≤ j) (hne : ty ≠ ty') : inA (put y j H p s) (p + (t + 1)) ty' i = true ↔ False := by
  simp [inA, put_t ht, blk_I h hl, hne]
theorem inAw_I (h : y.2[t]? = some (ty, n)) (hl : ty ≠ .long) (ht : t + 1 ≤ j) : inAw (put y j H p s) (p + (t + 1)) ty i = true ↔ (0 ≤ i.toInt ∧ i.toInt < n) := by
  rw [← inA_I (H := H) (p := p) (s := s) h hl ht]; simp [inAw, put_t ht, blk_I h hl]
theorem inAw_J (h : y.2[t]? = some (.long, n)) (ht : t + 1 ≤ j) : inAw (put y j H p s) (p + (t + 1)) .long i = true ↔ (0 ≤ i.toInt ∧ i.toInt < n) := by
  rw [← inA_J (H := H) (p := p) (s := s) h ht]; simp [inAw, put_t ht, blk_J h]
theorem inAw_no {ty' : FieldType} (h : y.2[t]? = some (ty, n)) (hl : ty ≠ .long) (ht : t + 1 ≤ j) (hne : ty ≠ ty') : inAw (put y j H p s) (p + (t + 1)) ty' i = true ↔ False := by
  simp [inAw, inA, put_t ht, blk_I h hl, hne]
theorem elt_I (h : y.2[t]? = some (ty, n)) (hl : ty ≠ .long) (ht : t + 1 ≤ j) : elt (put y j H p s) (p + (t + 1)) i = .int (sA s (t + 1) i.toNatClampNeg) := by
  simp only [elt, put_t ht, blk_I h hl]
theorem elt_J (h : y.2[t]? = some (.long, n)) (ht : t + 1 ≤ j) : elt (put y j H p s) (p + (t + 1)) i = .long (sB s (t + 1) i.toNatClampNeg) := by
  simp only [elt, put_t ht, blk_J h]
theorem alen_t (h : y.2[t]? = some (ty, n)) (ht : t + 1 ≤ j) : alen (put y j H p s) (p + (t + 1)) = n := by
  by_cases hl : ty = .long
  · subst hl; simp only [alen, put_t ht, blk_J h]
  · simp only [alen, put_t ht, blk_I h hl]
theorem put_wr {s' : St} {t q : Nat} {v : Value} (ht : t ≤ j) (hb : ∀ t', blk y j p s' t' = if t' = t then ((blk y j p s t).1, (blk y j p s t).2.1, (blk y j p s t).2.2.1, fun i => if i = q then v else (blk y j p s t).2.2.2 i) else blk y j p s t') :
    wr (put y j H p s) (p + t) q v = put y j H p s' := by
  refine Prod.ext rfl (funext fun a => ?_)
  simp only [wr, put_t ht]
  by_cases e : a = p + t
  · subst e; simp [put, ht, hb]
  · simp only [e, if_false, put]
    by_cases g : p ≤ a ∧ a ≤ p + j
    · have : a - p ≠ t := by omega
      simp [g, hb, this]
    · simp [g]
theorem fvl_uI {v : Int32} (h : y.1[k]? = some (ty, t)) (hl : ty ≠ .long) (ha : ∀ e, ty ≠ .array e) (i : Nat) : fvl y j p (uI s k v) i = if i = k then .int v else fvl y j p s i := by
  by_cases e : i = k
  · subst e; simp only [fvl, h, if_true]; cases ty <;> first | (simp [sI_uI]; done) | exact absurd rfl hl | exact absurd rfl (ha _)
  · simp only [fvl, e, if_false, sI_uI, sJ_uI]
theorem fvl_uJ {v : Int64} (h : y.1[k]? = some (.long, t)) (i : Nat) : fvl y j p (uJ s k v) i = if i = k then .long v else fvl y j p s i := by
  by_cases e : i = k
  · subst e; simp only [fvl, h, if_true, sJ_uJ]
  · simp only [fvl, e, if_false, sI_uJ, sJ_uJ]
theorem wr_I {v : Int32} (h : y.1[k]? = some (ty, t)) (hl : ty ≠ .long) (ha : ∀ e, ty ≠ .array e) : wr (put y j H p s) p k (.int v) = put y j H p (uI s k v) := by
  refine put_wr (t := 0) (Nat.zero_le _) fun t' => ?_
  cases t' with
  | zero => simp only [blk, if_true]; exact congrArg (fun f => (_, _, _, f)) (funext fun i => fvl_uI h hl ha i)
  | succ t' => simp [blk, sA_uI, sB_uI]
theorem wr_J {v : Int64} (h : y.1[k]? = some (.long, t)) : wr (put y j H p s) p k (.long v) = put y j H p (uJ s k v) := by
  refine put_wr (t := 0) (Nat.zero_le _) fun t' => ?_
  cases t' with
  | zero => simp only [blk, if_true]; exact congrArg (fun f => (_, _, _, f)) (funext fun i => fvl_uJ h i)
  | succ t' => simp [blk, sA_uJ, sB_uJ]
theorem wr_A {v : Int32} {q : Nat} (h : y.2[t]? = some (ty, n)) (hl : ty ≠ .long) (ht : t + 1 ≤ j) : wr (put y j H p s) (p + (t + 1)) q (.int v) = put y j H p (uA s (t + 1) q v) := by
  refine put_wr ht fun t' => ?_
  by_cases e : t' = t + 1
  · subst e
    simp only [blk_I h hl, if_true, sA_uA, true_and]
    exact congrArg (fun f => (_, _, _, f)) (funext fun i => by split <;> rfl)
  · simp only [e, if_false]
    cases t' with
    | zero => rfl
    | succ t' => have : ¬ t' = t := fun q => e (by rw [q]); simp [blk, sA_uA, sB_uA, this]
theorem wr_B {v : Int64} {q : Nat} (h : y.2[t]? = some (.long, n)) (ht : t + 1 ≤ j) : wr (put y j H p s) (p + (t + 1)) q (.long v) = put y j H p (uB s (t + 1) q v) := by
  refine put_wr ht fun t' => ?_
  by_cases e : t' = t + 1
  · subst e
    simp only [blk_J h, if_true, sB_uB, true_and]
    exact congrArg (fun f => (_, _, _, f)) (funext fun i => by split <;> rfl)
  · simp only [e, if_false]
    cases t' with
    | zero => rfl
    | succ t' => have : ¬ t' = t := fun q => e (by rw [q]); simp [blk, sA_uB, sB_uB, this]
theorem mkO_put {P : Prog} (hn : P.2.2.2 = y.1.length) (hf : ∀ k, defaultValue (P.2.2.1 k) = fvl y 0 H.1 z0 k) : mkO P H = put y 0 (H.1 + 1, H.2) H.1 z0 := by
  refine Prod.ext rfl (funext fun a => ?_)
  by_cases e : a = H.1
  · subst e; simp only [mkO, if_true, put_0, hn]; exact congrArg (fun f => (_, _, _, f)) (funext fun k => hf k)
  · have : ¬ (H.1 ≤ a ∧ a ≤ H.1 + 0) := by omega
    simp only [mkO, put, e, if_false, if_neg this]
theorem mkA_put {h : Nat → Cel} (h1 : y.1[k]? = some (.array ty, j + 1)) (h2 : y.2[j]? = some (ty, n)) (hu : (List.range y.1.length).all (fun k' => decide (k' = k) || ((y.1.getD k' (.int, 0)).2 != j + 1)) = true) (hz : ∀ i, sA s (j + 1) i = 0) (hz' : ∀ i, sB s (j + 1) i = 0) (hty : ty = .int ∨ ty = .long ∨ ty = .byte ∨ ty = .boolean) :
    wr (mkA ty n (put y j (p + (j + 1), h) p s)) p k (.ref (p + (j + 1))) = put y (j + 1) (p + (j + 1) + 1, h) p s := by
  refine Prod.ext rfl (funext fun a => ?_)
  have hp : ¬ p = p + (j + 1) := by omega
  have hN : (put y j (p + (j + 1), h) p s).1 = p + (j + 1) := rfl
  by_cases e : a = p
  · subst e
    simp only [wr, mkA, hN, if_true, hp, if_false, put_0]
    refine congrArg (fun f => (_, _, _, f)) (funext fun i => ?_)
    by_cases e2 : i = k
    · subst e2; simp [fvl, h1]
    · simp only [e2, if_false, fvl]
      cases hq : y.1[i]? with
      | none => rfl
      | some x =>
        obtain ⟨x1, x2⟩ := x
        cases x1 <;> try rfl
        rename_i el
        have : x2 ≠ j + 1 := fun q => by
          have hlt : i < y.1.length := (List.getElem?_eq_some_iff.mp hq).1
          have u := List.all_eq_true.mp hu i (List.mem_range.mpr hlt)
          simp [e2, hq, q] at u
        have : (x2 ≤ j + 1) = (x2 ≤ j) := propext ⟨fun _ => by omega, fun _ => by omega⟩
        simp [this]
  · simp only [wr, mkA, hN, e, if_false]
    by_cases e2 : a = p + (j + 1)
    · subst e2
      simp only [if_true, put_t (Nat.le_refl (j + 1))]
      rcases hty with rfl | rfl | rfl | rfl
      · simp only [blk, h2, hz]; rfl
      · simp only [blk, h2, hz']; rfl
      · simp only [blk, h2, hz]; rfl
      · simp only [blk, h2, hz]; rfl
    · simp only [e2, if_false, put]
      by_cases g : p ≤ a ∧ a ≤ p + j
      · have g2 : p ≤ a ∧ a ≤ p + (j + 1) := by omega
        simp only [g, g2, and_self, if_true]
        obtain ⟨t, ht⟩ : ∃ t, a - p = t + 1 := ⟨a - p - 1, by omega⟩
        rw [ht]; rfl
      · have g2 : ¬ (p ≤ a ∧ a ≤ p + (j + 1)) := by omega
        simp only [g, g2, if_false]
theorem isOw_mk {h : Nat → Cel} {c : Nat} : isOw (mkA ty n (put y j (p + (c + 1), h) p s)) p = true := by
  have : ¬ p = p + (c + 1) := by omega
  have hN : (put y j (p + (c + 1), h) p s).1 = p + (c + 1) := rfl
  simp [isOw, isO, mkA, hN, this, put_0]
theorem put_fst : (put y j H p s).1 = H.1 := rfl
theorem put_comm {y' : Lay} {j' p' : Nat} {s' : St} (h : p + j < p' ∨ p' + j' < p) : put y j (put y' j' H p' s') p s = put y' j' (put y j H p s) p' s' := by
  refine Prod.ext rfl (funext fun a => ?_)
  simp only [put]
  by_cases g : p ≤ a ∧ a ≤ p + j
  · have g2 : ¬ (p' ≤ a ∧ a ≤ p' + j') := by omega
    simp [g, g2]
  · simp only [g, if_false]
theorem isO_ot {a : Nat} (h : a < p ∨ p + j < a) : isO (put y j H p s) a = isO H a := by simp only [isO, put_ot h]
theorem inA_ot {a : Nat} (h : a < p ∨ p + j < a) : inA (put y j H p s) a ty i = inA H a ty i := by simp only [inA, put_ot h]
theorem isA_ot {a : Nat} (h : a < p ∨ p + j < a) : isA (put y j H p s) a = isA H a := by simp only [isA, put_ot h]
theorem elt_ot {a : Nat} (h : a < p ∨ p + j < a) : elt (put y j H p s) a i = elt H a i := by simp only [elt, put_ot h]
theorem alen_ot {a : Nat} (h : a < p ∨ p + j < a) : alen (put y j H p s) a = alen H a := by simp only [alen, put_ot h]
end Put
def noc : Cel := (.char, 0, false, fun _ => .null)
def H0 (n : Nat) : AH := (n, fun _ => noc)
def H1 (n a len : Nat) (f : Nat → Int32) : AH := (n, fun b => if b = a then (.array .int, len, false, fun i => .int (f i)) else noc)
theorem isA_H1 {n a len : Nat} {f : Nat → Int32} : isA (H1 n a len f) a = true := by simp [isA, H1]
theorem alen_H1 {n a len : Nat} {f : Nat → Int32} : alen (H1 n a len f) a = len := by simp [alen, H1]
theorem inA_H1 {n a len : Nat} {f : Nat → Int32} {i : Int32} : inA (H1 n a len f) a .int i = true ↔ (0 ≤ i.toInt ∧ i.toInt < len) := by rw [← clamp_lt]; simp [inA, H1]
theorem elt_H1 {n a len : Nat} {f : Nat → Int32} {i : Int32} : elt (H1 n a len f) a i = .int (f i.toNatClampNeg) := by simp [elt, H1]
def cl (lo hi v : Int32) : Int32 := if v < lo then lo else if hi < v then hi else v
theorem cl3 {lo hi : Int32} (v : Int32) (h : ¬ hi < lo) : (v < lo ∧ ¬ hi < v) ∨ (¬ v < lo ∧ hi < v) ∨ (¬ v < lo ∧ ¬ hi < v) := by
  by_cases h1 : v < lo
  · exact Or.inl ⟨h1, fun h2 => h (by rw [Int32.lt_iff_toInt_lt] at *; omega)⟩
  · by_cases h2 : hi < v
    · exact Or.inr (Or.inl ⟨h1, h2⟩)
    · exact Or.inr (Or.inr ⟨h1, h2⟩)
section Okv
variable {x : Int32} {l : Int64} {a : Nat} {t : FieldType}
theorem okv_int : (okv .int (.int x) = true) = True := by simp [okv]
theorem okv_long : (okv .long (.long l) = true) = True := by simp [okv]
theorem okv_ref : (okv (.array t) (.ref a) = true) = True := by simp [okv]
theorem okv_bool : (okv .boolean (.int x) = true) = (x = 0 ∨ x = 1) := by simp [okv]
theorem okv_byte : (okv .byte (.int x) = true) = (x.toInt8.toInt32 = x) := by simp [okv]
end Okv
end Jvm.JX

namespace Jvm.JX
open Sem ClassFile Op Lib Jvm.Stand Jvm.Free Jvm.LawKit Jvm.RoadKit
def CRel (C : String) (fn : Nat → String × String) (F : List Nat) (Z : State) (n0 : Nat) (h : Heap) (a : Nat) (c : Cel) : Prop :=
  (c.2.2.1 = true → n0 ≤ a) ∧
  match c.1 with
  | .object _ => Exa Z h a C ∧ ∀ k ∈ F, Fld Z h a C (fn k).1 (fn k).2 (c.2.2.2 k)
  | .array t => c.2.1 < 2 ^ 31 ∧ ∃ cl : Cell, Arr Z h a cl t ∧ cl.slots.size = c.2.1 ∧ ∀ i, i < c.2.1 → cl.slots[i]? = some (c.2.2.2 i)
  | _ => True
def RelH (C : String) (fn : Nat → String × String) (F : List Nat) (Z : State) (n0 : Nat) (h : Heap) (H : AH) : Prop := h.size = H.1 ∧ n0 ≤ H.1 ∧ ∀ a, CRel C fn F Z n0 h a (H.2 a)
def ilen2 : Instr → Nat → Nat
  | .tableswitch _ _ _ _, l => l
  | i, _ => ilen i
def RowOk (P : Prog) (tb : List Jvm.Cond) (C : String) (fn : Nat → String × String) (F : List Nat) (nsl : Nat) (nm : Nat → MethodName) (R : List Nat) (m : Nat) (ins : Instr) (aux : Int) : Prop :=
  match ins with
  | .getfield i => aux.toNat ∈ F ∧ Jvm.Cond.fieldLink (nm m).cls i C (fn aux.toNat).1 (fn aux.toNat).2 ∈ tb
  | .putfield i => aux.toNat ∈ F ∧ Jvm.Cond.fieldLink (nm m).cls i C (fn aux.toNat).1 (fn aux.toNat).2 ∈ tb ∧ (Jvm.Cond.lays C C (fn aux.toNat).1 (fn aux.toNat).2 ∈ tb ∨ (nm m).cls = C ∧ (nm m).name = "<init>")
  | .new i => aux.toNat = nsl ∧ Jvm.Cond.classLink (nm m).cls i C ∈ tb
  | .newarray t => Jvm.Cond.arrayClass (newarray.typeOf t) ∈ tb
  | .ldc i => Jvm.Cond.constant (nm m).cls i (Int32.ofInt aux) ∈ tb
  | .ldc2_w i => Jvm.Cond.constantLong (nm m).cls i (Int64.ofInt aux) ∈ tb
  | .invokevirtual i => aux.toNat ∈ R ∧ Jvm.Cond.methodLink (nm m).cls i (nm aux.toNat) ∈ tb
  | .invokestatic i => aux.toNat ∈ R ∧ Jvm.Cond.methodLink (nm m).cls i (nm aux.toNat) ∈ tb
  | .invokespecial i => (aux = -1 → Jvm.Cond.methodLink (nm m).cls i Lib.objectInit ∈ tb ∧ Jvm.Cond.instanceMethod Lib.objectInit ∈ tb ∧ Jvm.Cond.code Lib.objectInit ⟨#[0xb1]⟩ 1 none ∈ tb) ∧ (0 ≤ aux → aux.toNat ∈ R ∧ Jvm.Cond.methodLink (nm m).cls i (nm aux.toNat) ∈ tb)
  | _ => True
def CalOk (P : Prog) (tb : List Jvm.Cond) (C : String) (nm : Nat → MethodName) (bt : Nat → ByteArray) (m : Nat) : Prop :=
  Jvm.Cond.code (nm m) (bt m) (ml P m) (rt P m) ∈ tb ∧ Jvm.Cond.initialized (nm m).cls ∈ tb ∧ (∃ ps r, parseMethodDescriptor (nm m).desc = some ⟨ps, r⟩ ∧ ps.length + (if kd P m = 0 then 0 else 1) = na P m) ∧
  (kd P m = 0 → Jvm.Cond.static (nm m) ∈ tb) ∧
  (kd P m ≠ 0 → (nm m).cls = C ∧ Jvm.Cond.instanceMethod (nm m) ∈ tb) ∧
  (kd P m = 1 → Jvm.Cond.declares (nm m) ∈ tb ∧ Jvm.Cond.selects C (nm m) (nm m) ∈ tb) ∧
  (kd P m = 2 → Jvm.Cond.privateMethod (nm m) ∈ tb) ∧
  (kd P m = 3 → (nm m).name = "<init>" ∧ rt P m = none)
def Good (P : Prog) (tb : List Jvm.Cond) (C : String) (fn : Nat → String × String) (F : List Nat) (nsl : Nat) (nm : Nat → MethodName) (bt : Nat → ByteArray) (R : List Nat) (top : Nat) : Prop :=
  Jvm.Cond.instantiable C nsl ∈ tb ∧ Jvm.Cond.initialized C ∈ tb ∧
  (∀ k ∈ F, parseFieldDescriptor (fn k).2 = some (P.2.2.1 k) ∧ (Jvm.Cond.lays C C (fn k).1 (fn k).2 ∈ tb ∨ Jvm.Cond.laysFinal C C (fn k).1 (fn k).2 ∈ tb)) ∧
  (∀ j ∈ F, ∀ k ∈ F, (fn j).1 = (fn k).1 → j = k) ∧
  (∀ m ∈ R, plainName (nm m).cls = true ∧ ((nm m).cls ≠ "java/lang/invoke/MethodHandle" ∧ (nm m).cls ≠ "java/lang/invoke/VarHandle") ∧
    ∀ pc ins len aux, P.1 m pc = some (ins, len, aux) → decode (bt m) pc = .ok (ins, len) ∧ len = ilen2 ins len ∧ RowOk P tb C fn F nsl nm R m ins aux) ∧
  (∀ m ∈ R, m ≠ top → CalOk P tb C nm bt m) ∧
  (∀ m ∈ R, ∀ pc ins len aux, P.1 m pc = some (ins, len, aux) → aux = (top : Int) → kindOk ins (kd P top) = false)
section Rel
variable {C : String} {fn : Nat → String × String} {F : List Nat} {Z : State} {n0 : Nat} {h h' : Heap} {H : AH}
theorem RelH.obj (r : RelH C fn F Z n0 h H) {a : Nat} (ha : isO H a = true) : Exa Z h a C ∧ ∀ k ∈ F, Fld Z h a C (fn k).1 (fn k).2 (fld H a k) := by
  have q := (r.2.2 a).2
  unfold isO at ha
  cases hk : (H.2 a).1 <;> rw [hk] at ha <;> first | (cases ha; done) | (simp only [hk] at q; exact q)
theorem RelH.own (r : RelH C fn F Z n0 h H) {a : Nat} (ha : (H.2 a).2.2.1 = true) : n0 ≤ a := (r.2.2 a).1 ha
theorem RelH.arr (r : RelH C fn F Z n0 h H) {a : Nat} {t : FieldType} (ha : (H.2 a).1 = .array t) : (H.2 a).2.1 < 2 ^ 31 ∧ ∃ cl : Cell, Arr Z h a cl t ∧ cl.slots.size = (H.2 a).2.1 ∧ ∀ i, i < (H.2 a).2.1 → cl.slots[i]? = some ((H.2 a).2.2.2 i) := by
  have q := (r.2.2 a).2
  simp only [ha] at q; exact q
theorem RelH.ext (r : RelH C fn F Z n0 h H) (E : Ext h h') {c : Cel} (hs : h'.size = h.size + 1) (hc : CRel C fn F Z n0 h' h.size c) : RelH C fn F Z n0 h' (H.1 + 1, fun b => if b = H.1 then c else H.2 b) := by
  refine ⟨by rw [hs, r.1], Nat.le_succ_of_le r.2.1, fun a => ?_⟩
  by_cases e : a = H.1
  · subst e; simp only [if_true]; rw [← r.1]; exact hc
  · simp only [e, if_false]
    obtain ⟨q1, q2⟩ := r.2.2 a
    refine ⟨q1, ?_⟩
    cases hk : (H.2 a).1 <;> simp only [hk] at q2 ⊢
    · exact ⟨q2.1.ext E, fun k hk => (q2.2 k hk).ext E⟩
    · obtain ⟨q3, cl, q4, q5⟩ := q2; exact ⟨q3, cl, q4.ext E, q5⟩
end Rel
def Go (C : String) (fn : Nat → String × String) (F : List Nat) (Z : State) (n0 : Nat) (p : Program) (l : Launch) (e : Env) (R : Jvm.Room) (s : State) (mid : MethodId) (args : Array Value) (below : List Frame) (meth : Method) (c : Code) (start : State) (nl : Nat) (q : Fm) : Prop :=
  ∃ T' locs', Stand p l e R s mid args below meth c T' locs' q.2.2.2.1 q.2.2.2.2.1 ∧ RelH C fn F Z n0 T'.heap q.2.2.2.2.2 ∧ Fr n0 locs' ∧ q.2.2.2.1 ≤ R.cells ∧ q.2.2.2.2.1 ≤ R.slots ∧ q.2.1.length = nl ∧
    ∀ target, Steps p.tables e below (T'.setTop (mkF mid q.1 q.2.1.toArray q.2.2.1)) target → Steps p.tables e below start target
theorem lrem_mod (x y : Int64) : x - (x / y) * y = x % y := by
  apply Int64.toInt_inj.mp
  have h1 := Int64.le_toInt (x % y)
  have h2 := Int64.toInt_lt (x % y)
  rw [Int64.toInt_sub, Int64.toInt_mul, Int64.toInt_div, Int.bmod_mul_bmod, Int.sub_bmod_bmod, Int.mul_comm (x.toInt.tdiv y.toInt), ← Int.tmod_def, ← Int64.toInt_mod]
  exact Int.bmod_eq_of_le_mul_two (by omega) (by omega)
theorem arr_get {L : List Slot} {i : Nat} {o : Slot} (h : L[i]? = some o) : L.toArray[i]? = some o := by simpa using h
theorem arr_set (L : List Slot) (i : Nat) (o : Slot) : L.toArray.setIfInBounds i o = (L.set i o).toArray := by simp
theorem stl_ok {L L' : List Slot} {i : Nat} {v : Value} (hv : v.category = 1) (h : stl L i v = some L') : storeLocals L.toArray i v = some L'.toArray ∧ L'.length = L.length := by
  unfold stl at h
  unfold storeLocals
  cases hi : L[i]? with
  | none => rw [hi] at h; cases h
  | some o =>
    have hlt : i < L.length := (List.getElem?_eq_some_iff.mp hi).1
    rw [hi] at h
    rw [arr_get hi]
    cases o with
    | unset => cases h; simp [storeSelf, setAt, hlt, hv]
    | second =>
      simp only at h
      split at h
      · cases h; simp [storeSelf, setAt, hv, hlt, Nat.lt_of_le_of_lt (Nat.sub_le i 1) hlt]
      · cases h
    | val w =>
      simp only at h
      split at h
      · rename_i hw; cases h; simp [storeSelf, setAt, hv, hlt, hw]
      · rename_i hw
        split at h
        · rename_i h1
          have hw2 : w.category = 2 := by cases w <;> simp [Value.category] at hw ⊢
          cases h; simp [storeSelf, setAt, hv, hlt, hw2, h1]
        · cases h
theorem stL_ok {L L' : List Slot} {i : Nat} {v : Value} (hv : v.category = 2) (h : stL L i v = some L') : storeLocals L.toArray i v = some L'.toArray ∧ L'.length = L.length := by
  unfold stL at h
  unfold storeLocals
  cases hi : L[i]? with
  | none => rw [hi] at h; cases h
  | some o =>
    cases hi2 : L[i + 1]? with
    | none => rw [hi, hi2] at h; cases o <;> cases h
    | some o2 =>
      have hlt : i < L.length := (List.getElem?_eq_some_iff.mp hi).1
      have hlt2 : i + 1 < L.length := (List.getElem?_eq_some_iff.mp hi2).1
      rw [hi, hi2] at h
      rw [arr_get hi]
      have g2 : (L.set i (.val v))[i + 1]? = some o2 := by rw [List.getElem?_set_ne (by omega)]; exact hi2
      have g4 : L[i + 1] = o2 := (List.getElem?_eq_some_iff.mp hi2).2
      cases o with
      | second => cases h
      | unset =>
        simp only at h
        split at h
        · rename_i hc
          cases h
          cases o2 with
          | second => cases hc
          | unset => simp [storeSelf, setAt, hv, hlt, hlt2, g2, g4]
          | val w => simp only [cat1, beq_iff_eq] at hc; simp [storeSelf, setAt, hv, hlt, hlt2, g2, g4, hc]
        · cases h
      | val w =>
        simp only at h
        split at h
        · rename_i hw
          cases h
          have g3 : ((L.set (i + 1) .unset).set i (.val v))[i + 1]? = some .unset := by rw [List.getElem?_set_ne (by omega)]; simp [hlt2]
          simp [storeSelf, setAt, hv, hlt, hlt2, hw, g3]
          rw [List.set_comm _ _ (by omega), List.set_set, List.set_comm _ _ (by omega)]
        · rename_i hw
          have hw1 : ¬ w.category = 2 := hw
          split at h
          · rename_i hc
            cases h
            cases o2 with
            | second => cases hc
            | unset => simp [storeSelf, setAt, hv, hlt, hlt2, g2, g4, hw1]
            | val w => simp only [cat1, beq_iff_eq] at hc; simp [storeSelf, setAt, hv, hlt, hlt2, g2, g4, hw1, hc]
          · cases h
theorem jmp_ok {pc q : Nat} {o : Int} (h : jmp pc o = some q) : 0 ≤ (pc : Int) + o ∧ ((pc : Int) + o).toNat = q := by
  unfold jmp at h
  split at h
  · rename_i g; cases h; exact ⟨g, rfl⟩
  · cases h
theorem ldI_ok {L : List Slot} {i : Nat} {v : Value} (h : ldI L i = some v) : ∃ x, v = .int x ∧ L.toArray[i]? = some (.val (.int x)) := by
  unfold ldI at h
  split at h
  · rename_i x e; cases h; exact ⟨x, rfl, arr_get e⟩
  · cases h
theorem ldJ_ok {L : List Slot} {i : Nat} {v : Value} (h : ldJ L i = some v) : ∃ x, v = .long x ∧ L.toArray[i]? = some (.val (.long x)) := by
  unfold ldJ at h
  split at h
  · rename_i x e; cases h; exact ⟨x, rfl, arr_get e⟩
  · cases h
theorem ldR_ok {L : List Slot} {i : Nat} {v : Value} (h : ldR L i = some v) : ∃ x, v = .ref x ∧ L.toArray[i]? = some (.val (.ref x)) := by
  unfold ldR at h
  split at h
  · rename_i x e; cases h; exact ⟨x, rfl, arr_get e⟩
  · cases h
theorem okv_ok {t : FieldType} {v : Value} (h : okv t v = true) : narrow t v = v ∧ fits t v = true := by
  unfold okv at h
  split at h
  · exact ⟨rfl, rfl⟩
  · rename_i z
    simp only [Bool.or_eq_true, beq_iff_eq] at h
    rcases h with rfl | rfl <;> exact ⟨rfl, rfl⟩
  · rename_i z
    simp only [beq_iff_eq] at h
    have q := fits_nar_byte z
    rw [h] at q
    exact ⟨by show Value.int _ = _; rw [h], q⟩
  · exact ⟨rfl, rfl⟩
  · exact ⟨rfl, rfl⟩
  · cases h
end Jvm.JX

namespace Jvm.JX
open Sem ClassFile Op Lib Jvm.Stand Jvm.Free Jvm.LawKit Jvm.RoadKit
section Step
variable {P : Prog} {tb : List Jvm.Cond} {C : String} {fn : Nat → String × String} {F : List Nat} {nsl : Nat} {nm : Nat → MethodName} {bt : Nat → ByteArray} {R : List Nat} {top : Nat}
variable {l : Launch} {Z : State} {a0 : Array Value} {n0 : Nat} {m pc len k n : Nat} {aux : Int} {L : List Slot} {S : List Value} {H : AH} {ins : Instr} {q : Fm}
variable {p : Program} {e : Env} {s : State} {mid : MethodId} {args : Array Value} {below : List Frame} {meth : Method} {c : Code} {T : State} {locs : List Loc} {Rm : Jvm.Room}
theorem go_same {start : State} {nl pc' : Nat} {L' : List Slot} {S' : List Value} (X : Stand p l e Rm s mid args below meth c T locs k n) (r : RelH C fn F Z n0 T.heap H) (N : Fr n0 locs) (hk : k ≤ Rm.cells) (hn : n ≤ Rm.slots) (hL : L'.length = nl)
    (st : ∀ target, Steps p.tables e below (T.setTop (mkF mid pc' L'.toArray S')) target → Steps p.tables e below start target) : Go C fn F Z n0 p l e Rm s mid args below meth c start nl (pc', L', S', k, n, H) := ⟨T, locs, X, r, N, hk, hn, hL, st⟩
theorem go_heap {start : State} {nl pc' : Nat} {L' : List Slot} {S' : List Value} {T' : State} (X : Stand p l e Rm s mid args below meth c T' locs k n) (r : RelH C fn F Z n0 T.heap H) (hh : T'.heap = T.heap) (N : Fr n0 locs) (hk : k ≤ Rm.cells) (hn : n ≤ Rm.slots) (hL : L'.length = nl)
    (st : ∀ target, Steps p.tables e below (T'.setTop (mkF mid pc' L'.toArray S')) target → Steps p.tables e below start target) : Go C fn F Z n0 p l e Rm s mid args below meth c start nl (pc', L', S', k, n, H) := ⟨T', locs, X, by rw [hh]; exact r, N, hk, hn, hL, st⟩
theorem idx_not {i : Int32} {n : Nat} (h1 : ¬ i < 0) (h2 : i.toNatClampNeg < n) : ¬ (i < 0 ∨ n ≤ i.toNatClampNeg) := fun h => h.elim h1 (Nat.not_le.mpr h2)
theorem inA_ok {a : Nat} {t : FieldType} {i : Int32} (h : inA H a t i = true) : (H.2 a).1 = .array t ∧ ¬ i < 0 ∧ i.toNatClampNeg < (H.2 a).2.1 := by
  simpa [inA, and_assoc] using h
theorem inAw_ok {a : Nat} {t : FieldType} {i : Int32} (h : inAw H a t i = true) : inA H a t i = true ∧ (H.2 a).2.2.1 = true := by
  simpa [inAw] using h
theorem isOw_ok {a : Nat} (h : isOw H a = true) : isO H a = true ∧ (H.2 a).2.2.1 = true := by simpa [isOw] using h
theorem RelH.wrF {h h' : Heap} {a j : Nat} {v : Value} (hG : Good P tb C fn F nsl nm bt R top) (hw : ∀ d ∈ tb, d.before a0 Z = true) (r : RelH C fn F Z n0 h H) (ha : isO H a = true) (hj : j ∈ F) (Wt : Wr h h' a (Jvm.RoadKit.slotOf Z C (fn j).1 (fn j).2) v) : RelH C fn F Z n0 h' (wr H a j v) := by
  refine ⟨by rw [Wt.size]; exact r.1, r.2.1, fun b => ?_⟩
  by_cases e : b = a
  · subst e
    obtain ⟨q1, q2⟩ := r.2.2 b
    obtain ⟨E, Fs⟩ := r.obj ha
    simp only [wr, if_true]
    refine ⟨q1, ?_⟩
    unfold isO at ha
    cases hk : (H.2 b).1 <;> rw [hk] at ha <;> try (cases ha; done)
    simp only
    refine ⟨E.wr Wt, fun i hi => ?_⟩
    by_cases e2 : i = j
    · subst e2; simp only [if_true]; exact (Fs i hi).same Wt
    · simp only [e2, if_false]
      refine (Fs i hi).other Wt (Or.inr ?_)
      have lw : ∀ k ∈ F, Laid Z a0 C C (fn k).1 (fn k).2 := fun k hk => ((hG.2.2.1 k hk).2).imp (hw _) (hw _)
      exact slot_ne (lw i hi) (lw j hj) (fun q => e2 (hG.2.2.2.1 i hi j hj q)) (hG.2.2.1 i hi).1 (hG.2.2.1 j hj).1
  · simp only [wr, e, if_false]
    obtain ⟨q1, q2⟩ := r.2.2 b
    refine ⟨q1, ?_⟩
    cases hk : (H.2 b).1 <;> simp only [hk] at q2 ⊢
    · exact ⟨q2.1.wr Wt, fun k hk => (q2.2 k hk).other Wt (Or.inl e)⟩
    · obtain ⟨q3, cl, q4, q5⟩ := q2; exact ⟨q3, cl, q4.other Wt e, q5⟩
theorem RelH.wrA {h h' : Heap} {a j : Nat} {t : FieldType} {v : Value} (r : RelH C fn F Z n0 h H) (ha : (H.2 a).1 = .array t) (hj : j < (H.2 a).2.1) (Wt : Wr h h' a j v) : RelH C fn F Z n0 h' (wr H a j v) := by
  refine ⟨by rw [Wt.size]; exact r.1, r.2.1, fun b => ?_⟩
  by_cases e : b = a
  · subst e
    obtain ⟨q1, q2⟩ := r.2.2 b
    obtain ⟨g1, cl, g2, g3, g4⟩ := r.arr ha
    simp only [wr, if_true]
    refine ⟨q1, ?_⟩
    simp only [ha]
    refine ⟨g1, cl.setSlot j v, g2.same Wt, by rw [sz_set]; exact g3, fun i hi => ?_⟩
    by_cases e2 : i = j
    · subst e2; simp [Cell.setSlot, g3, hj]
    · simp only [e2, if_false]; rw [← g4 i hi]; exact Array.getElem?_setIfInBounds_ne (Ne.symm e2)
  · simp only [wr, e, if_false]
    obtain ⟨q1, q2⟩ := r.2.2 b
    refine ⟨q1, ?_⟩
    cases hk : (H.2 b).1 <;> simp only [hk] at q2 ⊢
    · exact ⟨q2.1.wr Wt, fun k hk => (q2.2 k hk).other Wt (Or.inl e)⟩
    · obtain ⟨q3, cl, q4, q5⟩ := q2; exact ⟨q3, cl, q4.other Wt e, q5⟩
theorem ext_push (h : Heap) (x : Cell) : Ext h (h.push x) := ⟨by simp, fun a c q => by rw [Array.getElem?_push_lt (Array.getElem?_eq_some_iff.mp q).1]; exact (Array.getElem?_eq_getElem _).symm.trans q⟩
theorem made_obj {h : Heap} {cC : ClassId} {kC : Class} (hZ : Z.Warmed39 s.vm) (h1 : s.vm.findClass C = some cC) (h2 : s.vm.classes[cC]? = some kC) :
    Exa Z (h.push { cls := cC, slots := kC.instanceTypes.map defaultValue, vm := .none }) h.size C ∧ ∀ {nm d : String} {ty : FieldType}, Laid Z a0 C C nm d → parseFieldDescriptor d = some ty → Fld Z (h.push { cls := cC, slots := kC.instanceTypes.map defaultValue, vm := .none }) h.size C nm d (defaultValue ty) := by
  rw [hZ.alike.findClass] at h1
  obtain ⟨kZ, z1, -⟩ := Vm.findClass_spec h1
  obtain ⟨k', z2, z3⟩ := hZ.alike.2.2 _ _ z1
  cases h2.symm.trans z2
  have ei : kC.instanceTypes = kZ.instanceTypes := by rw [z3]
  have hN : ∀ x : Cell, (h.push x)[h.size]? = some x := fun x => by simp
  refine ⟨⟨_, kZ, hN _, h1, z1, rfl, fun _ => by simp [ei]⟩, fun {nm d ty} lw ht => ?_⟩
  obtain ⟨c1, k1, cf, kf, i, f, a1, a2, a3, a4, a5, a6, -⟩ := lw.spec
  cases h1.symm.trans a1
  cases z1.symm.trans a2
  exact ⟨_, cf, kf, i, f, hN _, a3, a4, by simp, rfl, a5, by simp [ei, a6, (State.fieldFound?_type a3 ht).2]⟩
theorem made_arr {h : Heap} {t : FieldType} {cA comp : ClassId} {kA : Class} {xs : Array Value} (hZ : Z.Warmed39 s.vm) (h1 : s.vm.findClass ("[" ++ t.toString) = some cA) (h2 : s.vm.classes[cA]? = some kA) (h3 : kA.kind = .array comp t) : Arr Z (h.push { cls := cA, slots := xs, vm := .none }) h.size { cls := cA, slots := xs, vm := .none } t := by
  rw [hZ.alike.findClass] at h1
  obtain ⟨kZ, z1, -⟩ := Vm.findClass_spec h1
  obtain ⟨k', z2, z3⟩ := hZ.alike.2.2 _ _ z1
  cases h2.symm.trans z2
  exact ⟨by simp, ⟨by simp, kZ, z1, comp, by rw [← h3, z3]⟩, by simp⟩
set_option maxHeartbeats 4000000 in
theorem stp_go (hG : Good P tb C fn F nsl nm bt R top) (hw : ∀ d ∈ tb, d.before a0 Z = true) (hm : m ∈ R) (hrow : P.1 m pc = some (ins, len, aux)) (h : stp P m ins len aux pc L S k n H = some q) (X : Stand p l e (rm P m) s mid args below meth c T locs k n) (hx : p.tables.exec = Jvm.exec) (hZ : Z.Warmed39 s.vm)
    (hby : c.code = bt m) (hml : c.maxLocals = ml P m) (hown : s.vm.findClass (nm m).cls = some mid.cls) (hnm : meth.name = (nm m).name) (hL : L.length = ml P m) (r : RelH C fn F Z n0 T.heap H) (N : Fr n0 locs) (hk : k ≤ (rm P m).cells) (hn : n ≤ (rm P m).slots) :
    Go C fn F Z n0 p l e (rm P m) s mid args below meth c (T.setTop (mkF mid pc L.toArray S)) (ml P m) q := by
  obtain ⟨hd, hl, ho⟩ := (hG.2.2.2.2.1 m hm).2.2 pc ins len aux hrow
  replace hd := hb hby hd
  cases ins with
  | iconst i =>
    have hl : len = 1 := hl; subst hl
    obtain rfl := Option.some.inj h
    exact go_same X r N hk hn hL fun t g => XS.iconst X.here hx rfl hd g
  | bipush i =>
    have hl : len = 2 := hl; subst hl
    obtain rfl := Option.some.inj h
    exact go_same X r N hk hn hL fun t g => XS.bipush X.here hx rfl hd g
  | sipush i =>
    have hl : len = 3 := hl; subst hl
    obtain rfl := Option.some.inj h
    exact go_same X r N hk hn hL fun t g => XS.sipush X.here hx rfl hd g
  | lconst i =>
    have hl : len = 1 := hl; subst hl
    obtain rfl := Option.some.inj h
    exact go_same X r N hk hn hL fun t g => XT.lconst X.here hx rfl hd g
  | ldc i =>
    have hl : len = 2 := hl; subst hl
    obtain rfl := Option.some.inj h
    exact go_same X r N hk hn hL fun t g => X.ldcI hx hown (mv hZ (hw _ ho)) rfl hd g
  | ldc2_w i =>
    have hl : len = 3 := hl; subst hl
    obtain rfl := Option.some.inj h
    exact go_same X r N hk hn hL fun t g => X.ldc2J hx hown (mv hZ (hw _ ho)) rfl hd g
  | iload i =>
    have hl : len = 2 := hl; subst hl
    obtain ⟨v, hv, rfl⟩ := Option.map_eq_some_iff.mp h
    obtain ⟨x, rfl, hg⟩ := ldI_ok hv
    exact go_same X r N hk hn hL fun t g => XS.iload X.here hx rfl hd hg g
  | iload_n i =>
    have hl : len = 1 := hl; subst hl
    obtain ⟨v, hv, rfl⟩ := Option.map_eq_some_iff.mp h
    obtain ⟨x, rfl, hg⟩ := ldI_ok hv
    exact go_same X r N hk hn hL fun t g => XS.iloadN X.here hx rfl hd hg g
  | lload i =>
    have hl : len = 2 := hl; subst hl
    obtain ⟨v, hv, rfl⟩ := Option.map_eq_some_iff.mp h
    obtain ⟨x, rfl, hg⟩ := ldJ_ok hv
    exact go_same X r N hk hn hL fun t g => XT.lload X.here hx rfl hd hg g
  | lload_n i =>
    have hl : len = 1 := hl; subst hl
    obtain ⟨v, hv, rfl⟩ := Option.map_eq_some_iff.mp h
    obtain ⟨x, rfl, hg⟩ := ldJ_ok hv
    exact go_same X r N hk hn hL fun t g => XT.lloadN X.here hx rfl hd hg g
  | aload i =>
    have hl : len = 2 := hl; subst hl
    obtain ⟨v, hv, rfl⟩ := Option.map_eq_some_iff.mp h
    obtain ⟨x, rfl, hg⟩ := ldR_ok hv
    exact go_same X r N hk hn hL fun t g => XS.aload X.here hx rfl hd hg rfl g
  | aload_n i =>
    have hl : len = 1 := hl; subst hl
    obtain ⟨v, hv, rfl⟩ := Option.map_eq_some_iff.mp h
    obtain ⟨x, rfl, hg⟩ := ldR_ok hv
    exact go_same X r N hk hn hL fun t g => XS.aloadN X.here hx rfl hd hg rfl g
  | istore i =>
    have hl : len = 2 := hl; subst hl
    dsimp only [stp] at h
    split at h
    · rename_i x S'
      obtain ⟨L', hv, rfl⟩ := Option.map_eq_some_iff.mp h
      obtain ⟨g1, g2⟩ := stl_ok rfl hv
      exact go_same X r N hk hn (g2.trans hL) fun t g => XS.istore X.here hx rfl hd rfl g1 g
    · cases h
  | istore_n i =>
    have hl : len = 1 := hl; subst hl
    dsimp only [stp] at h
    split at h
    · rename_i x S'
      obtain ⟨L', hv, rfl⟩ := Option.map_eq_some_iff.mp h
      obtain ⟨g1, g2⟩ := stl_ok rfl hv
      exact go_same X r N hk hn (g2.trans hL) fun t g => XS.istoreN X.here hx rfl hd rfl g1 g
    · cases h
  | astore i =>
    have hl : len = 2 := hl; subst hl
    dsimp only [stp] at h
    split at h
    · rename_i x S'
      obtain ⟨L', hv, rfl⟩ := Option.map_eq_some_iff.mp h
      obtain ⟨g1, g2⟩ := stl_ok rfl hv
      exact go_same X r N hk hn (g2.trans hL) fun t g => XS.astore X.here hx rfl hd rfl rfl g1 g
    · cases h
  | astore_n i =>
    have hl : len = 1 := hl; subst hl
    dsimp only [stp] at h
    split at h
    · rename_i x S'
      obtain ⟨L', hv, rfl⟩ := Option.map_eq_some_iff.mp h
      obtain ⟨g1, g2⟩ := stl_ok rfl hv
      exact go_same X r N hk hn (g2.trans hL) fun t g => XS.astoreN X.here hx rfl hd rfl rfl g1 g
    · cases h
  | lstore i =>
    have hl : len = 2 := hl; subst hl
    dsimp only [stp] at h
    split at h
    · rename_i x S'
      obtain ⟨L', hv, rfl⟩ := Option.map_eq_some_iff.mp h
      obtain ⟨g1, g2⟩ := stL_ok rfl hv
      exact go_same X r N hk hn (g2.trans hL) fun t g => XT.lstore X.here hx rfl hd rfl g1 g
    · cases h
  | lstore_n i =>
    have hl : len = 1 := hl; subst hl
    dsimp only [stp] at h
    split at h
    · rename_i x S'
      obtain ⟨L', hv, rfl⟩ := Option.map_eq_some_iff.mp h
      obtain ⟨g1, g2⟩ := stL_ok rfl hv
      exact go_same X r N hk hn (g2.trans hL) fun t g => XT.lstoreN X.here hx rfl hd rfl g1 g
    · cases h
  | iinc i cst =>
    have hl : len = 3 := hl; subst hl
    dsimp only [stp] at h
    split at h
    · rename_i x hx1
      obtain rfl := Option.some.inj h
      have g1 : storeLocals L.toArray i (.int (x + Int32.ofInt cst)) = some (L.set i (.val (.int (x + Int32.ofInt cst)))).toArray := (stl_ok rfl (stl_plain hx1 rfl)).1
      exact go_same X r N hk hn (by simpa using hL) fun t g => XS.iinc X.here hx rfl hd (arr_get hx1) g1 g
    · cases h
  | iadd =>
    have hl : len = 1 := hl; subst hl
    dsimp only [stp] at h
    split at h
    · rename_i y x S'
      obtain rfl := Option.some.inj h
      exact go_same X r N hk hn hL fun t g => XS.iadd X.here hx rfl hd rfl g
    · cases h
  | isub =>
    have hl : len = 1 := hl; subst hl
    dsimp only [stp] at h
    split at h
    · rename_i y x S'
      obtain rfl := Option.some.inj h
      exact go_same X r N hk hn hL fun t g => XS.isub X.here hx rfl hd rfl g
    · cases h
  | imul =>
    have hl : len = 1 := hl; subst hl
    dsimp only [stp] at h
    split at h
    · rename_i y x S'
      obtain rfl := Option.some.inj h
      exact go_same X r N hk hn hL fun t g => XS.imul X.here hx rfl hd rfl g
    · cases h
  | iand =>
    have hl : len = 1 := hl; subst hl
    dsimp only [stp] at h
    split at h
    · rename_i y x S'
      obtain rfl := Option.some.inj h
      exact go_same X r N hk hn hL fun t g => XS.iand X.here hx rfl hd rfl g
    · cases h
  | ior =>
    have hl : len = 1 := hl; subst hl
    dsimp only [stp] at h
    split at h
    · rename_i y x S'
      obtain rfl := Option.some.inj h
      exact go_same X r N hk hn hL fun t g => XT.ior X.here hx rfl hd rfl g
    · cases h
  | ixor =>
    have hl : len = 1 := hl; subst hl
    dsimp only [stp] at h
    split at h
    · rename_i y x S'
      obtain rfl := Option.some.inj h
      exact go_same X r N hk hn hL fun t g => XT.ixor X.here hx rfl hd rfl g
    · cases h
  | ishl =>
    have hl : len = 1 := hl; subst hl
    dsimp only [stp] at h
    split at h
    · rename_i y x S'
      obtain rfl := Option.some.inj h
      exact go_same X r N hk hn hL fun t g => XT.ishl X.here hx rfl hd rfl g
    · cases h
  | ishr =>
    have hl : len = 1 := hl; subst hl
    dsimp only [stp] at h
    split at h
    · rename_i y x S'
      obtain rfl := Option.some.inj h
      exact go_same X r N hk hn hL fun t g => XT.ishr X.here hx rfl hd rfl g
    · cases h
  | iushr =>
    have hl : len = 1 := hl; subst hl
    dsimp only [stp] at h
    split at h
    · rename_i y x S'
      obtain rfl := Option.some.inj h
      exact go_same X r N hk hn hL fun t g => XT.iushr X.here hx rfl hd rfl g
    · cases h
  | ladd =>
    have hl : len = 1 := hl; subst hl
    dsimp only [stp] at h
    split at h
    · rename_i y x S'
      obtain rfl := Option.some.inj h
      exact go_same X r N hk hn hL fun t g => XT.ladd X.here hx rfl hd rfl g
    · cases h
  | lsub =>
    have hl : len = 1 := hl; subst hl
    dsimp only [stp] at h
    split at h
    · rename_i y x S'
      obtain rfl := Option.some.inj h
      exact go_same X r N hk hn hL fun t g => XT.lsub X.here hx rfl hd rfl g
    · cases h
  | lmul =>
    have hl : len = 1 := hl; subst hl
    dsimp only [stp] at h
    split at h
    · rename_i y x S'
      obtain rfl := Option.some.inj h
      exact go_same X r N hk hn hL fun t g => XT.lmul X.here hx rfl hd rfl g
    · cases h
  | land =>
    have hl : len = 1 := hl; subst hl
    dsimp only [stp] at h
    split at h
    · rename_i y x S'
      obtain rfl := Option.some.inj h
      exact go_same X r N hk hn hL fun t g => XT.land X.here hx rfl hd rfl g
    · cases h
  | lor =>
    have hl : len = 1 := hl; subst hl
    dsimp only [stp] at h
    split at h
    · rename_i y x S'
      obtain rfl := Option.some.inj h
      exact go_same X r N hk hn hL fun t g => XT.lor X.here hx rfl hd rfl g
    · cases h
  | lxor =>
    have hl : len = 1 := hl; subst hl
    dsimp only [stp] at h
    split at h
    · rename_i y x S'
      obtain rfl := Option.some.inj h
      exact go_same X r N hk hn hL fun t g => XT.lxor X.here hx rfl hd rfl g
    · cases h
  | lshl =>
    have hl : len = 1 := hl; subst hl
    dsimp only [stp] at h
    split at h
    · rename_i y x S'
      obtain rfl := Option.some.inj h
      exact go_same X r N hk hn hL fun t g => XT.lshl X.here hx rfl hd rfl g
    · cases h
  | lshr =>
    have hl : len = 1 := hl; subst hl
    dsimp only [stp] at h
    split at h
    · rename_i y x S'
      obtain rfl := Option.some.inj h
      exact go_same X r N hk hn hL fun t g => XT.lshr X.here hx rfl hd rfl g
    · cases h
  | lushr =>
    have hl : len = 1 := hl; subst hl
    dsimp only [stp] at h
    split at h
    · rename_i y x S'
      obtain rfl := Option.some.inj h
      exact go_same X r N hk hn hL fun t g => XT.lushr X.here hx rfl hd rfl g
    · cases h
  | idiv =>
    have hl : len = 1 := hl; subst hl
    dsimp only [stp] at h
    split at h
    · rename_i y x S'
      split at h
      · cases h
      · rename_i g0
        obtain rfl := Option.some.inj h
        exact go_same X r N hk hn hL fun t g => XS.idiv X.here hx rfl hd rfl g0 g
    · cases h
  | irem =>
    have hl : len = 1 := hl; subst hl
    dsimp only [stp] at h
    split at h
    · rename_i y x S'
      split at h
      · cases h
      · rename_i g0
        obtain rfl := Option.some.inj h
        exact go_same X r N hk hn hL fun t g => iremM X hx rfl hd rfl g0 g
    · cases h
  | ldiv =>
    have hl : len = 1 := hl; subst hl
    dsimp only [stp] at h
    split at h
    · rename_i y x S'
      split at h
      · cases h
      · rename_i g0
        obtain rfl := Option.some.inj h
        exact go_same X r N hk hn hL fun t g => XT.ldiv X.here hx rfl hd rfl g0 g
    · cases h
  | lrem =>
    have hl : len = 1 := hl; subst hl
    dsimp only [stp] at h
    split at h
    · rename_i y x S'
      split at h
      · cases h
      · rename_i g0
        obtain rfl := Option.some.inj h
        exact go_same X r N hk hn hL fun t g => XT.lrem X.here hx rfl hd rfl g0 (by rw [lrem_mod]; exact g)
    · cases h
  | ineg =>
    have hl : len = 1 := hl; subst hl
    dsimp only [stp] at h
    split at h
    · rename_i x S'
      obtain rfl := Option.some.inj h
      exact go_same X r N hk hn hL fun t g => XS.ineg X.here hx rfl hd rfl g
    · cases h
  | lneg =>
    have hl : len = 1 := hl; subst hl
    dsimp only [stp] at h
    split at h
    · rename_i x S'
      obtain rfl := Option.some.inj h
      exact go_same X r N hk hn hL fun t g => XT.lneg X.here hx rfl hd rfl g
    · cases h
  | i2l =>
    have hl : len = 1 := hl; subst hl
    dsimp only [stp] at h
    split at h
    · rename_i x S'
      obtain rfl := Option.some.inj h
      exact go_same X r N hk hn hL fun t g => XT.i2l X.here hx rfl hd rfl g
    · cases h
  | l2i =>
    have hl : len = 1 := hl; subst hl
    dsimp only [stp] at h
    split at h
    · rename_i x S'
      obtain rfl := Option.some.inj h
      exact go_same X r N hk hn hL fun t g => XT.l2i X.here hx rfl hd rfl g
    · cases h
  | i2b =>
    have hl : len = 1 := hl; subst hl
    dsimp only [stp] at h
    split at h
    · rename_i x S'
      obtain rfl := Option.some.inj h
      exact go_same X r N hk hn hL fun t g => XT.i2b X.here hx rfl hd rfl g
    · cases h
  | lcmp =>
    have hl : len = 1 := hl; subst hl
    dsimp only [stp] at h
    split at h
    · rename_i y x S'
      obtain rfl := Option.some.inj h
      exact go_same X r N hk hn hL fun t g => XT.lcmp X.here hx rfl hd rfl g
    · cases h
  | dup =>
    have hl : len = 1 := hl; subst hl
    dsimp only [stp] at h
    split at h
    · rename_i v S'
      split at h
      · rename_i g0
        obtain rfl := Option.some.inj h
        exact go_same X r N hk hn hL fun t g => XS.dup X.here hx rfl hd rfl g0 g
      · cases h
    · cases h
  | pop =>
    have hl : len = 1 := hl; subst hl
    dsimp only [stp] at h
    split at h
    · rename_i v S'
      split at h
      · rename_i g0
        obtain rfl := Option.some.inj h
        exact go_same X r N hk hn hL fun t g => XT.pop X.here hx rfl hd rfl g0 g
      · cases h
    · cases h
  | dup2 =>
    have hl : len = 1 := hl; subst hl
    dsimp only [stp] at h
    split at h
    · rename_i x S'
      obtain rfl := Option.some.inj h
      exact go_same X r N hk hn hL fun t g => XT.dup2L X.here hx rfl hd rfl g
    · rename_i v w S' _
      split at h
      · rename_i g0
        obtain rfl := Option.some.inj h
        exact go_same X r N hk hn hL fun t g => XT.dup2 X.here hx rfl hd rfl g0.1 g0.2 g
      · cases h
    · cases h
  | goto o =>
    have hl : len = 3 := hl; subst hl
    obtain ⟨v, hv, rfl⟩ := Option.map_eq_some_iff.mp h
    obtain ⟨g1, g2⟩ := jmp_ok hv
    exact go_same X r N hk hn hL fun t g => XS.goto X.here hx rfl rfl hd g1 g2 g
  | ifCond cd o =>
    have hl : len = 3 := hl; subst hl
    dsimp only [stp] at h
    split at h
    · rename_i x S'
      split at h
      · rename_i g0
        obtain ⟨v, hv, rfl⟩ := Option.map_eq_some_iff.mp h
        obtain ⟨g1, g2⟩ := jmp_ok hv
        exact go_same X r N hk hn hL fun t g => XS.ifYes X.here hx rfl rfl hd rfl g0 g1 g2 g
      · rename_i g0
        obtain rfl := Option.some.inj h
        exact go_same X r N hk hn hL fun t g => XS.ifNo X.here hx rfl hd rfl (by simpa using g0) g
    · cases h
  | if_icmp cd o =>
    have hl : len = 3 := hl; subst hl
    dsimp only [stp] at h
    split at h
    · rename_i y x S'
      split at h
      · rename_i g0
        obtain ⟨v, hv, rfl⟩ := Option.map_eq_some_iff.mp h
        obtain ⟨g1, g2⟩ := jmp_ok hv
        exact go_same X r N hk hn hL fun t g => XS.icmpYes X.here hx rfl rfl hd rfl g0 g1 g2 g
      · rename_i g0
        obtain rfl := Option.some.inj h
        exact go_same X r N hk hn hL fun t g => XS.icmpNo X.here hx rfl hd rfl (by simpa using g0) g
    · cases h
  | tableswitch d lo hi os =>
    dsimp only [stp] at h
    split at h
    · rename_i x S'
      split at h
      · rename_i g0
        obtain ⟨v, hv, rfl⟩ := Option.map_eq_some_iff.mp h
        obtain ⟨g1, g2⟩ := jmp_ok hv
        exact go_same X r N hk hn hL fun t g => XS.tswOut X.here hx rfl rfl hd rfl g0 g1 g2 g
      · rename_i g0
        obtain ⟨o, ho1, h⟩ := Option.bind_eq_some_iff.mp h
        obtain ⟨v, hv, rfl⟩ := Option.map_eq_some_iff.mp h
        obtain ⟨g1, g2⟩ := jmp_ok hv
        exact go_same X r N hk hn hL fun t g => XS.tswIn X.here hx rfl rfl hd rfl g0 ho1 g1 g2 g
    · cases h
  | getfield i =>
    have hl : len = 3 := hl; subst hl
    dsimp only [stp] at h
    split at h
    · rename_i a S'
      split at h
      · rename_i g0
        obtain rfl := Option.some.inj h
        obtain ⟨T1, X1, e1, st1⟩ := getF X hx hZ hown (host := "") (Or.inl (hw _ ho.2)) Via.refl rfl ((r.obj g0).2 _ ho.1) (g := mkF mid pc L.toArray (.ref a :: S')) rfl rfl hd
        exact go_heap X1 r e1 N hk hn hL fun t g => st1 t g
      · cases h
    · cases h
  | putfield i =>
    have hl : len = 3 := hl; subst hl
    dsimp only [stp] at h
    split at h
    · rename_i v a S'
      split at h
      · rename_i g0
        obtain rfl := Option.some.inj h
        obtain ⟨o1, o2, o3⟩ := ho
        obtain ⟨w1, w2⟩ := isOw_ok g0.1
        obtain ⟨n1, n2⟩ := okv_ok g0.2
        have hlay : (Jvm.Cond.lays C C (fn aux.toNat).1 (fn aux.toNat).2).before a0 Z = true ∨ ((Jvm.Cond.laysFinal C C (fn aux.toNat).1 (fn aux.toNat).2).before a0 Z = true ∧ (nm m).cls = C ∧ meth.name = "<init>") := by
          rcases o3 with q | ⟨q1, q2⟩
          · exact Or.inl (hw _ q)
          · rcases (hG.2.2.1 _ o1).2 with q | q
            · exact Or.inl (hw _ q)
            · exact Or.inr ⟨hw _ q, q1, hnm.trans q2⟩
        obtain ⟨T1, h1, X1, e1, W1, st1⟩ := putF X hx hZ hown (host := "") (Or.inl (hw _ o2)) Via.refl rfl ((r.obj w1).2 _ o1) (r.obj w1).1 hlay (hw _ hG.1) (hG.2.2.1 _ o1).1 n1 n2 (g := mkF mid pc L.toArray (v :: .ref a :: S')) rfl rfl hd
        exact ⟨T1, _, X1, by rw [e1]; exact r.wrF hG hw w1 o1 W1, Fr.snoc X1 N (r.own w2), hk, hn, hL, st1⟩
      · cases h
    · cases h
  | iaload =>
    have hl : len = 1 := hl; subst hl
    dsimp only [stp] at h
    split at h
    · rename_i i a S'
      split at h
      · rename_i g0
        obtain rfl := Option.some.inj h
        obtain ⟨w1, w2, w3⟩ := inA_ok g0
        obtain ⟨b1, cl, b2, b3, b4⟩ := r.arr w1
        exact go_same X r N hk hn hL fun t g => X.iaload hx (g := mkF mid pc L.toArray (.int i :: .ref a :: S')) b2.1 (State.isArrayOf_alike hZ.alike b2.2.1) b2.2.2 (by rw [b3]; exact idx_not w2 w3) (b4 _ w3) rfl rfl hd t g
      · cases h
    · cases h
  | laload =>
    have hl : len = 1 := hl; subst hl
    dsimp only [stp] at h
    split at h
    · rename_i i a S'
      split at h
      · rename_i g0
        obtain rfl := Option.some.inj h
        obtain ⟨w1, w2, w3⟩ := inA_ok g0
        obtain ⟨b1, cl, b2, b3, b4⟩ := r.arr w1
        exact go_same X r N hk hn hL fun t g => X.laload hx (g := mkF mid pc L.toArray (.int i :: .ref a :: S')) b2.1 (State.isArrayOf_alike hZ.alike b2.2.1) b2.2.2 (by rw [b3]; exact idx_not w2 w3) (b4 _ w3) rfl rfl hd t g
      · cases h
    · cases h
  | baload =>
    have hl : len = 1 := hl; subst hl
    dsimp only [stp] at h
    split at h
    · rename_i i a S'
      split at h
      · rename_i g0
        obtain rfl := Option.some.inj h
        rcases g0 with g0 | g0
        · obtain ⟨w1, w2, w3⟩ := inA_ok g0
          obtain ⟨b1, cl, b2, b3, b4⟩ := r.arr w1
          exact go_same X r N hk hn hL fun t g => X.baloadBytes hx (g := mkF mid pc L.toArray (.int i :: .ref a :: S')) b2.1 (State.isArrayOf_alike hZ.alike b2.2.1) b2.2.2 (by rw [b3]; exact idx_not w2 w3) (b4 _ w3) rfl rfl hd t g
        · obtain ⟨w1, w2, w3⟩ := inA_ok g0
          obtain ⟨b1, cl, b2, b3, b4⟩ := r.arr w1
          exact go_same X r N hk hn hL fun t g => X.baloadBooleans hx (g := mkF mid pc L.toArray (.int i :: .ref a :: S')) b2.1 (State.isArrayOf_alike hZ.alike b2.2.1) b2.2.2 (by rw [b3]; exact idx_not w2 w3) (b4 _ w3) rfl rfl hd t g
      · cases h
    · cases h
  | iastore =>
    have hl : len = 1 := hl; subst hl
    dsimp only [stp] at h
    split at h
    · rename_i x i a S'
      split at h
      · rename_i g0
        obtain rfl := Option.some.inj h
        obtain ⟨g1, g2⟩ := inAw_ok g0
        obtain ⟨w1, w2, w3⟩ := inA_ok g1
        obtain ⟨b1, cl, b2, b3, b4⟩ := r.arr w1
        obtain ⟨T1, h1, X1, e1, W1, st1⟩ := stI X hx hZ rfl b2 (j := i) (x := x) (by rw [b3]; exact idx_not w2 w3) (g := mkF mid pc L.toArray (.int x :: .int i :: .ref a :: S')) rfl rfl hd
        exact ⟨T1, _, X1, by rw [e1]; exact r.wrA w1 w3 W1, Fr.snoc X1 N (r.own g2), hk, hn, hL, st1⟩
      · cases h
    · cases h
  | lastore =>
    have hl : len = 1 := hl; subst hl
    dsimp only [stp] at h
    split at h
    · rename_i x i a S'
      split at h
      · rename_i g0
        obtain rfl := Option.some.inj h
        obtain ⟨g1, g2⟩ := inAw_ok g0
        obtain ⟨w1, w2, w3⟩ := inA_ok g1
        obtain ⟨b1, cl, b2, b3, b4⟩ := r.arr w1
        obtain ⟨T1, h1, X1, e1, W1, st1⟩ := stJ X hx hZ rfl b2 (j := i) (x := x) (by rw [b3]; exact idx_not w2 w3) (g := mkF mid pc L.toArray (.long x :: .int i :: .ref a :: S')) rfl rfl hd
        exact ⟨T1, _, X1, by rw [e1]; exact r.wrA w1 w3 W1, Fr.snoc X1 N (r.own g2), hk, hn, hL, st1⟩
      · cases h
    · cases h
  | bastore =>
    have hl : len = 1 := hl; subst hl
    dsimp only [stp] at h
    split at h
    · rename_i x i a S'
      split at h
      · rename_i g0
        obtain rfl := Option.some.inj h
        rcases g0 with ⟨g0, gx⟩ | ⟨g0, gx⟩
        · obtain ⟨g1, g2⟩ := inAw_ok g0
          obtain ⟨w1, w2, w3⟩ := inA_ok g1
          obtain ⟨b1, cl, b2, b3, b4⟩ := r.arr w1
          have hx2 : nar .byte x = x := Value.int.inj (okv_ok gx).1
          obtain ⟨T1, h1, X1, e1, W1, st1⟩ := stB X hx hZ rfl b2 (j := i) (x := x) (by rw [b3]; exact idx_not w2 w3) (g := mkF mid pc L.toArray (.int x :: .int i :: .ref a :: S')) rfl rfl hd
          rw [hx2] at W1
          exact ⟨T1, _, X1, by rw [e1]; exact r.wrA w1 w3 W1, Fr.snoc X1 N (r.own g2), hk, hn, hL, st1⟩
        · obtain ⟨g1, g2⟩ := inAw_ok g0
          obtain ⟨w1, w2, w3⟩ := inA_ok g1
          obtain ⟨b1, cl, b2, b3, b4⟩ := r.arr w1
          have hx2 : nar .boolean x = x := Value.int.inj (okv_ok gx).1
          obtain ⟨T1, h1, X1, e1, W1, st1⟩ := stZ X hx hZ rfl b2 (j := i) (x := x) (by rw [b3]; exact idx_not w2 w3) (g := mkF mid pc L.toArray (.int x :: .int i :: .ref a :: S')) rfl rfl hd
          rw [hx2] at W1
          exact ⟨T1, _, X1, by rw [e1]; exact r.wrA w1 w3 W1, Fr.snoc X1 N (r.own g2), hk, hn, hL, st1⟩
      · cases h
    · cases h
  | arraylength =>
    have hl : len = 1 := hl; subst hl
    dsimp only [stp] at h
    split at h
    · rename_i a S'
      split at h
      · rename_i g0
        obtain rfl := Option.some.inj h
        obtain ⟨t0, w1⟩ : ∃ t0, (H.2 a).1 = .array t0 := by unfold isA at g0; cases hq : (H.2 a).1 <;> rw [hq] at g0 <;> first | (cases g0; done) | exact ⟨_, rfl⟩
        obtain ⟨b1, cl, b2, b3, b4⟩ := r.arr w1
        refine go_same X r N hk hn hL fun t g => X.arraylength hx (g := mkF mid pc L.toArray (.ref a :: S')) b2.1 (State.isArrayOf_alike hZ.alike b2.2.1) rfl rfl hd t ?_
        rw [b3]; exact g
      · cases h
    · cases h
  | newarray t =>
    have hl : len = 2 := hl; subst hl
    dsimp only [stp] at h
    split at h
    · rename_i cnt S'
      split at h
      · rename_i g0
        obtain rfl := Option.some.inj h
        obtain ⟨z1, z2, z3, z4⟩ := g0
        have hcb : componentBytes (newarray.typeOf t) ≤ 8 := by cases t <;> decide
        obtain ⟨cA, kA, comp, h1, h2, h3, X1, st1⟩ := X.newarrayPrim hx (mvA hZ (hw _ ho)) (g := mkF mid pc L.toArray (.int cnt :: S')) rfl hd rfl z1 (Nat.le_trans (Nat.mul_le_mul_left _ hcb) z2) z3 z4
        refine ⟨_, locs, X1, ?_, N, z3, z4, hL, fun t g => st1 t (by rw [r.1]; exact g)⟩
        exact r.ext (ext_push _ _) (by show (T.heap.push _).size = _; simp) ⟨fun _ => by rw [r.1]; exact r.2.1, (back32 z1).2, _, made_arr hZ h1 h2 h3, by simp, fun i hi => by simp [hi]⟩
      · cases h
    · cases h
  | new i =>
    have hl : len = 3 := hl; subst hl
    dsimp only [stp] at h
    split at h
    · rename_i g0
      obtain rfl := Option.some.inj h
      obtain ⟨z1, z2, z3⟩ := g0
      rw [ho.1] at z3 ⊢
      obtain ⟨vm1, cC, kC, h1, h2, h3, h4, X1, st1⟩ := X.newCold hx hown (mv hZ (hw _ ho.2)) (mv hZ (hw _ hG.1)) (mv hZ (hw _ hG.2.1)) (g := mkF mid pc L.toArray S) rfl hd z2 z3
      obtain ⟨A1, D1⟩ := made_obj (h := T.heap) (a0 := a0) hZ h1 h2
      refine ⟨_, locs, X1, ?_, N, z2, z3, hL, fun t g => st1 t (by rw [r.1]; exact g)⟩
      exact r.ext (ext_push _ _) (by show (T.heap.push _).size = _; simp) ⟨fun _ => by rw [r.1]; exact r.2.1, A1, fun j hj => D1 (((hG.2.2.1 j hj).2).imp (hw _) (hw _)) (hG.2.2.1 j hj).1⟩
    · cases h
  | invokespecial i =>
    have hl : len = 3 := hl; subst hl
    dsimp only [stp] at h
    split at h
    · rename_i a S'
      split at h
      · rename_i g0
        obtain rfl := Option.some.inj h
        obtain ⟨rfl, z2, z3⟩ := g0
        obtain ⟨o1, o2, o3⟩ := ho.1 rfl
        obtain ⟨T1, X1, e1, st1⟩ := initO X hx hZ hown (hw _ o1) (hw _ o2) (hw _ o3) rfl (g := mkF mid pc L.toArray (.ref a :: S')) rfl (by rw [hml, ← hL]; simp) rfl hd z2 (W := cs S') (by show 2 * 0 + _ ≤ _; exact Nat.le_of_eq (Nat.zero_add _)) z3
        exact go_heap X1 r e1 N hk hn hL fun t g => st1 t g
      · cases h
    · cases h
  | _ => exact absurd (show (none : Option Fm) = some q from h) (by simp)
end Step
end Jvm.JX

namespace Jvm.JX
open Sem ClassFile Op Lib Jvm.Stand Jvm.Free Jvm.LawKit Jvm.RoadKit
section Sound
variable {P : Prog} {tb : List Jvm.Cond} {C : String} {fn : Nat → String × String} {F : List Nat} {nsl : Nat} {nm : Nat → MethodName} {bt : Nat → ByteArray} {R : List Nat} {top : Nat}
variable {l : Launch} {Z : State} {a0 : Array Value} {n0 : Nat}
def Endd (C : String) (fn : Nat → String × String) (F : List Nat) (Z : State) (n0 : Nat) (p : Program) (l : Launch) (e : Env) (Rm : Jvm.Room) (s : State) (mid : MethodId) (args : Array Value) (below : List Frame) (meth : Method) (c : Code) (rt0 : Option FieldType) (start : State) (v : Option Value) (H' : AH) : Prop :=
  ∃ T' locs' k' n', Stand p l e Rm s mid args below meth c T' locs' k' n' ∧ RelH C fn F Z n0 T'.heap H' ∧ Fr n0 locs' ∧ k' ≤ Rm.cells ∧ n' ≤ Rm.slots ∧ (rt0 = none → v = none) ∧
    ∀ fs, (∀ (f : JFrame) (acts : List Action), f.method = mid → f.locked = none → f.entered = [] → (doReturn e (T'.setTop f) acts v).1 = T'.setFrames fs) → Steps p.tables e below start (T'.setFrames fs)
def Says (P : Prog) (C : String) (fn : Nat → String × String) (F : List Nat) (nm : Nat → MethodName) (bt : Nat → ByteArray) (l : Launch) (Z : State) (n0 m pc : Nat) (L : List Slot) (S : List Value) (k n : Nat) (H : AH) (v : Option Value) (H' : AH) : Prop :=
  ∀ (p : Program) (e : Env) (s : State) (mid : MethodId) (args : Array Value) (below : List Frame) (meth : Method) (c : Code) (T : State) (locs : List Loc), Stand p l e (rm P m) s mid args below meth c T locs k n → p.tables.exec = Jvm.exec → Z.Warmed39 s.vm → c.code = bt m → c.maxLocals = ml P m →
    s.vm.findClass (nm m).cls = some mid.cls → meth.name = (nm m).name → meth.sig.returnType = rt P m → L.length = ml P m → RelH C fn F Z n0 T.heap H → Fr n0 locs → k ≤ (rm P m).cells → n ≤ (rm P m).slots →
    Endd C fn F Z n0 p l e (rm P m) s mid args below meth c (rt P m) (T.setTop (mkF mid pc L.toArray S)) v H'
theorem Endd.back {p : Program} {e : Env} {Rm : Jvm.Room} {s : State} {mid : MethodId} {args : Array Value} {below : List Frame} {meth : Method} {c : Code} {rt0 : Option FieldType} {start start' : State} {v : Option Value} {H' : AH}
    (h : Endd C fn F Z n0 p l e Rm s mid args below meth c rt0 start' v H') (st : ∀ t, Steps p.tables e below start' t → Steps p.tables e below start t) : Endd C fn F Z n0 p l e Rm s mid args below meth c rt0 start v H' := by
  obtain ⟨T', locs', k', n', h1, h2, h3, h4, h5, h6, h7⟩ := h
  exact ⟨T', locs', k', n', h1, h2, h3, h4, h5, h6, fun fs g => st _ (h7 fs g)⟩
theorem met_of {m : Nat} {as : List Value} {H H' : AH} {v : Option Value} {h : Heap} (ws : List Jvm.Cond) (hp : plainName (nm m).cls = true) (hl : (Sym.laidSlots as).length ≤ ml P m) (r : RelH C fn F Z n0 h H)
    (hS : Says P C fn F nm bt l Z n0 m 0 (ent P m as) [] 0 0 H v H') :
    MetFree l (nm m) (head1 (Jvm.Cond.code (nm m) (bt m) (ml P m) (rt P m) :: ws) (rm P m)) (fun a U => a = as.toArray ∧ Z.Warmed39 U.vm ∧ U.heap = h) (fun _ _ _ _ _ => True)
      (fun _ U o U' => ∃ v' L, o = .returned v' ∧ (v' = v ∧ Fr n0 L ∧ RelH C fn F Z n0 U'.heap H') ∧ FrameEnd U o U' L (rm P m).cells (rm P m).slots) := by
  refine MetFree.of_bodySF (plainFor_of_name hp) hisR ?_
  intro p e s mid args below meth c s₁ Bd hml0 hP hK
  obtain ⟨rfl, hZ, hh⟩ := hP
  have X0 : Stand p l e (rm P m) s mid as.toArray below meth c s₁ [] 0 0 := Stand.of_body Bd
  have e0 : s₁.heap = h := by rw [← hh, Bd.state]; rfl
  have hle : (ent P m as).length = ml P m := by simp [ent]; omega
  obtain ⟨T', locs', k', n', X1, r1, N1, hk1, hn1, hv1, st1⟩ := hS p e s mid as.toArray below meth c s₁ [] X0 Bd.exec hZ Bd.bytes hml0 (findClass_of_methodNamed Bd.named) (name_of_methodNamed Bd.named Bd.method).1 Bd.returns hle (by rw [e0]; exact r) (Fr.nil n0) (Nat.zero_le _) (Nat.zero_le _)
  obtain ⟨fs, hr, hrun, hended, hW, hsame⟩ := X1.leave (v := v) (fun q => hv1 (Bd.returns.symm.trans q))
  refine ⟨_, _, (Jvm.Free.XT.entry (Ls := (ent P m as).toArray) (by simp [ent])).trans (st1 fs hr), hrun, hended, v, locs', rfl, ⟨rfl, N1, r1⟩, ⟨_, rfl⟩, hW, hsame.mono hk1 hn1⟩
theorem ret_ok {m : Nat} {ins : Instr} {S : List Value} {v : Option Value} (h : ret P m ins S = some v) : (rt P m = none ∧ v = none ∧ ins = .return_ ∧ S = []) ∨ ∃ t w rest, rt P m = some t ∧ v = some w ∧ S = w :: rest ∧ narrow t w = w ∧
    ((ins = .ireturn ∧ (t = .int ∨ t = .boolean ∨ t = .byte ∨ t = .char ∨ t = .short) ∧ ∃ z, w = .int z) ∨ (ins = .lreturn ∧ t = .long ∧ ∃ z, w = .long z)) := by
  unfold ret at h
  split at h
  · split at h
    · rename_i g; cases h; exact Or.inl ⟨g.1, rfl, rfl, g.2⟩
    · cases h
  · split at h
    · rename_i z rest g; cases h; exact Or.inr ⟨.int, _, rest, g, rfl, rfl, rfl, Or.inl ⟨rfl, Or.inl rfl, z, rfl⟩⟩
    · rename_i z rest g
      split at h
      · rename_i g0
        cases h
        refine Or.inr ⟨.boolean, _, rest, g, rfl, rfl, ?_, Or.inl ⟨rfl, Or.inr (Or.inl rfl), z, rfl⟩⟩
        rcases g0 with rfl | rfl <;> rfl
      · cases h
    · cases h
  · split at h
    · rename_i z rest g; cases h; exact Or.inr ⟨.long, _, rest, g, rfl, rfl, rfl, Or.inr ⟨rfl, rfl, z, rfl⟩⟩
    · cases h
  · cases h
theorem cal_ok {m m' k n : Nat} {ins : Instr} {aux : Int} {S a r : List Value} {H : AH} (h : cal P m ins aux S k n H = some (m', a, r)) : aux = (m' : Int) ∧ kindOk ins (kd P m') = true ∧ may P m m' a r k n H = true ∧ S = a.reverse ++ r := by
  have h1 : cal1 P m ins aux S k n H = some (m', a, r) := by
    unfold cal at h
    split at h <;> first | exact h | (cases h)
  unfold cal1 at h1
  split at h1
  · rename_i g
    cases h1
    exact ⟨by omega, g.2.1, g.2.2, by rw [List.reverse_reverse]; exact (List.take_append_drop ..).symm⟩
  · cases h1
end Sound
end Jvm.JX

namespace Jvm.JX
open Sem ClassFile Op Lib Jvm.Stand Jvm.Free Jvm.LawKit Jvm.RoadKit
section Sound
variable {P : Prog} {tb : List Jvm.Cond} {C : String} {fn : Nat → String × String} {F : List Nat} {nsl : Nat} {nm : Nat → MethodName} {bt : Nat → ByteArray} {R : List Nat} {top : Nat}
variable {l : Launch} {Z : State} {a0 : Array Value} {n0 : Nat}
theorem may_ok {m m' k n : Nat} {a r : List Value} {H : AH} (h : may P m m' a r k n H = true) : (Sym.laidSlots a).length ≤ ml P m' ∧ a.length = na P m' ∧ (rm P m').frames + 1 ≤ (rm P m).frames ∧ cs r + (ml P m' + 11) + (rm P m').locals ≤ (rm P m).locals ∧
    (((rm P m').cells = 0 ∧ (rm P m').slots = 0) ∨ (k + (rm P m').cells ≤ (rm P m).cells ∧ n + (rm P m').slots ≤ (rm P m).slots)) ∧ (kd P m' = 0 ∨ rcv H a = true) := by
  simpa [may, and_assoc] using h
theorem rcv_ok {H : AH} {a : List Value} (h : rcv H a = true) : ∃ b as, a = .ref b :: as ∧ isO H b = true := by
  unfold rcv at h
  split at h
  · exact ⟨_, _, rfl, h⟩
  · cases h
set_option maxHeartbeats 1000000 in
theorem call_go {m pc len k n m' : Nat} {aux : Int} {L : List Slot} {S a r : List Value} {H H1 : AH} {ins : Instr} {v1 : Option Value} {p : Program} {e : Env} {s : State} {mid : MethodId} {args : Array Value} {below : List Frame} {meth : Method} {c : Code} {T : State} {locs : List Loc}
    (hG : Good P tb C fn F nsl nm bt R top) (hw : ∀ d ∈ tb, d.before a0 Z = true) (hm : m ∈ R) (hrow : P.1 m pc = some (ins, len, aux)) (hc : cal P m ins aux S k n H = some (m', a, r)) (hS : m' ∈ R → Says P C fn F nm bt l Z n0 m' 0 (ent P m' a) [] 0 0 H v1 H1)
    (X : Stand p l e (rm P m) s mid args below meth c T locs k n) (hx : p.tables.exec = Jvm.exec) (hZ : Z.Warmed39 s.vm)
    (hby : c.code = bt m) (hml : c.maxLocals = ml P m) (hown : s.vm.findClass (nm m).cls = some mid.cls) (hL : L.length = ml P m) (rr : RelH C fn F Z n0 T.heap H) (N : Fr n0 locs) (hk : k ≤ (rm P m).cells) (hn : n ≤ (rm P m).slots) :
    Go C fn F Z n0 p l e (rm P m) s mid args below meth c (T.setTop (mkF mid pc L.toArray S)) (ml P m) (pc + len, L, v1.toList ++ r, k + (rm P m').cells, n + (rm P m').slots, H1) := by
  obtain ⟨hd, hl, ho⟩ := (hG.2.2.2.2.1 m hm).2.2 pc ins len aux hrow
  replace hd := hb hby hd
  obtain ⟨e1, e2, e3, e4⟩ := cal_ok hc
  obtain ⟨y1, y2, y3, y4, y5, y6⟩ := may_ok e3
  have hnt : m' ≠ top := fun q => by
    have := hG.2.2.2.2.2.2 m hm pc ins len aux hrow (by rw [e1, q])
    rw [q, this] at e2; cases e2
  have y5' : k + (rm P m').cells ≤ (rm P m).cells ∧ n + (rm P m').slots ≤ (rm P m).slots := by rcases y5 with ⟨q1, q2⟩ | q <;> omega
  have hsize : (mkF mid pc L.toArray S).locals.size = c.maxLocals := by rw [hml, ← hL]; simp
  have hcs : 2 * (mkF mid pc L.toArray S).monitorRoom + (r.map fun v => v.category).sum ≤ cs r := by show 2 * 0 + _ ≤ _; exact Nat.le_of_eq (Nat.zero_add _)
  subst e1
  cases ins with
  | invokevirtual ix =>
    have hl : len = 3 := hl
    subst hl
    obtain ⟨mR, lnk⟩ := ho
    rw [Int.toNat_natCast] at mR lnk
    obtain ⟨c1, c2, ⟨ps, rr0, c3, c4⟩, c5, c6, c7, c8, c9⟩ := hG.2.2.2.2.2.1 m' mR hnt
    have hk0 : kd P m' ≠ 0 := fun q => by rw [q] at e2; cases e2
    obtain ⟨hcls, hinst⟩ := c6 hk0
    obtain ⟨b, as, rfl, hb⟩ := rcv_ok (y6.resolve_left hk0)
    obtain ⟨Eb, -⟩ := rr.obj hb
    have hlen : as.length = ps.length := by rw [if_neg hk0] at c4; simp only [List.length_cons] at y2; omega
    have eS : S = as.reverse ++ .ref b :: r := by rw [e4]; simp
    subst eS
    obtain ⟨pn, hy, -⟩ := hG.2.2.2.2.1 m' mR
    have BK := backOf (Q := fun v' h' L' => v' = v1 ∧ Fr n0 L' ∧ RelH C fn F Z n0 h' H1) (R := rm P m) (W := cs r) (p := p) (e := e) (below := below) (s := s) (args := args) (len := 3) (met_of [] pn y1 rr (hS mR)) hZ (hw _ c1) (hw _ c2) y3 y4
    have hkk : kd P m' = 1 ∨ kd P m' = 2 := by simpa [kindOk] using e2
    rcases hkk with hkk | hkk
    · obtain ⟨d1, d2⟩ := c7 hkk
      obtain ⟨cB, kB, q1, q2, q3⟩ := isOf (T := T) hZ rfl Eb
      obtain ⟨v, vm1, ⟨T1, L1, k1, n1⟩, -, X1, ⟨Lc, hQ, l1, z1, z2⟩, st⟩ := X.virtualBack hx (y := nm m') (z := nm m') hown (mvT hZ (hw _ lnk)) (mvT hZ (hw _ d1)) (notFace_of_selects (args := #[]) (mvT hZ (hw _ d2))) (mvT hZ (hw _ d2)) (mvT hZ (hw _ hinst)) hy BK q1 q3 (g := mkF mid pc L.toArray (as.reverse ++ .ref b :: r)) rfl hsize (Steps.refl _) (argsL := as) (rest := r) (lenOf c3 hlen) rfl hcs hd (fun _ _ => ⟨rfl, rfl, y5'.1, y5'.2⟩)
      dsimp only [Pt.U, Pt.locs, Pt.cells, Pt.slots] at X1 l1 z1 z2 st hQ
      subst l1 z1 z2
      obtain ⟨rfl, N1, r1⟩ := hQ
      exact ⟨T1, _, X1, r1, Fr.app N N1, y5'.1, y5'.2, hL, fun t g => st.trans g⟩
    · obtain ⟨ci, ki, i1, i2, i3, i4, -⟩ := Cond.instantiable_spec (show (Jvm.Cond.instantiable C nsl).before args s = true from mv hZ (hw _ hG.1))
      have hni : ki.isInterface = false := (Bool.or_eq_false_iff.mp i4).1
      have hpriv := Cond.privateMethod_at (mvP hZ (hw _ (c8 hkk)) (args := #[]))
      have hsel : (Jvm.Cond.selects (nm m').cls (nm m') (nm m')).before args s = true := selects_self_of_private (by rw [hcls]; exact i1) i2 hni hpriv (mvT hZ (hw _ hinst)) hy
      obtain ⟨cl, hcl, hcl'⟩ := Eb.cell
      obtain ⟨v, vm1, ⟨T1, L1, k1, n1⟩, -, X1, ⟨Lc, hQ, l1, z1, z2⟩, st⟩ := X.privateBack hx (y := nm m') hown (mvT hZ (hw _ lnk)) (mvT hZ (hw _ hinst)) hsel hpriv (mvT hZ (hw _ c1)) hy BK (g := mkF mid pc L.toArray (as.reverse ++ .ref b :: r)) rfl hsize (Steps.refl _) (a := b) hcl hcl' (argsL := as) (rest := r) (lenOf c3 hlen) rfl hcs hd (fun _ _ => ⟨rfl, rfl, y5'.1, y5'.2⟩)
      dsimp only [Pt.U, Pt.locs, Pt.cells, Pt.slots] at X1 l1 z1 z2 st hQ
      subst l1 z1 z2
      obtain ⟨rfl, N1, r1⟩ := hQ
      exact ⟨T1, _, X1, r1, Fr.app N N1, y5'.1, y5'.2, hL, fun t g => st.trans g⟩
  | invokestatic ix =>
    have hl : len = 3 := hl
    subst hl
    obtain ⟨mR, lnk⟩ := ho
    rw [Int.toNat_natCast] at mR lnk
    obtain ⟨c1, c2, ⟨ps, rr0, c3, c4⟩, c5, c6, c7, c8, c9⟩ := hG.2.2.2.2.2.1 m' mR hnt
    have hk0 : kd P m' = 0 := by simpa [kindOk] using e2
    have hlen : a.length = ps.length := by rw [if_pos hk0] at c4; omega
    subst e4
    obtain ⟨pn, hy, -⟩ := hG.2.2.2.2.1 m' mR
    have BK := backOf (Q := fun v' h' L' => v' = v1 ∧ Fr n0 L' ∧ RelH C fn F Z n0 h' H1) (R := rm P m) (W := cs r) (p := p) (e := e) (below := below) (s := s) (args := args) (len := 3) (met_of [] pn y1 rr (hS mR)) hZ (hw _ c1) (hw _ c2) y3 y4
    obtain ⟨v, vm1, ⟨T1, L1, k1, n1⟩, -, X1, ⟨Lc, hQ, l1, z1, z2⟩, st⟩ := Jvm.LawKit.callS X hx (y := nm m') hown (mvT hZ (hw _ lnk)) (mvT hZ (hw _ (c5 hk0))) (mvT hZ (hw _ c2)) (mvT hZ (hw _ c1)) hy BK (g := mkF mid pc L.toArray (a.reverse ++ r)) rfl hsize (argsL := a) (rest := r) (lenOf c3 hlen) rfl hcs hd (fun _ _ => ⟨rfl, rfl, y5'.1, y5'.2⟩)
    dsimp only [Pt.U, Pt.locs, Pt.cells, Pt.slots] at X1 l1 z1 z2 st hQ
    subst l1 z1 z2
    obtain ⟨rfl, N1, r1⟩ := hQ
    exact ⟨T1, _, X1, r1, Fr.app N N1, y5'.1, y5'.2, hL, fun t g => st t g⟩
  | invokespecial ix =>
    have hl : len = 3 := hl
    subst hl
    obtain ⟨mR, lnk⟩ := ho.2 (by omega)
    rw [Int.toNat_natCast] at mR lnk
    obtain ⟨c1, c2, ⟨ps, rr0, c3, c4⟩, c5, c6, c7, c8, c9⟩ := hG.2.2.2.2.2.1 m' mR hnt
    have hk3 : kd P m' = 3 := by simpa [kindOk] using e2
    have hk0 : kd P m' ≠ 0 := by omega
    obtain ⟨hcls, hinst⟩ := c6 hk0
    obtain ⟨hn3, hr3⟩ := c9 hk3
    obtain ⟨b, as, rfl, hb⟩ := rcv_ok (y6.resolve_left hk0)
    have hlen : as.length = ps.length := by rw [if_neg hk0] at c4; simp only [List.length_cons] at y2; omega
    have eS : S = as.reverse ++ .ref b :: r := by rw [e4]; simp
    subst eS
    obtain ⟨pn, hy, -⟩ := hG.2.2.2.2.1 m' mR
    have BK := backOf (Q := fun v' h' L' => v' = v1 ∧ Fr n0 L' ∧ RelH C fn F Z n0 h' H1) (R := rm P m) (W := cs r) (p := p) (e := e) (below := below) (s := s) (args := args) (len := 3) (met_of [] pn y1 rr (hS mR)) hZ (hw _ c1) (hw _ c2) y3 y4
    rw [hr3] at c1
    obtain ⟨v, vm1, ⟨T1, L1, k1, n1⟩, -, X1, ⟨Lc, hQ, l1, z1, z2⟩, st⟩ := X.specialBack hx (y := nm m') hn3 hown (mvT hZ (hw _ lnk)) (mvT hZ (hw _ hinst)) (mvT hZ (hw _ c1)) hy BK (g := mkF mid pc L.toArray (as.reverse ++ .ref b :: r)) rfl hsize (Steps.refl _) (a := b) (argsL := as) (rest := r) (lenOf c3 hlen) rfl hcs hd (fun _ _ => ⟨rfl, rfl, y5'.1, y5'.2⟩)
    dsimp only [Pt.U, Pt.locs, Pt.cells, Pt.slots] at X1 l1 z1 z2 st hQ
    subst l1 z1 z2
    obtain ⟨rfl, N1, r1⟩ := hQ
    exact ⟨T1, _, X1, r1, Fr.app N N1, y5'.1, y5'.2, hL, fun t g => st.trans g⟩
  | _ => cases e2
theorem sound (hG : Good P tb C fn F nsl nm bt R top) (hw : ∀ d ∈ tb, d.before a0 Z = true) : ∀ (f m : Nat), m ∈ R → ∀ (pc : Nat) (L : List Slot) (S : List Value) (k n : Nat) (H : AH) (v : Option Value) (H' : AH), run P f m pc L S k n H = some (v, H') → Says P C fn F nm bt l Z n0 m pc L S k n H v H' := by
  intro f
  induction f with
  | zero => intro m _ pc L S k n H v H' h; cases h
  | succ f ih =>
    intro m hm pc L S k n H v H' h p e s mid args below meth c T locs X hx hZ hby hml hown hnm hret hL r N hk hn
    rw [run_succ] at h
    cases hd : P.1 m pc with
    | none => rw [hd] at h; cases h
    | some d =>
      obtain ⟨ins, len, aux⟩ := d
      rw [hd] at h
      simp only at h
      cases hr : ret P m ins S with
      | some v1 =>
        rw [hr] at h
        cases h
        obtain ⟨hdec, hl, -⟩ := (hG.2.2.2.2.1 m hm).2.2 pc ins len aux hd
        replace hdec := hb hby hdec
        rcases ret_ok hr with ⟨q1, rfl, rfl, q0⟩ | ⟨t, w, rest, q1, rfl, rfl, q4, q5⟩
        · have hl : len = 1 := hl
          subst hl
          exact ⟨T, locs, k, n, X, r, N, hk, hn, fun _ => rfl, fun fs g => by subst q0; exact X.returnOut hx (hret.trans q1) hdec g⟩
        · refine ⟨T, locs, k, n, X, r, N, hk, hn, fun q => absurd (q1.symm.trans q) (by simp), fun fs g => ?_⟩
          have hl1 : len = 1 := by
            rcases q5 with ⟨rfl, -⟩ | ⟨rfl, -⟩ <;> exact hl
          subst hl1
          exact retOut X hx (hret.trans q1) q4 (q5.elim (fun u => Or.inl u) (fun u => Or.inr (Or.inl u))) hdec g
      | none =>
        rw [hr] at h
        simp only at h
        cases hc : cal P m ins aux S k n H with
        | some cc =>
          obtain ⟨m', a, rs⟩ := cc
          rw [hc] at h
          simp only at h
          cases hq : run P f m' 0 (ent P m' a) [] 0 0 H with
          | none => rw [hq] at h; cases h
          | some q =>
            obtain ⟨v1, H1⟩ := q
            rw [hq] at h
            obtain ⟨T1, locs1, X1, r1, N1, hk1, hn1, hL1, st⟩ := call_go hG hw hm hd hc (fun mR => ih m' mR _ _ _ _ _ _ _ _ hq) X hx hZ hby hml hown hL r N hk hn
            exact (ih m hm _ _ _ _ _ _ _ _ h p e s mid args below meth c T1 locs1 X1 hx hZ hby hml hown hnm hret hL1 r1 N1 hk1 hn1).back st
        | none =>
          rw [hc] at h
          simp only at h
          cases hs : stp P m ins len aux pc L S k n H with
          | none => rw [hs] at h; cases h
          | some q =>
            rw [hs] at h
            obtain ⟨T1, locs1, X1, r1, N1, hk1, hn1, hL1, st⟩ := stp_go hG hw hm hd hs X hx hZ hby hml hown hnm hL r N hk hn
            exact (ih m hm _ _ _ _ _ _ _ _ h p e s mid args below meth c T1 locs1 X1 hx hZ hby hml hown hnm hret hL1 r1 N1 hk1 hn1).back st
theorem law_met (hG : Good P tb C fn F nsl nm bt R top) (hw : ∀ d ∈ tb, d.before a0 Z = true) {as : List Value} {H : AH} {h : Heap} {Q : Option Value → AH → Prop} (ws : List Jvm.Cond) (ht : top ∈ R) (hl : (Sym.laidSlots as).length ≤ ml P top) (r : RelH C fn F Z n0 h H) (hC : Cl P top as H Q) :
    MetFree l (nm top) (head1 (Jvm.Cond.code (nm top) (bt top) (ml P top) (rt P top) :: ws) (rm P top)) (fun a U => a = as.toArray ∧ Z.Warmed39 U.vm ∧ U.heap = h) (fun _ _ _ _ _ => True)
      (fun _ U o U' => ∃ v' L, o = .returned v' ∧ (Fr n0 L ∧ ∃ H', Q v' H') ∧ FrameEnd U o U' L (rm P top).cells (rm P top).slots) := by
  obtain ⟨f, v, H', h1, h2⟩ := hC
  have hM := met_of (l := l) (h := h) ws (hG.2.2.2.2.1 top ht).1 hl r (sound hG hw f top ht _ _ _ _ _ _ _ _ h1)
  intro p e ha hc hk s m args below hf happ hP hK
  obtain ⟨n, o, q1, q2, q3, v', L, q4, ⟨q5, q6, q7⟩, q8⟩ := hM p e ha hc hk s m args below hf happ hP hK
  exact ⟨n, o, q1, q2, q3, v', L, q4, ⟨q6, H', by rw [q5]; exact h2⟩, q8⟩
end Sound
end Jvm.JX
namespace Jvm.JX
open Sem ClassFile Op Lib Jvm.Stand Jvm.Free Jvm.LawKit Jvm.RoadKit
theorem fa0 {α : Type} {p : α → Prop} : ∀ x ∈ ([] : List α), p x := fun _ q => nomatch q
theorem faS {α : Type} {p : α → Prop} {y : α} {L : List α} (q : p y) (r : ∀ x ∈ L, p x) : ∀ x ∈ y :: L, p x := fun x z => (List.mem_cons.mp z).elim (fun u => u ▸ q) (r x)
def rowChk (FL ML : List (Nat × Nat × Nat)) (KI KJ : List (Nat × Nat × Int)) (AT : List FieldType) (WF : List Nat) (nsl nw : Nat) (own : Nat) (ini : Bool) (ins : Instr) (aux : Int) : Bool :=
  match ins with
  | .getfield i => FL.contains (own, i, aux.toNat)
  | .putfield i => FL.contains (own, i, aux.toNat) && (WF.contains aux.toNat || ini)
  | .new i => decide (aux.toNat = nsl) && decide (own = 1) && decide (i = nw)
  | .newarray t => decide (newarray.typeOf t ∈ AT)
  | .ldc i => KI.contains (own, i, aux)
  | .ldc2_w i => KJ.contains (own, i, aux)
  | .invokevirtual i => ML.contains (own, i, aux.toNat)
  | .invokestatic i => ML.contains (own, i, aux.toNat)
  | .invokespecial i => if aux = -1 then decide (own = 0) && decide (i = 1) else ML.contains (own, i, aux.toNat)
  | _ => true
def rowOne (FL ML : List (Nat × Nat × Nat)) (KI KJ : List (Nat × Nat × Int)) (AT : List FieldType) (WF : List Nat) (nsl nw : Nat) (bt : Nat → ByteArray) (own : Nat → Nat) (ini : Nat → Bool) (m : Nat) (r : Row) : Bool :=
  decide (decode (bt m) r.1 = .ok (r.2.1, r.2.2.1)) && decide (r.2.2.1 = ilen2 r.2.1 r.2.2.1) && rowChk FL ML KI KJ AT WF nsl nw (own m) (ini m) r.2.1 r.2.2.2
theorem lookup_mem {L : List Row} {pc : Nat} {d : Instr × Nat × Int} (h : L.lookup pc = some d) : (pc, d) ∈ L := by
  induction L with
  | nil => cases h
  | cons x L ih =>
    obtain ⟨k, v⟩ := x
    rw [List.lookup_cons] at h
    by_cases e : pc = k
    · subst e; simp at h; subst h; exact List.mem_cons_self ..
    · have : (pc == k) = false := by simpa using e
      rw [this] at h; exact List.mem_cons_of_mem _ (ih h)
theorem row_ok {P : Prog} {tb : List Jvm.Cond} {C : String} {fn : Nat → String × String} {F : List Nat} {nsl nw : Nat} {nm : Nat → MethodName} {R : List Nat} {cn : Nat → String} {own : Nat → Nat} {ini : Nat → Bool}
    {FL ML : List (Nat × Nat × Nat)} {KI KJ : List (Nat × Nat × Int)} {AT : List FieldType} {WF : List Nat} {m : Nat} {ins : Instr} {aux : Int}
    (hown : (nm m).cls = cn (own m)) (hini : ini m = true → (nm m).cls = C ∧ (nm m).name = "<init>")
    (hFL : ∀ t ∈ FL, t.2.2 ∈ F ∧ Jvm.Cond.fieldLink (cn t.1) t.2.1 C (fn t.2.2).1 (fn t.2.2).2 ∈ tb) (hWF : ∀ k ∈ WF, Jvm.Cond.lays C C (fn k).1 (fn k).2 ∈ tb)
    (hML : ∀ t ∈ ML, t.2.2 ∈ R ∧ Jvm.Cond.methodLink (cn t.1) t.2.1 (nm t.2.2) ∈ tb) (hKI : ∀ t ∈ KI, Jvm.Cond.constant (cn t.1) t.2.1 (Int32.ofInt t.2.2) ∈ tb) (hKJ : ∀ t ∈ KJ, Jvm.Cond.constantLong (cn t.1) t.2.1 (Int64.ofInt t.2.2) ∈ tb)
    (hAT : ∀ t ∈ AT, Jvm.Cond.arrayClass t ∈ tb) (hN : Jvm.Cond.classLink (cn 1) nw C ∈ tb)
    (hO : Jvm.Cond.methodLink (cn 0) 1 Lib.objectInit ∈ tb ∧ Jvm.Cond.instanceMethod Lib.objectInit ∈ tb ∧ Jvm.Cond.code Lib.objectInit ⟨#[0xb1]⟩ 1 none ∈ tb)
    (h : rowChk FL ML KI KJ AT WF nsl nw (own m) (ini m) ins aux = true) : RowOk P tb C fn F nsl nm R m ins aux := by
  cases ins <;> first | trivial | skip
  case getfield i => have q := hFL _ (List.contains_iff_mem.mp h); exact ⟨q.1, by rw [hown]; exact q.2⟩
  case putfield i =>
    simp only [rowChk, Bool.and_eq_true, Bool.or_eq_true] at h
    have q := hFL _ (List.contains_iff_mem.mp h.1)
    exact ⟨q.1, by rw [hown]; exact q.2, h.2.imp (fun u => hWF _ (List.contains_iff_mem.mp u)) hini⟩
  case new i =>
    simp only [rowChk, Bool.and_eq_true, decide_eq_true_eq] at h
    obtain ⟨⟨h1, h2⟩, h3⟩ := h
    exact ⟨h1, by rw [hown, h2, h3]; exact hN⟩
  case newarray t => exact hAT _ (of_decide_eq_true h)
  case ldc i => have q := hKI _ (List.contains_iff_mem.mp h); show _ ∈ tb; rw [hown]; exact q
  case ldc2_w i => have q := hKJ _ (List.contains_iff_mem.mp h); show _ ∈ tb; rw [hown]; exact q
  case invokevirtual i => have q := hML _ (List.contains_iff_mem.mp h); exact ⟨q.1, by rw [hown]; exact q.2⟩
  case invokestatic i => have q := hML _ (List.contains_iff_mem.mp h); exact ⟨q.1, by rw [hown]; exact q.2⟩
  case invokespecial i =>
    simp only [rowChk] at h
    refine ⟨fun e => ?_, fun e => ?_⟩
    · rw [if_pos e] at h
      simp only [Bool.and_eq_true, decide_eq_true_eq] at h
      rw [hown, h.1, h.2]; exact hO
    · rw [if_neg (by omega)] at h
      have q := hML _ (List.contains_iff_mem.mp h)
      exact ⟨q.1, by rw [hown]; exact q.2⟩
theorem rel_H0 {C : String} {fn : Nat → String × String} {F : List Nat} {Z : State} (h : Heap) : RelH C fn F Z h.size h (H0 h.size) := ⟨rfl, Nat.le_refl _, fun a => ⟨fun q => (by cases q), trivial⟩⟩
theorem rel_H1 {C : String} {fn : Nat → String × String} {F : List Nat} {s : State} {a : Addr} {cl : Cell} (hf : Fit s) (A : Arr s s.heap a cl .int) (hl : cl.slots.size < 2 ^ 31) :
    ∃ f : Nat → Int32, RelH C fn F s s.heap.size s.heap (H1 s.heap.size a cl.slots.size f) := by
  refine ⟨fun i => match cl.slots[i]? with | some (.int x) => x | _ => 0, rfl, Nat.le_refl _, fun b => ?_⟩
  simp only [H1]
  by_cases e : b = a
  · subst e
    simp only [if_true]
    refine ⟨fun q => (by cases q), hl, cl, A, rfl, fun i hi => ?_⟩
    have hi : i < cl.slots.size := hi
    have hj := idx_in hi hl
    obtain ⟨v, q1, q2⟩ := elem_fit hf A hj
    have e2 : (i.toInt32).toNatClampNeg = i := by
      have := len_toInt (n := i) (by omega)
      simp only [Int32.toNatClampNeg, this]; omega
    rw [e2] at q1
    obtain ⟨x, rfl⟩ := fit_I q2 (Or.inl rfl)
    show _ = some (Value.int (match cl.slots[i]? with | some (.int x) => x | _ => 0))
    rw [q1]
  · simp only [e, if_false]; exact ⟨fun q => (by cases q), trivial⟩
end Jvm.JX

namespace Jvm.JX.Pj
open Jvm Jvm.ClassFile Sem Op Lib Jvm.JX
def r1 : List Row := [(0, .aload_n 0, 1, 0), (1, .invokespecial 1, 3, (-1)), (4, .aload_n 0, 1, 0), (5, .bipush 64, 2, 0), (7, .newarray .byte, 2, 0), (9, .putfield 7, 3, 3), (12, .aload_n 0, 1, 0), (13, .bipush 64, 2, 0), (15, .newarray .byte, 2, 0), (17, .putfield 13, 3, 4), (20, .aload_n 0, 1, 0), (21, .bipush 32, 2, 0), (23, .newarray .byte, 2, 0), (25, .putfield 16, 3, 6), (28, .aload_n 0, 1, 0), (29, .sipush 128, 3, 0), (32, .newarray .byte, 2, 0), (34, .putfield 19, 3, 7), (37, .aload_n 0, 1, 0), (38, .bipush 64, 2, 0), (40, .newarray .long, 2, 0), (42, .putfield 22, 3, 10), (45, .aload_n 0, 1, 0), (46, .bipush 64, 2, 0), (48, .newarray .long, 2, 0), (50, .putfield 26, 3, 11), (53, .aload_n 0, 1, 0), (54, .bipush 64, 2, 0), (56, .newarray .int, 2, 0), (58, .putfield 29, 3, 12), (61, .iload_n 1, 1, 0), (62, .istore_n 3, 1, 0), (63, .iload_n 3, 1, 0), (64, .iconst 1, 1, 0), (65, .if_icmp .ge 5, 3, 0), (68, .iconst 1, 1, 0), (69, .istore_n 3, 1, 0), (70, .iload_n 3, 1, 0), (71, .bipush 32, 2, 0), (73, .if_icmp .le 6, 3, 0), (76, .bipush 32, 2, 0), (78, .istore_n 3, 1, 0), (79, .iload_n 2, 1, 0), (80, .istore 4, 2, 0), (82, .iload 4, 2, 0), (84, .iconst 1, 1, 0), (85, .if_icmp .ge 6, 3, 0), (88, .iconst 1, 1, 0), (89, .istore 4, 2, 0), (91, .iload 4, 2, 0), (93, .bipush 64, 2, 0), (95, .if_icmp .le 7, 3, 0), (98, .bipush 64, 2, 0), (100, .istore 4, 2, 0), (102, .aload_n 0, 1, 0), (103, .iload_n 3, 1, 0), (104, .putfield 33, 3, 0), (107, .aload_n 0, 1, 0), (108, .iload 4, 2, 0), (110, .putfield 37, 3, 1), (113, .aload_n 0, 1, 0), (114, .iconst 0, 1, 0), (115, .putfield 40, 3, 2), (118, .aload_n 0, 1, 0), (119, .iconst 0, 1, 0), (120, .putfield 43, 3, 13), (123, .aload_n 0, 1, 0), (124, .invokevirtual 47, 3, 19), (127, .return_, 1, 0)]
def r2 : List Row := [(0, .aload_n 0, 1, 0), (1, .getfield 33, 3, 0), (4, .ireturn, 1, 0)]
def r3 : List Row := [(0, .aload_n 0, 1, 0), (1, .getfield 37, 3, 1), (4, .ireturn, 1, 0)]
def r4 : List Row := [(0, .aload_n 0, 1, 0), (1, .getfield 40, 3, 2), (4, .ireturn, 1, 0)]
def r5 : List Row := [(0, .aload_n 0, 1, 0), (1, .iload_n 1, 1, 0), (2, .invokevirtual 50, 3, 18), (5, .ifCond .ne 5, 3, 0), (8, .iconst (-1), 1, 0), (9, .ireturn, 1, 0), (10, .aload_n 0, 1, 0), (11, .iload_n 2, 1, 0), (12, .invokevirtual 50, 3, 18), (15, .ifCond .ne 5, 3, 0), (18, .iconst (-1), 1, 0), (19, .ireturn, 1, 0), (20, .aload_n 0, 1, 0), (21, .getfield 40, 3, 2), (24, .aload_n 0, 1, 0), (25, .getfield 37, 3, 1), (28, .if_icmp .lt 5, 3, 0), (31, .iconst (-1), 1, 0), (32, .ireturn, 1, 0), (33, .aload_n 0, 1, 0), (34, .getfield 7, 3, 3), (37, .aload_n 0, 1, 0), (38, .getfield 40, 3, 2), (41, .iload_n 1, 1, 0), (42, .i2b, 1, 0), (43, .bastore, 1, 0), (44, .aload_n 0, 1, 0), (45, .getfield 13, 3, 4), (48, .aload_n 0, 1, 0), (49, .getfield 40, 3, 2), (52, .iload_n 2, 1, 0), (53, .i2b, 1, 0), (54, .bastore, 1, 0), (55, .aload_n 0, 1, 0), (56, .dup, 1, 0), (57, .getfield 40, 3, 2), (60, .iconst 1, 1, 0), (61, .iadd, 1, 0), (62, .putfield 40, 3, 2), (65, .aload_n 0, 1, 0), (66, .iconst 0, 1, 0), (67, .putfield 43, 3, 13), (70, .aload_n 0, 1, 0), (71, .invokevirtual 47, 3, 19), (74, .aload_n 0, 1, 0), (75, .getfield 40, 3, 2), (78, .ireturn, 1, 0)]
def r6 : List Row := [(0, .aload_n 0, 1, 0), (1, .getfield 40, 3, 2), (4, .ifCond .gt 5, 3, 0), (7, .iconst (-1), 1, 0), (8, .ireturn, 1, 0), (9, .aload_n 0, 1, 0), (10, .dup, 1, 0), (11, .getfield 40, 3, 2), (14, .iconst 1, 1, 0), (15, .isub, 1, 0), (16, .putfield 40, 3, 2), (19, .aload_n 0, 1, 0), (20, .getfield 7, 3, 3), (23, .aload_n 0, 1, 0), (24, .getfield 40, 3, 2), (27, .iconst 0, 1, 0), (28, .bastore, 1, 0), (29, .aload_n 0, 1, 0), (30, .getfield 13, 3, 4), (33, .aload_n 0, 1, 0), (34, .getfield 40, 3, 2), (37, .iconst 0, 1, 0), (38, .bastore, 1, 0), (39, .aload_n 0, 1, 0), (40, .iconst 0, 1, 0), (41, .putfield 43, 3, 13), (44, .aload_n 0, 1, 0), (45, .invokevirtual 47, 3, 19), (48, .aload_n 0, 1, 0), (49, .getfield 40, 3, 2), (52, .ireturn, 1, 0)]
def r7 : List Row := [(0, .iload_n 1, 1, 0), (1, .ifCond .lt 11, 3, 0), (4, .iload_n 1, 1, 0), (5, .aload_n 0, 1, 0), (6, .getfield 40, 3, 2), (9, .if_icmp .lt 5, 3, 0), (12, .iconst (-1), 1, 0), (13, .ireturn, 1, 0), (14, .iload_n 2, 1, 0), (15, .ifCond .ne 10, 3, 0), (18, .aload_n 0, 1, 0), (19, .getfield 7, 3, 3), (22, .iload_n 1, 1, 0), (23, .baload, 1, 0), (24, .ireturn, 1, 0), (25, .iload_n 2, 1, 0), (26, .iconst 1, 1, 0), (27, .if_icmp .ne 10, 3, 0), (30, .aload_n 0, 1, 0), (31, .getfield 13, 3, 4), (34, .iload_n 1, 1, 0), (35, .baload, 1, 0), (36, .ireturn, 1, 0), (37, .iconst (-1), 1, 0), (38, .ireturn, 1, 0)]
def r8 : List Row := [(0, .aload_n 0, 1, 0), (1, .invokevirtual 54, 3, 20), (4, .aload_n 0, 1, 0), (5, .invokevirtual 47, 3, 19), (8, .aload_n 0, 1, 0), (9, .invokevirtual 57, 3, 26), (12, .istore_n 1, 1, 0), (13, .iload_n 1, 1, 0), (14, .ifCond .lt 21, 3, 0), (17, .aload_n 0, 1, 0), (18, .iload_n 1, 1, 0), (19, .invokevirtual 61, 3, 30), (22, .aload_n 0, 1, 0), (23, .iload_n 1, 1, 0), (24, .putfield 65, 3, 9), (27, .aload_n 0, 1, 0), (28, .iconst 2, 1, 0), (29, .putfield 68, 3, 5), (32, .goto 12, 3, 0), (35, .aload_n 0, 1, 0), (36, .invokevirtual 71, 3, 29), (39, .aload_n 0, 1, 0), (40, .iconst 1, 1, 0), (41, .putfield 68, 3, 5), (44, .aload_n 0, 1, 0), (45, .getfield 68, 3, 5), (48, .ireturn, 1, 0)]
def r9 : List Row := [(0, .aload_n 0, 1, 0), (1, .getfield 68, 3, 5), (4, .ireturn, 1, 0)]
def r10 : List Row := [(0, .aload_n 0, 1, 0), (1, .getfield 68, 3, 5), (4, .iconst 1, 1, 0), (5, .if_icmp .eq 5, 3, 0), (8, .iconst (-1), 1, 0), (9, .ireturn, 1, 0), (10, .iload_n 1, 1, 0), (11, .ifCond .lt 11, 3, 0), (14, .iload_n 1, 1, 0), (15, .aload_n 0, 1, 0), (16, .getfield 33, 3, 0), (19, .if_icmp .lt 5, 3, 0), (22, .iconst (-1), 1, 0), (23, .ireturn, 1, 0), (24, .aload_n 0, 1, 0), (25, .getfield 16, 3, 6), (28, .iload_n 1, 1, 0), (29, .baload, 1, 0), (30, .ireturn, 1, 0)]
def r11 : List Row := [(0, .aload_n 0, 1, 0), (1, .getfield 68, 3, 5), (4, .iconst 2, 1, 0), (5, .if_icmp .eq 5, 3, 0), (8, .iconst (-1), 1, 0), (9, .ireturn, 1, 0), (10, .aload_n 0, 1, 0), (11, .getfield 65, 3, 9), (14, .ireturn, 1, 0)]
def r12 : List Row := [(0, .aload_n 0, 1, 0), (1, .getfield 68, 3, 5), (4, .iconst 2, 1, 0), (5, .if_icmp .eq 5, 3, 0), (8, .iconst 0, 1, 0), (9, .ireturn, 1, 0), (10, .aload_n 0, 1, 0), (11, .getfield 74, 3, 8), (14, .ireturn, 1, 0)]
def r13 : List Row := [(0, .aload_n 0, 1, 0), (1, .getfield 68, 3, 5), (4, .iconst 2, 1, 0), (5, .if_icmp .eq 5, 3, 0), (8, .iconst (-1), 1, 0), (9, .ireturn, 1, 0), (10, .iload_n 1, 1, 0), (11, .ifCond .lt 11, 3, 0), (14, .iload_n 1, 1, 0), (15, .aload_n 0, 1, 0), (16, .getfield 74, 3, 8), (19, .if_icmp .lt 5, 3, 0), (22, .iconst (-1), 1, 0), (23, .ireturn, 1, 0), (24, .aload_n 0, 1, 0), (25, .getfield 19, 3, 7), (28, .iload_n 1, 1, 0), (29, .baload, 1, 0), (30, .ireturn, 1, 0)]
def r14 : List Row := [(0, .aload_n 0, 1, 0), (1, .iload_n 1, 1, 0), (2, .invokevirtual 50, 3, 18), (5, .ifCond .eq 11, 3, 0), (8, .aload_n 0, 1, 0), (9, .iload_n 2, 1, 0), (10, .invokevirtual 50, 3, 18), (13, .ifCond .ne 5, 3, 0), (16, .iconst 0, 1, 0), (17, .ireturn, 1, 0), (18, .aload_n 0, 1, 0), (19, .invokevirtual 54, 3, 20), (22, .aload_n 0, 1, 0), (23, .iload_n 1, 1, 0), (24, .iload_n 2, 1, 0), (25, .invokevirtual 77, 3, 23), (28, .ireturn, 1, 0)]
def r15 : List Row := [(0, .aload_n 0, 1, 0), (1, .iload_n 1, 1, 0), (2, .invokevirtual 50, 3, 18), (5, .ifCond .eq 11, 3, 0), (8, .aload_n 0, 1, 0), (9, .iload_n 2, 1, 0), (10, .invokevirtual 50, 3, 18), (13, .ifCond .ne 5, 3, 0), (16, .iconst 0, 1, 0), (17, .ireturn, 1, 0), (18, .aload_n 0, 1, 0), (19, .invokevirtual 54, 3, 20), (22, .aload_n 0, 1, 0), (23, .iload_n 1, 1, 0), (24, .iload_n 2, 1, 0), (25, .invokevirtual 81, 3, 24), (28, .ireturn, 1, 0)]
def r16 : List Row := [(0, .aload_n 0, 1, 0), (1, .invokevirtual 54, 3, 20), (4, .aload_n 0, 1, 0), (5, .invokevirtual 84, 3, 17), (8, .istore_n 1, 1, 0), (9, .iconst 0, 1, 0), (10, .istore_n 2, 1, 0), (11, .iconst 0, 1, 0), (12, .istore_n 3, 1, 0), (13, .iload_n 3, 1, 0), (14, .iload_n 1, 1, 0), (15, .if_icmp .ge 20, 3, 0), (18, .aload_n 0, 1, 0), (19, .iload_n 3, 1, 0), (20, .invokevirtual 87, 3, 25), (23, .ifCond .eq 6, 3, 0), (26, .iinc 2 1, 3, 0), (29, .iinc 3 1, 3, 0), (32, .goto (-19), 3, 0), (35, .iload_n 2, 1, 0), (36, .ireturn, 1, 0)]
def r17 : List Row := [(0, .iconst 2, 1, 0), (1, .aload_n 0, 1, 0), (2, .getfield 33, 3, 0), (5, .imul, 1, 0), (6, .ireturn, 1, 0)]
def r18 : List Row := [(0, .iload_n 1, 1, 0), (1, .ifCond .lt 17, 3, 0), (4, .iload_n 1, 1, 0), (5, .iconst 2, 1, 0), (6, .aload_n 0, 1, 0), (7, .getfield 33, 3, 0), (10, .imul, 1, 0), (11, .if_icmp .ge 7, 3, 0), (14, .iconst 1, 1, 0), (15, .goto 4, 3, 0), (18, .iconst 0, 1, 0), (19, .ireturn, 1, 0)]
def r19 : List Row := [(0, .aload_n 0, 1, 0), (1, .iconst 0, 1, 0), (2, .putfield 68, 3, 5), (5, .aload_n 0, 1, 0), (6, .iconst 0, 1, 0), (7, .putfield 74, 3, 8), (10, .aload_n 0, 1, 0), (11, .iconst (-1), 1, 0), (12, .putfield 65, 3, 9), (15, .return_, 1, 0)]
def r20 : List Row := [(0, .aload_n 0, 1, 0), (1, .getfield 43, 3, 13), (4, .ifCond .eq 4, 3, 0), (7, .return_, 1, 0), (8, .aload_n 0, 1, 0), (9, .invokevirtual 90, 3, 21), (12, .aload_n 0, 1, 0), (13, .invokevirtual 93, 3, 22), (16, .aload_n 0, 1, 0), (17, .iconst 1, 1, 0), (18, .putfield 43, 3, 13), (21, .return_, 1, 0)]
def r21 : List Row := [(0, .iconst 0, 1, 0), (1, .istore_n 1, 1, 0), (2, .iload_n 1, 1, 0), (3, .bipush 64, 2, 0), (5, .if_icmp .ge 16, 3, 0), (8, .aload_n 0, 1, 0), (9, .getfield 22, 3, 10), (12, .iload_n 1, 1, 0), (13, .lconst 0, 1, 0), (14, .lastore, 1, 0), (15, .iinc 1 1, 3, 0), (18, .goto (-16), 3, 0), (21, .iconst 0, 1, 0), (22, .istore_n 1, 1, 0), (23, .iload_n 1, 1, 0), (24, .aload_n 0, 1, 0), (25, .getfield 40, 3, 2), (28, .if_icmp .ge 63, 3, 0), (31, .iload_n 1, 1, 0), (32, .bipush 64, 2, 0), (34, .if_icmp .ge 57, 3, 0), (37, .aload_n 0, 1, 0), (38, .getfield 7, 3, 3), (41, .iload_n 1, 1, 0), (42, .baload, 1, 0), (43, .bipush 63, 2, 0), (45, .iand, 1, 0), (46, .istore_n 2, 1, 0), (47, .aload_n 0, 1, 0), (48, .getfield 13, 3, 4), (51, .iload_n 1, 1, 0), (52, .baload, 1, 0), (53, .bipush 63, 2, 0), (55, .iand, 1, 0), (56, .istore_n 3, 1, 0), (57, .aload_n 0, 1, 0), (58, .getfield 22, 3, 10), (61, .iload_n 2, 1, 0), (62, .iconst 1, 1, 0), (63, .ixor, 1, 0), (64, .dup2, 1, 0), (65, .laload, 1, 0), (66, .lconst 1, 1, 0), (67, .iload_n 3, 1, 0), (68, .lshl, 1, 0), (69, .lor, 1, 0), (70, .lastore, 1, 0), (71, .aload_n 0, 1, 0), (72, .getfield 22, 3, 10), (75, .iload_n 3, 1, 0), (76, .iconst 1, 1, 0), (77, .ixor, 1, 0), (78, .dup2, 1, 0), (79, .laload, 1, 0), (80, .lconst 1, 1, 0), (81, .iload_n 2, 1, 0), (82, .lshl, 1, 0), (83, .lor, 1, 0), (84, .lastore, 1, 0), (85, .iinc 1 1, 3, 0), (88, .goto (-65), 3, 0), (91, .return_, 1, 0)]
def r22 : List Row := [(0, .aload_n 0, 1, 0), (1, .invokevirtual 84, 3, 17), (4, .istore_n 1, 1, 0), (5, .iconst 0, 1, 0), (6, .istore_n 2, 1, 0), (7, .iload_n 2, 1, 0), (8, .bipush 64, 2, 0), (10, .if_icmp .ge 21, 3, 0), (13, .aload_n 0, 1, 0), (14, .getfield 26, 3, 11), (17, .iload_n 2, 1, 0), (18, .aload_n 0, 1, 0), (19, .getfield 22, 3, 10), (22, .iload_n 2, 1, 0), (23, .laload, 1, 0), (24, .lastore, 1, 0), (25, .iinc 2 1, 3, 0), (28, .goto (-21), 3, 0), (31, .iconst 0, 1, 0), (32, .istore_n 2, 1, 0), (33, .iload_n 2, 1, 0), (34, .iload_n 1, 1, 0), (35, .if_icmp .ge 58, 3, 0), (38, .lconst 1, 1, 0), (39, .iload_n 2, 1, 0), (40, .lshl, 1, 0), (41, .lstore_n 3, 1, 0), (42, .iconst 0, 1, 0), (43, .istore 5, 2, 0), (45, .iload 5, 2, 0), (47, .iload_n 1, 1, 0), (48, .if_icmp .ge 39, 3, 0), (51, .aload_n 0, 1, 0), (52, .getfield 26, 3, 11), (55, .iload 5, 2, 0), (57, .laload, 1, 0), (58, .lload_n 3, 1, 0), (59, .land, 1, 0), (60, .lconst 0, 1, 0), (61, .lcmp, 1, 0), (62, .ifCond .eq 19, 3, 0), (65, .aload_n 0, 1, 0), (66, .getfield 26, 3, 11), (69, .iload 5, 2, 0), (71, .dup2, 1, 0), (72, .laload, 1, 0), (73, .aload_n 0, 1, 0), (74, .getfield 26, 3, 11), (77, .iload_n 2, 1, 0), (78, .laload, 1, 0), (79, .lor, 1, 0), (80, .lastore, 1, 0), (81, .iinc 5 1, 3, 0), (84, .goto (-39), 3, 0), (87, .iinc 2 1, 3, 0), (90, .goto (-57), 3, 0), (93, .return_, 1, 0)]
def r23 : List Row := [(0, .aload_n 0, 1, 0), (1, .getfield 26, 3, 11), (4, .iload_n 1, 1, 0), (5, .laload, 1, 0), (6, .iload_n 2, 1, 0), (7, .lushr, 1, 0), (8, .lconst 1, 1, 0), (9, .land, 1, 0), (10, .lconst 0, 1, 0), (11, .lcmp, 1, 0), (12, .ifCond .eq 7, 3, 0), (15, .iconst 1, 1, 0), (16, .goto 4, 3, 0), (19, .iconst 0, 1, 0), (20, .ireturn, 1, 0)]
def r24 : List Row := [(0, .iload_n 1, 1, 0), (1, .iload_n 2, 1, 0), (2, .if_icmp .ne 5, 3, 0), (5, .iconst 1, 1, 0), (6, .ireturn, 1, 0), (7, .aload_n 0, 1, 0), (8, .iload_n 1, 1, 0), (9, .iload_n 2, 1, 0), (10, .invokevirtual 77, 3, 23), (13, .ifCond .ne 5, 3, 0), (16, .iconst 0, 1, 0), (17, .ireturn, 1, 0), (18, .aload_n 0, 1, 0), (19, .iload_n 2, 1, 0), (20, .iload_n 1, 1, 0), (21, .invokevirtual 77, 3, 23), (24, .ireturn, 1, 0)]
def r25 : List Row := [(0, .iconst 0, 1, 0), (1, .istore_n 2, 1, 0), (2, .iload_n 2, 1, 0), (3, .iload_n 1, 1, 0), (4, .if_icmp .ge 26, 3, 0), (7, .iload_n 2, 1, 0), (8, .bipush 64, 2, 0), (10, .if_icmp .ge 20, 3, 0), (13, .aload_n 0, 1, 0), (14, .iload_n 2, 1, 0), (15, .iload_n 1, 1, 0), (16, .invokevirtual 81, 3, 24), (19, .ifCond .eq 5, 3, 0), (22, .iconst 0, 1, 0), (23, .ireturn, 1, 0), (24, .iinc 2 1, 3, 0), (27, .goto (-25), 3, 0), (30, .iconst 1, 1, 0), (31, .ireturn, 1, 0)]
def r26 : List Row := [(0, .iconst 0, 1, 0), (1, .istore_n 1, 1, 0), (2, .iload_n 1, 1, 0), (3, .aload_n 0, 1, 0), (4, .getfield 33, 3, 0), (7, .if_icmp .ge 26, 3, 0), (10, .aload_n 0, 1, 0), (11, .iconst 2, 1, 0), (12, .iload_n 1, 1, 0), (13, .imul, 1, 0), (14, .iconst 2, 1, 0), (15, .iload_n 1, 1, 0), (16, .imul, 1, 0), (17, .iconst 1, 1, 0), (18, .iadd, 1, 0), (19, .invokevirtual 81, 3, 24), (22, .ifCond .eq 5, 3, 0), (25, .iload_n 1, 1, 0), (26, .ireturn, 1, 0), (27, .iinc 1 1, 3, 0), (30, .goto (-28), 3, 0), (33, .iconst (-1), 1, 0), (34, .ireturn, 1, 0)]
def r27 : List Row := [(0, .lconst 1, 1, 0), (1, .iload_n 1, 1, 0), (2, .lshl, 1, 0), (3, .aload_n 0, 1, 0), (4, .getfield 26, 3, 11), (7, .iload_n 1, 1, 0), (8, .laload, 1, 0), (9, .lor, 1, 0), (10, .lreturn, 1, 0)]
def r28 : List Row := [(0, .lload_n 1, 1, 0), (1, .lload_n 1, 1, 0), (2, .iconst 1, 1, 0), (3, .lushr, 1, 0), (4, .land, 1, 0), (5, .ldc2_w 96, 3, 6148914691236517205), (8, .land, 1, 0), (9, .lconst 0, 1, 0), (10, .lcmp, 1, 0), (11, .ifCond .ne 7, 3, 0), (14, .iconst 1, 1, 0), (15, .goto 4, 3, 0), (18, .iconst 0, 1, 0), (19, .ireturn, 1, 0)]
def r29 : List Row := [(0, .lconst 0, 1, 0), (1, .lstore_n 1, 1, 0), (2, .iconst 0, 1, 0), (3, .istore_n 3, 1, 0), (4, .iload_n 3, 1, 0), (5, .aload_n 0, 1, 0), (6, .getfield 33, 3, 0), (9, .if_icmp .ge 100, 3, 0), (12, .iconst 2, 1, 0), (13, .iload_n 3, 1, 0), (14, .imul, 1, 0), (15, .istore 4, 2, 0), (17, .lconst 1, 1, 0), (18, .iload 4, 2, 0), (20, .lshl, 1, 0), (21, .lconst 1, 1, 0), (22, .iload 4, 2, 0), (24, .iconst 1, 1, 0), (25, .iadd, 1, 0), (26, .lshl, 1, 0), (27, .lor, 1, 0), (28, .lstore 5, 2, 0), (30, .lload_n 1, 1, 0), (31, .lload 5, 2, 0), (33, .land, 1, 0), (34, .lconst 0, 1, 0), (35, .lcmp, 1, 0), (36, .ifCond .ne 39, 3, 0), (39, .lload_n 1, 1, 0), (40, .aload_n 0, 1, 0), (41, .iload 4, 2, 0), (43, .iconst 1, 1, 0), (44, .iadd, 1, 0), (45, .invokevirtual 98, 3, 27), (48, .lor, 1, 0), (49, .lstore 7, 2, 0), (51, .aload_n 0, 1, 0), (52, .lload 7, 2, 0), (54, .invokevirtual 102, 3, 28), (57, .ifCond .eq 9, 3, 0), (60, .lload 7, 2, 0), (62, .lstore_n 1, 1, 0), (63, .goto 12, 3, 0), (66, .lload_n 1, 1, 0), (67, .aload_n 0, 1, 0), (68, .iload 4, 2, 0), (70, .invokevirtual 98, 3, 27), (73, .lor, 1, 0), (74, .lstore_n 1, 1, 0), (75, .lload_n 1, 1, 0), (76, .iload 4, 2, 0), (78, .lushr, 1, 0), (79, .lconst 1, 1, 0), (80, .land, 1, 0), (81, .lconst 0, 1, 0), (82, .lcmp, 1, 0), (83, .ifCond .eq 13, 3, 0), (86, .aload_n 0, 1, 0), (87, .getfield 16, 3, 6), (90, .iload_n 3, 1, 0), (91, .iconst 1, 1, 0), (92, .bastore, 1, 0), (93, .goto 10, 3, 0), (96, .aload_n 0, 1, 0), (97, .getfield 16, 3, 6), (100, .iload_n 3, 1, 0), (101, .iconst 0, 1, 0), (102, .bastore, 1, 0), (103, .iinc 3 1, 3, 0), (106, .goto (-102), 3, 0), (109, .return_, 1, 0)]
def r30 : List Row := [(0, .iconst 2, 1, 0), (1, .iload_n 1, 1, 0), (2, .imul, 1, 0), (3, .istore_n 2, 1, 0), (4, .iload_n 2, 1, 0), (5, .iconst 1, 1, 0), (6, .iadd, 1, 0), (7, .istore_n 3, 1, 0), (8, .aload_n 0, 1, 0), (9, .iconst 0, 1, 0), (10, .putfield 74, 3, 8), (13, .aload_n 0, 1, 0), (14, .iload_n 3, 1, 0), (15, .invokevirtual 106, 3, 31), (18, .aload_n 0, 1, 0), (19, .iload_n 2, 1, 0), (20, .iload_n 3, 1, 0), (21, .iconst 1, 1, 0), (22, .invokevirtual 109, 3, 32), (25, .aload_n 0, 1, 0), (26, .iload_n 2, 1, 0), (27, .invokevirtual 106, 3, 31), (30, .aload_n 0, 1, 0), (31, .iload_n 3, 1, 0), (32, .iload_n 2, 1, 0), (33, .iconst 0, 1, 0), (34, .invokevirtual 109, 3, 32), (37, .return_, 1, 0)]
def r31 : List Row := [(0, .aload_n 0, 1, 0), (1, .invokevirtual 84, 3, 17), (4, .istore_n 2, 1, 0), (5, .iconst 0, 1, 0), (6, .istore_n 3, 1, 0), (7, .iload_n 3, 1, 0), (8, .bipush 64, 2, 0), (10, .if_icmp .ge 16, 3, 0), (13, .aload_n 0, 1, 0), (14, .getfield 29, 3, 12), (17, .iload_n 3, 1, 0), (18, .iconst (-1), 1, 0), (19, .iastore, 1, 0), (20, .iinc 3 1, 3, 0), (23, .goto (-16), 3, 0), (26, .aload_n 0, 1, 0), (27, .getfield 29, 3, 12), (30, .iload_n 1, 1, 0), (31, .iconst 0, 1, 0), (32, .iastore, 1, 0), (33, .lconst 1, 1, 0), (34, .iload_n 1, 1, 0), (35, .lshl, 1, 0), (36, .lstore_n 3, 1, 0), (37, .lload_n 3, 1, 0), (38, .lstore 5, 2, 0), (40, .iconst 1, 1, 0), (41, .istore 7, 2, 0), (43, .iload 7, 2, 0), (45, .iload_n 2, 1, 0), (46, .if_icmp .gt 87, 3, 0), (49, .lload_n 3, 1, 0), (50, .lconst 0, 1, 0), (51, .lcmp, 1, 0), (52, .ifCond .eq 81, 3, 0), (55, .lconst 0, 1, 0), (56, .lstore 8, 2, 0), (58, .iconst 0, 1, 0), (59, .istore 10, 2, 0), (61, .iload 10, 2, 0), (63, .iload_n 2, 1, 0), (64, .if_icmp .ge 53, 3, 0), (67, .lload 5, 2, 0), (69, .iload 10, 2, 0), (71, .lushr, 1, 0), (72, .lconst 1, 1, 0), (73, .land, 1, 0), (74, .lconst 0, 1, 0), (75, .lcmp, 1, 0), (76, .ifCond .ne 35, 3, 0), (79, .aload_n 0, 1, 0), (80, .getfield 22, 3, 10), (83, .iload 10, 2, 0), (85, .laload, 1, 0), (86, .lload_n 3, 1, 0), (87, .land, 1, 0), (88, .lconst 0, 1, 0), (89, .lcmp, 1, 0), (90, .ifCond .eq 21, 3, 0), (93, .aload_n 0, 1, 0), (94, .getfield 29, 3, 12), (97, .iload 10, 2, 0), (99, .iload 7, 2, 0), (101, .iastore, 1, 0), (102, .lload 8, 2, 0), (104, .lconst 1, 1, 0), (105, .iload 10, 2, 0), (107, .lshl, 1, 0), (108, .lor, 1, 0), (109, .lstore 8, 2, 0), (111, .iinc 10 1, 3, 0), (114, .goto (-53), 3, 0), (117, .lload 5, 2, 0), (119, .lload 8, 2, 0), (121, .lor, 1, 0), (122, .lstore 5, 2, 0), (124, .lload 8, 2, 0), (126, .lstore_n 3, 1, 0), (127, .iinc 7 1, 3, 0), (130, .goto (-87), 3, 0), (133, .return_, 1, 0)]
def r32 : List Row := [(0, .aload_n 0, 1, 0), (1, .invokevirtual 84, 3, 17), (4, .istore 4, 2, 0), (6, .iload_n 1, 1, 0), (7, .istore 5, 2, 0), (9, .iload_n 3, 1, 0), (10, .ifCond .eq 9, 3, 0), (13, .aload_n 0, 1, 0), (14, .iload 5, 2, 0), (16, .invokevirtual 113, 3, 34), (19, .iconst 0, 1, 0), (20, .istore 6, 2, 0), (22, .iload 6, 2, 0), (24, .iload 4, 2, 0), (26, .if_icmp .ge 39, 3, 0), (29, .iload 5, 2, 0), (31, .iload_n 2, 1, 0), (32, .if_icmp .eq 33, 3, 0), (35, .aload_n 0, 1, 0), (36, .iload 5, 2, 0), (38, .invokevirtual 116, 3, 33), (41, .istore 7, 2, 0), (43, .iload 7, 2, 0), (45, .ifCond .ge 4, 3, 0), (48, .return_, 1, 0), (49, .iload 7, 2, 0), (51, .istore 5, 2, 0), (53, .aload_n 0, 1, 0), (54, .iload 5, 2, 0), (56, .invokevirtual 113, 3, 34), (59, .iinc 6 1, 3, 0), (62, .goto (-40), 3, 0), (65, .return_, 1, 0)]
def r33 : List Row := [(0, .aload_n 0, 1, 0), (1, .getfield 29, 3, 12), (4, .iload_n 1, 1, 0), (5, .iaload, 1, 0), (6, .iconst 1, 1, 0), (7, .isub, 1, 0), (8, .istore_n 2, 1, 0), (9, .iload_n 2, 1, 0), (10, .ifCond .ge 5, 3, 0), (13, .iconst (-1), 1, 0), (14, .ireturn, 1, 0), (15, .aload_n 0, 1, 0), (16, .invokevirtual 84, 3, 17), (19, .istore_n 3, 1, 0), (20, .aload_n 0, 1, 0), (21, .getfield 22, 3, 10), (24, .iload_n 1, 1, 0), (25, .laload, 1, 0), (26, .lstore 4, 2, 0), (28, .iconst 0, 1, 0), (29, .istore 6, 2, 0), (31, .iload 6, 2, 0), (33, .iload_n 3, 1, 0), (34, .if_icmp .ge 35, 3, 0), (37, .lload 4, 2, 0), (39, .iload 6, 2, 0), (41, .lushr, 1, 0), (42, .lconst 1, 1, 0), (43, .land, 1, 0), (44, .lconst 0, 1, 0), (45, .lcmp, 1, 0), (46, .ifCond .eq 17, 3, 0), (49, .aload_n 0, 1, 0), (50, .getfield 29, 3, 12), (53, .iload 6, 2, 0), (55, .iaload, 1, 0), (56, .iload_n 2, 1, 0), (57, .if_icmp .ne 6, 3, 0), (60, .iload 6, 2, 0), (62, .ireturn, 1, 0), (63, .iinc 6 1, 3, 0), (66, .goto (-35), 3, 0), (69, .iconst (-1), 1, 0), (70, .ireturn, 1, 0)]
def r34 : List Row := [(0, .aload_n 0, 1, 0), (1, .getfield 74, 3, 8), (4, .sipush 128, 3, 0), (7, .if_icmp .ge 24, 3, 0), (10, .aload_n 0, 1, 0), (11, .getfield 19, 3, 7), (14, .aload_n 0, 1, 0), (15, .getfield 74, 3, 8), (18, .iload_n 1, 1, 0), (19, .i2b, 1, 0), (20, .bastore, 1, 0), (21, .aload_n 0, 1, 0), (22, .dup, 1, 0), (23, .getfield 74, 3, 8), (26, .iconst 1, 1, 0), (27, .iadd, 1, 0), (28, .putfield 74, 3, 8), (31, .return_, 1, 0)]
def prows : List (List Row) := [[], r1, r2, r3, r4, r5, r6, r7, r8, r9, r10, r11, r12, r13, r14, r15, r16, r17, r18, r19, r20, r21, r22, r23, r24, r25, r26, r27, r28, r29, r30, r31, r32, r33, r34]
def pinfo : List MInfo := [(0, 0, 9, none, {}), (3, 5, 3, none, { frames := 1, cells := 7, slots := 480, locals := 12 }), (1, 1, 1, some .int, { frames := 0, cells := 0, slots := 0, locals := 0 }), (1, 1, 1, some .int, { frames := 0, cells := 0, slots := 0, locals := 0 }), (1, 1, 1, some .int, { frames := 0, cells := 0, slots := 0, locals := 0 }), (3, 3, 1, some .int, { frames := 1, cells := 0, slots := 0, locals := 13 }), (1, 1, 1, some .int, { frames := 1, cells := 0, slots := 0, locals := 12 }), (3, 3, 1, some .int, { frames := 0, cells := 0, slots := 0, locals := 0 }), (1, 2, 1, some .int, { frames := 4, cells := 0, slots := 0, locals := 64 }), (1, 1, 1, some .int, { frames := 0, cells := 0, slots := 0, locals := 0 }), (2, 2, 1, some .int, { frames := 0, cells := 0, slots := 0, locals := 0 }), (1, 1, 1, some .int, { frames := 0, cells := 0, slots := 0, locals := 0 }), (1, 1, 1, some .int, { frames := 0, cells := 0, slots := 0, locals := 0 }), (2, 2, 1, some .int, { frames := 0, cells := 0, slots := 0, locals := 0 }), (3, 3, 1, some .boolean, { frames := 3, cells := 0, slots := 0, locals := 41 }), (3, 3, 1, some .boolean, { frames := 3, cells := 0, slots := 0, locals := 41 }), (1, 4, 1, some .int, { frames := 3, cells := 0, slots := 0, locals := 42 }), (1, 1, 2, some .int, { frames := 0, cells := 0, slots := 0, locals := 0 }), (2, 2, 2, some .boolean, { frames := 0, cells := 0, slots := 0, locals := 0 }), (1, 1, 2, none, { frames := 0, cells := 0, slots := 0, locals := 0 }), (1, 1, 2, none, { frames := 2, cells := 0, slots := 0, locals := 29 }), (1, 4, 2, none, { frames := 0, cells := 0, slots := 0, locals := 0 }), (1, 6, 2, none, { frames := 1, cells := 0, slots := 0, locals := 12 }), (3, 3, 2, some .boolean, { frames := 0, cells := 0, slots := 0, locals := 0 }), (3, 3, 2, some .boolean, { frames := 1, cells := 0, slots := 0, locals := 14 }), (2, 3, 2, some .boolean, { frames := 2, cells := 0, slots := 0, locals := 28 }), (1, 2, 2, some .int, { frames := 2, cells := 0, slots := 0, locals := 28 }), (2, 2, 2, some .long, { frames := 0, cells := 0, slots := 0, locals := 0 }), (2, 3, 2, some .boolean, { frames := 0, cells := 0, slots := 0, locals := 0 }), (1, 9, 2, none, { frames := 1, cells := 0, slots := 0, locals := 15 }), (2, 4, 2, none, { frames := 3, cells := 0, slots := 0, locals := 49 }), (2, 11, 2, none, { frames := 1, cells := 0, slots := 0, locals := 12 }), (4, 8, 2, none, { frames := 2, cells := 0, slots := 0, locals := 30 }), (2, 7, 2, some .int, { frames := 1, cells := 0, slots := 0, locals := 12 }), (2, 2, 2, none, { frames := 0, cells := 0, slots := 0, locals := 0 })]
def pft : List FieldType := [.int, .int, .int, .array .byte, .array .byte, .int, .array .byte, .array .byte, .int, .int, .array .long, .array .long, .array .int, .boolean]
def pj (lw : LW) : Prog := (fun m pc => if m < 100 then (prows.getD m []).lookup pc else lw.1 (m - 100) pc, fun m => if m < 100 then pinfo.getD m (0, 0, 9, none, {}) else lw.2 (m - 100), fun k => pft.getD k .int, 14)
def lay : Lay := ([(.int, 0), (.int, 0), (.int, 0), (.array .byte, 1), (.array .byte, 2), (.int, 0), (.array .byte, 3), (.array .byte, 4), (.int, 0), (.int, 0), (.array .long, 5), (.array .long, 6), (.array .int, 7), (.boolean, 0)], [(.byte, 64), (.byte, 64), (.byte, 32), (.byte, 128), (.long, 64), (.long, 64), (.int, 64)])
abbrev ob (H : AH) (p : Nat) (s : St) : AH := put lay 7 H p s
section Acc
variable {H : AH} {p : Nat} {s : St} {i : Int32} {j q : Nat} {v : Int32} {w : Int64}
theorem g0 : fld (put lay j H p s) p 0 = .int (sI s 0) := fld_I (ty := .int) rfl (by decide) (by simp)
theorem s0 : wr (put lay j H p s) p 0 (.int v) = put lay j H p (uI s 0 v) := wr_I (ty := .int) rfl (by decide) (by simp)
theorem g1 : fld (put lay j H p s) p 1 = .int (sI s 1) := fld_I (ty := .int) rfl (by decide) (by simp)
theorem s1 : wr (put lay j H p s) p 1 (.int v) = put lay j H p (uI s 1 v) := wr_I (ty := .int) rfl (by decide) (by simp)
theorem g2 : fld (put lay j H p s) p 2 = .int (sI s 2) := fld_I (ty := .int) rfl (by decide) (by simp)
theorem s2 : wr (put lay j H p s) p 2 (.int v) = put lay j H p (uI s 2 v) := wr_I (ty := .int) rfl (by decide) (by simp)
theorem g3 : fld (ob H p s) p 3 = .ref (p + 1) := fld_R (ty := .byte) rfl (by decide)
theorem g4 : fld (ob H p s) p 4 = .ref (p + 2) := fld_R (ty := .byte) rfl (by decide)
theorem g5 : fld (put lay j H p s) p 5 = .int (sI s 5) := fld_I (ty := .int) rfl (by decide) (by simp)
theorem s5 : wr (put lay j H p s) p 5 (.int v) = put lay j H p (uI s 5 v) := wr_I (ty := .int) rfl (by decide) (by simp)
theorem g6 : fld (ob H p s) p 6 = .ref (p + 3) := fld_R (ty := .byte) rfl (by decide)
theorem g7 : fld (ob H p s) p 7 = .ref (p + 4) := fld_R (ty := .byte) rfl (by decide)
theorem g8 : fld (put lay j H p s) p 8 = .int (sI s 8) := fld_I (ty := .int) rfl (by decide) (by simp)
theorem s8 : wr (put lay j H p s) p 8 (.int v) = put lay j H p (uI s 8 v) := wr_I (ty := .int) rfl (by decide) (by simp)
theorem g9 : fld (put lay j H p s) p 9 = .int (sI s 9) := fld_I (ty := .int) rfl (by decide) (by simp)
theorem s9 : wr (put lay j H p s) p 9 (.int v) = put lay j H p (uI s 9 v) := wr_I (ty := .int) rfl (by decide) (by simp)
theorem g10 : fld (ob H p s) p 10 = .ref (p + 5) := fld_R (ty := .long) rfl (by decide)
theorem g11 : fld (ob H p s) p 11 = .ref (p + 6) := fld_R (ty := .long) rfl (by decide)
theorem g12 : fld (ob H p s) p 12 = .ref (p + 7) := fld_R (ty := .int) rfl (by decide)
theorem g13 : fld (put lay j H p s) p 13 = .int (sI s 13) := fld_I (ty := .boolean) rfl (by decide) (by simp)
theorem s13 : wr (put lay j H p s) p 13 (.int v) = put lay j H p (uI s 13 v) := wr_I (ty := .boolean) rfl (by decide) (by simp)
theorem ai1 : inA (ob H p s) (p + 1) .byte i = true ↔ (0 ≤ i.toInt ∧ i.toInt < 64) := inA_I (t := 0) rfl (by decide) (by decide)
theorem aw1 : inAw (ob H p s) (p + 1) .byte i = true ↔ (0 ≤ i.toInt ∧ i.toInt < 64) := inAw_I (t := 0) rfl (by decide) (by decide)
theorem ain1 : inA (ob H p s) (p + 1) .boolean i = true ↔ False := inA_no (t := 0) (ty := .byte) rfl (by decide) (by decide) (by decide)
theorem awn1 : inAw (ob H p s) (p + 1) .boolean i = true ↔ False := inAw_no (t := 0) (ty := .byte) rfl (by decide) (by decide) (by decide)
theorem ae1 : elt (ob H p s) (p + 1) i = .int (sA s 1 i.toNatClampNeg) := elt_I (t := 0) (ty := .byte) rfl (by decide) (by decide)
theorem as1 : wr (ob H p s) (p + 1) q (.int v) = ob H p (uA s 1 q v) := wr_A (t := 0) (ty := .byte) rfl (by decide) (by decide)
theorem ai2 : inA (ob H p s) (p + 2) .byte i = true ↔ (0 ≤ i.toInt ∧ i.toInt < 64) := inA_I (t := 1) rfl (by decide) (by decide)
theorem aw2 : inAw (ob H p s) (p + 2) .byte i = true ↔ (0 ≤ i.toInt ∧ i.toInt < 64) := inAw_I (t := 1) rfl (by decide) (by decide)
theorem ain2 : inA (ob H p s) (p + 2) .boolean i = true ↔ False := inA_no (t := 1) (ty := .byte) rfl (by decide) (by decide) (by decide)
theorem awn2 : inAw (ob H p s) (p + 2) .boolean i = true ↔ False := inAw_no (t := 1) (ty := .byte) rfl (by decide) (by decide) (by decide)
theorem ae2 : elt (ob H p s) (p + 2) i = .int (sA s 2 i.toNatClampNeg) := elt_I (t := 1) (ty := .byte) rfl (by decide) (by decide)
theorem as2 : wr (ob H p s) (p + 2) q (.int v) = ob H p (uA s 2 q v) := wr_A (t := 1) (ty := .byte) rfl (by decide) (by decide)
theorem ai3 : inA (ob H p s) (p + 3) .byte i = true ↔ (0 ≤ i.toInt ∧ i.toInt < 32) := inA_I (t := 2) rfl (by decide) (by decide)
theorem aw3 : inAw (ob H p s) (p + 3) .byte i = true ↔ (0 ≤ i.toInt ∧ i.toInt < 32) := inAw_I (t := 2) rfl (by decide) (by decide)
theorem ain3 : inA (ob H p s) (p + 3) .boolean i = true ↔ False := inA_no (t := 2) (ty := .byte) rfl (by decide) (by decide) (by decide)
theorem awn3 : inAw (ob H p s) (p + 3) .boolean i = true ↔ False := inAw_no (t := 2) (ty := .byte) rfl (by decide) (by decide) (by decide)
theorem ae3 : elt (ob H p s) (p + 3) i = .int (sA s 3 i.toNatClampNeg) := elt_I (t := 2) (ty := .byte) rfl (by decide) (by decide)
theorem as3 : wr (ob H p s) (p + 3) q (.int v) = ob H p (uA s 3 q v) := wr_A (t := 2) (ty := .byte) rfl (by decide) (by decide)
theorem ai4 : inA (ob H p s) (p + 4) .byte i = true ↔ (0 ≤ i.toInt ∧ i.toInt < 128) := inA_I (t := 3) rfl (by decide) (by decide)
theorem aw4 : inAw (ob H p s) (p + 4) .byte i = true ↔ (0 ≤ i.toInt ∧ i.toInt < 128) := inAw_I (t := 3) rfl (by decide) (by decide)
theorem ain4 : inA (ob H p s) (p + 4) .boolean i = true ↔ False := inA_no (t := 3) (ty := .byte) rfl (by decide) (by decide) (by decide)
theorem awn4 : inAw (ob H p s) (p + 4) .boolean i = true ↔ False := inAw_no (t := 3) (ty := .byte) rfl (by decide) (by decide) (by decide)
theorem ae4 : elt (ob H p s) (p + 4) i = .int (sA s 4 i.toNatClampNeg) := elt_I (t := 3) (ty := .byte) rfl (by decide) (by decide)
theorem as4 : wr (ob H p s) (p + 4) q (.int v) = ob H p (uA s 4 q v) := wr_A (t := 3) (ty := .byte) rfl (by decide) (by decide)
theorem ai5 : inA (ob H p s) (p + 5) .long i = true ↔ (0 ≤ i.toInt ∧ i.toInt < 64) := inA_J (t := 4) rfl (by decide)
theorem aw5 : inAw (ob H p s) (p + 5) .long i = true ↔ (0 ≤ i.toInt ∧ i.toInt < 64) := inAw_J (t := 4) rfl (by decide)
theorem ae5 : elt (ob H p s) (p + 5) i = .long (sB s 5 i.toNatClampNeg) := elt_J (t := 4) rfl (by decide)
theorem as5 : wr (ob H p s) (p + 5) q (.long w) = ob H p (uB s 5 q w) := wr_B (t := 4) rfl (by decide)
theorem ai6 : inA (ob H p s) (p + 6) .long i = true ↔ (0 ≤ i.toInt ∧ i.toInt < 64) := inA_J (t := 5) rfl (by decide)
theorem aw6 : inAw (ob H p s) (p + 6) .long i = true ↔ (0 ≤ i.toInt ∧ i.toInt < 64) := inAw_J (t := 5) rfl (by decide)
theorem ae6 : elt (ob H p s) (p + 6) i = .long (sB s 6 i.toNatClampNeg) := elt_J (t := 5) rfl (by decide)
theorem as6 : wr (ob H p s) (p + 6) q (.long w) = ob H p (uB s 6 q w) := wr_B (t := 5) rfl (by decide)
theorem ai7 : inA (ob H p s) (p + 7) .int i = true ↔ (0 ≤ i.toInt ∧ i.toInt < 64) := inA_I (t := 6) rfl (by decide) (by decide)
theorem aw7 : inAw (ob H p s) (p + 7) .int i = true ↔ (0 ≤ i.toInt ∧ i.toInt < 64) := inAw_I (t := 6) rfl (by decide) (by decide)
theorem ae7 : elt (ob H p s) (p + 7) i = .int (sA s 7 i.toNatClampNeg) := elt_I (t := 6) (ty := .int) rfl (by decide) (by decide)
theorem as7 : wr (ob H p s) (p + 7) q (.int v) = ob H p (uA s 7 q v) := wr_A (t := 6) (ty := .int) rfl (by decide) (by decide)
theorem mkO_ob {lw : LW} : mkO (pj lw) H = put lay 0 (H.1 + 1, H.2) H.1 z0 := mkO_put rfl (fun k => match k with | 0 => rfl | 1 => rfl | 2 => rfl | 3 => rfl | 4 => rfl | 5 => rfl | 6 => rfl | 7 => rfl | 8 => rfl | 9 => rfl | 10 => rfl | 11 => rfl | 12 => rfl | 13 => rfl | (_ + 14) => rfl)
theorem mk1 {h : Nat → Cel} (hz : zr s 1) : wr (mkA .byte 64 (put lay 0 (p + 1, h) p s)) p 3 (.ref (p + 1)) = put lay 1 (p + 2, h) p s := mkA_put (j := 0) rfl rfl (by decide) hz.1 hz.2 (Or.inr (Or.inr (Or.inl rfl)))
theorem io1 {h : Nat → Cel} : isOw (mkA .byte 64 (put lay 0 (p + 1, h) p s)) p = true := isOw_mk (c := 0)
theorem mk2 {h : Nat → Cel} (hz : zr s 2) : wr (mkA .byte 64 (put lay 1 (p + 2, h) p s)) p 4 (.ref (p + 2)) = put lay 2 (p + 3, h) p s := mkA_put (j := 1) rfl rfl (by decide) hz.1 hz.2 (Or.inr (Or.inr (Or.inl rfl)))
theorem io2 {h : Nat → Cel} : isOw (mkA .byte 64 (put lay 1 (p + 2, h) p s)) p = true := isOw_mk (c := 1)
theorem mk3 {h : Nat → Cel} (hz : zr s 3) : wr (mkA .byte 32 (put lay 2 (p + 3, h) p s)) p 6 (.ref (p + 3)) = put lay 3 (p + 4, h) p s := mkA_put (j := 2) rfl rfl (by decide) hz.1 hz.2 (Or.inr (Or.inr (Or.inl rfl)))
theorem io3 {h : Nat → Cel} : isOw (mkA .byte 32 (put lay 2 (p + 3, h) p s)) p = true := isOw_mk (c := 2)
theorem mk4 {h : Nat → Cel} (hz : zr s 4) : wr (mkA .byte 128 (put lay 3 (p + 4, h) p s)) p 7 (.ref (p + 4)) = put lay 4 (p + 5, h) p s := mkA_put (j := 3) rfl rfl (by decide) hz.1 hz.2 (Or.inr (Or.inr (Or.inl rfl)))
theorem io4 {h : Nat → Cel} : isOw (mkA .byte 128 (put lay 3 (p + 4, h) p s)) p = true := isOw_mk (c := 3)
theorem mk5 {h : Nat → Cel} (hz : zr s 5) : wr (mkA .long 64 (put lay 4 (p + 5, h) p s)) p 10 (.ref (p + 5)) = put lay 5 (p + 6, h) p s := mkA_put (j := 4) rfl rfl (by decide) hz.1 hz.2 (Or.inr (Or.inl rfl))
theorem io5 {h : Nat → Cel} : isOw (mkA .long 64 (put lay 4 (p + 5, h) p s)) p = true := isOw_mk (c := 4)
theorem mk6 {h : Nat → Cel} (hz : zr s 6) : wr (mkA .long 64 (put lay 5 (p + 6, h) p s)) p 11 (.ref (p + 6)) = put lay 6 (p + 7, h) p s := mkA_put (j := 5) rfl rfl (by decide) hz.1 hz.2 (Or.inr (Or.inl rfl))
theorem io6 {h : Nat → Cel} : isOw (mkA .long 64 (put lay 5 (p + 6, h) p s)) p = true := isOw_mk (c := 5)
theorem mk7 {h : Nat → Cel} (hz : zr s 7) : wr (mkA .int 64 (put lay 6 (p + 7, h) p s)) p 12 (.ref (p + 7)) = put lay 7 (p + 8, h) p s := mkA_put (j := 6) rfl rfl (by decide) hz.1 hz.2 (Or.inl rfl)
theorem io7 {h : Nat → Cel} : isOw (mkA .int 64 (put lay 6 (p + 7, h) p s)) p = true := isOw_mk (c := 6)
end Acc
section Pc
variable {lw : LW} {L : List Slot} {S : List Value} {k n : Nat} {H : AH} {Q : Option Value → AH → Prop}
theorem c1 {x0 : Nat} {x1 : Int32} {x2 : Int32} : Cl (pj lw) 1 [.ref x0, .int x1, .int x2] H Q ↔ W (pj lw) 1 0 [.val (.ref x0), .val (.int x1), .val (.int x2), .unset, .unset] [] 0 0 H Q := Iff.rfl
theorem w1_0 {x : Nat} : W (pj lw) 1 0 (.val (.ref x) :: L) S k n H Q ↔ W (pj lw) 1 1 (.val (.ref x) :: L) (.ref x :: S) k n H Q := W_s (rfl : (pj lw).1 1 0 = some (.aload_n 0, 1, 0)) rfl rfl rfl
theorem w1_1 {a : Nat} : W (pj lw) 1 1 L (.ref a :: S) k n H Q ↔ ((1 ≤ 1 ∧ cs S + 12 ≤ 12) ∧ W (pj lw) 1 4 L S k n H Q) := W_oinit (rfl : (pj lw).1 1 1 = some (.invokespecial 1, 3, (-1)))
theorem w1_4 {x : Nat} : W (pj lw) 1 4 (.val (.ref x) :: L) S k n H Q ↔ W (pj lw) 1 5 (.val (.ref x) :: L) (.ref x :: S) k n H Q := W_s (rfl : (pj lw).1 1 4 = some (.aload_n 0, 1, 0)) rfl rfl rfl
theorem w1_5 : W (pj lw) 1 5 L S k n H Q ↔ W (pj lw) 1 7 L (.int 64 :: S) k n H Q := W_s (rfl : (pj lw).1 1 5 = some (.bipush 64, 2, 0)) rfl rfl rfl
theorem w1_7 : W (pj lw) 1 7 L (.int 64 :: S) k n H Q ↔ ((k + 1 ≤ 7 ∧ n + 64 ≤ 480) ∧ W (pj lw) 1 9 L (.ref H.1 :: S) (k + 1) (n + 64) (mkA .byte 64 H) Q) := W_newarr' (rfl : (pj lw).1 1 7 = some (.newarray .byte, 2, 0)) rfl (by decide) (by decide)
theorem w1_9 {a : Nat} {v : Value} : W (pj lw) 1 9 L (v :: .ref a :: S) k n H Q ↔ ((isOw H a = true ∧ okv (.array .byte) v = true) ∧ W (pj lw) 1 12 L S k n (wr H a 3 v) Q) := W_putf (rfl : (pj lw).1 1 9 = some (.putfield 7, 3, 3))
theorem w1_12 {x : Nat} : W (pj lw) 1 12 (.val (.ref x) :: L) S k n H Q ↔ W (pj lw) 1 13 (.val (.ref x) :: L) (.ref x :: S) k n H Q := W_s (rfl : (pj lw).1 1 12 = some (.aload_n 0, 1, 0)) rfl rfl rfl
theorem w1_13 : W (pj lw) 1 13 L S k n H Q ↔ W (pj lw) 1 15 L (.int 64 :: S) k n H Q := W_s (rfl : (pj lw).1 1 13 = some (.bipush 64, 2, 0)) rfl rfl rfl
theorem w1_15 : W (pj lw) 1 15 L (.int 64 :: S) k n H Q ↔ ((k + 1 ≤ 7 ∧ n + 64 ≤ 480) ∧ W (pj lw) 1 17 L (.ref H.1 :: S) (k + 1) (n + 64) (mkA .byte 64 H) Q) := W_newarr' (rfl : (pj lw).1 1 15 = some (.newarray .byte, 2, 0)) rfl (by decide) (by decide)
theorem w1_17 {a : Nat} {v : Value} : W (pj lw) 1 17 L (v :: .ref a :: S) k n H Q ↔ ((isOw H a = true ∧ okv (.array .byte) v = true) ∧ W (pj lw) 1 20 L S k n (wr H a 4 v) Q) := W_putf (rfl : (pj lw).1 1 17 = some (.putfield 13, 3, 4))
theorem w1_20 {x : Nat} : W (pj lw) 1 20 (.val (.ref x) :: L) S k n H Q ↔ W (pj lw) 1 21 (.val (.ref x) :: L) (.ref x :: S) k n H Q := W_s (rfl : (pj lw).1 1 20 = some (.aload_n 0, 1, 0)) rfl rfl rfl
theorem w1_21 : W (pj lw) 1 21 L S k n H Q ↔ W (pj lw) 1 23 L (.int 32 :: S) k n H Q := W_s (rfl : (pj lw).1 1 21 = some (.bipush 32, 2, 0)) rfl rfl rfl
theorem w1_23 : W (pj lw) 1 23 L (.int 32 :: S) k n H Q ↔ ((k + 1 ≤ 7 ∧ n + 32 ≤ 480) ∧ W (pj lw) 1 25 L (.ref H.1 :: S) (k + 1) (n + 32) (mkA .byte 32 H) Q) := W_newarr' (rfl : (pj lw).1 1 23 = some (.newarray .byte, 2, 0)) rfl (by decide) (by decide)
theorem w1_25 {a : Nat} {v : Value} : W (pj lw) 1 25 L (v :: .ref a :: S) k n H Q ↔ ((isOw H a = true ∧ okv (.array .byte) v = true) ∧ W (pj lw) 1 28 L S k n (wr H a 6 v) Q) := W_putf (rfl : (pj lw).1 1 25 = some (.putfield 16, 3, 6))
theorem w1_28 {x : Nat} : W (pj lw) 1 28 (.val (.ref x) :: L) S k n H Q ↔ W (pj lw) 1 29 (.val (.ref x) :: L) (.ref x :: S) k n H Q := W_s (rfl : (pj lw).1 1 28 = some (.aload_n 0, 1, 0)) rfl rfl rfl
theorem w1_29 : W (pj lw) 1 29 L S k n H Q ↔ W (pj lw) 1 32 L (.int 128 :: S) k n H Q := W_s (rfl : (pj lw).1 1 29 = some (.sipush 128, 3, 0)) rfl rfl rfl
theorem w1_32 : W (pj lw) 1 32 L (.int 128 :: S) k n H Q ↔ ((k + 1 ≤ 7 ∧ n + 128 ≤ 480) ∧ W (pj lw) 1 34 L (.ref H.1 :: S) (k + 1) (n + 128) (mkA .byte 128 H) Q) := W_newarr' (rfl : (pj lw).1 1 32 = some (.newarray .byte, 2, 0)) rfl (by decide) (by decide)
theorem w1_34 {a : Nat} {v : Value} : W (pj lw) 1 34 L (v :: .ref a :: S) k n H Q ↔ ((isOw H a = true ∧ okv (.array .byte) v = true) ∧ W (pj lw) 1 37 L S k n (wr H a 7 v) Q) := W_putf (rfl : (pj lw).1 1 34 = some (.putfield 19, 3, 7))
theorem w1_37 {x : Nat} : W (pj lw) 1 37 (.val (.ref x) :: L) S k n H Q ↔ W (pj lw) 1 38 (.val (.ref x) :: L) (.ref x :: S) k n H Q := W_s (rfl : (pj lw).1 1 37 = some (.aload_n 0, 1, 0)) rfl rfl rfl
theorem w1_38 : W (pj lw) 1 38 L S k n H Q ↔ W (pj lw) 1 40 L (.int 64 :: S) k n H Q := W_s (rfl : (pj lw).1 1 38 = some (.bipush 64, 2, 0)) rfl rfl rfl
theorem w1_40 : W (pj lw) 1 40 L (.int 64 :: S) k n H Q ↔ ((k + 1 ≤ 7 ∧ n + 64 ≤ 480) ∧ W (pj lw) 1 42 L (.ref H.1 :: S) (k + 1) (n + 64) (mkA .long 64 H) Q) := W_newarr' (rfl : (pj lw).1 1 40 = some (.newarray .long, 2, 0)) rfl (by decide) (by decide)
theorem w1_42 {a : Nat} {v : Value} : W (pj lw) 1 42 L (v :: .ref a :: S) k n H Q ↔ ((isOw H a = true ∧ okv (.array .long) v = true) ∧ W (pj lw) 1 45 L S k n (wr H a 10 v) Q) := W_putf (rfl : (pj lw).1 1 42 = some (.putfield 22, 3, 10))
theorem w1_45 {x : Nat} : W (pj lw) 1 45 (.val (.ref x) :: L) S k n H Q ↔ W (pj lw) 1 46 (.val (.ref x) :: L) (.ref x :: S) k n H Q := W_s (rfl : (pj lw).1 1 45 = some (.aload_n 0, 1, 0)) rfl rfl rfl
theorem w1_46 : W (pj lw) 1 46 L S k n H Q ↔ W (pj lw) 1 48 L (.int 64 :: S) k n H Q := W_s (rfl : (pj lw).1 1 46 = some (.bipush 64, 2, 0)) rfl rfl rfl
theorem w1_48 : W (pj lw) 1 48 L (.int 64 :: S) k n H Q ↔ ((k + 1 ≤ 7 ∧ n + 64 ≤ 480) ∧ W (pj lw) 1 50 L (.ref H.1 :: S) (k + 1) (n + 64) (mkA .long 64 H) Q) := W_newarr' (rfl : (pj lw).1 1 48 = some (.newarray .long, 2, 0)) rfl (by decide) (by decide)
theorem w1_50 {a : Nat} {v : Value} : W (pj lw) 1 50 L (v :: .ref a :: S) k n H Q ↔ ((isOw H a = true ∧ okv (.array .long) v = true) ∧ W (pj lw) 1 53 L S k n (wr H a 11 v) Q) := W_putf (rfl : (pj lw).1 1 50 = some (.putfield 26, 3, 11))
theorem w1_53 {x : Nat} : W (pj lw) 1 53 (.val (.ref x) :: L) S k n H Q ↔ W (pj lw) 1 54 (.val (.ref x) :: L) (.ref x :: S) k n H Q := W_s (rfl : (pj lw).1 1 53 = some (.aload_n 0, 1, 0)) rfl rfl rfl
theorem w1_54 : W (pj lw) 1 54 L S k n H Q ↔ W (pj lw) 1 56 L (.int 64 :: S) k n H Q := W_s (rfl : (pj lw).1 1 54 = some (.bipush 64, 2, 0)) rfl rfl rfl
theorem w1_56 : W (pj lw) 1 56 L (.int 64 :: S) k n H Q ↔ ((k + 1 ≤ 7 ∧ n + 64 ≤ 480) ∧ W (pj lw) 1 58 L (.ref H.1 :: S) (k + 1) (n + 64) (mkA .int 64 H) Q) := W_newarr' (rfl : (pj lw).1 1 56 = some (.newarray .int, 2, 0)) rfl (by decide) (by decide)
theorem w1_58 {a : Nat} {v : Value} : W (pj lw) 1 58 L (v :: .ref a :: S) k n H Q ↔ ((isOw H a = true ∧ okv (.array .int) v = true) ∧ W (pj lw) 1 61 L S k n (wr H a 12 v) Q) := W_putf (rfl : (pj lw).1 1 58 = some (.putfield 29, 3, 12))
theorem w1_61 {x : Int32} {l0 : Slot} : W (pj lw) 1 61 (l0 :: .val (.int x) :: L) S k n H Q ↔ W (pj lw) 1 62 (l0 :: .val (.int x) :: L) (.int x :: S) k n H Q := W_s (rfl : (pj lw).1 1 61 = some (.iload_n 1, 1, 0)) rfl rfl rfl
theorem w1_62 {x : Int32} {l0 l1 l2 : Slot} : W (pj lw) 1 62 (l0 :: l1 :: l2 :: .unset :: L) (.int x :: S) k n H Q ↔ W (pj lw) 1 63 (l0 :: l1 :: l2 :: .val (.int x) :: L) S k n H Q := W_istn (rfl : (pj lw).1 1 62 = some (.istore_n 3, 1, 0)) rfl rfl
theorem w1_63 {x : Int32} {l0 l1 l2 : Slot} : W (pj lw) 1 63 (l0 :: l1 :: l2 :: .val (.int x) :: L) S k n H Q ↔ W (pj lw) 1 64 (l0 :: l1 :: l2 :: .val (.int x) :: L) (.int x :: S) k n H Q := W_s (rfl : (pj lw).1 1 63 = some (.iload_n 3, 1, 0)) rfl rfl rfl
theorem w1_64 : W (pj lw) 1 64 L S k n H Q ↔ W (pj lw) 1 65 L (.int 1 :: S) k n H Q := W_s (rfl : (pj lw).1 1 64 = some (.iconst 1, 1, 0)) rfl rfl rfl
theorem w1_65 {x y : Int32} : W (pj lw) 1 65 L (.int y :: .int x :: S) k n H Q ↔ (if x < y then W (pj lw) 1 68 L S k n H Q else W (pj lw) 1 70 L S k n H Q) := W_icmp_ge (rfl : (pj lw).1 1 65 = some (.if_icmp .ge 5, 3, 0)) rfl
theorem w1_68 : W (pj lw) 1 68 L S k n H Q ↔ W (pj lw) 1 69 L (.int 1 :: S) k n H Q := W_s (rfl : (pj lw).1 1 68 = some (.iconst 1, 1, 0)) rfl rfl rfl
theorem w1_69i {y : Int32} {x : Int32} {l0 l1 l2 : Slot} : W (pj lw) 1 69 (l0 :: l1 :: l2 :: .val (.int y) :: L) (.int x :: S) k n H Q ↔ W (pj lw) 1 70 (l0 :: l1 :: l2 :: .val (.int x) :: L) S k n H Q := W_istn (rfl : (pj lw).1 1 69 = some (.istore_n 3, 1, 0)) rfl rfl
theorem w1_70 {x : Int32} {l0 l1 l2 : Slot} : W (pj lw) 1 70 (l0 :: l1 :: l2 :: .val (.int x) :: L) S k n H Q ↔ W (pj lw) 1 71 (l0 :: l1 :: l2 :: .val (.int x) :: L) (.int x :: S) k n H Q := W_s (rfl : (pj lw).1 1 70 = some (.iload_n 3, 1, 0)) rfl rfl rfl
theorem w1_71 : W (pj lw) 1 71 L S k n H Q ↔ W (pj lw) 1 73 L (.int 32 :: S) k n H Q := W_s (rfl : (pj lw).1 1 71 = some (.bipush 32, 2, 0)) rfl rfl rfl
theorem w1_73 {x y : Int32} : W (pj lw) 1 73 L (.int y :: .int x :: S) k n H Q ↔ (if y < x then W (pj lw) 1 76 L S k n H Q else W (pj lw) 1 79 L S k n H Q) := W_icmp_le (rfl : (pj lw).1 1 73 = some (.if_icmp .le 6, 3, 0)) rfl
theorem w1_76 : W (pj lw) 1 76 L S k n H Q ↔ W (pj lw) 1 78 L (.int 32 :: S) k n H Q := W_s (rfl : (pj lw).1 1 76 = some (.bipush 32, 2, 0)) rfl rfl rfl
theorem w1_78i {y : Int32} {x : Int32} {l0 l1 l2 : Slot} : W (pj lw) 1 78 (l0 :: l1 :: l2 :: .val (.int y) :: L) (.int x :: S) k n H Q ↔ W (pj lw) 1 79 (l0 :: l1 :: l2 :: .val (.int x) :: L) S k n H Q := W_istn (rfl : (pj lw).1 1 78 = some (.istore_n 3, 1, 0)) rfl rfl
theorem w1_79 {x : Int32} {l0 l1 : Slot} : W (pj lw) 1 79 (l0 :: l1 :: .val (.int x) :: L) S k n H Q ↔ W (pj lw) 1 80 (l0 :: l1 :: .val (.int x) :: L) (.int x :: S) k n H Q := W_s (rfl : (pj lw).1 1 79 = some (.iload_n 2, 1, 0)) rfl rfl rfl
theorem w1_80 {x : Int32} {l0 l1 l2 l3 : Slot} : W (pj lw) 1 80 (l0 :: l1 :: l2 :: l3 :: .unset :: L) (.int x :: S) k n H Q ↔ W (pj lw) 1 82 (l0 :: l1 :: l2 :: l3 :: .val (.int x) :: L) S k n H Q := W_ist (rfl : (pj lw).1 1 80 = some (.istore 4, 2, 0)) rfl rfl
theorem w1_82 {x : Int32} {l0 l1 l2 l3 : Slot} : W (pj lw) 1 82 (l0 :: l1 :: l2 :: l3 :: .val (.int x) :: L) S k n H Q ↔ W (pj lw) 1 84 (l0 :: l1 :: l2 :: l3 :: .val (.int x) :: L) (.int x :: S) k n H Q := W_s (rfl : (pj lw).1 1 82 = some (.iload 4, 2, 0)) rfl rfl rfl
theorem w1_84 : W (pj lw) 1 84 L S k n H Q ↔ W (pj lw) 1 85 L (.int 1 :: S) k n H Q := W_s (rfl : (pj lw).1 1 84 = some (.iconst 1, 1, 0)) rfl rfl rfl
theorem w1_85 {x y : Int32} : W (pj lw) 1 85 L (.int y :: .int x :: S) k n H Q ↔ (if x < y then W (pj lw) 1 88 L S k n H Q else W (pj lw) 1 91 L S k n H Q) := W_icmp_ge (rfl : (pj lw).1 1 85 = some (.if_icmp .ge 6, 3, 0)) rfl
theorem w1_88 : W (pj lw) 1 88 L S k n H Q ↔ W (pj lw) 1 89 L (.int 1 :: S) k n H Q := W_s (rfl : (pj lw).1 1 88 = some (.iconst 1, 1, 0)) rfl rfl rfl
theorem w1_89i {y : Int32} {x : Int32} {l0 l1 l2 l3 : Slot} : W (pj lw) 1 89 (l0 :: l1 :: l2 :: l3 :: .val (.int y) :: L) (.int x :: S) k n H Q ↔ W (pj lw) 1 91 (l0 :: l1 :: l2 :: l3 :: .val (.int x) :: L) S k n H Q := W_ist (rfl : (pj lw).1 1 89 = some (.istore 4, 2, 0)) rfl rfl
theorem w1_91 {x : Int32} {l0 l1 l2 l3 : Slot} : W (pj lw) 1 91 (l0 :: l1 :: l2 :: l3 :: .val (.int x) :: L) S k n H Q ↔ W (pj lw) 1 93 (l0 :: l1 :: l2 :: l3 :: .val (.int x) :: L) (.int x :: S) k n H Q := W_s (rfl : (pj lw).1 1 91 = some (.iload 4, 2, 0)) rfl rfl rfl
theorem w1_93 : W (pj lw) 1 93 L S k n H Q ↔ W (pj lw) 1 95 L (.int 64 :: S) k n H Q := W_s (rfl : (pj lw).1 1 93 = some (.bipush 64, 2, 0)) rfl rfl rfl
theorem w1_95 {x y : Int32} : W (pj lw) 1 95 L (.int y :: .int x :: S) k n H Q ↔ (if y < x then W (pj lw) 1 98 L S k n H Q else W (pj lw) 1 102 L S k n H Q) := W_icmp_le (rfl : (pj lw).1 1 95 = some (.if_icmp .le 7, 3, 0)) rfl
theorem w1_98 : W (pj lw) 1 98 L S k n H Q ↔ W (pj lw) 1 100 L (.int 64 :: S) k n H Q := W_s (rfl : (pj lw).1 1 98 = some (.bipush 64, 2, 0)) rfl rfl rfl
theorem w1_100i {y : Int32} {x : Int32} {l0 l1 l2 l3 : Slot} : W (pj lw) 1 100 (l0 :: l1 :: l2 :: l3 :: .val (.int y) :: L) (.int x :: S) k n H Q ↔ W (pj lw) 1 102 (l0 :: l1 :: l2 :: l3 :: .val (.int x) :: L) S k n H Q := W_ist (rfl : (pj lw).1 1 100 = some (.istore 4, 2, 0)) rfl rfl
theorem w1_102 {x : Nat} : W (pj lw) 1 102 (.val (.ref x) :: L) S k n H Q ↔ W (pj lw) 1 103 (.val (.ref x) :: L) (.ref x :: S) k n H Q := W_s (rfl : (pj lw).1 1 102 = some (.aload_n 0, 1, 0)) rfl rfl rfl
theorem w1_103 {x : Int32} {l0 l1 l2 : Slot} : W (pj lw) 1 103 (l0 :: l1 :: l2 :: .val (.int x) :: L) S k n H Q ↔ W (pj lw) 1 104 (l0 :: l1 :: l2 :: .val (.int x) :: L) (.int x :: S) k n H Q := W_s (rfl : (pj lw).1 1 103 = some (.iload_n 3, 1, 0)) rfl rfl rfl
theorem w1_104 {a : Nat} {v : Value} : W (pj lw) 1 104 L (v :: .ref a :: S) k n H Q ↔ ((isOw H a = true ∧ okv (.int) v = true) ∧ W (pj lw) 1 107 L S k n (wr H a 0 v) Q) := W_putf (rfl : (pj lw).1 1 104 = some (.putfield 33, 3, 0))
theorem w1_107 {x : Nat} : W (pj lw) 1 107 (.val (.ref x) :: L) S k n H Q ↔ W (pj lw) 1 108 (.val (.ref x) :: L) (.ref x :: S) k n H Q := W_s (rfl : (pj lw).1 1 107 = some (.aload_n 0, 1, 0)) rfl rfl rfl
theorem w1_108 {x : Int32} {l0 l1 l2 l3 : Slot} : W (pj lw) 1 108 (l0 :: l1 :: l2 :: l3 :: .val (.int x) :: L) S k n H Q ↔ W (pj lw) 1 110 (l0 :: l1 :: l2 :: l3 :: .val (.int x) :: L) (.int x :: S) k n H Q := W_s (rfl : (pj lw).1 1 108 = some (.iload 4, 2, 0)) rfl rfl rfl
theorem w1_110 {a : Nat} {v : Value} : W (pj lw) 1 110 L (v :: .ref a :: S) k n H Q ↔ ((isOw H a = true ∧ okv (.int) v = true) ∧ W (pj lw) 1 113 L S k n (wr H a 1 v) Q) := W_putf (rfl : (pj lw).1 1 110 = some (.putfield 37, 3, 1))
theorem w1_113 {x : Nat} : W (pj lw) 1 113 (.val (.ref x) :: L) S k n H Q ↔ W (pj lw) 1 114 (.val (.ref x) :: L) (.ref x :: S) k n H Q := W_s (rfl : (pj lw).1 1 113 = some (.aload_n 0, 1, 0)) rfl rfl rfl
theorem w1_114 : W (pj lw) 1 114 L S k n H Q ↔ W (pj lw) 1 115 L (.int 0 :: S) k n H Q := W_s (rfl : (pj lw).1 1 114 = some (.iconst 0, 1, 0)) rfl rfl rfl
theorem w1_115 {a : Nat} {v : Value} : W (pj lw) 1 115 L (v :: .ref a :: S) k n H Q ↔ ((isOw H a = true ∧ okv (.int) v = true) ∧ W (pj lw) 1 118 L S k n (wr H a 2 v) Q) := W_putf (rfl : (pj lw).1 1 115 = some (.putfield 40, 3, 2))
theorem w1_118 {x : Nat} : W (pj lw) 1 118 (.val (.ref x) :: L) S k n H Q ↔ W (pj lw) 1 119 (.val (.ref x) :: L) (.ref x :: S) k n H Q := W_s (rfl : (pj lw).1 1 118 = some (.aload_n 0, 1, 0)) rfl rfl rfl
theorem w1_119 : W (pj lw) 1 119 L S k n H Q ↔ W (pj lw) 1 120 L (.int 0 :: S) k n H Q := W_s (rfl : (pj lw).1 1 119 = some (.iconst 0, 1, 0)) rfl rfl rfl
theorem w1_120 {a : Nat} {v : Value} : W (pj lw) 1 120 L (v :: .ref a :: S) k n H Q ↔ ((isOw H a = true ∧ okv (.boolean) v = true) ∧ W (pj lw) 1 123 L S k n (wr H a 13 v) Q) := W_putf (rfl : (pj lw).1 1 120 = some (.putfield 43, 3, 13))
theorem w1_123 {x : Nat} : W (pj lw) 1 123 (.val (.ref x) :: L) S k n H Q ↔ W (pj lw) 1 124 (.val (.ref x) :: L) (.ref x :: S) k n H Q := W_s (rfl : (pj lw).1 1 123 = some (.aload_n 0, 1, 0)) rfl rfl rfl
theorem w1_124 {a : Nat} : W (pj lw) 1 124 L (.ref a :: S) k n H Q ↔ ((isO H a = true ∧ cs S + (1 + 11) + 0 ≤ 12) ∧ Cl (pj lw) 19 [.ref a] H (fun v H => W (pj lw) 1 127 L (v.toList ++ S) k n H Q)) := W_inst (as := []) (rfl : (pj lw).1 1 124 = some (.invokevirtual 47, 3, 19)) rfl rfl rfl (Nat.le_of_ble_eq_true rfl) (Nat.le_of_ble_eq_true rfl) ⟨rfl, rfl⟩
theorem w1_127 : W (pj lw) 1 127 L [] k n H Q ↔ Q none H := W_r (rfl : (pj lw).1 1 127 = some (.return_, 1, 0)) rfl
theorem c2 {x0 : Nat} : Cl (pj lw) 2 [.ref x0] H Q ↔ W (pj lw) 2 0 [.val (.ref x0)] [] 0 0 H Q := Iff.rfl
theorem w2_0 {x : Nat} : W (pj lw) 2 0 (.val (.ref x) :: L) S k n H Q ↔ W (pj lw) 2 1 (.val (.ref x) :: L) (.ref x :: S) k n H Q := W_s (rfl : (pj lw).1 2 0 = some (.aload_n 0, 1, 0)) rfl rfl rfl
theorem w2_1 {a : Nat} : W (pj lw) 2 1 L (.ref a :: S) k n H Q ↔ (isO H a = true ∧ W (pj lw) 2 4 L (fld H a 0 :: S) k n H Q) := W_getf (rfl : (pj lw).1 2 1 = some (.getfield 33, 3, 0))
theorem w2_4 {x : Int32} : W (pj lw) 2 4 L (.int x :: S) k n H Q ↔ Q (some (.int x)) H := W_r (rfl : (pj lw).1 2 4 = some (.ireturn, 1, 0)) rfl
theorem c3 {x0 : Nat} : Cl (pj lw) 3 [.ref x0] H Q ↔ W (pj lw) 3 0 [.val (.ref x0)] [] 0 0 H Q := Iff.rfl
theorem w3_0 {x : Nat} : W (pj lw) 3 0 (.val (.ref x) :: L) S k n H Q ↔ W (pj lw) 3 1 (.val (.ref x) :: L) (.ref x :: S) k n H Q := W_s (rfl : (pj lw).1 3 0 = some (.aload_n 0, 1, 0)) rfl rfl rfl
theorem w3_1 {a : Nat} : W (pj lw) 3 1 L (.ref a :: S) k n H Q ↔ (isO H a = true ∧ W (pj lw) 3 4 L (fld H a 1 :: S) k n H Q) := W_getf (rfl : (pj lw).1 3 1 = some (.getfield 37, 3, 1))
theorem w3_4 {x : Int32} : W (pj lw) 3 4 L (.int x :: S) k n H Q ↔ Q (some (.int x)) H := W_r (rfl : (pj lw).1 3 4 = some (.ireturn, 1, 0)) rfl
theorem c4 {x0 : Nat} : Cl (pj lw) 4 [.ref x0] H Q ↔ W (pj lw) 4 0 [.val (.ref x0)] [] 0 0 H Q := Iff.rfl
theorem w4_0 {x : Nat} : W (pj lw) 4 0 (.val (.ref x) :: L) S k n H Q ↔ W (pj lw) 4 1 (.val (.ref x) :: L) (.ref x :: S) k n H Q := W_s (rfl : (pj lw).1 4 0 = some (.aload_n 0, 1, 0)) rfl rfl rfl
theorem w4_1 {a : Nat} : W (pj lw) 4 1 L (.ref a :: S) k n H Q ↔ (isO H a = true ∧ W (pj lw) 4 4 L (fld H a 2 :: S) k n H Q) := W_getf (rfl : (pj lw).1 4 1 = some (.getfield 40, 3, 2))
theorem w4_4 {x : Int32} : W (pj lw) 4 4 L (.int x :: S) k n H Q ↔ Q (some (.int x)) H := W_r (rfl : (pj lw).1 4 4 = some (.ireturn, 1, 0)) rfl
theorem c5 {x0 : Nat} {x1 : Int32} {x2 : Int32} : Cl (pj lw) 5 [.ref x0, .int x1, .int x2] H Q ↔ W (pj lw) 5 0 [.val (.ref x0), .val (.int x1), .val (.int x2)] [] 0 0 H Q := Iff.rfl
theorem w5_0 {x : Nat} : W (pj lw) 5 0 (.val (.ref x) :: L) S k n H Q ↔ W (pj lw) 5 1 (.val (.ref x) :: L) (.ref x :: S) k n H Q := W_s (rfl : (pj lw).1 5 0 = some (.aload_n 0, 1, 0)) rfl rfl rfl
theorem w5_1 {x : Int32} {l0 : Slot} : W (pj lw) 5 1 (l0 :: .val (.int x) :: L) S k n H Q ↔ W (pj lw) 5 2 (l0 :: .val (.int x) :: L) (.int x :: S) k n H Q := W_s (rfl : (pj lw).1 5 1 = some (.iload_n 1, 1, 0)) rfl rfl rfl
theorem w5_2 {a : Nat} {x0 : Int32} : W (pj lw) 5 2 L (.int x0 :: .ref a :: S) k n H Q ↔ ((isO H a = true ∧ cs S + (2 + 11) + 0 ≤ 13) ∧ Cl (pj lw) 18 [.ref a, .int x0] H (fun v H => W (pj lw) 5 5 L (v.toList ++ S) k n H Q)) := W_inst (as := [.int x0]) (rfl : (pj lw).1 5 2 = some (.invokevirtual 50, 3, 18)) rfl rfl rfl (Nat.le_of_ble_eq_true rfl) (Nat.le_of_ble_eq_true rfl) ⟨rfl, rfl⟩
theorem w5_5 {x : Int32} : W (pj lw) 5 5 L (.int x :: S) k n H Q ↔ (if x = 0 then W (pj lw) 5 8 L S k n H Q else W (pj lw) 5 10 L S k n H Q) := W_if_ne (rfl : (pj lw).1 5 5 = some (.ifCond .ne 5, 3, 0)) rfl
theorem w5_8 : W (pj lw) 5 8 L S k n H Q ↔ W (pj lw) 5 9 L (.int (-1) :: S) k n H Q := W_s (rfl : (pj lw).1 5 8 = some (.iconst (-1), 1, 0)) rfl rfl rfl
theorem w5_9 {x : Int32} : W (pj lw) 5 9 L (.int x :: S) k n H Q ↔ Q (some (.int x)) H := W_r (rfl : (pj lw).1 5 9 = some (.ireturn, 1, 0)) rfl
theorem w5_10 {x : Nat} : W (pj lw) 5 10 (.val (.ref x) :: L) S k n H Q ↔ W (pj lw) 5 11 (.val (.ref x) :: L) (.ref x :: S) k n H Q := W_s (rfl : (pj lw).1 5 10 = some (.aload_n 0, 1, 0)) rfl rfl rfl
theorem w5_11 {x : Int32} {l0 l1 : Slot} : W (pj lw) 5 11 (l0 :: l1 :: .val (.int x) :: L) S k n H Q ↔ W (pj lw) 5 12 (l0 :: l1 :: .val (.int x) :: L) (.int x :: S) k n H Q := W_s (rfl : (pj lw).1 5 11 = some (.iload_n 2, 1, 0)) rfl rfl rfl
theorem w5_12 {a : Nat} {x0 : Int32} : W (pj lw) 5 12 L (.int x0 :: .ref a :: S) k n H Q ↔ ((isO H a = true ∧ cs S + (2 + 11) + 0 ≤ 13) ∧ Cl (pj lw) 18 [.ref a, .int x0] H (fun v H => W (pj lw) 5 15 L (v.toList ++ S) k n H Q)) := W_inst (as := [.int x0]) (rfl : (pj lw).1 5 12 = some (.invokevirtual 50, 3, 18)) rfl rfl rfl (Nat.le_of_ble_eq_true rfl) (Nat.le_of_ble_eq_true rfl) ⟨rfl, rfl⟩
theorem w5_15 {x : Int32} : W (pj lw) 5 15 L (.int x :: S) k n H Q ↔ (if x = 0 then W (pj lw) 5 18 L S k n H Q else W (pj lw) 5 20 L S k n H Q) := W_if_ne (rfl : (pj lw).1 5 15 = some (.ifCond .ne 5, 3, 0)) rfl
theorem w5_18 : W (pj lw) 5 18 L S k n H Q ↔ W (pj lw) 5 19 L (.int (-1) :: S) k n H Q := W_s (rfl : (pj lw).1 5 18 = some (.iconst (-1), 1, 0)) rfl rfl rfl
theorem w5_19 {x : Int32} : W (pj lw) 5 19 L (.int x :: S) k n H Q ↔ Q (some (.int x)) H := W_r (rfl : (pj lw).1 5 19 = some (.ireturn, 1, 0)) rfl
theorem w5_20 {x : Nat} : W (pj lw) 5 20 (.val (.ref x) :: L) S k n H Q ↔ W (pj lw) 5 21 (.val (.ref x) :: L) (.ref x :: S) k n H Q := W_s (rfl : (pj lw).1 5 20 = some (.aload_n 0, 1, 0)) rfl rfl rfl
theorem w5_21 {a : Nat} : W (pj lw) 5 21 L (.ref a :: S) k n H Q ↔ (isO H a = true ∧ W (pj lw) 5 24 L (fld H a 2 :: S) k n H Q) := W_getf (rfl : (pj lw).1 5 21 = some (.getfield 40, 3, 2))
theorem w5_24 {x : Nat} : W (pj lw) 5 24 (.val (.ref x) :: L) S k n H Q ↔ W (pj lw) 5 25 (.val (.ref x) :: L) (.ref x :: S) k n H Q := W_s (rfl : (pj lw).1 5 24 = some (.aload_n 0, 1, 0)) rfl rfl rfl
theorem w5_25 {a : Nat} : W (pj lw) 5 25 L (.ref a :: S) k n H Q ↔ (isO H a = true ∧ W (pj lw) 5 28 L (fld H a 1 :: S) k n H Q) := W_getf (rfl : (pj lw).1 5 25 = some (.getfield 37, 3, 1))
theorem w5_28 {x y : Int32} : W (pj lw) 5 28 L (.int y :: .int x :: S) k n H Q ↔ (if x < y then W (pj lw) 5 33 L S k n H Q else W (pj lw) 5 31 L S k n H Q) := W_icmp_lt (rfl : (pj lw).1 5 28 = some (.if_icmp .lt 5, 3, 0)) rfl
theorem w5_31 : W (pj lw) 5 31 L S k n H Q ↔ W (pj lw) 5 32 L (.int (-1) :: S) k n H Q := W_s (rfl : (pj lw).1 5 31 = some (.iconst (-1), 1, 0)) rfl rfl rfl
theorem w5_32 {x : Int32} : W (pj lw) 5 32 L (.int x :: S) k n H Q ↔ Q (some (.int x)) H := W_r (rfl : (pj lw).1 5 32 = some (.ireturn, 1, 0)) rfl
theorem w5_33 {x : Nat} : W (pj lw) 5 33 (.val (.ref x) :: L) S k n H Q ↔ W (pj lw) 5 34 (.val (.ref x) :: L) (.ref x :: S) k n H Q := W_s (rfl : (pj lw).1 5 33 = some (.aload_n 0, 1, 0)) rfl rfl rfl
theorem w5_34 {a : Nat} : W (pj lw) 5 34 L (.ref a :: S) k n H Q ↔ (isO H a = true ∧ W (pj lw) 5 37 L (fld H a 3 :: S) k n H Q) := W_getf (rfl : (pj lw).1 5 34 = some (.getfield 7, 3, 3))
theorem w5_37 {x : Nat} : W (pj lw) 5 37 (.val (.ref x) :: L) S k n H Q ↔ W (pj lw) 5 38 (.val (.ref x) :: L) (.ref x :: S) k n H Q := W_s (rfl : (pj lw).1 5 37 = some (.aload_n 0, 1, 0)) rfl rfl rfl
theorem w5_38 {a : Nat} : W (pj lw) 5 38 L (.ref a :: S) k n H Q ↔ (isO H a = true ∧ W (pj lw) 5 41 L (fld H a 2 :: S) k n H Q) := W_getf (rfl : (pj lw).1 5 38 = some (.getfield 40, 3, 2))
theorem w5_41 {x : Int32} {l0 : Slot} : W (pj lw) 5 41 (l0 :: .val (.int x) :: L) S k n H Q ↔ W (pj lw) 5 42 (l0 :: .val (.int x) :: L) (.int x :: S) k n H Q := W_s (rfl : (pj lw).1 5 41 = some (.iload_n 1, 1, 0)) rfl rfl rfl
theorem w5_42 {x : Int32} : W (pj lw) 5 42 L (.int x :: S) k n H Q ↔ W (pj lw) 5 43 L (.int x.toInt8.toInt32 :: S) k n H Q := W_s (rfl : (pj lw).1 5 42 = some (.i2b, 1, 0)) rfl rfl rfl
theorem w5_43 {x i : Int32} {a : Nat} : W (pj lw) 5 43 L (.int x :: .int i :: .ref a :: S) k n H Q ↔ (((inAw H a .byte i = true ∧ okv .byte (.int x) = true) ∨ (inAw H a .boolean i = true ∧ okv .boolean (.int x) = true)) ∧ W (pj lw) 5 44 L S k n (wr H a i.toNatClampNeg (.int x)) Q) := W_bastore (rfl : (pj lw).1 5 43 = some (.bastore, 1, 0))
theorem w5_44 {x : Nat} : W (pj lw) 5 44 (.val (.ref x) :: L) S k n H Q ↔ W (pj lw) 5 45 (.val (.ref x) :: L) (.ref x :: S) k n H Q := W_s (rfl : (pj lw).1 5 44 = some (.aload_n 0, 1, 0)) rfl rfl rfl
theorem w5_45 {a : Nat} : W (pj lw) 5 45 L (.ref a :: S) k n H Q ↔ (isO H a = true ∧ W (pj lw) 5 48 L (fld H a 4 :: S) k n H Q) := W_getf (rfl : (pj lw).1 5 45 = some (.getfield 13, 3, 4))
theorem w5_48 {x : Nat} : W (pj lw) 5 48 (.val (.ref x) :: L) S k n H Q ↔ W (pj lw) 5 49 (.val (.ref x) :: L) (.ref x :: S) k n H Q := W_s (rfl : (pj lw).1 5 48 = some (.aload_n 0, 1, 0)) rfl rfl rfl
theorem w5_49 {a : Nat} : W (pj lw) 5 49 L (.ref a :: S) k n H Q ↔ (isO H a = true ∧ W (pj lw) 5 52 L (fld H a 2 :: S) k n H Q) := W_getf (rfl : (pj lw).1 5 49 = some (.getfield 40, 3, 2))
theorem w5_52 {x : Int32} {l0 l1 : Slot} : W (pj lw) 5 52 (l0 :: l1 :: .val (.int x) :: L) S k n H Q ↔ W (pj lw) 5 53 (l0 :: l1 :: .val (.int x) :: L) (.int x :: S) k n H Q := W_s (rfl : (pj lw).1 5 52 = some (.iload_n 2, 1, 0)) rfl rfl rfl
theorem w5_53 {x : Int32} : W (pj lw) 5 53 L (.int x :: S) k n H Q ↔ W (pj lw) 5 54 L (.int x.toInt8.toInt32 :: S) k n H Q := W_s (rfl : (pj lw).1 5 53 = some (.i2b, 1, 0)) rfl rfl rfl
theorem w5_54 {x i : Int32} {a : Nat} : W (pj lw) 5 54 L (.int x :: .int i :: .ref a :: S) k n H Q ↔ (((inAw H a .byte i = true ∧ okv .byte (.int x) = true) ∨ (inAw H a .boolean i = true ∧ okv .boolean (.int x) = true)) ∧ W (pj lw) 5 55 L S k n (wr H a i.toNatClampNeg (.int x)) Q) := W_bastore (rfl : (pj lw).1 5 54 = some (.bastore, 1, 0))
theorem w5_55 {x : Nat} : W (pj lw) 5 55 (.val (.ref x) :: L) S k n H Q ↔ W (pj lw) 5 56 (.val (.ref x) :: L) (.ref x :: S) k n H Q := W_s (rfl : (pj lw).1 5 55 = some (.aload_n 0, 1, 0)) rfl rfl rfl
theorem w5_56 {x : Nat} : W (pj lw) 5 56 L (.ref x :: S) k n H Q ↔ W (pj lw) 5 57 L (.ref x :: .ref x :: S) k n H Q := W_s (rfl : (pj lw).1 5 56 = some (.dup, 1, 0)) rfl rfl rfl
theorem w5_57 {a : Nat} : W (pj lw) 5 57 L (.ref a :: S) k n H Q ↔ (isO H a = true ∧ W (pj lw) 5 60 L (fld H a 2 :: S) k n H Q) := W_getf (rfl : (pj lw).1 5 57 = some (.getfield 40, 3, 2))
theorem w5_60 : W (pj lw) 5 60 L S k n H Q ↔ W (pj lw) 5 61 L (.int 1 :: S) k n H Q := W_s (rfl : (pj lw).1 5 60 = some (.iconst 1, 1, 0)) rfl rfl rfl
theorem w5_61 {x y : Int32} : W (pj lw) 5 61 L (.int y :: .int x :: S) k n H Q ↔ W (pj lw) 5 62 L (.int (x + y) :: S) k n H Q := W_s (rfl : (pj lw).1 5 61 = some (.iadd, 1, 0)) rfl rfl rfl
theorem w5_62 {a : Nat} {v : Value} : W (pj lw) 5 62 L (v :: .ref a :: S) k n H Q ↔ ((isOw H a = true ∧ okv (.int) v = true) ∧ W (pj lw) 5 65 L S k n (wr H a 2 v) Q) := W_putf (rfl : (pj lw).1 5 62 = some (.putfield 40, 3, 2))
theorem w5_65 {x : Nat} : W (pj lw) 5 65 (.val (.ref x) :: L) S k n H Q ↔ W (pj lw) 5 66 (.val (.ref x) :: L) (.ref x :: S) k n H Q := W_s (rfl : (pj lw).1 5 65 = some (.aload_n 0, 1, 0)) rfl rfl rfl
theorem w5_66 : W (pj lw) 5 66 L S k n H Q ↔ W (pj lw) 5 67 L (.int 0 :: S) k n H Q := W_s (rfl : (pj lw).1 5 66 = some (.iconst 0, 1, 0)) rfl rfl rfl
theorem w5_67 {a : Nat} {v : Value} : W (pj lw) 5 67 L (v :: .ref a :: S) k n H Q ↔ ((isOw H a = true ∧ okv (.boolean) v = true) ∧ W (pj lw) 5 70 L S k n (wr H a 13 v) Q) := W_putf (rfl : (pj lw).1 5 67 = some (.putfield 43, 3, 13))
theorem w5_70 {x : Nat} : W (pj lw) 5 70 (.val (.ref x) :: L) S k n H Q ↔ W (pj lw) 5 71 (.val (.ref x) :: L) (.ref x :: S) k n H Q := W_s (rfl : (pj lw).1 5 70 = some (.aload_n 0, 1, 0)) rfl rfl rfl
theorem w5_71 {a : Nat} : W (pj lw) 5 71 L (.ref a :: S) k n H Q ↔ ((isO H a = true ∧ cs S + (1 + 11) + 0 ≤ 13) ∧ Cl (pj lw) 19 [.ref a] H (fun v H => W (pj lw) 5 74 L (v.toList ++ S) k n H Q)) := W_inst (as := []) (rfl : (pj lw).1 5 71 = some (.invokevirtual 47, 3, 19)) rfl rfl rfl (Nat.le_of_ble_eq_true rfl) (Nat.le_of_ble_eq_true rfl) ⟨rfl, rfl⟩
theorem w5_74 {x : Nat} : W (pj lw) 5 74 (.val (.ref x) :: L) S k n H Q ↔ W (pj lw) 5 75 (.val (.ref x) :: L) (.ref x :: S) k n H Q := W_s (rfl : (pj lw).1 5 74 = some (.aload_n 0, 1, 0)) rfl rfl rfl
theorem w5_75 {a : Nat} : W (pj lw) 5 75 L (.ref a :: S) k n H Q ↔ (isO H a = true ∧ W (pj lw) 5 78 L (fld H a 2 :: S) k n H Q) := W_getf (rfl : (pj lw).1 5 75 = some (.getfield 40, 3, 2))
theorem w5_78 {x : Int32} : W (pj lw) 5 78 L (.int x :: S) k n H Q ↔ Q (some (.int x)) H := W_r (rfl : (pj lw).1 5 78 = some (.ireturn, 1, 0)) rfl
theorem c6 {x0 : Nat} : Cl (pj lw) 6 [.ref x0] H Q ↔ W (pj lw) 6 0 [.val (.ref x0)] [] 0 0 H Q := Iff.rfl
theorem w6_0 {x : Nat} : W (pj lw) 6 0 (.val (.ref x) :: L) S k n H Q ↔ W (pj lw) 6 1 (.val (.ref x) :: L) (.ref x :: S) k n H Q := W_s (rfl : (pj lw).1 6 0 = some (.aload_n 0, 1, 0)) rfl rfl rfl
theorem w6_1 {a : Nat} : W (pj lw) 6 1 L (.ref a :: S) k n H Q ↔ (isO H a = true ∧ W (pj lw) 6 4 L (fld H a 2 :: S) k n H Q) := W_getf (rfl : (pj lw).1 6 1 = some (.getfield 40, 3, 2))
theorem w6_4 {x : Int32} : W (pj lw) 6 4 L (.int x :: S) k n H Q ↔ (if 0 < x then W (pj lw) 6 9 L S k n H Q else W (pj lw) 6 7 L S k n H Q) := W_if_gt (rfl : (pj lw).1 6 4 = some (.ifCond .gt 5, 3, 0)) rfl
theorem w6_7 : W (pj lw) 6 7 L S k n H Q ↔ W (pj lw) 6 8 L (.int (-1) :: S) k n H Q := W_s (rfl : (pj lw).1 6 7 = some (.iconst (-1), 1, 0)) rfl rfl rfl
theorem w6_8 {x : Int32} : W (pj lw) 6 8 L (.int x :: S) k n H Q ↔ Q (some (.int x)) H := W_r (rfl : (pj lw).1 6 8 = some (.ireturn, 1, 0)) rfl
theorem w6_9 {x : Nat} : W (pj lw) 6 9 (.val (.ref x) :: L) S k n H Q ↔ W (pj lw) 6 10 (.val (.ref x) :: L) (.ref x :: S) k n H Q := W_s (rfl : (pj lw).1 6 9 = some (.aload_n 0, 1, 0)) rfl rfl rfl
theorem w6_10 {x : Nat} : W (pj lw) 6 10 L (.ref x :: S) k n H Q ↔ W (pj lw) 6 11 L (.ref x :: .ref x :: S) k n H Q := W_s (rfl : (pj lw).1 6 10 = some (.dup, 1, 0)) rfl rfl rfl
theorem w6_11 {a : Nat} : W (pj lw) 6 11 L (.ref a :: S) k n H Q ↔ (isO H a = true ∧ W (pj lw) 6 14 L (fld H a 2 :: S) k n H Q) := W_getf (rfl : (pj lw).1 6 11 = some (.getfield 40, 3, 2))
theorem w6_14 : W (pj lw) 6 14 L S k n H Q ↔ W (pj lw) 6 15 L (.int 1 :: S) k n H Q := W_s (rfl : (pj lw).1 6 14 = some (.iconst 1, 1, 0)) rfl rfl rfl
theorem w6_15 {x y : Int32} : W (pj lw) 6 15 L (.int y :: .int x :: S) k n H Q ↔ W (pj lw) 6 16 L (.int (x - y) :: S) k n H Q := W_s (rfl : (pj lw).1 6 15 = some (.isub, 1, 0)) rfl rfl rfl
theorem w6_16 {a : Nat} {v : Value} : W (pj lw) 6 16 L (v :: .ref a :: S) k n H Q ↔ ((isOw H a = true ∧ okv (.int) v = true) ∧ W (pj lw) 6 19 L S k n (wr H a 2 v) Q) := W_putf (rfl : (pj lw).1 6 16 = some (.putfield 40, 3, 2))
theorem w6_19 {x : Nat} : W (pj lw) 6 19 (.val (.ref x) :: L) S k n H Q ↔ W (pj lw) 6 20 (.val (.ref x) :: L) (.ref x :: S) k n H Q := W_s (rfl : (pj lw).1 6 19 = some (.aload_n 0, 1, 0)) rfl rfl rfl
theorem w6_20 {a : Nat} : W (pj lw) 6 20 L (.ref a :: S) k n H Q ↔ (isO H a = true ∧ W (pj lw) 6 23 L (fld H a 3 :: S) k n H Q) := W_getf (rfl : (pj lw).1 6 20 = some (.getfield 7, 3, 3))
theorem w6_23 {x : Nat} : W (pj lw) 6 23 (.val (.ref x) :: L) S k n H Q ↔ W (pj lw) 6 24 (.val (.ref x) :: L) (.ref x :: S) k n H Q := W_s (rfl : (pj lw).1 6 23 = some (.aload_n 0, 1, 0)) rfl rfl rfl
theorem w6_24 {a : Nat} : W (pj lw) 6 24 L (.ref a :: S) k n H Q ↔ (isO H a = true ∧ W (pj lw) 6 27 L (fld H a 2 :: S) k n H Q) := W_getf (rfl : (pj lw).1 6 24 = some (.getfield 40, 3, 2))
theorem w6_27 : W (pj lw) 6 27 L S k n H Q ↔ W (pj lw) 6 28 L (.int 0 :: S) k n H Q := W_s (rfl : (pj lw).1 6 27 = some (.iconst 0, 1, 0)) rfl rfl rfl
theorem w6_28 {x i : Int32} {a : Nat} : W (pj lw) 6 28 L (.int x :: .int i :: .ref a :: S) k n H Q ↔ (((inAw H a .byte i = true ∧ okv .byte (.int x) = true) ∨ (inAw H a .boolean i = true ∧ okv .boolean (.int x) = true)) ∧ W (pj lw) 6 29 L S k n (wr H a i.toNatClampNeg (.int x)) Q) := W_bastore (rfl : (pj lw).1 6 28 = some (.bastore, 1, 0))
theorem w6_29 {x : Nat} : W (pj lw) 6 29 (.val (.ref x) :: L) S k n H Q ↔ W (pj lw) 6 30 (.val (.ref x) :: L) (.ref x :: S) k n H Q := W_s (rfl : (pj lw).1 6 29 = some (.aload_n 0, 1, 0)) rfl rfl rfl
theorem w6_30 {a : Nat} : W (pj lw) 6 30 L (.ref a :: S) k n H Q ↔ (isO H a = true ∧ W (pj lw) 6 33 L (fld H a 4 :: S) k n H Q) := W_getf (rfl : (pj lw).1 6 30 = some (.getfield 13, 3, 4))
theorem w6_33 {x : Nat} : W (pj lw) 6 33 (.val (.ref x) :: L) S k n H Q ↔ W (pj lw) 6 34 (.val (.ref x) :: L) (.ref x :: S) k n H Q := W_s (rfl : (pj lw).1 6 33 = some (.aload_n 0, 1, 0)) rfl rfl rfl
theorem w6_34 {a : Nat} : W (pj lw) 6 34 L (.ref a :: S) k n H Q ↔ (isO H a = true ∧ W (pj lw) 6 37 L (fld H a 2 :: S) k n H Q) := W_getf (rfl : (pj lw).1 6 34 = some (.getfield 40, 3, 2))
theorem w6_37 : W (pj lw) 6 37 L S k n H Q ↔ W (pj lw) 6 38 L (.int 0 :: S) k n H Q := W_s (rfl : (pj lw).1 6 37 = some (.iconst 0, 1, 0)) rfl rfl rfl
theorem w6_38 {x i : Int32} {a : Nat} : W (pj lw) 6 38 L (.int x :: .int i :: .ref a :: S) k n H Q ↔ (((inAw H a .byte i = true ∧ okv .byte (.int x) = true) ∨ (inAw H a .boolean i = true ∧ okv .boolean (.int x) = true)) ∧ W (pj lw) 6 39 L S k n (wr H a i.toNatClampNeg (.int x)) Q) := W_bastore (rfl : (pj lw).1 6 38 = some (.bastore, 1, 0))
theorem w6_39 {x : Nat} : W (pj lw) 6 39 (.val (.ref x) :: L) S k n H Q ↔ W (pj lw) 6 40 (.val (.ref x) :: L) (.ref x :: S) k n H Q := W_s (rfl : (pj lw).1 6 39 = some (.aload_n 0, 1, 0)) rfl rfl rfl
theorem w6_40 : W (pj lw) 6 40 L S k n H Q ↔ W (pj lw) 6 41 L (.int 0 :: S) k n H Q := W_s (rfl : (pj lw).1 6 40 = some (.iconst 0, 1, 0)) rfl rfl rfl
theorem w6_41 {a : Nat} {v : Value} : W (pj lw) 6 41 L (v :: .ref a :: S) k n H Q ↔ ((isOw H a = true ∧ okv (.boolean) v = true) ∧ W (pj lw) 6 44 L S k n (wr H a 13 v) Q) := W_putf (rfl : (pj lw).1 6 41 = some (.putfield 43, 3, 13))
theorem w6_44 {x : Nat} : W (pj lw) 6 44 (.val (.ref x) :: L) S k n H Q ↔ W (pj lw) 6 45 (.val (.ref x) :: L) (.ref x :: S) k n H Q := W_s (rfl : (pj lw).1 6 44 = some (.aload_n 0, 1, 0)) rfl rfl rfl
theorem w6_45 {a : Nat} : W (pj lw) 6 45 L (.ref a :: S) k n H Q ↔ ((isO H a = true ∧ cs S + (1 + 11) + 0 ≤ 12) ∧ Cl (pj lw) 19 [.ref a] H (fun v H => W (pj lw) 6 48 L (v.toList ++ S) k n H Q)) := W_inst (as := []) (rfl : (pj lw).1 6 45 = some (.invokevirtual 47, 3, 19)) rfl rfl rfl (Nat.le_of_ble_eq_true rfl) (Nat.le_of_ble_eq_true rfl) ⟨rfl, rfl⟩
theorem w6_48 {x : Nat} : W (pj lw) 6 48 (.val (.ref x) :: L) S k n H Q ↔ W (pj lw) 6 49 (.val (.ref x) :: L) (.ref x :: S) k n H Q := W_s (rfl : (pj lw).1 6 48 = some (.aload_n 0, 1, 0)) rfl rfl rfl
theorem w6_49 {a : Nat} : W (pj lw) 6 49 L (.ref a :: S) k n H Q ↔ (isO H a = true ∧ W (pj lw) 6 52 L (fld H a 2 :: S) k n H Q) := W_getf (rfl : (pj lw).1 6 49 = some (.getfield 40, 3, 2))
theorem w6_52 {x : Int32} : W (pj lw) 6 52 L (.int x :: S) k n H Q ↔ Q (some (.int x)) H := W_r (rfl : (pj lw).1 6 52 = some (.ireturn, 1, 0)) rfl
theorem c7 {x0 : Nat} {x1 : Int32} {x2 : Int32} : Cl (pj lw) 7 [.ref x0, .int x1, .int x2] H Q ↔ W (pj lw) 7 0 [.val (.ref x0), .val (.int x1), .val (.int x2)] [] 0 0 H Q := Iff.rfl
theorem w7_0 {x : Int32} {l0 : Slot} : W (pj lw) 7 0 (l0 :: .val (.int x) :: L) S k n H Q ↔ W (pj lw) 7 1 (l0 :: .val (.int x) :: L) (.int x :: S) k n H Q := W_s (rfl : (pj lw).1 7 0 = some (.iload_n 1, 1, 0)) rfl rfl rfl
theorem w7_1 {x : Int32} : W (pj lw) 7 1 L (.int x :: S) k n H Q ↔ (if x < 0 then W (pj lw) 7 12 L S k n H Q else W (pj lw) 7 4 L S k n H Q) := W_if_lt (rfl : (pj lw).1 7 1 = some (.ifCond .lt 11, 3, 0)) rfl
theorem w7_4 {x : Int32} {l0 : Slot} : W (pj lw) 7 4 (l0 :: .val (.int x) :: L) S k n H Q ↔ W (pj lw) 7 5 (l0 :: .val (.int x) :: L) (.int x :: S) k n H Q := W_s (rfl : (pj lw).1 7 4 = some (.iload_n 1, 1, 0)) rfl rfl rfl
theorem w7_5 {x : Nat} : W (pj lw) 7 5 (.val (.ref x) :: L) S k n H Q ↔ W (pj lw) 7 6 (.val (.ref x) :: L) (.ref x :: S) k n H Q := W_s (rfl : (pj lw).1 7 5 = some (.aload_n 0, 1, 0)) rfl rfl rfl
theorem w7_6 {a : Nat} : W (pj lw) 7 6 L (.ref a :: S) k n H Q ↔ (isO H a = true ∧ W (pj lw) 7 9 L (fld H a 2 :: S) k n H Q) := W_getf (rfl : (pj lw).1 7 6 = some (.getfield 40, 3, 2))
theorem w7_9 {x y : Int32} : W (pj lw) 7 9 L (.int y :: .int x :: S) k n H Q ↔ (if x < y then W (pj lw) 7 14 L S k n H Q else W (pj lw) 7 12 L S k n H Q) := W_icmp_lt (rfl : (pj lw).1 7 9 = some (.if_icmp .lt 5, 3, 0)) rfl
theorem w7_12 : W (pj lw) 7 12 L S k n H Q ↔ W (pj lw) 7 13 L (.int (-1) :: S) k n H Q := W_s (rfl : (pj lw).1 7 12 = some (.iconst (-1), 1, 0)) rfl rfl rfl
theorem w7_13 {x : Int32} : W (pj lw) 7 13 L (.int x :: S) k n H Q ↔ Q (some (.int x)) H := W_r (rfl : (pj lw).1 7 13 = some (.ireturn, 1, 0)) rfl
theorem w7_14 {x : Int32} {l0 l1 : Slot} : W (pj lw) 7 14 (l0 :: l1 :: .val (.int x) :: L) S k n H Q ↔ W (pj lw) 7 15 (l0 :: l1 :: .val (.int x) :: L) (.int x :: S) k n H Q := W_s (rfl : (pj lw).1 7 14 = some (.iload_n 2, 1, 0)) rfl rfl rfl
theorem w7_15 {x : Int32} : W (pj lw) 7 15 L (.int x :: S) k n H Q ↔ (if x = 0 then W (pj lw) 7 18 L S k n H Q else W (pj lw) 7 25 L S k n H Q) := W_if_ne (rfl : (pj lw).1 7 15 = some (.ifCond .ne 10, 3, 0)) rfl
theorem w7_18 {x : Nat} : W (pj lw) 7 18 (.val (.ref x) :: L) S k n H Q ↔ W (pj lw) 7 19 (.val (.ref x) :: L) (.ref x :: S) k n H Q := W_s (rfl : (pj lw).1 7 18 = some (.aload_n 0, 1, 0)) rfl rfl rfl
theorem w7_19 {a : Nat} : W (pj lw) 7 19 L (.ref a :: S) k n H Q ↔ (isO H a = true ∧ W (pj lw) 7 22 L (fld H a 3 :: S) k n H Q) := W_getf (rfl : (pj lw).1 7 19 = some (.getfield 7, 3, 3))
theorem w7_22 {x : Int32} {l0 : Slot} : W (pj lw) 7 22 (l0 :: .val (.int x) :: L) S k n H Q ↔ W (pj lw) 7 23 (l0 :: .val (.int x) :: L) (.int x :: S) k n H Q := W_s (rfl : (pj lw).1 7 22 = some (.iload_n 1, 1, 0)) rfl rfl rfl
theorem w7_23 {i : Int32} {a : Nat} : W (pj lw) 7 23 L (.int i :: .ref a :: S) k n H Q ↔ ((inA H a .byte i = true ∨ inA H a .boolean i = true) ∧ W (pj lw) 7 24 L (elt H a i :: S) k n H Q) := W_baload (rfl : (pj lw).1 7 23 = some (.baload, 1, 0))
theorem w7_24 {x : Int32} : W (pj lw) 7 24 L (.int x :: S) k n H Q ↔ Q (some (.int x)) H := W_r (rfl : (pj lw).1 7 24 = some (.ireturn, 1, 0)) rfl
theorem w7_25 {x : Int32} {l0 l1 : Slot} : W (pj lw) 7 25 (l0 :: l1 :: .val (.int x) :: L) S k n H Q ↔ W (pj lw) 7 26 (l0 :: l1 :: .val (.int x) :: L) (.int x :: S) k n H Q := W_s (rfl : (pj lw).1 7 25 = some (.iload_n 2, 1, 0)) rfl rfl rfl
theorem w7_26 : W (pj lw) 7 26 L S k n H Q ↔ W (pj lw) 7 27 L (.int 1 :: S) k n H Q := W_s (rfl : (pj lw).1 7 26 = some (.iconst 1, 1, 0)) rfl rfl rfl
theorem w7_27 {x y : Int32} : W (pj lw) 7 27 L (.int y :: .int x :: S) k n H Q ↔ (if x = y then W (pj lw) 7 30 L S k n H Q else W (pj lw) 7 37 L S k n H Q) := W_icmp_ne (rfl : (pj lw).1 7 27 = some (.if_icmp .ne 10, 3, 0)) rfl
theorem w7_30 {x : Nat} : W (pj lw) 7 30 (.val (.ref x) :: L) S k n H Q ↔ W (pj lw) 7 31 (.val (.ref x) :: L) (.ref x :: S) k n H Q := W_s (rfl : (pj lw).1 7 30 = some (.aload_n 0, 1, 0)) rfl rfl rfl
theorem w7_31 {a : Nat} : W (pj lw) 7 31 L (.ref a :: S) k n H Q ↔ (isO H a = true ∧ W (pj lw) 7 34 L (fld H a 4 :: S) k n H Q) := W_getf (rfl : (pj lw).1 7 31 = some (.getfield 13, 3, 4))
theorem w7_34 {x : Int32} {l0 : Slot} : W (pj lw) 7 34 (l0 :: .val (.int x) :: L) S k n H Q ↔ W (pj lw) 7 35 (l0 :: .val (.int x) :: L) (.int x :: S) k n H Q := W_s (rfl : (pj lw).1 7 34 = some (.iload_n 1, 1, 0)) rfl rfl rfl
theorem w7_35 {i : Int32} {a : Nat} : W (pj lw) 7 35 L (.int i :: .ref a :: S) k n H Q ↔ ((inA H a .byte i = true ∨ inA H a .boolean i = true) ∧ W (pj lw) 7 36 L (elt H a i :: S) k n H Q) := W_baload (rfl : (pj lw).1 7 35 = some (.baload, 1, 0))
theorem w7_36 {x : Int32} : W (pj lw) 7 36 L (.int x :: S) k n H Q ↔ Q (some (.int x)) H := W_r (rfl : (pj lw).1 7 36 = some (.ireturn, 1, 0)) rfl
theorem w7_37 : W (pj lw) 7 37 L S k n H Q ↔ W (pj lw) 7 38 L (.int (-1) :: S) k n H Q := W_s (rfl : (pj lw).1 7 37 = some (.iconst (-1), 1, 0)) rfl rfl rfl
theorem w7_38 {x : Int32} : W (pj lw) 7 38 L (.int x :: S) k n H Q ↔ Q (some (.int x)) H := W_r (rfl : (pj lw).1 7 38 = some (.ireturn, 1, 0)) rfl
theorem c8 {x0 : Nat} : Cl (pj lw) 8 [.ref x0] H Q ↔ W (pj lw) 8 0 [.val (.ref x0), .unset] [] 0 0 H Q := Iff.rfl
theorem w8_0 {x : Nat} : W (pj lw) 8 0 (.val (.ref x) :: L) S k n H Q ↔ W (pj lw) 8 1 (.val (.ref x) :: L) (.ref x :: S) k n H Q := W_s (rfl : (pj lw).1 8 0 = some (.aload_n 0, 1, 0)) rfl rfl rfl
theorem w8_1 {a : Nat} : W (pj lw) 8 1 L (.ref a :: S) k n H Q ↔ ((isO H a = true ∧ cs S + (1 + 11) + 29 ≤ 64) ∧ Cl (pj lw) 20 [.ref a] H (fun v H => W (pj lw) 8 4 L (v.toList ++ S) k n H Q)) := W_inst (as := []) (rfl : (pj lw).1 8 1 = some (.invokevirtual 54, 3, 20)) rfl rfl rfl (Nat.le_of_ble_eq_true rfl) (Nat.le_of_ble_eq_true rfl) ⟨rfl, rfl⟩
theorem w8_4 {x : Nat} : W (pj lw) 8 4 (.val (.ref x) :: L) S k n H Q ↔ W (pj lw) 8 5 (.val (.ref x) :: L) (.ref x :: S) k n H Q := W_s (rfl : (pj lw).1 8 4 = some (.aload_n 0, 1, 0)) rfl rfl rfl
theorem w8_5 {a : Nat} : W (pj lw) 8 5 L (.ref a :: S) k n H Q ↔ ((isO H a = true ∧ cs S + (1 + 11) + 0 ≤ 64) ∧ Cl (pj lw) 19 [.ref a] H (fun v H => W (pj lw) 8 8 L (v.toList ++ S) k n H Q)) := W_inst (as := []) (rfl : (pj lw).1 8 5 = some (.invokevirtual 47, 3, 19)) rfl rfl rfl (Nat.le_of_ble_eq_true rfl) (Nat.le_of_ble_eq_true rfl) ⟨rfl, rfl⟩
theorem w8_8 {x : Nat} : W (pj lw) 8 8 (.val (.ref x) :: L) S k n H Q ↔ W (pj lw) 8 9 (.val (.ref x) :: L) (.ref x :: S) k n H Q := W_s (rfl : (pj lw).1 8 8 = some (.aload_n 0, 1, 0)) rfl rfl rfl
theorem w8_9 {a : Nat} : W (pj lw) 8 9 L (.ref a :: S) k n H Q ↔ ((isO H a = true ∧ cs S + (2 + 11) + 28 ≤ 64) ∧ Cl (pj lw) 26 [.ref a] H (fun v H => W (pj lw) 8 12 L (v.toList ++ S) k n H Q)) := W_inst (as := []) (rfl : (pj lw).1 8 9 = some (.invokevirtual 57, 3, 26)) rfl rfl rfl (Nat.le_of_ble_eq_true rfl) (Nat.le_of_ble_eq_true rfl) ⟨rfl, rfl⟩
theorem w8_12 {x : Int32} {l0 : Slot} : W (pj lw) 8 12 (l0 :: .unset :: L) (.int x :: S) k n H Q ↔ W (pj lw) 8 13 (l0 :: .val (.int x) :: L) S k n H Q := W_istn (rfl : (pj lw).1 8 12 = some (.istore_n 1, 1, 0)) rfl rfl
theorem w8_13 {x : Int32} {l0 : Slot} : W (pj lw) 8 13 (l0 :: .val (.int x) :: L) S k n H Q ↔ W (pj lw) 8 14 (l0 :: .val (.int x) :: L) (.int x :: S) k n H Q := W_s (rfl : (pj lw).1 8 13 = some (.iload_n 1, 1, 0)) rfl rfl rfl
theorem w8_14 {x : Int32} : W (pj lw) 8 14 L (.int x :: S) k n H Q ↔ (if x < 0 then W (pj lw) 8 35 L S k n H Q else W (pj lw) 8 17 L S k n H Q) := W_if_lt (rfl : (pj lw).1 8 14 = some (.ifCond .lt 21, 3, 0)) rfl
theorem w8_17 {x : Nat} : W (pj lw) 8 17 (.val (.ref x) :: L) S k n H Q ↔ W (pj lw) 8 18 (.val (.ref x) :: L) (.ref x :: S) k n H Q := W_s (rfl : (pj lw).1 8 17 = some (.aload_n 0, 1, 0)) rfl rfl rfl
theorem w8_18 {x : Int32} {l0 : Slot} : W (pj lw) 8 18 (l0 :: .val (.int x) :: L) S k n H Q ↔ W (pj lw) 8 19 (l0 :: .val (.int x) :: L) (.int x :: S) k n H Q := W_s (rfl : (pj lw).1 8 18 = some (.iload_n 1, 1, 0)) rfl rfl rfl
theorem w8_19 {a : Nat} {x0 : Int32} : W (pj lw) 8 19 L (.int x0 :: .ref a :: S) k n H Q ↔ ((isO H a = true ∧ cs S + (4 + 11) + 49 ≤ 64) ∧ Cl (pj lw) 30 [.ref a, .int x0] H (fun v H => W (pj lw) 8 22 L (v.toList ++ S) k n H Q)) := W_inst (as := [.int x0]) (rfl : (pj lw).1 8 19 = some (.invokevirtual 61, 3, 30)) rfl rfl rfl (Nat.le_of_ble_eq_true rfl) (Nat.le_of_ble_eq_true rfl) ⟨rfl, rfl⟩
theorem w8_22 {x : Nat} : W (pj lw) 8 22 (.val (.ref x) :: L) S k n H Q ↔ W (pj lw) 8 23 (.val (.ref x) :: L) (.ref x :: S) k n H Q := W_s (rfl : (pj lw).1 8 22 = some (.aload_n 0, 1, 0)) rfl rfl rfl
theorem w8_23 {x : Int32} {l0 : Slot} : W (pj lw) 8 23 (l0 :: .val (.int x) :: L) S k n H Q ↔ W (pj lw) 8 24 (l0 :: .val (.int x) :: L) (.int x :: S) k n H Q := W_s (rfl : (pj lw).1 8 23 = some (.iload_n 1, 1, 0)) rfl rfl rfl
theorem w8_24 {a : Nat} {v : Value} : W (pj lw) 8 24 L (v :: .ref a :: S) k n H Q ↔ ((isOw H a = true ∧ okv (.int) v = true) ∧ W (pj lw) 8 27 L S k n (wr H a 9 v) Q) := W_putf (rfl : (pj lw).1 8 24 = some (.putfield 65, 3, 9))
theorem w8_27 {x : Nat} : W (pj lw) 8 27 (.val (.ref x) :: L) S k n H Q ↔ W (pj lw) 8 28 (.val (.ref x) :: L) (.ref x :: S) k n H Q := W_s (rfl : (pj lw).1 8 27 = some (.aload_n 0, 1, 0)) rfl rfl rfl
theorem w8_28 : W (pj lw) 8 28 L S k n H Q ↔ W (pj lw) 8 29 L (.int 2 :: S) k n H Q := W_s (rfl : (pj lw).1 8 28 = some (.iconst 2, 1, 0)) rfl rfl rfl
theorem w8_29 {a : Nat} {v : Value} : W (pj lw) 8 29 L (v :: .ref a :: S) k n H Q ↔ ((isOw H a = true ∧ okv (.int) v = true) ∧ W (pj lw) 8 32 L S k n (wr H a 5 v) Q) := W_putf (rfl : (pj lw).1 8 29 = some (.putfield 68, 3, 5))
theorem w8_32 : W (pj lw) 8 32 L S k n H Q ↔ W (pj lw) 8 44 L S k n H Q := W_goto (rfl : (pj lw).1 8 32 = some (.goto 12, 3, 0)) rfl
theorem w8_35 {x : Nat} : W (pj lw) 8 35 (.val (.ref x) :: L) S k n H Q ↔ W (pj lw) 8 36 (.val (.ref x) :: L) (.ref x :: S) k n H Q := W_s (rfl : (pj lw).1 8 35 = some (.aload_n 0, 1, 0)) rfl rfl rfl
theorem w8_36 {a : Nat} : W (pj lw) 8 36 L (.ref a :: S) k n H Q ↔ ((isO H a = true ∧ cs S + (9 + 11) + 15 ≤ 64) ∧ Cl (pj lw) 29 [.ref a] H (fun v H => W (pj lw) 8 39 L (v.toList ++ S) k n H Q)) := W_inst (as := []) (rfl : (pj lw).1 8 36 = some (.invokevirtual 71, 3, 29)) rfl rfl rfl (Nat.le_of_ble_eq_true rfl) (Nat.le_of_ble_eq_true rfl) ⟨rfl, rfl⟩
theorem w8_39 {x : Nat} : W (pj lw) 8 39 (.val (.ref x) :: L) S k n H Q ↔ W (pj lw) 8 40 (.val (.ref x) :: L) (.ref x :: S) k n H Q := W_s (rfl : (pj lw).1 8 39 = some (.aload_n 0, 1, 0)) rfl rfl rfl
theorem w8_40 : W (pj lw) 8 40 L S k n H Q ↔ W (pj lw) 8 41 L (.int 1 :: S) k n H Q := W_s (rfl : (pj lw).1 8 40 = some (.iconst 1, 1, 0)) rfl rfl rfl
theorem w8_41 {a : Nat} {v : Value} : W (pj lw) 8 41 L (v :: .ref a :: S) k n H Q ↔ ((isOw H a = true ∧ okv (.int) v = true) ∧ W (pj lw) 8 44 L S k n (wr H a 5 v) Q) := W_putf (rfl : (pj lw).1 8 41 = some (.putfield 68, 3, 5))
theorem w8_44 {x : Nat} : W (pj lw) 8 44 (.val (.ref x) :: L) S k n H Q ↔ W (pj lw) 8 45 (.val (.ref x) :: L) (.ref x :: S) k n H Q := W_s (rfl : (pj lw).1 8 44 = some (.aload_n 0, 1, 0)) rfl rfl rfl
theorem w8_45 {a : Nat} : W (pj lw) 8 45 L (.ref a :: S) k n H Q ↔ (isO H a = true ∧ W (pj lw) 8 48 L (fld H a 5 :: S) k n H Q) := W_getf (rfl : (pj lw).1 8 45 = some (.getfield 68, 3, 5))
theorem w8_48 {x : Int32} : W (pj lw) 8 48 L (.int x :: S) k n H Q ↔ Q (some (.int x)) H := W_r (rfl : (pj lw).1 8 48 = some (.ireturn, 1, 0)) rfl
theorem c9 {x0 : Nat} : Cl (pj lw) 9 [.ref x0] H Q ↔ W (pj lw) 9 0 [.val (.ref x0)] [] 0 0 H Q := Iff.rfl
theorem w9_0 {x : Nat} : W (pj lw) 9 0 (.val (.ref x) :: L) S k n H Q ↔ W (pj lw) 9 1 (.val (.ref x) :: L) (.ref x :: S) k n H Q := W_s (rfl : (pj lw).1 9 0 = some (.aload_n 0, 1, 0)) rfl rfl rfl
theorem w9_1 {a : Nat} : W (pj lw) 9 1 L (.ref a :: S) k n H Q ↔ (isO H a = true ∧ W (pj lw) 9 4 L (fld H a 5 :: S) k n H Q) := W_getf (rfl : (pj lw).1 9 1 = some (.getfield 68, 3, 5))
theorem w9_4 {x : Int32} : W (pj lw) 9 4 L (.int x :: S) k n H Q ↔ Q (some (.int x)) H := W_r (rfl : (pj lw).1 9 4 = some (.ireturn, 1, 0)) rfl
theorem c10 {x0 : Nat} {x1 : Int32} : Cl (pj lw) 10 [.ref x0, .int x1] H Q ↔ W (pj lw) 10 0 [.val (.ref x0), .val (.int x1)] [] 0 0 H Q := Iff.rfl
theorem w10_0 {x : Nat} : W (pj lw) 10 0 (.val (.ref x) :: L) S k n H Q ↔ W (pj lw) 10 1 (.val (.ref x) :: L) (.ref x :: S) k n H Q := W_s (rfl : (pj lw).1 10 0 = some (.aload_n 0, 1, 0)) rfl rfl rfl
theorem w10_1 {a : Nat} : W (pj lw) 10 1 L (.ref a :: S) k n H Q ↔ (isO H a = true ∧ W (pj lw) 10 4 L (fld H a 5 :: S) k n H Q) := W_getf (rfl : (pj lw).1 10 1 = some (.getfield 68, 3, 5))
theorem w10_4 : W (pj lw) 10 4 L S k n H Q ↔ W (pj lw) 10 5 L (.int 1 :: S) k n H Q := W_s (rfl : (pj lw).1 10 4 = some (.iconst 1, 1, 0)) rfl rfl rfl
theorem w10_5 {x y : Int32} : W (pj lw) 10 5 L (.int y :: .int x :: S) k n H Q ↔ (if x = y then W (pj lw) 10 10 L S k n H Q else W (pj lw) 10 8 L S k n H Q) := W_icmp_eq (rfl : (pj lw).1 10 5 = some (.if_icmp .eq 5, 3, 0)) rfl
theorem w10_8 : W (pj lw) 10 8 L S k n H Q ↔ W (pj lw) 10 9 L (.int (-1) :: S) k n H Q := W_s (rfl : (pj lw).1 10 8 = some (.iconst (-1), 1, 0)) rfl rfl rfl
theorem w10_9 {x : Int32} : W (pj lw) 10 9 L (.int x :: S) k n H Q ↔ Q (some (.int x)) H := W_r (rfl : (pj lw).1 10 9 = some (.ireturn, 1, 0)) rfl
theorem w10_10 {x : Int32} {l0 : Slot} : W (pj lw) 10 10 (l0 :: .val (.int x) :: L) S k n H Q ↔ W (pj lw) 10 11 (l0 :: .val (.int x) :: L) (.int x :: S) k n H Q := W_s (rfl : (pj lw).1 10 10 = some (.iload_n 1, 1, 0)) rfl rfl rfl
theorem w10_11 {x : Int32} : W (pj lw) 10 11 L (.int x :: S) k n H Q ↔ (if x < 0 then W (pj lw) 10 22 L S k n H Q else W (pj lw) 10 14 L S k n H Q) := W_if_lt (rfl : (pj lw).1 10 11 = some (.ifCond .lt 11, 3, 0)) rfl
theorem w10_14 {x : Int32} {l0 : Slot} : W (pj lw) 10 14 (l0 :: .val (.int x) :: L) S k n H Q ↔ W (pj lw) 10 15 (l0 :: .val (.int x) :: L) (.int x :: S) k n H Q := W_s (rfl : (pj lw).1 10 14 = some (.iload_n 1, 1, 0)) rfl rfl rfl
theorem w10_15 {x : Nat} : W (pj lw) 10 15 (.val (.ref x) :: L) S k n H Q ↔ W (pj lw) 10 16 (.val (.ref x) :: L) (.ref x :: S) k n H Q := W_s (rfl : (pj lw).1 10 15 = some (.aload_n 0, 1, 0)) rfl rfl rfl
theorem w10_16 {a : Nat} : W (pj lw) 10 16 L (.ref a :: S) k n H Q ↔ (isO H a = true ∧ W (pj lw) 10 19 L (fld H a 0 :: S) k n H Q) := W_getf (rfl : (pj lw).1 10 16 = some (.getfield 33, 3, 0))
theorem w10_19 {x y : Int32} : W (pj lw) 10 19 L (.int y :: .int x :: S) k n H Q ↔ (if x < y then W (pj lw) 10 24 L S k n H Q else W (pj lw) 10 22 L S k n H Q) := W_icmp_lt (rfl : (pj lw).1 10 19 = some (.if_icmp .lt 5, 3, 0)) rfl
theorem w10_22 : W (pj lw) 10 22 L S k n H Q ↔ W (pj lw) 10 23 L (.int (-1) :: S) k n H Q := W_s (rfl : (pj lw).1 10 22 = some (.iconst (-1), 1, 0)) rfl rfl rfl
theorem w10_23 {x : Int32} : W (pj lw) 10 23 L (.int x :: S) k n H Q ↔ Q (some (.int x)) H := W_r (rfl : (pj lw).1 10 23 = some (.ireturn, 1, 0)) rfl
theorem w10_24 {x : Nat} : W (pj lw) 10 24 (.val (.ref x) :: L) S k n H Q ↔ W (pj lw) 10 25 (.val (.ref x) :: L) (.ref x :: S) k n H Q := W_s (rfl : (pj lw).1 10 24 = some (.aload_n 0, 1, 0)) rfl rfl rfl
theorem w10_25 {a : Nat} : W (pj lw) 10 25 L (.ref a :: S) k n H Q ↔ (isO H a = true ∧ W (pj lw) 10 28 L (fld H a 6 :: S) k n H Q) := W_getf (rfl : (pj lw).1 10 25 = some (.getfield 16, 3, 6))
theorem w10_28 {x : Int32} {l0 : Slot} : W (pj lw) 10 28 (l0 :: .val (.int x) :: L) S k n H Q ↔ W (pj lw) 10 29 (l0 :: .val (.int x) :: L) (.int x :: S) k n H Q := W_s (rfl : (pj lw).1 10 28 = some (.iload_n 1, 1, 0)) rfl rfl rfl
theorem w10_29 {i : Int32} {a : Nat} : W (pj lw) 10 29 L (.int i :: .ref a :: S) k n H Q ↔ ((inA H a .byte i = true ∨ inA H a .boolean i = true) ∧ W (pj lw) 10 30 L (elt H a i :: S) k n H Q) := W_baload (rfl : (pj lw).1 10 29 = some (.baload, 1, 0))
theorem w10_30 {x : Int32} : W (pj lw) 10 30 L (.int x :: S) k n H Q ↔ Q (some (.int x)) H := W_r (rfl : (pj lw).1 10 30 = some (.ireturn, 1, 0)) rfl
theorem c11 {x0 : Nat} : Cl (pj lw) 11 [.ref x0] H Q ↔ W (pj lw) 11 0 [.val (.ref x0)] [] 0 0 H Q := Iff.rfl
theorem w11_0 {x : Nat} : W (pj lw) 11 0 (.val (.ref x) :: L) S k n H Q ↔ W (pj lw) 11 1 (.val (.ref x) :: L) (.ref x :: S) k n H Q := W_s (rfl : (pj lw).1 11 0 = some (.aload_n 0, 1, 0)) rfl rfl rfl
theorem w11_1 {a : Nat} : W (pj lw) 11 1 L (.ref a :: S) k n H Q ↔ (isO H a = true ∧ W (pj lw) 11 4 L (fld H a 5 :: S) k n H Q) := W_getf (rfl : (pj lw).1 11 1 = some (.getfield 68, 3, 5))
theorem w11_4 : W (pj lw) 11 4 L S k n H Q ↔ W (pj lw) 11 5 L (.int 2 :: S) k n H Q := W_s (rfl : (pj lw).1 11 4 = some (.iconst 2, 1, 0)) rfl rfl rfl
theorem w11_5 {x y : Int32} : W (pj lw) 11 5 L (.int y :: .int x :: S) k n H Q ↔ (if x = y then W (pj lw) 11 10 L S k n H Q else W (pj lw) 11 8 L S k n H Q) := W_icmp_eq (rfl : (pj lw).1 11 5 = some (.if_icmp .eq 5, 3, 0)) rfl
theorem w11_8 : W (pj lw) 11 8 L S k n H Q ↔ W (pj lw) 11 9 L (.int (-1) :: S) k n H Q := W_s (rfl : (pj lw).1 11 8 = some (.iconst (-1), 1, 0)) rfl rfl rfl
theorem w11_9 {x : Int32} : W (pj lw) 11 9 L (.int x :: S) k n H Q ↔ Q (some (.int x)) H := W_r (rfl : (pj lw).1 11 9 = some (.ireturn, 1, 0)) rfl
theorem w11_10 {x : Nat} : W (pj lw) 11 10 (.val (.ref x) :: L) S k n H Q ↔ W (pj lw) 11 11 (.val (.ref x) :: L) (.ref x :: S) k n H Q := W_s (rfl : (pj lw).1 11 10 = some (.aload_n 0, 1, 0)) rfl rfl rfl
theorem w11_11 {a : Nat} : W (pj lw) 11 11 L (.ref a :: S) k n H Q ↔ (isO H a = true ∧ W (pj lw) 11 14 L (fld H a 9 :: S) k n H Q) := W_getf (rfl : (pj lw).1 11 11 = some (.getfield 65, 3, 9))
theorem w11_14 {x : Int32} : W (pj lw) 11 14 L (.int x :: S) k n H Q ↔ Q (some (.int x)) H := W_r (rfl : (pj lw).1 11 14 = some (.ireturn, 1, 0)) rfl
theorem c12 {x0 : Nat} : Cl (pj lw) 12 [.ref x0] H Q ↔ W (pj lw) 12 0 [.val (.ref x0)] [] 0 0 H Q := Iff.rfl
theorem w12_0 {x : Nat} : W (pj lw) 12 0 (.val (.ref x) :: L) S k n H Q ↔ W (pj lw) 12 1 (.val (.ref x) :: L) (.ref x :: S) k n H Q := W_s (rfl : (pj lw).1 12 0 = some (.aload_n 0, 1, 0)) rfl rfl rfl
theorem w12_1 {a : Nat} : W (pj lw) 12 1 L (.ref a :: S) k n H Q ↔ (isO H a = true ∧ W (pj lw) 12 4 L (fld H a 5 :: S) k n H Q) := W_getf (rfl : (pj lw).1 12 1 = some (.getfield 68, 3, 5))
theorem w12_4 : W (pj lw) 12 4 L S k n H Q ↔ W (pj lw) 12 5 L (.int 2 :: S) k n H Q := W_s (rfl : (pj lw).1 12 4 = some (.iconst 2, 1, 0)) rfl rfl rfl
theorem w12_5 {x y : Int32} : W (pj lw) 12 5 L (.int y :: .int x :: S) k n H Q ↔ (if x = y then W (pj lw) 12 10 L S k n H Q else W (pj lw) 12 8 L S k n H Q) := W_icmp_eq (rfl : (pj lw).1 12 5 = some (.if_icmp .eq 5, 3, 0)) rfl
theorem w12_8 : W (pj lw) 12 8 L S k n H Q ↔ W (pj lw) 12 9 L (.int 0 :: S) k n H Q := W_s (rfl : (pj lw).1 12 8 = some (.iconst 0, 1, 0)) rfl rfl rfl
theorem w12_9 {x : Int32} : W (pj lw) 12 9 L (.int x :: S) k n H Q ↔ Q (some (.int x)) H := W_r (rfl : (pj lw).1 12 9 = some (.ireturn, 1, 0)) rfl
theorem w12_10 {x : Nat} : W (pj lw) 12 10 (.val (.ref x) :: L) S k n H Q ↔ W (pj lw) 12 11 (.val (.ref x) :: L) (.ref x :: S) k n H Q := W_s (rfl : (pj lw).1 12 10 = some (.aload_n 0, 1, 0)) rfl rfl rfl
theorem w12_11 {a : Nat} : W (pj lw) 12 11 L (.ref a :: S) k n H Q ↔ (isO H a = true ∧ W (pj lw) 12 14 L (fld H a 8 :: S) k n H Q) := W_getf (rfl : (pj lw).1 12 11 = some (.getfield 74, 3, 8))
theorem w12_14 {x : Int32} : W (pj lw) 12 14 L (.int x :: S) k n H Q ↔ Q (some (.int x)) H := W_r (rfl : (pj lw).1 12 14 = some (.ireturn, 1, 0)) rfl
theorem c13 {x0 : Nat} {x1 : Int32} : Cl (pj lw) 13 [.ref x0, .int x1] H Q ↔ W (pj lw) 13 0 [.val (.ref x0), .val (.int x1)] [] 0 0 H Q := Iff.rfl
theorem w13_0 {x : Nat} : W (pj lw) 13 0 (.val (.ref x) :: L) S k n H Q ↔ W (pj lw) 13 1 (.val (.ref x) :: L) (.ref x :: S) k n H Q := W_s (rfl : (pj lw).1 13 0 = some (.aload_n 0, 1, 0)) rfl rfl rfl
theorem w13_1 {a : Nat} : W (pj lw) 13 1 L (.ref a :: S) k n H Q ↔ (isO H a = true ∧ W (pj lw) 13 4 L (fld H a 5 :: S) k n H Q) := W_getf (rfl : (pj lw).1 13 1 = some (.getfield 68, 3, 5))
theorem w13_4 : W (pj lw) 13 4 L S k n H Q ↔ W (pj lw) 13 5 L (.int 2 :: S) k n H Q := W_s (rfl : (pj lw).1 13 4 = some (.iconst 2, 1, 0)) rfl rfl rfl
theorem w13_5 {x y : Int32} : W (pj lw) 13 5 L (.int y :: .int x :: S) k n H Q ↔ (if x = y then W (pj lw) 13 10 L S k n H Q else W (pj lw) 13 8 L S k n H Q) := W_icmp_eq (rfl : (pj lw).1 13 5 = some (.if_icmp .eq 5, 3, 0)) rfl
theorem w13_8 : W (pj lw) 13 8 L S k n H Q ↔ W (pj lw) 13 9 L (.int (-1) :: S) k n H Q := W_s (rfl : (pj lw).1 13 8 = some (.iconst (-1), 1, 0)) rfl rfl rfl
theorem w13_9 {x : Int32} : W (pj lw) 13 9 L (.int x :: S) k n H Q ↔ Q (some (.int x)) H := W_r (rfl : (pj lw).1 13 9 = some (.ireturn, 1, 0)) rfl
theorem w13_10 {x : Int32} {l0 : Slot} : W (pj lw) 13 10 (l0 :: .val (.int x) :: L) S k n H Q ↔ W (pj lw) 13 11 (l0 :: .val (.int x) :: L) (.int x :: S) k n H Q := W_s (rfl : (pj lw).1 13 10 = some (.iload_n 1, 1, 0)) rfl rfl rfl
theorem w13_11 {x : Int32} : W (pj lw) 13 11 L (.int x :: S) k n H Q ↔ (if x < 0 then W (pj lw) 13 22 L S k n H Q else W (pj lw) 13 14 L S k n H Q) := W_if_lt (rfl : (pj lw).1 13 11 = some (.ifCond .lt 11, 3, 0)) rfl
theorem w13_14 {x : Int32} {l0 : Slot} : W (pj lw) 13 14 (l0 :: .val (.int x) :: L) S k n H Q ↔ W (pj lw) 13 15 (l0 :: .val (.int x) :: L) (.int x :: S) k n H Q := W_s (rfl : (pj lw).1 13 14 = some (.iload_n 1, 1, 0)) rfl rfl rfl
theorem w13_15 {x : Nat} : W (pj lw) 13 15 (.val (.ref x) :: L) S k n H Q ↔ W (pj lw) 13 16 (.val (.ref x) :: L) (.ref x :: S) k n H Q := W_s (rfl : (pj lw).1 13 15 = some (.aload_n 0, 1, 0)) rfl rfl rfl
theorem w13_16 {a : Nat} : W (pj lw) 13 16 L (.ref a :: S) k n H Q ↔ (isO H a = true ∧ W (pj lw) 13 19 L (fld H a 8 :: S) k n H Q) := W_getf (rfl : (pj lw).1 13 16 = some (.getfield 74, 3, 8))
theorem w13_19 {x y : Int32} : W (pj lw) 13 19 L (.int y :: .int x :: S) k n H Q ↔ (if x < y then W (pj lw) 13 24 L S k n H Q else W (pj lw) 13 22 L S k n H Q) := W_icmp_lt (rfl : (pj lw).1 13 19 = some (.if_icmp .lt 5, 3, 0)) rfl
theorem w13_22 : W (pj lw) 13 22 L S k n H Q ↔ W (pj lw) 13 23 L (.int (-1) :: S) k n H Q := W_s (rfl : (pj lw).1 13 22 = some (.iconst (-1), 1, 0)) rfl rfl rfl
theorem w13_23 {x : Int32} : W (pj lw) 13 23 L (.int x :: S) k n H Q ↔ Q (some (.int x)) H := W_r (rfl : (pj lw).1 13 23 = some (.ireturn, 1, 0)) rfl
theorem w13_24 {x : Nat} : W (pj lw) 13 24 (.val (.ref x) :: L) S k n H Q ↔ W (pj lw) 13 25 (.val (.ref x) :: L) (.ref x :: S) k n H Q := W_s (rfl : (pj lw).1 13 24 = some (.aload_n 0, 1, 0)) rfl rfl rfl
theorem w13_25 {a : Nat} : W (pj lw) 13 25 L (.ref a :: S) k n H Q ↔ (isO H a = true ∧ W (pj lw) 13 28 L (fld H a 7 :: S) k n H Q) := W_getf (rfl : (pj lw).1 13 25 = some (.getfield 19, 3, 7))
theorem w13_28 {x : Int32} {l0 : Slot} : W (pj lw) 13 28 (l0 :: .val (.int x) :: L) S k n H Q ↔ W (pj lw) 13 29 (l0 :: .val (.int x) :: L) (.int x :: S) k n H Q := W_s (rfl : (pj lw).1 13 28 = some (.iload_n 1, 1, 0)) rfl rfl rfl
theorem w13_29 {i : Int32} {a : Nat} : W (pj lw) 13 29 L (.int i :: .ref a :: S) k n H Q ↔ ((inA H a .byte i = true ∨ inA H a .boolean i = true) ∧ W (pj lw) 13 30 L (elt H a i :: S) k n H Q) := W_baload (rfl : (pj lw).1 13 29 = some (.baload, 1, 0))
theorem w13_30 {x : Int32} : W (pj lw) 13 30 L (.int x :: S) k n H Q ↔ Q (some (.int x)) H := W_r (rfl : (pj lw).1 13 30 = some (.ireturn, 1, 0)) rfl
theorem c14 {x0 : Nat} {x1 : Int32} {x2 : Int32} : Cl (pj lw) 14 [.ref x0, .int x1, .int x2] H Q ↔ W (pj lw) 14 0 [.val (.ref x0), .val (.int x1), .val (.int x2)] [] 0 0 H Q := Iff.rfl
theorem w14_0 {x : Nat} : W (pj lw) 14 0 (.val (.ref x) :: L) S k n H Q ↔ W (pj lw) 14 1 (.val (.ref x) :: L) (.ref x :: S) k n H Q := W_s (rfl : (pj lw).1 14 0 = some (.aload_n 0, 1, 0)) rfl rfl rfl
theorem w14_1 {x : Int32} {l0 : Slot} : W (pj lw) 14 1 (l0 :: .val (.int x) :: L) S k n H Q ↔ W (pj lw) 14 2 (l0 :: .val (.int x) :: L) (.int x :: S) k n H Q := W_s (rfl : (pj lw).1 14 1 = some (.iload_n 1, 1, 0)) rfl rfl rfl
theorem w14_2 {a : Nat} {x0 : Int32} : W (pj lw) 14 2 L (.int x0 :: .ref a :: S) k n H Q ↔ ((isO H a = true ∧ cs S + (2 + 11) + 0 ≤ 41) ∧ Cl (pj lw) 18 [.ref a, .int x0] H (fun v H => W (pj lw) 14 5 L (v.toList ++ S) k n H Q)) := W_inst (as := [.int x0]) (rfl : (pj lw).1 14 2 = some (.invokevirtual 50, 3, 18)) rfl rfl rfl (Nat.le_of_ble_eq_true rfl) (Nat.le_of_ble_eq_true rfl) ⟨rfl, rfl⟩
theorem w14_5 {x : Int32} : W (pj lw) 14 5 L (.int x :: S) k n H Q ↔ (if x = 0 then W (pj lw) 14 16 L S k n H Q else W (pj lw) 14 8 L S k n H Q) := W_if_eq (rfl : (pj lw).1 14 5 = some (.ifCond .eq 11, 3, 0)) rfl
theorem w14_8 {x : Nat} : W (pj lw) 14 8 (.val (.ref x) :: L) S k n H Q ↔ W (pj lw) 14 9 (.val (.ref x) :: L) (.ref x :: S) k n H Q := W_s (rfl : (pj lw).1 14 8 = some (.aload_n 0, 1, 0)) rfl rfl rfl
theorem w14_9 {x : Int32} {l0 l1 : Slot} : W (pj lw) 14 9 (l0 :: l1 :: .val (.int x) :: L) S k n H Q ↔ W (pj lw) 14 10 (l0 :: l1 :: .val (.int x) :: L) (.int x :: S) k n H Q := W_s (rfl : (pj lw).1 14 9 = some (.iload_n 2, 1, 0)) rfl rfl rfl
theorem w14_10 {a : Nat} {x0 : Int32} : W (pj lw) 14 10 L (.int x0 :: .ref a :: S) k n H Q ↔ ((isO H a = true ∧ cs S + (2 + 11) + 0 ≤ 41) ∧ Cl (pj lw) 18 [.ref a, .int x0] H (fun v H => W (pj lw) 14 13 L (v.toList ++ S) k n H Q)) := W_inst (as := [.int x0]) (rfl : (pj lw).1 14 10 = some (.invokevirtual 50, 3, 18)) rfl rfl rfl (Nat.le_of_ble_eq_true rfl) (Nat.le_of_ble_eq_true rfl) ⟨rfl, rfl⟩
theorem w14_13 {x : Int32} : W (pj lw) 14 13 L (.int x :: S) k n H Q ↔ (if x = 0 then W (pj lw) 14 16 L S k n H Q else W (pj lw) 14 18 L S k n H Q) := W_if_ne (rfl : (pj lw).1 14 13 = some (.ifCond .ne 5, 3, 0)) rfl
theorem w14_16 : W (pj lw) 14 16 L S k n H Q ↔ W (pj lw) 14 17 L (.int 0 :: S) k n H Q := W_s (rfl : (pj lw).1 14 16 = some (.iconst 0, 1, 0)) rfl rfl rfl
theorem w14_17 {x : Int32} : W (pj lw) 14 17 L (.int x :: S) k n H Q ↔ ((x = 0 ∨ x = 1) ∧ Q (some (.int x)) H) := W_rz (rfl : (pj lw).1 14 17 = some (.ireturn, 1, 0)) rfl
theorem w14_18 {x : Nat} : W (pj lw) 14 18 (.val (.ref x) :: L) S k n H Q ↔ W (pj lw) 14 19 (.val (.ref x) :: L) (.ref x :: S) k n H Q := W_s (rfl : (pj lw).1 14 18 = some (.aload_n 0, 1, 0)) rfl rfl rfl
theorem w14_19 {a : Nat} : W (pj lw) 14 19 L (.ref a :: S) k n H Q ↔ ((isO H a = true ∧ cs S + (1 + 11) + 29 ≤ 41) ∧ Cl (pj lw) 20 [.ref a] H (fun v H => W (pj lw) 14 22 L (v.toList ++ S) k n H Q)) := W_inst (as := []) (rfl : (pj lw).1 14 19 = some (.invokevirtual 54, 3, 20)) rfl rfl rfl (Nat.le_of_ble_eq_true rfl) (Nat.le_of_ble_eq_true rfl) ⟨rfl, rfl⟩
theorem w14_22 {x : Nat} : W (pj lw) 14 22 (.val (.ref x) :: L) S k n H Q ↔ W (pj lw) 14 23 (.val (.ref x) :: L) (.ref x :: S) k n H Q := W_s (rfl : (pj lw).1 14 22 = some (.aload_n 0, 1, 0)) rfl rfl rfl
theorem w14_23 {x : Int32} {l0 : Slot} : W (pj lw) 14 23 (l0 :: .val (.int x) :: L) S k n H Q ↔ W (pj lw) 14 24 (l0 :: .val (.int x) :: L) (.int x :: S) k n H Q := W_s (rfl : (pj lw).1 14 23 = some (.iload_n 1, 1, 0)) rfl rfl rfl
theorem w14_24 {x : Int32} {l0 l1 : Slot} : W (pj lw) 14 24 (l0 :: l1 :: .val (.int x) :: L) S k n H Q ↔ W (pj lw) 14 25 (l0 :: l1 :: .val (.int x) :: L) (.int x :: S) k n H Q := W_s (rfl : (pj lw).1 14 24 = some (.iload_n 2, 1, 0)) rfl rfl rfl
theorem w14_25 {a : Nat} {x0 : Int32} {x1 : Int32} : W (pj lw) 14 25 L (.int x1 :: .int x0 :: .ref a :: S) k n H Q ↔ ((isO H a = true ∧ cs S + (3 + 11) + 0 ≤ 41) ∧ Cl (pj lw) 23 [.ref a, .int x0, .int x1] H (fun v H => W (pj lw) 14 28 L (v.toList ++ S) k n H Q)) := W_inst (as := [.int x0, .int x1]) (rfl : (pj lw).1 14 25 = some (.invokevirtual 77, 3, 23)) rfl rfl rfl (Nat.le_of_ble_eq_true rfl) (Nat.le_of_ble_eq_true rfl) ⟨rfl, rfl⟩
theorem w14_28 {x : Int32} : W (pj lw) 14 28 L (.int x :: S) k n H Q ↔ ((x = 0 ∨ x = 1) ∧ Q (some (.int x)) H) := W_rz (rfl : (pj lw).1 14 28 = some (.ireturn, 1, 0)) rfl
theorem c15 {x0 : Nat} {x1 : Int32} {x2 : Int32} : Cl (pj lw) 15 [.ref x0, .int x1, .int x2] H Q ↔ W (pj lw) 15 0 [.val (.ref x0), .val (.int x1), .val (.int x2)] [] 0 0 H Q := Iff.rfl
theorem w15_0 {x : Nat} : W (pj lw) 15 0 (.val (.ref x) :: L) S k n H Q ↔ W (pj lw) 15 1 (.val (.ref x) :: L) (.ref x :: S) k n H Q := W_s (rfl : (pj lw).1 15 0 = some (.aload_n 0, 1, 0)) rfl rfl rfl
theorem w15_1 {x : Int32} {l0 : Slot} : W (pj lw) 15 1 (l0 :: .val (.int x) :: L) S k n H Q ↔ W (pj lw) 15 2 (l0 :: .val (.int x) :: L) (.int x :: S) k n H Q := W_s (rfl : (pj lw).1 15 1 = some (.iload_n 1, 1, 0)) rfl rfl rfl
theorem w15_2 {a : Nat} {x0 : Int32} : W (pj lw) 15 2 L (.int x0 :: .ref a :: S) k n H Q ↔ ((isO H a = true ∧ cs S + (2 + 11) + 0 ≤ 41) ∧ Cl (pj lw) 18 [.ref a, .int x0] H (fun v H => W (pj lw) 15 5 L (v.toList ++ S) k n H Q)) := W_inst (as := [.int x0]) (rfl : (pj lw).1 15 2 = some (.invokevirtual 50, 3, 18)) rfl rfl rfl (Nat.le_of_ble_eq_true rfl) (Nat.le_of_ble_eq_true rfl) ⟨rfl, rfl⟩
theorem w15_5 {x : Int32} : W (pj lw) 15 5 L (.int x :: S) k n H Q ↔ (if x = 0 then W (pj lw) 15 16 L S k n H Q else W (pj lw) 15 8 L S k n H Q) := W_if_eq (rfl : (pj lw).1 15 5 = some (.ifCond .eq 11, 3, 0)) rfl
theorem w15_8 {x : Nat} : W (pj lw) 15 8 (.val (.ref x) :: L) S k n H Q ↔ W (pj lw) 15 9 (.val (.ref x) :: L) (.ref x :: S) k n H Q := W_s (rfl : (pj lw).1 15 8 = some (.aload_n 0, 1, 0)) rfl rfl rfl
theorem w15_9 {x : Int32} {l0 l1 : Slot} : W (pj lw) 15 9 (l0 :: l1 :: .val (.int x) :: L) S k n H Q ↔ W (pj lw) 15 10 (l0 :: l1 :: .val (.int x) :: L) (.int x :: S) k n H Q := W_s (rfl : (pj lw).1 15 9 = some (.iload_n 2, 1, 0)) rfl rfl rfl
theorem w15_10 {a : Nat} {x0 : Int32} : W (pj lw) 15 10 L (.int x0 :: .ref a :: S) k n H Q ↔ ((isO H a = true ∧ cs S + (2 + 11) + 0 ≤ 41) ∧ Cl (pj lw) 18 [.ref a, .int x0] H (fun v H => W (pj lw) 15 13 L (v.toList ++ S) k n H Q)) := W_inst (as := [.int x0]) (rfl : (pj lw).1 15 10 = some (.invokevirtual 50, 3, 18)) rfl rfl rfl (Nat.le_of_ble_eq_true rfl) (Nat.le_of_ble_eq_true rfl) ⟨rfl, rfl⟩
theorem w15_13 {x : Int32} : W (pj lw) 15 13 L (.int x :: S) k n H Q ↔ (if x = 0 then W (pj lw) 15 16 L S k n H Q else W (pj lw) 15 18 L S k n H Q) := W_if_ne (rfl : (pj lw).1 15 13 = some (.ifCond .ne 5, 3, 0)) rfl
theorem w15_16 : W (pj lw) 15 16 L S k n H Q ↔ W (pj lw) 15 17 L (.int 0 :: S) k n H Q := W_s (rfl : (pj lw).1 15 16 = some (.iconst 0, 1, 0)) rfl rfl rfl
theorem w15_17 {x : Int32} : W (pj lw) 15 17 L (.int x :: S) k n H Q ↔ ((x = 0 ∨ x = 1) ∧ Q (some (.int x)) H) := W_rz (rfl : (pj lw).1 15 17 = some (.ireturn, 1, 0)) rfl
theorem w15_18 {x : Nat} : W (pj lw) 15 18 (.val (.ref x) :: L) S k n H Q ↔ W (pj lw) 15 19 (.val (.ref x) :: L) (.ref x :: S) k n H Q := W_s (rfl : (pj lw).1 15 18 = some (.aload_n 0, 1, 0)) rfl rfl rfl
theorem w15_19 {a : Nat} : W (pj lw) 15 19 L (.ref a :: S) k n H Q ↔ ((isO H a = true ∧ cs S + (1 + 11) + 29 ≤ 41) ∧ Cl (pj lw) 20 [.ref a] H (fun v H => W (pj lw) 15 22 L (v.toList ++ S) k n H Q)) := W_inst (as := []) (rfl : (pj lw).1 15 19 = some (.invokevirtual 54, 3, 20)) rfl rfl rfl (Nat.le_of_ble_eq_true rfl) (Nat.le_of_ble_eq_true rfl) ⟨rfl, rfl⟩
theorem w15_22 {x : Nat} : W (pj lw) 15 22 (.val (.ref x) :: L) S k n H Q ↔ W (pj lw) 15 23 (.val (.ref x) :: L) (.ref x :: S) k n H Q := W_s (rfl : (pj lw).1 15 22 = some (.aload_n 0, 1, 0)) rfl rfl rfl
theorem w15_23 {x : Int32} {l0 : Slot} : W (pj lw) 15 23 (l0 :: .val (.int x) :: L) S k n H Q ↔ W (pj lw) 15 24 (l0 :: .val (.int x) :: L) (.int x :: S) k n H Q := W_s (rfl : (pj lw).1 15 23 = some (.iload_n 1, 1, 0)) rfl rfl rfl
theorem w15_24 {x : Int32} {l0 l1 : Slot} : W (pj lw) 15 24 (l0 :: l1 :: .val (.int x) :: L) S k n H Q ↔ W (pj lw) 15 25 (l0 :: l1 :: .val (.int x) :: L) (.int x :: S) k n H Q := W_s (rfl : (pj lw).1 15 24 = some (.iload_n 2, 1, 0)) rfl rfl rfl
theorem w15_25 {a : Nat} {x0 : Int32} {x1 : Int32} : W (pj lw) 15 25 L (.int x1 :: .int x0 :: .ref a :: S) k n H Q ↔ ((isO H a = true ∧ cs S + (3 + 11) + 14 ≤ 41) ∧ Cl (pj lw) 24 [.ref a, .int x0, .int x1] H (fun v H => W (pj lw) 15 28 L (v.toList ++ S) k n H Q)) := W_inst (as := [.int x0, .int x1]) (rfl : (pj lw).1 15 25 = some (.invokevirtual 81, 3, 24)) rfl rfl rfl (Nat.le_of_ble_eq_true rfl) (Nat.le_of_ble_eq_true rfl) ⟨rfl, rfl⟩
theorem w15_28 {x : Int32} : W (pj lw) 15 28 L (.int x :: S) k n H Q ↔ ((x = 0 ∨ x = 1) ∧ Q (some (.int x)) H) := W_rz (rfl : (pj lw).1 15 28 = some (.ireturn, 1, 0)) rfl
theorem c16 {x0 : Nat} : Cl (pj lw) 16 [.ref x0] H Q ↔ W (pj lw) 16 0 [.val (.ref x0), .unset, .unset, .unset] [] 0 0 H Q := Iff.rfl
theorem w16_0 {x : Nat} : W (pj lw) 16 0 (.val (.ref x) :: L) S k n H Q ↔ W (pj lw) 16 1 (.val (.ref x) :: L) (.ref x :: S) k n H Q := W_s (rfl : (pj lw).1 16 0 = some (.aload_n 0, 1, 0)) rfl rfl rfl
theorem w16_1 {a : Nat} : W (pj lw) 16 1 L (.ref a :: S) k n H Q ↔ ((isO H a = true ∧ cs S + (1 + 11) + 29 ≤ 42) ∧ Cl (pj lw) 20 [.ref a] H (fun v H => W (pj lw) 16 4 L (v.toList ++ S) k n H Q)) := W_inst (as := []) (rfl : (pj lw).1 16 1 = some (.invokevirtual 54, 3, 20)) rfl rfl rfl (Nat.le_of_ble_eq_true rfl) (Nat.le_of_ble_eq_true rfl) ⟨rfl, rfl⟩
theorem w16_4 {x : Nat} : W (pj lw) 16 4 (.val (.ref x) :: L) S k n H Q ↔ W (pj lw) 16 5 (.val (.ref x) :: L) (.ref x :: S) k n H Q := W_s (rfl : (pj lw).1 16 4 = some (.aload_n 0, 1, 0)) rfl rfl rfl
theorem w16_5 {a : Nat} : W (pj lw) 16 5 L (.ref a :: S) k n H Q ↔ ((isO H a = true ∧ cs S + (1 + 11) + 0 ≤ 42) ∧ Cl (pj lw) 17 [.ref a] H (fun v H => W (pj lw) 16 8 L (v.toList ++ S) k n H Q)) := W_inst (as := []) (rfl : (pj lw).1 16 5 = some (.invokevirtual 84, 3, 17)) rfl rfl rfl (Nat.le_of_ble_eq_true rfl) (Nat.le_of_ble_eq_true rfl) ⟨rfl, rfl⟩
theorem w16_8 {x : Int32} {l0 : Slot} : W (pj lw) 16 8 (l0 :: .unset :: L) (.int x :: S) k n H Q ↔ W (pj lw) 16 9 (l0 :: .val (.int x) :: L) S k n H Q := W_istn (rfl : (pj lw).1 16 8 = some (.istore_n 1, 1, 0)) rfl rfl
theorem w16_9 : W (pj lw) 16 9 L S k n H Q ↔ W (pj lw) 16 10 L (.int 0 :: S) k n H Q := W_s (rfl : (pj lw).1 16 9 = some (.iconst 0, 1, 0)) rfl rfl rfl
theorem w16_10 {x : Int32} {l0 l1 : Slot} : W (pj lw) 16 10 (l0 :: l1 :: .unset :: L) (.int x :: S) k n H Q ↔ W (pj lw) 16 11 (l0 :: l1 :: .val (.int x) :: L) S k n H Q := W_istn (rfl : (pj lw).1 16 10 = some (.istore_n 2, 1, 0)) rfl rfl
theorem w16_11 : W (pj lw) 16 11 L S k n H Q ↔ W (pj lw) 16 12 L (.int 0 :: S) k n H Q := W_s (rfl : (pj lw).1 16 11 = some (.iconst 0, 1, 0)) rfl rfl rfl
theorem w16_12 {x : Int32} {l0 l1 l2 : Slot} : W (pj lw) 16 12 (l0 :: l1 :: l2 :: .unset :: L) (.int x :: S) k n H Q ↔ W (pj lw) 16 13 (l0 :: l1 :: l2 :: .val (.int x) :: L) S k n H Q := W_istn (rfl : (pj lw).1 16 12 = some (.istore_n 3, 1, 0)) rfl rfl
theorem w16_13 {x : Int32} {l0 l1 l2 : Slot} : W (pj lw) 16 13 (l0 :: l1 :: l2 :: .val (.int x) :: L) S k n H Q ↔ W (pj lw) 16 14 (l0 :: l1 :: l2 :: .val (.int x) :: L) (.int x :: S) k n H Q := W_s (rfl : (pj lw).1 16 13 = some (.iload_n 3, 1, 0)) rfl rfl rfl
theorem w16_14 {x : Int32} {l0 : Slot} : W (pj lw) 16 14 (l0 :: .val (.int x) :: L) S k n H Q ↔ W (pj lw) 16 15 (l0 :: .val (.int x) :: L) (.int x :: S) k n H Q := W_s (rfl : (pj lw).1 16 14 = some (.iload_n 1, 1, 0)) rfl rfl rfl
theorem w16_15 {x y : Int32} : W (pj lw) 16 15 L (.int y :: .int x :: S) k n H Q ↔ (if x < y then W (pj lw) 16 18 L S k n H Q else W (pj lw) 16 35 L S k n H Q) := W_icmp_ge (rfl : (pj lw).1 16 15 = some (.if_icmp .ge 20, 3, 0)) rfl
theorem w16_18 {x : Nat} : W (pj lw) 16 18 (.val (.ref x) :: L) S k n H Q ↔ W (pj lw) 16 19 (.val (.ref x) :: L) (.ref x :: S) k n H Q := W_s (rfl : (pj lw).1 16 18 = some (.aload_n 0, 1, 0)) rfl rfl rfl
theorem w16_19 {x : Int32} {l0 l1 l2 : Slot} : W (pj lw) 16 19 (l0 :: l1 :: l2 :: .val (.int x) :: L) S k n H Q ↔ W (pj lw) 16 20 (l0 :: l1 :: l2 :: .val (.int x) :: L) (.int x :: S) k n H Q := W_s (rfl : (pj lw).1 16 19 = some (.iload_n 3, 1, 0)) rfl rfl rfl
theorem w16_20 {a : Nat} {x0 : Int32} : W (pj lw) 16 20 L (.int x0 :: .ref a :: S) k n H Q ↔ ((isO H a = true ∧ cs S + (3 + 11) + 28 ≤ 42) ∧ Cl (pj lw) 25 [.ref a, .int x0] H (fun v H => W (pj lw) 16 23 L (v.toList ++ S) k n H Q)) := W_inst (as := [.int x0]) (rfl : (pj lw).1 16 20 = some (.invokevirtual 87, 3, 25)) rfl rfl rfl (Nat.le_of_ble_eq_true rfl) (Nat.le_of_ble_eq_true rfl) ⟨rfl, rfl⟩
theorem w16_23 {x : Int32} : W (pj lw) 16 23 L (.int x :: S) k n H Q ↔ (if x = 0 then W (pj lw) 16 29 L S k n H Q else W (pj lw) 16 26 L S k n H Q) := W_if_eq (rfl : (pj lw).1 16 23 = some (.ifCond .eq 6, 3, 0)) rfl
theorem w16_26 {x : Int32} {l0 l1 : Slot} : W (pj lw) 16 26 (l0 :: l1 :: .val (.int x) :: L) S k n H Q ↔ W (pj lw) 16 29 (l0 :: l1 :: .val (.int (x + 1)) :: L) S k n H Q := W_s (rfl : (pj lw).1 16 26 = some (.iinc 2 1, 3, 0)) rfl rfl rfl
theorem w16_29 {x : Int32} {l0 l1 l2 : Slot} : W (pj lw) 16 29 (l0 :: l1 :: l2 :: .val (.int x) :: L) S k n H Q ↔ W (pj lw) 16 32 (l0 :: l1 :: l2 :: .val (.int (x + 1)) :: L) S k n H Q := W_s (rfl : (pj lw).1 16 29 = some (.iinc 3 1, 3, 0)) rfl rfl rfl
theorem w16_32 : W (pj lw) 16 32 L S k n H Q ↔ W (pj lw) 16 13 L S k n H Q := W_goto (rfl : (pj lw).1 16 32 = some (.goto (-19), 3, 0)) rfl
theorem w16_35 {x : Int32} {l0 l1 : Slot} : W (pj lw) 16 35 (l0 :: l1 :: .val (.int x) :: L) S k n H Q ↔ W (pj lw) 16 36 (l0 :: l1 :: .val (.int x) :: L) (.int x :: S) k n H Q := W_s (rfl : (pj lw).1 16 35 = some (.iload_n 2, 1, 0)) rfl rfl rfl
theorem w16_36 {x : Int32} : W (pj lw) 16 36 L (.int x :: S) k n H Q ↔ Q (some (.int x)) H := W_r (rfl : (pj lw).1 16 36 = some (.ireturn, 1, 0)) rfl
theorem c17 {x0 : Nat} : Cl (pj lw) 17 [.ref x0] H Q ↔ W (pj lw) 17 0 [.val (.ref x0)] [] 0 0 H Q := Iff.rfl
theorem w17_0 : W (pj lw) 17 0 L S k n H Q ↔ W (pj lw) 17 1 L (.int 2 :: S) k n H Q := W_s (rfl : (pj lw).1 17 0 = some (.iconst 2, 1, 0)) rfl rfl rfl
theorem w17_1 {x : Nat} : W (pj lw) 17 1 (.val (.ref x) :: L) S k n H Q ↔ W (pj lw) 17 2 (.val (.ref x) :: L) (.ref x :: S) k n H Q := W_s (rfl : (pj lw).1 17 1 = some (.aload_n 0, 1, 0)) rfl rfl rfl
theorem w17_2 {a : Nat} : W (pj lw) 17 2 L (.ref a :: S) k n H Q ↔ (isO H a = true ∧ W (pj lw) 17 5 L (fld H a 0 :: S) k n H Q) := W_getf (rfl : (pj lw).1 17 2 = some (.getfield 33, 3, 0))
theorem w17_5 {x y : Int32} : W (pj lw) 17 5 L (.int y :: .int x :: S) k n H Q ↔ W (pj lw) 17 6 L (.int (x * y) :: S) k n H Q := W_s (rfl : (pj lw).1 17 5 = some (.imul, 1, 0)) rfl rfl rfl
theorem w17_6 {x : Int32} : W (pj lw) 17 6 L (.int x :: S) k n H Q ↔ Q (some (.int x)) H := W_r (rfl : (pj lw).1 17 6 = some (.ireturn, 1, 0)) rfl
theorem c18 {x0 : Nat} {x1 : Int32} : Cl (pj lw) 18 [.ref x0, .int x1] H Q ↔ W (pj lw) 18 0 [.val (.ref x0), .val (.int x1)] [] 0 0 H Q := Iff.rfl
theorem w18_0 {x : Int32} {l0 : Slot} : W (pj lw) 18 0 (l0 :: .val (.int x) :: L) S k n H Q ↔ W (pj lw) 18 1 (l0 :: .val (.int x) :: L) (.int x :: S) k n H Q := W_s (rfl : (pj lw).1 18 0 = some (.iload_n 1, 1, 0)) rfl rfl rfl
theorem w18_1 {x : Int32} : W (pj lw) 18 1 L (.int x :: S) k n H Q ↔ (if x < 0 then W (pj lw) 18 18 L S k n H Q else W (pj lw) 18 4 L S k n H Q) := W_if_lt (rfl : (pj lw).1 18 1 = some (.ifCond .lt 17, 3, 0)) rfl
theorem w18_4 {x : Int32} {l0 : Slot} : W (pj lw) 18 4 (l0 :: .val (.int x) :: L) S k n H Q ↔ W (pj lw) 18 5 (l0 :: .val (.int x) :: L) (.int x :: S) k n H Q := W_s (rfl : (pj lw).1 18 4 = some (.iload_n 1, 1, 0)) rfl rfl rfl
theorem w18_5 : W (pj lw) 18 5 L S k n H Q ↔ W (pj lw) 18 6 L (.int 2 :: S) k n H Q := W_s (rfl : (pj lw).1 18 5 = some (.iconst 2, 1, 0)) rfl rfl rfl
theorem w18_6 {x : Nat} : W (pj lw) 18 6 (.val (.ref x) :: L) S k n H Q ↔ W (pj lw) 18 7 (.val (.ref x) :: L) (.ref x :: S) k n H Q := W_s (rfl : (pj lw).1 18 6 = some (.aload_n 0, 1, 0)) rfl rfl rfl
theorem w18_7 {a : Nat} : W (pj lw) 18 7 L (.ref a :: S) k n H Q ↔ (isO H a = true ∧ W (pj lw) 18 10 L (fld H a 0 :: S) k n H Q) := W_getf (rfl : (pj lw).1 18 7 = some (.getfield 33, 3, 0))
theorem w18_10 {x y : Int32} : W (pj lw) 18 10 L (.int y :: .int x :: S) k n H Q ↔ W (pj lw) 18 11 L (.int (x * y) :: S) k n H Q := W_s (rfl : (pj lw).1 18 10 = some (.imul, 1, 0)) rfl rfl rfl
theorem w18_11 {x y : Int32} : W (pj lw) 18 11 L (.int y :: .int x :: S) k n H Q ↔ (if x < y then W (pj lw) 18 14 L S k n H Q else W (pj lw) 18 18 L S k n H Q) := W_icmp_ge (rfl : (pj lw).1 18 11 = some (.if_icmp .ge 7, 3, 0)) rfl
theorem w18_14 : W (pj lw) 18 14 L S k n H Q ↔ W (pj lw) 18 15 L (.int 1 :: S) k n H Q := W_s (rfl : (pj lw).1 18 14 = some (.iconst 1, 1, 0)) rfl rfl rfl
theorem w18_15 : W (pj lw) 18 15 L S k n H Q ↔ W (pj lw) 18 19 L S k n H Q := W_goto (rfl : (pj lw).1 18 15 = some (.goto 4, 3, 0)) rfl
theorem w18_18 : W (pj lw) 18 18 L S k n H Q ↔ W (pj lw) 18 19 L (.int 0 :: S) k n H Q := W_s (rfl : (pj lw).1 18 18 = some (.iconst 0, 1, 0)) rfl rfl rfl
theorem w18_19 {x : Int32} : W (pj lw) 18 19 L (.int x :: S) k n H Q ↔ ((x = 0 ∨ x = 1) ∧ Q (some (.int x)) H) := W_rz (rfl : (pj lw).1 18 19 = some (.ireturn, 1, 0)) rfl
theorem c19 {x0 : Nat} : Cl (pj lw) 19 [.ref x0] H Q ↔ W (pj lw) 19 0 [.val (.ref x0)] [] 0 0 H Q := Iff.rfl
theorem w19_0 {x : Nat} : W (pj lw) 19 0 (.val (.ref x) :: L) S k n H Q ↔ W (pj lw) 19 1 (.val (.ref x) :: L) (.ref x :: S) k n H Q := W_s (rfl : (pj lw).1 19 0 = some (.aload_n 0, 1, 0)) rfl rfl rfl
theorem w19_1 : W (pj lw) 19 1 L S k n H Q ↔ W (pj lw) 19 2 L (.int 0 :: S) k n H Q := W_s (rfl : (pj lw).1 19 1 = some (.iconst 0, 1, 0)) rfl rfl rfl
theorem w19_2 {a : Nat} {v : Value} : W (pj lw) 19 2 L (v :: .ref a :: S) k n H Q ↔ ((isOw H a = true ∧ okv (.int) v = true) ∧ W (pj lw) 19 5 L S k n (wr H a 5 v) Q) := W_putf (rfl : (pj lw).1 19 2 = some (.putfield 68, 3, 5))
theorem w19_5 {x : Nat} : W (pj lw) 19 5 (.val (.ref x) :: L) S k n H Q ↔ W (pj lw) 19 6 (.val (.ref x) :: L) (.ref x :: S) k n H Q := W_s (rfl : (pj lw).1 19 5 = some (.aload_n 0, 1, 0)) rfl rfl rfl
theorem w19_6 : W (pj lw) 19 6 L S k n H Q ↔ W (pj lw) 19 7 L (.int 0 :: S) k n H Q := W_s (rfl : (pj lw).1 19 6 = some (.iconst 0, 1, 0)) rfl rfl rfl
theorem w19_7 {a : Nat} {v : Value} : W (pj lw) 19 7 L (v :: .ref a :: S) k n H Q ↔ ((isOw H a = true ∧ okv (.int) v = true) ∧ W (pj lw) 19 10 L S k n (wr H a 8 v) Q) := W_putf (rfl : (pj lw).1 19 7 = some (.putfield 74, 3, 8))
theorem w19_10 {x : Nat} : W (pj lw) 19 10 (.val (.ref x) :: L) S k n H Q ↔ W (pj lw) 19 11 (.val (.ref x) :: L) (.ref x :: S) k n H Q := W_s (rfl : (pj lw).1 19 10 = some (.aload_n 0, 1, 0)) rfl rfl rfl
theorem w19_11 : W (pj lw) 19 11 L S k n H Q ↔ W (pj lw) 19 12 L (.int (-1) :: S) k n H Q := W_s (rfl : (pj lw).1 19 11 = some (.iconst (-1), 1, 0)) rfl rfl rfl
theorem w19_12 {a : Nat} {v : Value} : W (pj lw) 19 12 L (v :: .ref a :: S) k n H Q ↔ ((isOw H a = true ∧ okv (.int) v = true) ∧ W (pj lw) 19 15 L S k n (wr H a 9 v) Q) := W_putf (rfl : (pj lw).1 19 12 = some (.putfield 65, 3, 9))
theorem w19_15 : W (pj lw) 19 15 L [] k n H Q ↔ Q none H := W_r (rfl : (pj lw).1 19 15 = some (.return_, 1, 0)) rfl
theorem c20 {x0 : Nat} : Cl (pj lw) 20 [.ref x0] H Q ↔ W (pj lw) 20 0 [.val (.ref x0)] [] 0 0 H Q := Iff.rfl
theorem w20_0 {x : Nat} : W (pj lw) 20 0 (.val (.ref x) :: L) S k n H Q ↔ W (pj lw) 20 1 (.val (.ref x) :: L) (.ref x :: S) k n H Q := W_s (rfl : (pj lw).1 20 0 = some (.aload_n 0, 1, 0)) rfl rfl rfl
theorem w20_1 {a : Nat} : W (pj lw) 20 1 L (.ref a :: S) k n H Q ↔ (isO H a = true ∧ W (pj lw) 20 4 L (fld H a 13 :: S) k n H Q) := W_getf (rfl : (pj lw).1 20 1 = some (.getfield 43, 3, 13))
theorem w20_4 {x : Int32} : W (pj lw) 20 4 L (.int x :: S) k n H Q ↔ (if x = 0 then W (pj lw) 20 8 L S k n H Q else W (pj lw) 20 7 L S k n H Q) := W_if_eq (rfl : (pj lw).1 20 4 = some (.ifCond .eq 4, 3, 0)) rfl
theorem w20_7 : W (pj lw) 20 7 L [] k n H Q ↔ Q none H := W_r (rfl : (pj lw).1 20 7 = some (.return_, 1, 0)) rfl
theorem w20_8 {x : Nat} : W (pj lw) 20 8 (.val (.ref x) :: L) S k n H Q ↔ W (pj lw) 20 9 (.val (.ref x) :: L) (.ref x :: S) k n H Q := W_s (rfl : (pj lw).1 20 8 = some (.aload_n 0, 1, 0)) rfl rfl rfl
theorem w20_9 {a : Nat} : W (pj lw) 20 9 L (.ref a :: S) k n H Q ↔ ((isO H a = true ∧ cs S + (4 + 11) + 0 ≤ 29) ∧ Cl (pj lw) 21 [.ref a] H (fun v H => W (pj lw) 20 12 L (v.toList ++ S) k n H Q)) := W_inst (as := []) (rfl : (pj lw).1 20 9 = some (.invokevirtual 90, 3, 21)) rfl rfl rfl (Nat.le_of_ble_eq_true rfl) (Nat.le_of_ble_eq_true rfl) ⟨rfl, rfl⟩
theorem w20_12 {x : Nat} : W (pj lw) 20 12 (.val (.ref x) :: L) S k n H Q ↔ W (pj lw) 20 13 (.val (.ref x) :: L) (.ref x :: S) k n H Q := W_s (rfl : (pj lw).1 20 12 = some (.aload_n 0, 1, 0)) rfl rfl rfl
theorem w20_13 {a : Nat} : W (pj lw) 20 13 L (.ref a :: S) k n H Q ↔ ((isO H a = true ∧ cs S + (6 + 11) + 12 ≤ 29) ∧ Cl (pj lw) 22 [.ref a] H (fun v H => W (pj lw) 20 16 L (v.toList ++ S) k n H Q)) := W_inst (as := []) (rfl : (pj lw).1 20 13 = some (.invokevirtual 93, 3, 22)) rfl rfl rfl (Nat.le_of_ble_eq_true rfl) (Nat.le_of_ble_eq_true rfl) ⟨rfl, rfl⟩
theorem w20_16 {x : Nat} : W (pj lw) 20 16 (.val (.ref x) :: L) S k n H Q ↔ W (pj lw) 20 17 (.val (.ref x) :: L) (.ref x :: S) k n H Q := W_s (rfl : (pj lw).1 20 16 = some (.aload_n 0, 1, 0)) rfl rfl rfl
theorem w20_17 : W (pj lw) 20 17 L S k n H Q ↔ W (pj lw) 20 18 L (.int 1 :: S) k n H Q := W_s (rfl : (pj lw).1 20 17 = some (.iconst 1, 1, 0)) rfl rfl rfl
theorem w20_18 {a : Nat} {v : Value} : W (pj lw) 20 18 L (v :: .ref a :: S) k n H Q ↔ ((isOw H a = true ∧ okv (.boolean) v = true) ∧ W (pj lw) 20 21 L S k n (wr H a 13 v) Q) := W_putf (rfl : (pj lw).1 20 18 = some (.putfield 43, 3, 13))
theorem w20_21 : W (pj lw) 20 21 L [] k n H Q ↔ Q none H := W_r (rfl : (pj lw).1 20 21 = some (.return_, 1, 0)) rfl
theorem c21 {x0 : Nat} : Cl (pj lw) 21 [.ref x0] H Q ↔ W (pj lw) 21 0 [.val (.ref x0), .unset, .unset, .unset] [] 0 0 H Q := Iff.rfl
theorem w21_0 : W (pj lw) 21 0 L S k n H Q ↔ W (pj lw) 21 1 L (.int 0 :: S) k n H Q := W_s (rfl : (pj lw).1 21 0 = some (.iconst 0, 1, 0)) rfl rfl rfl
theorem w21_1 {x : Int32} {l0 : Slot} : W (pj lw) 21 1 (l0 :: .unset :: L) (.int x :: S) k n H Q ↔ W (pj lw) 21 2 (l0 :: .val (.int x) :: L) S k n H Q := W_istn (rfl : (pj lw).1 21 1 = some (.istore_n 1, 1, 0)) rfl rfl
theorem w21_2 {x : Int32} {l0 : Slot} : W (pj lw) 21 2 (l0 :: .val (.int x) :: L) S k n H Q ↔ W (pj lw) 21 3 (l0 :: .val (.int x) :: L) (.int x :: S) k n H Q := W_s (rfl : (pj lw).1 21 2 = some (.iload_n 1, 1, 0)) rfl rfl rfl
theorem w21_3 : W (pj lw) 21 3 L S k n H Q ↔ W (pj lw) 21 5 L (.int 64 :: S) k n H Q := W_s (rfl : (pj lw).1 21 3 = some (.bipush 64, 2, 0)) rfl rfl rfl
theorem w21_5 {x y : Int32} : W (pj lw) 21 5 L (.int y :: .int x :: S) k n H Q ↔ (if x < y then W (pj lw) 21 8 L S k n H Q else W (pj lw) 21 21 L S k n H Q) := W_icmp_ge (rfl : (pj lw).1 21 5 = some (.if_icmp .ge 16, 3, 0)) rfl
theorem w21_8 {x : Nat} : W (pj lw) 21 8 (.val (.ref x) :: L) S k n H Q ↔ W (pj lw) 21 9 (.val (.ref x) :: L) (.ref x :: S) k n H Q := W_s (rfl : (pj lw).1 21 8 = some (.aload_n 0, 1, 0)) rfl rfl rfl
theorem w21_9 {a : Nat} : W (pj lw) 21 9 L (.ref a :: S) k n H Q ↔ (isO H a = true ∧ W (pj lw) 21 12 L (fld H a 10 :: S) k n H Q) := W_getf (rfl : (pj lw).1 21 9 = some (.getfield 22, 3, 10))
theorem w21_12 {x : Int32} {l0 : Slot} : W (pj lw) 21 12 (l0 :: .val (.int x) :: L) S k n H Q ↔ W (pj lw) 21 13 (l0 :: .val (.int x) :: L) (.int x :: S) k n H Q := W_s (rfl : (pj lw).1 21 12 = some (.iload_n 1, 1, 0)) rfl rfl rfl
theorem w21_13 : W (pj lw) 21 13 L S k n H Q ↔ W (pj lw) 21 14 L (.long 0 :: S) k n H Q := W_s (rfl : (pj lw).1 21 13 = some (.lconst 0, 1, 0)) rfl rfl rfl
theorem w21_14 {x : Int64} {i : Int32} {a : Nat} : W (pj lw) 21 14 L (.long x :: .int i :: .ref a :: S) k n H Q ↔ (inAw H a .long i = true ∧ W (pj lw) 21 15 L S k n (wr H a i.toNatClampNeg (.long x)) Q) := W_lastore (rfl : (pj lw).1 21 14 = some (.lastore, 1, 0))
theorem w21_15 {x : Int32} {l0 : Slot} : W (pj lw) 21 15 (l0 :: .val (.int x) :: L) S k n H Q ↔ W (pj lw) 21 18 (l0 :: .val (.int (x + 1)) :: L) S k n H Q := W_s (rfl : (pj lw).1 21 15 = some (.iinc 1 1, 3, 0)) rfl rfl rfl
theorem w21_18 : W (pj lw) 21 18 L S k n H Q ↔ W (pj lw) 21 2 L S k n H Q := W_goto (rfl : (pj lw).1 21 18 = some (.goto (-16), 3, 0)) rfl
theorem w21_21 : W (pj lw) 21 21 L S k n H Q ↔ W (pj lw) 21 22 L (.int 0 :: S) k n H Q := W_s (rfl : (pj lw).1 21 21 = some (.iconst 0, 1, 0)) rfl rfl rfl
theorem w21_22i {y : Int32} {x : Int32} {l0 : Slot} : W (pj lw) 21 22 (l0 :: .val (.int y) :: L) (.int x :: S) k n H Q ↔ W (pj lw) 21 23 (l0 :: .val (.int x) :: L) S k n H Q := W_istn (rfl : (pj lw).1 21 22 = some (.istore_n 1, 1, 0)) rfl rfl
theorem w21_23 {x : Int32} {l0 : Slot} : W (pj lw) 21 23 (l0 :: .val (.int x) :: L) S k n H Q ↔ W (pj lw) 21 24 (l0 :: .val (.int x) :: L) (.int x :: S) k n H Q := W_s (rfl : (pj lw).1 21 23 = some (.iload_n 1, 1, 0)) rfl rfl rfl
theorem w21_24 {x : Nat} : W (pj lw) 21 24 (.val (.ref x) :: L) S k n H Q ↔ W (pj lw) 21 25 (.val (.ref x) :: L) (.ref x :: S) k n H Q := W_s (rfl : (pj lw).1 21 24 = some (.aload_n 0, 1, 0)) rfl rfl rfl
theorem w21_25 {a : Nat} : W (pj lw) 21 25 L (.ref a :: S) k n H Q ↔ (isO H a = true ∧ W (pj lw) 21 28 L (fld H a 2 :: S) k n H Q) := W_getf (rfl : (pj lw).1 21 25 = some (.getfield 40, 3, 2))
theorem w21_28 {x y : Int32} : W (pj lw) 21 28 L (.int y :: .int x :: S) k n H Q ↔ (if x < y then W (pj lw) 21 31 L S k n H Q else W (pj lw) 21 91 L S k n H Q) := W_icmp_ge (rfl : (pj lw).1 21 28 = some (.if_icmp .ge 63, 3, 0)) rfl
theorem w21_31 {x : Int32} {l0 : Slot} : W (pj lw) 21 31 (l0 :: .val (.int x) :: L) S k n H Q ↔ W (pj lw) 21 32 (l0 :: .val (.int x) :: L) (.int x :: S) k n H Q := W_s (rfl : (pj lw).1 21 31 = some (.iload_n 1, 1, 0)) rfl rfl rfl
theorem w21_32 : W (pj lw) 21 32 L S k n H Q ↔ W (pj lw) 21 34 L (.int 64 :: S) k n H Q := W_s (rfl : (pj lw).1 21 32 = some (.bipush 64, 2, 0)) rfl rfl rfl
theorem w21_34 {x y : Int32} : W (pj lw) 21 34 L (.int y :: .int x :: S) k n H Q ↔ (if x < y then W (pj lw) 21 37 L S k n H Q else W (pj lw) 21 91 L S k n H Q) := W_icmp_ge (rfl : (pj lw).1 21 34 = some (.if_icmp .ge 57, 3, 0)) rfl
theorem w21_37 {x : Nat} : W (pj lw) 21 37 (.val (.ref x) :: L) S k n H Q ↔ W (pj lw) 21 38 (.val (.ref x) :: L) (.ref x :: S) k n H Q := W_s (rfl : (pj lw).1 21 37 = some (.aload_n 0, 1, 0)) rfl rfl rfl
theorem w21_38 {a : Nat} : W (pj lw) 21 38 L (.ref a :: S) k n H Q ↔ (isO H a = true ∧ W (pj lw) 21 41 L (fld H a 3 :: S) k n H Q) := W_getf (rfl : (pj lw).1 21 38 = some (.getfield 7, 3, 3))
theorem w21_41 {x : Int32} {l0 : Slot} : W (pj lw) 21 41 (l0 :: .val (.int x) :: L) S k n H Q ↔ W (pj lw) 21 42 (l0 :: .val (.int x) :: L) (.int x :: S) k n H Q := W_s (rfl : (pj lw).1 21 41 = some (.iload_n 1, 1, 0)) rfl rfl rfl
theorem w21_42 {i : Int32} {a : Nat} : W (pj lw) 21 42 L (.int i :: .ref a :: S) k n H Q ↔ ((inA H a .byte i = true ∨ inA H a .boolean i = true) ∧ W (pj lw) 21 43 L (elt H a i :: S) k n H Q) := W_baload (rfl : (pj lw).1 21 42 = some (.baload, 1, 0))
theorem w21_43 : W (pj lw) 21 43 L S k n H Q ↔ W (pj lw) 21 45 L (.int 63 :: S) k n H Q := W_s (rfl : (pj lw).1 21 43 = some (.bipush 63, 2, 0)) rfl rfl rfl
theorem w21_45 {x y : Int32} : W (pj lw) 21 45 L (.int y :: .int x :: S) k n H Q ↔ W (pj lw) 21 46 L (.int (x &&& y) :: S) k n H Q := W_s (rfl : (pj lw).1 21 45 = some (.iand, 1, 0)) rfl rfl rfl
theorem w21_46i {y : Int32} {x : Int32} {l0 l1 : Slot} : W (pj lw) 21 46 (l0 :: l1 :: .val (.int y) :: L) (.int x :: S) k n H Q ↔ W (pj lw) 21 47 (l0 :: l1 :: .val (.int x) :: L) S k n H Q := W_istn (rfl : (pj lw).1 21 46 = some (.istore_n 2, 1, 0)) rfl rfl
theorem w21_46 {x : Int32} {l0 l1 : Slot} : W (pj lw) 21 46 (l0 :: l1 :: .unset :: L) (.int x :: S) k n H Q ↔ W (pj lw) 21 47 (l0 :: l1 :: .val (.int x) :: L) S k n H Q := W_istn (rfl : (pj lw).1 21 46 = some (.istore_n 2, 1, 0)) rfl rfl
theorem w21_47 {x : Nat} : W (pj lw) 21 47 (.val (.ref x) :: L) S k n H Q ↔ W (pj lw) 21 48 (.val (.ref x) :: L) (.ref x :: S) k n H Q := W_s (rfl : (pj lw).1 21 47 = some (.aload_n 0, 1, 0)) rfl rfl rfl
theorem w21_48 {a : Nat} : W (pj lw) 21 48 L (.ref a :: S) k n H Q ↔ (isO H a = true ∧ W (pj lw) 21 51 L (fld H a 4 :: S) k n H Q) := W_getf (rfl : (pj lw).1 21 48 = some (.getfield 13, 3, 4))
theorem w21_51 {x : Int32} {l0 : Slot} : W (pj lw) 21 51 (l0 :: .val (.int x) :: L) S k n H Q ↔ W (pj lw) 21 52 (l0 :: .val (.int x) :: L) (.int x :: S) k n H Q := W_s (rfl : (pj lw).1 21 51 = some (.iload_n 1, 1, 0)) rfl rfl rfl
theorem w21_52 {i : Int32} {a : Nat} : W (pj lw) 21 52 L (.int i :: .ref a :: S) k n H Q ↔ ((inA H a .byte i = true ∨ inA H a .boolean i = true) ∧ W (pj lw) 21 53 L (elt H a i :: S) k n H Q) := W_baload (rfl : (pj lw).1 21 52 = some (.baload, 1, 0))
theorem w21_53 : W (pj lw) 21 53 L S k n H Q ↔ W (pj lw) 21 55 L (.int 63 :: S) k n H Q := W_s (rfl : (pj lw).1 21 53 = some (.bipush 63, 2, 0)) rfl rfl rfl
theorem w21_55 {x y : Int32} : W (pj lw) 21 55 L (.int y :: .int x :: S) k n H Q ↔ W (pj lw) 21 56 L (.int (x &&& y) :: S) k n H Q := W_s (rfl : (pj lw).1 21 55 = some (.iand, 1, 0)) rfl rfl rfl
theorem w21_56i {y : Int32} {x : Int32} {l0 l1 l2 : Slot} : W (pj lw) 21 56 (l0 :: l1 :: l2 :: .val (.int y) :: L) (.int x :: S) k n H Q ↔ W (pj lw) 21 57 (l0 :: l1 :: l2 :: .val (.int x) :: L) S k n H Q := W_istn (rfl : (pj lw).1 21 56 = some (.istore_n 3, 1, 0)) rfl rfl
theorem w21_56 {x : Int32} {l0 l1 l2 : Slot} : W (pj lw) 21 56 (l0 :: l1 :: l2 :: .unset :: L) (.int x :: S) k n H Q ↔ W (pj lw) 21 57 (l0 :: l1 :: l2 :: .val (.int x) :: L) S k n H Q := W_istn (rfl : (pj lw).1 21 56 = some (.istore_n 3, 1, 0)) rfl rfl
theorem w21_57 {x : Nat} : W (pj lw) 21 57 (.val (.ref x) :: L) S k n H Q ↔ W (pj lw) 21 58 (.val (.ref x) :: L) (.ref x :: S) k n H Q := W_s (rfl : (pj lw).1 21 57 = some (.aload_n 0, 1, 0)) rfl rfl rfl
theorem w21_58 {a : Nat} : W (pj lw) 21 58 L (.ref a :: S) k n H Q ↔ (isO H a = true ∧ W (pj lw) 21 61 L (fld H a 10 :: S) k n H Q) := W_getf (rfl : (pj lw).1 21 58 = some (.getfield 22, 3, 10))
theorem w21_61 {x : Int32} {l0 l1 : Slot} : W (pj lw) 21 61 (l0 :: l1 :: .val (.int x) :: L) S k n H Q ↔ W (pj lw) 21 62 (l0 :: l1 :: .val (.int x) :: L) (.int x :: S) k n H Q := W_s (rfl : (pj lw).1 21 61 = some (.iload_n 2, 1, 0)) rfl rfl rfl
theorem w21_62 : W (pj lw) 21 62 L S k n H Q ↔ W (pj lw) 21 63 L (.int 1 :: S) k n H Q := W_s (rfl : (pj lw).1 21 62 = some (.iconst 1, 1, 0)) rfl rfl rfl
theorem w21_63 {x y : Int32} : W (pj lw) 21 63 L (.int y :: .int x :: S) k n H Q ↔ W (pj lw) 21 64 L (.int (x ^^^ y) :: S) k n H Q := W_s (rfl : (pj lw).1 21 63 = some (.ixor, 1, 0)) rfl rfl rfl
theorem w21_64 {x : Int32} {y : Nat} : W (pj lw) 21 64 L (.int x :: .ref y :: S) k n H Q ↔ W (pj lw) 21 65 L (.int x :: .ref y :: .int x :: .ref y :: S) k n H Q := W_s (rfl : (pj lw).1 21 64 = some (.dup2, 1, 0)) rfl rfl rfl
theorem w21_65 {i : Int32} {a : Nat} : W (pj lw) 21 65 L (.int i :: .ref a :: S) k n H Q ↔ (inA H a .long i = true ∧ W (pj lw) 21 66 L (elt H a i :: S) k n H Q) := W_laload (rfl : (pj lw).1 21 65 = some (.laload, 1, 0))
theorem w21_66 : W (pj lw) 21 66 L S k n H Q ↔ W (pj lw) 21 67 L (.long 1 :: S) k n H Q := W_s (rfl : (pj lw).1 21 66 = some (.lconst 1, 1, 0)) rfl rfl rfl
theorem w21_67 {x : Int32} {l0 l1 l2 : Slot} : W (pj lw) 21 67 (l0 :: l1 :: l2 :: .val (.int x) :: L) S k n H Q ↔ W (pj lw) 21 68 (l0 :: l1 :: l2 :: .val (.int x) :: L) (.int x :: S) k n H Q := W_s (rfl : (pj lw).1 21 67 = some (.iload_n 3, 1, 0)) rfl rfl rfl
theorem w21_68 {x : Int64} {y : Int32} : W (pj lw) 21 68 L (.int y :: .long x :: S) k n H Q ↔ W (pj lw) 21 69 L (.long (x <<< (y.toInt64 &&& 63)) :: S) k n H Q := W_s (rfl : (pj lw).1 21 68 = some (.lshl, 1, 0)) rfl rfl rfl
theorem w21_69 {x y : Int64} : W (pj lw) 21 69 L (.long y :: .long x :: S) k n H Q ↔ W (pj lw) 21 70 L (.long (x ||| y) :: S) k n H Q := W_s (rfl : (pj lw).1 21 69 = some (.lor, 1, 0)) rfl rfl rfl
theorem w21_70 {x : Int64} {i : Int32} {a : Nat} : W (pj lw) 21 70 L (.long x :: .int i :: .ref a :: S) k n H Q ↔ (inAw H a .long i = true ∧ W (pj lw) 21 71 L S k n (wr H a i.toNatClampNeg (.long x)) Q) := W_lastore (rfl : (pj lw).1 21 70 = some (.lastore, 1, 0))
theorem w21_71 {x : Nat} : W (pj lw) 21 71 (.val (.ref x) :: L) S k n H Q ↔ W (pj lw) 21 72 (.val (.ref x) :: L) (.ref x :: S) k n H Q := W_s (rfl : (pj lw).1 21 71 = some (.aload_n 0, 1, 0)) rfl rfl rfl
theorem w21_72 {a : Nat} : W (pj lw) 21 72 L (.ref a :: S) k n H Q ↔ (isO H a = true ∧ W (pj lw) 21 75 L (fld H a 10 :: S) k n H Q) := W_getf (rfl : (pj lw).1 21 72 = some (.getfield 22, 3, 10))
theorem w21_75 {x : Int32} {l0 l1 l2 : Slot} : W (pj lw) 21 75 (l0 :: l1 :: l2 :: .val (.int x) :: L) S k n H Q ↔ W (pj lw) 21 76 (l0 :: l1 :: l2 :: .val (.int x) :: L) (.int x :: S) k n H Q := W_s (rfl : (pj lw).1 21 75 = some (.iload_n 3, 1, 0)) rfl rfl rfl
theorem w21_76 : W (pj lw) 21 76 L S k n H Q ↔ W (pj lw) 21 77 L (.int 1 :: S) k n H Q := W_s (rfl : (pj lw).1 21 76 = some (.iconst 1, 1, 0)) rfl rfl rfl
theorem w21_77 {x y : Int32} : W (pj lw) 21 77 L (.int y :: .int x :: S) k n H Q ↔ W (pj lw) 21 78 L (.int (x ^^^ y) :: S) k n H Q := W_s (rfl : (pj lw).1 21 77 = some (.ixor, 1, 0)) rfl rfl rfl
theorem w21_78 {x : Int32} {y : Nat} : W (pj lw) 21 78 L (.int x :: .ref y :: S) k n H Q ↔ W (pj lw) 21 79 L (.int x :: .ref y :: .int x :: .ref y :: S) k n H Q := W_s (rfl : (pj lw).1 21 78 = some (.dup2, 1, 0)) rfl rfl rfl
theorem w21_79 {i : Int32} {a : Nat} : W (pj lw) 21 79 L (.int i :: .ref a :: S) k n H Q ↔ (inA H a .long i = true ∧ W (pj lw) 21 80 L (elt H a i :: S) k n H Q) := W_laload (rfl : (pj lw).1 21 79 = some (.laload, 1, 0))
theorem w21_80 : W (pj lw) 21 80 L S k n H Q ↔ W (pj lw) 21 81 L (.long 1 :: S) k n H Q := W_s (rfl : (pj lw).1 21 80 = some (.lconst 1, 1, 0)) rfl rfl rfl
theorem w21_81 {x : Int32} {l0 l1 : Slot} : W (pj lw) 21 81 (l0 :: l1 :: .val (.int x) :: L) S k n H Q ↔ W (pj lw) 21 82 (l0 :: l1 :: .val (.int x) :: L) (.int x :: S) k n H Q := W_s (rfl : (pj lw).1 21 81 = some (.iload_n 2, 1, 0)) rfl rfl rfl
theorem w21_82 {x : Int64} {y : Int32} : W (pj lw) 21 82 L (.int y :: .long x :: S) k n H Q ↔ W (pj lw) 21 83 L (.long (x <<< (y.toInt64 &&& 63)) :: S) k n H Q := W_s (rfl : (pj lw).1 21 82 = some (.lshl, 1, 0)) rfl rfl rfl
theorem w21_83 {x y : Int64} : W (pj lw) 21 83 L (.long y :: .long x :: S) k n H Q ↔ W (pj lw) 21 84 L (.long (x ||| y) :: S) k n H Q := W_s (rfl : (pj lw).1 21 83 = some (.lor, 1, 0)) rfl rfl rfl
theorem w21_84 {x : Int64} {i : Int32} {a : Nat} : W (pj lw) 21 84 L (.long x :: .int i :: .ref a :: S) k n H Q ↔ (inAw H a .long i = true ∧ W (pj lw) 21 85 L S k n (wr H a i.toNatClampNeg (.long x)) Q) := W_lastore (rfl : (pj lw).1 21 84 = some (.lastore, 1, 0))
theorem w21_85 {x : Int32} {l0 : Slot} : W (pj lw) 21 85 (l0 :: .val (.int x) :: L) S k n H Q ↔ W (pj lw) 21 88 (l0 :: .val (.int (x + 1)) :: L) S k n H Q := W_s (rfl : (pj lw).1 21 85 = some (.iinc 1 1, 3, 0)) rfl rfl rfl
theorem w21_88 : W (pj lw) 21 88 L S k n H Q ↔ W (pj lw) 21 23 L S k n H Q := W_goto (rfl : (pj lw).1 21 88 = some (.goto (-65), 3, 0)) rfl
theorem w21_91 : W (pj lw) 21 91 L [] k n H Q ↔ Q none H := W_r (rfl : (pj lw).1 21 91 = some (.return_, 1, 0)) rfl
theorem c22 {x0 : Nat} : Cl (pj lw) 22 [.ref x0] H Q ↔ W (pj lw) 22 0 [.val (.ref x0), .unset, .unset, .unset, .unset, .unset] [] 0 0 H Q := Iff.rfl
theorem w22_0 {x : Nat} : W (pj lw) 22 0 (.val (.ref x) :: L) S k n H Q ↔ W (pj lw) 22 1 (.val (.ref x) :: L) (.ref x :: S) k n H Q := W_s (rfl : (pj lw).1 22 0 = some (.aload_n 0, 1, 0)) rfl rfl rfl
theorem w22_1 {a : Nat} : W (pj lw) 22 1 L (.ref a :: S) k n H Q ↔ ((isO H a = true ∧ cs S + (1 + 11) + 0 ≤ 12) ∧ Cl (pj lw) 17 [.ref a] H (fun v H => W (pj lw) 22 4 L (v.toList ++ S) k n H Q)) := W_inst (as := []) (rfl : (pj lw).1 22 1 = some (.invokevirtual 84, 3, 17)) rfl rfl rfl (Nat.le_of_ble_eq_true rfl) (Nat.le_of_ble_eq_true rfl) ⟨rfl, rfl⟩
theorem w22_4 {x : Int32} {l0 : Slot} : W (pj lw) 22 4 (l0 :: .unset :: L) (.int x :: S) k n H Q ↔ W (pj lw) 22 5 (l0 :: .val (.int x) :: L) S k n H Q := W_istn (rfl : (pj lw).1 22 4 = some (.istore_n 1, 1, 0)) rfl rfl
theorem w22_5 : W (pj lw) 22 5 L S k n H Q ↔ W (pj lw) 22 6 L (.int 0 :: S) k n H Q := W_s (rfl : (pj lw).1 22 5 = some (.iconst 0, 1, 0)) rfl rfl rfl
theorem w22_6 {x : Int32} {l0 l1 : Slot} : W (pj lw) 22 6 (l0 :: l1 :: .unset :: L) (.int x :: S) k n H Q ↔ W (pj lw) 22 7 (l0 :: l1 :: .val (.int x) :: L) S k n H Q := W_istn (rfl : (pj lw).1 22 6 = some (.istore_n 2, 1, 0)) rfl rfl
theorem w22_7 {x : Int32} {l0 l1 : Slot} : W (pj lw) 22 7 (l0 :: l1 :: .val (.int x) :: L) S k n H Q ↔ W (pj lw) 22 8 (l0 :: l1 :: .val (.int x) :: L) (.int x :: S) k n H Q := W_s (rfl : (pj lw).1 22 7 = some (.iload_n 2, 1, 0)) rfl rfl rfl
theorem w22_8 : W (pj lw) 22 8 L S k n H Q ↔ W (pj lw) 22 10 L (.int 64 :: S) k n H Q := W_s (rfl : (pj lw).1 22 8 = some (.bipush 64, 2, 0)) rfl rfl rfl
theorem w22_10 {x y : Int32} : W (pj lw) 22 10 L (.int y :: .int x :: S) k n H Q ↔ (if x < y then W (pj lw) 22 13 L S k n H Q else W (pj lw) 22 31 L S k n H Q) := W_icmp_ge (rfl : (pj lw).1 22 10 = some (.if_icmp .ge 21, 3, 0)) rfl
theorem w22_13 {x : Nat} : W (pj lw) 22 13 (.val (.ref x) :: L) S k n H Q ↔ W (pj lw) 22 14 (.val (.ref x) :: L) (.ref x :: S) k n H Q := W_s (rfl : (pj lw).1 22 13 = some (.aload_n 0, 1, 0)) rfl rfl rfl
theorem w22_14 {a : Nat} : W (pj lw) 22 14 L (.ref a :: S) k n H Q ↔ (isO H a = true ∧ W (pj lw) 22 17 L (fld H a 11 :: S) k n H Q) := W_getf (rfl : (pj lw).1 22 14 = some (.getfield 26, 3, 11))
theorem w22_17 {x : Int32} {l0 l1 : Slot} : W (pj lw) 22 17 (l0 :: l1 :: .val (.int x) :: L) S k n H Q ↔ W (pj lw) 22 18 (l0 :: l1 :: .val (.int x) :: L) (.int x :: S) k n H Q := W_s (rfl : (pj lw).1 22 17 = some (.iload_n 2, 1, 0)) rfl rfl rfl
theorem w22_18 {x : Nat} : W (pj lw) 22 18 (.val (.ref x) :: L) S k n H Q ↔ W (pj lw) 22 19 (.val (.ref x) :: L) (.ref x :: S) k n H Q := W_s (rfl : (pj lw).1 22 18 = some (.aload_n 0, 1, 0)) rfl rfl rfl
theorem w22_19 {a : Nat} : W (pj lw) 22 19 L (.ref a :: S) k n H Q ↔ (isO H a = true ∧ W (pj lw) 22 22 L (fld H a 10 :: S) k n H Q) := W_getf (rfl : (pj lw).1 22 19 = some (.getfield 22, 3, 10))
theorem w22_22 {x : Int32} {l0 l1 : Slot} : W (pj lw) 22 22 (l0 :: l1 :: .val (.int x) :: L) S k n H Q ↔ W (pj lw) 22 23 (l0 :: l1 :: .val (.int x) :: L) (.int x :: S) k n H Q := W_s (rfl : (pj lw).1 22 22 = some (.iload_n 2, 1, 0)) rfl rfl rfl
theorem w22_23 {i : Int32} {a : Nat} : W (pj lw) 22 23 L (.int i :: .ref a :: S) k n H Q ↔ (inA H a .long i = true ∧ W (pj lw) 22 24 L (elt H a i :: S) k n H Q) := W_laload (rfl : (pj lw).1 22 23 = some (.laload, 1, 0))
theorem w22_24 {x : Int64} {i : Int32} {a : Nat} : W (pj lw) 22 24 L (.long x :: .int i :: .ref a :: S) k n H Q ↔ (inAw H a .long i = true ∧ W (pj lw) 22 25 L S k n (wr H a i.toNatClampNeg (.long x)) Q) := W_lastore (rfl : (pj lw).1 22 24 = some (.lastore, 1, 0))
theorem w22_25 {x : Int32} {l0 l1 : Slot} : W (pj lw) 22 25 (l0 :: l1 :: .val (.int x) :: L) S k n H Q ↔ W (pj lw) 22 28 (l0 :: l1 :: .val (.int (x + 1)) :: L) S k n H Q := W_s (rfl : (pj lw).1 22 25 = some (.iinc 2 1, 3, 0)) rfl rfl rfl
theorem w22_28 : W (pj lw) 22 28 L S k n H Q ↔ W (pj lw) 22 7 L S k n H Q := W_goto (rfl : (pj lw).1 22 28 = some (.goto (-21), 3, 0)) rfl
theorem w22_31 : W (pj lw) 22 31 L S k n H Q ↔ W (pj lw) 22 32 L (.int 0 :: S) k n H Q := W_s (rfl : (pj lw).1 22 31 = some (.iconst 0, 1, 0)) rfl rfl rfl
theorem w22_32i {y : Int32} {x : Int32} {l0 l1 : Slot} : W (pj lw) 22 32 (l0 :: l1 :: .val (.int y) :: L) (.int x :: S) k n H Q ↔ W (pj lw) 22 33 (l0 :: l1 :: .val (.int x) :: L) S k n H Q := W_istn (rfl : (pj lw).1 22 32 = some (.istore_n 2, 1, 0)) rfl rfl
theorem w22_33 {x : Int32} {l0 l1 : Slot} : W (pj lw) 22 33 (l0 :: l1 :: .val (.int x) :: L) S k n H Q ↔ W (pj lw) 22 34 (l0 :: l1 :: .val (.int x) :: L) (.int x :: S) k n H Q := W_s (rfl : (pj lw).1 22 33 = some (.iload_n 2, 1, 0)) rfl rfl rfl
theorem w22_34 {x : Int32} {l0 : Slot} : W (pj lw) 22 34 (l0 :: .val (.int x) :: L) S k n H Q ↔ W (pj lw) 22 35 (l0 :: .val (.int x) :: L) (.int x :: S) k n H Q := W_s (rfl : (pj lw).1 22 34 = some (.iload_n 1, 1, 0)) rfl rfl rfl
theorem w22_35 {x y : Int32} : W (pj lw) 22 35 L (.int y :: .int x :: S) k n H Q ↔ (if x < y then W (pj lw) 22 38 L S k n H Q else W (pj lw) 22 93 L S k n H Q) := W_icmp_ge (rfl : (pj lw).1 22 35 = some (.if_icmp .ge 58, 3, 0)) rfl
theorem w22_38 : W (pj lw) 22 38 L S k n H Q ↔ W (pj lw) 22 39 L (.long 1 :: S) k n H Q := W_s (rfl : (pj lw).1 22 38 = some (.lconst 1, 1, 0)) rfl rfl rfl
theorem w22_39 {x : Int32} {l0 l1 : Slot} : W (pj lw) 22 39 (l0 :: l1 :: .val (.int x) :: L) S k n H Q ↔ W (pj lw) 22 40 (l0 :: l1 :: .val (.int x) :: L) (.int x :: S) k n H Q := W_s (rfl : (pj lw).1 22 39 = some (.iload_n 2, 1, 0)) rfl rfl rfl
theorem w22_40 {x : Int64} {y : Int32} : W (pj lw) 22 40 L (.int y :: .long x :: S) k n H Q ↔ W (pj lw) 22 41 L (.long (x <<< (y.toInt64 &&& 63)) :: S) k n H Q := W_s (rfl : (pj lw).1 22 40 = some (.lshl, 1, 0)) rfl rfl rfl
theorem w22_41j {x y : Int64} {l0 l1 l2 : Slot} : W (pj lw) 22 41 (l0 :: l1 :: l2 :: .val (.long y) :: .second :: L) (.long x :: S) k n H Q ↔ W (pj lw) 22 42 (l0 :: l1 :: l2 :: .val (.long x) :: .second :: L) S k n H Q := W_lstn' (rfl : (pj lw).1 22 41 = some (.lstore_n 3, 1, 0)) rfl rfl
theorem w22_41uu {x : Int64} {l0 l1 l2 : Slot} : W (pj lw) 22 41 (l0 :: l1 :: l2 :: .unset :: .unset :: L) (.long x :: S) k n H Q ↔ W (pj lw) 22 42 (l0 :: l1 :: l2 :: .val (.long x) :: .second :: L) S k n H Q := W_lstn (rfl : (pj lw).1 22 41 = some (.lstore_n 3, 1, 0)) rfl rfl rfl rfl
theorem w22_42 : W (pj lw) 22 42 L S k n H Q ↔ W (pj lw) 22 43 L (.int 0 :: S) k n H Q := W_s (rfl : (pj lw).1 22 42 = some (.iconst 0, 1, 0)) rfl rfl rfl
theorem w22_43i {y : Int32} {x : Int32} {l0 l1 l2 l3 l4 : Slot} : W (pj lw) 22 43 (l0 :: l1 :: l2 :: l3 :: l4 :: .val (.int y) :: L) (.int x :: S) k n H Q ↔ W (pj lw) 22 45 (l0 :: l1 :: l2 :: l3 :: l4 :: .val (.int x) :: L) S k n H Q := W_ist (rfl : (pj lw).1 22 43 = some (.istore 5, 2, 0)) rfl rfl
theorem w22_43 {x : Int32} {l0 l1 l2 l3 l4 : Slot} : W (pj lw) 22 43 (l0 :: l1 :: l2 :: l3 :: l4 :: .unset :: L) (.int x :: S) k n H Q ↔ W (pj lw) 22 45 (l0 :: l1 :: l2 :: l3 :: l4 :: .val (.int x) :: L) S k n H Q := W_ist (rfl : (pj lw).1 22 43 = some (.istore 5, 2, 0)) rfl rfl
theorem w22_45 {x : Int32} {l0 l1 l2 l3 l4 : Slot} : W (pj lw) 22 45 (l0 :: l1 :: l2 :: l3 :: l4 :: .val (.int x) :: L) S k n H Q ↔ W (pj lw) 22 47 (l0 :: l1 :: l2 :: l3 :: l4 :: .val (.int x) :: L) (.int x :: S) k n H Q := W_s (rfl : (pj lw).1 22 45 = some (.iload 5, 2, 0)) rfl rfl rfl
theorem w22_47 {x : Int32} {l0 : Slot} : W (pj lw) 22 47 (l0 :: .val (.int x) :: L) S k n H Q ↔ W (pj lw) 22 48 (l0 :: .val (.int x) :: L) (.int x :: S) k n H Q := W_s (rfl : (pj lw).1 22 47 = some (.iload_n 1, 1, 0)) rfl rfl rfl
theorem w22_48 {x y : Int32} : W (pj lw) 22 48 L (.int y :: .int x :: S) k n H Q ↔ (if x < y then W (pj lw) 22 51 L S k n H Q else W (pj lw) 22 87 L S k n H Q) := W_icmp_ge (rfl : (pj lw).1 22 48 = some (.if_icmp .ge 39, 3, 0)) rfl
theorem w22_51 {x : Nat} : W (pj lw) 22 51 (.val (.ref x) :: L) S k n H Q ↔ W (pj lw) 22 52 (.val (.ref x) :: L) (.ref x :: S) k n H Q := W_s (rfl : (pj lw).1 22 51 = some (.aload_n 0, 1, 0)) rfl rfl rfl
theorem w22_52 {a : Nat} : W (pj lw) 22 52 L (.ref a :: S) k n H Q ↔ (isO H a = true ∧ W (pj lw) 22 55 L (fld H a 11 :: S) k n H Q) := W_getf (rfl : (pj lw).1 22 52 = some (.getfield 26, 3, 11))
theorem w22_55 {x : Int32} {l0 l1 l2 l3 l4 : Slot} : W (pj lw) 22 55 (l0 :: l1 :: l2 :: l3 :: l4 :: .val (.int x) :: L) S k n H Q ↔ W (pj lw) 22 57 (l0 :: l1 :: l2 :: l3 :: l4 :: .val (.int x) :: L) (.int x :: S) k n H Q := W_s (rfl : (pj lw).1 22 55 = some (.iload 5, 2, 0)) rfl rfl rfl
theorem w22_57 {i : Int32} {a : Nat} : W (pj lw) 22 57 L (.int i :: .ref a :: S) k n H Q ↔ (inA H a .long i = true ∧ W (pj lw) 22 58 L (elt H a i :: S) k n H Q) := W_laload (rfl : (pj lw).1 22 57 = some (.laload, 1, 0))
theorem w22_58 {x : Int64} {l0 l1 l2 : Slot} : W (pj lw) 22 58 (l0 :: l1 :: l2 :: .val (.long x) :: L) S k n H Q ↔ W (pj lw) 22 59 (l0 :: l1 :: l2 :: .val (.long x) :: L) (.long x :: S) k n H Q := W_s (rfl : (pj lw).1 22 58 = some (.lload_n 3, 1, 0)) rfl rfl rfl
theorem w22_59 {x y : Int64} : W (pj lw) 22 59 L (.long y :: .long x :: S) k n H Q ↔ W (pj lw) 22 60 L (.long (x &&& y) :: S) k n H Q := W_s (rfl : (pj lw).1 22 59 = some (.land, 1, 0)) rfl rfl rfl
theorem w22_60 : W (pj lw) 22 60 L S k n H Q ↔ W (pj lw) 22 61 L (.long 0 :: S) k n H Q := W_s (rfl : (pj lw).1 22 60 = some (.lconst 0, 1, 0)) rfl rfl rfl
theorem w22_61 {x y : Int64} : W (pj lw) 22 61 L (.long y :: .long x :: S) k n H Q ↔ W (pj lw) 22 62 L (.int (Jvm.Free.XT.cmpL x y) :: S) k n H Q := W_s (rfl : (pj lw).1 22 61 = some (.lcmp, 1, 0)) rfl rfl rfl
theorem w22_62 {x : Int32} : W (pj lw) 22 62 L (.int x :: S) k n H Q ↔ (if x = 0 then W (pj lw) 22 81 L S k n H Q else W (pj lw) 22 65 L S k n H Q) := W_if_eq (rfl : (pj lw).1 22 62 = some (.ifCond .eq 19, 3, 0)) rfl
theorem w22_65 {x : Nat} : W (pj lw) 22 65 (.val (.ref x) :: L) S k n H Q ↔ W (pj lw) 22 66 (.val (.ref x) :: L) (.ref x :: S) k n H Q := W_s (rfl : (pj lw).1 22 65 = some (.aload_n 0, 1, 0)) rfl rfl rfl
theorem w22_66 {a : Nat} : W (pj lw) 22 66 L (.ref a :: S) k n H Q ↔ (isO H a = true ∧ W (pj lw) 22 69 L (fld H a 11 :: S) k n H Q) := W_getf (rfl : (pj lw).1 22 66 = some (.getfield 26, 3, 11))
theorem w22_69 {x : Int32} {l0 l1 l2 l3 l4 : Slot} : W (pj lw) 22 69 (l0 :: l1 :: l2 :: l3 :: l4 :: .val (.int x) :: L) S k n H Q ↔ W (pj lw) 22 71 (l0 :: l1 :: l2 :: l3 :: l4 :: .val (.int x) :: L) (.int x :: S) k n H Q := W_s (rfl : (pj lw).1 22 69 = some (.iload 5, 2, 0)) rfl rfl rfl
theorem w22_71 {x : Int32} {y : Nat} : W (pj lw) 22 71 L (.int x :: .ref y :: S) k n H Q ↔ W (pj lw) 22 72 L (.int x :: .ref y :: .int x :: .ref y :: S) k n H Q := W_s (rfl : (pj lw).1 22 71 = some (.dup2, 1, 0)) rfl rfl rfl
theorem w22_72 {i : Int32} {a : Nat} : W (pj lw) 22 72 L (.int i :: .ref a :: S) k n H Q ↔ (inA H a .long i = true ∧ W (pj lw) 22 73 L (elt H a i :: S) k n H Q) := W_laload (rfl : (pj lw).1 22 72 = some (.laload, 1, 0))
theorem w22_73 {x : Nat} : W (pj lw) 22 73 (.val (.ref x) :: L) S k n H Q ↔ W (pj lw) 22 74 (.val (.ref x) :: L) (.ref x :: S) k n H Q := W_s (rfl : (pj lw).1 22 73 = some (.aload_n 0, 1, 0)) rfl rfl rfl
theorem w22_74 {a : Nat} : W (pj lw) 22 74 L (.ref a :: S) k n H Q ↔ (isO H a = true ∧ W (pj lw) 22 77 L (fld H a 11 :: S) k n H Q) := W_getf (rfl : (pj lw).1 22 74 = some (.getfield 26, 3, 11))
theorem w22_77 {x : Int32} {l0 l1 : Slot} : W (pj lw) 22 77 (l0 :: l1 :: .val (.int x) :: L) S k n H Q ↔ W (pj lw) 22 78 (l0 :: l1 :: .val (.int x) :: L) (.int x :: S) k n H Q := W_s (rfl : (pj lw).1 22 77 = some (.iload_n 2, 1, 0)) rfl rfl rfl
theorem w22_78 {i : Int32} {a : Nat} : W (pj lw) 22 78 L (.int i :: .ref a :: S) k n H Q ↔ (inA H a .long i = true ∧ W (pj lw) 22 79 L (elt H a i :: S) k n H Q) := W_laload (rfl : (pj lw).1 22 78 = some (.laload, 1, 0))
theorem w22_79 {x y : Int64} : W (pj lw) 22 79 L (.long y :: .long x :: S) k n H Q ↔ W (pj lw) 22 80 L (.long (x ||| y) :: S) k n H Q := W_s (rfl : (pj lw).1 22 79 = some (.lor, 1, 0)) rfl rfl rfl
theorem w22_80 {x : Int64} {i : Int32} {a : Nat} : W (pj lw) 22 80 L (.long x :: .int i :: .ref a :: S) k n H Q ↔ (inAw H a .long i = true ∧ W (pj lw) 22 81 L S k n (wr H a i.toNatClampNeg (.long x)) Q) := W_lastore (rfl : (pj lw).1 22 80 = some (.lastore, 1, 0))
theorem w22_81 {x : Int32} {l0 l1 l2 l3 l4 : Slot} : W (pj lw) 22 81 (l0 :: l1 :: l2 :: l3 :: l4 :: .val (.int x) :: L) S k n H Q ↔ W (pj lw) 22 84 (l0 :: l1 :: l2 :: l3 :: l4 :: .val (.int (x + 1)) :: L) S k n H Q := W_s (rfl : (pj lw).1 22 81 = some (.iinc 5 1, 3, 0)) rfl rfl rfl
theorem w22_84 : W (pj lw) 22 84 L S k n H Q ↔ W (pj lw) 22 45 L S k n H Q := W_goto (rfl : (pj lw).1 22 84 = some (.goto (-39), 3, 0)) rfl
theorem w22_87 {x : Int32} {l0 l1 : Slot} : W (pj lw) 22 87 (l0 :: l1 :: .val (.int x) :: L) S k n H Q ↔ W (pj lw) 22 90 (l0 :: l1 :: .val (.int (x + 1)) :: L) S k n H Q := W_s (rfl : (pj lw).1 22 87 = some (.iinc 2 1, 3, 0)) rfl rfl rfl
theorem w22_90 : W (pj lw) 22 90 L S k n H Q ↔ W (pj lw) 22 33 L S k n H Q := W_goto (rfl : (pj lw).1 22 90 = some (.goto (-57), 3, 0)) rfl
theorem w22_93 : W (pj lw) 22 93 L [] k n H Q ↔ Q none H := W_r (rfl : (pj lw).1 22 93 = some (.return_, 1, 0)) rfl
theorem c23 {x0 : Nat} {x1 : Int32} {x2 : Int32} : Cl (pj lw) 23 [.ref x0, .int x1, .int x2] H Q ↔ W (pj lw) 23 0 [.val (.ref x0), .val (.int x1), .val (.int x2)] [] 0 0 H Q := Iff.rfl
theorem w23_0 {x : Nat} : W (pj lw) 23 0 (.val (.ref x) :: L) S k n H Q ↔ W (pj lw) 23 1 (.val (.ref x) :: L) (.ref x :: S) k n H Q := W_s (rfl : (pj lw).1 23 0 = some (.aload_n 0, 1, 0)) rfl rfl rfl
theorem w23_1 {a : Nat} : W (pj lw) 23 1 L (.ref a :: S) k n H Q ↔ (isO H a = true ∧ W (pj lw) 23 4 L (fld H a 11 :: S) k n H Q) := W_getf (rfl : (pj lw).1 23 1 = some (.getfield 26, 3, 11))
theorem w23_4 {x : Int32} {l0 : Slot} : W (pj lw) 23 4 (l0 :: .val (.int x) :: L) S k n H Q ↔ W (pj lw) 23 5 (l0 :: .val (.int x) :: L) (.int x :: S) k n H Q := W_s (rfl : (pj lw).1 23 4 = some (.iload_n 1, 1, 0)) rfl rfl rfl
theorem w23_5 {i : Int32} {a : Nat} : W (pj lw) 23 5 L (.int i :: .ref a :: S) k n H Q ↔ (inA H a .long i = true ∧ W (pj lw) 23 6 L (elt H a i :: S) k n H Q) := W_laload (rfl : (pj lw).1 23 5 = some (.laload, 1, 0))
theorem w23_6 {x : Int32} {l0 l1 : Slot} : W (pj lw) 23 6 (l0 :: l1 :: .val (.int x) :: L) S k n H Q ↔ W (pj lw) 23 7 (l0 :: l1 :: .val (.int x) :: L) (.int x :: S) k n H Q := W_s (rfl : (pj lw).1 23 6 = some (.iload_n 2, 1, 0)) rfl rfl rfl
theorem w23_7 {x : Int64} {y : Int32} : W (pj lw) 23 7 L (.int y :: .long x :: S) k n H Q ↔ W (pj lw) 23 8 L (.long (Jvm.Free.XT.ushrL x y) :: S) k n H Q := W_s (rfl : (pj lw).1 23 7 = some (.lushr, 1, 0)) rfl rfl rfl
theorem w23_8 : W (pj lw) 23 8 L S k n H Q ↔ W (pj lw) 23 9 L (.long 1 :: S) k n H Q := W_s (rfl : (pj lw).1 23 8 = some (.lconst 1, 1, 0)) rfl rfl rfl
theorem w23_9 {x y : Int64} : W (pj lw) 23 9 L (.long y :: .long x :: S) k n H Q ↔ W (pj lw) 23 10 L (.long (x &&& y) :: S) k n H Q := W_s (rfl : (pj lw).1 23 9 = some (.land, 1, 0)) rfl rfl rfl
theorem w23_10 : W (pj lw) 23 10 L S k n H Q ↔ W (pj lw) 23 11 L (.long 0 :: S) k n H Q := W_s (rfl : (pj lw).1 23 10 = some (.lconst 0, 1, 0)) rfl rfl rfl
theorem w23_11 {x y : Int64} : W (pj lw) 23 11 L (.long y :: .long x :: S) k n H Q ↔ W (pj lw) 23 12 L (.int (Jvm.Free.XT.cmpL x y) :: S) k n H Q := W_s (rfl : (pj lw).1 23 11 = some (.lcmp, 1, 0)) rfl rfl rfl
theorem w23_12 {x : Int32} : W (pj lw) 23 12 L (.int x :: S) k n H Q ↔ (if x = 0 then W (pj lw) 23 19 L S k n H Q else W (pj lw) 23 15 L S k n H Q) := W_if_eq (rfl : (pj lw).1 23 12 = some (.ifCond .eq 7, 3, 0)) rfl
theorem w23_15 : W (pj lw) 23 15 L S k n H Q ↔ W (pj lw) 23 16 L (.int 1 :: S) k n H Q := W_s (rfl : (pj lw).1 23 15 = some (.iconst 1, 1, 0)) rfl rfl rfl
theorem w23_16 : W (pj lw) 23 16 L S k n H Q ↔ W (pj lw) 23 20 L S k n H Q := W_goto (rfl : (pj lw).1 23 16 = some (.goto 4, 3, 0)) rfl
theorem w23_19 : W (pj lw) 23 19 L S k n H Q ↔ W (pj lw) 23 20 L (.int 0 :: S) k n H Q := W_s (rfl : (pj lw).1 23 19 = some (.iconst 0, 1, 0)) rfl rfl rfl
theorem w23_20 {x : Int32} : W (pj lw) 23 20 L (.int x :: S) k n H Q ↔ ((x = 0 ∨ x = 1) ∧ Q (some (.int x)) H) := W_rz (rfl : (pj lw).1 23 20 = some (.ireturn, 1, 0)) rfl
theorem c24 {x0 : Nat} {x1 : Int32} {x2 : Int32} : Cl (pj lw) 24 [.ref x0, .int x1, .int x2] H Q ↔ W (pj lw) 24 0 [.val (.ref x0), .val (.int x1), .val (.int x2)] [] 0 0 H Q := Iff.rfl
theorem w24_0 {x : Int32} {l0 : Slot} : W (pj lw) 24 0 (l0 :: .val (.int x) :: L) S k n H Q ↔ W (pj lw) 24 1 (l0 :: .val (.int x) :: L) (.int x :: S) k n H Q := W_s (rfl : (pj lw).1 24 0 = some (.iload_n 1, 1, 0)) rfl rfl rfl
theorem w24_1 {x : Int32} {l0 l1 : Slot} : W (pj lw) 24 1 (l0 :: l1 :: .val (.int x) :: L) S k n H Q ↔ W (pj lw) 24 2 (l0 :: l1 :: .val (.int x) :: L) (.int x :: S) k n H Q := W_s (rfl : (pj lw).1 24 1 = some (.iload_n 2, 1, 0)) rfl rfl rfl
theorem w24_2 {x y : Int32} : W (pj lw) 24 2 L (.int y :: .int x :: S) k n H Q ↔ (if x = y then W (pj lw) 24 5 L S k n H Q else W (pj lw) 24 7 L S k n H Q) := W_icmp_ne (rfl : (pj lw).1 24 2 = some (.if_icmp .ne 5, 3, 0)) rfl
theorem w24_5 : W (pj lw) 24 5 L S k n H Q ↔ W (pj lw) 24 6 L (.int 1 :: S) k n H Q := W_s (rfl : (pj lw).1 24 5 = some (.iconst 1, 1, 0)) rfl rfl rfl
theorem w24_6 {x : Int32} : W (pj lw) 24 6 L (.int x :: S) k n H Q ↔ ((x = 0 ∨ x = 1) ∧ Q (some (.int x)) H) := W_rz (rfl : (pj lw).1 24 6 = some (.ireturn, 1, 0)) rfl
theorem w24_7 {x : Nat} : W (pj lw) 24 7 (.val (.ref x) :: L) S k n H Q ↔ W (pj lw) 24 8 (.val (.ref x) :: L) (.ref x :: S) k n H Q := W_s (rfl : (pj lw).1 24 7 = some (.aload_n 0, 1, 0)) rfl rfl rfl
theorem w24_8 {x : Int32} {l0 : Slot} : W (pj lw) 24 8 (l0 :: .val (.int x) :: L) S k n H Q ↔ W (pj lw) 24 9 (l0 :: .val (.int x) :: L) (.int x :: S) k n H Q := W_s (rfl : (pj lw).1 24 8 = some (.iload_n 1, 1, 0)) rfl rfl rfl
theorem w24_9 {x : Int32} {l0 l1 : Slot} : W (pj lw) 24 9 (l0 :: l1 :: .val (.int x) :: L) S k n H Q ↔ W (pj lw) 24 10 (l0 :: l1 :: .val (.int x) :: L) (.int x :: S) k n H Q := W_s (rfl : (pj lw).1 24 9 = some (.iload_n 2, 1, 0)) rfl rfl rfl
theorem w24_10 {a : Nat} {x0 : Int32} {x1 : Int32} : W (pj lw) 24 10 L (.int x1 :: .int x0 :: .ref a :: S) k n H Q ↔ ((isO H a = true ∧ cs S + (3 + 11) + 0 ≤ 14) ∧ Cl (pj lw) 23 [.ref a, .int x0, .int x1] H (fun v H => W (pj lw) 24 13 L (v.toList ++ S) k n H Q)) := W_inst (as := [.int x0, .int x1]) (rfl : (pj lw).1 24 10 = some (.invokevirtual 77, 3, 23)) rfl rfl rfl (Nat.le_of_ble_eq_true rfl) (Nat.le_of_ble_eq_true rfl) ⟨rfl, rfl⟩
theorem w24_13 {x : Int32} : W (pj lw) 24 13 L (.int x :: S) k n H Q ↔ (if x = 0 then W (pj lw) 24 16 L S k n H Q else W (pj lw) 24 18 L S k n H Q) := W_if_ne (rfl : (pj lw).1 24 13 = some (.ifCond .ne 5, 3, 0)) rfl
theorem w24_16 : W (pj lw) 24 16 L S k n H Q ↔ W (pj lw) 24 17 L (.int 0 :: S) k n H Q := W_s (rfl : (pj lw).1 24 16 = some (.iconst 0, 1, 0)) rfl rfl rfl
theorem w24_17 {x : Int32} : W (pj lw) 24 17 L (.int x :: S) k n H Q ↔ ((x = 0 ∨ x = 1) ∧ Q (some (.int x)) H) := W_rz (rfl : (pj lw).1 24 17 = some (.ireturn, 1, 0)) rfl
theorem w24_18 {x : Nat} : W (pj lw) 24 18 (.val (.ref x) :: L) S k n H Q ↔ W (pj lw) 24 19 (.val (.ref x) :: L) (.ref x :: S) k n H Q := W_s (rfl : (pj lw).1 24 18 = some (.aload_n 0, 1, 0)) rfl rfl rfl
theorem w24_19 {x : Int32} {l0 l1 : Slot} : W (pj lw) 24 19 (l0 :: l1 :: .val (.int x) :: L) S k n H Q ↔ W (pj lw) 24 20 (l0 :: l1 :: .val (.int x) :: L) (.int x :: S) k n H Q := W_s (rfl : (pj lw).1 24 19 = some (.iload_n 2, 1, 0)) rfl rfl rfl
theorem w24_20 {x : Int32} {l0 : Slot} : W (pj lw) 24 20 (l0 :: .val (.int x) :: L) S k n H Q ↔ W (pj lw) 24 21 (l0 :: .val (.int x) :: L) (.int x :: S) k n H Q := W_s (rfl : (pj lw).1 24 20 = some (.iload_n 1, 1, 0)) rfl rfl rfl
theorem w24_21 {a : Nat} {x0 : Int32} {x1 : Int32} : W (pj lw) 24 21 L (.int x1 :: .int x0 :: .ref a :: S) k n H Q ↔ ((isO H a = true ∧ cs S + (3 + 11) + 0 ≤ 14) ∧ Cl (pj lw) 23 [.ref a, .int x0, .int x1] H (fun v H => W (pj lw) 24 24 L (v.toList ++ S) k n H Q)) := W_inst (as := [.int x0, .int x1]) (rfl : (pj lw).1 24 21 = some (.invokevirtual 77, 3, 23)) rfl rfl rfl (Nat.le_of_ble_eq_true rfl) (Nat.le_of_ble_eq_true rfl) ⟨rfl, rfl⟩
theorem w24_24 {x : Int32} : W (pj lw) 24 24 L (.int x :: S) k n H Q ↔ ((x = 0 ∨ x = 1) ∧ Q (some (.int x)) H) := W_rz (rfl : (pj lw).1 24 24 = some (.ireturn, 1, 0)) rfl
theorem c25 {x0 : Nat} {x1 : Int32} : Cl (pj lw) 25 [.ref x0, .int x1] H Q ↔ W (pj lw) 25 0 [.val (.ref x0), .val (.int x1), .unset] [] 0 0 H Q := Iff.rfl
theorem w25_0 : W (pj lw) 25 0 L S k n H Q ↔ W (pj lw) 25 1 L (.int 0 :: S) k n H Q := W_s (rfl : (pj lw).1 25 0 = some (.iconst 0, 1, 0)) rfl rfl rfl
theorem w25_1 {x : Int32} {l0 l1 : Slot} : W (pj lw) 25 1 (l0 :: l1 :: .unset :: L) (.int x :: S) k n H Q ↔ W (pj lw) 25 2 (l0 :: l1 :: .val (.int x) :: L) S k n H Q := W_istn (rfl : (pj lw).1 25 1 = some (.istore_n 2, 1, 0)) rfl rfl
theorem w25_2 {x : Int32} {l0 l1 : Slot} : W (pj lw) 25 2 (l0 :: l1 :: .val (.int x) :: L) S k n H Q ↔ W (pj lw) 25 3 (l0 :: l1 :: .val (.int x) :: L) (.int x :: S) k n H Q := W_s (rfl : (pj lw).1 25 2 = some (.iload_n 2, 1, 0)) rfl rfl rfl
theorem w25_3 {x : Int32} {l0 : Slot} : W (pj lw) 25 3 (l0 :: .val (.int x) :: L) S k n H Q ↔ W (pj lw) 25 4 (l0 :: .val (.int x) :: L) (.int x :: S) k n H Q := W_s (rfl : (pj lw).1 25 3 = some (.iload_n 1, 1, 0)) rfl rfl rfl
theorem w25_4 {x y : Int32} : W (pj lw) 25 4 L (.int y :: .int x :: S) k n H Q ↔ (if x < y then W (pj lw) 25 7 L S k n H Q else W (pj lw) 25 30 L S k n H Q) := W_icmp_ge (rfl : (pj lw).1 25 4 = some (.if_icmp .ge 26, 3, 0)) rfl
theorem w25_7 {x : Int32} {l0 l1 : Slot} : W (pj lw) 25 7 (l0 :: l1 :: .val (.int x) :: L) S k n H Q ↔ W (pj lw) 25 8 (l0 :: l1 :: .val (.int x) :: L) (.int x :: S) k n H Q := W_s (rfl : (pj lw).1 25 7 = some (.iload_n 2, 1, 0)) rfl rfl rfl
theorem w25_8 : W (pj lw) 25 8 L S k n H Q ↔ W (pj lw) 25 10 L (.int 64 :: S) k n H Q := W_s (rfl : (pj lw).1 25 8 = some (.bipush 64, 2, 0)) rfl rfl rfl
theorem w25_10 {x y : Int32} : W (pj lw) 25 10 L (.int y :: .int x :: S) k n H Q ↔ (if x < y then W (pj lw) 25 13 L S k n H Q else W (pj lw) 25 30 L S k n H Q) := W_icmp_ge (rfl : (pj lw).1 25 10 = some (.if_icmp .ge 20, 3, 0)) rfl
theorem w25_13 {x : Nat} : W (pj lw) 25 13 (.val (.ref x) :: L) S k n H Q ↔ W (pj lw) 25 14 (.val (.ref x) :: L) (.ref x :: S) k n H Q := W_s (rfl : (pj lw).1 25 13 = some (.aload_n 0, 1, 0)) rfl rfl rfl
theorem w25_14 {x : Int32} {l0 l1 : Slot} : W (pj lw) 25 14 (l0 :: l1 :: .val (.int x) :: L) S k n H Q ↔ W (pj lw) 25 15 (l0 :: l1 :: .val (.int x) :: L) (.int x :: S) k n H Q := W_s (rfl : (pj lw).1 25 14 = some (.iload_n 2, 1, 0)) rfl rfl rfl
theorem w25_15 {x : Int32} {l0 : Slot} : W (pj lw) 25 15 (l0 :: .val (.int x) :: L) S k n H Q ↔ W (pj lw) 25 16 (l0 :: .val (.int x) :: L) (.int x :: S) k n H Q := W_s (rfl : (pj lw).1 25 15 = some (.iload_n 1, 1, 0)) rfl rfl rfl
theorem w25_16 {a : Nat} {x0 : Int32} {x1 : Int32} : W (pj lw) 25 16 L (.int x1 :: .int x0 :: .ref a :: S) k n H Q ↔ ((isO H a = true ∧ cs S + (3 + 11) + 14 ≤ 28) ∧ Cl (pj lw) 24 [.ref a, .int x0, .int x1] H (fun v H => W (pj lw) 25 19 L (v.toList ++ S) k n H Q)) := W_inst (as := [.int x0, .int x1]) (rfl : (pj lw).1 25 16 = some (.invokevirtual 81, 3, 24)) rfl rfl rfl (Nat.le_of_ble_eq_true rfl) (Nat.le_of_ble_eq_true rfl) ⟨rfl, rfl⟩
theorem w25_19 {x : Int32} : W (pj lw) 25 19 L (.int x :: S) k n H Q ↔ (if x = 0 then W (pj lw) 25 24 L S k n H Q else W (pj lw) 25 22 L S k n H Q) := W_if_eq (rfl : (pj lw).1 25 19 = some (.ifCond .eq 5, 3, 0)) rfl
theorem w25_22 : W (pj lw) 25 22 L S k n H Q ↔ W (pj lw) 25 23 L (.int 0 :: S) k n H Q := W_s (rfl : (pj lw).1 25 22 = some (.iconst 0, 1, 0)) rfl rfl rfl
theorem w25_23 {x : Int32} : W (pj lw) 25 23 L (.int x :: S) k n H Q ↔ ((x = 0 ∨ x = 1) ∧ Q (some (.int x)) H) := W_rz (rfl : (pj lw).1 25 23 = some (.ireturn, 1, 0)) rfl
theorem w25_24 {x : Int32} {l0 l1 : Slot} : W (pj lw) 25 24 (l0 :: l1 :: .val (.int x) :: L) S k n H Q ↔ W (pj lw) 25 27 (l0 :: l1 :: .val (.int (x + 1)) :: L) S k n H Q := W_s (rfl : (pj lw).1 25 24 = some (.iinc 2 1, 3, 0)) rfl rfl rfl
theorem w25_27 : W (pj lw) 25 27 L S k n H Q ↔ W (pj lw) 25 2 L S k n H Q := W_goto (rfl : (pj lw).1 25 27 = some (.goto (-25), 3, 0)) rfl
theorem w25_30 : W (pj lw) 25 30 L S k n H Q ↔ W (pj lw) 25 31 L (.int 1 :: S) k n H Q := W_s (rfl : (pj lw).1 25 30 = some (.iconst 1, 1, 0)) rfl rfl rfl
theorem w25_31 {x : Int32} : W (pj lw) 25 31 L (.int x :: S) k n H Q ↔ ((x = 0 ∨ x = 1) ∧ Q (some (.int x)) H) := W_rz (rfl : (pj lw).1 25 31 = some (.ireturn, 1, 0)) rfl
theorem c26 {x0 : Nat} : Cl (pj lw) 26 [.ref x0] H Q ↔ W (pj lw) 26 0 [.val (.ref x0), .unset] [] 0 0 H Q := Iff.rfl
theorem w26_0 : W (pj lw) 26 0 L S k n H Q ↔ W (pj lw) 26 1 L (.int 0 :: S) k n H Q := W_s (rfl : (pj lw).1 26 0 = some (.iconst 0, 1, 0)) rfl rfl rfl
theorem w26_1 {x : Int32} {l0 : Slot} : W (pj lw) 26 1 (l0 :: .unset :: L) (.int x :: S) k n H Q ↔ W (pj lw) 26 2 (l0 :: .val (.int x) :: L) S k n H Q := W_istn (rfl : (pj lw).1 26 1 = some (.istore_n 1, 1, 0)) rfl rfl
theorem w26_2 {x : Int32} {l0 : Slot} : W (pj lw) 26 2 (l0 :: .val (.int x) :: L) S k n H Q ↔ W (pj lw) 26 3 (l0 :: .val (.int x) :: L) (.int x :: S) k n H Q := W_s (rfl : (pj lw).1 26 2 = some (.iload_n 1, 1, 0)) rfl rfl rfl
theorem w26_3 {x : Nat} : W (pj lw) 26 3 (.val (.ref x) :: L) S k n H Q ↔ W (pj lw) 26 4 (.val (.ref x) :: L) (.ref x :: S) k n H Q := W_s (rfl : (pj lw).1 26 3 = some (.aload_n 0, 1, 0)) rfl rfl rfl
theorem w26_4 {a : Nat} : W (pj lw) 26 4 L (.ref a :: S) k n H Q ↔ (isO H a = true ∧ W (pj lw) 26 7 L (fld H a 0 :: S) k n H Q) := W_getf (rfl : (pj lw).1 26 4 = some (.getfield 33, 3, 0))
theorem w26_7 {x y : Int32} : W (pj lw) 26 7 L (.int y :: .int x :: S) k n H Q ↔ (if x < y then W (pj lw) 26 10 L S k n H Q else W (pj lw) 26 33 L S k n H Q) := W_icmp_ge (rfl : (pj lw).1 26 7 = some (.if_icmp .ge 26, 3, 0)) rfl
theorem w26_10 {x : Nat} : W (pj lw) 26 10 (.val (.ref x) :: L) S k n H Q ↔ W (pj lw) 26 11 (.val (.ref x) :: L) (.ref x :: S) k n H Q := W_s (rfl : (pj lw).1 26 10 = some (.aload_n 0, 1, 0)) rfl rfl rfl
theorem w26_11 : W (pj lw) 26 11 L S k n H Q ↔ W (pj lw) 26 12 L (.int 2 :: S) k n H Q := W_s (rfl : (pj lw).1 26 11 = some (.iconst 2, 1, 0)) rfl rfl rfl
theorem w26_12 {x : Int32} {l0 : Slot} : W (pj lw) 26 12 (l0 :: .val (.int x) :: L) S k n H Q ↔ W (pj lw) 26 13 (l0 :: .val (.int x) :: L) (.int x :: S) k n H Q := W_s (rfl : (pj lw).1 26 12 = some (.iload_n 1, 1, 0)) rfl rfl rfl
theorem w26_13 {x y : Int32} : W (pj lw) 26 13 L (.int y :: .int x :: S) k n H Q ↔ W (pj lw) 26 14 L (.int (x * y) :: S) k n H Q := W_s (rfl : (pj lw).1 26 13 = some (.imul, 1, 0)) rfl rfl rfl
theorem w26_14 : W (pj lw) 26 14 L S k n H Q ↔ W (pj lw) 26 15 L (.int 2 :: S) k n H Q := W_s (rfl : (pj lw).1 26 14 = some (.iconst 2, 1, 0)) rfl rfl rfl
theorem w26_15 {x : Int32} {l0 : Slot} : W (pj lw) 26 15 (l0 :: .val (.int x) :: L) S k n H Q ↔ W (pj lw) 26 16 (l0 :: .val (.int x) :: L) (.int x :: S) k n H Q := W_s (rfl : (pj lw).1 26 15 = some (.iload_n 1, 1, 0)) rfl rfl rfl
theorem w26_16 {x y : Int32} : W (pj lw) 26 16 L (.int y :: .int x :: S) k n H Q ↔ W (pj lw) 26 17 L (.int (x * y) :: S) k n H Q := W_s (rfl : (pj lw).1 26 16 = some (.imul, 1, 0)) rfl rfl rfl
theorem w26_17 : W (pj lw) 26 17 L S k n H Q ↔ W (pj lw) 26 18 L (.int 1 :: S) k n H Q := W_s (rfl : (pj lw).1 26 17 = some (.iconst 1, 1, 0)) rfl rfl rfl
theorem w26_18 {x y : Int32} : W (pj lw) 26 18 L (.int y :: .int x :: S) k n H Q ↔ W (pj lw) 26 19 L (.int (x + y) :: S) k n H Q := W_s (rfl : (pj lw).1 26 18 = some (.iadd, 1, 0)) rfl rfl rfl
theorem w26_19 {a : Nat} {x0 : Int32} {x1 : Int32} : W (pj lw) 26 19 L (.int x1 :: .int x0 :: .ref a :: S) k n H Q ↔ ((isO H a = true ∧ cs S + (3 + 11) + 14 ≤ 28) ∧ Cl (pj lw) 24 [.ref a, .int x0, .int x1] H (fun v H => W (pj lw) 26 22 L (v.toList ++ S) k n H Q)) := W_inst (as := [.int x0, .int x1]) (rfl : (pj lw).1 26 19 = some (.invokevirtual 81, 3, 24)) rfl rfl rfl (Nat.le_of_ble_eq_true rfl) (Nat.le_of_ble_eq_true rfl) ⟨rfl, rfl⟩
theorem w26_22 {x : Int32} : W (pj lw) 26 22 L (.int x :: S) k n H Q ↔ (if x = 0 then W (pj lw) 26 27 L S k n H Q else W (pj lw) 26 25 L S k n H Q) := W_if_eq (rfl : (pj lw).1 26 22 = some (.ifCond .eq 5, 3, 0)) rfl
theorem w26_25 {x : Int32} {l0 : Slot} : W (pj lw) 26 25 (l0 :: .val (.int x) :: L) S k n H Q ↔ W (pj lw) 26 26 (l0 :: .val (.int x) :: L) (.int x :: S) k n H Q := W_s (rfl : (pj lw).1 26 25 = some (.iload_n 1, 1, 0)) rfl rfl rfl
theorem w26_26 {x : Int32} : W (pj lw) 26 26 L (.int x :: S) k n H Q ↔ Q (some (.int x)) H := W_r (rfl : (pj lw).1 26 26 = some (.ireturn, 1, 0)) rfl
theorem w26_27 {x : Int32} {l0 : Slot} : W (pj lw) 26 27 (l0 :: .val (.int x) :: L) S k n H Q ↔ W (pj lw) 26 30 (l0 :: .val (.int (x + 1)) :: L) S k n H Q := W_s (rfl : (pj lw).1 26 27 = some (.iinc 1 1, 3, 0)) rfl rfl rfl
theorem w26_30 : W (pj lw) 26 30 L S k n H Q ↔ W (pj lw) 26 2 L S k n H Q := W_goto (rfl : (pj lw).1 26 30 = some (.goto (-28), 3, 0)) rfl
theorem w26_33 : W (pj lw) 26 33 L S k n H Q ↔ W (pj lw) 26 34 L (.int (-1) :: S) k n H Q := W_s (rfl : (pj lw).1 26 33 = some (.iconst (-1), 1, 0)) rfl rfl rfl
theorem w26_34 {x : Int32} : W (pj lw) 26 34 L (.int x :: S) k n H Q ↔ Q (some (.int x)) H := W_r (rfl : (pj lw).1 26 34 = some (.ireturn, 1, 0)) rfl
theorem c27 {x0 : Nat} {x1 : Int32} : Cl (pj lw) 27 [.ref x0, .int x1] H Q ↔ W (pj lw) 27 0 [.val (.ref x0), .val (.int x1)] [] 0 0 H Q := Iff.rfl
theorem w27_0 : W (pj lw) 27 0 L S k n H Q ↔ W (pj lw) 27 1 L (.long 1 :: S) k n H Q := W_s (rfl : (pj lw).1 27 0 = some (.lconst 1, 1, 0)) rfl rfl rfl
theorem w27_1 {x : Int32} {l0 : Slot} : W (pj lw) 27 1 (l0 :: .val (.int x) :: L) S k n H Q ↔ W (pj lw) 27 2 (l0 :: .val (.int x) :: L) (.int x :: S) k n H Q := W_s (rfl : (pj lw).1 27 1 = some (.iload_n 1, 1, 0)) rfl rfl rfl
theorem w27_2 {x : Int64} {y : Int32} : W (pj lw) 27 2 L (.int y :: .long x :: S) k n H Q ↔ W (pj lw) 27 3 L (.long (x <<< (y.toInt64 &&& 63)) :: S) k n H Q := W_s (rfl : (pj lw).1 27 2 = some (.lshl, 1, 0)) rfl rfl rfl
theorem w27_3 {x : Nat} : W (pj lw) 27 3 (.val (.ref x) :: L) S k n H Q ↔ W (pj lw) 27 4 (.val (.ref x) :: L) (.ref x :: S) k n H Q := W_s (rfl : (pj lw).1 27 3 = some (.aload_n 0, 1, 0)) rfl rfl rfl
theorem w27_4 {a : Nat} : W (pj lw) 27 4 L (.ref a :: S) k n H Q ↔ (isO H a = true ∧ W (pj lw) 27 7 L (fld H a 11 :: S) k n H Q) := W_getf (rfl : (pj lw).1 27 4 = some (.getfield 26, 3, 11))
theorem w27_7 {x : Int32} {l0 : Slot} : W (pj lw) 27 7 (l0 :: .val (.int x) :: L) S k n H Q ↔ W (pj lw) 27 8 (l0 :: .val (.int x) :: L) (.int x :: S) k n H Q := W_s (rfl : (pj lw).1 27 7 = some (.iload_n 1, 1, 0)) rfl rfl rfl
theorem w27_8 {i : Int32} {a : Nat} : W (pj lw) 27 8 L (.int i :: .ref a :: S) k n H Q ↔ (inA H a .long i = true ∧ W (pj lw) 27 9 L (elt H a i :: S) k n H Q) := W_laload (rfl : (pj lw).1 27 8 = some (.laload, 1, 0))
theorem w27_9 {x y : Int64} : W (pj lw) 27 9 L (.long y :: .long x :: S) k n H Q ↔ W (pj lw) 27 10 L (.long (x ||| y) :: S) k n H Q := W_s (rfl : (pj lw).1 27 9 = some (.lor, 1, 0)) rfl rfl rfl
theorem w27_10 {x : Int64} : W (pj lw) 27 10 L (.long x :: S) k n H Q ↔ Q (some (.long x)) H := W_r (rfl : (pj lw).1 27 10 = some (.lreturn, 1, 0)) rfl
theorem c28 {x0 : Nat} {x1 : Int64} : Cl (pj lw) 28 [.ref x0, .long x1] H Q ↔ W (pj lw) 28 0 [.val (.ref x0), .val (.long x1), .second] [] 0 0 H Q := Iff.rfl
theorem w28_0 {x : Int64} {l0 : Slot} : W (pj lw) 28 0 (l0 :: .val (.long x) :: L) S k n H Q ↔ W (pj lw) 28 1 (l0 :: .val (.long x) :: L) (.long x :: S) k n H Q := W_s (rfl : (pj lw).1 28 0 = some (.lload_n 1, 1, 0)) rfl rfl rfl
theorem w28_1 {x : Int64} {l0 : Slot} : W (pj lw) 28 1 (l0 :: .val (.long x) :: L) S k n H Q ↔ W (pj lw) 28 2 (l0 :: .val (.long x) :: L) (.long x :: S) k n H Q := W_s (rfl : (pj lw).1 28 1 = some (.lload_n 1, 1, 0)) rfl rfl rfl
theorem w28_2 : W (pj lw) 28 2 L S k n H Q ↔ W (pj lw) 28 3 L (.int 1 :: S) k n H Q := W_s (rfl : (pj lw).1 28 2 = some (.iconst 1, 1, 0)) rfl rfl rfl
theorem w28_3 {x : Int64} {y : Int32} : W (pj lw) 28 3 L (.int y :: .long x :: S) k n H Q ↔ W (pj lw) 28 4 L (.long (Jvm.Free.XT.ushrL x y) :: S) k n H Q := W_s (rfl : (pj lw).1 28 3 = some (.lushr, 1, 0)) rfl rfl rfl
theorem w28_4 {x y : Int64} : W (pj lw) 28 4 L (.long y :: .long x :: S) k n H Q ↔ W (pj lw) 28 5 L (.long (x &&& y) :: S) k n H Q := W_s (rfl : (pj lw).1 28 4 = some (.land, 1, 0)) rfl rfl rfl
theorem w28_5 : W (pj lw) 28 5 L S k n H Q ↔ W (pj lw) 28 8 L (.long 6148914691236517205 :: S) k n H Q := W_s (rfl : (pj lw).1 28 5 = some (.ldc2_w 96, 3, 6148914691236517205)) rfl rfl rfl
theorem w28_8 {x y : Int64} : W (pj lw) 28 8 L (.long y :: .long x :: S) k n H Q ↔ W (pj lw) 28 9 L (.long (x &&& y) :: S) k n H Q := W_s (rfl : (pj lw).1 28 8 = some (.land, 1, 0)) rfl rfl rfl
theorem w28_9 : W (pj lw) 28 9 L S k n H Q ↔ W (pj lw) 28 10 L (.long 0 :: S) k n H Q := W_s (rfl : (pj lw).1 28 9 = some (.lconst 0, 1, 0)) rfl rfl rfl
theorem w28_10 {x y : Int64} : W (pj lw) 28 10 L (.long y :: .long x :: S) k n H Q ↔ W (pj lw) 28 11 L (.int (Jvm.Free.XT.cmpL x y) :: S) k n H Q := W_s (rfl : (pj lw).1 28 10 = some (.lcmp, 1, 0)) rfl rfl rfl
theorem w28_11 {x : Int32} : W (pj lw) 28 11 L (.int x :: S) k n H Q ↔ (if x = 0 then W (pj lw) 28 14 L S k n H Q else W (pj lw) 28 18 L S k n H Q) := W_if_ne (rfl : (pj lw).1 28 11 = some (.ifCond .ne 7, 3, 0)) rfl
theorem w28_14 : W (pj lw) 28 14 L S k n H Q ↔ W (pj lw) 28 15 L (.int 1 :: S) k n H Q := W_s (rfl : (pj lw).1 28 14 = some (.iconst 1, 1, 0)) rfl rfl rfl
theorem w28_15 : W (pj lw) 28 15 L S k n H Q ↔ W (pj lw) 28 19 L S k n H Q := W_goto (rfl : (pj lw).1 28 15 = some (.goto 4, 3, 0)) rfl
theorem w28_18 : W (pj lw) 28 18 L S k n H Q ↔ W (pj lw) 28 19 L (.int 0 :: S) k n H Q := W_s (rfl : (pj lw).1 28 18 = some (.iconst 0, 1, 0)) rfl rfl rfl
theorem w28_19 {x : Int32} : W (pj lw) 28 19 L (.int x :: S) k n H Q ↔ ((x = 0 ∨ x = 1) ∧ Q (some (.int x)) H) := W_rz (rfl : (pj lw).1 28 19 = some (.ireturn, 1, 0)) rfl
theorem c29 {x0 : Nat} : Cl (pj lw) 29 [.ref x0] H Q ↔ W (pj lw) 29 0 [.val (.ref x0), .unset, .unset, .unset, .unset, .unset, .unset, .unset, .unset] [] 0 0 H Q := Iff.rfl
theorem w29_0 : W (pj lw) 29 0 L S k n H Q ↔ W (pj lw) 29 1 L (.long 0 :: S) k n H Q := W_s (rfl : (pj lw).1 29 0 = some (.lconst 0, 1, 0)) rfl rfl rfl
theorem w29_1uu {x : Int64} {l0 : Slot} : W (pj lw) 29 1 (l0 :: .unset :: .unset :: L) (.long x :: S) k n H Q ↔ W (pj lw) 29 2 (l0 :: .val (.long x) :: .second :: L) S k n H Q := W_lstn (rfl : (pj lw).1 29 1 = some (.lstore_n 1, 1, 0)) rfl rfl rfl rfl
theorem w29_2 : W (pj lw) 29 2 L S k n H Q ↔ W (pj lw) 29 3 L (.int 0 :: S) k n H Q := W_s (rfl : (pj lw).1 29 2 = some (.iconst 0, 1, 0)) rfl rfl rfl
theorem w29_3 {x : Int32} {l0 l1 l2 : Slot} : W (pj lw) 29 3 (l0 :: l1 :: l2 :: .unset :: L) (.int x :: S) k n H Q ↔ W (pj lw) 29 4 (l0 :: l1 :: l2 :: .val (.int x) :: L) S k n H Q := W_istn (rfl : (pj lw).1 29 3 = some (.istore_n 3, 1, 0)) rfl rfl
theorem w29_4 {x : Int32} {l0 l1 l2 : Slot} : W (pj lw) 29 4 (l0 :: l1 :: l2 :: .val (.int x) :: L) S k n H Q ↔ W (pj lw) 29 5 (l0 :: l1 :: l2 :: .val (.int x) :: L) (.int x :: S) k n H Q := W_s (rfl : (pj lw).1 29 4 = some (.iload_n 3, 1, 0)) rfl rfl rfl
theorem w29_5 {x : Nat} : W (pj lw) 29 5 (.val (.ref x) :: L) S k n H Q ↔ W (pj lw) 29 6 (.val (.ref x) :: L) (.ref x :: S) k n H Q := W_s (rfl : (pj lw).1 29 5 = some (.aload_n 0, 1, 0)) rfl rfl rfl
theorem w29_6 {a : Nat} : W (pj lw) 29 6 L (.ref a :: S) k n H Q ↔ (isO H a = true ∧ W (pj lw) 29 9 L (fld H a 0 :: S) k n H Q) := W_getf (rfl : (pj lw).1 29 6 = some (.getfield 33, 3, 0))
theorem w29_9 {x y : Int32} : W (pj lw) 29 9 L (.int y :: .int x :: S) k n H Q ↔ (if x < y then W (pj lw) 29 12 L S k n H Q else W (pj lw) 29 109 L S k n H Q) := W_icmp_ge (rfl : (pj lw).1 29 9 = some (.if_icmp .ge 100, 3, 0)) rfl
theorem w29_12 : W (pj lw) 29 12 L S k n H Q ↔ W (pj lw) 29 13 L (.int 2 :: S) k n H Q := W_s (rfl : (pj lw).1 29 12 = some (.iconst 2, 1, 0)) rfl rfl rfl
theorem w29_13 {x : Int32} {l0 l1 l2 : Slot} : W (pj lw) 29 13 (l0 :: l1 :: l2 :: .val (.int x) :: L) S k n H Q ↔ W (pj lw) 29 14 (l0 :: l1 :: l2 :: .val (.int x) :: L) (.int x :: S) k n H Q := W_s (rfl : (pj lw).1 29 13 = some (.iload_n 3, 1, 0)) rfl rfl rfl
theorem w29_14 {x y : Int32} : W (pj lw) 29 14 L (.int y :: .int x :: S) k n H Q ↔ W (pj lw) 29 15 L (.int (x * y) :: S) k n H Q := W_s (rfl : (pj lw).1 29 14 = some (.imul, 1, 0)) rfl rfl rfl
theorem w29_15i {y : Int32} {x : Int32} {l0 l1 l2 l3 : Slot} : W (pj lw) 29 15 (l0 :: l1 :: l2 :: l3 :: .val (.int y) :: L) (.int x :: S) k n H Q ↔ W (pj lw) 29 17 (l0 :: l1 :: l2 :: l3 :: .val (.int x) :: L) S k n H Q := W_ist (rfl : (pj lw).1 29 15 = some (.istore 4, 2, 0)) rfl rfl
theorem w29_15 {x : Int32} {l0 l1 l2 l3 : Slot} : W (pj lw) 29 15 (l0 :: l1 :: l2 :: l3 :: .unset :: L) (.int x :: S) k n H Q ↔ W (pj lw) 29 17 (l0 :: l1 :: l2 :: l3 :: .val (.int x) :: L) S k n H Q := W_ist (rfl : (pj lw).1 29 15 = some (.istore 4, 2, 0)) rfl rfl
theorem w29_17 : W (pj lw) 29 17 L S k n H Q ↔ W (pj lw) 29 18 L (.long 1 :: S) k n H Q := W_s (rfl : (pj lw).1 29 17 = some (.lconst 1, 1, 0)) rfl rfl rfl
theorem w29_18 {x : Int32} {l0 l1 l2 l3 : Slot} : W (pj lw) 29 18 (l0 :: l1 :: l2 :: l3 :: .val (.int x) :: L) S k n H Q ↔ W (pj lw) 29 20 (l0 :: l1 :: l2 :: l3 :: .val (.int x) :: L) (.int x :: S) k n H Q := W_s (rfl : (pj lw).1 29 18 = some (.iload 4, 2, 0)) rfl rfl rfl
theorem w29_20 {x : Int64} {y : Int32} : W (pj lw) 29 20 L (.int y :: .long x :: S) k n H Q ↔ W (pj lw) 29 21 L (.long (x <<< (y.toInt64 &&& 63)) :: S) k n H Q := W_s (rfl : (pj lw).1 29 20 = some (.lshl, 1, 0)) rfl rfl rfl
theorem w29_21 : W (pj lw) 29 21 L S k n H Q ↔ W (pj lw) 29 22 L (.long 1 :: S) k n H Q := W_s (rfl : (pj lw).1 29 21 = some (.lconst 1, 1, 0)) rfl rfl rfl
theorem w29_22 {x : Int32} {l0 l1 l2 l3 : Slot} : W (pj lw) 29 22 (l0 :: l1 :: l2 :: l3 :: .val (.int x) :: L) S k n H Q ↔ W (pj lw) 29 24 (l0 :: l1 :: l2 :: l3 :: .val (.int x) :: L) (.int x :: S) k n H Q := W_s (rfl : (pj lw).1 29 22 = some (.iload 4, 2, 0)) rfl rfl rfl
theorem w29_24 : W (pj lw) 29 24 L S k n H Q ↔ W (pj lw) 29 25 L (.int 1 :: S) k n H Q := W_s (rfl : (pj lw).1 29 24 = some (.iconst 1, 1, 0)) rfl rfl rfl
theorem w29_25 {x y : Int32} : W (pj lw) 29 25 L (.int y :: .int x :: S) k n H Q ↔ W (pj lw) 29 26 L (.int (x + y) :: S) k n H Q := W_s (rfl : (pj lw).1 29 25 = some (.iadd, 1, 0)) rfl rfl rfl
theorem w29_26 {x : Int64} {y : Int32} : W (pj lw) 29 26 L (.int y :: .long x :: S) k n H Q ↔ W (pj lw) 29 27 L (.long (x <<< (y.toInt64 &&& 63)) :: S) k n H Q := W_s (rfl : (pj lw).1 29 26 = some (.lshl, 1, 0)) rfl rfl rfl
theorem w29_27 {x y : Int64} : W (pj lw) 29 27 L (.long y :: .long x :: S) k n H Q ↔ W (pj lw) 29 28 L (.long (x ||| y) :: S) k n H Q := W_s (rfl : (pj lw).1 29 27 = some (.lor, 1, 0)) rfl rfl rfl
theorem w29_28j {x y : Int64} {l0 l1 l2 l3 l4 : Slot} : W (pj lw) 29 28 (l0 :: l1 :: l2 :: l3 :: l4 :: .val (.long y) :: .second :: L) (.long x :: S) k n H Q ↔ W (pj lw) 29 30 (l0 :: l1 :: l2 :: l3 :: l4 :: .val (.long x) :: .second :: L) S k n H Q := W_lst' (rfl : (pj lw).1 29 28 = some (.lstore 5, 2, 0)) rfl rfl
theorem w29_28uu {x : Int64} {l0 l1 l2 l3 l4 : Slot} : W (pj lw) 29 28 (l0 :: l1 :: l2 :: l3 :: l4 :: .unset :: .unset :: L) (.long x :: S) k n H Q ↔ W (pj lw) 29 30 (l0 :: l1 :: l2 :: l3 :: l4 :: .val (.long x) :: .second :: L) S k n H Q := W_lst (rfl : (pj lw).1 29 28 = some (.lstore 5, 2, 0)) rfl rfl rfl rfl
theorem w29_30 {x : Int64} {l0 : Slot} : W (pj lw) 29 30 (l0 :: .val (.long x) :: L) S k n H Q ↔ W (pj lw) 29 31 (l0 :: .val (.long x) :: L) (.long x :: S) k n H Q := W_s (rfl : (pj lw).1 29 30 = some (.lload_n 1, 1, 0)) rfl rfl rfl
theorem w29_31 {x : Int64} {l0 l1 l2 l3 l4 : Slot} : W (pj lw) 29 31 (l0 :: l1 :: l2 :: l3 :: l4 :: .val (.long x) :: L) S k n H Q ↔ W (pj lw) 29 33 (l0 :: l1 :: l2 :: l3 :: l4 :: .val (.long x) :: L) (.long x :: S) k n H Q := W_s (rfl : (pj lw).1 29 31 = some (.lload 5, 2, 0)) rfl rfl rfl
theorem w29_33 {x y : Int64} : W (pj lw) 29 33 L (.long y :: .long x :: S) k n H Q ↔ W (pj lw) 29 34 L (.long (x &&& y) :: S) k n H Q := W_s (rfl : (pj lw).1 29 33 = some (.land, 1, 0)) rfl rfl rfl
theorem w29_34 : W (pj lw) 29 34 L S k n H Q ↔ W (pj lw) 29 35 L (.long 0 :: S) k n H Q := W_s (rfl : (pj lw).1 29 34 = some (.lconst 0, 1, 0)) rfl rfl rfl
theorem w29_35 {x y : Int64} : W (pj lw) 29 35 L (.long y :: .long x :: S) k n H Q ↔ W (pj lw) 29 36 L (.int (Jvm.Free.XT.cmpL x y) :: S) k n H Q := W_s (rfl : (pj lw).1 29 35 = some (.lcmp, 1, 0)) rfl rfl rfl
theorem w29_36 {x : Int32} : W (pj lw) 29 36 L (.int x :: S) k n H Q ↔ (if x = 0 then W (pj lw) 29 39 L S k n H Q else W (pj lw) 29 75 L S k n H Q) := W_if_ne (rfl : (pj lw).1 29 36 = some (.ifCond .ne 39, 3, 0)) rfl
theorem w29_39 {x : Int64} {l0 : Slot} : W (pj lw) 29 39 (l0 :: .val (.long x) :: L) S k n H Q ↔ W (pj lw) 29 40 (l0 :: .val (.long x) :: L) (.long x :: S) k n H Q := W_s (rfl : (pj lw).1 29 39 = some (.lload_n 1, 1, 0)) rfl rfl rfl
theorem w29_40 {x : Nat} : W (pj lw) 29 40 (.val (.ref x) :: L) S k n H Q ↔ W (pj lw) 29 41 (.val (.ref x) :: L) (.ref x :: S) k n H Q := W_s (rfl : (pj lw).1 29 40 = some (.aload_n 0, 1, 0)) rfl rfl rfl
theorem w29_41 {x : Int32} {l0 l1 l2 l3 : Slot} : W (pj lw) 29 41 (l0 :: l1 :: l2 :: l3 :: .val (.int x) :: L) S k n H Q ↔ W (pj lw) 29 43 (l0 :: l1 :: l2 :: l3 :: .val (.int x) :: L) (.int x :: S) k n H Q := W_s (rfl : (pj lw).1 29 41 = some (.iload 4, 2, 0)) rfl rfl rfl
theorem w29_43 : W (pj lw) 29 43 L S k n H Q ↔ W (pj lw) 29 44 L (.int 1 :: S) k n H Q := W_s (rfl : (pj lw).1 29 43 = some (.iconst 1, 1, 0)) rfl rfl rfl
theorem w29_44 {x y : Int32} : W (pj lw) 29 44 L (.int y :: .int x :: S) k n H Q ↔ W (pj lw) 29 45 L (.int (x + y) :: S) k n H Q := W_s (rfl : (pj lw).1 29 44 = some (.iadd, 1, 0)) rfl rfl rfl
theorem w29_45 {a : Nat} {x0 : Int32} : W (pj lw) 29 45 L (.int x0 :: .ref a :: S) k n H Q ↔ ((isO H a = true ∧ cs S + (2 + 11) + 0 ≤ 15) ∧ Cl (pj lw) 27 [.ref a, .int x0] H (fun v H => W (pj lw) 29 48 L (v.toList ++ S) k n H Q)) := W_inst (as := [.int x0]) (rfl : (pj lw).1 29 45 = some (.invokevirtual 98, 3, 27)) rfl rfl rfl (Nat.le_of_ble_eq_true rfl) (Nat.le_of_ble_eq_true rfl) ⟨rfl, rfl⟩
theorem w29_48 {x y : Int64} : W (pj lw) 29 48 L (.long y :: .long x :: S) k n H Q ↔ W (pj lw) 29 49 L (.long (x ||| y) :: S) k n H Q := W_s (rfl : (pj lw).1 29 48 = some (.lor, 1, 0)) rfl rfl rfl
theorem w29_49j {x y : Int64} {l0 l1 l2 l3 l4 l5 l6 : Slot} : W (pj lw) 29 49 (l0 :: l1 :: l2 :: l3 :: l4 :: l5 :: l6 :: .val (.long y) :: .second :: L) (.long x :: S) k n H Q ↔ W (pj lw) 29 51 (l0 :: l1 :: l2 :: l3 :: l4 :: l5 :: l6 :: .val (.long x) :: .second :: L) S k n H Q := W_lst' (rfl : (pj lw).1 29 49 = some (.lstore 7, 2, 0)) rfl rfl
theorem w29_49uu {x : Int64} {l0 l1 l2 l3 l4 l5 l6 : Slot} : W (pj lw) 29 49 (l0 :: l1 :: l2 :: l3 :: l4 :: l5 :: l6 :: .unset :: .unset :: L) (.long x :: S) k n H Q ↔ W (pj lw) 29 51 (l0 :: l1 :: l2 :: l3 :: l4 :: l5 :: l6 :: .val (.long x) :: .second :: L) S k n H Q := W_lst (rfl : (pj lw).1 29 49 = some (.lstore 7, 2, 0)) rfl rfl rfl rfl
theorem w29_51 {x : Nat} : W (pj lw) 29 51 (.val (.ref x) :: L) S k n H Q ↔ W (pj lw) 29 52 (.val (.ref x) :: L) (.ref x :: S) k n H Q := W_s (rfl : (pj lw).1 29 51 = some (.aload_n 0, 1, 0)) rfl rfl rfl
theorem w29_52 {x : Int64} {l0 l1 l2 l3 l4 l5 l6 : Slot} : W (pj lw) 29 52 (l0 :: l1 :: l2 :: l3 :: l4 :: l5 :: l6 :: .val (.long x) :: L) S k n H Q ↔ W (pj lw) 29 54 (l0 :: l1 :: l2 :: l3 :: l4 :: l5 :: l6 :: .val (.long x) :: L) (.long x :: S) k n H Q := W_s (rfl : (pj lw).1 29 52 = some (.lload 7, 2, 0)) rfl rfl rfl
theorem w29_54 {a : Nat} {x0 : Int64} : W (pj lw) 29 54 L (.long x0 :: .ref a :: S) k n H Q ↔ ((isO H a = true ∧ cs S + (3 + 11) + 0 ≤ 15) ∧ Cl (pj lw) 28 [.ref a, .long x0] H (fun v H => W (pj lw) 29 57 L (v.toList ++ S) k n H Q)) := W_inst (as := [.long x0]) (rfl : (pj lw).1 29 54 = some (.invokevirtual 102, 3, 28)) rfl rfl rfl (Nat.le_of_ble_eq_true rfl) (Nat.le_of_ble_eq_true rfl) ⟨rfl, rfl⟩
theorem w29_57 {x : Int32} : W (pj lw) 29 57 L (.int x :: S) k n H Q ↔ (if x = 0 then W (pj lw) 29 66 L S k n H Q else W (pj lw) 29 60 L S k n H Q) := W_if_eq (rfl : (pj lw).1 29 57 = some (.ifCond .eq 9, 3, 0)) rfl
theorem w29_60 {x : Int64} {l0 l1 l2 l3 l4 l5 l6 : Slot} : W (pj lw) 29 60 (l0 :: l1 :: l2 :: l3 :: l4 :: l5 :: l6 :: .val (.long x) :: L) S k n H Q ↔ W (pj lw) 29 62 (l0 :: l1 :: l2 :: l3 :: l4 :: l5 :: l6 :: .val (.long x) :: L) (.long x :: S) k n H Q := W_s (rfl : (pj lw).1 29 60 = some (.lload 7, 2, 0)) rfl rfl rfl
theorem w29_62j {x y : Int64} {l0 : Slot} : W (pj lw) 29 62 (l0 :: .val (.long y) :: .second :: L) (.long x :: S) k n H Q ↔ W (pj lw) 29 63 (l0 :: .val (.long x) :: .second :: L) S k n H Q := W_lstn' (rfl : (pj lw).1 29 62 = some (.lstore_n 1, 1, 0)) rfl rfl
theorem w29_63 : W (pj lw) 29 63 L S k n H Q ↔ W (pj lw) 29 75 L S k n H Q := W_goto (rfl : (pj lw).1 29 63 = some (.goto 12, 3, 0)) rfl
theorem w29_66 {x : Int64} {l0 : Slot} : W (pj lw) 29 66 (l0 :: .val (.long x) :: L) S k n H Q ↔ W (pj lw) 29 67 (l0 :: .val (.long x) :: L) (.long x :: S) k n H Q := W_s (rfl : (pj lw).1 29 66 = some (.lload_n 1, 1, 0)) rfl rfl rfl
theorem w29_67 {x : Nat} : W (pj lw) 29 67 (.val (.ref x) :: L) S k n H Q ↔ W (pj lw) 29 68 (.val (.ref x) :: L) (.ref x :: S) k n H Q := W_s (rfl : (pj lw).1 29 67 = some (.aload_n 0, 1, 0)) rfl rfl rfl
theorem w29_68 {x : Int32} {l0 l1 l2 l3 : Slot} : W (pj lw) 29 68 (l0 :: l1 :: l2 :: l3 :: .val (.int x) :: L) S k n H Q ↔ W (pj lw) 29 70 (l0 :: l1 :: l2 :: l3 :: .val (.int x) :: L) (.int x :: S) k n H Q := W_s (rfl : (pj lw).1 29 68 = some (.iload 4, 2, 0)) rfl rfl rfl
theorem w29_70 {a : Nat} {x0 : Int32} : W (pj lw) 29 70 L (.int x0 :: .ref a :: S) k n H Q ↔ ((isO H a = true ∧ cs S + (2 + 11) + 0 ≤ 15) ∧ Cl (pj lw) 27 [.ref a, .int x0] H (fun v H => W (pj lw) 29 73 L (v.toList ++ S) k n H Q)) := W_inst (as := [.int x0]) (rfl : (pj lw).1 29 70 = some (.invokevirtual 98, 3, 27)) rfl rfl rfl (Nat.le_of_ble_eq_true rfl) (Nat.le_of_ble_eq_true rfl) ⟨rfl, rfl⟩
theorem w29_73 {x y : Int64} : W (pj lw) 29 73 L (.long y :: .long x :: S) k n H Q ↔ W (pj lw) 29 74 L (.long (x ||| y) :: S) k n H Q := W_s (rfl : (pj lw).1 29 73 = some (.lor, 1, 0)) rfl rfl rfl
theorem w29_74j {x y : Int64} {l0 : Slot} : W (pj lw) 29 74 (l0 :: .val (.long y) :: .second :: L) (.long x :: S) k n H Q ↔ W (pj lw) 29 75 (l0 :: .val (.long x) :: .second :: L) S k n H Q := W_lstn' (rfl : (pj lw).1 29 74 = some (.lstore_n 1, 1, 0)) rfl rfl
theorem w29_75 {x : Int64} {l0 : Slot} : W (pj lw) 29 75 (l0 :: .val (.long x) :: L) S k n H Q ↔ W (pj lw) 29 76 (l0 :: .val (.long x) :: L) (.long x :: S) k n H Q := W_s (rfl : (pj lw).1 29 75 = some (.lload_n 1, 1, 0)) rfl rfl rfl
theorem w29_76 {x : Int32} {l0 l1 l2 l3 : Slot} : W (pj lw) 29 76 (l0 :: l1 :: l2 :: l3 :: .val (.int x) :: L) S k n H Q ↔ W (pj lw) 29 78 (l0 :: l1 :: l2 :: l3 :: .val (.int x) :: L) (.int x :: S) k n H Q := W_s (rfl : (pj lw).1 29 76 = some (.iload 4, 2, 0)) rfl rfl rfl
theorem w29_78 {x : Int64} {y : Int32} : W (pj lw) 29 78 L (.int y :: .long x :: S) k n H Q ↔ W (pj lw) 29 79 L (.long (Jvm.Free.XT.ushrL x y) :: S) k n H Q := W_s (rfl : (pj lw).1 29 78 = some (.lushr, 1, 0)) rfl rfl rfl
theorem w29_79 : W (pj lw) 29 79 L S k n H Q ↔ W (pj lw) 29 80 L (.long 1 :: S) k n H Q := W_s (rfl : (pj lw).1 29 79 = some (.lconst 1, 1, 0)) rfl rfl rfl
theorem w29_80 {x y : Int64} : W (pj lw) 29 80 L (.long y :: .long x :: S) k n H Q ↔ W (pj lw) 29 81 L (.long (x &&& y) :: S) k n H Q := W_s (rfl : (pj lw).1 29 80 = some (.land, 1, 0)) rfl rfl rfl
theorem w29_81 : W (pj lw) 29 81 L S k n H Q ↔ W (pj lw) 29 82 L (.long 0 :: S) k n H Q := W_s (rfl : (pj lw).1 29 81 = some (.lconst 0, 1, 0)) rfl rfl rfl
theorem w29_82 {x y : Int64} : W (pj lw) 29 82 L (.long y :: .long x :: S) k n H Q ↔ W (pj lw) 29 83 L (.int (Jvm.Free.XT.cmpL x y) :: S) k n H Q := W_s (rfl : (pj lw).1 29 82 = some (.lcmp, 1, 0)) rfl rfl rfl
theorem w29_83 {x : Int32} : W (pj lw) 29 83 L (.int x :: S) k n H Q ↔ (if x = 0 then W (pj lw) 29 96 L S k n H Q else W (pj lw) 29 86 L S k n H Q) := W_if_eq (rfl : (pj lw).1 29 83 = some (.ifCond .eq 13, 3, 0)) rfl
theorem w29_86 {x : Nat} : W (pj lw) 29 86 (.val (.ref x) :: L) S k n H Q ↔ W (pj lw) 29 87 (.val (.ref x) :: L) (.ref x :: S) k n H Q := W_s (rfl : (pj lw).1 29 86 = some (.aload_n 0, 1, 0)) rfl rfl rfl
theorem w29_87 {a : Nat} : W (pj lw) 29 87 L (.ref a :: S) k n H Q ↔ (isO H a = true ∧ W (pj lw) 29 90 L (fld H a 6 :: S) k n H Q) := W_getf (rfl : (pj lw).1 29 87 = some (.getfield 16, 3, 6))
theorem w29_90 {x : Int32} {l0 l1 l2 : Slot} : W (pj lw) 29 90 (l0 :: l1 :: l2 :: .val (.int x) :: L) S k n H Q ↔ W (pj lw) 29 91 (l0 :: l1 :: l2 :: .val (.int x) :: L) (.int x :: S) k n H Q := W_s (rfl : (pj lw).1 29 90 = some (.iload_n 3, 1, 0)) rfl rfl rfl
theorem w29_91 : W (pj lw) 29 91 L S k n H Q ↔ W (pj lw) 29 92 L (.int 1 :: S) k n H Q := W_s (rfl : (pj lw).1 29 91 = some (.iconst 1, 1, 0)) rfl rfl rfl
theorem w29_92 {x i : Int32} {a : Nat} : W (pj lw) 29 92 L (.int x :: .int i :: .ref a :: S) k n H Q ↔ (((inAw H a .byte i = true ∧ okv .byte (.int x) = true) ∨ (inAw H a .boolean i = true ∧ okv .boolean (.int x) = true)) ∧ W (pj lw) 29 93 L S k n (wr H a i.toNatClampNeg (.int x)) Q) := W_bastore (rfl : (pj lw).1 29 92 = some (.bastore, 1, 0))
theorem w29_93 : W (pj lw) 29 93 L S k n H Q ↔ W (pj lw) 29 103 L S k n H Q := W_goto (rfl : (pj lw).1 29 93 = some (.goto 10, 3, 0)) rfl
theorem w29_96 {x : Nat} : W (pj lw) 29 96 (.val (.ref x) :: L) S k n H Q ↔ W (pj lw) 29 97 (.val (.ref x) :: L) (.ref x :: S) k n H Q := W_s (rfl : (pj lw).1 29 96 = some (.aload_n 0, 1, 0)) rfl rfl rfl
theorem w29_97 {a : Nat} : W (pj lw) 29 97 L (.ref a :: S) k n H Q ↔ (isO H a = true ∧ W (pj lw) 29 100 L (fld H a 6 :: S) k n H Q) := W_getf (rfl : (pj lw).1 29 97 = some (.getfield 16, 3, 6))
theorem w29_100 {x : Int32} {l0 l1 l2 : Slot} : W (pj lw) 29 100 (l0 :: l1 :: l2 :: .val (.int x) :: L) S k n H Q ↔ W (pj lw) 29 101 (l0 :: l1 :: l2 :: .val (.int x) :: L) (.int x :: S) k n H Q := W_s (rfl : (pj lw).1 29 100 = some (.iload_n 3, 1, 0)) rfl rfl rfl
theorem w29_101 : W (pj lw) 29 101 L S k n H Q ↔ W (pj lw) 29 102 L (.int 0 :: S) k n H Q := W_s (rfl : (pj lw).1 29 101 = some (.iconst 0, 1, 0)) rfl rfl rfl
theorem w29_102 {x i : Int32} {a : Nat} : W (pj lw) 29 102 L (.int x :: .int i :: .ref a :: S) k n H Q ↔ (((inAw H a .byte i = true ∧ okv .byte (.int x) = true) ∨ (inAw H a .boolean i = true ∧ okv .boolean (.int x) = true)) ∧ W (pj lw) 29 103 L S k n (wr H a i.toNatClampNeg (.int x)) Q) := W_bastore (rfl : (pj lw).1 29 102 = some (.bastore, 1, 0))
theorem w29_103 {x : Int32} {l0 l1 l2 : Slot} : W (pj lw) 29 103 (l0 :: l1 :: l2 :: .val (.int x) :: L) S k n H Q ↔ W (pj lw) 29 106 (l0 :: l1 :: l2 :: .val (.int (x + 1)) :: L) S k n H Q := W_s (rfl : (pj lw).1 29 103 = some (.iinc 3 1, 3, 0)) rfl rfl rfl
theorem w29_106 : W (pj lw) 29 106 L S k n H Q ↔ W (pj lw) 29 4 L S k n H Q := W_goto (rfl : (pj lw).1 29 106 = some (.goto (-102), 3, 0)) rfl
theorem w29_109 : W (pj lw) 29 109 L [] k n H Q ↔ Q none H := W_r (rfl : (pj lw).1 29 109 = some (.return_, 1, 0)) rfl
theorem c30 {x0 : Nat} {x1 : Int32} : Cl (pj lw) 30 [.ref x0, .int x1] H Q ↔ W (pj lw) 30 0 [.val (.ref x0), .val (.int x1), .unset, .unset] [] 0 0 H Q := Iff.rfl
theorem w30_0 : W (pj lw) 30 0 L S k n H Q ↔ W (pj lw) 30 1 L (.int 2 :: S) k n H Q := W_s (rfl : (pj lw).1 30 0 = some (.iconst 2, 1, 0)) rfl rfl rfl
theorem w30_1 {x : Int32} {l0 : Slot} : W (pj lw) 30 1 (l0 :: .val (.int x) :: L) S k n H Q ↔ W (pj lw) 30 2 (l0 :: .val (.int x) :: L) (.int x :: S) k n H Q := W_s (rfl : (pj lw).1 30 1 = some (.iload_n 1, 1, 0)) rfl rfl rfl
theorem w30_2 {x y : Int32} : W (pj lw) 30 2 L (.int y :: .int x :: S) k n H Q ↔ W (pj lw) 30 3 L (.int (x * y) :: S) k n H Q := W_s (rfl : (pj lw).1 30 2 = some (.imul, 1, 0)) rfl rfl rfl
theorem w30_3 {x : Int32} {l0 l1 : Slot} : W (pj lw) 30 3 (l0 :: l1 :: .unset :: L) (.int x :: S) k n H Q ↔ W (pj lw) 30 4 (l0 :: l1 :: .val (.int x) :: L) S k n H Q := W_istn (rfl : (pj lw).1 30 3 = some (.istore_n 2, 1, 0)) rfl rfl
theorem w30_4 {x : Int32} {l0 l1 : Slot} : W (pj lw) 30 4 (l0 :: l1 :: .val (.int x) :: L) S k n H Q ↔ W (pj lw) 30 5 (l0 :: l1 :: .val (.int x) :: L) (.int x :: S) k n H Q := W_s (rfl : (pj lw).1 30 4 = some (.iload_n 2, 1, 0)) rfl rfl rfl
theorem w30_5 : W (pj lw) 30 5 L S k n H Q ↔ W (pj lw) 30 6 L (.int 1 :: S) k n H Q := W_s (rfl : (pj lw).1 30 5 = some (.iconst 1, 1, 0)) rfl rfl rfl
theorem w30_6 {x y : Int32} : W (pj lw) 30 6 L (.int y :: .int x :: S) k n H Q ↔ W (pj lw) 30 7 L (.int (x + y) :: S) k n H Q := W_s (rfl : (pj lw).1 30 6 = some (.iadd, 1, 0)) rfl rfl rfl
theorem w30_7 {x : Int32} {l0 l1 l2 : Slot} : W (pj lw) 30 7 (l0 :: l1 :: l2 :: .unset :: L) (.int x :: S) k n H Q ↔ W (pj lw) 30 8 (l0 :: l1 :: l2 :: .val (.int x) :: L) S k n H Q := W_istn (rfl : (pj lw).1 30 7 = some (.istore_n 3, 1, 0)) rfl rfl
theorem w30_8 {x : Nat} : W (pj lw) 30 8 (.val (.ref x) :: L) S k n H Q ↔ W (pj lw) 30 9 (.val (.ref x) :: L) (.ref x :: S) k n H Q := W_s (rfl : (pj lw).1 30 8 = some (.aload_n 0, 1, 0)) rfl rfl rfl
theorem w30_9 : W (pj lw) 30 9 L S k n H Q ↔ W (pj lw) 30 10 L (.int 0 :: S) k n H Q := W_s (rfl : (pj lw).1 30 9 = some (.iconst 0, 1, 0)) rfl rfl rfl
theorem w30_10 {a : Nat} {v : Value} : W (pj lw) 30 10 L (v :: .ref a :: S) k n H Q ↔ ((isOw H a = true ∧ okv (.int) v = true) ∧ W (pj lw) 30 13 L S k n (wr H a 8 v) Q) := W_putf (rfl : (pj lw).1 30 10 = some (.putfield 74, 3, 8))
theorem w30_13 {x : Nat} : W (pj lw) 30 13 (.val (.ref x) :: L) S k n H Q ↔ W (pj lw) 30 14 (.val (.ref x) :: L) (.ref x :: S) k n H Q := W_s (rfl : (pj lw).1 30 13 = some (.aload_n 0, 1, 0)) rfl rfl rfl
theorem w30_14 {x : Int32} {l0 l1 l2 : Slot} : W (pj lw) 30 14 (l0 :: l1 :: l2 :: .val (.int x) :: L) S k n H Q ↔ W (pj lw) 30 15 (l0 :: l1 :: l2 :: .val (.int x) :: L) (.int x :: S) k n H Q := W_s (rfl : (pj lw).1 30 14 = some (.iload_n 3, 1, 0)) rfl rfl rfl
theorem w30_15 {a : Nat} {x0 : Int32} : W (pj lw) 30 15 L (.int x0 :: .ref a :: S) k n H Q ↔ ((isO H a = true ∧ cs S + (11 + 11) + 12 ≤ 49) ∧ Cl (pj lw) 31 [.ref a, .int x0] H (fun v H => W (pj lw) 30 18 L (v.toList ++ S) k n H Q)) := W_inst (as := [.int x0]) (rfl : (pj lw).1 30 15 = some (.invokevirtual 106, 3, 31)) rfl rfl rfl (Nat.le_of_ble_eq_true rfl) (Nat.le_of_ble_eq_true rfl) ⟨rfl, rfl⟩
theorem w30_18 {x : Nat} : W (pj lw) 30 18 (.val (.ref x) :: L) S k n H Q ↔ W (pj lw) 30 19 (.val (.ref x) :: L) (.ref x :: S) k n H Q := W_s (rfl : (pj lw).1 30 18 = some (.aload_n 0, 1, 0)) rfl rfl rfl
theorem w30_19 {x : Int32} {l0 l1 : Slot} : W (pj lw) 30 19 (l0 :: l1 :: .val (.int x) :: L) S k n H Q ↔ W (pj lw) 30 20 (l0 :: l1 :: .val (.int x) :: L) (.int x :: S) k n H Q := W_s (rfl : (pj lw).1 30 19 = some (.iload_n 2, 1, 0)) rfl rfl rfl
theorem w30_20 {x : Int32} {l0 l1 l2 : Slot} : W (pj lw) 30 20 (l0 :: l1 :: l2 :: .val (.int x) :: L) S k n H Q ↔ W (pj lw) 30 21 (l0 :: l1 :: l2 :: .val (.int x) :: L) (.int x :: S) k n H Q := W_s (rfl : (pj lw).1 30 20 = some (.iload_n 3, 1, 0)) rfl rfl rfl
theorem w30_21 : W (pj lw) 30 21 L S k n H Q ↔ W (pj lw) 30 22 L (.int 1 :: S) k n H Q := W_s (rfl : (pj lw).1 30 21 = some (.iconst 1, 1, 0)) rfl rfl rfl
theorem w30_22 {a : Nat} {x0 : Int32} {x1 : Int32} {x2 : Int32} : W (pj lw) 30 22 L (.int x2 :: .int x1 :: .int x0 :: .ref a :: S) k n H Q ↔ ((isO H a = true ∧ cs S + (8 + 11) + 30 ≤ 49) ∧ Cl (pj lw) 32 [.ref a, .int x0, .int x1, .int x2] H (fun v H => W (pj lw) 30 25 L (v.toList ++ S) k n H Q)) := W_inst (as := [.int x0, .int x1, .int x2]) (rfl : (pj lw).1 30 22 = some (.invokevirtual 109, 3, 32)) rfl rfl rfl (Nat.le_of_ble_eq_true rfl) (Nat.le_of_ble_eq_true rfl) ⟨rfl, rfl⟩
theorem w30_25 {x : Nat} : W (pj lw) 30 25 (.val (.ref x) :: L) S k n H Q ↔ W (pj lw) 30 26 (.val (.ref x) :: L) (.ref x :: S) k n H Q := W_s (rfl : (pj lw).1 30 25 = some (.aload_n 0, 1, 0)) rfl rfl rfl
theorem w30_26 {x : Int32} {l0 l1 : Slot} : W (pj lw) 30 26 (l0 :: l1 :: .val (.int x) :: L) S k n H Q ↔ W (pj lw) 30 27 (l0 :: l1 :: .val (.int x) :: L) (.int x :: S) k n H Q := W_s (rfl : (pj lw).1 30 26 = some (.iload_n 2, 1, 0)) rfl rfl rfl
theorem w30_27 {a : Nat} {x0 : Int32} : W (pj lw) 30 27 L (.int x0 :: .ref a :: S) k n H Q ↔ ((isO H a = true ∧ cs S + (11 + 11) + 12 ≤ 49) ∧ Cl (pj lw) 31 [.ref a, .int x0] H (fun v H => W (pj lw) 30 30 L (v.toList ++ S) k n H Q)) := W_inst (as := [.int x0]) (rfl : (pj lw).1 30 27 = some (.invokevirtual 106, 3, 31)) rfl rfl rfl (Nat.le_of_ble_eq_true rfl) (Nat.le_of_ble_eq_true rfl) ⟨rfl, rfl⟩
theorem w30_30 {x : Nat} : W (pj lw) 30 30 (.val (.ref x) :: L) S k n H Q ↔ W (pj lw) 30 31 (.val (.ref x) :: L) (.ref x :: S) k n H Q := W_s (rfl : (pj lw).1 30 30 = some (.aload_n 0, 1, 0)) rfl rfl rfl
theorem w30_31 {x : Int32} {l0 l1 l2 : Slot} : W (pj lw) 30 31 (l0 :: l1 :: l2 :: .val (.int x) :: L) S k n H Q ↔ W (pj lw) 30 32 (l0 :: l1 :: l2 :: .val (.int x) :: L) (.int x :: S) k n H Q := W_s (rfl : (pj lw).1 30 31 = some (.iload_n 3, 1, 0)) rfl rfl rfl
theorem w30_32 {x : Int32} {l0 l1 : Slot} : W (pj lw) 30 32 (l0 :: l1 :: .val (.int x) :: L) S k n H Q ↔ W (pj lw) 30 33 (l0 :: l1 :: .val (.int x) :: L) (.int x :: S) k n H Q := W_s (rfl : (pj lw).1 30 32 = some (.iload_n 2, 1, 0)) rfl rfl rfl
theorem w30_33 : W (pj lw) 30 33 L S k n H Q ↔ W (pj lw) 30 34 L (.int 0 :: S) k n H Q := W_s (rfl : (pj lw).1 30 33 = some (.iconst 0, 1, 0)) rfl rfl rfl
theorem w30_34 {a : Nat} {x0 : Int32} {x1 : Int32} {x2 : Int32} : W (pj lw) 30 34 L (.int x2 :: .int x1 :: .int x0 :: .ref a :: S) k n H Q ↔ ((isO H a = true ∧ cs S + (8 + 11) + 30 ≤ 49) ∧ Cl (pj lw) 32 [.ref a, .int x0, .int x1, .int x2] H (fun v H => W (pj lw) 30 37 L (v.toList ++ S) k n H Q)) := W_inst (as := [.int x0, .int x1, .int x2]) (rfl : (pj lw).1 30 34 = some (.invokevirtual 109, 3, 32)) rfl rfl rfl (Nat.le_of_ble_eq_true rfl) (Nat.le_of_ble_eq_true rfl) ⟨rfl, rfl⟩
theorem w30_37 : W (pj lw) 30 37 L [] k n H Q ↔ Q none H := W_r (rfl : (pj lw).1 30 37 = some (.return_, 1, 0)) rfl
theorem c31 {x0 : Nat} {x1 : Int32} : Cl (pj lw) 31 [.ref x0, .int x1] H Q ↔ W (pj lw) 31 0 [.val (.ref x0), .val (.int x1), .unset, .unset, .unset, .unset, .unset, .unset, .unset, .unset, .unset] [] 0 0 H Q := Iff.rfl
theorem w31_0 {x : Nat} : W (pj lw) 31 0 (.val (.ref x) :: L) S k n H Q ↔ W (pj lw) 31 1 (.val (.ref x) :: L) (.ref x :: S) k n H Q := W_s (rfl : (pj lw).1 31 0 = some (.aload_n 0, 1, 0)) rfl rfl rfl
theorem w31_1 {a : Nat} : W (pj lw) 31 1 L (.ref a :: S) k n H Q ↔ ((isO H a = true ∧ cs S + (1 + 11) + 0 ≤ 12) ∧ Cl (pj lw) 17 [.ref a] H (fun v H => W (pj lw) 31 4 L (v.toList ++ S) k n H Q)) := W_inst (as := []) (rfl : (pj lw).1 31 1 = some (.invokevirtual 84, 3, 17)) rfl rfl rfl (Nat.le_of_ble_eq_true rfl) (Nat.le_of_ble_eq_true rfl) ⟨rfl, rfl⟩
theorem w31_4 {x : Int32} {l0 l1 : Slot} : W (pj lw) 31 4 (l0 :: l1 :: .unset :: L) (.int x :: S) k n H Q ↔ W (pj lw) 31 5 (l0 :: l1 :: .val (.int x) :: L) S k n H Q := W_istn (rfl : (pj lw).1 31 4 = some (.istore_n 2, 1, 0)) rfl rfl
theorem w31_5 : W (pj lw) 31 5 L S k n H Q ↔ W (pj lw) 31 6 L (.int 0 :: S) k n H Q := W_s (rfl : (pj lw).1 31 5 = some (.iconst 0, 1, 0)) rfl rfl rfl
theorem w31_6 {x : Int32} {l0 l1 l2 : Slot} : W (pj lw) 31 6 (l0 :: l1 :: l2 :: .unset :: L) (.int x :: S) k n H Q ↔ W (pj lw) 31 7 (l0 :: l1 :: l2 :: .val (.int x) :: L) S k n H Q := W_istn (rfl : (pj lw).1 31 6 = some (.istore_n 3, 1, 0)) rfl rfl
theorem w31_7 {x : Int32} {l0 l1 l2 : Slot} : W (pj lw) 31 7 (l0 :: l1 :: l2 :: .val (.int x) :: L) S k n H Q ↔ W (pj lw) 31 8 (l0 :: l1 :: l2 :: .val (.int x) :: L) (.int x :: S) k n H Q := W_s (rfl : (pj lw).1 31 7 = some (.iload_n 3, 1, 0)) rfl rfl rfl
theorem w31_8 : W (pj lw) 31 8 L S k n H Q ↔ W (pj lw) 31 10 L (.int 64 :: S) k n H Q := W_s (rfl : (pj lw).1 31 8 = some (.bipush 64, 2, 0)) rfl rfl rfl
theorem w31_10 {x y : Int32} : W (pj lw) 31 10 L (.int y :: .int x :: S) k n H Q ↔ (if x < y then W (pj lw) 31 13 L S k n H Q else W (pj lw) 31 26 L S k n H Q) := W_icmp_ge (rfl : (pj lw).1 31 10 = some (.if_icmp .ge 16, 3, 0)) rfl
theorem w31_13 {x : Nat} : W (pj lw) 31 13 (.val (.ref x) :: L) S k n H Q ↔ W (pj lw) 31 14 (.val (.ref x) :: L) (.ref x :: S) k n H Q := W_s (rfl : (pj lw).1 31 13 = some (.aload_n 0, 1, 0)) rfl rfl rfl
theorem w31_14 {a : Nat} : W (pj lw) 31 14 L (.ref a :: S) k n H Q ↔ (isO H a = true ∧ W (pj lw) 31 17 L (fld H a 12 :: S) k n H Q) := W_getf (rfl : (pj lw).1 31 14 = some (.getfield 29, 3, 12))
theorem w31_17 {x : Int32} {l0 l1 l2 : Slot} : W (pj lw) 31 17 (l0 :: l1 :: l2 :: .val (.int x) :: L) S k n H Q ↔ W (pj lw) 31 18 (l0 :: l1 :: l2 :: .val (.int x) :: L) (.int x :: S) k n H Q := W_s (rfl : (pj lw).1 31 17 = some (.iload_n 3, 1, 0)) rfl rfl rfl
theorem w31_18 : W (pj lw) 31 18 L S k n H Q ↔ W (pj lw) 31 19 L (.int (-1) :: S) k n H Q := W_s (rfl : (pj lw).1 31 18 = some (.iconst (-1), 1, 0)) rfl rfl rfl
theorem w31_19 {x i : Int32} {a : Nat} : W (pj lw) 31 19 L (.int x :: .int i :: .ref a :: S) k n H Q ↔ (inAw H a .int i = true ∧ W (pj lw) 31 20 L S k n (wr H a i.toNatClampNeg (.int x)) Q) := W_iastore (rfl : (pj lw).1 31 19 = some (.iastore, 1, 0))
theorem w31_20 {x : Int32} {l0 l1 l2 : Slot} : W (pj lw) 31 20 (l0 :: l1 :: l2 :: .val (.int x) :: L) S k n H Q ↔ W (pj lw) 31 23 (l0 :: l1 :: l2 :: .val (.int (x + 1)) :: L) S k n H Q := W_s (rfl : (pj lw).1 31 20 = some (.iinc 3 1, 3, 0)) rfl rfl rfl
theorem w31_23 : W (pj lw) 31 23 L S k n H Q ↔ W (pj lw) 31 7 L S k n H Q := W_goto (rfl : (pj lw).1 31 23 = some (.goto (-16), 3, 0)) rfl
theorem w31_26 {x : Nat} : W (pj lw) 31 26 (.val (.ref x) :: L) S k n H Q ↔ W (pj lw) 31 27 (.val (.ref x) :: L) (.ref x :: S) k n H Q := W_s (rfl : (pj lw).1 31 26 = some (.aload_n 0, 1, 0)) rfl rfl rfl
theorem w31_27 {a : Nat} : W (pj lw) 31 27 L (.ref a :: S) k n H Q ↔ (isO H a = true ∧ W (pj lw) 31 30 L (fld H a 12 :: S) k n H Q) := W_getf (rfl : (pj lw).1 31 27 = some (.getfield 29, 3, 12))
theorem w31_30 {x : Int32} {l0 : Slot} : W (pj lw) 31 30 (l0 :: .val (.int x) :: L) S k n H Q ↔ W (pj lw) 31 31 (l0 :: .val (.int x) :: L) (.int x :: S) k n H Q := W_s (rfl : (pj lw).1 31 30 = some (.iload_n 1, 1, 0)) rfl rfl rfl
theorem w31_31 : W (pj lw) 31 31 L S k n H Q ↔ W (pj lw) 31 32 L (.int 0 :: S) k n H Q := W_s (rfl : (pj lw).1 31 31 = some (.iconst 0, 1, 0)) rfl rfl rfl
theorem w31_32 {x i : Int32} {a : Nat} : W (pj lw) 31 32 L (.int x :: .int i :: .ref a :: S) k n H Q ↔ (inAw H a .int i = true ∧ W (pj lw) 31 33 L S k n (wr H a i.toNatClampNeg (.int x)) Q) := W_iastore (rfl : (pj lw).1 31 32 = some (.iastore, 1, 0))
theorem w31_33 : W (pj lw) 31 33 L S k n H Q ↔ W (pj lw) 31 34 L (.long 1 :: S) k n H Q := W_s (rfl : (pj lw).1 31 33 = some (.lconst 1, 1, 0)) rfl rfl rfl
theorem w31_34 {x : Int32} {l0 : Slot} : W (pj lw) 31 34 (l0 :: .val (.int x) :: L) S k n H Q ↔ W (pj lw) 31 35 (l0 :: .val (.int x) :: L) (.int x :: S) k n H Q := W_s (rfl : (pj lw).1 31 34 = some (.iload_n 1, 1, 0)) rfl rfl rfl
theorem w31_35 {x : Int64} {y : Int32} : W (pj lw) 31 35 L (.int y :: .long x :: S) k n H Q ↔ W (pj lw) 31 36 L (.long (x <<< (y.toInt64 &&& 63)) :: S) k n H Q := W_s (rfl : (pj lw).1 31 35 = some (.lshl, 1, 0)) rfl rfl rfl
theorem w31_36iu {y : Int32} {x : Int64} {l0 l1 l2 : Slot} : W (pj lw) 31 36 (l0 :: l1 :: l2 :: .val (.int y) :: .unset :: L) (.long x :: S) k n H Q ↔ W (pj lw) 31 37 (l0 :: l1 :: l2 :: .val (.long x) :: .second :: L) S k n H Q := W_lstn (rfl : (pj lw).1 31 36 = some (.lstore_n 3, 1, 0)) rfl rfl rfl rfl
theorem w31_37 {x : Int64} {l0 l1 l2 : Slot} : W (pj lw) 31 37 (l0 :: l1 :: l2 :: .val (.long x) :: L) S k n H Q ↔ W (pj lw) 31 38 (l0 :: l1 :: l2 :: .val (.long x) :: L) (.long x :: S) k n H Q := W_s (rfl : (pj lw).1 31 37 = some (.lload_n 3, 1, 0)) rfl rfl rfl
theorem w31_38uu {x : Int64} {l0 l1 l2 l3 l4 : Slot} : W (pj lw) 31 38 (l0 :: l1 :: l2 :: l3 :: l4 :: .unset :: .unset :: L) (.long x :: S) k n H Q ↔ W (pj lw) 31 40 (l0 :: l1 :: l2 :: l3 :: l4 :: .val (.long x) :: .second :: L) S k n H Q := W_lst (rfl : (pj lw).1 31 38 = some (.lstore 5, 2, 0)) rfl rfl rfl rfl
theorem w31_40 : W (pj lw) 31 40 L S k n H Q ↔ W (pj lw) 31 41 L (.int 1 :: S) k n H Q := W_s (rfl : (pj lw).1 31 40 = some (.iconst 1, 1, 0)) rfl rfl rfl
theorem w31_41 {x : Int32} {l0 l1 l2 l3 l4 l5 l6 : Slot} : W (pj lw) 31 41 (l0 :: l1 :: l2 :: l3 :: l4 :: l5 :: l6 :: .unset :: L) (.int x :: S) k n H Q ↔ W (pj lw) 31 43 (l0 :: l1 :: l2 :: l3 :: l4 :: l5 :: l6 :: .val (.int x) :: L) S k n H Q := W_ist (rfl : (pj lw).1 31 41 = some (.istore 7, 2, 0)) rfl rfl
theorem w31_43 {x : Int32} {l0 l1 l2 l3 l4 l5 l6 : Slot} : W (pj lw) 31 43 (l0 :: l1 :: l2 :: l3 :: l4 :: l5 :: l6 :: .val (.int x) :: L) S k n H Q ↔ W (pj lw) 31 45 (l0 :: l1 :: l2 :: l3 :: l4 :: l5 :: l6 :: .val (.int x) :: L) (.int x :: S) k n H Q := W_s (rfl : (pj lw).1 31 43 = some (.iload 7, 2, 0)) rfl rfl rfl
theorem w31_45 {x : Int32} {l0 l1 : Slot} : W (pj lw) 31 45 (l0 :: l1 :: .val (.int x) :: L) S k n H Q ↔ W (pj lw) 31 46 (l0 :: l1 :: .val (.int x) :: L) (.int x :: S) k n H Q := W_s (rfl : (pj lw).1 31 45 = some (.iload_n 2, 1, 0)) rfl rfl rfl
theorem w31_46 {x y : Int32} : W (pj lw) 31 46 L (.int y :: .int x :: S) k n H Q ↔ (if y < x then W (pj lw) 31 133 L S k n H Q else W (pj lw) 31 49 L S k n H Q) := W_icmp_gt (rfl : (pj lw).1 31 46 = some (.if_icmp .gt 87, 3, 0)) rfl
theorem w31_49 {x : Int64} {l0 l1 l2 : Slot} : W (pj lw) 31 49 (l0 :: l1 :: l2 :: .val (.long x) :: L) S k n H Q ↔ W (pj lw) 31 50 (l0 :: l1 :: l2 :: .val (.long x) :: L) (.long x :: S) k n H Q := W_s (rfl : (pj lw).1 31 49 = some (.lload_n 3, 1, 0)) rfl rfl rfl
theorem w31_50 : W (pj lw) 31 50 L S k n H Q ↔ W (pj lw) 31 51 L (.long 0 :: S) k n H Q := W_s (rfl : (pj lw).1 31 50 = some (.lconst 0, 1, 0)) rfl rfl rfl
theorem w31_51 {x y : Int64} : W (pj lw) 31 51 L (.long y :: .long x :: S) k n H Q ↔ W (pj lw) 31 52 L (.int (Jvm.Free.XT.cmpL x y) :: S) k n H Q := W_s (rfl : (pj lw).1 31 51 = some (.lcmp, 1, 0)) rfl rfl rfl
theorem w31_52 {x : Int32} : W (pj lw) 31 52 L (.int x :: S) k n H Q ↔ (if x = 0 then W (pj lw) 31 133 L S k n H Q else W (pj lw) 31 55 L S k n H Q) := W_if_eq (rfl : (pj lw).1 31 52 = some (.ifCond .eq 81, 3, 0)) rfl
theorem w31_55 : W (pj lw) 31 55 L S k n H Q ↔ W (pj lw) 31 56 L (.long 0 :: S) k n H Q := W_s (rfl : (pj lw).1 31 55 = some (.lconst 0, 1, 0)) rfl rfl rfl
theorem w31_56j {x y : Int64} {l0 l1 l2 l3 l4 l5 l6 l7 : Slot} : W (pj lw) 31 56 (l0 :: l1 :: l2 :: l3 :: l4 :: l5 :: l6 :: l7 :: .val (.long y) :: .second :: L) (.long x :: S) k n H Q ↔ W (pj lw) 31 58 (l0 :: l1 :: l2 :: l3 :: l4 :: l5 :: l6 :: l7 :: .val (.long x) :: .second :: L) S k n H Q := W_lst' (rfl : (pj lw).1 31 56 = some (.lstore 8, 2, 0)) rfl rfl
theorem w31_56uu {x : Int64} {l0 l1 l2 l3 l4 l5 l6 l7 : Slot} : W (pj lw) 31 56 (l0 :: l1 :: l2 :: l3 :: l4 :: l5 :: l6 :: l7 :: .unset :: .unset :: L) (.long x :: S) k n H Q ↔ W (pj lw) 31 58 (l0 :: l1 :: l2 :: l3 :: l4 :: l5 :: l6 :: l7 :: .val (.long x) :: .second :: L) S k n H Q := W_lst (rfl : (pj lw).1 31 56 = some (.lstore 8, 2, 0)) rfl rfl rfl rfl
theorem w31_58 : W (pj lw) 31 58 L S k n H Q ↔ W (pj lw) 31 59 L (.int 0 :: S) k n H Q := W_s (rfl : (pj lw).1 31 58 = some (.iconst 0, 1, 0)) rfl rfl rfl
theorem w31_59i {y : Int32} {x : Int32} {l0 l1 l2 l3 l4 l5 l6 l7 l8 l9 : Slot} : W (pj lw) 31 59 (l0 :: l1 :: l2 :: l3 :: l4 :: l5 :: l6 :: l7 :: l8 :: l9 :: .val (.int y) :: L) (.int x :: S) k n H Q ↔ W (pj lw) 31 61 (l0 :: l1 :: l2 :: l3 :: l4 :: l5 :: l6 :: l7 :: l8 :: l9 :: .val (.int x) :: L) S k n H Q := W_ist (rfl : (pj lw).1 31 59 = some (.istore 10, 2, 0)) rfl rfl
theorem w31_59 {x : Int32} {l0 l1 l2 l3 l4 l5 l6 l7 l8 l9 : Slot} : W (pj lw) 31 59 (l0 :: l1 :: l2 :: l3 :: l4 :: l5 :: l6 :: l7 :: l8 :: l9 :: .unset :: L) (.int x :: S) k n H Q ↔ W (pj lw) 31 61 (l0 :: l1 :: l2 :: l3 :: l4 :: l5 :: l6 :: l7 :: l8 :: l9 :: .val (.int x) :: L) S k n H Q := W_ist (rfl : (pj lw).1 31 59 = some (.istore 10, 2, 0)) rfl rfl
theorem w31_61 {x : Int32} {l0 l1 l2 l3 l4 l5 l6 l7 l8 l9 : Slot} : W (pj lw) 31 61 (l0 :: l1 :: l2 :: l3 :: l4 :: l5 :: l6 :: l7 :: l8 :: l9 :: .val (.int x) :: L) S k n H Q ↔ W (pj lw) 31 63 (l0 :: l1 :: l2 :: l3 :: l4 :: l5 :: l6 :: l7 :: l8 :: l9 :: .val (.int x) :: L) (.int x :: S) k n H Q := W_s (rfl : (pj lw).1 31 61 = some (.iload 10, 2, 0)) rfl rfl rfl
theorem w31_63 {x : Int32} {l0 l1 : Slot} : W (pj lw) 31 63 (l0 :: l1 :: .val (.int x) :: L) S k n H Q ↔ W (pj lw) 31 64 (l0 :: l1 :: .val (.int x) :: L) (.int x :: S) k n H Q := W_s (rfl : (pj lw).1 31 63 = some (.iload_n 2, 1, 0)) rfl rfl rfl
theorem w31_64 {x y : Int32} : W (pj lw) 31 64 L (.int y :: .int x :: S) k n H Q ↔ (if x < y then W (pj lw) 31 67 L S k n H Q else W (pj lw) 31 117 L S k n H Q) := W_icmp_ge (rfl : (pj lw).1 31 64 = some (.if_icmp .ge 53, 3, 0)) rfl
theorem w31_67 {x : Int64} {l0 l1 l2 l3 l4 : Slot} : W (pj lw) 31 67 (l0 :: l1 :: l2 :: l3 :: l4 :: .val (.long x) :: L) S k n H Q ↔ W (pj lw) 31 69 (l0 :: l1 :: l2 :: l3 :: l4 :: .val (.long x) :: L) (.long x :: S) k n H Q := W_s (rfl : (pj lw).1 31 67 = some (.lload 5, 2, 0)) rfl rfl rfl
theorem w31_69 {x : Int32} {l0 l1 l2 l3 l4 l5 l6 l7 l8 l9 : Slot} : W (pj lw) 31 69 (l0 :: l1 :: l2 :: l3 :: l4 :: l5 :: l6 :: l7 :: l8 :: l9 :: .val (.int x) :: L) S k n H Q ↔ W (pj lw) 31 71 (l0 :: l1 :: l2 :: l3 :: l4 :: l5 :: l6 :: l7 :: l8 :: l9 :: .val (.int x) :: L) (.int x :: S) k n H Q := W_s (rfl : (pj lw).1 31 69 = some (.iload 10, 2, 0)) rfl rfl rfl
theorem w31_71 {x : Int64} {y : Int32} : W (pj lw) 31 71 L (.int y :: .long x :: S) k n H Q ↔ W (pj lw) 31 72 L (.long (Jvm.Free.XT.ushrL x y) :: S) k n H Q := W_s (rfl : (pj lw).1 31 71 = some (.lushr, 1, 0)) rfl rfl rfl
theorem w31_72 : W (pj lw) 31 72 L S k n H Q ↔ W (pj lw) 31 73 L (.long 1 :: S) k n H Q := W_s (rfl : (pj lw).1 31 72 = some (.lconst 1, 1, 0)) rfl rfl rfl
theorem w31_73 {x y : Int64} : W (pj lw) 31 73 L (.long y :: .long x :: S) k n H Q ↔ W (pj lw) 31 74 L (.long (x &&& y) :: S) k n H Q := W_s (rfl : (pj lw).1 31 73 = some (.land, 1, 0)) rfl rfl rfl
theorem w31_74 : W (pj lw) 31 74 L S k n H Q ↔ W (pj lw) 31 75 L (.long 0 :: S) k n H Q := W_s (rfl : (pj lw).1 31 74 = some (.lconst 0, 1, 0)) rfl rfl rfl
theorem w31_75 {x y : Int64} : W (pj lw) 31 75 L (.long y :: .long x :: S) k n H Q ↔ W (pj lw) 31 76 L (.int (Jvm.Free.XT.cmpL x y) :: S) k n H Q := W_s (rfl : (pj lw).1 31 75 = some (.lcmp, 1, 0)) rfl rfl rfl
theorem w31_76 {x : Int32} : W (pj lw) 31 76 L (.int x :: S) k n H Q ↔ (if x = 0 then W (pj lw) 31 79 L S k n H Q else W (pj lw) 31 111 L S k n H Q) := W_if_ne (rfl : (pj lw).1 31 76 = some (.ifCond .ne 35, 3, 0)) rfl
theorem w31_79 {x : Nat} : W (pj lw) 31 79 (.val (.ref x) :: L) S k n H Q ↔ W (pj lw) 31 80 (.val (.ref x) :: L) (.ref x :: S) k n H Q := W_s (rfl : (pj lw).1 31 79 = some (.aload_n 0, 1, 0)) rfl rfl rfl
theorem w31_80 {a : Nat} : W (pj lw) 31 80 L (.ref a :: S) k n H Q ↔ (isO H a = true ∧ W (pj lw) 31 83 L (fld H a 10 :: S) k n H Q) := W_getf (rfl : (pj lw).1 31 80 = some (.getfield 22, 3, 10))
theorem w31_83 {x : Int32} {l0 l1 l2 l3 l4 l5 l6 l7 l8 l9 : Slot} : W (pj lw) 31 83 (l0 :: l1 :: l2 :: l3 :: l4 :: l5 :: l6 :: l7 :: l8 :: l9 :: .val (.int x) :: L) S k n H Q ↔ W (pj lw) 31 85 (l0 :: l1 :: l2 :: l3 :: l4 :: l5 :: l6 :: l7 :: l8 :: l9 :: .val (.int x) :: L) (.int x :: S) k n H Q := W_s (rfl : (pj lw).1 31 83 = some (.iload 10, 2, 0)) rfl rfl rfl
theorem w31_85 {i : Int32} {a : Nat} : W (pj lw) 31 85 L (.int i :: .ref a :: S) k n H Q ↔ (inA H a .long i = true ∧ W (pj lw) 31 86 L (elt H a i :: S) k n H Q) := W_laload (rfl : (pj lw).1 31 85 = some (.laload, 1, 0))
theorem w31_86 {x : Int64} {l0 l1 l2 : Slot} : W (pj lw) 31 86 (l0 :: l1 :: l2 :: .val (.long x) :: L) S k n H Q ↔ W (pj lw) 31 87 (l0 :: l1 :: l2 :: .val (.long x) :: L) (.long x :: S) k n H Q := W_s (rfl : (pj lw).1 31 86 = some (.lload_n 3, 1, 0)) rfl rfl rfl
theorem w31_87 {x y : Int64} : W (pj lw) 31 87 L (.long y :: .long x :: S) k n H Q ↔ W (pj lw) 31 88 L (.long (x &&& y) :: S) k n H Q := W_s (rfl : (pj lw).1 31 87 = some (.land, 1, 0)) rfl rfl rfl
theorem w31_88 : W (pj lw) 31 88 L S k n H Q ↔ W (pj lw) 31 89 L (.long 0 :: S) k n H Q := W_s (rfl : (pj lw).1 31 88 = some (.lconst 0, 1, 0)) rfl rfl rfl
theorem w31_89 {x y : Int64} : W (pj lw) 31 89 L (.long y :: .long x :: S) k n H Q ↔ W (pj lw) 31 90 L (.int (Jvm.Free.XT.cmpL x y) :: S) k n H Q := W_s (rfl : (pj lw).1 31 89 = some (.lcmp, 1, 0)) rfl rfl rfl
theorem w31_90 {x : Int32} : W (pj lw) 31 90 L (.int x :: S) k n H Q ↔ (if x = 0 then W (pj lw) 31 111 L S k n H Q else W (pj lw) 31 93 L S k n H Q) := W_if_eq (rfl : (pj lw).1 31 90 = some (.ifCond .eq 21, 3, 0)) rfl
theorem w31_93 {x : Nat} : W (pj lw) 31 93 (.val (.ref x) :: L) S k n H Q ↔ W (pj lw) 31 94 (.val (.ref x) :: L) (.ref x :: S) k n H Q := W_s (rfl : (pj lw).1 31 93 = some (.aload_n 0, 1, 0)) rfl rfl rfl
theorem w31_94 {a : Nat} : W (pj lw) 31 94 L (.ref a :: S) k n H Q ↔ (isO H a = true ∧ W (pj lw) 31 97 L (fld H a 12 :: S) k n H Q) := W_getf (rfl : (pj lw).1 31 94 = some (.getfield 29, 3, 12))
theorem w31_97 {x : Int32} {l0 l1 l2 l3 l4 l5 l6 l7 l8 l9 : Slot} : W (pj lw) 31 97 (l0 :: l1 :: l2 :: l3 :: l4 :: l5 :: l6 :: l7 :: l8 :: l9 :: .val (.int x) :: L) S k n H Q ↔ W (pj lw) 31 99 (l0 :: l1 :: l2 :: l3 :: l4 :: l5 :: l6 :: l7 :: l8 :: l9 :: .val (.int x) :: L) (.int x :: S) k n H Q := W_s (rfl : (pj lw).1 31 97 = some (.iload 10, 2, 0)) rfl rfl rfl
theorem w31_99 {x : Int32} {l0 l1 l2 l3 l4 l5 l6 : Slot} : W (pj lw) 31 99 (l0 :: l1 :: l2 :: l3 :: l4 :: l5 :: l6 :: .val (.int x) :: L) S k n H Q ↔ W (pj lw) 31 101 (l0 :: l1 :: l2 :: l3 :: l4 :: l5 :: l6 :: .val (.int x) :: L) (.int x :: S) k n H Q := W_s (rfl : (pj lw).1 31 99 = some (.iload 7, 2, 0)) rfl rfl rfl
theorem w31_101 {x i : Int32} {a : Nat} : W (pj lw) 31 101 L (.int x :: .int i :: .ref a :: S) k n H Q ↔ (inAw H a .int i = true ∧ W (pj lw) 31 102 L S k n (wr H a i.toNatClampNeg (.int x)) Q) := W_iastore (rfl : (pj lw).1 31 101 = some (.iastore, 1, 0))
theorem w31_102 {x : Int64} {l0 l1 l2 l3 l4 l5 l6 l7 : Slot} : W (pj lw) 31 102 (l0 :: l1 :: l2 :: l3 :: l4 :: l5 :: l6 :: l7 :: .val (.long x) :: L) S k n H Q ↔ W (pj lw) 31 104 (l0 :: l1 :: l2 :: l3 :: l4 :: l5 :: l6 :: l7 :: .val (.long x) :: L) (.long x :: S) k n H Q := W_s (rfl : (pj lw).1 31 102 = some (.lload 8, 2, 0)) rfl rfl rfl
theorem w31_104 : W (pj lw) 31 104 L S k n H Q ↔ W (pj lw) 31 105 L (.long 1 :: S) k n H Q := W_s (rfl : (pj lw).1 31 104 = some (.lconst 1, 1, 0)) rfl rfl rfl
theorem w31_105 {x : Int32} {l0 l1 l2 l3 l4 l5 l6 l7 l8 l9 : Slot} : W (pj lw) 31 105 (l0 :: l1 :: l2 :: l3 :: l4 :: l5 :: l6 :: l7 :: l8 :: l9 :: .val (.int x) :: L) S k n H Q ↔ W (pj lw) 31 107 (l0 :: l1 :: l2 :: l3 :: l4 :: l5 :: l6 :: l7 :: l8 :: l9 :: .val (.int x) :: L) (.int x :: S) k n H Q := W_s (rfl : (pj lw).1 31 105 = some (.iload 10, 2, 0)) rfl rfl rfl
theorem w31_107 {x : Int64} {y : Int32} : W (pj lw) 31 107 L (.int y :: .long x :: S) k n H Q ↔ W (pj lw) 31 108 L (.long (x <<< (y.toInt64 &&& 63)) :: S) k n H Q := W_s (rfl : (pj lw).1 31 107 = some (.lshl, 1, 0)) rfl rfl rfl
theorem w31_108 {x y : Int64} : W (pj lw) 31 108 L (.long y :: .long x :: S) k n H Q ↔ W (pj lw) 31 109 L (.long (x ||| y) :: S) k n H Q := W_s (rfl : (pj lw).1 31 108 = some (.lor, 1, 0)) rfl rfl rfl
theorem w31_109j {x y : Int64} {l0 l1 l2 l3 l4 l5 l6 l7 : Slot} : W (pj lw) 31 109 (l0 :: l1 :: l2 :: l3 :: l4 :: l5 :: l6 :: l7 :: .val (.long y) :: .second :: L) (.long x :: S) k n H Q ↔ W (pj lw) 31 111 (l0 :: l1 :: l2 :: l3 :: l4 :: l5 :: l6 :: l7 :: .val (.long x) :: .second :: L) S k n H Q := W_lst' (rfl : (pj lw).1 31 109 = some (.lstore 8, 2, 0)) rfl rfl
theorem w31_111 {x : Int32} {l0 l1 l2 l3 l4 l5 l6 l7 l8 l9 : Slot} : W (pj lw) 31 111 (l0 :: l1 :: l2 :: l3 :: l4 :: l5 :: l6 :: l7 :: l8 :: l9 :: .val (.int x) :: L) S k n H Q ↔ W (pj lw) 31 114 (l0 :: l1 :: l2 :: l3 :: l4 :: l5 :: l6 :: l7 :: l8 :: l9 :: .val (.int (x + 1)) :: L) S k n H Q := W_s (rfl : (pj lw).1 31 111 = some (.iinc 10 1, 3, 0)) rfl rfl rfl
theorem w31_114 : W (pj lw) 31 114 L S k n H Q ↔ W (pj lw) 31 61 L S k n H Q := W_goto (rfl : (pj lw).1 31 114 = some (.goto (-53), 3, 0)) rfl
theorem w31_117 {x : Int64} {l0 l1 l2 l3 l4 : Slot} : W (pj lw) 31 117 (l0 :: l1 :: l2 :: l3 :: l4 :: .val (.long x) :: L) S k n H Q ↔ W (pj lw) 31 119 (l0 :: l1 :: l2 :: l3 :: l4 :: .val (.long x) :: L) (.long x :: S) k n H Q := W_s (rfl : (pj lw).1 31 117 = some (.lload 5, 2, 0)) rfl rfl rfl
theorem w31_119 {x : Int64} {l0 l1 l2 l3 l4 l5 l6 l7 : Slot} : W (pj lw) 31 119 (l0 :: l1 :: l2 :: l3 :: l4 :: l5 :: l6 :: l7 :: .val (.long x) :: L) S k n H Q ↔ W (pj lw) 31 121 (l0 :: l1 :: l2 :: l3 :: l4 :: l5 :: l6 :: l7 :: .val (.long x) :: L) (.long x :: S) k n H Q := W_s (rfl : (pj lw).1 31 119 = some (.lload 8, 2, 0)) rfl rfl rfl
theorem w31_121 {x y : Int64} : W (pj lw) 31 121 L (.long y :: .long x :: S) k n H Q ↔ W (pj lw) 31 122 L (.long (x ||| y) :: S) k n H Q := W_s (rfl : (pj lw).1 31 121 = some (.lor, 1, 0)) rfl rfl rfl
theorem w31_122j {x y : Int64} {l0 l1 l2 l3 l4 : Slot} : W (pj lw) 31 122 (l0 :: l1 :: l2 :: l3 :: l4 :: .val (.long y) :: .second :: L) (.long x :: S) k n H Q ↔ W (pj lw) 31 124 (l0 :: l1 :: l2 :: l3 :: l4 :: .val (.long x) :: .second :: L) S k n H Q := W_lst' (rfl : (pj lw).1 31 122 = some (.lstore 5, 2, 0)) rfl rfl
theorem w31_124 {x : Int64} {l0 l1 l2 l3 l4 l5 l6 l7 : Slot} : W (pj lw) 31 124 (l0 :: l1 :: l2 :: l3 :: l4 :: l5 :: l6 :: l7 :: .val (.long x) :: L) S k n H Q ↔ W (pj lw) 31 126 (l0 :: l1 :: l2 :: l3 :: l4 :: l5 :: l6 :: l7 :: .val (.long x) :: L) (.long x :: S) k n H Q := W_s (rfl : (pj lw).1 31 124 = some (.lload 8, 2, 0)) rfl rfl rfl
theorem w31_126j {x y : Int64} {l0 l1 l2 : Slot} : W (pj lw) 31 126 (l0 :: l1 :: l2 :: .val (.long y) :: .second :: L) (.long x :: S) k n H Q ↔ W (pj lw) 31 127 (l0 :: l1 :: l2 :: .val (.long x) :: .second :: L) S k n H Q := W_lstn' (rfl : (pj lw).1 31 126 = some (.lstore_n 3, 1, 0)) rfl rfl
theorem w31_127 {x : Int32} {l0 l1 l2 l3 l4 l5 l6 : Slot} : W (pj lw) 31 127 (l0 :: l1 :: l2 :: l3 :: l4 :: l5 :: l6 :: .val (.int x) :: L) S k n H Q ↔ W (pj lw) 31 130 (l0 :: l1 :: l2 :: l3 :: l4 :: l5 :: l6 :: .val (.int (x + 1)) :: L) S k n H Q := W_s (rfl : (pj lw).1 31 127 = some (.iinc 7 1, 3, 0)) rfl rfl rfl
theorem w31_130 : W (pj lw) 31 130 L S k n H Q ↔ W (pj lw) 31 43 L S k n H Q := W_goto (rfl : (pj lw).1 31 130 = some (.goto (-87), 3, 0)) rfl
theorem w31_133 : W (pj lw) 31 133 L [] k n H Q ↔ Q none H := W_r (rfl : (pj lw).1 31 133 = some (.return_, 1, 0)) rfl
theorem c32 {x0 : Nat} {x1 : Int32} {x2 : Int32} {x3 : Int32} : Cl (pj lw) 32 [.ref x0, .int x1, .int x2, .int x3] H Q ↔ W (pj lw) 32 0 [.val (.ref x0), .val (.int x1), .val (.int x2), .val (.int x3), .unset, .unset, .unset, .unset] [] 0 0 H Q := Iff.rfl
theorem w32_0 {x : Nat} : W (pj lw) 32 0 (.val (.ref x) :: L) S k n H Q ↔ W (pj lw) 32 1 (.val (.ref x) :: L) (.ref x :: S) k n H Q := W_s (rfl : (pj lw).1 32 0 = some (.aload_n 0, 1, 0)) rfl rfl rfl
theorem w32_1 {a : Nat} : W (pj lw) 32 1 L (.ref a :: S) k n H Q ↔ ((isO H a = true ∧ cs S + (1 + 11) + 0 ≤ 30) ∧ Cl (pj lw) 17 [.ref a] H (fun v H => W (pj lw) 32 4 L (v.toList ++ S) k n H Q)) := W_inst (as := []) (rfl : (pj lw).1 32 1 = some (.invokevirtual 84, 3, 17)) rfl rfl rfl (Nat.le_of_ble_eq_true rfl) (Nat.le_of_ble_eq_true rfl) ⟨rfl, rfl⟩
theorem w32_4 {x : Int32} {l0 l1 l2 l3 : Slot} : W (pj lw) 32 4 (l0 :: l1 :: l2 :: l3 :: .unset :: L) (.int x :: S) k n H Q ↔ W (pj lw) 32 6 (l0 :: l1 :: l2 :: l3 :: .val (.int x) :: L) S k n H Q := W_ist (rfl : (pj lw).1 32 4 = some (.istore 4, 2, 0)) rfl rfl
theorem w32_6 {x : Int32} {l0 : Slot} : W (pj lw) 32 6 (l0 :: .val (.int x) :: L) S k n H Q ↔ W (pj lw) 32 7 (l0 :: .val (.int x) :: L) (.int x :: S) k n H Q := W_s (rfl : (pj lw).1 32 6 = some (.iload_n 1, 1, 0)) rfl rfl rfl
theorem w32_7 {x : Int32} {l0 l1 l2 l3 l4 : Slot} : W (pj lw) 32 7 (l0 :: l1 :: l2 :: l3 :: l4 :: .unset :: L) (.int x :: S) k n H Q ↔ W (pj lw) 32 9 (l0 :: l1 :: l2 :: l3 :: l4 :: .val (.int x) :: L) S k n H Q := W_ist (rfl : (pj lw).1 32 7 = some (.istore 5, 2, 0)) rfl rfl
theorem w32_9 {x : Int32} {l0 l1 l2 : Slot} : W (pj lw) 32 9 (l0 :: l1 :: l2 :: .val (.int x) :: L) S k n H Q ↔ W (pj lw) 32 10 (l0 :: l1 :: l2 :: .val (.int x) :: L) (.int x :: S) k n H Q := W_s (rfl : (pj lw).1 32 9 = some (.iload_n 3, 1, 0)) rfl rfl rfl
theorem w32_10 {x : Int32} : W (pj lw) 32 10 L (.int x :: S) k n H Q ↔ (if x = 0 then W (pj lw) 32 19 L S k n H Q else W (pj lw) 32 13 L S k n H Q) := W_if_eq (rfl : (pj lw).1 32 10 = some (.ifCond .eq 9, 3, 0)) rfl
theorem w32_13 {x : Nat} : W (pj lw) 32 13 (.val (.ref x) :: L) S k n H Q ↔ W (pj lw) 32 14 (.val (.ref x) :: L) (.ref x :: S) k n H Q := W_s (rfl : (pj lw).1 32 13 = some (.aload_n 0, 1, 0)) rfl rfl rfl
theorem w32_14 {x : Int32} {l0 l1 l2 l3 l4 : Slot} : W (pj lw) 32 14 (l0 :: l1 :: l2 :: l3 :: l4 :: .val (.int x) :: L) S k n H Q ↔ W (pj lw) 32 16 (l0 :: l1 :: l2 :: l3 :: l4 :: .val (.int x) :: L) (.int x :: S) k n H Q := W_s (rfl : (pj lw).1 32 14 = some (.iload 5, 2, 0)) rfl rfl rfl
theorem w32_16 {a : Nat} {x0 : Int32} : W (pj lw) 32 16 L (.int x0 :: .ref a :: S) k n H Q ↔ ((isO H a = true ∧ cs S + (2 + 11) + 0 ≤ 30) ∧ Cl (pj lw) 34 [.ref a, .int x0] H (fun v H => W (pj lw) 32 19 L (v.toList ++ S) k n H Q)) := W_inst (as := [.int x0]) (rfl : (pj lw).1 32 16 = some (.invokevirtual 113, 3, 34)) rfl rfl rfl (Nat.le_of_ble_eq_true rfl) (Nat.le_of_ble_eq_true rfl) ⟨rfl, rfl⟩
theorem w32_19 : W (pj lw) 32 19 L S k n H Q ↔ W (pj lw) 32 20 L (.int 0 :: S) k n H Q := W_s (rfl : (pj lw).1 32 19 = some (.iconst 0, 1, 0)) rfl rfl rfl
theorem w32_20 {x : Int32} {l0 l1 l2 l3 l4 l5 : Slot} : W (pj lw) 32 20 (l0 :: l1 :: l2 :: l3 :: l4 :: l5 :: .unset :: L) (.int x :: S) k n H Q ↔ W (pj lw) 32 22 (l0 :: l1 :: l2 :: l3 :: l4 :: l5 :: .val (.int x) :: L) S k n H Q := W_ist (rfl : (pj lw).1 32 20 = some (.istore 6, 2, 0)) rfl rfl
theorem w32_22 {x : Int32} {l0 l1 l2 l3 l4 l5 : Slot} : W (pj lw) 32 22 (l0 :: l1 :: l2 :: l3 :: l4 :: l5 :: .val (.int x) :: L) S k n H Q ↔ W (pj lw) 32 24 (l0 :: l1 :: l2 :: l3 :: l4 :: l5 :: .val (.int x) :: L) (.int x :: S) k n H Q := W_s (rfl : (pj lw).1 32 22 = some (.iload 6, 2, 0)) rfl rfl rfl
theorem w32_24 {x : Int32} {l0 l1 l2 l3 : Slot} : W (pj lw) 32 24 (l0 :: l1 :: l2 :: l3 :: .val (.int x) :: L) S k n H Q ↔ W (pj lw) 32 26 (l0 :: l1 :: l2 :: l3 :: .val (.int x) :: L) (.int x :: S) k n H Q := W_s (rfl : (pj lw).1 32 24 = some (.iload 4, 2, 0)) rfl rfl rfl
theorem w32_26 {x y : Int32} : W (pj lw) 32 26 L (.int y :: .int x :: S) k n H Q ↔ (if x < y then W (pj lw) 32 29 L S k n H Q else W (pj lw) 32 65 L S k n H Q) := W_icmp_ge (rfl : (pj lw).1 32 26 = some (.if_icmp .ge 39, 3, 0)) rfl
theorem w32_29 {x : Int32} {l0 l1 l2 l3 l4 : Slot} : W (pj lw) 32 29 (l0 :: l1 :: l2 :: l3 :: l4 :: .val (.int x) :: L) S k n H Q ↔ W (pj lw) 32 31 (l0 :: l1 :: l2 :: l3 :: l4 :: .val (.int x) :: L) (.int x :: S) k n H Q := W_s (rfl : (pj lw).1 32 29 = some (.iload 5, 2, 0)) rfl rfl rfl
theorem w32_31 {x : Int32} {l0 l1 : Slot} : W (pj lw) 32 31 (l0 :: l1 :: .val (.int x) :: L) S k n H Q ↔ W (pj lw) 32 32 (l0 :: l1 :: .val (.int x) :: L) (.int x :: S) k n H Q := W_s (rfl : (pj lw).1 32 31 = some (.iload_n 2, 1, 0)) rfl rfl rfl
theorem w32_32 {x y : Int32} : W (pj lw) 32 32 L (.int y :: .int x :: S) k n H Q ↔ (if x = y then W (pj lw) 32 65 L S k n H Q else W (pj lw) 32 35 L S k n H Q) := W_icmp_eq (rfl : (pj lw).1 32 32 = some (.if_icmp .eq 33, 3, 0)) rfl
theorem w32_35 {x : Nat} : W (pj lw) 32 35 (.val (.ref x) :: L) S k n H Q ↔ W (pj lw) 32 36 (.val (.ref x) :: L) (.ref x :: S) k n H Q := W_s (rfl : (pj lw).1 32 35 = some (.aload_n 0, 1, 0)) rfl rfl rfl
theorem w32_36 {x : Int32} {l0 l1 l2 l3 l4 : Slot} : W (pj lw) 32 36 (l0 :: l1 :: l2 :: l3 :: l4 :: .val (.int x) :: L) S k n H Q ↔ W (pj lw) 32 38 (l0 :: l1 :: l2 :: l3 :: l4 :: .val (.int x) :: L) (.int x :: S) k n H Q := W_s (rfl : (pj lw).1 32 36 = some (.iload 5, 2, 0)) rfl rfl rfl
theorem w32_38 {a : Nat} {x0 : Int32} : W (pj lw) 32 38 L (.int x0 :: .ref a :: S) k n H Q ↔ ((isO H a = true ∧ cs S + (7 + 11) + 12 ≤ 30) ∧ Cl (pj lw) 33 [.ref a, .int x0] H (fun v H => W (pj lw) 32 41 L (v.toList ++ S) k n H Q)) := W_inst (as := [.int x0]) (rfl : (pj lw).1 32 38 = some (.invokevirtual 116, 3, 33)) rfl rfl rfl (Nat.le_of_ble_eq_true rfl) (Nat.le_of_ble_eq_true rfl) ⟨rfl, rfl⟩
theorem w32_41i {y : Int32} {x : Int32} {l0 l1 l2 l3 l4 l5 l6 : Slot} : W (pj lw) 32 41 (l0 :: l1 :: l2 :: l3 :: l4 :: l5 :: l6 :: .val (.int y) :: L) (.int x :: S) k n H Q ↔ W (pj lw) 32 43 (l0 :: l1 :: l2 :: l3 :: l4 :: l5 :: l6 :: .val (.int x) :: L) S k n H Q := W_ist (rfl : (pj lw).1 32 41 = some (.istore 7, 2, 0)) rfl rfl
theorem w32_41 {x : Int32} {l0 l1 l2 l3 l4 l5 l6 : Slot} : W (pj lw) 32 41 (l0 :: l1 :: l2 :: l3 :: l4 :: l5 :: l6 :: .unset :: L) (.int x :: S) k n H Q ↔ W (pj lw) 32 43 (l0 :: l1 :: l2 :: l3 :: l4 :: l5 :: l6 :: .val (.int x) :: L) S k n H Q := W_ist (rfl : (pj lw).1 32 41 = some (.istore 7, 2, 0)) rfl rfl
theorem w32_43 {x : Int32} {l0 l1 l2 l3 l4 l5 l6 : Slot} : W (pj lw) 32 43 (l0 :: l1 :: l2 :: l3 :: l4 :: l5 :: l6 :: .val (.int x) :: L) S k n H Q ↔ W (pj lw) 32 45 (l0 :: l1 :: l2 :: l3 :: l4 :: l5 :: l6 :: .val (.int x) :: L) (.int x :: S) k n H Q := W_s (rfl : (pj lw).1 32 43 = some (.iload 7, 2, 0)) rfl rfl rfl
theorem w32_45 {x : Int32} : W (pj lw) 32 45 L (.int x :: S) k n H Q ↔ (if x < 0 then W (pj lw) 32 48 L S k n H Q else W (pj lw) 32 49 L S k n H Q) := W_if_ge (rfl : (pj lw).1 32 45 = some (.ifCond .ge 4, 3, 0)) rfl
theorem w32_48 : W (pj lw) 32 48 L [] k n H Q ↔ Q none H := W_r (rfl : (pj lw).1 32 48 = some (.return_, 1, 0)) rfl
theorem w32_49 {x : Int32} {l0 l1 l2 l3 l4 l5 l6 : Slot} : W (pj lw) 32 49 (l0 :: l1 :: l2 :: l3 :: l4 :: l5 :: l6 :: .val (.int x) :: L) S k n H Q ↔ W (pj lw) 32 51 (l0 :: l1 :: l2 :: l3 :: l4 :: l5 :: l6 :: .val (.int x) :: L) (.int x :: S) k n H Q := W_s (rfl : (pj lw).1 32 49 = some (.iload 7, 2, 0)) rfl rfl rfl
theorem w32_51i {y : Int32} {x : Int32} {l0 l1 l2 l3 l4 : Slot} : W (pj lw) 32 51 (l0 :: l1 :: l2 :: l3 :: l4 :: .val (.int y) :: L) (.int x :: S) k n H Q ↔ W (pj lw) 32 53 (l0 :: l1 :: l2 :: l3 :: l4 :: .val (.int x) :: L) S k n H Q := W_ist (rfl : (pj lw).1 32 51 = some (.istore 5, 2, 0)) rfl rfl
theorem w32_53 {x : Nat} : W (pj lw) 32 53 (.val (.ref x) :: L) S k n H Q ↔ W (pj lw) 32 54 (.val (.ref x) :: L) (.ref x :: S) k n H Q := W_s (rfl : (pj lw).1 32 53 = some (.aload_n 0, 1, 0)) rfl rfl rfl
theorem w32_54 {x : Int32} {l0 l1 l2 l3 l4 : Slot} : W (pj lw) 32 54 (l0 :: l1 :: l2 :: l3 :: l4 :: .val (.int x) :: L) S k n H Q ↔ W (pj lw) 32 56 (l0 :: l1 :: l2 :: l3 :: l4 :: .val (.int x) :: L) (.int x :: S) k n H Q := W_s (rfl : (pj lw).1 32 54 = some (.iload 5, 2, 0)) rfl rfl rfl
theorem w32_56 {a : Nat} {x0 : Int32} : W (pj lw) 32 56 L (.int x0 :: .ref a :: S) k n H Q ↔ ((isO H a = true ∧ cs S + (2 + 11) + 0 ≤ 30) ∧ Cl (pj lw) 34 [.ref a, .int x0] H (fun v H => W (pj lw) 32 59 L (v.toList ++ S) k n H Q)) := W_inst (as := [.int x0]) (rfl : (pj lw).1 32 56 = some (.invokevirtual 113, 3, 34)) rfl rfl rfl (Nat.le_of_ble_eq_true rfl) (Nat.le_of_ble_eq_true rfl) ⟨rfl, rfl⟩
theorem w32_59 {x : Int32} {l0 l1 l2 l3 l4 l5 : Slot} : W (pj lw) 32 59 (l0 :: l1 :: l2 :: l3 :: l4 :: l5 :: .val (.int x) :: L) S k n H Q ↔ W (pj lw) 32 62 (l0 :: l1 :: l2 :: l3 :: l4 :: l5 :: .val (.int (x + 1)) :: L) S k n H Q := W_s (rfl : (pj lw).1 32 59 = some (.iinc 6 1, 3, 0)) rfl rfl rfl
theorem w32_62 : W (pj lw) 32 62 L S k n H Q ↔ W (pj lw) 32 22 L S k n H Q := W_goto (rfl : (pj lw).1 32 62 = some (.goto (-40), 3, 0)) rfl
theorem w32_65 : W (pj lw) 32 65 L [] k n H Q ↔ Q none H := W_r (rfl : (pj lw).1 32 65 = some (.return_, 1, 0)) rfl
theorem c33 {x0 : Nat} {x1 : Int32} : Cl (pj lw) 33 [.ref x0, .int x1] H Q ↔ W (pj lw) 33 0 [.val (.ref x0), .val (.int x1), .unset, .unset, .unset, .unset, .unset] [] 0 0 H Q := Iff.rfl
theorem w33_0 {x : Nat} : W (pj lw) 33 0 (.val (.ref x) :: L) S k n H Q ↔ W (pj lw) 33 1 (.val (.ref x) :: L) (.ref x :: S) k n H Q := W_s (rfl : (pj lw).1 33 0 = some (.aload_n 0, 1, 0)) rfl rfl rfl
theorem w33_1 {a : Nat} : W (pj lw) 33 1 L (.ref a :: S) k n H Q ↔ (isO H a = true ∧ W (pj lw) 33 4 L (fld H a 12 :: S) k n H Q) := W_getf (rfl : (pj lw).1 33 1 = some (.getfield 29, 3, 12))
theorem w33_4 {x : Int32} {l0 : Slot} : W (pj lw) 33 4 (l0 :: .val (.int x) :: L) S k n H Q ↔ W (pj lw) 33 5 (l0 :: .val (.int x) :: L) (.int x :: S) k n H Q := W_s (rfl : (pj lw).1 33 4 = some (.iload_n 1, 1, 0)) rfl rfl rfl
theorem w33_5 {i : Int32} {a : Nat} : W (pj lw) 33 5 L (.int i :: .ref a :: S) k n H Q ↔ (inA H a .int i = true ∧ W (pj lw) 33 6 L (elt H a i :: S) k n H Q) := W_iaload (rfl : (pj lw).1 33 5 = some (.iaload, 1, 0))
theorem w33_6 : W (pj lw) 33 6 L S k n H Q ↔ W (pj lw) 33 7 L (.int 1 :: S) k n H Q := W_s (rfl : (pj lw).1 33 6 = some (.iconst 1, 1, 0)) rfl rfl rfl
theorem w33_7 {x y : Int32} : W (pj lw) 33 7 L (.int y :: .int x :: S) k n H Q ↔ W (pj lw) 33 8 L (.int (x - y) :: S) k n H Q := W_s (rfl : (pj lw).1 33 7 = some (.isub, 1, 0)) rfl rfl rfl
theorem w33_8 {x : Int32} {l0 l1 : Slot} : W (pj lw) 33 8 (l0 :: l1 :: .unset :: L) (.int x :: S) k n H Q ↔ W (pj lw) 33 9 (l0 :: l1 :: .val (.int x) :: L) S k n H Q := W_istn (rfl : (pj lw).1 33 8 = some (.istore_n 2, 1, 0)) rfl rfl
theorem w33_9 {x : Int32} {l0 l1 : Slot} : W (pj lw) 33 9 (l0 :: l1 :: .val (.int x) :: L) S k n H Q ↔ W (pj lw) 33 10 (l0 :: l1 :: .val (.int x) :: L) (.int x :: S) k n H Q := W_s (rfl : (pj lw).1 33 9 = some (.iload_n 2, 1, 0)) rfl rfl rfl
theorem w33_10 {x : Int32} : W (pj lw) 33 10 L (.int x :: S) k n H Q ↔ (if x < 0 then W (pj lw) 33 13 L S k n H Q else W (pj lw) 33 15 L S k n H Q) := W_if_ge (rfl : (pj lw).1 33 10 = some (.ifCond .ge 5, 3, 0)) rfl
theorem w33_13 : W (pj lw) 33 13 L S k n H Q ↔ W (pj lw) 33 14 L (.int (-1) :: S) k n H Q := W_s (rfl : (pj lw).1 33 13 = some (.iconst (-1), 1, 0)) rfl rfl rfl
theorem w33_14 {x : Int32} : W (pj lw) 33 14 L (.int x :: S) k n H Q ↔ Q (some (.int x)) H := W_r (rfl : (pj lw).1 33 14 = some (.ireturn, 1, 0)) rfl
theorem w33_15 {x : Nat} : W (pj lw) 33 15 (.val (.ref x) :: L) S k n H Q ↔ W (pj lw) 33 16 (.val (.ref x) :: L) (.ref x :: S) k n H Q := W_s (rfl : (pj lw).1 33 15 = some (.aload_n 0, 1, 0)) rfl rfl rfl
theorem w33_16 {a : Nat} : W (pj lw) 33 16 L (.ref a :: S) k n H Q ↔ ((isO H a = true ∧ cs S + (1 + 11) + 0 ≤ 12) ∧ Cl (pj lw) 17 [.ref a] H (fun v H => W (pj lw) 33 19 L (v.toList ++ S) k n H Q)) := W_inst (as := []) (rfl : (pj lw).1 33 16 = some (.invokevirtual 84, 3, 17)) rfl rfl rfl (Nat.le_of_ble_eq_true rfl) (Nat.le_of_ble_eq_true rfl) ⟨rfl, rfl⟩
theorem w33_19 {x : Int32} {l0 l1 l2 : Slot} : W (pj lw) 33 19 (l0 :: l1 :: l2 :: .unset :: L) (.int x :: S) k n H Q ↔ W (pj lw) 33 20 (l0 :: l1 :: l2 :: .val (.int x) :: L) S k n H Q := W_istn (rfl : (pj lw).1 33 19 = some (.istore_n 3, 1, 0)) rfl rfl
theorem w33_20 {x : Nat} : W (pj lw) 33 20 (.val (.ref x) :: L) S k n H Q ↔ W (pj lw) 33 21 (.val (.ref x) :: L) (.ref x :: S) k n H Q := W_s (rfl : (pj lw).1 33 20 = some (.aload_n 0, 1, 0)) rfl rfl rfl
theorem w33_21 {a : Nat} : W (pj lw) 33 21 L (.ref a :: S) k n H Q ↔ (isO H a = true ∧ W (pj lw) 33 24 L (fld H a 10 :: S) k n H Q) := W_getf (rfl : (pj lw).1 33 21 = some (.getfield 22, 3, 10))
theorem w33_24 {x : Int32} {l0 : Slot} : W (pj lw) 33 24 (l0 :: .val (.int x) :: L) S k n H Q ↔ W (pj lw) 33 25 (l0 :: .val (.int x) :: L) (.int x :: S) k n H Q := W_s (rfl : (pj lw).1 33 24 = some (.iload_n 1, 1, 0)) rfl rfl rfl
theorem w33_25 {i : Int32} {a : Nat} : W (pj lw) 33 25 L (.int i :: .ref a :: S) k n H Q ↔ (inA H a .long i = true ∧ W (pj lw) 33 26 L (elt H a i :: S) k n H Q) := W_laload (rfl : (pj lw).1 33 25 = some (.laload, 1, 0))
theorem w33_26uu {x : Int64} {l0 l1 l2 l3 : Slot} : W (pj lw) 33 26 (l0 :: l1 :: l2 :: l3 :: .unset :: .unset :: L) (.long x :: S) k n H Q ↔ W (pj lw) 33 28 (l0 :: l1 :: l2 :: l3 :: .val (.long x) :: .second :: L) S k n H Q := W_lst (rfl : (pj lw).1 33 26 = some (.lstore 4, 2, 0)) rfl rfl rfl rfl
theorem w33_28 : W (pj lw) 33 28 L S k n H Q ↔ W (pj lw) 33 29 L (.int 0 :: S) k n H Q := W_s (rfl : (pj lw).1 33 28 = some (.iconst 0, 1, 0)) rfl rfl rfl
theorem w33_29 {x : Int32} {l0 l1 l2 l3 l4 l5 : Slot} : W (pj lw) 33 29 (l0 :: l1 :: l2 :: l3 :: l4 :: l5 :: .unset :: L) (.int x :: S) k n H Q ↔ W (pj lw) 33 31 (l0 :: l1 :: l2 :: l3 :: l4 :: l5 :: .val (.int x) :: L) S k n H Q := W_ist (rfl : (pj lw).1 33 29 = some (.istore 6, 2, 0)) rfl rfl
theorem w33_31 {x : Int32} {l0 l1 l2 l3 l4 l5 : Slot} : W (pj lw) 33 31 (l0 :: l1 :: l2 :: l3 :: l4 :: l5 :: .val (.int x) :: L) S k n H Q ↔ W (pj lw) 33 33 (l0 :: l1 :: l2 :: l3 :: l4 :: l5 :: .val (.int x) :: L) (.int x :: S) k n H Q := W_s (rfl : (pj lw).1 33 31 = some (.iload 6, 2, 0)) rfl rfl rfl
theorem w33_33 {x : Int32} {l0 l1 l2 : Slot} : W (pj lw) 33 33 (l0 :: l1 :: l2 :: .val (.int x) :: L) S k n H Q ↔ W (pj lw) 33 34 (l0 :: l1 :: l2 :: .val (.int x) :: L) (.int x :: S) k n H Q := W_s (rfl : (pj lw).1 33 33 = some (.iload_n 3, 1, 0)) rfl rfl rfl
theorem w33_34 {x y : Int32} : W (pj lw) 33 34 L (.int y :: .int x :: S) k n H Q ↔ (if x < y then W (pj lw) 33 37 L S k n H Q else W (pj lw) 33 69 L S k n H Q) := W_icmp_ge (rfl : (pj lw).1 33 34 = some (.if_icmp .ge 35, 3, 0)) rfl
theorem w33_37 {x : Int64} {l0 l1 l2 l3 : Slot} : W (pj lw) 33 37 (l0 :: l1 :: l2 :: l3 :: .val (.long x) :: L) S k n H Q ↔ W (pj lw) 33 39 (l0 :: l1 :: l2 :: l3 :: .val (.long x) :: L) (.long x :: S) k n H Q := W_s (rfl : (pj lw).1 33 37 = some (.lload 4, 2, 0)) rfl rfl rfl
theorem w33_39 {x : Int32} {l0 l1 l2 l3 l4 l5 : Slot} : W (pj lw) 33 39 (l0 :: l1 :: l2 :: l3 :: l4 :: l5 :: .val (.int x) :: L) S k n H Q ↔ W (pj lw) 33 41 (l0 :: l1 :: l2 :: l3 :: l4 :: l5 :: .val (.int x) :: L) (.int x :: S) k n H Q := W_s (rfl : (pj lw).1 33 39 = some (.iload 6, 2, 0)) rfl rfl rfl
theorem w33_41 {x : Int64} {y : Int32} : W (pj lw) 33 41 L (.int y :: .long x :: S) k n H Q ↔ W (pj lw) 33 42 L (.long (Jvm.Free.XT.ushrL x y) :: S) k n H Q := W_s (rfl : (pj lw).1 33 41 = some (.lushr, 1, 0)) rfl rfl rfl
theorem w33_42 : W (pj lw) 33 42 L S k n H Q ↔ W (pj lw) 33 43 L (.long 1 :: S) k n H Q := W_s (rfl : (pj lw).1 33 42 = some (.lconst 1, 1, 0)) rfl rfl rfl
theorem w33_43 {x y : Int64} : W (pj lw) 33 43 L (.long y :: .long x :: S) k n H Q ↔ W (pj lw) 33 44 L (.long (x &&& y) :: S) k n H Q := W_s (rfl : (pj lw).1 33 43 = some (.land, 1, 0)) rfl rfl rfl
theorem w33_44 : W (pj lw) 33 44 L S k n H Q ↔ W (pj lw) 33 45 L (.long 0 :: S) k n H Q := W_s (rfl : (pj lw).1 33 44 = some (.lconst 0, 1, 0)) rfl rfl rfl
theorem w33_45 {x y : Int64} : W (pj lw) 33 45 L (.long y :: .long x :: S) k n H Q ↔ W (pj lw) 33 46 L (.int (Jvm.Free.XT.cmpL x y) :: S) k n H Q := W_s (rfl : (pj lw).1 33 45 = some (.lcmp, 1, 0)) rfl rfl rfl
theorem w33_46 {x : Int32} : W (pj lw) 33 46 L (.int x :: S) k n H Q ↔ (if x = 0 then W (pj lw) 33 63 L S k n H Q else W (pj lw) 33 49 L S k n H Q) := W_if_eq (rfl : (pj lw).1 33 46 = some (.ifCond .eq 17, 3, 0)) rfl
theorem w33_49 {x : Nat} : W (pj lw) 33 49 (.val (.ref x) :: L) S k n H Q ↔ W (pj lw) 33 50 (.val (.ref x) :: L) (.ref x :: S) k n H Q := W_s (rfl : (pj lw).1 33 49 = some (.aload_n 0, 1, 0)) rfl rfl rfl
theorem w33_50 {a : Nat} : W (pj lw) 33 50 L (.ref a :: S) k n H Q ↔ (isO H a = true ∧ W (pj lw) 33 53 L (fld H a 12 :: S) k n H Q) := W_getf (rfl : (pj lw).1 33 50 = some (.getfield 29, 3, 12))
theorem w33_53 {x : Int32} {l0 l1 l2 l3 l4 l5 : Slot} : W (pj lw) 33 53 (l0 :: l1 :: l2 :: l3 :: l4 :: l5 :: .val (.int x) :: L) S k n H Q ↔ W (pj lw) 33 55 (l0 :: l1 :: l2 :: l3 :: l4 :: l5 :: .val (.int x) :: L) (.int x :: S) k n H Q := W_s (rfl : (pj lw).1 33 53 = some (.iload 6, 2, 0)) rfl rfl rfl
theorem w33_55 {i : Int32} {a : Nat} : W (pj lw) 33 55 L (.int i :: .ref a :: S) k n H Q ↔ (inA H a .int i = true ∧ W (pj lw) 33 56 L (elt H a i :: S) k n H Q) := W_iaload (rfl : (pj lw).1 33 55 = some (.iaload, 1, 0))
theorem w33_56 {x : Int32} {l0 l1 : Slot} : W (pj lw) 33 56 (l0 :: l1 :: .val (.int x) :: L) S k n H Q ↔ W (pj lw) 33 57 (l0 :: l1 :: .val (.int x) :: L) (.int x :: S) k n H Q := W_s (rfl : (pj lw).1 33 56 = some (.iload_n 2, 1, 0)) rfl rfl rfl
theorem w33_57 {x y : Int32} : W (pj lw) 33 57 L (.int y :: .int x :: S) k n H Q ↔ (if x = y then W (pj lw) 33 60 L S k n H Q else W (pj lw) 33 63 L S k n H Q) := W_icmp_ne (rfl : (pj lw).1 33 57 = some (.if_icmp .ne 6, 3, 0)) rfl
theorem w33_60 {x : Int32} {l0 l1 l2 l3 l4 l5 : Slot} : W (pj lw) 33 60 (l0 :: l1 :: l2 :: l3 :: l4 :: l5 :: .val (.int x) :: L) S k n H Q ↔ W (pj lw) 33 62 (l0 :: l1 :: l2 :: l3 :: l4 :: l5 :: .val (.int x) :: L) (.int x :: S) k n H Q := W_s (rfl : (pj lw).1 33 60 = some (.iload 6, 2, 0)) rfl rfl rfl
theorem w33_62 {x : Int32} : W (pj lw) 33 62 L (.int x :: S) k n H Q ↔ Q (some (.int x)) H := W_r (rfl : (pj lw).1 33 62 = some (.ireturn, 1, 0)) rfl
theorem w33_63 {x : Int32} {l0 l1 l2 l3 l4 l5 : Slot} : W (pj lw) 33 63 (l0 :: l1 :: l2 :: l3 :: l4 :: l5 :: .val (.int x) :: L) S k n H Q ↔ W (pj lw) 33 66 (l0 :: l1 :: l2 :: l3 :: l4 :: l5 :: .val (.int (x + 1)) :: L) S k n H Q := W_s (rfl : (pj lw).1 33 63 = some (.iinc 6 1, 3, 0)) rfl rfl rfl
theorem w33_66 : W (pj lw) 33 66 L S k n H Q ↔ W (pj lw) 33 31 L S k n H Q := W_goto (rfl : (pj lw).1 33 66 = some (.goto (-35), 3, 0)) rfl
theorem w33_69 : W (pj lw) 33 69 L S k n H Q ↔ W (pj lw) 33 70 L (.int (-1) :: S) k n H Q := W_s (rfl : (pj lw).1 33 69 = some (.iconst (-1), 1, 0)) rfl rfl rfl
theorem w33_70 {x : Int32} : W (pj lw) 33 70 L (.int x :: S) k n H Q ↔ Q (some (.int x)) H := W_r (rfl : (pj lw).1 33 70 = some (.ireturn, 1, 0)) rfl
theorem c34 {x0 : Nat} {x1 : Int32} : Cl (pj lw) 34 [.ref x0, .int x1] H Q ↔ W (pj lw) 34 0 [.val (.ref x0), .val (.int x1)] [] 0 0 H Q := Iff.rfl
theorem w34_0 {x : Nat} : W (pj lw) 34 0 (.val (.ref x) :: L) S k n H Q ↔ W (pj lw) 34 1 (.val (.ref x) :: L) (.ref x :: S) k n H Q := W_s (rfl : (pj lw).1 34 0 = some (.aload_n 0, 1, 0)) rfl rfl rfl
theorem w34_1 {a : Nat} : W (pj lw) 34 1 L (.ref a :: S) k n H Q ↔ (isO H a = true ∧ W (pj lw) 34 4 L (fld H a 8 :: S) k n H Q) := W_getf (rfl : (pj lw).1 34 1 = some (.getfield 74, 3, 8))
theorem w34_4 : W (pj lw) 34 4 L S k n H Q ↔ W (pj lw) 34 7 L (.int 128 :: S) k n H Q := W_s (rfl : (pj lw).1 34 4 = some (.sipush 128, 3, 0)) rfl rfl rfl
theorem w34_7 {x y : Int32} : W (pj lw) 34 7 L (.int y :: .int x :: S) k n H Q ↔ (if x < y then W (pj lw) 34 10 L S k n H Q else W (pj lw) 34 31 L S k n H Q) := W_icmp_ge (rfl : (pj lw).1 34 7 = some (.if_icmp .ge 24, 3, 0)) rfl
theorem w34_10 {x : Nat} : W (pj lw) 34 10 (.val (.ref x) :: L) S k n H Q ↔ W (pj lw) 34 11 (.val (.ref x) :: L) (.ref x :: S) k n H Q := W_s (rfl : (pj lw).1 34 10 = some (.aload_n 0, 1, 0)) rfl rfl rfl
theorem w34_11 {a : Nat} : W (pj lw) 34 11 L (.ref a :: S) k n H Q ↔ (isO H a = true ∧ W (pj lw) 34 14 L (fld H a 7 :: S) k n H Q) := W_getf (rfl : (pj lw).1 34 11 = some (.getfield 19, 3, 7))
theorem w34_14 {x : Nat} : W (pj lw) 34 14 (.val (.ref x) :: L) S k n H Q ↔ W (pj lw) 34 15 (.val (.ref x) :: L) (.ref x :: S) k n H Q := W_s (rfl : (pj lw).1 34 14 = some (.aload_n 0, 1, 0)) rfl rfl rfl
theorem w34_15 {a : Nat} : W (pj lw) 34 15 L (.ref a :: S) k n H Q ↔ (isO H a = true ∧ W (pj lw) 34 18 L (fld H a 8 :: S) k n H Q) := W_getf (rfl : (pj lw).1 34 15 = some (.getfield 74, 3, 8))
theorem w34_18 {x : Int32} {l0 : Slot} : W (pj lw) 34 18 (l0 :: .val (.int x) :: L) S k n H Q ↔ W (pj lw) 34 19 (l0 :: .val (.int x) :: L) (.int x :: S) k n H Q := W_s (rfl : (pj lw).1 34 18 = some (.iload_n 1, 1, 0)) rfl rfl rfl
theorem w34_19 {x : Int32} : W (pj lw) 34 19 L (.int x :: S) k n H Q ↔ W (pj lw) 34 20 L (.int x.toInt8.toInt32 :: S) k n H Q := W_s (rfl : (pj lw).1 34 19 = some (.i2b, 1, 0)) rfl rfl rfl
theorem w34_20 {x i : Int32} {a : Nat} : W (pj lw) 34 20 L (.int x :: .int i :: .ref a :: S) k n H Q ↔ (((inAw H a .byte i = true ∧ okv .byte (.int x) = true) ∨ (inAw H a .boolean i = true ∧ okv .boolean (.int x) = true)) ∧ W (pj lw) 34 21 L S k n (wr H a i.toNatClampNeg (.int x)) Q) := W_bastore (rfl : (pj lw).1 34 20 = some (.bastore, 1, 0))
theorem w34_21 {x : Nat} : W (pj lw) 34 21 (.val (.ref x) :: L) S k n H Q ↔ W (pj lw) 34 22 (.val (.ref x) :: L) (.ref x :: S) k n H Q := W_s (rfl : (pj lw).1 34 21 = some (.aload_n 0, 1, 0)) rfl rfl rfl
theorem w34_22 {x : Nat} : W (pj lw) 34 22 L (.ref x :: S) k n H Q ↔ W (pj lw) 34 23 L (.ref x :: .ref x :: S) k n H Q := W_s (rfl : (pj lw).1 34 22 = some (.dup, 1, 0)) rfl rfl rfl
theorem w34_23 {a : Nat} : W (pj lw) 34 23 L (.ref a :: S) k n H Q ↔ (isO H a = true ∧ W (pj lw) 34 26 L (fld H a 8 :: S) k n H Q) := W_getf (rfl : (pj lw).1 34 23 = some (.getfield 74, 3, 8))
theorem w34_26 : W (pj lw) 34 26 L S k n H Q ↔ W (pj lw) 34 27 L (.int 1 :: S) k n H Q := W_s (rfl : (pj lw).1 34 26 = some (.iconst 1, 1, 0)) rfl rfl rfl
theorem w34_27 {x y : Int32} : W (pj lw) 34 27 L (.int y :: .int x :: S) k n H Q ↔ W (pj lw) 34 28 L (.int (x + y) :: S) k n H Q := W_s (rfl : (pj lw).1 34 27 = some (.iadd, 1, 0)) rfl rfl rfl
theorem w34_28 {a : Nat} {v : Value} : W (pj lw) 34 28 L (v :: .ref a :: S) k n H Q ↔ ((isOw H a = true ∧ okv (.int) v = true) ∧ W (pj lw) 34 31 L S k n (wr H a 8 v) Q) := W_putf (rfl : (pj lw).1 34 28 = some (.putfield 74, 3, 8))
theorem w34_31 : W (pj lw) 34 31 L [] k n H Q ↔ Q none H := W_r (rfl : (pj lw).1 34 31 = some (.return_, 1, 0)) rfl
end Pc
section A
variable {lw : LW} {H : AH} {p : Nat} {s : St} {Q : Option Value → AH → Prop} {a b : Int32} {h : Nat → Cel}
def clr (s : St) : St := uI (uI (uI s 5 0) 8 0) 9 (-1)
theorem t19 : Cl (pj lw) 19 [.ref p] (ob H p s) Q ↔ Q none (ob H p (clr s)) := by
  rw [c19]; simp +decide only [w19_0, w19_1, w19_2, w19_5, w19_6, w19_7, w19_10, w19_11, w19_12, w19_15, zr_z0, zr_uI, zr_uJ, isO_put, isOw_put, put_fst, okv_int, okv_long, okv_ref, okv_bool, okv_byte, cat1_unset, cat1_int, cat1_ref, cs_nil, cs_int, cs_ref, cs_long, cmpL_lt, cmpL_gt, cmpL_eq, sI_uI, sI_uJ, sI_uA, sI_uB, sJ_uI, sJ_uJ, sJ_uA, sJ_uB, sA_uI, sA_uJ, sA_uA, sA_uB, sB_uI, sB_uJ, sB_uA, sB_uB, sI_z0, sJ_z0, sA_z0, sB_z0, Option.toList_some, Option.toList_none, List.cons_append, List.nil_append, true_and, and_true, false_and, and_false, or_false, false_or, or_true, true_or, if_true, if_false, not_true_eq_false, not_false_eq_true, reduceIte, Nat.reduceAdd, Nat.reduceLeDiff, Nat.reduceEqDiff, Nat.reduceSub, Int32.reduceLT, Int32.reduceToInt, Nat.add_zero, Nat.zero_add, Nat.le_refl, eq_self, implies_true, ne_eq, g0, s0, g1, s1, g2, s2, g3, g4, g5, s5, g6, g7, g8, s8, g9, s9, g10, g11, g12, g13, s13, ai1, aw1, ain1, awn1, ae1, as1, ai2, aw2, ain2, awn2, ae2, as2, ai3, aw3, ain3, awn3, ae3, as3, ai4, aw4, ain4, awn4, ae4, as4, ai5, aw5, ae5, as5, ai6, aw6, ae6, as6, ai7, aw7, ae7, as7, clr]
theorem t2 : Cl (pj lw) 2 [.ref p] (ob H p s) Q ↔ Q (some (.int (sI s 0))) (ob H p s) := by
  rw [c2]; simp +decide only [w2_0, w2_1, w2_4, zr_z0, zr_uI, zr_uJ, isO_put, isOw_put, put_fst, okv_int, okv_long, okv_ref, okv_bool, okv_byte, cat1_unset, cat1_int, cat1_ref, cs_nil, cs_int, cs_ref, cs_long, cmpL_lt, cmpL_gt, cmpL_eq, sI_uI, sI_uJ, sI_uA, sI_uB, sJ_uI, sJ_uJ, sJ_uA, sJ_uB, sA_uI, sA_uJ, sA_uA, sA_uB, sB_uI, sB_uJ, sB_uA, sB_uB, sI_z0, sJ_z0, sA_z0, sB_z0, Option.toList_some, Option.toList_none, List.cons_append, List.nil_append, true_and, and_true, false_and, and_false, or_false, false_or, or_true, true_or, if_true, if_false, not_true_eq_false, not_false_eq_true, reduceIte, Nat.reduceAdd, Nat.reduceLeDiff, Nat.reduceEqDiff, Nat.reduceSub, Int32.reduceLT, Int32.reduceToInt, Nat.add_zero, Nat.zero_add, Nat.le_refl, eq_self, implies_true, ne_eq, g0, s0, g1, s1, g2, s2, g3, g4, g5, s5, g6, g7, g8, s8, g9, s9, g10, g11, g12, g13, s13, ai1, aw1, ain1, awn1, ae1, as1, ai2, aw2, ain2, awn2, ae2, as2, ai3, aw3, ain3, awn3, ae3, as3, ai4, aw4, ain4, awn4, ae4, as4, ai5, aw5, ae5, as5, ai6, aw6, ae6, as6, ai7, aw7, ae7, as7]
theorem t3 : Cl (pj lw) 3 [.ref p] (ob H p s) Q ↔ Q (some (.int (sI s 1))) (ob H p s) := by
  rw [c3]; simp +decide only [w3_0, w3_1, w3_4, zr_z0, zr_uI, zr_uJ, isO_put, isOw_put, put_fst, okv_int, okv_long, okv_ref, okv_bool, okv_byte, cat1_unset, cat1_int, cat1_ref, cs_nil, cs_int, cs_ref, cs_long, cmpL_lt, cmpL_gt, cmpL_eq, sI_uI, sI_uJ, sI_uA, sI_uB, sJ_uI, sJ_uJ, sJ_uA, sJ_uB, sA_uI, sA_uJ, sA_uA, sA_uB, sB_uI, sB_uJ, sB_uA, sB_uB, sI_z0, sJ_z0, sA_z0, sB_z0, Option.toList_some, Option.toList_none, List.cons_append, List.nil_append, true_and, and_true, false_and, and_false, or_false, false_or, or_true, true_or, if_true, if_false, not_true_eq_false, not_false_eq_true, reduceIte, Nat.reduceAdd, Nat.reduceLeDiff, Nat.reduceEqDiff, Nat.reduceSub, Int32.reduceLT, Int32.reduceToInt, Nat.add_zero, Nat.zero_add, Nat.le_refl, eq_self, implies_true, ne_eq, g0, s0, g1, s1, g2, s2, g3, g4, g5, s5, g6, g7, g8, s8, g9, s9, g10, g11, g12, g13, s13, ai1, aw1, ain1, awn1, ae1, as1, ai2, aw2, ain2, awn2, ae2, as2, ai3, aw3, ain3, awn3, ae3, as3, ai4, aw4, ain4, awn4, ae4, as4, ai5, aw5, ae5, as5, ai6, aw6, ae6, as6, ai7, aw7, ae7, as7]
theorem t4 : Cl (pj lw) 4 [.ref p] (ob H p s) Q ↔ Q (some (.int (sI s 2))) (ob H p s) := by
  rw [c4]; simp +decide only [w4_0, w4_1, w4_4, zr_z0, zr_uI, zr_uJ, isO_put, isOw_put, put_fst, okv_int, okv_long, okv_ref, okv_bool, okv_byte, cat1_unset, cat1_int, cat1_ref, cs_nil, cs_int, cs_ref, cs_long, cmpL_lt, cmpL_gt, cmpL_eq, sI_uI, sI_uJ, sI_uA, sI_uB, sJ_uI, sJ_uJ, sJ_uA, sJ_uB, sA_uI, sA_uJ, sA_uA, sA_uB, sB_uI, sB_uJ, sB_uA, sB_uB, sI_z0, sJ_z0, sA_z0, sB_z0, Option.toList_some, Option.toList_none, List.cons_append, List.nil_append, true_and, and_true, false_and, and_false, or_false, false_or, or_true, true_or, if_true, if_false, not_true_eq_false, not_false_eq_true, reduceIte, Nat.reduceAdd, Nat.reduceLeDiff, Nat.reduceEqDiff, Nat.reduceSub, Int32.reduceLT, Int32.reduceToInt, Nat.add_zero, Nat.zero_add, Nat.le_refl, eq_self, implies_true, ne_eq, g0, s0, g1, s1, g2, s2, g3, g4, g5, s5, g6, g7, g8, s8, g9, s9, g10, g11, g12, g13, s13, ai1, aw1, ain1, awn1, ae1, as1, ai2, aw2, ain2, awn2, ae2, as2, ai3, aw3, ain3, awn3, ae3, as3, ai4, aw4, ain4, awn4, ae4, as4, ai5, aw5, ae5, as5, ai6, aw6, ae6, as6, ai7, aw7, ae7, as7]
theorem t9 : Cl (pj lw) 9 [.ref p] (ob H p s) Q ↔ Q (some (.int (sI s 5))) (ob H p s) := by
  rw [c9]; simp +decide only [w9_0, w9_1, w9_4, zr_z0, zr_uI, zr_uJ, isO_put, isOw_put, put_fst, okv_int, okv_long, okv_ref, okv_bool, okv_byte, cat1_unset, cat1_int, cat1_ref, cs_nil, cs_int, cs_ref, cs_long, cmpL_lt, cmpL_gt, cmpL_eq, sI_uI, sI_uJ, sI_uA, sI_uB, sJ_uI, sJ_uJ, sJ_uA, sJ_uB, sA_uI, sA_uJ, sA_uA, sA_uB, sB_uI, sB_uJ, sB_uA, sB_uB, sI_z0, sJ_z0, sA_z0, sB_z0, Option.toList_some, Option.toList_none, List.cons_append, List.nil_append, true_and, and_true, false_and, and_false, or_false, false_or, or_true, true_or, if_true, if_false, not_true_eq_false, not_false_eq_true, reduceIte, Nat.reduceAdd, Nat.reduceLeDiff, Nat.reduceEqDiff, Nat.reduceSub, Int32.reduceLT, Int32.reduceToInt, Nat.add_zero, Nat.zero_add, Nat.le_refl, eq_self, implies_true, ne_eq, g0, s0, g1, s1, g2, s2, g3, g4, g5, s5, g6, g7, g8, s8, g9, s9, g10, g11, g12, g13, s13, ai1, aw1, ain1, awn1, ae1, as1, ai2, aw2, ain2, awn2, ae2, as2, ai3, aw3, ain3, awn3, ae3, as3, ai4, aw4, ain4, awn4, ae4, as4, ai5, aw5, ae5, as5, ai6, aw6, ae6, as6, ai7, aw7, ae7, as7]
def ini0 (a b : Int32) : St := clr (uI (uI (uI (uI z0 0 (cl 1 32 a)) 1 (cl 1 64 b)) 2 0) 13 0)
theorem t1 : Cl (pj lw) 1 [.ref p, .int a, .int b] (put lay 0 (p + 1, h) p z0) Q ↔ Q none (ob (p + 8, h) p (ini0 a b)) := by
  rw [c1]
  by_cases h1 : a < 1 <;> by_cases h2 : 32 < a <;> by_cases h3 : b < 1 <;> by_cases h4 : 64 < b <;>
    simp +decide only [w1_0, w1_1, w1_4, w1_5, w1_7, w1_9, w1_12, w1_13, w1_15, w1_17, w1_20, w1_21, w1_23, w1_25, w1_28, w1_29, w1_32, w1_34, w1_37, w1_38, w1_40, w1_42, w1_45, w1_46, w1_48, w1_50, w1_53, w1_54, w1_56, w1_58, w1_61, w1_62, w1_63, w1_64, w1_65, w1_68, w1_69i, w1_70, w1_71, w1_73, w1_76, w1_78i, w1_79, w1_80, w1_82, w1_84, w1_85, w1_88, w1_89i, w1_91, w1_93, w1_95, w1_98, w1_100i, w1_102, w1_103, w1_104, w1_107, w1_108, w1_110, w1_113, w1_114, w1_115, w1_118, w1_119, w1_120, w1_123, w1_124, w1_127, zr_z0, zr_uI, zr_uJ, isO_put, isOw_put, put_fst, okv_int, okv_long, okv_ref, okv_bool, okv_byte, cat1_unset, cat1_int, cat1_ref, cs_nil, cs_int, cs_ref, cs_long, cmpL_lt, cmpL_gt, cmpL_eq, sI_uI, sI_uJ, sI_uA, sI_uB, sJ_uI, sJ_uJ, sJ_uA, sJ_uB, sA_uI, sA_uJ, sA_uA, sA_uB, sB_uI, sB_uJ, sB_uA, sB_uB, sI_z0, sJ_z0, sA_z0, sB_z0, Option.toList_some, Option.toList_none, List.cons_append, List.nil_append, true_and, and_true, false_and, and_false, or_false, false_or, or_true, true_or, if_true, if_false, not_true_eq_false, not_false_eq_true, reduceIte, Nat.reduceAdd, Nat.reduceLeDiff, Nat.reduceEqDiff, Nat.reduceSub, Int32.reduceLT, Int32.reduceToInt, Nat.add_zero, Nat.zero_add, Nat.le_refl, eq_self, implies_true, ne_eq, g0, s0, g1, s1, g2, s2, g3, g4, g5, s5, g6, g7, g8, s8, g9, s9, g10, g11, g12, g13, s13, ai1, aw1, ain1, awn1, ae1, as1, ai2, aw2, ain2, awn2, ae2, as2, ai3, aw3, ain3, awn3, ae3, as3, ai4, aw4, ain4, awn4, ae4, as4, ai5, aw5, ae5, as5, ai6, aw6, ae6, as6, ai7, aw7, ae7, as7, mk1, mk2, mk3, mk4, mk5, mk6, mk7, io1, io2, io3, io4, io5, io6, io7, t19, h1, h2, h3, h4, ini0, cl]
theorem t6 : Cl (pj lw) 6 [.ref p] (ob H p s) Q ↔ (if 0 < sI s 2 then ((0 ≤ (sI s 2 - 1).toInt ∧ (sI s 2 - 1).toInt < 64) ∧ Q (some (.int (sI s 2 - 1))) (ob H p (clr (uI (uA (uA (uI s 2 (sI s 2 - 1)) 1 (sI s 2 - 1).toNatClampNeg 0) 2 (sI s 2 - 1).toNatClampNeg 0) 13 0)))) else Q (some (.int (-1))) (ob H p s)) := by
  rw [c6]; simp +decide only [w6_0, w6_1, w6_4, w6_7, w6_8, w6_9, w6_10, w6_11, w6_14, w6_15, w6_16, w6_19, w6_20, w6_23, w6_24, w6_27, w6_28, w6_29, w6_30, w6_33, w6_34, w6_37, w6_38, w6_39, w6_40, w6_41, w6_44, w6_45, w6_48, w6_49, w6_52, zr_z0, zr_uI, zr_uJ, isO_put, isOw_put, put_fst, okv_int, okv_long, okv_ref, okv_bool, okv_byte, cat1_unset, cat1_int, cat1_ref, cs_nil, cs_int, cs_ref, cs_long, cmpL_lt, cmpL_gt, cmpL_eq, sI_uI, sI_uJ, sI_uA, sI_uB, sJ_uI, sJ_uJ, sJ_uA, sJ_uB, sA_uI, sA_uJ, sA_uA, sA_uB, sB_uI, sB_uJ, sB_uA, sB_uB, sI_z0, sJ_z0, sA_z0, sB_z0, Option.toList_some, Option.toList_none, List.cons_append, List.nil_append, true_and, and_true, false_and, and_false, or_false, false_or, or_true, true_or, if_true, if_false, not_true_eq_false, not_false_eq_true, reduceIte, Nat.reduceAdd, Nat.reduceLeDiff, Nat.reduceEqDiff, Nat.reduceSub, Int32.reduceLT, Int32.reduceToInt, Nat.add_zero, Nat.zero_add, Nat.le_refl, eq_self, implies_true, ne_eq, g0, s0, g1, s1, g2, s2, g3, g4, g5, s5, g6, g7, g8, s8, g9, s9, g10, g11, g12, g13, s13, ai1, aw1, ain1, awn1, ae1, as1, ai2, aw2, ain2, awn2, ae2, as2, ai3, aw3, ain3, awn3, ae3, as3, ai4, aw4, ain4, awn4, ae4, as4, ai5, aw5, ae5, as5, ai6, aw6, ae6, as6, ai7, aw7, ae7, as7, t19, awn1, awn2, and_assoc]
  by_cases h0 : 0 < sI s 2
  · simp only [h0, if_true]
    exact ⟨fun ⟨a, b, _, _, q⟩ => ⟨a, b, q⟩, fun ⟨a, b, q⟩ => ⟨a, b, a, b, q⟩⟩
  · simp only [h0, if_false]
theorem t7 : Cl (pj lw) 7 [.ref p, .int a, .int b] (ob H p s) Q ↔ (if a < 0 then Q (some (.int (-1))) (ob H p s) else if a < sI s 2 then (if b = 0 then ((0 ≤ a.toInt ∧ a.toInt < 64) ∧ Q (some (.int (sA s 1 a.toNatClampNeg))) (ob H p s)) else if b = 1 then ((0 ≤ a.toInt ∧ a.toInt < 64) ∧ Q (some (.int (sA s 2 a.toNatClampNeg))) (ob H p s)) else Q (some (.int (-1))) (ob H p s)) else Q (some (.int (-1))) (ob H p s)) := by
  rw [c7]; simp +decide only [w7_0, w7_1, w7_4, w7_5, w7_6, w7_9, w7_12, w7_13, w7_14, w7_15, w7_18, w7_19, w7_22, w7_23, w7_24, w7_25, w7_26, w7_27, w7_30, w7_31, w7_34, w7_35, w7_36, w7_37, w7_38, zr_z0, zr_uI, zr_uJ, isO_put, isOw_put, put_fst, okv_int, okv_long, okv_ref, okv_bool, okv_byte, cat1_unset, cat1_int, cat1_ref, cs_nil, cs_int, cs_ref, cs_long, cmpL_lt, cmpL_gt, cmpL_eq, sI_uI, sI_uJ, sI_uA, sI_uB, sJ_uI, sJ_uJ, sJ_uA, sJ_uB, sA_uI, sA_uJ, sA_uA, sA_uB, sB_uI, sB_uJ, sB_uA, sB_uB, sI_z0, sJ_z0, sA_z0, sB_z0, Option.toList_some, Option.toList_none, List.cons_append, List.nil_append, true_and, and_true, false_and, and_false, or_false, false_or, or_true, true_or, if_true, if_false, not_true_eq_false, not_false_eq_true, reduceIte, Nat.reduceAdd, Nat.reduceLeDiff, Nat.reduceEqDiff, Nat.reduceSub, Int32.reduceLT, Int32.reduceToInt, Nat.add_zero, Nat.zero_add, Nat.le_refl, eq_self, implies_true, ne_eq, g0, s0, g1, s1, g2, s2, g3, g4, g5, s5, g6, g7, g8, s8, g9, s9, g10, g11, g12, g13, s13, ai1, aw1, ain1, awn1, ae1, as1, ai2, aw2, ain2, awn2, ae2, as2, ai3, aw3, ain3, awn3, ae3, as3, ai4, aw4, ain4, awn4, ae4, as4, ai5, aw5, ae5, as5, ai6, aw6, ae6, as6, ai7, aw7, ae7, as7]
end A

end Jvm.JX.Pj
namespace Jvm.JX.Lw
open Jvm Jvm.ClassFile Sem Op Lib Jvm.JX Jvm.JX.Pj
def lr0 : List Row := [(0, .new 7, 3, 14), (3, .dup, 1, 0), (4, .iload_n 0, 1, 0), (5, .iload_n 1, 1, 0), (6, .invokespecial 9, 3, 1), (9, .astore 4, 2, 0), (11, .iload_n 0, 1, 0), (12, .iconst 1, 1, 0), (13, .if_icmp .ge 7, 3, 0), (16, .iconst 1, 1, 0), (17, .goto 15, 3, 0), (20, .iload_n 0, 1, 0), (21, .bipush 32, 2, 0), (23, .if_icmp .le 8, 3, 0), (26, .bipush 32, 2, 0), (28, .goto 4, 3, 0), (31, .iload_n 0, 1, 0), (32, .istore 5, 2, 0), (34, .iload_n 1, 1, 0), (35, .iconst 1, 1, 0), (36, .if_icmp .ge 7, 3, 0), (39, .iconst 1, 1, 0), (40, .goto 15, 3, 0), (43, .iload_n 1, 1, 0), (44, .bipush 64, 2, 0), (46, .if_icmp .le 8, 3, 0), (49, .bipush 64, 2, 0), (51, .goto 4, 3, 0), (54, .iload_n 1, 1, 0), (55, .istore 6, 2, 0), (57, .aload 4, 2, 0), (59, .invokevirtual 12, 3, 2), (62, .iload 5, 2, 0), (64, .if_icmp .eq 5, 3, 0), (67, .iconst 0, 1, 0), (68, .ireturn, 1, 0), (69, .aload 4, 2, 0), (71, .invokevirtual 16, 3, 3), (74, .iload 6, 2, 0), (76, .if_icmp .eq 5, 3, 0), (79, .iconst 0, 1, 0), (80, .ireturn, 1, 0), (81, .aload 4, 2, 0), (83, .invokevirtual 19, 3, 6), (86, .iconst (-1), 1, 0), (87, .if_icmp .eq 5, 3, 0), (90, .iconst 0, 1, 0), (91, .ireturn, 1, 0), (92, .aload 4, 2, 0), (94, .invokevirtual 22, 3, 4), (97, .ifCond .eq 5, 3, 0), (100, .iconst 0, 1, 0), (101, .ireturn, 1, 0), (102, .aload 4, 2, 0), (104, .invokevirtual 25, 3, 9), (107, .ifCond .eq 5, 3, 0), (110, .iconst 0, 1, 0), (111, .ireturn, 1, 0), (112, .aload 4, 2, 0), (114, .iload_n 2, 1, 0), (115, .iload_n 3, 1, 0), (116, .invokevirtual 28, 3, 7), (119, .iconst (-1), 1, 0), (120, .if_icmp .eq 5, 3, 0), (123, .iconst 0, 1, 0), (124, .ireturn, 1, 0), (125, .iconst 1, 1, 0), (126, .ireturn, 1, 0)]
def lrows : List (List Row) := [lr0]
def linfo : List MInfo := [(4, 7, 9, some .boolean, { frames := 5, cells := 24, slots := 1088, locals := 128 })]
def lw : LW := (fun j pc => (lrows.getD j []).lookup pc, fun j => linfo.getD j (0, 0, 9, none, {}))
section LPc
variable {L : List Slot} {S : List Value} {k n : Nat} {H : AH} {Q : Option Value → AH → Prop}
theorem c100 {x0 : Int32} {x1 : Int32} {x2 : Int32} {x3 : Int32} : Cl (pj lw) 100 [.int x0, .int x1, .int x2, .int x3] H Q ↔ W (pj lw) 100 0 [.val (.int x0), .val (.int x1), .val (.int x2), .val (.int x3), .unset, .unset, .unset] [] 0 0 H Q := Iff.rfl
theorem w100_0 : W (pj lw) 100 0 L S k n H Q ↔ ((k + 1 ≤ 24 ∧ n + 14 ≤ 1088) ∧ W (pj lw) 100 3 L (.ref H.1 :: S) (k + 1) (n + 14) (mkO (pj lw) H) Q) := W_new' (rfl : (pj lw).1 100 0 = some (.new 7, 3, 14)) (by decide)
theorem w100_3 {x : Nat} : W (pj lw) 100 3 L (.ref x :: S) k n H Q ↔ W (pj lw) 100 4 L (.ref x :: .ref x :: S) k n H Q := W_s (rfl : (pj lw).1 100 3 = some (.dup, 1, 0)) rfl rfl rfl
theorem w100_4 {x : Int32} : W (pj lw) 100 4 (.val (.int x) :: L) S k n H Q ↔ W (pj lw) 100 5 (.val (.int x) :: L) (.int x :: S) k n H Q := W_s (rfl : (pj lw).1 100 4 = some (.iload_n 0, 1, 0)) rfl rfl rfl
theorem w100_5 {x : Int32} {l0 : Slot} : W (pj lw) 100 5 (l0 :: .val (.int x) :: L) S k n H Q ↔ W (pj lw) 100 6 (l0 :: .val (.int x) :: L) (.int x :: S) k n H Q := W_s (rfl : (pj lw).1 100 5 = some (.iload_n 1, 1, 0)) rfl rfl rfl
theorem w100_6 {a : Nat} {x0 : Int32} {x1 : Int32} : W (pj lw) 100 6 L (.int x1 :: .int x0 :: .ref a :: S) k n H Q ↔ ((isO H a = true ∧ cs S + (5 + 11) + 12 ≤ 128 ∧ k + 7 ≤ 24 ∧ n + 480 ≤ 1088) ∧ Cl (pj lw) 1 [.ref a, .int x0, .int x1] H (fun v H => W (pj lw) 100 9 L (v.toList ++ S) (k + 7) (n + 480) H Q)) := W_init (as := [.int x0, .int x1]) (rfl : (pj lw).1 100 6 = some (.invokespecial 9, 3, 1)) rfl rfl rfl (Nat.le_of_ble_eq_true rfl) (Nat.le_of_ble_eq_true rfl) (fun h => absurd (show (7 : Nat) = 0 from h.1) (by decide))
theorem w100_9 {x : Nat} {l0 l1 l2 l3 : Slot} : W (pj lw) 100 9 (l0 :: l1 :: l2 :: l3 :: .unset :: L) (.ref x :: S) k n H Q ↔ W (pj lw) 100 11 (l0 :: l1 :: l2 :: l3 :: .val (.ref x) :: L) S k n H Q := W_ast (rfl : (pj lw).1 100 9 = some (.astore 4, 2, 0)) rfl rfl
theorem w100_11 {x : Int32} : W (pj lw) 100 11 (.val (.int x) :: L) S k n H Q ↔ W (pj lw) 100 12 (.val (.int x) :: L) (.int x :: S) k n H Q := W_s (rfl : (pj lw).1 100 11 = some (.iload_n 0, 1, 0)) rfl rfl rfl
theorem w100_12 : W (pj lw) 100 12 L S k n H Q ↔ W (pj lw) 100 13 L (.int 1 :: S) k n H Q := W_s (rfl : (pj lw).1 100 12 = some (.iconst 1, 1, 0)) rfl rfl rfl
theorem w100_13 {x y : Int32} : W (pj lw) 100 13 L (.int y :: .int x :: S) k n H Q ↔ (if x < y then W (pj lw) 100 16 L S k n H Q else W (pj lw) 100 20 L S k n H Q) := W_icmp_ge (rfl : (pj lw).1 100 13 = some (.if_icmp .ge 7, 3, 0)) rfl
theorem w100_16 : W (pj lw) 100 16 L S k n H Q ↔ W (pj lw) 100 17 L (.int 1 :: S) k n H Q := W_s (rfl : (pj lw).1 100 16 = some (.iconst 1, 1, 0)) rfl rfl rfl
theorem w100_17 : W (pj lw) 100 17 L S k n H Q ↔ W (pj lw) 100 32 L S k n H Q := W_goto (rfl : (pj lw).1 100 17 = some (.goto 15, 3, 0)) rfl
theorem w100_20 {x : Int32} : W (pj lw) 100 20 (.val (.int x) :: L) S k n H Q ↔ W (pj lw) 100 21 (.val (.int x) :: L) (.int x :: S) k n H Q := W_s (rfl : (pj lw).1 100 20 = some (.iload_n 0, 1, 0)) rfl rfl rfl
theorem w100_21 : W (pj lw) 100 21 L S k n H Q ↔ W (pj lw) 100 23 L (.int 32 :: S) k n H Q := W_s (rfl : (pj lw).1 100 21 = some (.bipush 32, 2, 0)) rfl rfl rfl
theorem w100_23 {x y : Int32} : W (pj lw) 100 23 L (.int y :: .int x :: S) k n H Q ↔ (if y < x then W (pj lw) 100 26 L S k n H Q else W (pj lw) 100 31 L S k n H Q) := W_icmp_le (rfl : (pj lw).1 100 23 = some (.if_icmp .le 8, 3, 0)) rfl
theorem w100_26 : W (pj lw) 100 26 L S k n H Q ↔ W (pj lw) 100 28 L (.int 32 :: S) k n H Q := W_s (rfl : (pj lw).1 100 26 = some (.bipush 32, 2, 0)) rfl rfl rfl
theorem w100_28 : W (pj lw) 100 28 L S k n H Q ↔ W (pj lw) 100 32 L S k n H Q := W_goto (rfl : (pj lw).1 100 28 = some (.goto 4, 3, 0)) rfl
theorem w100_31 {x : Int32} : W (pj lw) 100 31 (.val (.int x) :: L) S k n H Q ↔ W (pj lw) 100 32 (.val (.int x) :: L) (.int x :: S) k n H Q := W_s (rfl : (pj lw).1 100 31 = some (.iload_n 0, 1, 0)) rfl rfl rfl
theorem w100_32 {x : Int32} {l0 l1 l2 l3 l4 : Slot} : W (pj lw) 100 32 (l0 :: l1 :: l2 :: l3 :: l4 :: .unset :: L) (.int x :: S) k n H Q ↔ W (pj lw) 100 34 (l0 :: l1 :: l2 :: l3 :: l4 :: .val (.int x) :: L) S k n H Q := W_ist (rfl : (pj lw).1 100 32 = some (.istore 5, 2, 0)) rfl rfl
theorem w100_34 {x : Int32} {l0 : Slot} : W (pj lw) 100 34 (l0 :: .val (.int x) :: L) S k n H Q ↔ W (pj lw) 100 35 (l0 :: .val (.int x) :: L) (.int x :: S) k n H Q := W_s (rfl : (pj lw).1 100 34 = some (.iload_n 1, 1, 0)) rfl rfl rfl
theorem w100_35 : W (pj lw) 100 35 L S k n H Q ↔ W (pj lw) 100 36 L (.int 1 :: S) k n H Q := W_s (rfl : (pj lw).1 100 35 = some (.iconst 1, 1, 0)) rfl rfl rfl
theorem w100_36 {x y : Int32} : W (pj lw) 100 36 L (.int y :: .int x :: S) k n H Q ↔ (if x < y then W (pj lw) 100 39 L S k n H Q else W (pj lw) 100 43 L S k n H Q) := W_icmp_ge (rfl : (pj lw).1 100 36 = some (.if_icmp .ge 7, 3, 0)) rfl
theorem w100_39 : W (pj lw) 100 39 L S k n H Q ↔ W (pj lw) 100 40 L (.int 1 :: S) k n H Q := W_s (rfl : (pj lw).1 100 39 = some (.iconst 1, 1, 0)) rfl rfl rfl
theorem w100_40 : W (pj lw) 100 40 L S k n H Q ↔ W (pj lw) 100 55 L S k n H Q := W_goto (rfl : (pj lw).1 100 40 = some (.goto 15, 3, 0)) rfl
theorem w100_43 {x : Int32} {l0 : Slot} : W (pj lw) 100 43 (l0 :: .val (.int x) :: L) S k n H Q ↔ W (pj lw) 100 44 (l0 :: .val (.int x) :: L) (.int x :: S) k n H Q := W_s (rfl : (pj lw).1 100 43 = some (.iload_n 1, 1, 0)) rfl rfl rfl
theorem w100_44 : W (pj lw) 100 44 L S k n H Q ↔ W (pj lw) 100 46 L (.int 64 :: S) k n H Q := W_s (rfl : (pj lw).1 100 44 = some (.bipush 64, 2, 0)) rfl rfl rfl
theorem w100_46 {x y : Int32} : W (pj lw) 100 46 L (.int y :: .int x :: S) k n H Q ↔ (if y < x then W (pj lw) 100 49 L S k n H Q else W (pj lw) 100 54 L S k n H Q) := W_icmp_le (rfl : (pj lw).1 100 46 = some (.if_icmp .le 8, 3, 0)) rfl
theorem w100_49 : W (pj lw) 100 49 L S k n H Q ↔ W (pj lw) 100 51 L (.int 64 :: S) k n H Q := W_s (rfl : (pj lw).1 100 49 = some (.bipush 64, 2, 0)) rfl rfl rfl
theorem w100_51 : W (pj lw) 100 51 L S k n H Q ↔ W (pj lw) 100 55 L S k n H Q := W_goto (rfl : (pj lw).1 100 51 = some (.goto 4, 3, 0)) rfl
theorem w100_54 {x : Int32} {l0 : Slot} : W (pj lw) 100 54 (l0 :: .val (.int x) :: L) S k n H Q ↔ W (pj lw) 100 55 (l0 :: .val (.int x) :: L) (.int x :: S) k n H Q := W_s (rfl : (pj lw).1 100 54 = some (.iload_n 1, 1, 0)) rfl rfl rfl
theorem w100_55 {x : Int32} {l0 l1 l2 l3 l4 l5 : Slot} : W (pj lw) 100 55 (l0 :: l1 :: l2 :: l3 :: l4 :: l5 :: .unset :: L) (.int x :: S) k n H Q ↔ W (pj lw) 100 57 (l0 :: l1 :: l2 :: l3 :: l4 :: l5 :: .val (.int x) :: L) S k n H Q := W_ist (rfl : (pj lw).1 100 55 = some (.istore 6, 2, 0)) rfl rfl
theorem w100_57 {x : Nat} {l0 l1 l2 l3 : Slot} : W (pj lw) 100 57 (l0 :: l1 :: l2 :: l3 :: .val (.ref x) :: L) S k n H Q ↔ W (pj lw) 100 59 (l0 :: l1 :: l2 :: l3 :: .val (.ref x) :: L) (.ref x :: S) k n H Q := W_s (rfl : (pj lw).1 100 57 = some (.aload 4, 2, 0)) rfl rfl rfl
theorem w100_59 {a : Nat} : W (pj lw) 100 59 L (.ref a :: S) k n H Q ↔ ((isO H a = true ∧ cs S + (1 + 11) + 0 ≤ 128) ∧ Cl (pj lw) 2 [.ref a] H (fun v H => W (pj lw) 100 62 L (v.toList ++ S) k n H Q)) := W_inst (as := []) (rfl : (pj lw).1 100 59 = some (.invokevirtual 12, 3, 2)) rfl rfl rfl (Nat.le_of_ble_eq_true rfl) (Nat.le_of_ble_eq_true rfl) ⟨rfl, rfl⟩
theorem w100_62 {x : Int32} {l0 l1 l2 l3 l4 : Slot} : W (pj lw) 100 62 (l0 :: l1 :: l2 :: l3 :: l4 :: .val (.int x) :: L) S k n H Q ↔ W (pj lw) 100 64 (l0 :: l1 :: l2 :: l3 :: l4 :: .val (.int x) :: L) (.int x :: S) k n H Q := W_s (rfl : (pj lw).1 100 62 = some (.iload 5, 2, 0)) rfl rfl rfl
theorem w100_64 {x y : Int32} : W (pj lw) 100 64 L (.int y :: .int x :: S) k n H Q ↔ (if x = y then W (pj lw) 100 69 L S k n H Q else W (pj lw) 100 67 L S k n H Q) := W_icmp_eq (rfl : (pj lw).1 100 64 = some (.if_icmp .eq 5, 3, 0)) rfl
theorem w100_67 : W (pj lw) 100 67 L S k n H Q ↔ W (pj lw) 100 68 L (.int 0 :: S) k n H Q := W_s (rfl : (pj lw).1 100 67 = some (.iconst 0, 1, 0)) rfl rfl rfl
theorem w100_68 {x : Int32} : W (pj lw) 100 68 L (.int x :: S) k n H Q ↔ ((x = 0 ∨ x = 1) ∧ Q (some (.int x)) H) := W_rz (rfl : (pj lw).1 100 68 = some (.ireturn, 1, 0)) rfl
theorem w100_69 {x : Nat} {l0 l1 l2 l3 : Slot} : W (pj lw) 100 69 (l0 :: l1 :: l2 :: l3 :: .val (.ref x) :: L) S k n H Q ↔ W (pj lw) 100 71 (l0 :: l1 :: l2 :: l3 :: .val (.ref x) :: L) (.ref x :: S) k n H Q := W_s (rfl : (pj lw).1 100 69 = some (.aload 4, 2, 0)) rfl rfl rfl
theorem w100_71 {a : Nat} : W (pj lw) 100 71 L (.ref a :: S) k n H Q ↔ ((isO H a = true ∧ cs S + (1 + 11) + 0 ≤ 128) ∧ Cl (pj lw) 3 [.ref a] H (fun v H => W (pj lw) 100 74 L (v.toList ++ S) k n H Q)) := W_inst (as := []) (rfl : (pj lw).1 100 71 = some (.invokevirtual 16, 3, 3)) rfl rfl rfl (Nat.le_of_ble_eq_true rfl) (Nat.le_of_ble_eq_true rfl) ⟨rfl, rfl⟩
theorem w100_74 {x : Int32} {l0 l1 l2 l3 l4 l5 : Slot} : W (pj lw) 100 74 (l0 :: l1 :: l2 :: l3 :: l4 :: l5 :: .val (.int x) :: L) S k n H Q ↔ W (pj lw) 100 76 (l0 :: l1 :: l2 :: l3 :: l4 :: l5 :: .val (.int x) :: L) (.int x :: S) k n H Q := W_s (rfl : (pj lw).1 100 74 = some (.iload 6, 2, 0)) rfl rfl rfl
theorem w100_76 {x y : Int32} : W (pj lw) 100 76 L (.int y :: .int x :: S) k n H Q ↔ (if x = y then W (pj lw) 100 81 L S k n H Q else W (pj lw) 100 79 L S k n H Q) := W_icmp_eq (rfl : (pj lw).1 100 76 = some (.if_icmp .eq 5, 3, 0)) rfl
theorem w100_79 : W (pj lw) 100 79 L S k n H Q ↔ W (pj lw) 100 80 L (.int 0 :: S) k n H Q := W_s (rfl : (pj lw).1 100 79 = some (.iconst 0, 1, 0)) rfl rfl rfl
theorem w100_80 {x : Int32} : W (pj lw) 100 80 L (.int x :: S) k n H Q ↔ ((x = 0 ∨ x = 1) ∧ Q (some (.int x)) H) := W_rz (rfl : (pj lw).1 100 80 = some (.ireturn, 1, 0)) rfl
theorem w100_81 {x : Nat} {l0 l1 l2 l3 : Slot} : W (pj lw) 100 81 (l0 :: l1 :: l2 :: l3 :: .val (.ref x) :: L) S k n H Q ↔ W (pj lw) 100 83 (l0 :: l1 :: l2 :: l3 :: .val (.ref x) :: L) (.ref x :: S) k n H Q := W_s (rfl : (pj lw).1 100 81 = some (.aload 4, 2, 0)) rfl rfl rfl
theorem w100_83 {a : Nat} : W (pj lw) 100 83 L (.ref a :: S) k n H Q ↔ ((isO H a = true ∧ cs S + (1 + 11) + 12 ≤ 128) ∧ Cl (pj lw) 6 [.ref a] H (fun v H => W (pj lw) 100 86 L (v.toList ++ S) k n H Q)) := W_inst (as := []) (rfl : (pj lw).1 100 83 = some (.invokevirtual 19, 3, 6)) rfl rfl rfl (Nat.le_of_ble_eq_true rfl) (Nat.le_of_ble_eq_true rfl) ⟨rfl, rfl⟩
theorem w100_86 : W (pj lw) 100 86 L S k n H Q ↔ W (pj lw) 100 87 L (.int (-1) :: S) k n H Q := W_s (rfl : (pj lw).1 100 86 = some (.iconst (-1), 1, 0)) rfl rfl rfl
theorem w100_87 {x y : Int32} : W (pj lw) 100 87 L (.int y :: .int x :: S) k n H Q ↔ (if x = y then W (pj lw) 100 92 L S k n H Q else W (pj lw) 100 90 L S k n H Q) := W_icmp_eq (rfl : (pj lw).1 100 87 = some (.if_icmp .eq 5, 3, 0)) rfl
theorem w100_90 : W (pj lw) 100 90 L S k n H Q ↔ W (pj lw) 100 91 L (.int 0 :: S) k n H Q := W_s (rfl : (pj lw).1 100 90 = some (.iconst 0, 1, 0)) rfl rfl rfl
theorem w100_91 {x : Int32} : W (pj lw) 100 91 L (.int x :: S) k n H Q ↔ ((x = 0 ∨ x = 1) ∧ Q (some (.int x)) H) := W_rz (rfl : (pj lw).1 100 91 = some (.ireturn, 1, 0)) rfl
theorem w100_92 {x : Nat} {l0 l1 l2 l3 : Slot} : W (pj lw) 100 92 (l0 :: l1 :: l2 :: l3 :: .val (.ref x) :: L) S k n H Q ↔ W (pj lw) 100 94 (l0 :: l1 :: l2 :: l3 :: .val (.ref x) :: L) (.ref x :: S) k n H Q := W_s (rfl : (pj lw).1 100 92 = some (.aload 4, 2, 0)) rfl rfl rfl
theorem w100_94 {a : Nat} : W (pj lw) 100 94 L (.ref a :: S) k n H Q ↔ ((isO H a = true ∧ cs S + (1 + 11) + 0 ≤ 128) ∧ Cl (pj lw) 4 [.ref a] H (fun v H => W (pj lw) 100 97 L (v.toList ++ S) k n H Q)) := W_inst (as := []) (rfl : (pj lw).1 100 94 = some (.invokevirtual 22, 3, 4)) rfl rfl rfl (Nat.le_of_ble_eq_true rfl) (Nat.le_of_ble_eq_true rfl) ⟨rfl, rfl⟩
theorem w100_97 {x : Int32} : W (pj lw) 100 97 L (.int x :: S) k n H Q ↔ (if x = 0 then W (pj lw) 100 102 L S k n H Q else W (pj lw) 100 100 L S k n H Q) := W_if_eq (rfl : (pj lw).1 100 97 = some (.ifCond .eq 5, 3, 0)) rfl
theorem w100_100 : W (pj lw) 100 100 L S k n H Q ↔ W (pj lw) 100 101 L (.int 0 :: S) k n H Q := W_s (rfl : (pj lw).1 100 100 = some (.iconst 0, 1, 0)) rfl rfl rfl
theorem w100_101 {x : Int32} : W (pj lw) 100 101 L (.int x :: S) k n H Q ↔ ((x = 0 ∨ x = 1) ∧ Q (some (.int x)) H) := W_rz (rfl : (pj lw).1 100 101 = some (.ireturn, 1, 0)) rfl
theorem w100_102 {x : Nat} {l0 l1 l2 l3 : Slot} : W (pj lw) 100 102 (l0 :: l1 :: l2 :: l3 :: .val (.ref x) :: L) S k n H Q ↔ W (pj lw) 100 104 (l0 :: l1 :: l2 :: l3 :: .val (.ref x) :: L) (.ref x :: S) k n H Q := W_s (rfl : (pj lw).1 100 102 = some (.aload 4, 2, 0)) rfl rfl rfl
theorem w100_104 {a : Nat} : W (pj lw) 100 104 L (.ref a :: S) k n H Q ↔ ((isO H a = true ∧ cs S + (1 + 11) + 0 ≤ 128) ∧ Cl (pj lw) 9 [.ref a] H (fun v H => W (pj lw) 100 107 L (v.toList ++ S) k n H Q)) := W_inst (as := []) (rfl : (pj lw).1 100 104 = some (.invokevirtual 25, 3, 9)) rfl rfl rfl (Nat.le_of_ble_eq_true rfl) (Nat.le_of_ble_eq_true rfl) ⟨rfl, rfl⟩
theorem w100_107 {x : Int32} : W (pj lw) 100 107 L (.int x :: S) k n H Q ↔ (if x = 0 then W (pj lw) 100 112 L S k n H Q else W (pj lw) 100 110 L S k n H Q) := W_if_eq (rfl : (pj lw).1 100 107 = some (.ifCond .eq 5, 3, 0)) rfl
theorem w100_110 : W (pj lw) 100 110 L S k n H Q ↔ W (pj lw) 100 111 L (.int 0 :: S) k n H Q := W_s (rfl : (pj lw).1 100 110 = some (.iconst 0, 1, 0)) rfl rfl rfl
theorem w100_111 {x : Int32} : W (pj lw) 100 111 L (.int x :: S) k n H Q ↔ ((x = 0 ∨ x = 1) ∧ Q (some (.int x)) H) := W_rz (rfl : (pj lw).1 100 111 = some (.ireturn, 1, 0)) rfl
theorem w100_112 {x : Nat} {l0 l1 l2 l3 : Slot} : W (pj lw) 100 112 (l0 :: l1 :: l2 :: l3 :: .val (.ref x) :: L) S k n H Q ↔ W (pj lw) 100 114 (l0 :: l1 :: l2 :: l3 :: .val (.ref x) :: L) (.ref x :: S) k n H Q := W_s (rfl : (pj lw).1 100 112 = some (.aload 4, 2, 0)) rfl rfl rfl
theorem w100_114 {x : Int32} {l0 l1 : Slot} : W (pj lw) 100 114 (l0 :: l1 :: .val (.int x) :: L) S k n H Q ↔ W (pj lw) 100 115 (l0 :: l1 :: .val (.int x) :: L) (.int x :: S) k n H Q := W_s (rfl : (pj lw).1 100 114 = some (.iload_n 2, 1, 0)) rfl rfl rfl
theorem w100_115 {x : Int32} {l0 l1 l2 : Slot} : W (pj lw) 100 115 (l0 :: l1 :: l2 :: .val (.int x) :: L) S k n H Q ↔ W (pj lw) 100 116 (l0 :: l1 :: l2 :: .val (.int x) :: L) (.int x :: S) k n H Q := W_s (rfl : (pj lw).1 100 115 = some (.iload_n 3, 1, 0)) rfl rfl rfl
theorem w100_116 {a : Nat} {x0 : Int32} {x1 : Int32} : W (pj lw) 100 116 L (.int x1 :: .int x0 :: .ref a :: S) k n H Q ↔ ((isO H a = true ∧ cs S + (3 + 11) + 0 ≤ 128) ∧ Cl (pj lw) 7 [.ref a, .int x0, .int x1] H (fun v H => W (pj lw) 100 119 L (v.toList ++ S) k n H Q)) := W_inst (as := [.int x0, .int x1]) (rfl : (pj lw).1 100 116 = some (.invokevirtual 28, 3, 7)) rfl rfl rfl (Nat.le_of_ble_eq_true rfl) (Nat.le_of_ble_eq_true rfl) ⟨rfl, rfl⟩
theorem w100_119 : W (pj lw) 100 119 L S k n H Q ↔ W (pj lw) 100 120 L (.int (-1) :: S) k n H Q := W_s (rfl : (pj lw).1 100 119 = some (.iconst (-1), 1, 0)) rfl rfl rfl
theorem w100_120 {x y : Int32} : W (pj lw) 100 120 L (.int y :: .int x :: S) k n H Q ↔ (if x = y then W (pj lw) 100 125 L S k n H Q else W (pj lw) 100 123 L S k n H Q) := W_icmp_eq (rfl : (pj lw).1 100 120 = some (.if_icmp .eq 5, 3, 0)) rfl
theorem w100_123 : W (pj lw) 100 123 L S k n H Q ↔ W (pj lw) 100 124 L (.int 0 :: S) k n H Q := W_s (rfl : (pj lw).1 100 123 = some (.iconst 0, 1, 0)) rfl rfl rfl
theorem w100_124 {x : Int32} : W (pj lw) 100 124 L (.int x :: S) k n H Q ↔ ((x = 0 ∨ x = 1) ∧ Q (some (.int x)) H) := W_rz (rfl : (pj lw).1 100 124 = some (.ireturn, 1, 0)) rfl
theorem w100_125 : W (pj lw) 100 125 L S k n H Q ↔ W (pj lw) 100 126 L (.int 1 :: S) k n H Q := W_s (rfl : (pj lw).1 100 125 = some (.iconst 1, 1, 0)) rfl rfl rfl
theorem w100_126 {x : Int32} : W (pj lw) 100 126 L (.int x :: S) k n H Q ↔ ((x = 0 ∨ x = 1) ∧ Q (some (.int x)) H) := W_rz (rfl : (pj lw).1 100 126 = some (.ireturn, 1, 0)) rfl
end LPc
theorem law_ok (i0 i1 i2 i3 : Int32) (N : Nat) : Cl (pj lw) 100 [.int i0, .int i1, .int i2, .int i3] (H0 N) (fun v _ => v = some (.int 1)) := by
  rw [c100]
  rcases cl3 (lo := 1) (hi := 32) i0 (by decide) with ⟨h1, h2⟩ | ⟨h1, h2⟩ | ⟨h1, h2⟩ <;> rcases cl3 (lo := 1) (hi := 64) i1 (by decide) with ⟨h3, h4⟩ | ⟨h3, h4⟩ | ⟨h3, h4⟩ <;> by_cases h5 : i2 < 0 <;>
  simp +decide only [w100_0, w100_3, w100_4, w100_5, w100_6, w100_9, w100_11, w100_12, w100_13, w100_16, w100_17, w100_20, w100_21, w100_23, w100_26, w100_28, w100_31, w100_32, w100_34, w100_35, w100_36, w100_39, w100_40, w100_43, w100_44, w100_46, w100_49, w100_51, w100_54, w100_55, w100_57, w100_59, w100_62, w100_64, w100_67, w100_68, w100_69, w100_71, w100_74, w100_76, w100_79, w100_80, w100_81, w100_83, w100_86, w100_87, w100_90, w100_91, w100_92, w100_94, w100_97, w100_100, w100_101, w100_102, w100_104, w100_107, w100_110, w100_111, w100_112, w100_114, w100_115, w100_116, w100_119, w100_120, w100_123, w100_124, w100_125, w100_126, zr_z0, zr_uI, zr_uJ, isO_put, isOw_put, put_fst, okv_int, okv_long, okv_ref, okv_bool, okv_byte, cat1_unset, cat1_int, cat1_ref, cs_nil, cs_int, cs_ref, cs_long, cmpL_lt, cmpL_gt, cmpL_eq, sI_uI, sI_uJ, sI_uA, sI_uB, sJ_uI, sJ_uJ, sJ_uA, sJ_uB, sA_uI, sA_uJ, sA_uA, sA_uB, sB_uI, sB_uJ, sB_uA, sB_uB, sI_z0, sJ_z0, sA_z0, sB_z0, Option.toList_some, Option.toList_none, List.cons_append, List.nil_append, true_and, and_true, false_and, and_false, or_false, false_or, or_true, true_or, if_true, if_false, not_true_eq_false, not_false_eq_true, reduceIte, Nat.reduceAdd, Nat.reduceLeDiff, Nat.reduceEqDiff, Nat.reduceSub, Int32.reduceLT, Int32.reduceToInt, Nat.add_zero, Nat.zero_add, Nat.le_refl, eq_self, implies_true, ne_eq, g0, s0, g1, s1, g2, s2, g3, g4, g5, s5, g6, g7, g8, s8, g9, s9, g10, g11, g12, g13, s13, ai1, aw1, ain1, awn1, ae1, as1, ai2, aw2, ain2, awn2, ae2, as2, ai3, aw3, ain3, awn3, ae3, as3, ai4, aw4, ain4, awn4, ae4, as4, ai5, aw5, ae5, as5, ai6, aw6, ae6, as6, ai7, aw7, ae7, as7, mkO_ob, t1, t2, t3, t4, t6, t7, t9, h1, h2, h3, h4, h5, H0, ini0, clr, cl]

end Jvm.JX.Lw
namespace Jvm.Pilot.@@N@@
open Jvm Jvm.ClassFile Sem Op Lib Jvm.Free Jvm.Stand Jvm.LawKit Jvm.RoadKit Bundle Jvm.Pilot.@@N@@.Jvm.D Jvm.JX Jvm.JX.Pj Jvm.JX.Lw
def nmL : List (Nat × MethodName) := [(1, ⟨"TwoSatIncremental", "<init>", "(II)V"⟩), (2, ⟨"TwoSatIncremental", "variableCount", "()I"⟩), (3, ⟨"TwoSatIncremental", "capacity", "()I"⟩), (4, ⟨"TwoSatIncremental", "depth", "()I"⟩), (6, ⟨"TwoSatIncremental", "popClause", "()I"⟩), (7, ⟨"TwoSatIncremental", "clauseLiteral", "(II)I"⟩), (9, ⟨"TwoSatIncremental", "status", "()I"⟩), (19, ⟨"TwoSatIncremental", "clearResult", "()V"⟩), (100, ⟨"TwoSatIncrementalL1", "law", "(IIII)Z"⟩)]
def nm (m : Nat) : MethodName := (nmL.lookup m).getD ⟨"", "", ""⟩
def btL : List (Nat × ByteArray) := [(1, prog_1_method_1_code), (2, prog_1_method_2_code), (3, prog_1_method_3_code), (4, prog_1_method_4_code), (6, prog_1_method_6_code), (7, prog_1_method_7_code), (9, prog_1_method_9_code), (19, prog_1_method_19_code), (100, code)]
def bt (m : Nat) : ByteArray := (btL.lookup m).getD ⟨#[]⟩
def fnL : List (String × String) := [("nVars", "I"), ("cap", "I"), ("depth", "I"), ("clauseA", "[B"), ("clauseB", "[B"), ("status", "I"), ("values", "[B"), ("witness", "[B"), ("witnessLen", "I"), ("conflictVar", "I"), ("adj", "[J"), ("reach", "[J"), ("dist", "[I"), ("graphReady", "Z")]
def fn (k : Nat) : String × String := fnL.getD k ("", "")
def RL : List Nat := [1, 2, 3, 4, 6, 7, 9, 19, 100]
def FS : List Nat := [0, 1, 2, 3, 4, 5, 6, 7, 8, 9, 10, 11, 12, 13]
def WF : List Nat := [0, 1, 2, 3, 4, 5, 6, 7, 8, 9, 10, 11, 12, 13]
def FL : List (Nat × Nat × Nat) := [(0, 7, 3), (0, 13, 4), (0, 16, 6), (0, 19, 7), (0, 22, 10), (0, 26, 11), (0, 29, 12), (0, 33, 0), (0, 37, 1), (0, 40, 2), (0, 43, 13), (0, 68, 5), (0, 74, 8), (0, 65, 9)]
def ML : List (Nat × Nat × Nat) := [(0, 47, 19), (1, 9, 1), (1, 12, 2), (1, 16, 3), (1, 19, 6), (1, 22, 4), (1, 25, 9), (1, 28, 7)]
def KI : List (Nat × Nat × Int) := []
def KJ : List (Nat × Nat × Int) := []
def ATL : List FieldType := [.byte, .int, .long]
def cn (j : Nat) : String := if j = 0 then "TwoSatIncremental" else "TwoSatIncrementalL1"
def own (m : Nat) : Nat := if m < 100 then 0 else 1
def ini (m : Nat) : Bool := m == 1
def rowsOf (m : Nat) : List Jvm.JX.Row := if m < 100 then prows.getD m [] else lrows.getD (m - 100) []
theorem hFL : ∀ t ∈ FL, t.2.2 ∈ FS ∧ Jvm.Cond.fieldLink (cn t.1) t.2.1 "TwoSatIncremental" (fn t.2.2).1 (fn t.2.2).2 ∈ tables_1 := (faS ⟨by decide, (List.mem_of_getElem? (i := 10) rfl)⟩ (faS ⟨by decide, (List.mem_of_getElem? (i := 12) rfl)⟩ (faS ⟨by decide, (List.mem_of_getElem? (i := 14) rfl)⟩ (faS ⟨by decide, (List.mem_of_getElem? (i := 16) rfl)⟩ (faS ⟨by decide, (List.mem_of_getElem? (i := 19) rfl)⟩ (faS ⟨by decide, (List.mem_of_getElem? (i := 21) rfl)⟩ (faS ⟨by decide, (List.mem_of_getElem? (i := 24) rfl)⟩ (faS ⟨by decide, (List.mem_of_getElem? (i := 26) rfl)⟩ (faS ⟨by decide, (List.mem_of_getElem? (i := 28) rfl)⟩ (faS ⟨by decide, (List.mem_of_getElem? (i := 30) rfl)⟩ (faS ⟨by decide, (List.mem_of_getElem? (i := 32) rfl)⟩ (faS ⟨by decide, (List.mem_of_getElem? (i := 38) rfl)⟩ (faS ⟨by decide, (List.mem_of_getElem? (i := 40) rfl)⟩ (faS ⟨by decide, (List.mem_of_getElem? (i := 42) rfl)⟩ fa0))))))))))))))
theorem hWF : ∀ k ∈ WF, Jvm.Cond.lays "TwoSatIncremental" "TwoSatIncremental" (fn k).1 (fn k).2 ∈ tables_1 := (faS (List.mem_of_getElem? (i := 27) rfl) (faS (List.mem_of_getElem? (i := 29) rfl) (faS (List.mem_of_getElem? (i := 31) rfl) (faS (List.mem_of_getElem? (i := 11) rfl) (faS (List.mem_of_getElem? (i := 13) rfl) (faS (List.mem_of_getElem? (i := 39) rfl) (faS (List.mem_of_getElem? (i := 15) rfl) (faS (List.mem_of_getElem? (i := 17) rfl) (faS (List.mem_of_getElem? (i := 41) rfl) (faS (List.mem_of_getElem? (i := 43) rfl) (faS (List.mem_of_getElem? (i := 20) rfl) (faS (List.mem_of_getElem? (i := 22) rfl) (faS (List.mem_of_getElem? (i := 25) rfl) (faS (List.mem_of_getElem? (i := 33) rfl) fa0))))))))))))))
theorem hML : ∀ t ∈ ML, t.2.2 ∈ RL ∧ Jvm.Cond.methodLink (cn t.1) t.2.1 (nm t.2.2) ∈ tables_1 := (faS ⟨by decide, (List.mem_of_getElem? (i := 34) rfl)⟩ (faS ⟨by decide, (List.mem_of_getElem? (i := 3) rfl)⟩ (faS ⟨by decide, (List.mem_of_getElem? (i := 44) rfl)⟩ (faS ⟨by decide, (List.mem_of_getElem? (i := 49) rfl)⟩ (faS ⟨by decide, (List.mem_of_getElem? (i := 54) rfl)⟩ (faS ⟨by decide, (List.mem_of_getElem? (i := 59) rfl)⟩ (faS ⟨by decide, (List.mem_of_getElem? (i := 64) rfl)⟩ (faS ⟨by decide, (List.mem_of_getElem? (i := 69) rfl)⟩ fa0))))))))
theorem hKI : ∀ t ∈ KI, Jvm.Cond.constant (cn t.1) t.2.1 (Int32.ofInt t.2.2) ∈ tables_1 := fa0
theorem hKJ : ∀ t ∈ KJ, Jvm.Cond.constantLong (cn t.1) t.2.1 (Int64.ofInt t.2.2) ∈ tables_1 := fa0
theorem hAT : ∀ t ∈ ATL, Jvm.Cond.arrayClass t ∈ tables_1 := (faS (List.mem_of_getElem? (i := 9) rfl) (faS (List.mem_of_getElem? (i := 23) rfl) (faS (List.mem_of_getElem? (i := 18) rfl) fa0)))
theorem hrows : RL.all (fun m => (rowsOf m).all (rowOne FL ML KI KJ ATL WF 14 7 bt own ini m)) = true := by decide +kernel
theorem cal1 : CalOk (pj lw) tables_1 "TwoSatIncremental" nm bt 1 := ⟨(List.mem_of_getElem? (i := 5) rfl), (List.mem_of_getElem? (i := 2) rfl), ⟨[.int, .int], none, by decide +kernel, rfl⟩, fun h => absurd h (by decide), fun _ => ⟨rfl, (List.mem_of_getElem? (i := 4) rfl)⟩, fun h => absurd h (by decide), fun h => absurd h (by decide), fun _ => ⟨rfl, rfl⟩⟩
theorem cal2 : CalOk (pj lw) tables_1 "TwoSatIncremental" nm bt 2 := ⟨(List.mem_of_getElem? (i := 48) rfl), (List.mem_of_getElem? (i := 2) rfl), ⟨[], some .int, by decide +kernel, rfl⟩, fun h => absurd h (by decide), fun _ => ⟨rfl, (List.mem_of_getElem? (i := 46) rfl)⟩, fun _ => ⟨(List.mem_of_getElem? (i := 45) rfl), (List.mem_of_getElem? (i := 47) rfl)⟩, fun h => absurd h (by decide), fun h => absurd h (by decide)⟩
theorem cal3 : CalOk (pj lw) tables_1 "TwoSatIncremental" nm bt 3 := ⟨(List.mem_of_getElem? (i := 53) rfl), (List.mem_of_getElem? (i := 2) rfl), ⟨[], some .int, by decide +kernel, rfl⟩, fun h => absurd h (by decide), fun _ => ⟨rfl, (List.mem_of_getElem? (i := 51) rfl)⟩, fun _ => ⟨(List.mem_of_getElem? (i := 50) rfl), (List.mem_of_getElem? (i := 52) rfl)⟩, fun h => absurd h (by decide), fun h => absurd h (by decide)⟩
theorem cal4 : CalOk (pj lw) tables_1 "TwoSatIncremental" nm bt 4 := ⟨(List.mem_of_getElem? (i := 63) rfl), (List.mem_of_getElem? (i := 2) rfl), ⟨[], some .int, by decide +kernel, rfl⟩, fun h => absurd h (by decide), fun _ => ⟨rfl, (List.mem_of_getElem? (i := 61) rfl)⟩, fun _ => ⟨(List.mem_of_getElem? (i := 60) rfl), (List.mem_of_getElem? (i := 62) rfl)⟩, fun h => absurd h (by decide), fun h => absurd h (by decide)⟩
theorem cal6 : CalOk (pj lw) tables_1 "TwoSatIncremental" nm bt 6 := ⟨(List.mem_of_getElem? (i := 58) rfl), (List.mem_of_getElem? (i := 2) rfl), ⟨[], some .int, by decide +kernel, rfl⟩, fun h => absurd h (by decide), fun _ => ⟨rfl, (List.mem_of_getElem? (i := 56) rfl)⟩, fun _ => ⟨(List.mem_of_getElem? (i := 55) rfl), (List.mem_of_getElem? (i := 57) rfl)⟩, fun h => absurd h (by decide), fun h => absurd h (by decide)⟩
theorem cal7 : CalOk (pj lw) tables_1 "TwoSatIncremental" nm bt 7 := ⟨(List.mem_of_getElem? (i := 73) rfl), (List.mem_of_getElem? (i := 2) rfl), ⟨[.int, .int], some .int, by decide +kernel, rfl⟩, fun h => absurd h (by decide), fun _ => ⟨rfl, (List.mem_of_getElem? (i := 71) rfl)⟩, fun _ => ⟨(List.mem_of_getElem? (i := 70) rfl), (List.mem_of_getElem? (i := 72) rfl)⟩, fun h => absurd h (by decide), fun h => absurd h (by decide)⟩
theorem cal9 : CalOk (pj lw) tables_1 "TwoSatIncremental" nm bt 9 := ⟨(List.mem_of_getElem? (i := 68) rfl), (List.mem_of_getElem? (i := 2) rfl), ⟨[], some .int, by decide +kernel, rfl⟩, fun h => absurd h (by decide), fun _ => ⟨rfl, (List.mem_of_getElem? (i := 66) rfl)⟩, fun _ => ⟨(List.mem_of_getElem? (i := 65) rfl), (List.mem_of_getElem? (i := 67) rfl)⟩, fun h => absurd h (by decide), fun h => absurd h (by decide)⟩
theorem cal19 : CalOk (pj lw) tables_1 "TwoSatIncremental" nm bt 19 := ⟨(List.mem_of_getElem? (i := 37) rfl), (List.mem_of_getElem? (i := 2) rfl), ⟨[], none, by decide +kernel, rfl⟩, fun h => absurd h (by decide), fun _ => ⟨rfl, (List.mem_of_getElem? (i := 35) rfl)⟩, fun h => absurd h (by decide), fun _ => (List.mem_of_getElem? (i := 36) rfl), fun h => absurd h (by decide)⟩
theorem hcal : ∀ m ∈ RL, m ≠ 100 → CalOk (pj lw) tables_1 "TwoSatIncremental" nm bt m := (faS (fun _ => cal1) (faS (fun _ => cal2) (faS (fun _ => cal3) (faS (fun _ => cal4) (faS (fun _ => cal6) (faS (fun _ => cal7) (faS (fun _ => cal9) (faS (fun _ => cal19) (faS (fun h => absurd rfl h) fa0)))))))))
theorem hfld : ∀ k ∈ FS, parseFieldDescriptor (fn k).2 = some ((pj lw).2.2.1 k) ∧ (Jvm.Cond.lays "TwoSatIncremental" "TwoSatIncremental" (fn k).1 (fn k).2 ∈ tables_1 ∨ Jvm.Cond.laysFinal "TwoSatIncremental" "TwoSatIncremental" (fn k).1 (fn k).2 ∈ tables_1) := (faS ⟨by decide +kernel, Or.inl (List.mem_of_getElem? (i := 27) rfl)⟩ (faS ⟨by decide +kernel, Or.inl (List.mem_of_getElem? (i := 29) rfl)⟩ (faS ⟨by decide +kernel, Or.inl (List.mem_of_getElem? (i := 31) rfl)⟩ (faS ⟨by decide +kernel, Or.inl (List.mem_of_getElem? (i := 11) rfl)⟩ (faS ⟨by decide +kernel, Or.inl (List.mem_of_getElem? (i := 13) rfl)⟩ (faS ⟨by decide +kernel, Or.inl (List.mem_of_getElem? (i := 39) rfl)⟩ (faS ⟨by decide +kernel, Or.inl (List.mem_of_getElem? (i := 15) rfl)⟩ (faS ⟨by decide +kernel, Or.inl (List.mem_of_getElem? (i := 17) rfl)⟩ (faS ⟨by decide +kernel, Or.inl (List.mem_of_getElem? (i := 41) rfl)⟩ (faS ⟨by decide +kernel, Or.inl (List.mem_of_getElem? (i := 43) rfl)⟩ (faS ⟨by decide +kernel, Or.inl (List.mem_of_getElem? (i := 20) rfl)⟩ (faS ⟨by decide +kernel, Or.inl (List.mem_of_getElem? (i := 22) rfl)⟩ (faS ⟨by decide +kernel, Or.inl (List.mem_of_getElem? (i := 25) rfl)⟩ (faS ⟨by decide +kernel, Or.inl (List.mem_of_getElem? (i := 33) rfl)⟩ fa0))))))))))))))
theorem good : Good (pj lw) tables_1 "TwoSatIncremental" fn FS 14 nm bt RL 100 := by
  refine ⟨(List.mem_of_getElem? (i := 1) rfl), (List.mem_of_getElem? (i := 2) rfl), hfld, by decide +kernel, fun m hm => ?_, hcal, fun m _ pc ins len aux _ _ => by cases ins <;> rfl⟩
  have hpl : plainName "TwoSatIncremental" = true ∧ plainName "TwoSatIncrementalL1" = true := ⟨by first | (simp [plainName, overriddenIn]; done) | decide +kernel, by first | (simp [plainName, overriddenIn]; done) | decide +kernel⟩
  have hcn : ∀ m ∈ RL, (nm m).cls = cn (own m) := by decide +kernel
  have hin : ∀ m ∈ RL, ini m = true → (nm m).cls = "TwoSatIncremental" ∧ (nm m).name = "<init>" := by decide +kernel
  have hor : (nm m).cls = "TwoSatIncremental" ∨ (nm m).cls = "TwoSatIncrementalL1" := by rw [hcn m hm]; unfold cn; split <;> simp
  refine ⟨by rcases hor with h | h <;> rw [h] <;> simp [hpl], by rcases hor with h | h <;> rw [h] <;> decide, fun pc ins len aux h => ?_⟩
  have hmem : (pc, ins, len, aux) ∈ rowsOf m := by
    unfold rowsOf
    by_cases g : m < 100
    · rw [if_pos g]; exact lookup_mem (by simpa [pj, g] using h)
    · rw [if_neg g]; exact lookup_mem (by simpa [pj, lw, g] using h)
  have hrow := List.all_eq_true.mp (List.all_eq_true.mp hrows m hm) _ hmem
  simp only [rowOne, Bool.and_eq_true, decide_eq_true_eq] at hrow
  exact ⟨hrow.1.1, hrow.1.2, row_ok (hcn m hm) (hin m hm) hFL hWF hML hKI hKJ hAT (List.mem_of_getElem? (i := 0) rfl) ⟨(List.mem_of_getElem? (i := 6) rfl), (List.mem_of_getElem? (i := 7) rfl), (List.mem_of_getElem? (i := 8) rfl)⟩ hrow.2⟩
set_option maxRecDepth 65536 in
set_option maxHeartbeats 40000000 in
theorem comes_1 {Post : Tables → Env → Array Value → State → Outcome → State → Prop} (hpost : ∀ tb e args s v u, (limb_1_1.after args s (.returned v) u = true ∧ limb_1_2.after args s (.returned v) u = true ∧ True) → FrameEnd s (.returned v) u (Jvm.fieldLocs frame_1_writes args s ++ Jvm.arrayLocs frame_1_arrays args s ++ Jvm.staticLocs frame_1_statics s) 24 1088 → Post tb e args s (.returned v) u) :
    ArmFor flags0 classFile x code maxLocals ret World_1 tables_1 room_1 Calls_1 rest_1 Pre_1 Post := by
  intro l hfl _ _ p e ha hc hk s m args below hf hA hF happ hP
  obtain ⟨hcalls, hrest, hpre⟩ := hP
  obtain ⟨-, -, -, hnamed, -, -, -, hat⟩ := (Spec.applies_iff hf).mp happ
  obtain ⟨hg, hn⟩ := and_e (Cond.before_iff.mp (show (Jvm.Cond.and given_1 narrow_1).before args s = true from hpre))
  have hw := fun d (hd : d ∈ tables_1) => atoms_spec (ws := Jvm.Cond.code x code maxLocals ret :: tables_1) hat d (List.mem_cons_of_mem _ hd)
  obtain ⟨g0, r0⟩ := and_e hg
  obtain ⟨w0, w1, w2, w3, rfl⟩ : ∃ w0 w1 w2 w3 : Value, args = #[w0, w1, w2, w3] := by
    have hs : args.size = 4 := by simpa [Cond.value, given_1] using g0
    obtain ⟨L⟩ := args
    match L, hs with
    | [w0, w1, w2, w3], _ => exact ⟨w0, w1, w2, w3, rfl⟩
  obtain ⟨g1, r1⟩ := and_e r0
  obtain ⟨g2, r2⟩ := and_e r1
  obtain ⟨g3, r3⟩ := and_e r2
  have g4 := r3
  obtain ⟨i0, e0⟩ := is_v g1
  obtain rfl : w0 = (.int i0) := Option.some.inj e0
  obtain ⟨i1, e1⟩ := is_v g2
  obtain rfl : w1 = (.int i1) := Option.some.inj e1
  obtain ⟨i2, e2⟩ := is_v g3
  obtain rfl : w2 = (.int i2) := Option.some.inj e2
  obtain ⟨i3, e3⟩ := is_v g4
  obtain rfl : w3 = (.int i3) := Option.some.inj e3
  obtain ⟨n, o, h1, h2, h3, _, L, rfl, ⟨N, H2, rfl⟩, hq⟩ := law_met (l := l) (Z := s) (a0 := _) (n0 := s.heap.size) good hw (as := [.int i0, .int i1, .int i2, .int i3]) (h := s.heap) tables_1 (by decide) (by simp [Sym.laidSlots, Value.category]; decide) (rel_H0 s.heap) (law_ok i0 i1 i2 i3 s.heap.size) p e ha hc hk s m _ below hf ((Spec.applies_iff_loose hf).mp happ).1 ⟨rfl, State.Warmed39.refl s, rfl⟩ trivial
  exact ⟨n, _, h1, h2, h3, hpost _ _ _ _ _ _ ⟨Cond.after_iff.mpr rfl, Cond.after_iff.mpr (eq_i res_at (Term.int_eval (1)) rfl), trivial⟩ ⟨hq.1, hq.2.1, (hq.2.2.sift fun y hy => Or.inr (N y hy)).mono (by decide) (by decide)⟩⟩
theorem main_1_1 : Claimed_1_1 := comes_1 fun _ _ _ _ _ _ h hF => ⟨h.1, hF⟩
theorem main_1_2 : Claimed_1_2 := comes_1 fun _ _ _ _ _ _ h hF => ⟨h.2.1, hF⟩
end Jvm.Pilot.@@N@@
namespace Jvm.Pilot.@@N@@
open Jvm Jvm.ClassFile Sem Op Lib Jvm.Free Jvm.Stand Jvm.Pilot.@@N@@.Jvm.D
/-! MADE BY PROGRAM (witnessworld.py) out of the Statement's table words and the real class files: 11 classes; the members and pool entries that the words name. The judged class is class 1, her method 1. -/
namespace start1
open Jvm.ClassFile
def u (s : String) : CpInfo := .utf8 (stringToUtf16 s)
/-- a pool by its gaps: so many unusable entries, then the entry; so many at the end -/
def gap : Nat → List CpInfo → List CpInfo
  | 0, r => r
  | n + 1, r => .unusable :: gap n r
def poolList (es : List (Nat × CpInfo)) (last : Nat) : List CpInfo := es.foldr (fun e r => gap e.1 (e.2 :: r)) (gap last [])
def pool (es : List (Nat × CpInfo)) (last : Nat) : Array CpInfo := ⟨poolList es last⟩
def fileOf (pool : Array CpInfo) (this : Nat) (attrs : Array Attribute := #[]) (ms : Array MethodInfo := #[]) (fl : Nat := 33) (sup : Nat := 0) (ifs : Array Nat := #[]) (fds : Array FieldInfo := #[]) : ClassFile where
  minorVersion := 0
  majorVersion := 65
  constantPool := pool
  accessFlags := fl
  thisClass := this
  superClass := sup
  interfaces := ifs
  fields := fds
  methods := ms
  attributes := attrs
def plain (name : String) (sup : Option ClassId) : Class where
  name := name
  kind := .ordinary
  loader := none
  accessFlags := 33
  super := sup
  interfaces := #[]
  cf := none
  fields := #[]
  methods := #[]
  instanceTypes := #[]
  staticTypes := #[]
  resolved := #[]
  callSites := []
  init := .initialized
  statics := none
  mirror := none

def pool0 : Array CpInfo := pool [(5, u "<init>"), (0, u "()V"), (1, .class_ 10), (1, u "java/lang/Object")] 113

def k0c0 : Code := { maxStack := 0, maxLocals := 1, code := object_method_1_code, exceptionTable := #[], attributes := #[] }
def k0m0 : Method := { name := "<init>", desc := "()V", sig := { parameters := [], returnType := none }, accessFlags := 1, code := some k0c0 }
/-- java/lang/Object -/
def k0 : Class := { plain "java/lang/Object" none with
  accessFlags := 33
  interfaces := #[]
  cf := some (fileOf pool0 8 #[] #[{ accessFlags := 1, nameIndex := 5, descriptorIndex := 6, attributes := #[] }] 33 0 #[] #[])
  fields := #[]
  methods := #[k0m0]
  instanceTypes := #[]
  staticTypes := #[]
  resolved := Array.replicate 124 none
  statics := none }

def pool1 : Array CpInfo := pool [(2, .class_ 4), (1, u "java/lang/Object"), (0, u "<init>"), (0, u "()V"), (0, .class_ 8), (0, u "TwoSatIncremental"), (0, .methodref 7 10), (0, .nameAndType 5 11), (0, u "(II)V"), (0, .methodref 7 13), (0, .nameAndType 14 15), (0, u "variableCount"), (0, u "()I"), (0, .methodref 7 17), (0, .nameAndType 18 15), (0, u "capacity"), (0, .methodref 7 20), (0, .nameAndType 21 15), (0, u "popClause"), (0, .methodref 7 23), (0, .nameAndType 24 15), (0, u "depth"), (0, .methodref 7 26), (0, .nameAndType 27 15), (0, u "status"), (0, .methodref 7 29), (0, .nameAndType 30 31), (0, u "clauseLiteral"), (0, u "(II)I"), (0, .class_ 33), (0, u "TwoSatIncrementalL1"), (2, u "law"), (0, u "(IIII)Z")] 3

def k1m0 : Method := { name := "<init>", desc := "()V", sig := { parameters := [], returnType := none }, accessFlags := 1, code := none }
def k1c1 : Code := { maxStack := 4, maxLocals := 7, code := code, exceptionTable := #[], attributes := #[] }
def k1m1 : Method := { name := "law", desc := "(IIII)Z", sig := { parameters := [.int, .int, .int, .int], returnType := some .boolean }, accessFlags := 9, code := some k1c1 }
/-- TwoSatIncrementalL1 -/
def k1 : Class := { plain "TwoSatIncrementalL1" (some 0) with
  accessFlags := 49
  interfaces := #[]
  cf := some (fileOf pool1 32 #[] #[{ accessFlags := 1, nameIndex := 5, descriptorIndex := 6, attributes := #[] }, { accessFlags := 9, nameIndex := 36, descriptorIndex := 37, attributes := #[] }] 49 2 #[] #[])
  fields := #[]
  methods := #[k1m0, k1m1]
  instanceTypes := #[]
  staticTypes := #[]
  resolved := Array.replicate 41 none
  statics := none }

def pool2 : Array CpInfo := pool [(1, .methodref 2 3), (0, .class_ 4), (0, .nameAndType 5 6), (0, u "java/lang/Object"), (0, u "<init>"), (0, u "()V"), (0, .fieldref 8 9), (0, .class_ 10), (0, .nameAndType 11 12), (0, u "TwoSatIncremental"), (0, u "clauseA"), (0, u "[B"), (0, .fieldref 8 14), (0, .nameAndType 15 12), (0, u "clauseB"), (0, .fieldref 8 17), (0, .nameAndType 18 12), (0, u "values"), (0, .fieldref 8 20), (0, .nameAndType 21 12), (0, u "witness"), (0, .fieldref 8 23), (0, .nameAndType 24 25), (0, u "adj"), (0, u "[J"), (0, .fieldref 8 27), (0, .nameAndType 28 25), (0, u "reach"), (0, .fieldref 8 30), (0, .nameAndType 31 32), (0, u "dist"), (0, u "[I"), (0, .fieldref 8 34), (0, .nameAndType 35 36), (0, u "nVars"), (0, u "I"), (0, .fieldref 8 38), (0, .nameAndType 39 36), (0, u "cap"), (0, .fieldref 8 41), (0, .nameAndType 42 36), (0, u "depth"), (0, .fieldref 8 44), (0, .nameAndType 45 46), (0, u "graphReady"), (0, u "Z"), (0, .methodref 8 48), (0, .nameAndType 49 6), (0, u "clearResult"), (10, u "()I"), (4, .fieldref 8 66), (0, .nameAndType 67 36), (0, u "conflictVar"), (0, .fieldref 8 69), (0, .nameAndType 70 36), (0, u "status"), (3, .fieldref 8 75), (0, .nameAndType 76 36), (0, u "witnessLen"), (43, u "REFUSED"), (2, u "NONE"), (1, u "SAT"), (1, u "UNSAT"), (1, u "MAX_VARIABLES"), (1, u "MAX_CLAUSES"), (1, u "(II)V"), (3, u "variableCount"), (0, u "capacity"), (1, u "(II)I"), (0, u "popClause"), (0, u "clauseLiteral")] 10

def k2c0 : Code := { maxStack := 2, maxLocals := 5, code := prog_1_method_1_code, exceptionTable := #[], attributes := #[] }
def k2m0 : Method := { name := "<init>", desc := "(II)V", sig := { parameters := [.int, .int], returnType := none }, accessFlags := 1, code := some k2c0 }
def k2c1 : Code := { maxStack := 1, maxLocals := 1, code := prog_1_method_2_code, exceptionTable := #[], attributes := #[] }
def k2m1 : Method := { name := "variableCount", desc := "()I", sig := { parameters := [], returnType := some .int }, accessFlags := 1, code := some k2c1 }
def k2c2 : Code := { maxStack := 1, maxLocals := 1, code := prog_1_method_3_code, exceptionTable := #[], attributes := #[] }
def k2m2 : Method := { name := "capacity", desc := "()I", sig := { parameters := [], returnType := some .int }, accessFlags := 1, code := some k2c2 }
def k2c3 : Code := { maxStack := 1, maxLocals := 1, code := prog_1_method_4_code, exceptionTable := #[], attributes := #[] }
def k2m3 : Method := { name := "depth", desc := "()I", sig := { parameters := [], returnType := some .int }, accessFlags := 1, code := some k2c3 }
def k2c4 : Code := { maxStack := 3, maxLocals := 1, code := prog_1_method_6_code, exceptionTable := #[], attributes := #[] }
def k2m4 : Method := { name := "popClause", desc := "()I", sig := { parameters := [], returnType := some .int }, accessFlags := 1, code := some k2c4 }
def k2c5 : Code := { maxStack := 2, maxLocals := 3, code := prog_1_method_7_code, exceptionTable := #[], attributes := #[] }
def k2m5 : Method := { name := "clauseLiteral", desc := "(II)I", sig := { parameters := [.int, .int], returnType := some .int }, accessFlags := 1, code := some k2c5 }
def k2c6 : Code := { maxStack := 1, maxLocals := 1, code := prog_1_method_9_code, exceptionTable := #[], attributes := #[] }
def k2m6 : Method := { name := "status", desc := "()I", sig := { parameters := [], returnType := some .int }, accessFlags := 1, code := some k2c6 }
def k2c7 : Code := { maxStack := 2, maxLocals := 1, code := prog_1_method_19_code, exceptionTable := #[], attributes := #[] }
def k2m7 : Method := { name := "clearResult", desc := "()V", sig := { parameters := [], returnType := none }, accessFlags := 2, code := some k2c7 }
/-- TwoSatIncremental -/
def k2 : Class := { plain "TwoSatIncremental" (some 0) with
  accessFlags := 49
  interfaces := #[]
  cf := some (fileOf pool2 8 #[] #[{ accessFlags := 1, nameIndex := 5, descriptorIndex := 133, attributes := #[] }, { accessFlags := 1, nameIndex := 137, descriptorIndex := 60, attributes := #[] }, { accessFlags := 1, nameIndex := 138, descriptorIndex := 60, attributes := #[] }, { accessFlags := 1, nameIndex := 42, descriptorIndex := 60, attributes := #[] }, { accessFlags := 1, nameIndex := 141, descriptorIndex := 60, attributes := #[] }, { accessFlags := 1, nameIndex := 142, descriptorIndex := 140, attributes := #[] }, { accessFlags := 1, nameIndex := 70, descriptorIndex := 60, attributes := #[] }, { accessFlags := 2, nameIndex := 49, descriptorIndex := 6, attributes := #[] }] 49 2 #[] #[{ accessFlags := 25, nameIndex := 120, descriptorIndex := 36, attributes := #[] }, { accessFlags := 25, nameIndex := 123, descriptorIndex := 36, attributes := #[] }, { accessFlags := 25, nameIndex := 125, descriptorIndex := 36, attributes := #[] }, { accessFlags := 25, nameIndex := 127, descriptorIndex := 36, attributes := #[] }, { accessFlags := 25, nameIndex := 129, descriptorIndex := 36, attributes := #[] }, { accessFlags := 25, nameIndex := 131, descriptorIndex := 36, attributes := #[] }, { accessFlags := 2, nameIndex := 35, descriptorIndex := 36, attributes := #[] }, { accessFlags := 2, nameIndex := 39, descriptorIndex := 36, attributes := #[] }, { accessFlags := 2, nameIndex := 42, descriptorIndex := 36, attributes := #[] }, { accessFlags := 2, nameIndex := 11, descriptorIndex := 12, attributes := #[] }, { accessFlags := 2, nameIndex := 15, descriptorIndex := 12, attributes := #[] }, { accessFlags := 2, nameIndex := 70, descriptorIndex := 36, attributes := #[] }, { accessFlags := 2, nameIndex := 18, descriptorIndex := 12, attributes := #[] }, { accessFlags := 2, nameIndex := 21, descriptorIndex := 12, attributes := #[] }, { accessFlags := 2, nameIndex := 76, descriptorIndex := 36, attributes := #[] }, { accessFlags := 2, nameIndex := 67, descriptorIndex := 36, attributes := #[] }, { accessFlags := 2, nameIndex := 24, descriptorIndex := 25, attributes := #[] }, { accessFlags := 2, nameIndex := 28, descriptorIndex := 25, attributes := #[] }, { accessFlags := 2, nameIndex := 31, descriptorIndex := 32, attributes := #[] }, { accessFlags := 2, nameIndex := 45, descriptorIndex := 46, attributes := #[] }])
  fields := #[{ name := "REFUSED", type := .int, accessFlags := 25, slot := 0, constantValue := 0 }, { name := "NONE", type := .int, accessFlags := 25, slot := 1, constantValue := 0 }, { name := "SAT", type := .int, accessFlags := 25, slot := 2, constantValue := 0 }, { name := "UNSAT", type := .int, accessFlags := 25, slot := 3, constantValue := 0 }, { name := "MAX_VARIABLES", type := .int, accessFlags := 25, slot := 4, constantValue := 0 }, { name := "MAX_CLAUSES", type := .int, accessFlags := 25, slot := 5, constantValue := 0 }, { name := "nVars", type := .int, accessFlags := 2, slot := 0, constantValue := 0 }, { name := "cap", type := .int, accessFlags := 2, slot := 1, constantValue := 0 }, { name := "depth", type := .int, accessFlags := 2, slot := 2, constantValue := 0 }, { name := "clauseA", type := (.array .byte), accessFlags := 2, slot := 3, constantValue := 0 }, { name := "clauseB", type := (.array .byte), accessFlags := 2, slot := 4, constantValue := 0 }, { name := "status", type := .int, accessFlags := 2, slot := 5, constantValue := 0 }, { name := "values", type := (.array .byte), accessFlags := 2, slot := 6, constantValue := 0 }, { name := "witness", type := (.array .byte), accessFlags := 2, slot := 7, constantValue := 0 }, { name := "witnessLen", type := .int, accessFlags := 2, slot := 8, constantValue := 0 }, { name := "conflictVar", type := .int, accessFlags := 2, slot := 9, constantValue := 0 }, { name := "adj", type := (.array .long), accessFlags := 2, slot := 10, constantValue := 0 }, { name := "reach", type := (.array .long), accessFlags := 2, slot := 11, constantValue := 0 }, { name := "dist", type := (.array .int), accessFlags := 2, slot := 12, constantValue := 0 }, { name := "graphReady", type := .boolean, accessFlags := 2, slot := 13, constantValue := 0 }]
  methods := #[k2m0, k2m1, k2m2, k2m3, k2m4, k2m5, k2m6, k2m7]
  instanceTypes := #[.int, .int, .int, (.array .byte), (.array .byte), .int, (.array .byte), (.array .byte), .int, .int, (.array .long), (.array .long), (.array .int), .boolean]
  staticTypes := #[.int, .int, .int, .int, .int, .int]
  resolved := Array.replicate 153 none
  statics := none }

def pool3 : Array CpInfo := pool [(1, u "java/lang/Cloneable"), (0, .class_ 1), (0, u "java/lang/Object"), (0, .class_ 3)] 3

/-- java/lang/Cloneable -/
def k3 : Class := { plain "java/lang/Cloneable" (some 0) with
  accessFlags := 1537
  interfaces := #[]
  cf := some (fileOf pool3 2 #[] #[] 1537 4 #[] #[])
  fields := #[]
  methods := #[]
  instanceTypes := #[]
  staticTypes := #[]
  resolved := Array.replicate 8 none
  statics := none }

def pool4 : Array CpInfo := pool [(1, u "java/io/Serializable"), (0, .class_ 1), (0, u "java/lang/Object"), (0, .class_ 3)] 3

/-- java/io/Serializable -/
def k4 : Class := { plain "java/io/Serializable" (some 0) with
  accessFlags := 1537
  interfaces := #[]
  cf := some (fileOf pool4 2 #[] #[] 1537 4 #[] #[])
  fields := #[]
  methods := #[]
  instanceTypes := #[]
  staticTypes := #[]
  resolved := Array.replicate 8 none
  statics := none }

/-- the primitive byte -/
def k5 : Class := { plain "byte" none with kind := .primitive 'B', accessFlags := 0x411 }
/-- [B -/
def k6 : Class := { plain "[B" (some 0) with kind := .array 5 .byte, interfaces := #[3, 4], accessFlags := 1041 }

/-- the primitive int -/
def k7 : Class := { plain "int" none with kind := .primitive 'I', accessFlags := 0x411 }
/-- [I -/
def k8 : Class := { plain "[I" (some 0) with kind := .array 7 .int, interfaces := #[3, 4], accessFlags := 1041 }

/-- the primitive long -/
def k9 : Class := { plain "long" none with kind := .primitive 'J', accessFlags := 0x411 }
/-- [J -/
def k10 : Class := { plain "[J" (some 0) with kind := .array 9 .long, interfaces := #[3, 4], accessFlags := 1041 }

def heap : Heap := #[]
def classes : Array Class := #[k0, k1, k2, k3, k4, k5, k6, k7, k8, k9, k10]
def interned : List (Array UInt16 × Addr) := []
def slotsUsed : Nat := 0
def theMethod : MethodId := ⟨1, 1⟩
def args0 : Array Value := #[.int 5, .int 5, .int 0, .int 0]
def aboutOver (below : List Frame) : State where
  vm := { classes := classes, interned := interned.toArray }
  heap := heap
  slotsUsed := slotsUsed
  threads := #[{ frames := .invoking theMethod args0 :: below }]
def below0 : List Frame := [.native { method := ⟨0, 0⟩, args := #[] }]
def about1 : State := aboutOver below0
def p0 : Program := .bare "" "" ""
def e0 : Env := launch0.env 0 0 0
theorem w_frames : about1.frames = Frame.invoking theMethod args0 :: below0 := rfl
set_option maxRecDepth 65536 in
theorem w_args : argsFit about1.vm theMethod args0 = true := by decide +kernel
set_option maxRecDepth 65536 in
theorem w_heap : heapFits about1 = true := by decide +kernel
set_option maxRecDepth 65536 in
theorem w_runnable : about1.curStatus? = some .runnable := by decide +kernel
set_option maxRecDepth 65536 in
theorem w_alone : about1.alone = true := by decide +kernel
set_option maxRecDepth 65536 in
theorem w_named : about1.methodNamed? x = some theMethod := by decide +kernel
set_option maxRecDepth 65536 in
theorem w_hears : about1.hears theMethod below0 = true := by decide +kernel
set_option maxRecDepth 65536 in
theorem w_ripe : about1.ripe theMethod args0 below0 = true := by decide +kernel
theorem w_running : about1.status = .running := rfl
set_option maxRecDepth 65536 in
theorem w_room : about1.hasRoom e0.platform room_1 = true :=
  launch0.hasRoom_least _ room_1 (by decide +kernel) (by decide +kernel) (by decide +kernel) (by decide +kernel) (by decide +kernel) (by decide +kernel)
theorem allAtoms_all (ts : List Jvm.Cond) (a : Array Jvm.Value) (st : Jvm.State) : (allAtoms ts).before a st = ts.all (fun c => c.before a st) := by
  induction ts with
  | nil => rfl
  | cons c t ih =>
    show (Jvm.Cond.and c (allAtoms t)).before a st = _
    rw [Jvm.Cond.before_and, ih, List.all_cons]
def words1 : List Jvm.Cond := Jvm.Cond.code x code maxLocals ret :: tables_1
/-- a 'code' word, met by the world's own term for the bytes: nothing is compared byte by byte -/
theorem code_word {y : MethodName} {bytes : ByteArray} {mx : Nat} {rt : Option FieldType} {a : Array Value} {s : State} {m : MethodId} {meth : Method} {c : Code} (h1 : s.methodNamed? y = some m) (h2 : s.vm.method? m = some meth) (h3 : meth.code = some c) (h4 : c.code = bytes)
    (h5 : (c.maxLocals == mx && c.exceptionTable.isEmpty && decide (c.maxStack ≤ mostOperands) && decide (meth.sig.returnType = rt) && !meth.locks && decide (parseMethodDescriptor y.desc = some meth.sig)) = true) : (Jvm.Cond.code y bytes mx rt).before a s = true := by
  simp only [Bool.and_eq_true, beq_iff_eq, Bool.not_eq_true', decide_eq_true_eq] at h5
  obtain ⟨⟨⟨⟨⟨g1, g2⟩, g3⟩, g4⟩, g5⟩, g6⟩ := h5
  simp [Cond.before, Cond.holds, Cond.value, h1, h2, h3, h4, g1, g2, g3, g4, g5, g6]
def isCode : Jvm.Cond → Bool
  | .code _ _ _ _ => true
  | _ => false
theorem all_split {L : List Jvm.Cond} {P : Jvm.Cond → Bool} (h1 : L.all (fun c => isCode c || P c) = true) (h2 : ∀ c ∈ L.filter isCode, P c = true) : L.all P = true := by
  refine List.all_eq_true.mpr fun c hc => ?_
  have h := List.all_eq_true.mp h1 c hc
  rcases Bool.eq_false_or_eq_true (isCode c) with hi | hi
  · exact h2 c (List.mem_filter.mpr ⟨hc, hi⟩)
  · simpa [hi] using h
set_option maxRecDepth 65536 in
theorem w_c0 : (Jvm.Cond.code x code maxLocals ret).before args0 about1 = true := code_word (m := ⟨1, 1⟩) (meth := k1m1) (c := k1c1) (by decide +kernel) rfl rfl rfl (by decide +kernel)
set_option maxRecDepth 65536 in
theorem w_c1 : (Jvm.Cond.code ({ cls := "TwoSatIncremental", name := "<init>", desc := "(II)V" } : Jvm.MethodName) prog_1_method_1_code (5 : Nat) (Option.none : Option Jvm.ClassFile.FieldType)).before args0 about1 = true := code_word (m := ⟨2, 0⟩) (meth := k2m0) (c := k2c0) (by decide +kernel) rfl rfl rfl (by decide +kernel)
set_option maxRecDepth 65536 in
theorem w_c2 : (Jvm.Cond.code ({ cls := "java/lang/Object", name := "<init>", desc := "()V" } : Jvm.MethodName) object_method_1_code (1 : Nat) (Option.none : Option Jvm.ClassFile.FieldType)).before args0 about1 = true := code_word (m := ⟨0, 0⟩) (meth := k0m0) (c := k0c0) (by decide +kernel) rfl rfl rfl (by decide +kernel)
set_option maxRecDepth 65536 in
theorem w_c3 : (Jvm.Cond.code ({ cls := "TwoSatIncremental", name := "clearResult", desc := "()V" } : Jvm.MethodName) prog_1_method_19_code (1 : Nat) (Option.none : Option Jvm.ClassFile.FieldType)).before args0 about1 = true := code_word (m := ⟨2, 7⟩) (meth := k2m7) (c := k2c7) (by decide +kernel) rfl rfl rfl (by decide +kernel)
set_option maxRecDepth 65536 in
theorem w_c4 : (Jvm.Cond.code ({ cls := "TwoSatIncremental", name := "variableCount", desc := "()I" } : Jvm.MethodName) prog_1_method_2_code (1 : Nat) (Option.some Jvm.ClassFile.FieldType.int)).before args0 about1 = true := code_word (m := ⟨2, 1⟩) (meth := k2m1) (c := k2c1) (by decide +kernel) rfl rfl rfl (by decide +kernel)
set_option maxRecDepth 65536 in
theorem w_c5 : (Jvm.Cond.code ({ cls := "TwoSatIncremental", name := "capacity", desc := "()I" } : Jvm.MethodName) prog_1_method_3_code (1 : Nat) (Option.some Jvm.ClassFile.FieldType.int)).before args0 about1 = true := code_word (m := ⟨2, 2⟩) (meth := k2m2) (c := k2c2) (by decide +kernel) rfl rfl rfl (by decide +kernel)
set_option maxRecDepth 65536 in
theorem w_c6 : (Jvm.Cond.code ({ cls := "TwoSatIncremental", name := "popClause", desc := "()I" } : Jvm.MethodName) prog_1_method_6_code (1 : Nat) (Option.some Jvm.ClassFile.FieldType.int)).before args0 about1 = true := code_word (m := ⟨2, 4⟩) (meth := k2m4) (c := k2c4) (by decide +kernel) rfl rfl rfl (by decide +kernel)
set_option maxRecDepth 65536 in
theorem w_c7 : (Jvm.Cond.code ({ cls := "TwoSatIncremental", name := "depth", desc := "()I" } : Jvm.MethodName) prog_1_method_4_code (1 : Nat) (Option.some Jvm.ClassFile.FieldType.int)).before args0 about1 = true := code_word (m := ⟨2, 3⟩) (meth := k2m3) (c := k2c3) (by decide +kernel) rfl rfl rfl (by decide +kernel)
set_option maxRecDepth 65536 in
theorem w_c8 : (Jvm.Cond.code ({ cls := "TwoSatIncremental", name := "status", desc := "()I" } : Jvm.MethodName) prog_1_method_9_code (1 : Nat) (Option.some Jvm.ClassFile.FieldType.int)).before args0 about1 = true := code_word (m := ⟨2, 6⟩) (meth := k2m6) (c := k2c6) (by decide +kernel) rfl rfl rfl (by decide +kernel)
set_option maxRecDepth 65536 in
theorem w_c9 : (Jvm.Cond.code ({ cls := "TwoSatIncremental", name := "clauseLiteral", desc := "(II)I" } : Jvm.MethodName) prog_1_method_7_code (3 : Nat) (Option.some Jvm.ClassFile.FieldType.int)).before args0 about1 = true := code_word (m := ⟨2, 5⟩) (meth := k2m5) (c := k2c5) (by decide +kernel) rfl rfl rfl (by decide +kernel)
def codes1 : List Jvm.Cond := [Jvm.Cond.code x code maxLocals ret, Jvm.Cond.code ({ cls := "TwoSatIncremental", name := "<init>", desc := "(II)V" } : Jvm.MethodName) prog_1_method_1_code (5 : Nat) (Option.none : Option Jvm.ClassFile.FieldType), Jvm.Cond.code ({ cls := "java/lang/Object", name := "<init>", desc := "()V" } : Jvm.MethodName) object_method_1_code (1 : Nat) (Option.none : Option Jvm.ClassFile.FieldType), Jvm.Cond.code ({ cls := "TwoSatIncremental", name := "clearResult", desc := "()V" } : Jvm.MethodName) prog_1_method_19_code (1 : Nat) (Option.none : Option Jvm.ClassFile.FieldType), Jvm.Cond.code ({ cls := "TwoSatIncremental", name := "variableCount", desc := "()I" } : Jvm.MethodName) prog_1_method_2_code (1 : Nat) (Option.some Jvm.ClassFile.FieldType.int), Jvm.Cond.code ({ cls := "TwoSatIncremental", name := "capacity", desc := "()I" } : Jvm.MethodName) prog_1_method_3_code (1 : Nat) (Option.some Jvm.ClassFile.FieldType.int), Jvm.Cond.code ({ cls := "TwoSatIncremental", name := "popClause", desc := "()I" } : Jvm.MethodName) prog_1_method_6_code (1 : Nat) (Option.some Jvm.ClassFile.FieldType.int), Jvm.Cond.code ({ cls := "TwoSatIncremental", name := "depth", desc := "()I" } : Jvm.MethodName) prog_1_method_4_code (1 : Nat) (Option.some Jvm.ClassFile.FieldType.int), Jvm.Cond.code ({ cls := "TwoSatIncremental", name := "status", desc := "()I" } : Jvm.MethodName) prog_1_method_9_code (1 : Nat) (Option.some Jvm.ClassFile.FieldType.int), Jvm.Cond.code ({ cls := "TwoSatIncremental", name := "clauseLiteral", desc := "(II)I" } : Jvm.MethodName) prog_1_method_7_code (3 : Nat) (Option.some Jvm.ClassFile.FieldType.int)]
set_option maxRecDepth 65536 in
theorem codes_eq : words1.filter isCode = codes1 := rfl
theorem w_codes : ∀ c ∈ words1.filter isCode, c.before args0 about1 = true := by
  rw [codes_eq]
  intro c hc
  simp only [codes1, List.mem_cons, List.not_mem_nil, or_false] at hc
  rcases hc with rfl | rfl | rfl | rfl | rfl | rfl | rfl | rfl | rfl | rfl
  · exact w_c0
  · exact w_c1
  · exact w_c2
  · exact w_c3
  · exact w_c4
  · exact w_c5
  · exact w_c6
  · exact w_c7
  · exact w_c8
  · exact w_c9
set_option maxRecDepth 65536 in
theorem w_t1 : (words1.take 24).all (fun c => isCode c || c.before args0 about1) = true := by decide +kernel
set_option maxRecDepth 65536 in
theorem w_t2 : ((words1.drop 24).take 24).all (fun c => isCode c || c.before args0 about1) = true := by decide +kernel
set_option maxRecDepth 65536 in
theorem w_t3 : (((words1.drop 24).drop 24).take 24).all (fun c => isCode c || c.before args0 about1) = true := by decide +kernel
set_option maxRecDepth 65536 in
theorem w_t4 : (((words1.drop 24).drop 24).drop 24).all (fun c => isCode c || c.before args0 about1) = true := by decide +kernel
theorem w_tables : (allAtoms (Jvm.Cond.code x code maxLocals ret :: tables_1)).before args0 about1 = true := by
  rw [allAtoms_all]
  show words1.all (fun c => c.before args0 about1) = true
  refine all_split ?_ w_codes
  rw [← List.take_append_drop 24 words1, List.all_append, w_t1, ← List.take_append_drop 24 (words1.drop 24), List.all_append, w_t2, ← List.take_append_drop 24 ((words1.drop 24).drop 24), List.all_append, w_t3, w_t4]
  rfl
set_option maxRecDepth 65536 in
theorem w_case : (Jvm.Cond.and given_1 narrow_1).before args0 about1 = true := by decide +kernel
theorem w_applies : (headSpec (Jvm.Cond.code x code maxLocals ret :: tables_1) room_1).applies x e0.platform about1 = true :=
  (Spec.applies_iff w_frames).mpr ⟨w_running, w_runnable, w_alone, w_named, w_hears, w_ripe, w_room, w_tables⟩
theorem atStart : AtStart classFile x code maxLocals ret World_1 tables_1 room_1 Calls_1 rest_1 Pre_1 launch0 p0 e0 about1 theMethod args0 below0 :=
  ⟨lists_1, trivial, launch0.admits_env _ _ _, launch0.least_env, fairChoices_fair.cas, fairChoices_fair.clock, w_frames, w_args, w_heap, w_applies, trivial, trivial, w_case⟩
end start1
theorem witness_1 : WitnessClaimed_1 := ⟨start1.p0, start1.e0, start1.about1, start1.theMethod, start1.args0, start1.below0, start1.atStart⟩
end Jvm.Pilot.@@N@@
