import JvmDerived
import JvmDerived.Pilot.@@N@@Statement
import JvmDerived.Pilot.@@N@@Code
set_option linter.unusedVariables false
set_option linter.unusedSimpArgs false
set_option maxRecDepth 20000
namespace Jvm.JX
open Sem ClassFile Op Lib
abbrev Cel : Type := FieldType × Nat × Bool × (Nat → Value)
abbrev AH : Type := Nat × (Nat → Cel)
abbrev MInfo : Type := Nat × Nat × Nat × Option FieldType × Jvm.Room
abbrev Prog : Type := (Nat → Nat → Option (Instr × Nat × Int)) × (Nat → MInfo) × (Nat → FieldType) × Nat
abbrev Fm : Type := Nat × List Slot × List Value × Nat × Nat × AH
def na (P : Prog) (m : Nat) : Nat := (P.2.1 m).1
def ml (P : Prog) (m : Nat) : Nat := (P.2.1 m).2.1
def kd (P : Prog) (m : Nat) : Nat := (P.2.1 m).2.2.1
def rt (P : Prog) (m : Nat) : Option FieldType := (P.2.1 m).2.2.2.1
def rm (P : Prog) (m : Nat) : Jvm.Room := (P.2.1 m).2.2.2.2
def isO (H : AH) (a : Nat) : Bool := match (H.2 a).1 with | .object _ => true | _ => false
def isOw (H : AH) (a : Nat) : Bool := isO H a && (H.2 a).2.2.1
def inA (H : AH) (a : Nat) (t : FieldType) (i : Int32) : Bool := decide ((H.2 a).1 = .array t) && !decide (i < 0) && decide (i.toNatClampNeg < (H.2 a).2.1)
def inAw (H : AH) (a : Nat) (t : FieldType) (i : Int32) : Bool := inA H a t i && (H.2 a).2.2.1
def isA (H : AH) (a : Nat) : Bool := match (H.2 a).1 with | .array _ => true | _ => false
def elt (H : AH) (a : Nat) (i : Int32) : Value := (H.2 a).2.2.2 i.toNatClampNeg
def fld (H : AH) (a k : Nat) : Value := (H.2 a).2.2.2 k
def alen (H : AH) (a : Nat) : Nat := (H.2 a).2.1
def wr (H : AH) (a j : Nat) (v : Value) : AH := (H.1, fun b => if b = a then ((H.2 a).1, (H.2 a).2.1, (H.2 a).2.2.1, fun i => if i = j then v else (H.2 a).2.2.2 i) else H.2 b)
def okv : FieldType → Value → Bool
  | .int, .int _ => true
  | .boolean, .int z => z == 0 || z == 1
  | .byte, .int z => z.toInt8.toInt32 == z
  | .long, .long _ => true
  | .array _, .ref _ => true
  | _, _ => false
def mkO (P : Prog) (H : AH) : AH := (H.1 + 1, fun b => if b = H.1 then (.object "", P.2.2.2, true, fun k => defaultValue (P.2.2.1 k)) else H.2 b)
def mkA (t : FieldType) (n : Nat) (H : AH) : AH := (H.1 + 1, fun b => if b = H.1 then (.array t, n, true, fun _ => defaultValue t) else H.2 b)
def cat1 : Slot → Bool | .unset => true | .val v => v.category == 1 | .second => false
def cs (S : List Value) : Nat := (S.map fun v => v.category).sum
def stl (L : List Slot) (i : Nat) (v : Value) : Option (List Slot) :=
  match L[i]? with
  | some .unset => some (L.set i (.val v))
  | some (.val w) => if w.category = 1 then some (L.set i (.val v)) else if i + 1 < L.length then some ((L.set (i + 1) .unset).set i (.val v)) else none
  | some .second => if 1 ≤ i then some ((L.set (i - 1) .unset).set i (.val v)) else none
  | none => none
def lng : Slot → Bool | .val v => v.category == 2 | _ => false
def stL (L : List Slot) (i : Nat) (v : Value) : Option (List Slot) :=
  match L[i]?, L[i + 1]? with
  | some (.val w), some o2 => if w.category = 2 then some ((L.set i (.val v)).set (i + 1) .second) else if cat1 o2 = true then some ((L.set i (.val v)).set (i + 1) .second) else if lng o2 = true ∧ i + 2 < L.length then some (((L.set i (.val v)).set (i + 2) .unset).set (i + 1) .second) else none
  | some .unset, some o2 => if cat1 o2 = true then some ((L.set i (.val v)).set (i + 1) .second) else if lng o2 = true ∧ i + 2 < L.length then some (((L.set i (.val v)).set (i + 2) .unset).set (i + 1) .second) else none
  | some .second, some o2 => if 1 ≤ i then (if cat1 o2 = true then some (((L.set (i - 1) .unset).set i (.val v)).set (i + 1) .second) else if lng o2 = true ∧ i + 2 < L.length then some ((((L.set (i - 1) .unset).set i (.val v)).set (i + 2) .unset).set (i + 1) .second) else none) else none
  | _, _ => none
def ent (P : Prog) (m : Nat) (a : List Value) : List Slot := Sym.laidSlots a ++ List.replicate (ml P m - (Sym.laidSlots a).length) .unset
def ilen : Instr → Nat
  | .bipush _ | .iload _ | .istore _ | .aload _ | .astore _ | .lload _ | .lstore _ | .newarray _ | .ldc _ => 2
  | .sipush _ | .getfield _ | .putfield _ | .new _ | .invokevirtual _ | .invokestatic _ | .invokespecial _ | .ldc2_w _ | .goto _ | .ifCond _ _ | .if_icmp _ _ | .iinc _ _ => 3
  | _ => 1
def ldI (L : List Slot) (i : Nat) : Option Value := match L[i]? with | some (.val (.int x)) => some (.int x) | _ => none
def ldJ (L : List Slot) (i : Nat) : Option Value := match L[i]? with | some (.val (.long x)) => some (.long x) | _ => none
def ldR (L : List Slot) (i : Nat) : Option Value := match L[i]? with | some (.val (.ref x)) => some (.ref x) | _ => none
def jmp (pc : Nat) (o : Int) : Option Nat := if 0 ≤ (pc : Int) + o then some ((pc : Int) + o).toNat else none
def ret (P : Prog) (m : Nat) (ins : Instr) (S : List Value) : Option (Option Value) :=
  match ins with
  | .return_ => if rt P m = none ∧ S = [] then some none else none
  | .ireturn => match S, rt P m with
    | .int z :: _, some .int => some (some (.int z))
    | .int z :: _, some .boolean => if z = 0 ∨ z = 1 then some (some (.int z)) else none
    | _, _ => none
  | .lreturn => match S, rt P m with
    | .long z :: _, some .long => some (some (.long z))
    | _, _ => none
  | _ => none
def rcv (H : AH) : List Value → Bool | .ref a :: _ => isO H a | _ => false
def may (P : Prog) (m m' : Nat) (a r : List Value) (k n : Nat) (H : AH) : Bool :=
  decide ((Sym.laidSlots a).length ≤ ml P m') && decide (a.length = na P m') && decide ((rm P m').frames + 1 ≤ (rm P m).frames) && decide (cs r + (ml P m' + 11) + (rm P m').locals ≤ (rm P m).locals)
    && (decide ((rm P m').cells = 0 ∧ (rm P m').slots = 0) || decide (k + (rm P m').cells ≤ (rm P m).cells ∧ n + (rm P m').slots ≤ (rm P m).slots))
    && (decide (kd P m' = 0) || rcv H a)
def kindOk : Instr → Nat → Bool
  | .invokevirtual _, k => k == 1 || k == 2
  | .invokestatic _, k => k == 0
  | .invokespecial _, k => k == 3
  | _, _ => false
def cal1 (P : Prog) (m : Nat) (ins : Instr) (aux : Int) (S : List Value) (k n : Nat) (H : AH) : Option (Nat × List Value × List Value) :=
  if 0 ≤ aux ∧ kindOk ins (kd P aux.toNat) = true ∧ may P m aux.toNat (S.take (na P aux.toNat)).reverse (S.drop (na P aux.toNat)) k n H = true
  then some (aux.toNat, (S.take (na P aux.toNat)).reverse, S.drop (na P aux.toNat)) else none
def cal (P : Prog) (m : Nat) (ins : Instr) (aux : Int) (S : List Value) (k n : Nat) (H : AH) : Option (Nat × List Value × List Value) :=
  match ins with
  | .invokevirtual _ | .invokestatic _ | .invokespecial _ => cal1 P m ins aux S k n H
  | _ => none
def opI : Instr → Option (Int32 → Int32 → Int32)
  | .iadd => some fun x y => x + y
  | .isub => some fun x y => x - y
  | .imul => some fun x y => x * y
  | .iand => some fun x y => x &&& y
  | .ior => some fun x y => x ||| y
  | .ixor => some fun x y => x ^^^ y
  | .ishl => some fun x y => x <<< (y &&& 31)
  | .ishr => some fun x y => x >>> (y &&& 31)
  | .iushr => some Jvm.Free.XT.ushr
  | _ => none
def opJ : Instr → Option (Int64 → Int64 → Int64)
  | .ladd => some fun x y => x + y
  | .lsub => some fun x y => x - y
  | .lmul => some fun x y => x * y
  | .land => some fun x y => x &&& y
  | .lor => some fun x y => x ||| y
  | .lxor => some fun x y => x ^^^ y
  | _ => none
def opS : Instr → Option (Int64 → Int32 → Int64)
  | .lshl => some fun x y => x <<< (y.toInt64 &&& 63)
  | .lshr => some fun x y => x >>> (y.toInt64 &&& 63)
  | .lushr => some Jvm.Free.XT.ushrL
  | _ => none
def stp (P : Prog) (m : Nat) (ins : Instr) (len : Nat) (aux : Int) (pc : Nat) (L : List Slot) (S : List Value) (k n : Nat) (H : AH) : Option Fm :=
  match ins with
  | .iconst i => some (pc + len, L, .int (Int32.ofInt i) :: S, k, n, H)
  | .bipush i => some (pc + len, L, .int (Int8.ofInt i).toInt32 :: S, k, n, H)
  | .sipush i => some (pc + len, L, .int (Int16.ofInt i).toInt32 :: S, k, n, H)
  | .lconst i => some (pc + len, L, .long (Int64.ofNat i) :: S, k, n, H)
  | .ldc _ => some (pc + len, L, .int (Int32.ofInt aux) :: S, k, n, H)
  | .ldc2_w _ => some (pc + len, L, .long (Int64.ofInt aux) :: S, k, n, H)
  | .iload i => (ldI L i).map fun v => (pc + len, L, v :: S, k, n, H)
  | .iload_n i => (ldI L i.val).map fun v => (pc + len, L, v :: S, k, n, H)
  | .lload i => (ldJ L i).map fun v => (pc + len, L, v :: S, k, n, H)
  | .lload_n i => (ldJ L i.val).map fun v => (pc + len, L, v :: S, k, n, H)
  | .aload i => (ldR L i).map fun v => (pc + len, L, v :: S, k, n, H)
  | .aload_n i => (ldR L i.val).map fun v => (pc + len, L, v :: S, k, n, H)
  | .istore i => match S with | .int x :: S => (stl L i (.int x)).map fun L => (pc + len, L, S, k, n, H) | _ => none
  | .istore_n i => match S with | .int x :: S => (stl L i.val (.int x)).map fun L => (pc + len, L, S, k, n, H) | _ => none
  | .astore i => match S with | .ref x :: S => (stl L i (.ref x)).map fun L => (pc + len, L, S, k, n, H) | _ => none
  | .astore_n i => match S with | .ref x :: S => (stl L i.val (.ref x)).map fun L => (pc + len, L, S, k, n, H) | _ => none
  | .lstore i => match S with | .long x :: S => (stL L i (.long x)).map fun L => (pc + len, L, S, k, n, H) | _ => none
  | .lstore_n i => match S with | .long x :: S => (stL L i.val (.long x)).map fun L => (pc + len, L, S, k, n, H) | _ => none
  | .iinc i c => match L[i]? with | some (.val (.int x)) => some (pc + len, L.set i (.val (.int (x + Int32.ofInt c))), S, k, n, H) | _ => none
  | .iadd | .isub | .imul | .iand | .ior | .ixor | .ishl | .ishr | .iushr => match S with | .int y :: .int x :: S => (opI ins).map fun f => (pc + len, L, .int (f x y) :: S, k, n, H) | _ => none
  | .ladd | .lsub | .lmul | .land | .lor | .lxor => match S with | .long y :: .long x :: S => (opJ ins).map fun f => (pc + len, L, .long (f x y) :: S, k, n, H) | _ => none
  | .lshl | .lshr | .lushr => match S with | .int y :: .long x :: S => (opS ins).map fun f => (pc + len, L, .long (f x y) :: S, k, n, H) | _ => none
  | .idiv => match S with | .int y :: .int x :: S => if y = 0 then none else some (pc + len, L, .int (x / y) :: S, k, n, H) | _ => none
  | .irem => match S with | .int y :: .int x :: S => if y = 0 then none else some (pc + len, L, .int (x % y) :: S, k, n, H) | _ => none
  | .ldiv => match S with | .long y :: .long x :: S => if y = 0 then none else some (pc + len, L, .long (x / y) :: S, k, n, H) | _ => none
  | .lrem => match S with | .long y :: .long x :: S => if y = 0 then none else some (pc + len, L, .long (x % y) :: S, k, n, H) | _ => none
  | .ineg => match S with | .int x :: S => some (pc + len, L, .int (-x) :: S, k, n, H) | _ => none
  | .lneg => match S with | .long x :: S => some (pc + len, L, .long (-x) :: S, k, n, H) | _ => none
  | .i2l => match S with | .int x :: S => some (pc + len, L, .long x.toInt64 :: S, k, n, H) | _ => none
  | .l2i => match S with | .long x :: S => some (pc + len, L, .int x.toInt32 :: S, k, n, H) | _ => none
  | .i2b => match S with | .int x :: S => some (pc + len, L, .int x.toInt8.toInt32 :: S, k, n, H) | _ => none
  | .lcmp => match S with | .long y :: .long x :: S => some (pc + len, L, .int (Jvm.Free.XT.cmpL x y) :: S, k, n, H) | _ => none
  | .dup => match S with | v :: S => if v.category = 1 then some (pc + len, L, v :: v :: S, k, n, H) else none | _ => none
  | .dup2 => match S with
    | .long x :: S => some (pc + len, L, .long x :: .long x :: S, k, n, H)
    | v :: w :: S => if v.category = 1 ∧ w.category = 1 then some (pc + len, L, v :: w :: v :: w :: S, k, n, H) else none
    | _ => none
  | .pop => match S with | v :: S => if v.category = 1 then some (pc + len, L, S, k, n, H) else none | _ => none
  | .goto o => (jmp pc o).map fun q => (q, L, S, k, n, H)
  | .ifCond c o => match S with | .int x :: S => if ifCond.holds c x = true then (jmp pc o).map fun q => (q, L, S, k, n, H) else some (pc + len, L, S, k, n, H) | _ => none
  | .if_icmp c o => match S with | .int y :: .int x :: S => if if_icmp.holds c x y = true then (jmp pc o).map fun q => (q, L, S, k, n, H) else some (pc + len, L, S, k, n, H) | _ => none
  | .tableswitch d lo hi os => match S with
    | .int x :: S => if x.toInt < lo ∨ x.toInt > hi then (jmp pc d).map fun q => (q, L, S, k, n, H) else (os[(x.toInt - lo).toNat]?).bind fun o => (jmp pc o).map fun q => (q, L, S, k, n, H)
    | _ => none
  | .getfield _ => match S with | .ref a :: S => if isO H a = true then some (pc + len, L, fld H a aux.toNat :: S, k, n, H) else none | _ => none
  | .putfield _ => match S with | v :: .ref a :: S => if isOw H a = true ∧ okv (P.2.2.1 aux.toNat) v = true then some (pc + len, L, S, k, n, wr H a aux.toNat v) else none | _ => none
  | .iaload => match S with | .int i :: .ref a :: S => if inA H a .int i = true then some (pc + len, L, elt H a i :: S, k, n, H) else none | _ => none
  | .laload => match S with | .int i :: .ref a :: S => if inA H a .long i = true then some (pc + len, L, elt H a i :: S, k, n, H) else none | _ => none
  | .baload => match S with | .int i :: .ref a :: S => if inA H a .byte i = true ∨ inA H a .boolean i = true then some (pc + len, L, elt H a i :: S, k, n, H) else none | _ => none
  | .iastore => match S with | .int x :: .int i :: .ref a :: S => if inAw H a .int i = true then some (pc + len, L, S, k, n, wr H a i.toNatClampNeg (.int x)) else none | _ => none
  | .lastore => match S with | .long x :: .int i :: .ref a :: S => if inAw H a .long i = true then some (pc + len, L, S, k, n, wr H a i.toNatClampNeg (.long x)) else none | _ => none
  | .bastore => match S with
    | .int x :: .int i :: .ref a :: S => if (inAw H a .byte i = true ∧ okv .byte (.int x) = true) ∨ (inAw H a .boolean i = true ∧ okv .boolean (.int x) = true) then some (pc + len, L, S, k, n, wr H a i.toNatClampNeg (.int x)) else none
    | _ => none
  | .arraylength => match S with | .ref a :: S => if isA H a = true then some (pc + len, L, .int (alen H a).toInt32 :: S, k, n, H) else none | _ => none
  | .newarray t => match S with | .int c :: S => if ¬ c < 0 ∧ c.toNatClampNeg * 8 ≤ 536870912 ∧ k + 1 ≤ (rm P m).cells ∧ n + c.toNatClampNeg ≤ (rm P m).slots then some (pc + len, L, .ref H.1 :: S, k + 1, n + c.toNatClampNeg, mkA (newarray.typeOf t) c.toNatClampNeg H) else none | _ => none
  | .new _ => if 0 ≤ aux ∧ k + 1 ≤ (rm P m).cells ∧ n + aux.toNat ≤ (rm P m).slots then some (pc + len, L, .ref H.1 :: S, k + 1, n + aux.toNat, mkO P H) else none
  | .invokespecial _ => match S with | .ref a :: S => if aux = -1 ∧ 1 ≤ (rm P m).frames ∧ cs S + 12 ≤ (rm P m).locals then some (pc + len, L, S, k, n, H) else none | _ => none
  | _ => none
def run (P : Prog) : Nat → Nat → Nat → List Slot → List Value → Nat → Nat → AH → Option (Option Value × AH)
  | 0, _, _, _, _, _, _, _ => none
  | f + 1, m, pc, L, S, k, n, H =>
    match P.1 m pc with
    | none => none
    | some d =>
      match ret P m d.1 S with
      | some v => some (v, H)
      | none => match cal P m d.1 d.2.2 S k n H with
        | some c => match run P f c.1 0 (ent P c.1 c.2.1) [] 0 0 H with
          | none => none
          | some r => run P f m (pc + d.2.1) L (r.1.toList ++ c.2.2) (k + (rm P c.1).cells) (n + (rm P c.1).slots) r.2
        | none => match stp P m d.1 d.2.1 d.2.2 pc L S k n H with
          | none => none
          | some q => run P f m q.1 q.2.1 q.2.2.1 q.2.2.2.1 q.2.2.2.2.1 q.2.2.2.2.2
end Jvm.JX

namespace Jvm.JX
open Sem ClassFile Op Lib
section
variable {P : Prog}
theorem run_succ (f m pc : Nat) (L : List Slot) (S : List Value) (k n : Nat) (H : AH) : run P (f + 1) m pc L S k n H =
    match P.1 m pc with
    | none => none
    | some d =>
      match ret P m d.1 S with
      | some v => some (v, H)
      | none => match cal P m d.1 d.2.2 S k n H with
        | some c => match run P f c.1 0 (ent P c.1 c.2.1) [] 0 0 H with
          | none => none
          | some r => run P f m (pc + d.2.1) L (r.1.toList ++ c.2.2) (k + (rm P c.1).cells) (n + (rm P c.1).slots) r.2
        | none => match stp P m d.1 d.2.1 d.2.2 pc L S k n H with
          | none => none
          | some q => run P f m q.1 q.2.1 q.2.2.1 q.2.2.2.1 q.2.2.2.2.1 q.2.2.2.2.2 := rfl
theorem run_mono : ∀ (f m pc : Nat) (L : List Slot) (S : List Value) (k n : Nat) (H : AH) (r : Option Value × AH), run P f m pc L S k n H = some r → run P (f + 1) m pc L S k n H = some r := by
  intro f
  induction f with
  | zero => intro m pc L S k n H r h; cases h
  | succ f ih =>
    intro m pc L S k n H r h
    rw [run_succ] at h ⊢
    cases hd : P.1 m pc with
    | none => rw [hd] at h; cases h
    | some d =>
      rw [hd] at h
      simp only at h ⊢
      cases hr : ret P m d.1 S with
      | some v => rw [hr] at h; exact h
      | none =>
        rw [hr] at h
        simp only at h ⊢
        cases hc : cal P m d.1 d.2.2 S k n H with
        | some c =>
          rw [hc] at h
          simp only at h ⊢
          cases hq : run P f c.1 0 (ent P c.1 c.2.1) [] 0 0 H with
          | none => rw [hq] at h; cases h
          | some q =>
            rw [hq] at h
            rw [ih _ _ _ _ _ _ _ _ hq]
            exact ih _ _ _ _ _ _ _ _ h
        | none =>
          rw [hc] at h
          simp only at h ⊢
          cases hs : stp P m d.1 d.2.1 d.2.2 pc L S k n H with
          | none => rw [hs] at h; cases h
          | some q => rw [hs] at h; exact ih _ _ _ _ _ _ _ _ h
theorem run_le {f g : Nat} (hfg : f ≤ g) {m pc : Nat} {L : List Slot} {S : List Value} {k n : Nat} {H : AH} {r : Option Value × AH} (h : run P f m pc L S k n H = some r) : run P g m pc L S k n H = some r := by
  induction hfg with
  | refl => exact h
  | step _ ih => exact run_mono _ _ _ _ _ _ _ _ _ ih
end
def W (P : Prog) (m pc : Nat) (L : List Slot) (S : List Value) (k n : Nat) (H : AH) (Q : Option Value → AH → Prop) : Prop := ∃ f v H', run P f m pc L S k n H = some (v, H') ∧ Q v H'
def Cl (P : Prog) (m : Nat) (a : List Value) (H : AH) (Q : Option Value → AH → Prop) : Prop := W P m 0 (ent P m a) [] 0 0 H Q
section Rules
variable {P : Prog} {m pc : Nat} {L : List Slot} {S : List Value} {k n : Nat} {H : AH} {Q : Option Value → AH → Prop} {ins : Instr} {len : Nat} {aux : Int}
theorem W_r {v : Option Value} (hd : P.1 m pc = some (ins, len, aux)) (hr : ret P m ins S = some v) : W P m pc L S k n H Q ↔ Q v H := by
  constructor
  · rintro ⟨f, v', H', h1, h2⟩
    cases f with
    | zero => cases h1
    | succ f => rw [run_succ, hd] at h1; simp only [hr] at h1; cases h1; exact h2
  · intro h
    refine ⟨1, v, H, ?_, h⟩
    rw [run_succ, hd]; simp only [hr]
theorem W_c {m' : Nat} {a r : List Value} (hd : P.1 m pc = some (ins, len, aux)) (hr : ret P m ins S = none) (hc : cal P m ins aux S k n H = some (m', a, r)) :
    W P m pc L S k n H Q ↔ Cl P m' a H (fun v H' => W P m (pc + len) L (v.toList ++ r) (k + (rm P m').cells) (n + (rm P m').slots) H' Q) := by
  constructor
  · rintro ⟨f, v', H', h1, h2⟩
    cases f with
    | zero => cases h1
    | succ f =>
      rw [run_succ, hd] at h1; simp only [hr, hc] at h1
      cases hq : run P f m' 0 (ent P m' a) [] 0 0 H with
      | none => rw [hq] at h1; cases h1
      | some q => rw [hq] at h1; exact ⟨f, q.1, q.2, hq, f, v', H', h1, h2⟩
  · rintro ⟨f, v, H', h1, g, v', H'', h2, h3⟩
    refine ⟨max f g + 1, v', H'', ?_, h3⟩
    rw [run_succ, hd]; simp only [hr, hc]
    rw [run_le (Nat.le_max_left f g) h1]
    exact run_le (Nat.le_max_right f g) h2
theorem W_q (hd : P.1 m pc = some (ins, len, aux)) (hr : ret P m ins S = none) (hc : cal P m ins aux S k n H = none) :
    W P m pc L S k n H Q ↔ ∃ q, stp P m ins len aux pc L S k n H = some q ∧ W P m q.1 q.2.1 q.2.2.1 q.2.2.2.1 q.2.2.2.2.1 q.2.2.2.2.2 Q := by
  constructor
  · rintro ⟨f, v', H', h1, h2⟩
    cases f with
    | zero => cases h1
    | succ f =>
      rw [run_succ, hd] at h1; simp only [hr, hc] at h1
      cases hq : stp P m ins len aux pc L S k n H with
      | none => rw [hq] at h1; cases h1
      | some q => rw [hq] at h1; exact ⟨q, rfl, f, v', H', h1, h2⟩
  · rintro ⟨q, hq, f, v', H', h1, h2⟩
    refine ⟨f + 1, v', H', ?_, h2⟩
    rw [run_succ, hd]; simp only [hr, hc, hq]; exact h1
theorem W_s {pc' : Nat} {L' : List Slot} {S' : List Value} {k' n' : Nat} {H' : AH} (hd : P.1 m pc = some (ins, len, aux)) (hr : ret P m ins S = none) (hc : cal P m ins aux S k n H = none)
    (hs : stp P m ins len aux pc L S k n H = some (pc', L', S', k', n', H')) : W P m pc L S k n H Q ↔ W P m pc' L' S' k' n' H' Q := by
  rw [W_q hd hr hc, hs]
  exact ⟨fun ⟨q, e, h⟩ => by cases e; exact h, fun h => ⟨_, rfl, h⟩⟩
theorem W_g {G : Prop} [Decidable G] {pc' : Nat} {L' : List Slot} {S' : List Value} {k' n' : Nat} {H' : AH} (hd : P.1 m pc = some (ins, len, aux)) (hr : ret P m ins S = none) (hc : cal P m ins aux S k n H = none)
    (hs : stp P m ins len aux pc L S k n H = if G then some (pc', L', S', k', n', H') else none) : W P m pc L S k n H Q ↔ (G ∧ W P m pc' L' S' k' n' H' Q) := by
  rw [W_q hd hr hc, hs]
  by_cases g : G
  · rw [if_pos g]; exact ⟨fun ⟨q, e, h⟩ => by cases e; exact ⟨g, h⟩, fun h => ⟨_, rfl, h.2⟩⟩
  · rw [if_neg g]; exact ⟨fun ⟨q, e, h⟩ => (by cases e), fun h => absurd h.1 g⟩
theorem W_n {G : Prop} [Decidable G] {pc' : Nat} {L' : List Slot} {S' : List Value} {k' n' : Nat} {H' : AH} (hd : P.1 m pc = some (ins, len, aux)) (hr : ret P m ins S = none) (hc : cal P m ins aux S k n H = none)
    (hs : stp P m ins len aux pc L S k n H = if G then none else some (pc', L', S', k', n', H')) : W P m pc L S k n H Q ↔ (¬ G ∧ W P m pc' L' S' k' n' H' Q) := by
  rw [W_q hd hr hc, hs]
  by_cases g : G
  · rw [if_pos g]; exact ⟨fun ⟨q, e, h⟩ => (by cases e), fun h => absurd g h.1⟩
  · rw [if_neg g]; exact ⟨fun ⟨q, e, h⟩ => by cases e; exact ⟨g, h⟩, fun h => ⟨_, rfl, h.2⟩⟩
theorem W_f {G : Prop} [Decidable G] {q1 q2 : Fm} (hd : P.1 m pc = some (ins, len, aux)) (hr : ret P m ins S = none) (hc : cal P m ins aux S k n H = none)
    (hs : stp P m ins len aux pc L S k n H = if G then some q1 else some q2) : W P m pc L S k n H Q ↔ (if G then W P m q1.1 q1.2.1 q1.2.2.1 q1.2.2.2.1 q1.2.2.2.2.1 q1.2.2.2.2.2 Q else W P m q2.1 q2.2.1 q2.2.2.1 q2.2.2.2.1 q2.2.2.2.2.1 q2.2.2.2.2.2 Q) := by
  rw [W_q hd hr hc, hs]
  by_cases g : G
  · rw [if_pos g, if_pos g]; exact ⟨fun ⟨q, e, h⟩ => by cases e; exact h, fun h => ⟨_, rfl, h⟩⟩
  · rw [if_neg g, if_neg g]; exact ⟨fun ⟨q, e, h⟩ => by cases e; exact h, fun h => ⟨_, rfl, h⟩⟩
section Cmp
variable {x y : Int32} {o : Int} {q : Nat}
theorem W_icmp_eq (hd : P.1 m pc = some (.if_icmp .eq o, len, aux)) (hj : jmp pc o = some q) : W P m pc L (.int y :: .int x :: S) k n H Q ↔ (if x = y then W P m q L S k n H Q else W P m (pc + len) L S k n H Q) :=
  W_f (G := x = y) (q1 := (q, L, S, k, n, H)) (q2 := (pc + len, L, S, k, n, H)) hd rfl rfl (by simp only [stp, hj, if_icmp.holds]; by_cases h : x = y <;> simp [h])
theorem W_icmp_ne (hd : P.1 m pc = some (.if_icmp .ne o, len, aux)) (hj : jmp pc o = some q) : W P m pc L (.int y :: .int x :: S) k n H Q ↔ (if x = y then W P m (pc + len) L S k n H Q else W P m q L S k n H Q) :=
  W_f (G := x = y) (q1 := (pc + len, L, S, k, n, H)) (q2 := (q, L, S, k, n, H)) hd rfl rfl (by simp only [stp, hj, if_icmp.holds]; by_cases h : x = y <;> simp [h])
theorem W_icmp_lt (hd : P.1 m pc = some (.if_icmp .lt o, len, aux)) (hj : jmp pc o = some q) : W P m pc L (.int y :: .int x :: S) k n H Q ↔ (if x < y then W P m q L S k n H Q else W P m (pc + len) L S k n H Q) :=
  W_f (G := x < y) (q1 := (q, L, S, k, n, H)) (q2 := (pc + len, L, S, k, n, H)) hd rfl rfl (by
    by_cases h : x < y
    · simp [stp, hj, Jvm.Free.XT.ii_lt_t h, h]
    · simp [stp, hj, Jvm.Free.XT.ii_lt_f h, h])
theorem W_icmp_ge (hd : P.1 m pc = some (.if_icmp .ge o, len, aux)) (hj : jmp pc o = some q) : W P m pc L (.int y :: .int x :: S) k n H Q ↔ (if x < y then W P m (pc + len) L S k n H Q else W P m q L S k n H Q) :=
  W_f (G := x < y) (q1 := (pc + len, L, S, k, n, H)) (q2 := (q, L, S, k, n, H)) hd rfl rfl (by
    by_cases h : x < y
    · simp [stp, hj, Jvm.Free.XT.ii_ge_f h, h]
    · simp [stp, hj, Jvm.Free.XT.ii_ge_t h, h])
theorem W_icmp_gt (hd : P.1 m pc = some (.if_icmp .gt o, len, aux)) (hj : jmp pc o = some q) : W P m pc L (.int y :: .int x :: S) k n H Q ↔ (if y < x then W P m q L S k n H Q else W P m (pc + len) L S k n H Q) :=
  W_f (G := y < x) (q1 := (q, L, S, k, n, H)) (q2 := (pc + len, L, S, k, n, H)) hd rfl rfl (by
    by_cases h : y < x
    · simp [stp, hj, Jvm.Free.XT.ii_gt_t h, h]
    · simp [stp, hj, Jvm.Free.XT.ii_gt_f h, h])
theorem W_icmp_le (hd : P.1 m pc = some (.if_icmp .le o, len, aux)) (hj : jmp pc o = some q) : W P m pc L (.int y :: .int x :: S) k n H Q ↔ (if y < x then W P m (pc + len) L S k n H Q else W P m q L S k n H Q) :=
  W_f (G := y < x) (q1 := (pc + len, L, S, k, n, H)) (q2 := (q, L, S, k, n, H)) hd rfl rfl (by
    by_cases h : y < x
    · simp [stp, hj, Jvm.Free.XT.ii_le_f h, h]
    · simp [stp, hj, Jvm.Free.XT.ii_le_t h, h])
theorem W_if_eq (hd : P.1 m pc = some (.ifCond .eq o, len, aux)) (hj : jmp pc o = some q) : W P m pc L (.int x :: S) k n H Q ↔ (if x = 0 then W P m q L S k n H Q else W P m (pc + len) L S k n H Q) :=
  W_f (G := x = 0) (q1 := (q, L, S, k, n, H)) (q2 := (pc + len, L, S, k, n, H)) hd rfl rfl (by
    by_cases h : x = 0
    · have e := Jvm.Free.XT.i0_eq_t h; simp only [stp, hj, e, if_pos h, if_true, Option.map_some]
    · simp [stp, hj, Jvm.Free.XT.i0_eq_f h, h])
theorem W_if_ne (hd : P.1 m pc = some (.ifCond .ne o, len, aux)) (hj : jmp pc o = some q) : W P m pc L (.int x :: S) k n H Q ↔ (if x = 0 then W P m (pc + len) L S k n H Q else W P m q L S k n H Q) :=
  W_f (G := x = 0) (q1 := (pc + len, L, S, k, n, H)) (q2 := (q, L, S, k, n, H)) hd rfl rfl (by
    by_cases h : x = 0
    · have e := Jvm.Free.XT.i0_ne_f h; simp only [stp, hj, e, if_pos h, Bool.false_eq_true, if_false]
    · simp [stp, hj, Jvm.Free.XT.i0_ne_t h, h])
theorem W_if_lt (hd : P.1 m pc = some (.ifCond .lt o, len, aux)) (hj : jmp pc o = some q) : W P m pc L (.int x :: S) k n H Q ↔ (if x < 0 then W P m q L S k n H Q else W P m (pc + len) L S k n H Q) :=
  W_f (G := x < 0) (q1 := (q, L, S, k, n, H)) (q2 := (pc + len, L, S, k, n, H)) hd rfl rfl (by
    by_cases h : x < 0
    · simp [stp, hj, Jvm.Free.XT.i0_lt_t h, h]
    · simp [stp, hj, Jvm.Free.XT.i0_lt_f h, h])
theorem W_if_ge (hd : P.1 m pc = some (.ifCond .ge o, len, aux)) (hj : jmp pc o = some q) : W P m pc L (.int x :: S) k n H Q ↔ (if x < 0 then W P m (pc + len) L S k n H Q else W P m q L S k n H Q) :=
  W_f (G := x < 0) (q1 := (pc + len, L, S, k, n, H)) (q2 := (q, L, S, k, n, H)) hd rfl rfl (by
    by_cases h : x < 0
    · simp [stp, hj, Jvm.Free.XT.i0_ge_f h, h]
    · simp [stp, hj, Jvm.Free.XT.i0_ge_t h, h])
theorem W_if_le (hd : P.1 m pc = some (.ifCond .le o, len, aux)) (hj : jmp pc o = some q) : W P m pc L (.int x :: S) k n H Q ↔ (if 0 < x then W P m (pc + len) L S k n H Q else W P m q L S k n H Q) :=
  W_f (G := 0 < x) (q1 := (pc + len, L, S, k, n, H)) (q2 := (q, L, S, k, n, H)) hd rfl rfl (by
    by_cases h : 0 < x
    · simp [stp, hj, Jvm.Free.XT.i0_le_f h, h]
    · simp [stp, hj, Jvm.Free.XT.i0_le_t h, h])
theorem W_goto (hd : P.1 m pc = some (.goto o, len, aux)) (hj : jmp pc o = some q) : W P m pc L S k n H Q ↔ W P m q L S k n H Q := W_s hd rfl rfl (by simp [stp, hj])
end Cmp
section Sto
variable {i : Nat} {o o2 : Slot} {x y : Int32} {v : Value} {l : Int64} {a : Nat}
theorem stl_plain (h : L[i]? = some o) (ho : cat1 o = true) : stl L i v = some (L.set i (.val v)) := by
  unfold stl
  rw [h]
  cases o with
  | unset => rfl
  | second => cases ho
  | val w => simp only [cat1, beq_iff_eq] at ho; simp [ho]
theorem stL_plain (h : L[i]? = some o) (h2 : L[i + 1]? = some o2) (ho : cat1 o = true) (ho2 : cat1 o2 = true) : stL L i v = some ((L.set i (.val v)).set (i + 1) .second) := by
  unfold stL
  rw [h, h2]
  cases o with
  | unset => simp [ho2]
  | second => cases ho
  | val w => simp only [cat1, beq_iff_eq] at ho; simp [ho, ho2]
theorem stL_again (h : L[i]? = some (.val (.long l))) (h2 : L[i + 1]? = some o2) : stL L i v = some ((L.set i (.val v)).set (i + 1) .second) := by
  unfold stL
  rw [h, h2]; simp [Value.category]
theorem W_ist (hd : P.1 m pc = some (.istore i, len, aux)) (h : L[i]? = some o) (ho : cat1 o = true) : W P m pc L (.int x :: S) k n H Q ↔ W P m (pc + len) (L.set i (.val (.int x))) S k n H Q := W_s hd rfl rfl (by simp [stp, stl_plain h ho])
theorem W_istn {i : Fin 4} (hd : P.1 m pc = some (.istore_n i, len, aux)) (h : L[i.val]? = some o) (ho : cat1 o = true) : W P m pc L (.int x :: S) k n H Q ↔ W P m (pc + len) (L.set i.val (.val (.int x))) S k n H Q := W_s hd rfl rfl (by simp [stp, stl_plain h ho])
theorem W_astn {i : Fin 4} (hd : P.1 m pc = some (.astore_n i, len, aux)) (h : L[i.val]? = some o) (ho : cat1 o = true) : W P m pc L (.ref a :: S) k n H Q ↔ W P m (pc + len) (L.set i.val (.val (.ref a))) S k n H Q := W_s hd rfl rfl (by simp [stp, stl_plain h ho])
theorem W_lst (hd : P.1 m pc = some (.lstore i, len, aux)) (h : L[i]? = some o) (h2 : L[i + 1]? = some o2) (ho : cat1 o = true) (ho2 : cat1 o2 = true) : W P m pc L (.long l :: S) k n H Q ↔ W P m (pc + len) ((L.set i (.val (.long l))).set (i + 1) .second) S k n H Q := W_s hd rfl rfl (by simp [stp, stL_plain h h2 ho ho2])
theorem W_lstn {i : Fin 4} (hd : P.1 m pc = some (.lstore_n i, len, aux)) (h : L[i.val]? = some o) (h2 : L[i.val + 1]? = some o2) (ho : cat1 o = true) (ho2 : cat1 o2 = true) : W P m pc L (.long l :: S) k n H Q ↔ W P m (pc + len) ((L.set i.val (.val (.long l))).set (i.val + 1) .second) S k n H Q := W_s hd rfl rfl (by simp [stp, stL_plain h h2 ho ho2])
theorem W_lst' {l' : Int64} (hd : P.1 m pc = some (.lstore i, len, aux)) (h : L[i]? = some (.val (.long l'))) (h2 : L[i + 1]? = some o2) : W P m pc L (.long l :: S) k n H Q ↔ W P m (pc + len) ((L.set i (.val (.long l))).set (i + 1) .second) S k n H Q := W_s hd rfl rfl (by simp [stp, stL_again h h2])
theorem W_lstn' {l' : Int64} {i : Fin 4} (hd : P.1 m pc = some (.lstore_n i, len, aux)) (h : L[i.val]? = some (.val (.long l'))) (h2 : L[i.val + 1]? = some o2) : W P m pc L (.long l :: S) k n H Q ↔ W P m (pc + len) ((L.set i.val (.val (.long l))).set (i.val + 1) .second) S k n H Q := W_s hd rfl rfl (by simp [stp, stL_again h h2])
theorem cs_nil : cs [] = 0 := by simp [cs]
theorem cs_int : cs (.int x :: S) = 1 + cs S := by simp [cs, Value.category]
theorem cs_ref : cs (.ref a :: S) = 1 + cs S := by simp [cs, Value.category]
end Sto
section Heap
variable {a j : Nat} {i x c : Int32} {v : Value} {l : Int64}
theorem W_getf {ix : Nat} (hd : P.1 m pc = some (.getfield ix, len, aux)) : W P m pc L (.ref a :: S) k n H Q ↔ (isO H a = true ∧ W P m (pc + len) L (fld H a aux.toNat :: S) k n H Q) := W_g hd rfl rfl rfl
theorem W_putf {ix : Nat} (hd : P.1 m pc = some (.putfield ix, len, aux)) : W P m pc L (v :: .ref a :: S) k n H Q ↔ ((isOw H a = true ∧ okv (P.2.2.1 aux.toNat) v = true) ∧ W P m (pc + len) L S k n (wr H a aux.toNat v) Q) := W_g hd rfl rfl rfl
theorem W_iaload (hd : P.1 m pc = some (.iaload, len, aux)) : W P m pc L (.int i :: .ref a :: S) k n H Q ↔ (inA H a .int i = true ∧ W P m (pc + len) L (elt H a i :: S) k n H Q) := W_g hd rfl rfl rfl
theorem W_baload (hd : P.1 m pc = some (.baload, len, aux)) : W P m pc L (.int i :: .ref a :: S) k n H Q ↔ ((inA H a .byte i = true ∨ inA H a .boolean i = true) ∧ W P m (pc + len) L (elt H a i :: S) k n H Q) := W_g hd rfl rfl rfl
theorem W_iastore (hd : P.1 m pc = some (.iastore, len, aux)) : W P m pc L (.int x :: .int i :: .ref a :: S) k n H Q ↔ (inAw H a .int i = true ∧ W P m (pc + len) L S k n (wr H a i.toNatClampNeg (.int x)) Q) := W_g hd rfl rfl rfl
theorem W_bastore (hd : P.1 m pc = some (.bastore, len, aux)) : W P m pc L (.int x :: .int i :: .ref a :: S) k n H Q ↔ (((inAw H a .byte i = true ∧ okv .byte (.int x) = true) ∨ (inAw H a .boolean i = true ∧ okv .boolean (.int x) = true)) ∧ W P m (pc + len) L S k n (wr H a i.toNatClampNeg (.int x)) Q) := W_g hd rfl rfl rfl
theorem W_alen (hd : P.1 m pc = some (.arraylength, len, aux)) : W P m pc L (.ref a :: S) k n H Q ↔ (isA H a = true ∧ W P m (pc + len) L (.int (alen H a).toInt32 :: S) k n H Q) := W_g hd rfl rfl rfl
theorem W_newarr {t : ArrayType} (hd : P.1 m pc = some (.newarray t, len, aux)) : W P m pc L (.int c :: S) k n H Q ↔ ((¬ c < 0 ∧ c.toNatClampNeg * 8 ≤ 536870912 ∧ k + 1 ≤ (rm P m).cells ∧ n + c.toNatClampNeg ≤ (rm P m).slots) ∧ W P m (pc + len) L (.ref H.1 :: S) (k + 1) (n + c.toNatClampNeg) (mkA (newarray.typeOf t) c.toNatClampNeg H) Q) := W_g hd rfl rfl rfl
theorem W_new {ix : Nat} (hd : P.1 m pc = some (.new ix, len, aux)) : W P m pc L S k n H Q ↔ ((0 ≤ aux ∧ k + 1 ≤ (rm P m).cells ∧ n + aux.toNat ≤ (rm P m).slots) ∧ W P m (pc + len) L (.ref H.1 :: S) (k + 1) (n + aux.toNat) (mkO P H) Q) := W_g hd rfl rfl rfl
theorem W_oinit {ix : Nat} (hd : P.1 m pc = some (.invokespecial ix, len, -1)) : W P m pc L (.ref a :: S) k n H Q ↔ ((1 ≤ (rm P m).frames ∧ cs S + 12 ≤ (rm P m).locals) ∧ W P m (pc + len) L S k n H Q) :=
  W_g (G := 1 ≤ (rm P m).frames ∧ cs S + 12 ≤ (rm P m).locals) hd rfl (by simp [cal, cal1]) (by simp [stp])
theorem W_irem {y : Int32} (hd : P.1 m pc = some (.irem, len, aux)) : W P m pc L (.int y :: .int x :: S) k n H Q ↔ (¬ y = 0 ∧ W P m (pc + len) L (.int (x % y) :: S) k n H Q) := W_n hd rfl rfl rfl
end Heap
section Call
variable {m' : Nat} {a r : List Value} {b : Nat}
theorem cal_eq (hk : kindOk ins (kd P m') = true) (hl : a.length = na P m') : cal P m ins (m' : Int) (a.reverse ++ r) k n H = if may P m m' a r k n H = true then some (m', a, r) else none := by
  have e1 : (a.reverse ++ r).take (na P m') = a.reverse := by rw [← hl, ← List.length_reverse (as := a)]; exact List.take_left ..
  have e2 : (a.reverse ++ r).drop (na P m') = r := by rw [← hl, ← List.length_reverse (as := a)]; exact List.drop_left ..
  have key : cal1 P m ins (m' : Int) (a.reverse ++ r) k n H = if may P m m' a r k n H = true then some (m', a, r) else none := by
    unfold cal1
    rw [Int.toNat_natCast, e1, e2, List.reverse_reverse]
    simp [hk]
  cases ins <;> first | exact key | (cases hk)
theorem W_call (hd : P.1 m pc = some (ins, len, (m' : Int))) (hr : ret P m ins S = none) (hk : kindOk ins (kd P m') = true) (hl : a.length = na P m') (hS : S = a.reverse ++ r) (hns : stp P m ins len (m' : Int) pc L S k n H = none) :
    W P m pc L S k n H Q ↔ (may P m m' a r k n H = true ∧ Cl P m' a H (fun v H' => W P m (pc + len) L (v.toList ++ r) (k + (rm P m').cells) (n + (rm P m').slots) H' Q)) := by
  have hc : cal P m ins (m' : Int) S k n H = if may P m m' a r k n H = true then some (m', a, r) else none := by rw [hS]; exact cal_eq hk hl
  by_cases g : may P m m' a r k n H = true
  · rw [if_pos g] at hc
    rw [W_c hd hr hc]; simp [g]
  · rw [if_neg g] at hc
    rw [W_q hd hr hc, hns]
    exact ⟨fun ⟨q, e, h⟩ => (by cases e), fun h => absurd h.1 g⟩
theorem W_inst {ix : Nat} {as : List Value} (hd : P.1 m pc = some (.invokevirtual ix, len, (m' : Int))) (hk : kindOk (.invokevirtual ix) (kd P m') = true) (hl : as.length + 1 = na P m') (hS : S = as.reverse ++ .ref b :: r)
    (h1 : (Sym.laidSlots (.ref b :: as)).length ≤ ml P m') (h2 : (rm P m').frames + 1 ≤ (rm P m).frames) (h3 : (rm P m').cells = 0 ∧ (rm P m').slots = 0) :
    W P m pc L S k n H Q ↔ ((isO H b = true ∧ cs r + (ml P m' + 11) + (rm P m').locals ≤ (rm P m).locals) ∧ Cl P m' (.ref b :: as) H (fun v H' => W P m (pc + len) L (v.toList ++ r) k n H' Q)) := by
  rw [W_call (a := .ref b :: as) (r := r) hd rfl hk hl (by rw [hS]; simp) rfl]
  have e : may P m m' (.ref b :: as) r k n H = true ↔ (isO H b = true ∧ cs r + (ml P m' + 11) + (rm P m').locals ≤ (rm P m).locals) := by
    have hk0 : kd P m' ≠ 0 := by intro h; rw [h] at hk; cases hk
    simp [may, rcv, h1, h2, h3, ← hl, hk0]; exact And.comm
  rw [e, h3.1, h3.2]; rfl
theorem W_stat {ix : Nat} (hd : P.1 m pc = some (.invokestatic ix, len, (m' : Int))) (hk : kindOk (.invokestatic ix) (kd P m') = true) (hl : a.length = na P m') (hS : S = a.reverse ++ r)
    (h1 : (Sym.laidSlots a).length ≤ ml P m') (h2 : (rm P m').frames + 1 ≤ (rm P m).frames) (h3 : (rm P m').cells = 0 ∧ (rm P m').slots = 0) :
    W P m pc L S k n H Q ↔ ((cs r + (ml P m' + 11) + (rm P m').locals ≤ (rm P m).locals) ∧ Cl P m' a H (fun v H' => W P m (pc + len) L (v.toList ++ r) k n H' Q)) := by
  rw [W_call (a := a) (r := r) hd rfl hk hl hS rfl]
  have e : may P m m' a r k n H = true ↔ (cs r + (ml P m' + 11) + (rm P m').locals ≤ (rm P m).locals) := by
    have hk0 : kd P m' = 0 := by simpa [kindOk] using hk
    simp [may, h1, h2, h3, hl, hk0]
  rw [e, h3.1, h3.2]; rfl
theorem W_init {ix : Nat} {as : List Value} (hd : P.1 m pc = some (.invokespecial ix, len, (m' : Int))) (hk : kindOk (.invokespecial ix) (kd P m') = true) (hl : as.length + 1 = na P m') (hS : S = as.reverse ++ .ref b :: r)
    (h1 : (Sym.laidSlots (.ref b :: as)).length ≤ ml P m') (h2 : (rm P m').frames + 1 ≤ (rm P m).frames) (h3 : ¬ ((rm P m').cells = 0 ∧ (rm P m').slots = 0)) :
    W P m pc L S k n H Q ↔ ((isO H b = true ∧ cs r + (ml P m' + 11) + (rm P m').locals ≤ (rm P m).locals ∧ k + (rm P m').cells ≤ (rm P m).cells ∧ n + (rm P m').slots ≤ (rm P m).slots) ∧ Cl P m' (.ref b :: as) H (fun v H' => W P m (pc + len) L (v.toList ++ r) (k + (rm P m').cells) (n + (rm P m').slots) H' Q)) := by
  have hns : stp P m (.invokespecial ix) len (m' : Int) pc L S k n H = none := by
    dsimp only [stp]
    split
    · rw [if_neg]; omega
    · rfl
  rw [W_call (a := .ref b :: as) (r := r) hd rfl hk hl (by rw [hS]; simp) hns]
  have e : may P m m' (.ref b :: as) r k n H = true ↔ (isO H b = true ∧ cs r + (ml P m' + 11) + (rm P m').locals ≤ (rm P m).locals ∧ k + (rm P m').cells ≤ (rm P m).cells ∧ n + (rm P m').slots ≤ (rm P m).slots) := by
    have hk0 : kd P m' ≠ 0 := by intro h; rw [h] at hk; cases hk
    simp only [may, rcv, h1, h2, h3, ← hl, hk0, List.length_cons, decide_true, decide_false, Bool.true_and, Bool.false_or, Bool.and_eq_true, decide_eq_true_eq]
    constructor
    · rintro ⟨⟨q1, q2⟩, q3⟩; exact ⟨q3, q1, q2⟩
    · rintro ⟨q3, q1, q2⟩; exact ⟨⟨q1, q2⟩, q3⟩
  rw [e]
end Call
section Last
theorem W_rz {x : Int32} (hd : P.1 m pc = some (.ireturn, len, aux)) (hr : rt P m = some .boolean) : W P m pc L (.int x :: S) k n H Q ↔ ((x = 0 ∨ x = 1) ∧ Q (some (.int x)) H) := by
  by_cases g : x = 0 ∨ x = 1
  · rw [W_r hd (by simp only [ret, hr]; rw [if_pos g])]; simp [g]
  · rw [W_q hd (by simp only [ret, hr]; rw [if_neg g]) rfl]
    constructor
    · rintro ⟨q, e, -⟩; cases e
    · intro h; exact absurd h.1 g
theorem W_newarr' {t : ArrayType} {c : Int32} {N : Nat} (hd : P.1 m pc = some (.newarray t, len, aux)) (hN : c.toNatClampNeg = N) (h1 : ¬ c < 0) (h2 : N * 8 ≤ 536870912) :
    W P m pc L (.int c :: S) k n H Q ↔ ((k + 1 ≤ (rm P m).cells ∧ n + N ≤ (rm P m).slots) ∧ W P m (pc + len) L (.ref H.1 :: S) (k + 1) (n + N) (mkA (newarray.typeOf t) N H) Q) := by
  rw [W_newarr hd, hN]; simp [h1, h2]
theorem W_new' {ix : Nat} (hd : P.1 m pc = some (.new ix, len, aux)) (h0 : 0 ≤ aux) : W P m pc L S k n H Q ↔ ((k + 1 ≤ (rm P m).cells ∧ n + aux.toNat ≤ (rm P m).slots) ∧ W P m (pc + len) L (.ref H.1 :: S) (k + 1) (n + aux.toNat) (mkO P H) Q) := by
  rw [W_new hd]; simp [h0]
theorem cmpL_eq {x y : Int64} : Jvm.Free.XT.cmpL x y = 0 ↔ x = y := by
  unfold Jvm.Free.XT.cmpL
  by_cases h1 : y < x
  · rw [if_pos h1]; exact ⟨fun h => absurd h (by decide), fun h => by subst h; rw [Int64.lt_iff_toInt_lt] at h1; omega⟩
  · rw [if_neg h1]
    by_cases h2 : x = y
    · rw [if_pos h2]; exact ⟨fun _ => h2, fun _ => rfl⟩
    · rw [if_neg h2]; exact ⟨fun h => absurd h (by decide), fun h => absurd h h2⟩
end Last
end Rules
abbrev LW : Type := (Nat → Nat → Option (Instr × Nat × Int)) × (Nat → MInfo)
abbrev Row : Type := Nat × Instr × Nat × Int
end Jvm.JX

namespace Jvm.JX
open Sem ClassFile Op Lib
abbrev St : Type := (Nat → Int32) × (Nat → Int64) × (Nat → Nat → Int32) × (Nat → Nat → Int64)
abbrev Lay : Type := List (FieldType × Nat) × List (FieldType × Nat)
def sI (s : St) (k : Nat) : Int32 := s.1 k
def sJ (s : St) (k : Nat) : Int64 := s.2.1 k
def sA (s : St) (t i : Nat) : Int32 := s.2.2.1 t i
def sB (s : St) (t i : Nat) : Int64 := s.2.2.2 t i
def uI (s : St) (k : Nat) (v : Int32) : St := (fun j => if j = k then v else s.1 j, s.2.1, s.2.2.1, s.2.2.2)
def uJ (s : St) (k : Nat) (v : Int64) : St := (s.1, fun j => if j = k then v else s.2.1 j, s.2.2.1, s.2.2.2)
def uA (s : St) (t i : Nat) (v : Int32) : St := (s.1, s.2.1, fun t' i' => if t' = t ∧ i' = i then v else s.2.2.1 t' i', s.2.2.2)
def uB (s : St) (t i : Nat) (v : Int64) : St := (s.1, s.2.1, s.2.2.1, fun t' i' => if t' = t ∧ i' = i then v else s.2.2.2 t' i')
def z0 : St := (fun _ => 0, fun _ => 0, fun _ _ => 0, fun _ _ => 0)
section St
variable {s : St} {k j t i t' i' : Nat} {v : Int32} {w : Int64}
theorem sI_uI : sI (uI s k v) j = if j = k then v else sI s j := by simp [sI, sJ, sA, sB, uI, uJ, uA, uB, z0]
theorem sI_uJ : sI (uJ s k w) j = sI s j := by simp [sI, sJ, sA, sB, uI, uJ, uA, uB, z0]
theorem sI_uA : sI (uA s t i v) j = sI s j := by simp [sI, sJ, sA, sB, uI, uJ, uA, uB, z0]
theorem sJ_uI : sJ (uI s k v) j = sJ s j := by simp [sI, sJ, sA, sB, uI, uJ, uA, uB, z0]
theorem sJ_uJ : sJ (uJ s k w) j = if j = k then w else sJ s j := by simp [sI, sJ, sA, sB, uI, uJ, uA, uB, z0]
theorem sJ_uA : sJ (uA s t i v) j = sJ s j := by simp [sI, sJ, sA, sB, uI, uJ, uA, uB, z0]
theorem sA_uI : sA (uI s k v) t' i' = sA s t' i' := by simp [sI, sJ, sA, sB, uI, uJ, uA, uB, z0]
theorem sA_uJ : sA (uJ s k w) t' i' = sA s t' i' := by simp [sI, sJ, sA, sB, uI, uJ, uA, uB, z0]
theorem sA_uA : sA (uA s t i v) t' i' = if t' = t ∧ i' = i then v else sA s t' i' := by simp [sI, sJ, sA, sB, uI, uJ, uA, uB, z0]
theorem sB_uI : sB (uI s k v) t' i' = sB s t' i' := by simp [sI, sJ, sA, sB, uI, uJ, uA, uB, z0]
theorem sB_uJ : sB (uJ s k w) t' i' = sB s t' i' := by simp [sI, sJ, sA, sB, uI, uJ, uA, uB, z0]
theorem sB_uA : sB (uA s t i v) t' i' = sB s t' i' := by simp [sI, sJ, sA, sB, uI, uJ, uA, uB, z0]
theorem sA_z0 : sA z0 t i = 0 := by simp [sI, sJ, sA, sB, uI, uJ, uA, uB, z0]
theorem sB_z0 : sB z0 t i = 0 := by simp [sI, sJ, sA, sB, uI, uJ, uA, uB, z0]
theorem St_ext {s s' : St} (h1 : ∀ k, sI s k = sI s' k) (h2 : ∀ k, sJ s k = sJ s' k) (h3 : ∀ t i, sA s t i = sA s' t i) (h4 : ∀ t i, sB s t i = sB s' t i) : s = s' :=
  Prod.ext (funext h1) (Prod.ext (funext h2) (Prod.ext (funext fun t => funext (h3 t)) (funext fun t => funext (h4 t))))
end St
def zr (s : St) (t : Nat) : Prop := (∀ i, sA s t i = 0) ∧ ∀ i, sB s t i = 0
theorem zr_z0 {t : Nat} : zr z0 t = True := by simp [zr, sA_z0, sB_z0]
def fvl (y : Lay) (j p : Nat) (s : St) (k : Nat) : Value := match y.1[k]? with
  | some (.long, _) => .long (sJ s k)
  | some (.array _, t) => if t ≤ j then .ref (p + t) else .null
  | _ => .int (sI s k)
def blk (y : Lay) (j p : Nat) (s : St) : Nat → Cel
  | 0 => (.object "", y.1.length, true, fvl y j p s)
  | t + 1 => match y.2[t]? with
    | some (.long, n) => (.array .long, n, true, fun i => .long (sB s (t + 1) i))
    | some (ty, n) => (.array ty, n, true, fun i => .int (sA s (t + 1) i))
    | none => (.char, 0, false, fun _ => .null)
def put (y : Lay) (j : Nat) (H : AH) (p : Nat) (s : St) : AH := (H.1, fun a => if p ≤ a ∧ a ≤ p + j then blk y j p s (a - p) else H.2 a)
section Put
variable {y : Lay} {j : Nat} {H : AH} {p : Nat} {s : St} {k t n : Nat} {ty : FieldType} {i : Int32}
theorem put_0 : (put y j H p s).2 p = (.object "", y.1.length, true, fvl y j p s) := by simp [put, blk]
theorem put_t (ht : t ≤ j) : (put y j H p s).2 (p + t) = blk y j p s t := by simp [put, ht]
theorem put_ot {a : Nat} (h : a < p ∨ p + j < a) : (put y j H p s).2 a = H.2 a := by
  have : ¬ (p ≤ a ∧ a ≤ p + j) := by omega
  simp [put, this]
theorem isO_put : isO (put y j H p s) p = true := by simp [isO, put_0]
theorem isOw_put : isOw (put y j H p s) p = true := by simp [isOw, isO_put, put_0]
theorem fld_I (h : y.1[k]? = some (ty, t)) (hl : ty ≠ .long) (ha : ∀ e, ty ≠ .array e) : fld (put y j H p s) p k = .int (sI s k) := by
  simp only [fld, put_0, fvl, h]; cases ty <;> first | rfl | exact absurd rfl hl | exact absurd rfl (ha _)
theorem fld_J (h : y.1[k]? = some (.long, t)) : fld (put y j H p s) p k = .long (sJ s k) := by simp only [fld, put_0, fvl, h]
theorem fld_R (h : y.1[k]? = some (.array ty, t)) (ht : t ≤ j) : fld (put y j H p s) p k = .ref (p + t) := by simp only [fld, put_0, fvl, h, ht, if_true]
theorem blk_I (h : y.2[t]? = some (ty, n)) (hl : ty ≠ .long) : blk y j p s (t + 1) = (.array ty, n, true, fun i => .int (sA s (t + 1) i)) := by
  simp only [blk, h]
theorem clamp_lt {i : Int32} {n : Nat} : (¬ i < 0 ∧ i.toNatClampNeg < n) ↔ (0 ≤ i.toInt ∧ i.toInt < n) := by
  simp only [Int32.lt_iff_toInt_lt, Int32.toNatClampNeg, Int32.reduceToInt]; omega
theorem inA_I (h : y.2[t]? = some (ty, n)) (hl : ty ≠ .long) (ht : t + 1 ≤ j) : inA (put y j H p s) (p + (t + 1)) ty i = true ↔ (0 ≤ i.toInt ∧ i.toInt < n) := by
  rw [← clamp_lt]; simp [inA, put_t ht, blk_I h hl]
theorem inA_no {ty' : FieldType} (h : y.2[t]? = some (ty, n)) (hl : ty ≠ .long) (ht : t + 1 ≤ j) (hne : ty ≠ ty') : inA (put y j H p s) (p + (t + 1)) ty' i = true ↔ False := by
  simp [inA, put_t ht, blk_I h hl, hne]
theorem inAw_I (h : y.2[t]? = some (ty, n)) (hl : ty ≠ .long) (ht : t + 1 ≤ j) : inAw (put y j H p s) (p + (t + 1)) ty i = true ↔ (0 ≤ i.toInt ∧ i.toInt < n) := by
  rw [← inA_I (H := H) (p := p) (s := s) h hl ht]; simp [inAw, put_t ht, blk_I h hl]
theorem inAw_no {ty' : FieldType} (h : y.2[t]? = some (ty, n)) (hl : ty ≠ .long) (ht : t + 1 ≤ j) (hne : ty ≠ ty') : inAw (put y j H p s) (p + (t + 1)) ty' i = true ↔ False := by
  simp [inAw, inA, put_t ht, blk_I h hl, hne]
theorem elt_I (h : y.2[t]? = some (ty, n)) (hl : ty ≠ .long) (ht : t + 1 ≤ j) : elt (put y j H p s) (p + (t + 1)) i = .int (sA s (t + 1) i.toNatClampNeg) := by
  simp only [elt, put_t ht, blk_I h hl]
theorem put_wr {s' : St} {t q : Nat} {v : Value} (ht : t ≤ j) (hb : ∀ t', blk y j p s' t' = if t' = t then ((blk y j p s t).1, (blk y j p s t).2.1, (blk y j p s t).2.2.1, fun i => if i = q then v else (blk y j p s t).2.2.2 i) else blk y j p s t') :
    wr (put y j H p s) (p + t) q v = put y j H p s' := by
  refine Prod.ext rfl (funext fun a => ?_)
  simp only [wr, put_t ht]
  by_cases e : a = p + t
  · subst e; simp [put, ht, hb]
  · simp only [e, if_false, put]
    by_cases g : p ≤ a ∧ a ≤ p + j
    · have : a - p ≠ t := by omega
      simp [g, hb, this]
    · simp [g]
theorem fvl_uI {v : Int32} (h : y.1[k]? = some (ty, t)) (hl : ty ≠ .long) (ha : ∀ e, ty ≠ .array e) (i : Nat) : fvl y j p (uI s k v) i = if i = k then .int v else fvl y j p s i := by
  by_cases e : i = k
  · subst e; simp only [fvl, h, if_true]; cases ty <;> first | (simp [sI_uI]; done) | exact absurd rfl hl | exact absurd rfl (ha _)
  · simp only [fvl, e, if_false, sI_uI, sJ_uI]
theorem fvl_uJ {v : Int64} (h : y.1[k]? = some (.long, t)) (i : Nat) : fvl y j p (uJ s k v) i = if i = k then .long v else fvl y j p s i := by
  by_cases e : i = k
  · subst e; simp only [fvl, h, if_true, sJ_uJ]
  · simp only [fvl, e, if_false, sI_uJ, sJ_uJ]
theorem wr_I {v : Int32} (h : y.1[k]? = some (ty, t)) (hl : ty ≠ .long) (ha : ∀ e, ty ≠ .array e) : wr (put y j H p s) p k (.int v) = put y j H p (uI s k v) := by
  refine put_wr (t := 0) (Nat.zero_le _) fun t' => ?_
  cases t' with
  | zero => simp only [blk, if_true]; exact congrArg (fun f => (_, _, _, f)) (funext fun i => fvl_uI h hl ha i)
  | succ t' => simp [blk, sA_uI, sB_uI]
theorem wr_J {v : Int64} (h : y.1[k]? = some (.long, t)) : wr (put y j H p s) p k (.long v) = put y j H p (uJ s k v) := by
  refine put_wr (t := 0) (Nat.zero_le _) fun t' => ?_
  cases t' with
  | zero => simp only [blk, if_true]; exact congrArg (fun f => (_, _, _, f)) (funext fun i => fvl_uJ h i)
  | succ t' => simp [blk, sA_uJ, sB_uJ]
theorem wr_A {v : Int32} {q : Nat} (h : y.2[t]? = some (ty, n)) (hl : ty ≠ .long) (ht : t + 1 ≤ j) : wr (put y j H p s) (p + (t + 1)) q (.int v) = put y j H p (uA s (t + 1) q v) := by
  refine put_wr ht fun t' => ?_
  by_cases e : t' = t + 1
  · subst e
    simp only [blk_I h hl, if_true, sA_uA, true_and]
    exact congrArg (fun f => (_, _, _, f)) (funext fun i => by split <;> rfl)
  · simp only [e, if_false]
    cases t' with
    | zero => rfl
    | succ t' => have : ¬ t' = t := fun q => e (by rw [q]); simp [blk, sA_uA, sB_uA, this]
theorem mkO_put {P : Prog} (hn : P.2.2.2 = y.1.length) (hf : ∀ k, defaultValue (P.2.2.1 k) = fvl y 0 H.1 z0 k) : mkO P H = put y 0 (H.1 + 1, H.2) H.1 z0 := by
  refine Prod.ext rfl (funext fun a => ?_)
  by_cases e : a = H.1
  · subst e; simp only [mkO, if_true, put_0, hn]; exact congrArg (fun f => (_, _, _, f)) (funext fun k => hf k)
  · have : ¬ (H.1 ≤ a ∧ a ≤ H.1 + 0) := by omega
    simp only [mkO, put, e, if_false, if_neg this]
theorem mkA_put {h : Nat → Cel} (h1 : y.1[k]? = some (.array ty, j + 1)) (h2 : y.2[j]? = some (ty, n)) (hu : (List.range y.1.length).all (fun k' => decide (k' = k) || ((y.1.getD k' (.int, 0)).2 != j + 1)) = true) (hz : ∀ i, sA s (j + 1) i = 0) (hz' : ∀ i, sB s (j + 1) i = 0) (hty : ty = .int ∨ ty = .long ∨ ty = .byte ∨ ty = .boolean) :
    wr (mkA ty n (put y j (p + (j + 1), h) p s)) p k (.ref (p + (j + 1))) = put y (j + 1) (p + (j + 1) + 1, h) p s := by
  refine Prod.ext rfl (funext fun a => ?_)
  have hp : ¬ p = p + (j + 1) := by omega
  have hN : (put y j (p + (j + 1), h) p s).1 = p + (j + 1) := rfl
  by_cases e : a = p
  · subst e
    simp only [wr, mkA, hN, if_true, hp, if_false, put_0]
    refine congrArg (fun f => (_, _, _, f)) (funext fun i => ?_)
    by_cases e2 : i = k
    · subst e2; simp [fvl, h1]
    · simp only [e2, if_false, fvl]
      cases hq : y.1[i]? with
      | none => rfl
      | some x =>
        obtain ⟨x1, x2⟩ := x
        cases x1 <;> try rfl
        rename_i el
        have : x2 ≠ j + 1 := fun q => by
          have hlt : i < y.1.length := (List.getElem?_eq_some_iff.mp hq).1
          have u := List.all_eq_true.mp hu i (List.mem_range.mpr hlt)
          simp [e2, hq, q] at u
        have : (x2 ≤ j + 1) = (x2 ≤ j) := propext ⟨fun _ => by omega, fun _ => by omega⟩
        simp [this]
  · simp only [wr, mkA, hN, e, if_false]
    by_cases e2 : a = p + (j + 1)
    · subst e2
      simp only [if_true, put_t (Nat.le_refl (j + 1))]
      rcases hty with rfl | rfl | rfl | rfl
      · simp only [blk, h2, hz]; rfl
      · simp only [blk, h2, hz']; rfl
      · simp only [blk, h2, hz]; rfl
      · simp only [blk, h2, hz]; rfl
    · simp only [e2, if_false, put]
      by_cases g : p ≤ a ∧ a ≤ p + j
      · have g2 : p ≤ a ∧ a ≤ p + (j + 1) := by omega
        simp only [g, g2, and_self, if_true]
        obtain ⟨t, ht⟩ : ∃ t, a - p = t + 1 := ⟨a - p - 1, by omega⟩
        rw [ht]; rfl
      · have g2 : ¬ (p ≤ a ∧ a ≤ p + (j + 1)) := by omega
        simp only [g, g2, if_false]
theorem isOw_mk {h : Nat → Cel} {c : Nat} : isOw (mkA ty n (put y j (p + (c + 1), h) p s)) p = true := by
  have : ¬ p = p + (c + 1) := by omega
  have hN : (put y j (p + (c + 1), h) p s).1 = p + (c + 1) := rfl
  simp [isOw, isO, mkA, hN, this, put_0]
theorem put_fst : (put y j H p s).1 = H.1 := by simp [put]
theorem cl_unf {P : Prog} {m : Nat} {a : List Value} {L : List Slot} {Q : Option Value → AH → Prop} (h : ent P m a = L) : Cl P m a H Q ↔ W P m 0 L [] 0 0 H Q := by unfold Cl; rw [h]
theorem inA_ot {a : Nat} (h : a < p ∨ p + j < a) : inA (put y j H p s) a ty i = inA H a ty i := by simp only [inA, put_ot h]
theorem isA_ot {a : Nat} (h : a < p ∨ p + j < a) : isA (put y j H p s) a = isA H a := by simp only [isA, put_ot h]
theorem elt_ot {a : Nat} (h : a < p ∨ p + j < a) : elt (put y j H p s) a i = elt H a i := by simp only [elt, put_ot h]
theorem alen_ot {a : Nat} (h : a < p ∨ p + j < a) : alen (put y j H p s) a = alen H a := by simp only [alen, put_ot h]
end Put
def noc : Cel := (.char, 0, false, fun _ => .null)
def H1 (n a len : Nat) (f : Nat → Int32) : AH := (n, fun b => if b = a then (.array .int, len, false, fun i => .int (f i)) else noc)
theorem isA_H1 {n a len : Nat} {f : Nat → Int32} : isA (H1 n a len f) a = true := by simp [isA, H1]
theorem alen_H1 {n a len : Nat} {f : Nat → Int32} : alen (H1 n a len f) a = len := by simp [alen, H1]
theorem inA_H1 {n a len : Nat} {f : Nat → Int32} {i : Int32} : inA (H1 n a len f) a .int i = true ↔ (0 ≤ i.toInt ∧ i.toInt < len) := by rw [← clamp_lt]; simp [inA, H1]
theorem elt_H1 {n a len : Nat} {f : Nat → Int32} {i : Int32} : elt (H1 n a len f) a i = .int (f i.toNatClampNeg) := by simp [elt, H1]
def cl (lo hi v : Int32) : Int32 := if v < lo then lo else if hi < v then hi else v
theorem cl3 {lo hi : Int32} (v : Int32) (h : ¬ hi < lo) : (v < lo ∧ ¬ hi < v) ∨ (¬ v < lo ∧ hi < v) ∨ (¬ v < lo ∧ ¬ hi < v) := by
  by_cases h1 : v < lo
  · exact Or.inl ⟨h1, fun h2 => h (by rw [Int32.lt_iff_toInt_lt] at *; omega)⟩
  · by_cases h2 : hi < v
    · exact Or.inr (Or.inl ⟨h1, h2⟩)
    · exact Or.inr (Or.inr ⟨h1, h2⟩)
section Okv
variable {x : Int32} {l : Int64} {a : Nat} {t : FieldType}
theorem okv_int : (okv .int (.int x) = true) = True := by simp [okv]
theorem okv_long : (okv .long (.long l) = true) = True := by simp [okv]
theorem okv_ref : (okv (.array t) (.ref a) = true) = True := by simp [okv]
end Okv
end Jvm.JX

namespace Jvm.JX
open Sem ClassFile Op Lib
section Num
theorem ia {x y : Int32} (h1 : -2147483648 ≤ x.toInt + y.toInt) (h2 : x.toInt + y.toInt ≤ 2147483647) : (x + y).toInt = x.toInt + y.toInt := by
  rw [Int32.toInt_add]; exact Int.bmod_eq_of_le (by omega) (by omega)
theorem isb {x y : Int32} (h1 : -2147483648 ≤ x.toInt - y.toInt) (h2 : x.toInt - y.toInt ≤ 2147483647) : (x - y).toInt = x.toInt - y.toInt := by
  rw [Int32.toInt_sub]; exact Int.bmod_eq_of_le (by omega) (by omega)
theorem im {x y : Int32} (h1 : -2147483648 ≤ x.toInt * y.toInt) (h2 : x.toInt * y.toInt ≤ 2147483647) : (x * y).toInt = x.toInt * y.toInt := by
  rw [Int32.toInt_mul]; exact Int.bmod_eq_of_le (by omega) (by omega)
theorem lt32 {x y : Int32} : x < y ↔ x.toInt < y.toInt := Int32.lt_iff_toInt_lt
theorem eq32 {x y : Int32} : x = y ↔ x.toInt = y.toInt := Int32.toInt_inj.symm
theorem rg32 (x : Int32) : -2147483648 ≤ x.toInt ∧ x.toInt ≤ 2147483647 := ⟨Int32.le_toInt x, by have := Int32.toInt_lt x; omega⟩
theorem cln {i : Int32} : i.toNatClampNeg = i.toInt.toNat := rfl
theorem cl_rg {lo hi : Int32} (v : Int32) (h : lo.toInt ≤ hi.toInt) : lo.toInt ≤ (cl lo hi v).toInt ∧ (cl lo hi v).toInt ≤ hi.toInt := by
  unfold cl
  by_cases h1 : v < lo
  · rw [if_pos h1]; omega
  · rw [if_neg h1]
    by_cases h2 : hi < v
    · rw [if_pos h2]; omega
    · rw [if_neg h2]; rw [lt32] at h1 h2; omega
end Num
section Fill
def fA (s : St) (t lo hi : Nat) (v : Int32) : St := (s.1, s.2.1, fun t' i => if t' = t ∧ lo ≤ i ∧ i < hi then v else s.2.2.1 t' i, s.2.2.2)
variable {s : St} {t lo hi k i t' : Nat} {v : Int32}
theorem sI_fA : sI (fA s t lo hi v) k = sI s k := by simp [sI, fA]
theorem sJ_fA : sJ (fA s t lo hi v) k = sJ s k := by simp [sJ, fA]
theorem sA_fA : sA (fA s t lo hi v) t' i = if t' = t ∧ lo ≤ i ∧ i < hi then v else sA s t' i := by simp [sA, fA]
theorem sB_fA : sB (fA s t lo hi v) t' i = sB s t' i := by simp [sB, fA]
theorem fA_nil (h : hi ≤ lo) : fA s t lo hi v = s := by
  refine St_ext (fun k => sI_fA) (fun k => sJ_fA) (fun t' i => ?_) (fun t' i => sB_fA)
  rw [sA_fA, if_neg (by omega)]
theorem fA_step (h : lo < hi) : fA (uA s t lo v) t (lo + 1) hi v = fA s t lo hi v := by
  refine St_ext (fun k => by simp only [sI_fA, sI_uA]) (fun k => by simp only [sJ_fA, sJ_uA]) (fun t' i => ?_) (fun t' i => by simp only [sB_fA, sB_uA])
  simp only [sA_fA, sA_uA]
  by_cases h1 : t' = t ∧ lo + 1 ≤ i ∧ i < hi
  · rw [if_pos h1, if_pos (by omega)]
  · rw [if_neg h1]
    by_cases h2 : t' = t ∧ i = lo
    · rw [if_pos h2, if_pos (by omega)]
    · rw [if_neg h2, if_neg (by omega)]
end Fill
section Cnt
def cnt (f : Nat → Bool) : Nat → Nat → Nat
  | _, 0 => 0
  | j, k + 1 => (if f j = true then 1 else 0) + cnt f (j + 1) k
theorem cnt_none {f : Nat → Bool} : ∀ (k j : Nat), (∀ i, j ≤ i → i < j + k → f i = false) → cnt f j k = 0
  | 0, _, _ => rfl
  | k + 1, j, h => by
    have h1 := h j (Nat.le_refl _) (by omega)
    simp only [cnt, h1]
    rw [cnt_none k (j + 1) fun i a b => h i (by omega) (by omega)]; rfl
theorem cnt_le {f : Nat → Bool} : ∀ (k j : Nat), cnt f j k ≤ k
  | 0, _ => Nat.le_refl _
  | k + 1, j => by have := cnt_le (f := f) k (j + 1); simp only [cnt]; split <;> omega
theorem cnt_congr {f g : Nat → Bool} : ∀ (k j : Nat), (∀ i, j ≤ i → i < j + k → f i = g i) → cnt f j k = cnt g j k
  | 0, _, _ => rfl
  | k + 1, j, h => by simp only [cnt]; rw [h j (Nat.le_refl _) (by omega), cnt_congr k (j + 1) fun i a b => h i (by omega) (by omega)]
end Cnt
section Ite
variable {P : Prog} {m pc : Nat} {L : List Slot} {S : List Value} {k n : Nat} {H : AH} {Q : Option Value → AH → Prop} {c : Prop} [Decidable c]
end Ite
end Jvm.JX

namespace Jvm.JX
open Sem ClassFile Op Lib
section Forget
variable {P : Prog} {m pc len k n i : Nat} {aux : Int} {ins : Instr} {L L' M : List Slot} {S : List Value} {H : AH} {v : Value} {Q : Option Value → AH → Prop}
def lel (L L' : List Slot) : Prop := ∀ i : Nat, L[i]? = L'[i]? ∨ (L[i]? = some .unset ∧ ∃ o, L'[i]? = some o ∧ cat1 o = true)
theorem lel_refl : lel L L := fun _ => Or.inl rfl
theorem lel_cons {a : Slot} (h : lel L L') : lel (a :: L) (a :: L') := fun i => by cases i with
  | zero => exact Or.inl rfl
  | succ i => simpa using h i
theorem lel_un {o : Slot} (ho : cat1 o = true) (h : lel L L') : lel (.unset :: L) (o :: L') := fun i => by cases i with
  | zero => exact Or.inr ⟨rfl, o, rfl, ho⟩
  | succ i => simpa using h i
theorem lel_len (h : lel L L') : L.length = L'.length := by
  rcases Nat.lt_trichotomy L.length L'.length with g | g | g
  · have h1 : L[L.length]? = none := List.getElem?_eq_none (Nat.le_refl _)
    rcases h L.length with e | ⟨e, -⟩
    · rw [h1] at e; have := List.getElem?_eq_none_iff.mp e.symm; omega
    · rw [h1] at e; cases e
  · exact g
  · have h1 : L'[L'.length]? = none := List.getElem?_eq_none (Nat.le_refl _)
    rcases h L'.length with e | ⟨-, o, e, -⟩
    · rw [h1] at e; have := List.getElem?_eq_none_iff.mp e; omega
    · rw [h1] at e; cases e
theorem lel_set {a : Slot} (h : lel L L') : lel (L.set i a) (L'.set i a) := fun j => by
  rw [List.getElem?_set, List.getElem?_set, lel_len h]
  by_cases e : i = j
  · rw [if_pos e, if_pos e]; exact Or.inl rfl
  · rw [if_neg e, if_neg e]; exact h j
theorem ldI_le (h : lel L L') (e : ldI L i = some v) : ldI L' i = some v := by
  unfold ldI at *; rcases h i with g | ⟨g, -⟩
  · rw [← g]; exact e
  · rw [g] at e; cases e
theorem ldJ_le (h : lel L L') (e : ldJ L i = some v) : ldJ L' i = some v := by
  unfold ldJ at *; rcases h i with g | ⟨g, -⟩
  · rw [← g]; exact e
  · rw [g] at e; cases e
theorem ldR_le (h : lel L L') (e : ldR L i = some v) : ldR L' i = some v := by
  unfold ldR at *; rcases h i with g | ⟨g, -⟩
  · rw [← g]; exact e
  · rw [g] at e; cases e
theorem stl_le (h : lel L L') (e : stl L i v = some M) : ∃ M', stl L' i v = some M' ∧ lel M M' := by
  unfold stl at *
  rcases h i with g | ⟨g, o, g', ho⟩
  · rw [← g, ← lel_len h]
    revert e; generalize L[i]? = x; intro e
    match x, e with
    | some .unset, e => cases e; exact ⟨_, rfl, lel_set h⟩
    | some (.val w), e =>
      simp only at e ⊢
      by_cases c : w.category = 1
      · simp only [c, if_true] at e ⊢; cases e; exact ⟨_, rfl, lel_set h⟩
      · simp only [c, if_false] at e ⊢
        by_cases d : i + 1 < L.length
        · simp only [d, if_true] at e ⊢; cases e; exact ⟨_, rfl, lel_set (lel_set h)⟩
        · simp only [d, if_false] at e; cases e
    | some .second, e =>
      simp only at e ⊢
      by_cases d : 1 ≤ i
      · simp only [d, if_true] at e ⊢; cases e; exact ⟨_, rfl, lel_set (lel_set h)⟩
      · simp only [d, if_false] at e; cases e
    | none, e => cases e
  · rw [g] at e; cases e; rw [g']
    match o, ho with
    | .unset, _ => exact ⟨_, rfl, lel_set h⟩
    | .val w, ho =>
      have c : w.category = 1 := by simpa [cat1] using ho
      simp only [c, if_true]; exact ⟨_, rfl, lel_set h⟩
theorem stL_le (h : lel L L') (e : stL L i v = some M) : ∃ M', stL L' i v = some M' ∧ lel M M' := by
  have key : ∀ o2, L[i + 1]? = some o2 → ∃ o3, L'[i + 1]? = some o3 ∧ (cat1 o2 = true → cat1 o3 = true) ∧ (cat1 o2 = false → o3 = o2) := by
    intro o2 e2
    rcases h (i + 1) with g | ⟨g, o, g', ho⟩
    · exact ⟨o2, by rw [← g]; exact e2, id, fun _ => rfl⟩
    · exact ⟨o, g', fun _ => ho, fun z => by rw [e2] at g; cases g; cases z⟩
  unfold stL at *
  have hs : lel ((L.set i (.val v)).set (i + 1) .second) ((L'.set i (.val v)).set (i + 1) .second) := lel_set (lel_set h)
  have hs3 : lel (((L.set i (.val v)).set (i + 2) .unset).set (i + 1) .second) (((L'.set i (.val v)).set (i + 2) .unset).set (i + 1) .second) := lel_set (lel_set (lel_set h))
  cases e2 : L[i + 1]? with
  | none => rw [e2] at e; revert e; cases L[i]? with
    | none => intro e; cases e
    | some o => intro e; cases o <;> cases e
  | some o2 =>
    obtain ⟨o3, g3, c3, c4⟩ := key o2 e2
    rw [e2] at e; rw [g3, ← lel_len h]
    rcases h i with g | ⟨g, o, g', ho⟩
    · rw [← g]
      revert e; generalize L[i]? = x; intro e
      match x, e with
      | some .unset, e =>
        simp only at e ⊢
        by_cases c : cat1 o2 = true
        · simp only [c, if_true] at e; cases e; simp only [c3 c, if_true]; exact ⟨_, rfl, hs⟩
        · rw [if_neg c] at e
          have c' : cat1 o2 = false := by simpa using c
          rw [c4 c', if_neg c]
          by_cases l3 : lng o2 = true ∧ i + 2 < L.length
          · rw [if_pos l3] at e; cases e; rw [if_pos l3]; exact ⟨_, rfl, hs3⟩
          · rw [if_neg l3] at e; cases e
      | some (.val w), e =>
        simp only at e ⊢
        by_cases d : w.category = 2
        · simp only [d, if_true] at e ⊢; cases e; exact ⟨_, rfl, hs⟩
        · rw [if_neg d] at e ⊢
          by_cases c : cat1 o2 = true
          · simp only [c, if_true] at e; cases e; simp only [c3 c, if_true]; exact ⟨_, rfl, hs⟩
          · rw [if_neg c] at e
            have c' : cat1 o2 = false := by simpa using c
            rw [c4 c', if_neg c]
            by_cases l3 : lng o2 = true ∧ i + 2 < L.length
            · rw [if_pos l3] at e; cases e; rw [if_pos l3]; exact ⟨_, rfl, hs3⟩
            · rw [if_neg l3] at e; cases e
      | some .second, e =>
        simp only at e ⊢
        by_cases d : 1 ≤ i
        · rw [if_pos d] at e ⊢
          by_cases c : cat1 o2 = true
          · rw [if_pos c] at e; cases e; rw [if_pos (c3 c)]; exact ⟨_, rfl, lel_set (lel_set (lel_set h))⟩
          · rw [if_neg c] at e
            have c' : cat1 o2 = false := by simpa using c
            rw [c4 c', if_neg c]
            by_cases l3 : lng o2 = true ∧ i + 2 < L.length
            · rw [if_pos l3] at e; cases e; rw [if_pos l3]; exact ⟨_, rfl, lel_set (lel_set (lel_set (lel_set h)))⟩
            · rw [if_neg l3] at e; cases e
        · rw [if_neg d] at e; cases e
      | none, e => cases e
    · rw [g] at e; rw [g']
      simp only at e
      by_cases c : cat1 o2 = true
      · simp only [c, if_true] at e; cases e
        match o, ho with
        | .unset, _ => simp only [c3 c, if_true]; exact ⟨_, rfl, hs⟩
        | .val w, ho =>
          by_cases d : w.category = 2
          · simp only [d, if_true]; exact ⟨_, rfl, hs⟩
          · simp only [d, if_false, c3 c, if_true]; exact ⟨_, rfl, hs⟩
      · rw [if_neg c] at e
        have c' : cat1 o2 = false := by simpa using c
        rw [c4 c']
        by_cases l3 : lng o2 = true ∧ i + 2 < L.length
        · rw [if_pos l3] at e; cases e
          match o, ho with
          | .unset, _ => simp only [if_neg c, if_pos l3]; exact ⟨_, rfl, hs3⟩
          | .val w, ho =>
            have d : ¬ w.category = 2 := by simp only [cat1, beq_iff_eq] at ho; omega
            simp only [if_neg d, if_neg c, if_pos l3]; exact ⟨_, rfl, hs3⟩
        · rw [if_neg l3] at e; cases e
def loc : Instr → Bool
  | .iload _ | .iload_n _ | .lload _ | .lload_n _ | .aload _ | .aload_n _ | .istore _ | .istore_n _ | .astore _ | .astore_n _ | .lstore _ | .lstore_n _ | .iinc _ _ => true
  | _ => false
theorem stp_fr {q : Fm} (hl : loc ins = false) (e : stp P m ins len aux pc L S k n H = some q) : q.2.1 = L ∧ stp P m ins len aux pc L' S k n H = some (q.1, L', q.2.2) := by
  cases ins <;> first
    | (cases hl; done)
    | (simp only [stp] at e ⊢; cases e; done)
    | (simp only [stp] at e ⊢; cases e; exact ⟨rfl, rfl⟩)
    | (simp only [stp, Option.map_eq_some_iff] at e ⊢; (repeat' split at e) <;> first
        | (cases e; done)
        | (cases e; exact ⟨rfl, rfl⟩)
        | (obtain ⟨w, h1, h2⟩ := e; subst h2; exact ⟨rfl, w, h1, rfl⟩)
        | (simp_all; done)
        | (simp_all; subst e; simp; done)
        | (simp_all; obtain ⟨e1, e2, e3⟩ := e; subst e3; simp_all; done)
        | (simp only [Option.bind_eq_some_iff, Option.map_eq_some_iff] at e; obtain ⟨w, h1, u, h2, h3⟩ := e; subst h3; simp_all; done)
        | (simp only [Option.bind_eq_some_iff, Option.map_eq_some_iff] at e; obtain ⟨w, h1, u, h2, h3⟩ := e; subst h3; simp_all; omega))
theorem stp_le {q : Fm} (h : lel L L') (e : stp P m ins len aux pc L S k n H = some q) : ∃ M, stp P m ins len aux pc L' S k n H = some (q.1, M, q.2.2) ∧ lel q.2.1 M := by
  cases hl : loc ins with
  | false =>
    obtain ⟨h1, h2⟩ := stp_fr (L' := L') hl e
    exact ⟨L', h2, by rw [h1]; exact h⟩
  | true =>
    cases ins <;> first
      | (cases hl; done)
      | (simp only [stp, Option.map_eq_some_iff] at e ⊢; obtain ⟨w, h1, h2⟩ := e; subst h2; first
          | exact ⟨L', ⟨w, ldI_le h h1, rfl⟩, h⟩
          | exact ⟨L', ⟨w, ldJ_le h h1, rfl⟩, h⟩
          | exact ⟨L', ⟨w, ldR_le h h1, rfl⟩, h⟩)
      | (simp only [stp] at e ⊢; split at e
         · simp only [Option.map_eq_some_iff] at e ⊢
           obtain ⟨w, h1, h2⟩ := e; subst h2
           first
            | (obtain ⟨M, g1, g2⟩ := stl_le h h1; exact ⟨M, ⟨M, g1, rfl⟩, g2⟩)
            | (obtain ⟨M, g1, g2⟩ := stL_le h h1; exact ⟨M, ⟨M, g1, rfl⟩, g2⟩)
         · cases e)
      | (simp only [stp] at e ⊢; rename_i i c; rcases h i with g | ⟨g, -⟩
         · rw [← g]; revert e; generalize L[i]? = x; intro e
           split at e
           · cases e; exact ⟨_, rfl, lel_set h⟩
           · cases e
         · rw [g] at e; cases e)
theorem run_fg : ∀ (f m pc : Nat) (L L' : List Slot) (S : List Value) (k n : Nat) (H : AH) (r : Option Value × AH), lel L L' → run P f m pc L S k n H = some r → run P f m pc L' S k n H = some r
  | 0, _, _, _, _, _, _, _, _, _, _, e => by cases e
  | f + 1, m, pc, L, L', S, k, n, H, r, h, e => by
    unfold run at e ⊢
    cases hd : P.1 m pc with
    | none => rw [hd] at e; cases e
    | some d =>
      rw [hd] at e; simp only at e ⊢
      cases hr : ret P m d.1 S with
      | some v => rw [hr] at e; exact e
      | none =>
        rw [hr] at e; simp only at e ⊢
        cases hc : cal P m d.1 d.2.2 S k n H with
        | some c =>
          rw [hc] at e; simp only at e ⊢
          cases hx : run P f c.1 0 (ent P c.1 c.2.1) [] 0 0 H with
          | none => rw [hx] at e; cases e
          | some y => rw [hx] at e; simp only at e ⊢; exact run_fg f _ _ _ _ _ _ _ _ _ h e
        | none =>
          rw [hc] at e; simp only at e ⊢
          cases hs : stp P m d.1 d.2.1 d.2.2 pc L S k n H with
          | none => rw [hs] at e; cases e
          | some q =>
            rw [hs] at e; simp only at e
            obtain ⟨M, g1, g2⟩ := stp_le h hs
            rw [g1]; exact run_fg f _ _ _ _ _ _ _ _ _ g2 e
theorem W_fg (h : lel L L') (w : W P m pc L S k n H Q) : W P m pc L' S k n H Q := by
  obtain ⟨f, v, H', e, q⟩ := w
  exact ⟨f, v, H', run_fg f m pc L L' S k n H _ h e, q⟩
end Forget
section ForgetL
variable {P : Prog} {m pc len k n i j : Nat} {aux : Int} {ins : Instr} {L M N : List Slot} {S : List Value} {H : AH} {v : Value} {a : Slot} {Q : Option Value → AH → Prop}
def ff (j : Nat) (M : List Slot) : List Slot := (M.set j .unset).set (j + 1) .unset
def Gl (j : Nat) (M : List Slot) : Prop := (∃ w : Value, M[j]? = some (.val w) ∧ w.category = 2) ∧ M[j + 1]? = some .second ∧ (∀ i o, i + 1 = j → M[i]? = some o → lng o = false) ∧ M[j + 2]? ≠ some .second
def lfr (j : Nat) (L M : List Slot) : Prop := L = M ∨ (L = ff j M ∧ Gl j M)
theorem ff_set (h1 : i ≠ j) (h2 : i ≠ j + 1) : (ff j M).set i a = ff j (M.set i a) := by
  unfold ff; rw [List.set_comm _ _ (Ne.symm h2), List.set_comm _ _ (Ne.symm h1)]
theorem ff_get (h1 : i ≠ j) (h2 : i ≠ j + 1) : (ff j M)[i]? = M[i]? := by
  unfold ff; rw [List.getElem?_set_ne (Ne.symm h2), List.getElem?_set_ne (Ne.symm h1)]
theorem ff_len : (ff j M).length = M.length := by simp [ff]
theorem Gl_set (h : Gl j M) (h1 : i ≠ j) (h2 : i ≠ j + 1) (h3 : i + 1 = j → lng a = false) (h4 : i = j + 2 → a ≠ .second) : Gl j (M.set i a) := by
  obtain ⟨⟨w, g1, g2⟩, g3, g4, g5⟩ := h
  refine ⟨⟨w, ?_, g2⟩, ?_, ?_, ?_⟩
  · rw [List.getElem?_set_ne h1]; exact g1
  · rw [List.getElem?_set_ne h2]; exact g3
  · intro i' o e h
    by_cases c : i = i'
    · subst c
      rw [List.getElem?_set] at h
      simp only [if_true] at h
      split at h
      · cases h; exact h3 e
      · cases h
    · rw [List.getElem?_set_ne c] at h; exact g4 i' o e h
  · by_cases c : i = j + 2
    · rw [List.getElem?_set]; simp only [c, if_true]
      split
      · intro e; cases e; exact h4 c rfl
      · intro e; cases e
    · rw [List.getElem?_set_ne c]; exact g5
theorem Gl_lt (h : Gl j M) : j + 1 < M.length := (List.getElem?_eq_some_iff.mp h.2.1).1
theorem ff_j (h : Gl j M) : (ff j M)[j]? = some .unset ∧ (ff j M)[j + 1]? = some .unset := by
  have := Gl_lt h
  unfold ff; constructor
  · rw [List.getElem?_set_ne (by omega), List.getElem?_set]; simp only [if_true]; rw [if_pos (by omega)]
  · rw [List.getElem?_set]; simp only [if_true, List.length_set]; rw [if_pos (by omega)]
theorem ff_0 {b : Slot} : (ff j M).set j b = (M.set (j + 1) .unset).set j b := by
  unfold ff; rw [List.set_comm _ _ (by omega : j ≠ j + 1), List.set_set]
theorem ff_1 {b : Slot} : (ff j M).set (j + 1) b = (M.set j .unset).set (j + 1) b := by
  unfold ff; rw [List.set_set]
theorem stl_fr (hv : v.category = 1) (h : lfr j L M) (e : stl L i v = some N) : ∃ N', stl M i v = some N' ∧ lfr j N N' := by
  rcases h with rfl | ⟨rfl, h⟩
  · exact ⟨N, e, Or.inl rfl⟩
  have lv : lng (.val v) = false := by simp [lng, hv]
  obtain ⟨⟨w, g1, g2⟩, g3, g4, g5⟩ := id h
  have hl := Gl_lt h
  unfold stl at e ⊢
  by_cases c1 : i = j
  · subst c1
    rw [(ff_j h).1] at e; cases e
    rw [g1]; simp only [g2, hl, if_true]
    exact ⟨_, rfl, Or.inl ff_0⟩
  by_cases c2 : i = j + 1
  · subst c2
    rw [(ff_j h).2] at e; cases e
    rw [g3]; simp only [Nat.le_add_left, if_true]
    exact ⟨_, rfl, Or.inl ff_1⟩
  rw [ff_get c1 c2, ff_len] at e
  revert e; cases hx : M[i]? with
  | none => intro e; cases e
  | some o =>
    intro e
    have s1 : ∀ {M}, Gl j M → Gl j (M.set i (.val v)) := fun h => Gl_set h c1 c2 (fun _ => lv) (fun _ => by intro z; cases z)
    cases o with
    | unset => cases e; exact ⟨_, rfl, Or.inr ⟨ff_set c1 c2, s1 h⟩⟩
    | second =>
      simp only at e ⊢
      by_cases d : 1 ≤ i
      · rw [if_pos d] at e ⊢; cases e
        have c3 : i - 1 ≠ j := by omega
        have c4 : i - 1 ≠ j + 1 := by intro z; exact g5 (by rw [← hx]; congr 1; omega)
        exact ⟨_, rfl, Or.inr ⟨by rw [ff_set c3 c4, ff_set c1 c2], s1 (Gl_set h c3 c4 (fun _ => rfl) (fun _ => by intro z; cases z))⟩⟩
      · rw [if_neg d] at e; cases e
    | val x =>
      simp only at e ⊢
      by_cases d : x.category = 1
      · rw [if_pos d] at e ⊢; cases e; exact ⟨_, rfl, Or.inr ⟨ff_set c1 c2, s1 h⟩⟩
      · rw [if_neg d] at e ⊢
        by_cases d2 : i + 1 < M.length
        · rw [if_pos d2] at e ⊢; cases e
          have d3 : x.category = 2 := by cases x <;> simp [Value.category] at d ⊢
          have c3 : i + 1 ≠ j := by intro z; have := g4 i _ z hx; simp [lng, d3] at this
          exact ⟨_, rfl, Or.inr ⟨by rw [ff_set c3 (by omega), ff_set c1 c2], s1 (Gl_set h c3 (by omega) (fun _ => rfl) (fun _ => by intro z; cases z))⟩⟩
        · rw [if_neg d2] at e; cases e
theorem stL_fr (h : lfr j L M) (e : stL L i v = some N) : ∃ N', stL M i v = some N' ∧ lfr j N N' := by
  rcases h with rfl | ⟨rfl, h⟩
  · exact ⟨N, e, Or.inl rfl⟩
  obtain ⟨⟨w, g1, g2⟩, g3, g4, g5⟩ := id h
  have hl := Gl_lt h
  unfold stL at e ⊢
  by_cases c1 : i = j
  · subst c1
    rw [(ff_j h).1, (ff_j h).2] at e; simp only [cat1, if_true] at e; cases e
    rw [g1, g3]; simp only [g2, if_true]
    exact ⟨_, rfl, Or.inl (by rw [ff_0, List.set_comm _ _ (by omega : i + 1 ≠ i), List.set_set])⟩
  by_cases c2 : i = j + 1
  · subst c2
    rw [(ff_j h).2, ff_get (i := j + 1 + 1) (by omega) (by omega), ff_len, ff_1] at e
    rw [g3]
    revert e; cases hy : M[j + 1 + 1]? with
    | none => intro e; cases e
    | some o2 =>
      intro e; simp only [Nat.le_add_left, if_true, Nat.add_sub_cancel] at e ⊢
      exact ⟨N, e, Or.inl rfl⟩
  by_cases c3 : i + 1 = j
  · subst c3
    rw [ff_get c1 c2, (ff_j h).1] at e
    rw [g1]
    have w1 : ¬ cat1 (.val w) = true := by simp [cat1, g2]
    have w2 : lng (.val w) = true ∧ i + 2 < M.length := ⟨by simp [lng, g2], hl⟩
    have en : ∀ b : Slot, ((ff (i + 1) M).set i b).set (i + 1) .second = ((M.set i b).set (i + 2) .unset).set (i + 1) .second := fun b => by
      rw [ff_set (by omega) (by omega), ff_0]
    revert e; cases hx : M[i]? with
    | none => intro e; cases e
    | some o =>
      intro e
      have lo := g4 i o rfl hx
      cases o with
      | unset => simp only [cat1, if_true] at e; cases e; simp only [if_neg w1, if_pos w2]; exact ⟨_, rfl, Or.inl (en _)⟩
      | val x =>
        have x2 : ¬ x.category = 2 := by simpa [lng] using lo
        simp only [cat1, if_true, if_neg x2] at e; cases e; simp only [if_neg w1, if_pos w2, if_neg x2]; exact ⟨_, rfl, Or.inl (en _)⟩
      | second =>
        simp only [cat1, if_true] at e
        by_cases d : 1 ≤ i
        · simp only [if_pos d, if_neg w1, if_pos w2] at e ⊢; cases e
          exact ⟨_, rfl, Or.inl (by rw [ff_set (by omega) (by omega), ff_set (by omega) (by omega), ff_0])⟩
        · rw [if_neg d] at e; cases e
  rw [ff_get c1 c2, ff_get (i := i + 1) c3 (by omega), ff_len] at e
  revert e; cases hx : M[i]? with
  | none => intro e; cases e
  | some o =>
    cases hy : M[i + 1]? with
    | none => intro e; cases o <;> cases e
    | some o2 =>
      intro e
      have s1 : ∀ {M}, Gl j M → Gl j (M.set i (.val v)) := fun h => Gl_set h c1 c2 (fun z => absurd z c3) (fun _ => by intro z; cases z)
      have s2 : ∀ {M}, Gl j M → Gl j (M.set (i + 1) .second) := fun h => Gl_set h c3 (by omega) (fun _ => rfl) (fun z => absurd z (by omega))
      have f1 : ∀ {M : List Slot}, (ff j M).set i (.val v) = ff j (M.set i (.val v)) := ff_set c1 c2
      have f2 : ∀ {M : List Slot}, (ff j M).set (i + 1) .second = ff j (M.set (i + 1) .second) := ff_set c3 (by omega)
      have t3 : lng o2 = true → i + 2 ≠ j := fun l z => by have := g4 (i + 1) o2 (by omega) hy; rw [l] at this; cases this
      have s3 : lng o2 = true → ∀ {M}, Gl j M → Gl j (M.set (i + 2) .unset) := fun l _ h => Gl_set h (t3 l) (by omega) (fun _ => rfl) (fun _ => by intro z; cases z)
      have f3 : lng o2 = true → ∀ {M : List Slot}, (ff j M).set (i + 2) .unset = ff j (M.set (i + 2) .unset) := fun l _ => ff_set (t3 l) (by omega)
      cases o with
      | unset =>
        simp only at e ⊢
        by_cases c : cat1 o2 = true
        · rw [if_pos c] at e ⊢; cases e; exact ⟨_, rfl, Or.inr ⟨by rw [f1, f2], s2 (s1 h)⟩⟩
        · rw [if_neg c] at e ⊢
          by_cases l : lng o2 = true ∧ i + 2 < M.length
          · rw [if_pos l] at e ⊢; cases e; exact ⟨_, rfl, Or.inr ⟨by rw [f1, f3 l.1, f2], s2 (s3 l.1 (s1 h))⟩⟩
          · rw [if_neg l] at e; cases e
      | val x =>
        simp only at e ⊢
        by_cases d : x.category = 2
        · rw [if_pos d] at e ⊢; cases e; exact ⟨_, rfl, Or.inr ⟨by rw [f1, f2], s2 (s1 h)⟩⟩
        rw [if_neg d] at e ⊢
        by_cases c : cat1 o2 = true
        · rw [if_pos c] at e ⊢; cases e; exact ⟨_, rfl, Or.inr ⟨by rw [f1, f2], s2 (s1 h)⟩⟩
        · rw [if_neg c] at e ⊢
          by_cases l : lng o2 = true ∧ i + 2 < M.length
          · rw [if_pos l] at e ⊢; cases e; exact ⟨_, rfl, Or.inr ⟨by rw [f1, f3 l.1, f2], s2 (s3 l.1 (s1 h))⟩⟩
          · rw [if_neg l] at e; cases e
      | second =>
        simp only at e ⊢
        by_cases d : 1 ≤ i
        · rw [if_pos d] at e ⊢
          have t0 : i - 1 ≠ j := by omega
          have t1 : i - 1 ≠ j + 1 := by intro z; exact g5 (by rw [← hx]; congr 1; omega)
          have f0 : (ff j M).set (i - 1) .unset = ff j (M.set (i - 1) .unset) := ff_set t0 t1
          have s0 : Gl j (M.set (i - 1) .unset) := Gl_set h t0 t1 (fun _ => rfl) (fun _ => by intro z; cases z)
          by_cases c : cat1 o2 = true
          · rw [if_pos c] at e ⊢; cases e; exact ⟨_, rfl, Or.inr ⟨by rw [f0, f1, f2], s2 (s1 s0)⟩⟩
          · rw [if_neg c] at e ⊢
            by_cases l : lng o2 = true ∧ i + 2 < M.length
            · rw [if_pos l] at e ⊢; cases e; exact ⟨_, rfl, Or.inr ⟨by rw [f0, f1, f3 l.1, f2], s2 (s3 l.1 (s1 s0))⟩⟩
            · rw [if_neg l] at e; cases e
        · rw [if_neg d] at e; cases e
theorem get_fr {o : Slot} (h : lfr j L M) (e : L[i]? = some o) (ho : o ≠ .unset) : M[i]? = some o := by
  rcases h with rfl | ⟨rfl, h⟩
  · exact e
  by_cases c1 : i = j
  · subst c1; rw [(ff_j h).1] at e; cases e; exact absurd rfl ho
  by_cases c2 : i = j + 1
  · subst c2; rw [(ff_j h).2] at e; cases e; exact absurd rfl ho
  rw [ff_get c1 c2] at e; exact e
theorem ldI_fr (h : lfr j L M) (e : ldI L i = some v) : ldI M i = some v := by
  unfold ldI at *
  split at e
  · rename_i g; rw [get_fr h g (by intro z; cases z)]; exact e
  · cases e
theorem ldJ_fr (h : lfr j L M) (e : ldJ L i = some v) : ldJ M i = some v := by
  unfold ldJ at *
  split at e
  · rename_i g; rw [get_fr h g (by intro z; cases z)]; exact e
  · cases e
theorem ldR_fr (h : lfr j L M) (e : ldR L i = some v) : ldR M i = some v := by
  unfold ldR at *
  split at e
  · rename_i g; rw [get_fr h g (by intro z; cases z)]; exact e
  · cases e
theorem inc_fr {x : Int32} {b : Value} (hb : b.category = 1) (h : lfr j L M) (e : L[i]? = some (.val (.int x))) : lfr j (L.set i (.val b)) (M.set i (.val b)) := by
  have e' := get_fr h e (by intro z; cases z)
  rcases h with rfl | ⟨rfl, h⟩
  · exact Or.inl rfl
  have c1 : i ≠ j := by intro z; subst z; rw [(ff_j h).1] at e; cases e
  have c2 : i ≠ j + 1 := by intro z; subst z; rw [(ff_j h).2] at e; cases e
  exact Or.inr ⟨ff_set c1 c2, Gl_set h c1 c2 (fun _ => by simp [lng, hb]) (fun _ => by intro z; cases z)⟩
theorem stp_fl {q : Fm} (h : lfr j L M) (e : stp P m ins len aux pc L S k n H = some q) : ∃ M', stp P m ins len aux pc M S k n H = some (q.1, M', q.2.2) ∧ lfr j q.2.1 M' := by
  cases hl : loc ins with
  | false =>
    obtain ⟨h1, h2⟩ := stp_fr (L' := M) hl e
    exact ⟨M, h2, by rw [h1]; exact h⟩
  | true =>
    cases ins <;> first
      | (cases hl; done)
      | (simp only [stp, Option.map_eq_some_iff] at e ⊢; obtain ⟨w, h1, h2⟩ := e; subst h2; first
          | exact ⟨M, ⟨w, ldI_fr h h1, rfl⟩, h⟩
          | exact ⟨M, ⟨w, ldJ_fr h h1, rfl⟩, h⟩
          | exact ⟨M, ⟨w, ldR_fr h h1, rfl⟩, h⟩)
      | (simp only [stp] at e ⊢; split at e
         · simp only [Option.map_eq_some_iff] at e ⊢
           obtain ⟨w, h1, h2⟩ := e; subst h2
           first
            | (obtain ⟨M, g1, g2⟩ := stl_fr rfl h h1; exact ⟨M, ⟨M, g1, rfl⟩, g2⟩)
            | (obtain ⟨M, g1, g2⟩ := stL_fr h h1; exact ⟨M, ⟨M, g1, rfl⟩, g2⟩)
         · cases e)
      | (simp only [stp] at e ⊢; rename_i i c
         revert e; cases hx : L[i]? with
         | none => intro e; cases e
         | some o =>
           intro e
           split at e
           · rename_i x g; cases g
             rw [get_fr h hx (by intro z; cases z)]
             cases e; exact ⟨_, rfl, inc_fr rfl h hx⟩
           · cases e)
theorem run_fl : ∀ (f m pc : Nat) (L L' : List Slot) (S : List Value) (k n : Nat) (H : AH) (r : Option Value × AH), lfr j L L' → run P f m pc L S k n H = some r → run P f m pc L' S k n H = some r
  | 0, _, _, _, _, _, _, _, _, _, _, e => by cases e
  | f + 1, m, pc, L, L', S, k, n, H, r, h, e => by
    unfold run at e ⊢
    cases hd : P.1 m pc with
    | none => rw [hd] at e; cases e
    | some d =>
      rw [hd] at e; simp only at e ⊢
      cases hr : ret P m d.1 S with
      | some v => rw [hr] at e; exact e
      | none =>
        rw [hr] at e; simp only at e ⊢
        cases hc : cal P m d.1 d.2.2 S k n H with
        | some c =>
          rw [hc] at e; simp only at e ⊢
          cases hx : run P f c.1 0 (ent P c.1 c.2.1) [] 0 0 H with
          | none => rw [hx] at e; cases e
          | some y => rw [hx] at e; simp only at e ⊢; exact run_fl f _ _ _ _ _ _ _ _ _ h e
        | none =>
          rw [hc] at e; simp only at e ⊢
          cases hs : stp P m d.1 d.2.1 d.2.2 pc L S k n H with
          | none => rw [hs] at e; cases e
          | some q =>
            rw [hs] at e; simp only at e
            obtain ⟨M, g1, g2⟩ := stp_fl h hs
            rw [g1]; exact run_fl f _ _ _ _ _ _ _ _ _ g2 e
theorem W_fl (j : Nat) (h : Gl j L) (w : W P m pc (ff j L) S k n H Q) : W P m pc L S k n H Q := by
  obtain ⟨f, v, H', e, q⟩ := w
  exact ⟨f, v, H', run_fl f m pc _ L S k n H _ (Or.inr ⟨rfl, h⟩) e, q⟩
def wfb : List Slot → Bool
  | [] => true
  | .second :: _ => false
  | .unset :: L => wfb L
  | .val v :: L => if v.category = 2 then (match L with | .second :: L => wfb L | _ => false) else if v.category = 1 then wfb L else false
theorem lel_app : ∀ (A : List Slot) {C D : List Slot}, lel C D → lel (A ++ C) (A ++ D)
  | [], _, _, h => h
  | a :: A, _, _, h => lel_cons (lel_app A h)
theorem ff_app {A B : List Slot} {x y : Slot} : ff A.length (A ++ x :: y :: B) = A ++ .unset :: .unset :: B := by
  unfold ff
  rw [List.set_append_right _ _ (Nat.le_refl _), List.set_append_right _ _ (by omega)]
  simp
theorem wfb_hd {B : List Slot} (h : wfb B = true) : B[0]? ≠ some .second := by
  cases B with
  | nil => intro e; cases e
  | cons b B => intro e; cases b <;> cases e; cases h
theorem W_fB : ∀ (c : Nat) (A B : List Slot), B.length ≤ c → wfb B = true → (∀ i o, i + 1 = A.length → A[i]? = some o → lng o = false) → W P m pc (A ++ B.map fun _ => .unset) S k n H Q → W P m pc (A ++ B) S k n H Q
  | 0, A, B, hc, hw, ha, w => by
    have : B = [] := List.eq_nil_of_length_eq_zero (by omega)
    subst this; exact w
  | c + 1, A, [], hc, hw, ha, w => w
  | c + 1, A, .second :: B, hc, hw, ha, w => by cases hw
  | c + 1, A, .unset :: B, hc, hw, ha, w => by
    have := W_fB c (A ++ [.unset]) B (by simpa using hc) hw (fun i o e h => by
      rw [List.length_append, List.length_singleton] at e
      have : i = A.length := by omega
      subst this; rw [List.getElem?_concat_length] at h; cases h; rfl) (by simpa using w)
    simpa using this
  | c + 1, A, .val v :: B, hc, hw, ha, w => by
    by_cases d : v.category = 2
    · unfold wfb at hw; rw [if_pos d] at hw
      cases B with
      | nil => cases hw
      | cons b B =>
        cases b with
        | unset => cases hw
        | val u => cases hw
        | second =>
          simp only at hw
          refine W_fl A.length ⟨⟨v, by simp, d⟩, by simp, fun i o e h => ?_, ?_⟩ ?_
          · rw [List.getElem?_append_left (by omega)] at h; exact ha i o e h
          · have := wfb_hd hw
            rw [List.getElem?_append_right (by omega)]; simpa using this
          · rw [ff_app]
            have := W_fB c (A ++ [.unset, .unset]) B (by simp only [List.length_cons] at hc; omega) hw (fun i o e h => by
              rw [List.length_append] at e; simp only [List.length_cons, List.length_nil] at e
              have : i = A.length + 1 := by omega
              subst this; rw [List.getElem?_append_right (by omega)] at h; simp at h; subst h; rfl) (by simpa using w)
            simpa using this
    · have d1 : v.category = 1 := by cases v <;> simp [Value.category] at d ⊢
      unfold wfb at hw; rw [if_neg d, if_pos d1] at hw
      have := W_fB c (A ++ [.val v]) B (by simpa using hc) (by simpa using hw) (fun i o e h => by
        rw [List.length_append, List.length_singleton] at e
        have : i = A.length := by omega
        subst this; rw [List.getElem?_concat_length] at h; cases h; simp [lng, d1]) (by
          rw [List.append_assoc]
          refine W_fg (lel_app A ?_) w
          exact lel_un (by simp [cat1, d1]) lel_refl)
      simpa using this
def okf (c : Nat) (L : List Slot) : Bool := decide (c ≤ L.length) && (wfb (L.drop c) && (match c with | 0 => true | c + 1 => match L[c]? with | some o => !lng o | none => true))
theorem W_fa (c : Nat) (h : okf c L = true) (w : W P m pc (L.take c ++ (L.drop c).map fun _ => .unset) S k n H Q) : W P m pc L S k n H Q := by
  unfold okf at h; rw [Bool.and_eq_true, Bool.and_eq_true, decide_eq_true_eq] at h
  have := W_fB _ (L.take c) (L.drop c) (Nat.le_refl _) h.2.1 (fun i o e h' => by
    rw [List.length_take, Nat.min_eq_left h.1] at e; subst e
    rw [List.getElem?_take_of_lt (by omega)] at h'
    have h2 := h.2.2; simp only [h'] at h2; simpa using h2) w
  rwa [List.take_append_drop] at this
end ForgetL
section Ist
variable {P : Prog} {m pc len k n i : Nat} {aux : Int} {L : List Slot} {S : List Value} {H : AH} {Q : Option Value → AH → Prop} {x : Int32} {l : Int64}
end Ist
section Num2
theorem len32 {n : Nat} (h : n < 2147483648) : (n.toInt32).toInt = n := by
  rw [show n.toInt32 = Int32.ofNat n from rfl, Int32.toInt_ofNat_of_lt (by omega)]
end Num2
end Jvm.JX

namespace Jvm.JX
open Sem ClassFile Op Lib
theorem bitk (k : Int32) (h : 0 ≤ k.toInt ∧ k.toInt < 64) : ((1 : Int64) <<< (k.toInt64 &&& 63)).toBitVec = 1#64 <<< k.toInt.toNat := by
  have key : ∀ j : Fin 64, ((1 : Int64) <<< ((Int32.ofNat j.val).toInt64 &&& 63)).toBitVec = 1#64 <<< j.val := by decide +kernel
  have := key ⟨k.toInt.toNat, by omega⟩
  simp only at this
  rw [← this, show Int32.ofNat k.toInt.toNat = k by rw [eq32, Int32.toInt_ofNat_of_lt (by omega)]; omega]
theorem shl1 {κ i : Nat} (h : κ < 64) : (1#64 <<< κ).getLsbD i = decide (i = κ) := by
  rw [BitVec.getLsbD_shiftLeft, BitVec.getLsbD_one, Bool.eq_iff_iff]; simp; omega
theorem bit_or {P : Int64} (k : Int32) (h : 0 ≤ k.toInt ∧ k.toInt < 64) (i : Nat) : (P ||| ((1 : Int64) <<< (k.toInt64 &&& 63))).toBitVec.getLsbD i = (P.toBitVec.getLsbD i || decide (i = k.toInt.toNat)) := by
  rw [Int64.toBitVec_or, bitk k h, BitVec.getLsbD_or, shl1 (by omega)]
theorem ushrL_bv {P : Int64} {k : Int32} (h : 0 ≤ k.toInt ∧ k.toInt < 64) : (Jvm.Free.XT.ushrL P k).toBitVec = P.toBitVec >>> k.toInt.toNat := by
  have key : ∀ j : Fin 64, ((Int32.ofNat j.val).toInt64.toUInt64 &&& Int64.toUInt64 63) = UInt64.ofNat j.val := by decide +kernel
  have hk := key ⟨k.toInt.toNat, by omega⟩
  simp only at hk
  rw [show Int32.ofNat k.toInt.toNat = k by rw [eq32, Int32.toInt_ofNat_of_lt (by omega)]; omega] at hk
  unfold Jvm.Free.XT.ushrL
  rw [hk]
  have h64 : k.toInt.toNat < 64 := by omega
  generalize k.toInt.toNat = κ at *
  show (P.toUInt64 >>> UInt64.ofNat κ).toBitVec = _
  rw [UInt64.toBitVec_shiftRight]
  have e : (UInt64.ofNat κ).toBitVec % 64 = BitVec.ofNat 64 κ := by
    apply BitVec.eq_of_toNat_eq
    simp
    omega
  rw [e]
  apply BitVec.eq_of_toNat_eq
  simp
  rw [Nat.mod_eq_of_lt (by omega)]
theorem and1 {P : Int64} {k : Int32} (h : 0 ≤ k.toInt ∧ k.toInt < 64) : Jvm.Free.XT.ushrL P k &&& 1 = 0 ↔ P.toBitVec.getLsbD k.toInt.toNat = false := by
  rw [← Int64.toBitVec_inj, Int64.toBitVec_and, ushrL_bv h]
  generalize k.toInt.toNat = κ
  constructor
  · intro e
    have := congrArg (fun v => v.getLsbD 0) e
    simpa using this
  · intro e
    apply BitVec.eq_of_getLsbD_eq
    intro i hi
    rw [BitVec.getLsbD_and]
    by_cases g : i = 0
    · subst g; simp [e]
    · have : (1 : Int64).toBitVec.getLsbD i = false := by
        rw [show (1 : Int64).toBitVec = 1#64 from rfl, BitVec.getLsbD_one]; simp [g]
      rw [this]; simp
end Jvm.JX

namespace Jvm.JX
open Sem ClassFile Op Lib Jvm.Stand Jvm.Free Jvm.LawKit Jvm.RoadKit
def CRel (C : String) (fn : Nat → String × String) (F : List Nat) (Z : State) (n0 : Nat) (h : Heap) (a : Nat) (c : Cel) : Prop :=
  (c.2.2.1 = true → n0 ≤ a) ∧
  match c.1 with
  | .object _ => Exa Z h a C ∧ ∀ k ∈ F, Fld Z h a C (fn k).1 (fn k).2 (c.2.2.2 k)
  | .array t => c.2.1 < 2 ^ 31 ∧ ∃ cl : Cell, Arr Z h a cl t ∧ cl.slots.size = c.2.1 ∧ ∀ i, i < c.2.1 → cl.slots[i]? = some (c.2.2.2 i)
  | _ => True
def RelH (C : String) (fn : Nat → String × String) (F : List Nat) (Z : State) (n0 : Nat) (h : Heap) (H : AH) : Prop := h.size = H.1 ∧ n0 ≤ H.1 ∧ ∀ a, CRel C fn F Z n0 h a (H.2 a)
def ilen2 : Instr → Nat → Nat
  | .tableswitch _ _ _ _, l => l
  | i, _ => ilen i
def RowOk (P : Prog) (tb : List Jvm.Cond) (C : String) (fn : Nat → String × String) (F : List Nat) (nsl : Nat) (nm : Nat → MethodName) (R : List Nat) (m : Nat) (ins : Instr) (aux : Int) : Prop :=
  match ins with
  | .getfield i => aux.toNat ∈ F ∧ Jvm.Cond.fieldLink (nm m).cls i C (fn aux.toNat).1 (fn aux.toNat).2 ∈ tb
  | .putfield i => aux.toNat ∈ F ∧ Jvm.Cond.fieldLink (nm m).cls i C (fn aux.toNat).1 (fn aux.toNat).2 ∈ tb ∧ (Jvm.Cond.lays C C (fn aux.toNat).1 (fn aux.toNat).2 ∈ tb ∨ (nm m).cls = C ∧ (nm m).name = "<init>")
  | .new i => aux.toNat = nsl ∧ Jvm.Cond.classLink (nm m).cls i C ∈ tb
  | .newarray t => Jvm.Cond.arrayClass (newarray.typeOf t) ∈ tb
  | .ldc i => Jvm.Cond.constant (nm m).cls i (Int32.ofInt aux) ∈ tb
  | .ldc2_w i => Jvm.Cond.constantLong (nm m).cls i (Int64.ofInt aux) ∈ tb
  | .invokevirtual i => aux.toNat ∈ R ∧ Jvm.Cond.methodLink (nm m).cls i (nm aux.toNat) ∈ tb
  | .invokestatic i => aux.toNat ∈ R ∧ Jvm.Cond.methodLink (nm m).cls i (nm aux.toNat) ∈ tb
  | .invokespecial i => (aux = -1 → Jvm.Cond.methodLink (nm m).cls i Lib.objectInit ∈ tb ∧ Jvm.Cond.instanceMethod Lib.objectInit ∈ tb ∧ Jvm.Cond.code Lib.objectInit ⟨#[0xb1]⟩ 1 none ∈ tb) ∧ (0 ≤ aux → aux.toNat ∈ R ∧ Jvm.Cond.methodLink (nm m).cls i (nm aux.toNat) ∈ tb)
  | _ => True
def CalOk (P : Prog) (tb : List Jvm.Cond) (C : String) (nm : Nat → MethodName) (bt : Nat → ByteArray) (m : Nat) : Prop :=
  Jvm.Cond.code (nm m) (bt m) (ml P m) (rt P m) ∈ tb ∧ Jvm.Cond.initialized (nm m).cls ∈ tb ∧ (∃ ps r, parseMethodDescriptor (nm m).desc = some ⟨ps, r⟩ ∧ ps.length + (if kd P m = 0 then 0 else 1) = na P m) ∧
  (kd P m = 0 → Jvm.Cond.static (nm m) ∈ tb) ∧
  (kd P m ≠ 0 → (nm m).cls = C ∧ Jvm.Cond.instanceMethod (nm m) ∈ tb) ∧
  (kd P m = 1 → Jvm.Cond.declares (nm m) ∈ tb ∧ Jvm.Cond.selects C (nm m) (nm m) ∈ tb) ∧
  (kd P m = 2 → Jvm.Cond.privateMethod (nm m) ∈ tb) ∧
  (kd P m = 3 → (nm m).name = "<init>" ∧ rt P m = none)
def Good (P : Prog) (tb : List Jvm.Cond) (C : String) (fn : Nat → String × String) (F : List Nat) (nsl : Nat) (nm : Nat → MethodName) (bt : Nat → ByteArray) (R : List Nat) (top : Nat) : Prop :=
  Jvm.Cond.instantiable C nsl ∈ tb ∧ Jvm.Cond.initialized C ∈ tb ∧
  (∀ k ∈ F, parseFieldDescriptor (fn k).2 = some (P.2.2.1 k) ∧ (Jvm.Cond.lays C C (fn k).1 (fn k).2 ∈ tb ∨ Jvm.Cond.laysFinal C C (fn k).1 (fn k).2 ∈ tb)) ∧
  (∀ j ∈ F, ∀ k ∈ F, (fn j).1 = (fn k).1 → j = k) ∧
  (∀ m ∈ R, plainName (nm m).cls = true ∧ ((nm m).cls ≠ "java/lang/invoke/MethodHandle" ∧ (nm m).cls ≠ "java/lang/invoke/VarHandle") ∧
    ∀ pc ins len aux, P.1 m pc = some (ins, len, aux) → decode (bt m) pc = .ok (ins, len) ∧ len = ilen2 ins len ∧ RowOk P tb C fn F nsl nm R m ins aux) ∧
  (∀ m ∈ R, m ≠ top → CalOk P tb C nm bt m) ∧
  (∀ m ∈ R, ∀ pc ins len aux, P.1 m pc = some (ins, len, aux) → aux = (top : Int) → kindOk ins (kd P top) = false)
section Rel
variable {C : String} {fn : Nat → String × String} {F : List Nat} {Z : State} {n0 : Nat} {h h' : Heap} {H : AH}
theorem RelH.obj (r : RelH C fn F Z n0 h H) {a : Nat} (ha : isO H a = true) : Exa Z h a C ∧ ∀ k ∈ F, Fld Z h a C (fn k).1 (fn k).2 (fld H a k) := by
  have q := (r.2.2 a).2
  unfold isO at ha
  cases hk : (H.2 a).1 <;> rw [hk] at ha <;> first | (cases ha; done) | (simp only [hk] at q; exact q)
theorem RelH.own (r : RelH C fn F Z n0 h H) {a : Nat} (ha : (H.2 a).2.2.1 = true) : n0 ≤ a := (r.2.2 a).1 ha
theorem RelH.arr (r : RelH C fn F Z n0 h H) {a : Nat} {t : FieldType} (ha : (H.2 a).1 = .array t) : (H.2 a).2.1 < 2 ^ 31 ∧ ∃ cl : Cell, Arr Z h a cl t ∧ cl.slots.size = (H.2 a).2.1 ∧ ∀ i, i < (H.2 a).2.1 → cl.slots[i]? = some ((H.2 a).2.2.2 i) := by
  have q := (r.2.2 a).2
  simp only [ha] at q; exact q
theorem RelH.ext (r : RelH C fn F Z n0 h H) (E : Ext h h') {c : Cel} (hs : h'.size = h.size + 1) (hc : CRel C fn F Z n0 h' h.size c) : RelH C fn F Z n0 h' (H.1 + 1, fun b => if b = H.1 then c else H.2 b) := by
  refine ⟨by rw [hs, r.1], Nat.le_succ_of_le r.2.1, fun a => ?_⟩
  by_cases e : a = H.1
  · subst e; simp only [if_true]; rw [← r.1]; exact hc
  · simp only [e, if_false]
    obtain ⟨q1, q2⟩ := r.2.2 a
    refine ⟨q1, ?_⟩
    cases hk : (H.2 a).1 <;> simp only [hk] at q2 ⊢
    · exact ⟨q2.1.ext E, fun k hk => (q2.2 k hk).ext E⟩
    · obtain ⟨q3, cl, q4, q5⟩ := q2; exact ⟨q3, cl, q4.ext E, q5⟩
end Rel
def Go (C : String) (fn : Nat → String × String) (F : List Nat) (Z : State) (n0 : Nat) (p : Program) (l : Launch) (e : Env) (R : Jvm.Room) (s : State) (mid : MethodId) (args : Array Value) (below : List Frame) (meth : Method) (c : Code) (start : State) (nl : Nat) (q : Fm) : Prop :=
  ∃ T' locs', Stand p l e R s mid args below meth c T' locs' q.2.2.2.1 q.2.2.2.2.1 ∧ RelH C fn F Z n0 T'.heap q.2.2.2.2.2 ∧ Fr n0 locs' ∧ q.2.2.2.1 ≤ R.cells ∧ q.2.2.2.2.1 ≤ R.slots ∧ q.2.1.length = nl ∧
    ∀ target, Steps p.tables e below (T'.setTop (mkF mid q.1 q.2.1.toArray q.2.2.1)) target → Steps p.tables e below start target
theorem lrem_mod (x y : Int64) : x - (x / y) * y = x % y := by
  apply Int64.toInt_inj.mp
  have h1 := Int64.le_toInt (x % y)
  have h2 := Int64.toInt_lt (x % y)
  rw [Int64.toInt_sub, Int64.toInt_mul, Int64.toInt_div, Int.bmod_mul_bmod, Int.sub_bmod_bmod, Int.mul_comm (x.toInt.tdiv y.toInt), ← Int.tmod_def, ← Int64.toInt_mod]
  exact Int.bmod_eq_of_le_mul_two (by omega) (by omega)
theorem arr_get {L : List Slot} {i : Nat} {o : Slot} (h : L[i]? = some o) : L.toArray[i]? = some o := by simpa using h
theorem stl_ok {L L' : List Slot} {i : Nat} {v : Value} (hv : v.category = 1) (h : stl L i v = some L') : storeLocals L.toArray i v = some L'.toArray ∧ L'.length = L.length := by
  unfold stl at h
  unfold storeLocals
  cases hi : L[i]? with
  | none => rw [hi] at h; cases h
  | some o =>
    have hlt : i < L.length := (List.getElem?_eq_some_iff.mp hi).1
    rw [hi] at h
    rw [arr_get hi]
    cases o with
    | unset => cases h; simp [storeSelf, setAt, hlt, hv]
    | second =>
      simp only at h
      split at h
      · cases h; simp [storeSelf, setAt, hv, hlt, Nat.lt_of_le_of_lt (Nat.sub_le i 1) hlt]
      · cases h
    | val w =>
      simp only at h
      split at h
      · rename_i hw; cases h; simp [storeSelf, setAt, hv, hlt, hw]
      · rename_i hw
        split at h
        · rename_i h1
          have hw2 : w.category = 2 := by cases w <;> simp [Value.category] at hw ⊢
          cases h; simp [storeSelf, setAt, hv, hlt, hw2, h1]
        · cases h
theorem stL_ok {L L' : List Slot} {i : Nat} {v : Value} (hv : v.category = 2) (h : stL L i v = some L') : storeLocals L.toArray i v = some L'.toArray ∧ L'.length = L.length := by
  unfold stL at h
  unfold storeLocals
  cases hi : L[i]? with
  | none => rw [hi] at h; cases h
  | some o =>
    cases hi2 : L[i + 1]? with
    | none => rw [hi, hi2] at h; cases o <;> cases h
    | some o2 =>
      have hlt : i < L.length := (List.getElem?_eq_some_iff.mp hi).1
      have hlt2 : i + 1 < L.length := (List.getElem?_eq_some_iff.mp hi2).1
      rw [hi, hi2] at h
      rw [arr_get hi]
      have g2 : (L.set i (.val v))[i + 1]? = some o2 := by rw [List.getElem?_set_ne (by omega)]; exact hi2
      have g4 : L[i + 1] = o2 := (List.getElem?_eq_some_iff.mp hi2).2
      cases o with
      | second =>
        simp only at h
        have h0 : i - 1 < L.length := by omega
        split at h
        · rename_i h1
          have g2' : ((L.set (i - 1) .unset).set i (.val v))[i + 1]? = some o2 := by rw [List.getElem?_set_ne (by omega), List.getElem?_set_ne (by omega)]; exact hi2
          have g4' : ((L.set (i - 1) .unset).set i (.val v))[i + 1]'(by simpa using hlt2) = o2 := (List.getElem?_eq_some_iff.mp g2').2
          split at h
          · rename_i hc
            cases h
            cases o2 with
            | second => cases hc
            | unset => simp [storeSelf, setAt, hv, hlt, hlt2, h0, g4']
            | val w => simp only [cat1, beq_iff_eq] at hc; simp [storeSelf, setAt, hv, hlt, hlt2, h0, g4', hc]
          · split at h
            · rename_i hc
              cases h
              obtain ⟨hc, hlt3⟩ := hc
              cases o2 with
              | second => cases hc
              | unset => cases hc
              | val w => simp only [lng, beq_iff_eq] at hc; simp [storeSelf, setAt, hv, hlt, hlt2, hlt3, h0, g4', hc]
            · cases h
        · cases h
      | unset =>
        simp only at h
        split at h
        · rename_i hc
          cases h
          cases o2 with
          | second => cases hc
          | unset => simp [storeSelf, setAt, hv, hlt, hlt2, g2, g4]
          | val w => simp only [cat1, beq_iff_eq] at hc; simp [storeSelf, setAt, hv, hlt, hlt2, g2, g4, hc]
        · split at h
          · rename_i hc
            cases h
            obtain ⟨hc, hlt3⟩ := hc
            cases o2 with
            | second => cases hc
            | unset => cases hc
            | val w => simp only [lng, beq_iff_eq] at hc; simp [storeSelf, setAt, hv, hlt, hlt2, hlt3, g2, g4, hc]
          · cases h
      | val w =>
        simp only at h
        split at h
        · rename_i hw
          cases h
          have g3 : ((L.set (i + 1) .unset).set i (.val v))[i + 1]? = some .unset := by rw [List.getElem?_set_ne (by omega)]; simp [hlt2]
          simp [storeSelf, setAt, hv, hlt, hlt2, hw, g3]
          rw [List.set_comm _ _ (by omega), List.set_set, List.set_comm _ _ (by omega)]
        · rename_i hw
          have hw1 : ¬ w.category = 2 := hw
          split at h
          · rename_i hc
            cases h
            cases o2 with
            | second => cases hc
            | unset => simp [storeSelf, setAt, hv, hlt, hlt2, g2, g4, hw1]
            | val w => simp only [cat1, beq_iff_eq] at hc; simp [storeSelf, setAt, hv, hlt, hlt2, g2, g4, hw1, hc]
          · split at h
            · rename_i hc
              cases h
              obtain ⟨hc, hlt3⟩ := hc
              cases o2 with
              | second => cases hc
              | unset => cases hc
              | val w2 => simp only [lng, beq_iff_eq] at hc; simp [storeSelf, setAt, hv, hlt, hlt2, hlt3, g2, g4, hw1, hc]
            · cases h
theorem jmp_ok {pc q : Nat} {o : Int} (h : jmp pc o = some q) : 0 ≤ (pc : Int) + o ∧ ((pc : Int) + o).toNat = q := by
  unfold jmp at h
  split at h
  · rename_i g; cases h; exact ⟨g, rfl⟩
  · cases h
theorem ldI_ok {L : List Slot} {i : Nat} {v : Value} (h : ldI L i = some v) : ∃ x, v = .int x ∧ L.toArray[i]? = some (.val (.int x)) := by
  unfold ldI at h
  split at h
  · rename_i x e; cases h; exact ⟨x, rfl, arr_get e⟩
  · cases h
theorem ldJ_ok {L : List Slot} {i : Nat} {v : Value} (h : ldJ L i = some v) : ∃ x, v = .long x ∧ L.toArray[i]? = some (.val (.long x)) := by
  unfold ldJ at h
  split at h
  · rename_i x e; cases h; exact ⟨x, rfl, arr_get e⟩
  · cases h
theorem ldR_ok {L : List Slot} {i : Nat} {v : Value} (h : ldR L i = some v) : ∃ x, v = .ref x ∧ L.toArray[i]? = some (.val (.ref x)) := by
  unfold ldR at h
  split at h
  · rename_i x e; cases h; exact ⟨x, rfl, arr_get e⟩
  · cases h
theorem okv_ok {t : FieldType} {v : Value} (h : okv t v = true) : narrow t v = v ∧ fits t v = true := by
  unfold okv at h
  split at h
  · exact ⟨rfl, rfl⟩
  · rename_i z
    simp only [Bool.or_eq_true, beq_iff_eq] at h
    rcases h with rfl | rfl <;> exact ⟨rfl, rfl⟩
  · rename_i z
    simp only [beq_iff_eq] at h
    have q := fits_nar_byte z
    rw [h] at q
    exact ⟨by show Value.int _ = _; rw [h], q⟩
  · exact ⟨rfl, rfl⟩
  · exact ⟨rfl, rfl⟩
  · cases h
end Jvm.JX

namespace Jvm.JX
open Sem ClassFile Op Lib Jvm.Stand Jvm.Free Jvm.LawKit Jvm.RoadKit
section Step
variable {P : Prog} {tb : List Jvm.Cond} {C : String} {fn : Nat → String × String} {F : List Nat} {nsl : Nat} {nm : Nat → MethodName} {bt : Nat → ByteArray} {R : List Nat} {top : Nat}
variable {l : Launch} {Z : State} {a0 : Array Value} {n0 : Nat} {m pc len k n : Nat} {aux : Int} {L : List Slot} {S : List Value} {H : AH} {ins : Instr} {q : Fm}
variable {p : Program} {e : Env} {s : State} {mid : MethodId} {args : Array Value} {below : List Frame} {meth : Method} {c : Code} {T : State} {locs : List Loc} {Rm : Jvm.Room}
theorem go_same {start : State} {nl pc' : Nat} {L' : List Slot} {S' : List Value} (X : Stand p l e Rm s mid args below meth c T locs k n) (r : RelH C fn F Z n0 T.heap H) (N : Fr n0 locs) (hk : k ≤ Rm.cells) (hn : n ≤ Rm.slots) (hL : L'.length = nl)
    (st : ∀ target, Steps p.tables e below (T.setTop (mkF mid pc' L'.toArray S')) target → Steps p.tables e below start target) : Go C fn F Z n0 p l e Rm s mid args below meth c start nl (pc', L', S', k, n, H) := ⟨T, locs, X, r, N, hk, hn, hL, st⟩
theorem go_heap {start : State} {nl pc' : Nat} {L' : List Slot} {S' : List Value} {T' : State} (X : Stand p l e Rm s mid args below meth c T' locs k n) (r : RelH C fn F Z n0 T.heap H) (hh : T'.heap = T.heap) (N : Fr n0 locs) (hk : k ≤ Rm.cells) (hn : n ≤ Rm.slots) (hL : L'.length = nl)
    (st : ∀ target, Steps p.tables e below (T'.setTop (mkF mid pc' L'.toArray S')) target → Steps p.tables e below start target) : Go C fn F Z n0 p l e Rm s mid args below meth c start nl (pc', L', S', k, n, H) := ⟨T', locs, X, by rw [hh]; exact r, N, hk, hn, hL, st⟩
theorem idx_not {i : Int32} {n : Nat} (h1 : ¬ i < 0) (h2 : i.toNatClampNeg < n) : ¬ (i < 0 ∨ n ≤ i.toNatClampNeg) := fun h => h.elim h1 (Nat.not_le.mpr h2)
theorem inA_ok {a : Nat} {t : FieldType} {i : Int32} (h : inA H a t i = true) : (H.2 a).1 = .array t ∧ ¬ i < 0 ∧ i.toNatClampNeg < (H.2 a).2.1 := by
  simpa [inA, and_assoc] using h
theorem inAw_ok {a : Nat} {t : FieldType} {i : Int32} (h : inAw H a t i = true) : inA H a t i = true ∧ (H.2 a).2.2.1 = true := by
  simpa [inAw] using h
theorem isOw_ok {a : Nat} (h : isOw H a = true) : isO H a = true ∧ (H.2 a).2.2.1 = true := by simpa [isOw] using h
theorem RelH.wrF {h h' : Heap} {a j : Nat} {v : Value} (hG : Good P tb C fn F nsl nm bt R top) (hw : ∀ d ∈ tb, d.before a0 Z = true) (r : RelH C fn F Z n0 h H) (ha : isO H a = true) (hj : j ∈ F) (Wt : Wr h h' a (Jvm.RoadKit.slotOf Z C (fn j).1 (fn j).2) v) : RelH C fn F Z n0 h' (wr H a j v) := by
  refine ⟨by rw [Wt.size]; exact r.1, r.2.1, fun b => ?_⟩
  by_cases e : b = a
  · subst e
    obtain ⟨q1, q2⟩ := r.2.2 b
    obtain ⟨E, Fs⟩ := r.obj ha
    simp only [wr, if_true]
    refine ⟨q1, ?_⟩
    unfold isO at ha
    cases hk : (H.2 b).1 <;> rw [hk] at ha <;> try (cases ha; done)
    simp only
    refine ⟨E.wr Wt, fun i hi => ?_⟩
    by_cases e2 : i = j
    · subst e2; simp only [if_true]; exact (Fs i hi).same Wt
    · simp only [e2, if_false]
      refine (Fs i hi).other Wt (Or.inr ?_)
      have lw : ∀ k ∈ F, Laid Z a0 C C (fn k).1 (fn k).2 := fun k hk => ((hG.2.2.1 k hk).2).imp (hw _) (hw _)
      exact slot_ne (lw i hi) (lw j hj) (fun q => e2 (hG.2.2.2.1 i hi j hj q)) (hG.2.2.1 i hi).1 (hG.2.2.1 j hj).1
  · simp only [wr, e, if_false]
    obtain ⟨q1, q2⟩ := r.2.2 b
    refine ⟨q1, ?_⟩
    cases hk : (H.2 b).1 <;> simp only [hk] at q2 ⊢
    · exact ⟨q2.1.wr Wt, fun k hk => (q2.2 k hk).other Wt (Or.inl e)⟩
    · obtain ⟨q3, cl, q4, q5⟩ := q2; exact ⟨q3, cl, q4.other Wt e, q5⟩
theorem RelH.wrA {h h' : Heap} {a j : Nat} {t : FieldType} {v : Value} (r : RelH C fn F Z n0 h H) (ha : (H.2 a).1 = .array t) (hj : j < (H.2 a).2.1) (Wt : Wr h h' a j v) : RelH C fn F Z n0 h' (wr H a j v) := by
  refine ⟨by rw [Wt.size]; exact r.1, r.2.1, fun b => ?_⟩
  by_cases e : b = a
  · subst e
    obtain ⟨q1, q2⟩ := r.2.2 b
    obtain ⟨g1, cl, g2, g3, g4⟩ := r.arr ha
    simp only [wr, if_true]
    refine ⟨q1, ?_⟩
    simp only [ha]
    refine ⟨g1, cl.setSlot j v, g2.same Wt, by rw [sz_set]; exact g3, fun i hi => ?_⟩
    by_cases e2 : i = j
    · subst e2; simp [Cell.setSlot, g3, hj]
    · simp only [e2, if_false]; rw [← g4 i hi]; exact Array.getElem?_setIfInBounds_ne (Ne.symm e2)
  · simp only [wr, e, if_false]
    obtain ⟨q1, q2⟩ := r.2.2 b
    refine ⟨q1, ?_⟩
    cases hk : (H.2 b).1 <;> simp only [hk] at q2 ⊢
    · exact ⟨q2.1.wr Wt, fun k hk => (q2.2 k hk).other Wt (Or.inl e)⟩
    · obtain ⟨q3, cl, q4, q5⟩ := q2; exact ⟨q3, cl, q4.other Wt e, q5⟩
theorem ext_push (h : Heap) (x : Cell) : Ext h (h.push x) := ⟨by simp, fun a c q => by rw [Array.getElem?_push_lt (Array.getElem?_eq_some_iff.mp q).1]; exact (Array.getElem?_eq_getElem _).symm.trans q⟩
theorem made_obj {h : Heap} {cC : ClassId} {kC : Class} (hZ : Z.Warmed39 s.vm) (h1 : s.vm.findClass C = some cC) (h2 : s.vm.classes[cC]? = some kC) :
    Exa Z (h.push { cls := cC, slots := kC.instanceTypes.map defaultValue, vm := .none }) h.size C ∧ ∀ {nm d : String} {ty : FieldType}, Laid Z a0 C C nm d → parseFieldDescriptor d = some ty → Fld Z (h.push { cls := cC, slots := kC.instanceTypes.map defaultValue, vm := .none }) h.size C nm d (defaultValue ty) := by
  rw [hZ.alike.findClass] at h1
  obtain ⟨kZ, z1, -⟩ := Vm.findClass_spec h1
  obtain ⟨k', z2, z3⟩ := hZ.alike.2.2 _ _ z1
  cases h2.symm.trans z2
  have ei : kC.instanceTypes = kZ.instanceTypes := by rw [z3]
  have hN : ∀ x : Cell, (h.push x)[h.size]? = some x := fun x => by simp
  refine ⟨⟨_, kZ, hN _, h1, z1, rfl, fun _ => by simp [ei]⟩, fun {nm d ty} lw ht => ?_⟩
  obtain ⟨c1, k1, cf, kf, i, f, a1, a2, a3, a4, a5, a6, -⟩ := lw.spec
  cases h1.symm.trans a1
  cases z1.symm.trans a2
  exact ⟨_, cf, kf, i, f, hN _, a3, a4, by simp, rfl, a5, by simp [ei, a6, (State.fieldFound?_type a3 ht).2]⟩
theorem made_arr {h : Heap} {t : FieldType} {cA comp : ClassId} {kA : Class} {xs : Array Value} (hZ : Z.Warmed39 s.vm) (h1 : s.vm.findClass ("[" ++ t.toString) = some cA) (h2 : s.vm.classes[cA]? = some kA) (h3 : kA.kind = .array comp t) : Arr Z (h.push { cls := cA, slots := xs, vm := .none }) h.size { cls := cA, slots := xs, vm := .none } t := by
  rw [hZ.alike.findClass] at h1
  obtain ⟨kZ, z1, -⟩ := Vm.findClass_spec h1
  obtain ⟨k', z2, z3⟩ := hZ.alike.2.2 _ _ z1
  cases h2.symm.trans z2
  exact ⟨by simp, ⟨by simp, kZ, z1, comp, by rw [← h3, z3]⟩, by simp⟩
set_option maxHeartbeats 4000000 in
theorem stp_go (hG : Good P tb C fn F nsl nm bt R top) (hw : ∀ d ∈ tb, d.before a0 Z = true) (hm : m ∈ R) (hrow : P.1 m pc = some (ins, len, aux)) (h : stp P m ins len aux pc L S k n H = some q) (X : Stand p l e (rm P m) s mid args below meth c T locs k n) (hx : p.tables.exec = Jvm.exec) (hZ : Z.Warmed39 s.vm)
    (hby : c.code = bt m) (hml : c.maxLocals = ml P m) (hown : s.vm.findClass (nm m).cls = some mid.cls) (hnm : meth.name = (nm m).name) (hL : L.length = ml P m) (r : RelH C fn F Z n0 T.heap H) (N : Fr n0 locs) (hk : k ≤ (rm P m).cells) (hn : n ≤ (rm P m).slots) :
    Go C fn F Z n0 p l e (rm P m) s mid args below meth c (T.setTop (mkF mid pc L.toArray S)) (ml P m) q := by
  obtain ⟨hd, hl, ho⟩ := (hG.2.2.2.2.1 m hm).2.2 pc ins len aux hrow
  replace hd := hb hby hd
  cases ins with
  | iconst i =>
    have hl : len = 1 := hl; subst hl
    obtain rfl := Option.some.inj h
    exact go_same X r N hk hn hL fun t g => XS.iconst X.here hx rfl hd g
  | bipush i =>
    have hl : len = 2 := hl; subst hl
    obtain rfl := Option.some.inj h
    exact go_same X r N hk hn hL fun t g => XS.bipush X.here hx rfl hd g
  | sipush i =>
    have hl : len = 3 := hl; subst hl
    obtain rfl := Option.some.inj h
    exact go_same X r N hk hn hL fun t g => XS.sipush X.here hx rfl hd g
  | lconst i =>
    have hl : len = 1 := hl; subst hl
    obtain rfl := Option.some.inj h
    exact go_same X r N hk hn hL fun t g => XT.lconst X.here hx rfl hd g
  | ldc i =>
    have hl : len = 2 := hl; subst hl
    obtain rfl := Option.some.inj h
    exact go_same X r N hk hn hL fun t g => X.ldcI hx hown (mv hZ (hw _ ho)) rfl hd g
  | ldc2_w i =>
    have hl : len = 3 := hl; subst hl
    obtain rfl := Option.some.inj h
    exact go_same X r N hk hn hL fun t g => X.ldc2J hx hown (mv hZ (hw _ ho)) rfl hd g
  | iload i =>
    have hl : len = 2 := hl; subst hl
    obtain ⟨v, hv, rfl⟩ := Option.map_eq_some_iff.mp h
    obtain ⟨x, rfl, hg⟩ := ldI_ok hv
    exact go_same X r N hk hn hL fun t g => XS.iload X.here hx rfl hd hg g
  | iload_n i =>
    have hl : len = 1 := hl; subst hl
    obtain ⟨v, hv, rfl⟩ := Option.map_eq_some_iff.mp h
    obtain ⟨x, rfl, hg⟩ := ldI_ok hv
    exact go_same X r N hk hn hL fun t g => XS.iloadN X.here hx rfl hd hg g
  | lload i =>
    have hl : len = 2 := hl; subst hl
    obtain ⟨v, hv, rfl⟩ := Option.map_eq_some_iff.mp h
    obtain ⟨x, rfl, hg⟩ := ldJ_ok hv
    exact go_same X r N hk hn hL fun t g => XT.lload X.here hx rfl hd hg g
  | lload_n i =>
    have hl : len = 1 := hl; subst hl
    obtain ⟨v, hv, rfl⟩ := Option.map_eq_some_iff.mp h
    obtain ⟨x, rfl, hg⟩ := ldJ_ok hv
    exact go_same X r N hk hn hL fun t g => XT.lloadN X.here hx rfl hd hg g
  | aload i =>
    have hl : len = 2 := hl; subst hl
    obtain ⟨v, hv, rfl⟩ := Option.map_eq_some_iff.mp h
    obtain ⟨x, rfl, hg⟩ := ldR_ok hv
    exact go_same X r N hk hn hL fun t g => XS.aload X.here hx rfl hd hg rfl g
  | aload_n i =>
    have hl : len = 1 := hl; subst hl
    obtain ⟨v, hv, rfl⟩ := Option.map_eq_some_iff.mp h
    obtain ⟨x, rfl, hg⟩ := ldR_ok hv
    exact go_same X r N hk hn hL fun t g => XS.aloadN X.here hx rfl hd hg rfl g
  | istore i =>
    have hl : len = 2 := hl; subst hl
    dsimp only [stp] at h
    split at h
    · rename_i x S'
      obtain ⟨L', hv, rfl⟩ := Option.map_eq_some_iff.mp h
      obtain ⟨g1, g2⟩ := stl_ok rfl hv
      exact go_same X r N hk hn (g2.trans hL) fun t g => XS.istore X.here hx rfl hd rfl g1 g
    · cases h
  | istore_n i =>
    have hl : len = 1 := hl; subst hl
    dsimp only [stp] at h
    split at h
    · rename_i x S'
      obtain ⟨L', hv, rfl⟩ := Option.map_eq_some_iff.mp h
      obtain ⟨g1, g2⟩ := stl_ok rfl hv
      exact go_same X r N hk hn (g2.trans hL) fun t g => XS.istoreN X.here hx rfl hd rfl g1 g
    · cases h
  | astore i =>
    have hl : len = 2 := hl; subst hl
    dsimp only [stp] at h
    split at h
    · rename_i x S'
      obtain ⟨L', hv, rfl⟩ := Option.map_eq_some_iff.mp h
      obtain ⟨g1, g2⟩ := stl_ok rfl hv
      exact go_same X r N hk hn (g2.trans hL) fun t g => XS.astore X.here hx rfl hd rfl rfl g1 g
    · cases h
  | astore_n i =>
    have hl : len = 1 := hl; subst hl
    dsimp only [stp] at h
    split at h
    · rename_i x S'
      obtain ⟨L', hv, rfl⟩ := Option.map_eq_some_iff.mp h
      obtain ⟨g1, g2⟩ := stl_ok rfl hv
      exact go_same X r N hk hn (g2.trans hL) fun t g => XS.astoreN X.here hx rfl hd rfl rfl g1 g
    · cases h
  | lstore i =>
    have hl : len = 2 := hl; subst hl
    dsimp only [stp] at h
    split at h
    · rename_i x S'
      obtain ⟨L', hv, rfl⟩ := Option.map_eq_some_iff.mp h
      obtain ⟨g1, g2⟩ := stL_ok rfl hv
      exact go_same X r N hk hn (g2.trans hL) fun t g => XT.lstore X.here hx rfl hd rfl g1 g
    · cases h
  | lstore_n i =>
    have hl : len = 1 := hl; subst hl
    dsimp only [stp] at h
    split at h
    · rename_i x S'
      obtain ⟨L', hv, rfl⟩ := Option.map_eq_some_iff.mp h
      obtain ⟨g1, g2⟩ := stL_ok rfl hv
      exact go_same X r N hk hn (g2.trans hL) fun t g => XT.lstoreN X.here hx rfl hd rfl g1 g
    · cases h
  | iinc i cst =>
    have hl : len = 3 := hl; subst hl
    dsimp only [stp] at h
    split at h
    · rename_i x hx1
      obtain rfl := Option.some.inj h
      have g1 : storeLocals L.toArray i (.int (x + Int32.ofInt cst)) = some (L.set i (.val (.int (x + Int32.ofInt cst)))).toArray := (stl_ok rfl (stl_plain hx1 rfl)).1
      exact go_same X r N hk hn (by simpa using hL) fun t g => XS.iinc X.here hx rfl hd (arr_get hx1) g1 g
    · cases h
  | iadd =>
    have hl : len = 1 := hl; subst hl
    dsimp only [stp] at h
    split at h
    · rename_i y x S'
      obtain rfl := Option.some.inj h
      exact go_same X r N hk hn hL fun t g => XS.iadd X.here hx rfl hd rfl g
    · cases h
  | isub =>
    have hl : len = 1 := hl; subst hl
    dsimp only [stp] at h
    split at h
    · rename_i y x S'
      obtain rfl := Option.some.inj h
      exact go_same X r N hk hn hL fun t g => XS.isub X.here hx rfl hd rfl g
    · cases h
  | imul =>
    have hl : len = 1 := hl; subst hl
    dsimp only [stp] at h
    split at h
    · rename_i y x S'
      obtain rfl := Option.some.inj h
      exact go_same X r N hk hn hL fun t g => XS.imul X.here hx rfl hd rfl g
    · cases h
  | iand =>
    have hl : len = 1 := hl; subst hl
    dsimp only [stp] at h
    split at h
    · rename_i y x S'
      obtain rfl := Option.some.inj h
      exact go_same X r N hk hn hL fun t g => XS.iand X.here hx rfl hd rfl g
    · cases h
  | ior =>
    have hl : len = 1 := hl; subst hl
    dsimp only [stp] at h
    split at h
    · rename_i y x S'
      obtain rfl := Option.some.inj h
      exact go_same X r N hk hn hL fun t g => XT.ior X.here hx rfl hd rfl g
    · cases h
  | ixor =>
    have hl : len = 1 := hl; subst hl
    dsimp only [stp] at h
    split at h
    · rename_i y x S'
      obtain rfl := Option.some.inj h
      exact go_same X r N hk hn hL fun t g => XT.ixor X.here hx rfl hd rfl g
    · cases h
  | ishl =>
    have hl : len = 1 := hl; subst hl
    dsimp only [stp] at h
    split at h
    · rename_i y x S'
      obtain rfl := Option.some.inj h
      exact go_same X r N hk hn hL fun t g => XT.ishl X.here hx rfl hd rfl g
    · cases h
  | ishr =>
    have hl : len = 1 := hl; subst hl
    dsimp only [stp] at h
    split at h
    · rename_i y x S'
      obtain rfl := Option.some.inj h
      exact go_same X r N hk hn hL fun t g => XT.ishr X.here hx rfl hd rfl g
    · cases h
  | iushr =>
    have hl : len = 1 := hl; subst hl
    dsimp only [stp] at h
    split at h
    · rename_i y x S'
      obtain rfl := Option.some.inj h
      exact go_same X r N hk hn hL fun t g => XT.iushr X.here hx rfl hd rfl g
    · cases h
  | ladd =>
    have hl : len = 1 := hl; subst hl
    dsimp only [stp] at h
    split at h
    · rename_i y x S'
      obtain rfl := Option.some.inj h
      exact go_same X r N hk hn hL fun t g => XT.ladd X.here hx rfl hd rfl g
    · cases h
  | lsub =>
    have hl : len = 1 := hl; subst hl
    dsimp only [stp] at h
    split at h
    · rename_i y x S'
      obtain rfl := Option.some.inj h
      exact go_same X r N hk hn hL fun t g => XT.lsub X.here hx rfl hd rfl g
    · cases h
  | lmul =>
    have hl : len = 1 := hl; subst hl
    dsimp only [stp] at h
    split at h
    · rename_i y x S'
      obtain rfl := Option.some.inj h
      exact go_same X r N hk hn hL fun t g => XT.lmul X.here hx rfl hd rfl g
    · cases h
  | land =>
    have hl : len = 1 := hl; subst hl
    dsimp only [stp] at h
    split at h
    · rename_i y x S'
      obtain rfl := Option.some.inj h
      exact go_same X r N hk hn hL fun t g => XT.land X.here hx rfl hd rfl g
    · cases h
  | lor =>
    have hl : len = 1 := hl; subst hl
    dsimp only [stp] at h
    split at h
    · rename_i y x S'
      obtain rfl := Option.some.inj h
      exact go_same X r N hk hn hL fun t g => XT.lor X.here hx rfl hd rfl g
    · cases h
  | lxor =>
    have hl : len = 1 := hl; subst hl
    dsimp only [stp] at h
    split at h
    · rename_i y x S'
      obtain rfl := Option.some.inj h
      exact go_same X r N hk hn hL fun t g => XT.lxor X.here hx rfl hd rfl g
    · cases h
  | lshl =>
    have hl : len = 1 := hl; subst hl
    dsimp only [stp] at h
    split at h
    · rename_i y x S'
      obtain rfl := Option.some.inj h
      exact go_same X r N hk hn hL fun t g => XT.lshl X.here hx rfl hd rfl g
    · cases h
  | lshr =>
    have hl : len = 1 := hl; subst hl
    dsimp only [stp] at h
    split at h
    · rename_i y x S'
      obtain rfl := Option.some.inj h
      exact go_same X r N hk hn hL fun t g => XT.lshr X.here hx rfl hd rfl g
    · cases h
  | lushr =>
    have hl : len = 1 := hl; subst hl
    dsimp only [stp] at h
    split at h
    · rename_i y x S'
      obtain rfl := Option.some.inj h
      exact go_same X r N hk hn hL fun t g => XT.lushr X.here hx rfl hd rfl g
    · cases h
  | idiv =>
    have hl : len = 1 := hl; subst hl
    dsimp only [stp] at h
    split at h
    · rename_i y x S'
      split at h
      · cases h
      · rename_i g0
        obtain rfl := Option.some.inj h
        exact go_same X r N hk hn hL fun t g => XS.idiv X.here hx rfl hd rfl g0 g
    · cases h
  | irem =>
    have hl : len = 1 := hl; subst hl
    dsimp only [stp] at h
    split at h
    · rename_i y x S'
      split at h
      · cases h
      · rename_i g0
        obtain rfl := Option.some.inj h
        exact go_same X r N hk hn hL fun t g => iremM X hx rfl hd rfl g0 g
    · cases h
  | ldiv =>
    have hl : len = 1 := hl; subst hl
    dsimp only [stp] at h
    split at h
    · rename_i y x S'
      split at h
      · cases h
      · rename_i g0
        obtain rfl := Option.some.inj h
        exact go_same X r N hk hn hL fun t g => XT.ldiv X.here hx rfl hd rfl g0 g
    · cases h
  | lrem =>
    have hl : len = 1 := hl; subst hl
    dsimp only [stp] at h
    split at h
    · rename_i y x S'
      split at h
      · cases h
      · rename_i g0
        obtain rfl := Option.some.inj h
        exact go_same X r N hk hn hL fun t g => XT.lrem X.here hx rfl hd rfl g0 (by rw [lrem_mod]; exact g)
    · cases h
  | ineg =>
    have hl : len = 1 := hl; subst hl
    dsimp only [stp] at h
    split at h
    · rename_i x S'
      obtain rfl := Option.some.inj h
      exact go_same X r N hk hn hL fun t g => XS.ineg X.here hx rfl hd rfl g
    · cases h
  | lneg =>
    have hl : len = 1 := hl; subst hl
    dsimp only [stp] at h
    split at h
    · rename_i x S'
      obtain rfl := Option.some.inj h
      exact go_same X r N hk hn hL fun t g => XT.lneg X.here hx rfl hd rfl g
    · cases h
  | i2l =>
    have hl : len = 1 := hl; subst hl
    dsimp only [stp] at h
    split at h
    · rename_i x S'
      obtain rfl := Option.some.inj h
      exact go_same X r N hk hn hL fun t g => XT.i2l X.here hx rfl hd rfl g
    · cases h
  | l2i =>
    have hl : len = 1 := hl; subst hl
    dsimp only [stp] at h
    split at h
    · rename_i x S'
      obtain rfl := Option.some.inj h
      exact go_same X r N hk hn hL fun t g => XT.l2i X.here hx rfl hd rfl g
    · cases h
  | i2b =>
    have hl : len = 1 := hl; subst hl
    dsimp only [stp] at h
    split at h
    · rename_i x S'
      obtain rfl := Option.some.inj h
      exact go_same X r N hk hn hL fun t g => XT.i2b X.here hx rfl hd rfl g
    · cases h
  | lcmp =>
    have hl : len = 1 := hl; subst hl
    dsimp only [stp] at h
    split at h
    · rename_i y x S'
      obtain rfl := Option.some.inj h
      exact go_same X r N hk hn hL fun t g => XT.lcmp X.here hx rfl hd rfl g
    · cases h
  | dup =>
    have hl : len = 1 := hl; subst hl
    dsimp only [stp] at h
    split at h
    · rename_i v S'
      split at h
      · rename_i g0
        obtain rfl := Option.some.inj h
        exact go_same X r N hk hn hL fun t g => XS.dup X.here hx rfl hd rfl g0 g
      · cases h
    · cases h
  | pop =>
    have hl : len = 1 := hl; subst hl
    dsimp only [stp] at h
    split at h
    · rename_i v S'
      split at h
      · rename_i g0
        obtain rfl := Option.some.inj h
        exact go_same X r N hk hn hL fun t g => XT.pop X.here hx rfl hd rfl g0 g
      · cases h
    · cases h
  | dup2 =>
    have hl : len = 1 := hl; subst hl
    dsimp only [stp] at h
    split at h
    · rename_i x S'
      obtain rfl := Option.some.inj h
      exact go_same X r N hk hn hL fun t g => XT.dup2L X.here hx rfl hd rfl g
    · rename_i v w S' _
      split at h
      · rename_i g0
        obtain rfl := Option.some.inj h
        exact go_same X r N hk hn hL fun t g => XT.dup2 X.here hx rfl hd rfl g0.1 g0.2 g
      · cases h
    · cases h
  | goto o =>
    have hl : len = 3 := hl; subst hl
    obtain ⟨v, hv, rfl⟩ := Option.map_eq_some_iff.mp h
    obtain ⟨g1, g2⟩ := jmp_ok hv
    exact go_same X r N hk hn hL fun t g => XS.goto X.here hx rfl rfl hd g1 g2 g
  | ifCond cd o =>
    have hl : len = 3 := hl; subst hl
    dsimp only [stp] at h
    split at h
    · rename_i x S'
      split at h
      · rename_i g0
        obtain ⟨v, hv, rfl⟩ := Option.map_eq_some_iff.mp h
        obtain ⟨g1, g2⟩ := jmp_ok hv
        exact go_same X r N hk hn hL fun t g => XS.ifYes X.here hx rfl rfl hd rfl g0 g1 g2 g
      · rename_i g0
        obtain rfl := Option.some.inj h
        exact go_same X r N hk hn hL fun t g => XS.ifNo X.here hx rfl hd rfl (by simpa using g0) g
    · cases h
  | if_icmp cd o =>
    have hl : len = 3 := hl; subst hl
    dsimp only [stp] at h
    split at h
    · rename_i y x S'
      split at h
      · rename_i g0
        obtain ⟨v, hv, rfl⟩ := Option.map_eq_some_iff.mp h
        obtain ⟨g1, g2⟩ := jmp_ok hv
        exact go_same X r N hk hn hL fun t g => XS.icmpYes X.here hx rfl rfl hd rfl g0 g1 g2 g
      · rename_i g0
        obtain rfl := Option.some.inj h
        exact go_same X r N hk hn hL fun t g => XS.icmpNo X.here hx rfl hd rfl (by simpa using g0) g
    · cases h
  | tableswitch d lo hi os =>
    dsimp only [stp] at h
    split at h
    · rename_i x S'
      split at h
      · rename_i g0
        obtain ⟨v, hv, rfl⟩ := Option.map_eq_some_iff.mp h
        obtain ⟨g1, g2⟩ := jmp_ok hv
        exact go_same X r N hk hn hL fun t g => XS.tswOut X.here hx rfl rfl hd rfl g0 g1 g2 g
      · rename_i g0
        obtain ⟨o, ho1, h⟩ := Option.bind_eq_some_iff.mp h
        obtain ⟨v, hv, rfl⟩ := Option.map_eq_some_iff.mp h
        obtain ⟨g1, g2⟩ := jmp_ok hv
        exact go_same X r N hk hn hL fun t g => XS.tswIn X.here hx rfl rfl hd rfl g0 ho1 g1 g2 g
    · cases h
  | getfield i =>
    have hl : len = 3 := hl; subst hl
    dsimp only [stp] at h
    split at h
    · rename_i a S'
      split at h
      · rename_i g0
        obtain rfl := Option.some.inj h
        obtain ⟨T1, X1, e1, st1⟩ := getF X hx hZ hown (host := "") (Or.inl (hw _ ho.2)) Via.refl rfl ((r.obj g0).2 _ ho.1) (g := mkF mid pc L.toArray (.ref a :: S')) rfl rfl hd
        exact go_heap X1 r e1 N hk hn hL fun t g => st1 t g
      · cases h
    · cases h
  | putfield i =>
    have hl : len = 3 := hl; subst hl
    dsimp only [stp] at h
    split at h
    · rename_i v a S'
      split at h
      · rename_i g0
        obtain rfl := Option.some.inj h
        obtain ⟨o1, o2, o3⟩ := ho
        obtain ⟨w1, w2⟩ := isOw_ok g0.1
        obtain ⟨n1, n2⟩ := okv_ok g0.2
        have hlay : (Jvm.Cond.lays C C (fn aux.toNat).1 (fn aux.toNat).2).before a0 Z = true ∨ ((Jvm.Cond.laysFinal C C (fn aux.toNat).1 (fn aux.toNat).2).before a0 Z = true ∧ (nm m).cls = C ∧ meth.name = "<init>") := by
          rcases o3 with q | ⟨q1, q2⟩
          · exact Or.inl (hw _ q)
          · rcases (hG.2.2.1 _ o1).2 with q | q
            · exact Or.inl (hw _ q)
            · exact Or.inr ⟨hw _ q, q1, hnm.trans q2⟩
        obtain ⟨T1, h1, X1, e1, W1, st1⟩ := putF X hx hZ hown (host := "") (Or.inl (hw _ o2)) Via.refl rfl ((r.obj w1).2 _ o1) (r.obj w1).1 hlay (hw _ hG.1) (hG.2.2.1 _ o1).1 n1 n2 (g := mkF mid pc L.toArray (v :: .ref a :: S')) rfl rfl hd
        exact ⟨T1, _, X1, by rw [e1]; exact r.wrF hG hw w1 o1 W1, Fr.snoc X1 N (r.own w2), hk, hn, hL, st1⟩
      · cases h
    · cases h
  | iaload =>
    have hl : len = 1 := hl; subst hl
    dsimp only [stp] at h
    split at h
    · rename_i i a S'
      split at h
      · rename_i g0
        obtain rfl := Option.some.inj h
        obtain ⟨w1, w2, w3⟩ := inA_ok g0
        obtain ⟨b1, cl, b2, b3, b4⟩ := r.arr w1
        exact go_same X r N hk hn hL fun t g => X.iaload hx (g := mkF mid pc L.toArray (.int i :: .ref a :: S')) b2.1 (State.isArrayOf_alike hZ.alike b2.2.1) b2.2.2 (by rw [b3]; exact idx_not w2 w3) (b4 _ w3) rfl rfl hd t g
      · cases h
    · cases h
  | laload =>
    have hl : len = 1 := hl; subst hl
    dsimp only [stp] at h
    split at h
    · rename_i i a S'
      split at h
      · rename_i g0
        obtain rfl := Option.some.inj h
        obtain ⟨w1, w2, w3⟩ := inA_ok g0
        obtain ⟨b1, cl, b2, b3, b4⟩ := r.arr w1
        exact go_same X r N hk hn hL fun t g => X.laload hx (g := mkF mid pc L.toArray (.int i :: .ref a :: S')) b2.1 (State.isArrayOf_alike hZ.alike b2.2.1) b2.2.2 (by rw [b3]; exact idx_not w2 w3) (b4 _ w3) rfl rfl hd t g
      · cases h
    · cases h
  | baload =>
    have hl : len = 1 := hl; subst hl
    dsimp only [stp] at h
    split at h
    · rename_i i a S'
      split at h
      · rename_i g0
        obtain rfl := Option.some.inj h
        rcases g0 with g0 | g0
        · obtain ⟨w1, w2, w3⟩ := inA_ok g0
          obtain ⟨b1, cl, b2, b3, b4⟩ := r.arr w1
          exact go_same X r N hk hn hL fun t g => X.baloadBytes hx (g := mkF mid pc L.toArray (.int i :: .ref a :: S')) b2.1 (State.isArrayOf_alike hZ.alike b2.2.1) b2.2.2 (by rw [b3]; exact idx_not w2 w3) (b4 _ w3) rfl rfl hd t g
        · obtain ⟨w1, w2, w3⟩ := inA_ok g0
          obtain ⟨b1, cl, b2, b3, b4⟩ := r.arr w1
          exact go_same X r N hk hn hL fun t g => X.baloadBooleans hx (g := mkF mid pc L.toArray (.int i :: .ref a :: S')) b2.1 (State.isArrayOf_alike hZ.alike b2.2.1) b2.2.2 (by rw [b3]; exact idx_not w2 w3) (b4 _ w3) rfl rfl hd t g
      · cases h
    · cases h
  | iastore =>
    have hl : len = 1 := hl; subst hl
    dsimp only [stp] at h
    split at h
    · rename_i x i a S'
      split at h
      · rename_i g0
        obtain rfl := Option.some.inj h
        obtain ⟨g1, g2⟩ := inAw_ok g0
        obtain ⟨w1, w2, w3⟩ := inA_ok g1
        obtain ⟨b1, cl, b2, b3, b4⟩ := r.arr w1
        obtain ⟨T1, h1, X1, e1, W1, st1⟩ := stI X hx hZ rfl b2 (j := i) (x := x) (by rw [b3]; exact idx_not w2 w3) (g := mkF mid pc L.toArray (.int x :: .int i :: .ref a :: S')) rfl rfl hd
        exact ⟨T1, _, X1, by rw [e1]; exact r.wrA w1 w3 W1, Fr.snoc X1 N (r.own g2), hk, hn, hL, st1⟩
      · cases h
    · cases h
  | lastore =>
    have hl : len = 1 := hl; subst hl
    dsimp only [stp] at h
    split at h
    · rename_i x i a S'
      split at h
      · rename_i g0
        obtain rfl := Option.some.inj h
        obtain ⟨g1, g2⟩ := inAw_ok g0
        obtain ⟨w1, w2, w3⟩ := inA_ok g1
        obtain ⟨b1, cl, b2, b3, b4⟩ := r.arr w1
        obtain ⟨T1, h1, X1, e1, W1, st1⟩ := stJ X hx hZ rfl b2 (j := i) (x := x) (by rw [b3]; exact idx_not w2 w3) (g := mkF mid pc L.toArray (.long x :: .int i :: .ref a :: S')) rfl rfl hd
        exact ⟨T1, _, X1, by rw [e1]; exact r.wrA w1 w3 W1, Fr.snoc X1 N (r.own g2), hk, hn, hL, st1⟩
      · cases h
    · cases h
  | bastore =>
    have hl : len = 1 := hl; subst hl
    dsimp only [stp] at h
    split at h
    · rename_i x i a S'
      split at h
      · rename_i g0
        obtain rfl := Option.some.inj h
        rcases g0 with ⟨g0, gx⟩ | ⟨g0, gx⟩
        · obtain ⟨g1, g2⟩ := inAw_ok g0
          obtain ⟨w1, w2, w3⟩ := inA_ok g1
          obtain ⟨b1, cl, b2, b3, b4⟩ := r.arr w1
          have hx2 : nar .byte x = x := Value.int.inj (okv_ok gx).1
          obtain ⟨T1, h1, X1, e1, W1, st1⟩ := stB X hx hZ rfl b2 (j := i) (x := x) (by rw [b3]; exact idx_not w2 w3) (g := mkF mid pc L.toArray (.int x :: .int i :: .ref a :: S')) rfl rfl hd
          rw [hx2] at W1
          exact ⟨T1, _, X1, by rw [e1]; exact r.wrA w1 w3 W1, Fr.snoc X1 N (r.own g2), hk, hn, hL, st1⟩
        · obtain ⟨g1, g2⟩ := inAw_ok g0
          obtain ⟨w1, w2, w3⟩ := inA_ok g1
          obtain ⟨b1, cl, b2, b3, b4⟩ := r.arr w1
          have hx2 : nar .boolean x = x := Value.int.inj (okv_ok gx).1
          obtain ⟨T1, h1, X1, e1, W1, st1⟩ := stZ X hx hZ rfl b2 (j := i) (x := x) (by rw [b3]; exact idx_not w2 w3) (g := mkF mid pc L.toArray (.int x :: .int i :: .ref a :: S')) rfl rfl hd
          rw [hx2] at W1
          exact ⟨T1, _, X1, by rw [e1]; exact r.wrA w1 w3 W1, Fr.snoc X1 N (r.own g2), hk, hn, hL, st1⟩
      · cases h
    · cases h
  | arraylength =>
    have hl : len = 1 := hl; subst hl
    dsimp only [stp] at h
    split at h
    · rename_i a S'
      split at h
      · rename_i g0
        obtain rfl := Option.some.inj h
        obtain ⟨t0, w1⟩ : ∃ t0, (H.2 a).1 = .array t0 := by unfold isA at g0; cases hq : (H.2 a).1 <;> rw [hq] at g0 <;> first | (cases g0; done) | exact ⟨_, rfl⟩
        obtain ⟨b1, cl, b2, b3, b4⟩ := r.arr w1
        refine go_same X r N hk hn hL fun t g => X.arraylength hx (g := mkF mid pc L.toArray (.ref a :: S')) b2.1 (State.isArrayOf_alike hZ.alike b2.2.1) rfl rfl hd t ?_
        rw [b3]; exact g
      · cases h
    · cases h
  | newarray t =>
    have hl : len = 2 := hl; subst hl
    dsimp only [stp] at h
    split at h
    · rename_i cnt S'
      split at h
      · rename_i g0
        obtain rfl := Option.some.inj h
        obtain ⟨z1, z2, z3, z4⟩ := g0
        have hcb : componentBytes (newarray.typeOf t) ≤ 8 := by cases t <;> decide
        obtain ⟨cA, kA, comp, h1, h2, h3, X1, st1⟩ := X.newarrayPrim hx (mvA hZ (hw _ ho)) (g := mkF mid pc L.toArray (.int cnt :: S')) rfl hd rfl z1 (Nat.le_trans (Nat.mul_le_mul_left _ hcb) z2) z3 z4
        refine ⟨_, locs, X1, ?_, N, z3, z4, hL, fun t g => st1 t (by rw [r.1]; exact g)⟩
        exact r.ext (ext_push _ _) (by show (T.heap.push _).size = _; simp) ⟨fun _ => by rw [r.1]; exact r.2.1, (back32 z1).2, _, made_arr hZ h1 h2 h3, by simp, fun i hi => by simp [hi]⟩
      · cases h
    · cases h
  | new i =>
    have hl : len = 3 := hl; subst hl
    dsimp only [stp] at h
    split at h
    · rename_i g0
      obtain rfl := Option.some.inj h
      obtain ⟨z1, z2, z3⟩ := g0
      rw [ho.1] at z3 ⊢
      obtain ⟨vm1, cC, kC, h1, h2, h3, h4, X1, st1⟩ := X.newCold hx hown (mv hZ (hw _ ho.2)) (mv hZ (hw _ hG.1)) (mv hZ (hw _ hG.2.1)) (g := mkF mid pc L.toArray S) rfl hd z2 z3
      obtain ⟨A1, D1⟩ := made_obj (h := T.heap) (a0 := a0) hZ h1 h2
      refine ⟨_, locs, X1, ?_, N, z2, z3, hL, fun t g => st1 t (by rw [r.1]; exact g)⟩
      exact r.ext (ext_push _ _) (by show (T.heap.push _).size = _; simp) ⟨fun _ => by rw [r.1]; exact r.2.1, A1, fun j hj => D1 (((hG.2.2.1 j hj).2).imp (hw _) (hw _)) (hG.2.2.1 j hj).1⟩
    · cases h
  | invokespecial i =>
    have hl : len = 3 := hl; subst hl
    dsimp only [stp] at h
    split at h
    · rename_i a S'
      split at h
      · rename_i g0
        obtain rfl := Option.some.inj h
        obtain ⟨rfl, z2, z3⟩ := g0
        obtain ⟨o1, o2, o3⟩ := ho.1 rfl
        obtain ⟨T1, X1, e1, st1⟩ := initO X hx hZ hown (hw _ o1) (hw _ o2) (hw _ o3) rfl (g := mkF mid pc L.toArray (.ref a :: S')) rfl (by rw [hml, ← hL]; simp) rfl hd z2 (W := cs S') (by show 2 * 0 + _ ≤ _; exact Nat.le_of_eq (Nat.zero_add _)) z3
        exact go_heap X1 r e1 N hk hn hL fun t g => st1 t g
      · cases h
    · cases h
  | _ => exact absurd (show (none : Option Fm) = some q from h) (by simp)
end Step
end Jvm.JX

namespace Jvm.JX
open Sem ClassFile Op Lib Jvm.Stand Jvm.Free Jvm.LawKit Jvm.RoadKit
section Sound
variable {P : Prog} {tb : List Jvm.Cond} {C : String} {fn : Nat → String × String} {F : List Nat} {nsl : Nat} {nm : Nat → MethodName} {bt : Nat → ByteArray} {R : List Nat} {top : Nat}
variable {l : Launch} {Z : State} {a0 : Array Value} {n0 : Nat}
def Endd (C : String) (fn : Nat → String × String) (F : List Nat) (Z : State) (n0 : Nat) (p : Program) (l : Launch) (e : Env) (Rm : Jvm.Room) (s : State) (mid : MethodId) (args : Array Value) (below : List Frame) (meth : Method) (c : Code) (rt0 : Option FieldType) (start : State) (v : Option Value) (H' : AH) : Prop :=
  ∃ T' locs' k' n', Stand p l e Rm s mid args below meth c T' locs' k' n' ∧ RelH C fn F Z n0 T'.heap H' ∧ Fr n0 locs' ∧ k' ≤ Rm.cells ∧ n' ≤ Rm.slots ∧ (rt0 = none → v = none) ∧
    ∀ fs, (∀ (f : JFrame) (acts : List Action), f.method = mid → f.locked = none → f.entered = [] → (doReturn e (T'.setTop f) acts v).1 = T'.setFrames fs) → Steps p.tables e below start (T'.setFrames fs)
def Says (P : Prog) (C : String) (fn : Nat → String × String) (F : List Nat) (nm : Nat → MethodName) (bt : Nat → ByteArray) (l : Launch) (Z : State) (n0 m pc : Nat) (L : List Slot) (S : List Value) (k n : Nat) (H : AH) (v : Option Value) (H' : AH) : Prop :=
  ∀ (p : Program) (e : Env) (s : State) (mid : MethodId) (args : Array Value) (below : List Frame) (meth : Method) (c : Code) (T : State) (locs : List Loc), Stand p l e (rm P m) s mid args below meth c T locs k n → p.tables.exec = Jvm.exec → Z.Warmed39 s.vm → c.code = bt m → c.maxLocals = ml P m →
    s.vm.findClass (nm m).cls = some mid.cls → meth.name = (nm m).name → meth.sig.returnType = rt P m → L.length = ml P m → RelH C fn F Z n0 T.heap H → Fr n0 locs → k ≤ (rm P m).cells → n ≤ (rm P m).slots →
    Endd C fn F Z n0 p l e (rm P m) s mid args below meth c (rt P m) (T.setTop (mkF mid pc L.toArray S)) v H'
theorem Endd.back {p : Program} {e : Env} {Rm : Jvm.Room} {s : State} {mid : MethodId} {args : Array Value} {below : List Frame} {meth : Method} {c : Code} {rt0 : Option FieldType} {start start' : State} {v : Option Value} {H' : AH}
    (h : Endd C fn F Z n0 p l e Rm s mid args below meth c rt0 start' v H') (st : ∀ t, Steps p.tables e below start' t → Steps p.tables e below start t) : Endd C fn F Z n0 p l e Rm s mid args below meth c rt0 start v H' := by
  obtain ⟨T', locs', k', n', h1, h2, h3, h4, h5, h6, h7⟩ := h
  exact ⟨T', locs', k', n', h1, h2, h3, h4, h5, h6, fun fs g => st _ (h7 fs g)⟩
theorem met_of {m : Nat} {as : List Value} {H H' : AH} {v : Option Value} {h : Heap} (ws : List Jvm.Cond) (hp : plainName (nm m).cls = true) (hl : (Sym.laidSlots as).length ≤ ml P m) (r : RelH C fn F Z n0 h H)
    (hS : Says P C fn F nm bt l Z n0 m 0 (ent P m as) [] 0 0 H v H') :
    MetFree l (nm m) (head1 (Jvm.Cond.code (nm m) (bt m) (ml P m) (rt P m) :: ws) (rm P m)) (fun a U => a = as.toArray ∧ Z.Warmed39 U.vm ∧ U.heap = h) (fun _ _ _ _ _ => True)
      (fun _ U o U' => ∃ v' L, o = .returned v' ∧ (v' = v ∧ Fr n0 L ∧ RelH C fn F Z n0 U'.heap H') ∧ FrameEnd U o U' L (rm P m).cells (rm P m).slots) := by
  refine MetFree.of_bodySF (plainFor_of_name hp) hisR ?_
  intro p e s mid args below meth c s₁ Bd hml0 hP hK
  obtain ⟨rfl, hZ, hh⟩ := hP
  have X0 : Stand p l e (rm P m) s mid as.toArray below meth c s₁ [] 0 0 := Stand.of_body Bd
  have e0 : s₁.heap = h := by rw [← hh, Bd.state]; rfl
  have hle : (ent P m as).length = ml P m := by simp [ent]; omega
  obtain ⟨T', locs', k', n', X1, r1, N1, hk1, hn1, hv1, st1⟩ := hS p e s mid as.toArray below meth c s₁ [] X0 Bd.exec hZ Bd.bytes hml0 (findClass_of_methodNamed Bd.named) (name_of_methodNamed Bd.named Bd.method).1 Bd.returns hle (by rw [e0]; exact r) (Fr.nil n0) (Nat.zero_le _) (Nat.zero_le _)
  obtain ⟨fs, hr, hrun, hended, hW, hsame⟩ := X1.leave (v := v) (fun q => hv1 (Bd.returns.symm.trans q))
  refine ⟨_, _, (Jvm.Free.XT.entry (Ls := (ent P m as).toArray) (by simp [ent])).trans (st1 fs hr), hrun, hended, v, locs', rfl, ⟨rfl, N1, r1⟩, ⟨_, rfl⟩, hW, hsame.mono hk1 hn1⟩
theorem ret_ok {m : Nat} {ins : Instr} {S : List Value} {v : Option Value} (h : ret P m ins S = some v) : (rt P m = none ∧ v = none ∧ ins = .return_ ∧ S = []) ∨ ∃ t w rest, rt P m = some t ∧ v = some w ∧ S = w :: rest ∧ narrow t w = w ∧
    ((ins = .ireturn ∧ (t = .int ∨ t = .boolean ∨ t = .byte ∨ t = .char ∨ t = .short) ∧ ∃ z, w = .int z) ∨ (ins = .lreturn ∧ t = .long ∧ ∃ z, w = .long z)) := by
  unfold ret at h
  split at h
  · split at h
    · rename_i g; cases h; exact Or.inl ⟨g.1, rfl, rfl, g.2⟩
    · cases h
  · split at h
    · rename_i z rest g; cases h; exact Or.inr ⟨.int, _, rest, g, rfl, rfl, rfl, Or.inl ⟨rfl, Or.inl rfl, z, rfl⟩⟩
    · rename_i z rest g
      split at h
      · rename_i g0
        cases h
        refine Or.inr ⟨.boolean, _, rest, g, rfl, rfl, ?_, Or.inl ⟨rfl, Or.inr (Or.inl rfl), z, rfl⟩⟩
        rcases g0 with rfl | rfl <;> rfl
      · cases h
    · cases h
  · split at h
    · rename_i z rest g; cases h; exact Or.inr ⟨.long, _, rest, g, rfl, rfl, rfl, Or.inr ⟨rfl, rfl, z, rfl⟩⟩
    · cases h
  · cases h
theorem cal_ok {m m' k n : Nat} {ins : Instr} {aux : Int} {S a r : List Value} {H : AH} (h : cal P m ins aux S k n H = some (m', a, r)) : aux = (m' : Int) ∧ kindOk ins (kd P m') = true ∧ may P m m' a r k n H = true ∧ S = a.reverse ++ r := by
  have h1 : cal1 P m ins aux S k n H = some (m', a, r) := by
    unfold cal at h
    split at h <;> first | exact h | (cases h)
  unfold cal1 at h1
  split at h1
  · rename_i g
    cases h1
    exact ⟨by omega, g.2.1, g.2.2, by rw [List.reverse_reverse]; exact (List.take_append_drop ..).symm⟩
  · cases h1
end Sound
end Jvm.JX

namespace Jvm.JX
open Sem ClassFile Op Lib Jvm.Stand Jvm.Free Jvm.LawKit Jvm.RoadKit
section Sound
variable {P : Prog} {tb : List Jvm.Cond} {C : String} {fn : Nat → String × String} {F : List Nat} {nsl : Nat} {nm : Nat → MethodName} {bt : Nat → ByteArray} {R : List Nat} {top : Nat}
variable {l : Launch} {Z : State} {a0 : Array Value} {n0 : Nat}
theorem may_ok {m m' k n : Nat} {a r : List Value} {H : AH} (h : may P m m' a r k n H = true) : (Sym.laidSlots a).length ≤ ml P m' ∧ a.length = na P m' ∧ (rm P m').frames + 1 ≤ (rm P m).frames ∧ cs r + (ml P m' + 11) + (rm P m').locals ≤ (rm P m).locals ∧
    (((rm P m').cells = 0 ∧ (rm P m').slots = 0) ∨ (k + (rm P m').cells ≤ (rm P m).cells ∧ n + (rm P m').slots ≤ (rm P m).slots)) ∧ (kd P m' = 0 ∨ rcv H a = true) := by
  simpa [may, and_assoc] using h
theorem rcv_ok {H : AH} {a : List Value} (h : rcv H a = true) : ∃ b as, a = .ref b :: as ∧ isO H b = true := by
  unfold rcv at h
  split at h
  · exact ⟨_, _, rfl, h⟩
  · cases h
set_option maxHeartbeats 1000000 in
theorem call_go {m pc len k n m' : Nat} {aux : Int} {L : List Slot} {S a r : List Value} {H H1 : AH} {ins : Instr} {v1 : Option Value} {p : Program} {e : Env} {s : State} {mid : MethodId} {args : Array Value} {below : List Frame} {meth : Method} {c : Code} {T : State} {locs : List Loc}
    (hG : Good P tb C fn F nsl nm bt R top) (hw : ∀ d ∈ tb, d.before a0 Z = true) (hm : m ∈ R) (hrow : P.1 m pc = some (ins, len, aux)) (hc : cal P m ins aux S k n H = some (m', a, r)) (hS : m' ∈ R → Says P C fn F nm bt l Z n0 m' 0 (ent P m' a) [] 0 0 H v1 H1)
    (X : Stand p l e (rm P m) s mid args below meth c T locs k n) (hx : p.tables.exec = Jvm.exec) (hZ : Z.Warmed39 s.vm)
    (hby : c.code = bt m) (hml : c.maxLocals = ml P m) (hown : s.vm.findClass (nm m).cls = some mid.cls) (hL : L.length = ml P m) (rr : RelH C fn F Z n0 T.heap H) (N : Fr n0 locs) (hk : k ≤ (rm P m).cells) (hn : n ≤ (rm P m).slots) :
    Go C fn F Z n0 p l e (rm P m) s mid args below meth c (T.setTop (mkF mid pc L.toArray S)) (ml P m) (pc + len, L, v1.toList ++ r, k + (rm P m').cells, n + (rm P m').slots, H1) := by
  obtain ⟨hd, hl, ho⟩ := (hG.2.2.2.2.1 m hm).2.2 pc ins len aux hrow
  replace hd := hb hby hd
  obtain ⟨e1, e2, e3, e4⟩ := cal_ok hc
  obtain ⟨y1, y2, y3, y4, y5, y6⟩ := may_ok e3
  have hnt : m' ≠ top := fun q => by
    have := hG.2.2.2.2.2.2 m hm pc ins len aux hrow (by rw [e1, q])
    rw [q, this] at e2; cases e2
  have y5' : k + (rm P m').cells ≤ (rm P m).cells ∧ n + (rm P m').slots ≤ (rm P m).slots := by rcases y5 with ⟨q1, q2⟩ | q <;> omega
  have hsize : (mkF mid pc L.toArray S).locals.size = c.maxLocals := by rw [hml, ← hL]; simp
  have hcs : 2 * (mkF mid pc L.toArray S).monitorRoom + (r.map fun v => v.category).sum ≤ cs r := by show 2 * 0 + _ ≤ _; exact Nat.le_of_eq (Nat.zero_add _)
  subst e1
  cases ins with
  | invokevirtual ix =>
    have hl : len = 3 := hl
    subst hl
    obtain ⟨mR, lnk⟩ := ho
    rw [Int.toNat_natCast] at mR lnk
    obtain ⟨c1, c2, ⟨ps, rr0, c3, c4⟩, c5, c6, c7, c8, c9⟩ := hG.2.2.2.2.2.1 m' mR hnt
    have hk0 : kd P m' ≠ 0 := fun q => by rw [q] at e2; cases e2
    obtain ⟨hcls, hinst⟩ := c6 hk0
    obtain ⟨b, as, rfl, hb⟩ := rcv_ok (y6.resolve_left hk0)
    obtain ⟨Eb, -⟩ := rr.obj hb
    have hlen : as.length = ps.length := by rw [if_neg hk0] at c4; simp only [List.length_cons] at y2; omega
    have eS : S = as.reverse ++ .ref b :: r := by rw [e4]; simp
    subst eS
    obtain ⟨pn, hy, -⟩ := hG.2.2.2.2.1 m' mR
    have BK := backOf (Q := fun v' h' L' => v' = v1 ∧ Fr n0 L' ∧ RelH C fn F Z n0 h' H1) (R := rm P m) (W := cs r) (p := p) (e := e) (below := below) (s := s) (args := args) (len := 3) (met_of [] pn y1 rr (hS mR)) hZ (hw _ c1) (hw _ c2) y3 y4
    have hkk : kd P m' = 1 ∨ kd P m' = 2 := by simpa [kindOk] using e2
    rcases hkk with hkk | hkk
    · obtain ⟨d1, d2⟩ := c7 hkk
      obtain ⟨cB, kB, q1, q2, q3⟩ := isOf (T := T) hZ rfl Eb
      obtain ⟨v, vm1, ⟨T1, L1, k1, n1⟩, -, X1, ⟨Lc, hQ, l1, z1, z2⟩, st⟩ := X.virtualBack hx (y := nm m') (z := nm m') hown (mvT hZ (hw _ lnk)) (mvT hZ (hw _ d1)) (notFace_of_selects (args := #[]) (mvT hZ (hw _ d2))) (mvT hZ (hw _ d2)) (mvT hZ (hw _ hinst)) hy BK q1 q3 (g := mkF mid pc L.toArray (as.reverse ++ .ref b :: r)) rfl hsize (Steps.refl _) (argsL := as) (rest := r) (lenOf c3 hlen) rfl hcs hd (fun _ _ => ⟨rfl, rfl, y5'.1, y5'.2⟩)
      dsimp only [Pt.U, Pt.locs, Pt.cells, Pt.slots] at X1 l1 z1 z2 st hQ
      subst l1 z1 z2
      obtain ⟨rfl, N1, r1⟩ := hQ
      exact ⟨T1, _, X1, r1, Fr.app N N1, y5'.1, y5'.2, hL, fun t g => st.trans g⟩
    · obtain ⟨ci, ki, i1, i2, i3, i4, -⟩ := Cond.instantiable_spec (show (Jvm.Cond.instantiable C nsl).before args s = true from mv hZ (hw _ hG.1))
      have hni : ki.isInterface = false := (Bool.or_eq_false_iff.mp i4).1
      have hpriv := Cond.privateMethod_at (mvP hZ (hw _ (c8 hkk)) (args := #[]))
      have hsel : (Jvm.Cond.selects (nm m').cls (nm m') (nm m')).before args s = true := selects_self_of_private (by rw [hcls]; exact i1) i2 hni hpriv (mvT hZ (hw _ hinst)) hy
      obtain ⟨cl, hcl, hcl'⟩ := Eb.cell
      obtain ⟨v, vm1, ⟨T1, L1, k1, n1⟩, -, X1, ⟨Lc, hQ, l1, z1, z2⟩, st⟩ := X.privateBack hx (y := nm m') hown (mvT hZ (hw _ lnk)) (mvT hZ (hw _ hinst)) hsel hpriv (mvT hZ (hw _ c1)) hy BK (g := mkF mid pc L.toArray (as.reverse ++ .ref b :: r)) rfl hsize (Steps.refl _) (a := b) hcl hcl' (argsL := as) (rest := r) (lenOf c3 hlen) rfl hcs hd (fun _ _ => ⟨rfl, rfl, y5'.1, y5'.2⟩)
      dsimp only [Pt.U, Pt.locs, Pt.cells, Pt.slots] at X1 l1 z1 z2 st hQ
      subst l1 z1 z2
      obtain ⟨rfl, N1, r1⟩ := hQ
      exact ⟨T1, _, X1, r1, Fr.app N N1, y5'.1, y5'.2, hL, fun t g => st.trans g⟩
  | invokestatic ix =>
    have hl : len = 3 := hl
    subst hl
    obtain ⟨mR, lnk⟩ := ho
    rw [Int.toNat_natCast] at mR lnk
    obtain ⟨c1, c2, ⟨ps, rr0, c3, c4⟩, c5, c6, c7, c8, c9⟩ := hG.2.2.2.2.2.1 m' mR hnt
    have hk0 : kd P m' = 0 := by simpa [kindOk] using e2
    have hlen : a.length = ps.length := by rw [if_pos hk0] at c4; omega
    subst e4
    obtain ⟨pn, hy, -⟩ := hG.2.2.2.2.1 m' mR
    have BK := backOf (Q := fun v' h' L' => v' = v1 ∧ Fr n0 L' ∧ RelH C fn F Z n0 h' H1) (R := rm P m) (W := cs r) (p := p) (e := e) (below := below) (s := s) (args := args) (len := 3) (met_of [] pn y1 rr (hS mR)) hZ (hw _ c1) (hw _ c2) y3 y4
    obtain ⟨v, vm1, ⟨T1, L1, k1, n1⟩, -, X1, ⟨Lc, hQ, l1, z1, z2⟩, st⟩ := Jvm.LawKit.callS X hx (y := nm m') hown (mvT hZ (hw _ lnk)) (mvT hZ (hw _ (c5 hk0))) (mvT hZ (hw _ c2)) (mvT hZ (hw _ c1)) hy BK (g := mkF mid pc L.toArray (a.reverse ++ r)) rfl hsize (argsL := a) (rest := r) (lenOf c3 hlen) rfl hcs hd (fun _ _ => ⟨rfl, rfl, y5'.1, y5'.2⟩)
    dsimp only [Pt.U, Pt.locs, Pt.cells, Pt.slots] at X1 l1 z1 z2 st hQ
    subst l1 z1 z2
    obtain ⟨rfl, N1, r1⟩ := hQ
    exact ⟨T1, _, X1, r1, Fr.app N N1, y5'.1, y5'.2, hL, fun t g => st t g⟩
  | invokespecial ix =>
    have hl : len = 3 := hl
    subst hl
    obtain ⟨mR, lnk⟩ := ho.2 (by omega)
    rw [Int.toNat_natCast] at mR lnk
    obtain ⟨c1, c2, ⟨ps, rr0, c3, c4⟩, c5, c6, c7, c8, c9⟩ := hG.2.2.2.2.2.1 m' mR hnt
    have hk3 : kd P m' = 3 := by simpa [kindOk] using e2
    have hk0 : kd P m' ≠ 0 := by omega
    obtain ⟨hcls, hinst⟩ := c6 hk0
    obtain ⟨hn3, hr3⟩ := c9 hk3
    obtain ⟨b, as, rfl, hb⟩ := rcv_ok (y6.resolve_left hk0)
    have hlen : as.length = ps.length := by rw [if_neg hk0] at c4; simp only [List.length_cons] at y2; omega
    have eS : S = as.reverse ++ .ref b :: r := by rw [e4]; simp
    subst eS
    obtain ⟨pn, hy, -⟩ := hG.2.2.2.2.1 m' mR
    have BK := backOf (Q := fun v' h' L' => v' = v1 ∧ Fr n0 L' ∧ RelH C fn F Z n0 h' H1) (R := rm P m) (W := cs r) (p := p) (e := e) (below := below) (s := s) (args := args) (len := 3) (met_of [] pn y1 rr (hS mR)) hZ (hw _ c1) (hw _ c2) y3 y4
    rw [hr3] at c1
    obtain ⟨v, vm1, ⟨T1, L1, k1, n1⟩, -, X1, ⟨Lc, hQ, l1, z1, z2⟩, st⟩ := X.specialBack hx (y := nm m') hn3 hown (mvT hZ (hw _ lnk)) (mvT hZ (hw _ hinst)) (mvT hZ (hw _ c1)) hy BK (g := mkF mid pc L.toArray (as.reverse ++ .ref b :: r)) rfl hsize (Steps.refl _) (a := b) (argsL := as) (rest := r) (lenOf c3 hlen) rfl hcs hd (fun _ _ => ⟨rfl, rfl, y5'.1, y5'.2⟩)
    dsimp only [Pt.U, Pt.locs, Pt.cells, Pt.slots] at X1 l1 z1 z2 st hQ
    subst l1 z1 z2
    obtain ⟨rfl, N1, r1⟩ := hQ
    exact ⟨T1, _, X1, r1, Fr.app N N1, y5'.1, y5'.2, hL, fun t g => st.trans g⟩
  | _ => cases e2
theorem sound (hG : Good P tb C fn F nsl nm bt R top) (hw : ∀ d ∈ tb, d.before a0 Z = true) : ∀ (f m : Nat), m ∈ R → ∀ (pc : Nat) (L : List Slot) (S : List Value) (k n : Nat) (H : AH) (v : Option Value) (H' : AH), run P f m pc L S k n H = some (v, H') → Says P C fn F nm bt l Z n0 m pc L S k n H v H' := by
  intro f
  induction f with
  | zero => intro m _ pc L S k n H v H' h; cases h
  | succ f ih =>
    intro m hm pc L S k n H v H' h p e s mid args below meth c T locs X hx hZ hby hml hown hnm hret hL r N hk hn
    rw [run_succ] at h
    cases hd : P.1 m pc with
    | none => rw [hd] at h; cases h
    | some d =>
      obtain ⟨ins, len, aux⟩ := d
      rw [hd] at h
      simp only at h
      cases hr : ret P m ins S with
      | some v1 =>
        rw [hr] at h
        cases h
        obtain ⟨hdec, hl, -⟩ := (hG.2.2.2.2.1 m hm).2.2 pc ins len aux hd
        replace hdec := hb hby hdec
        rcases ret_ok hr with ⟨q1, rfl, rfl, q0⟩ | ⟨t, w, rest, q1, rfl, rfl, q4, q5⟩
        · have hl : len = 1 := hl
          subst hl
          exact ⟨T, locs, k, n, X, r, N, hk, hn, fun _ => rfl, fun fs g => by subst q0; exact X.returnOut hx (hret.trans q1) hdec g⟩
        · refine ⟨T, locs, k, n, X, r, N, hk, hn, fun q => absurd (q1.symm.trans q) (by simp), fun fs g => ?_⟩
          have hl1 : len = 1 := by
            rcases q5 with ⟨rfl, -⟩ | ⟨rfl, -⟩ <;> exact hl
          subst hl1
          exact retOut X hx (hret.trans q1) q4 (q5.elim (fun u => Or.inl u) (fun u => Or.inr (Or.inl u))) hdec g
      | none =>
        rw [hr] at h
        simp only at h
        cases hc : cal P m ins aux S k n H with
        | some cc =>
          obtain ⟨m', a, rs⟩ := cc
          rw [hc] at h
          simp only at h
          cases hq : run P f m' 0 (ent P m' a) [] 0 0 H with
          | none => rw [hq] at h; cases h
          | some q =>
            obtain ⟨v1, H1⟩ := q
            rw [hq] at h
            obtain ⟨T1, locs1, X1, r1, N1, hk1, hn1, hL1, st⟩ := call_go hG hw hm hd hc (fun mR => ih m' mR _ _ _ _ _ _ _ _ hq) X hx hZ hby hml hown hL r N hk hn
            exact (ih m hm _ _ _ _ _ _ _ _ h p e s mid args below meth c T1 locs1 X1 hx hZ hby hml hown hnm hret hL1 r1 N1 hk1 hn1).back st
        | none =>
          rw [hc] at h
          simp only at h
          cases hs : stp P m ins len aux pc L S k n H with
          | none => rw [hs] at h; cases h
          | some q =>
            rw [hs] at h
            obtain ⟨T1, locs1, X1, r1, N1, hk1, hn1, hL1, st⟩ := stp_go hG hw hm hd hs X hx hZ hby hml hown hnm hL r N hk hn
            exact (ih m hm _ _ _ _ _ _ _ _ h p e s mid args below meth c T1 locs1 X1 hx hZ hby hml hown hnm hret hL1 r1 N1 hk1 hn1).back st
theorem law_met (hG : Good P tb C fn F nsl nm bt R top) (hw : ∀ d ∈ tb, d.before a0 Z = true) {as : List Value} {H : AH} {h : Heap} {Q : Option Value → AH → Prop} (ws : List Jvm.Cond) (ht : top ∈ R) (hl : (Sym.laidSlots as).length ≤ ml P top) (r : RelH C fn F Z n0 h H) (hC : Cl P top as H Q) :
    MetFree l (nm top) (head1 (Jvm.Cond.code (nm top) (bt top) (ml P top) (rt P top) :: ws) (rm P top)) (fun a U => a = as.toArray ∧ Z.Warmed39 U.vm ∧ U.heap = h) (fun _ _ _ _ _ => True)
      (fun _ U o U' => ∃ v' L, o = .returned v' ∧ (Fr n0 L ∧ ∃ H', Q v' H') ∧ FrameEnd U o U' L (rm P top).cells (rm P top).slots) := by
  obtain ⟨f, v, H', h1, h2⟩ := hC
  have hM := met_of (l := l) (h := h) ws (hG.2.2.2.2.1 top ht).1 hl r (sound hG hw f top ht _ _ _ _ _ _ _ _ h1)
  intro p e ha hc hk s m args below hf happ hP hK
  obtain ⟨n, o, q1, q2, q3, v', L, q4, ⟨q5, q6, q7⟩, q8⟩ := hM p e ha hc hk s m args below hf happ hP hK
  exact ⟨n, o, q1, q2, q3, v', L, q4, ⟨q6, H', by rw [q5]; exact h2⟩, q8⟩
end Sound
end Jvm.JX
namespace Jvm.JX
open Sem ClassFile Op Lib Jvm.Stand Jvm.Free Jvm.LawKit Jvm.RoadKit
theorem fa0 {α : Type} {p : α → Prop} : ∀ x ∈ ([] : List α), p x := fun _ q => nomatch q
theorem faS {α : Type} {p : α → Prop} {y : α} {L : List α} (q : p y) (r : ∀ x ∈ L, p x) : ∀ x ∈ y :: L, p x := fun x z => (List.mem_cons.mp z).elim (fun u => u ▸ q) (r x)
def rowChk (FL ML : List (Nat × Nat × Nat)) (KI KJ : List (Nat × Nat × Int)) (AT : List FieldType) (WF : List Nat) (nsl nw : Nat) (own : Nat) (ini : Bool) (ins : Instr) (aux : Int) : Bool :=
  match ins with
  | .getfield i => FL.contains (own, i, aux.toNat)
  | .putfield i => FL.contains (own, i, aux.toNat) && (WF.contains aux.toNat || ini)
  | .new i => decide (aux.toNat = nsl) && decide (own = 1) && decide (i = nw)
  | .newarray t => decide (newarray.typeOf t ∈ AT)
  | .ldc i => KI.contains (own, i, aux)
  | .ldc2_w i => KJ.contains (own, i, aux)
  | .invokevirtual i => ML.contains (own, i, aux.toNat)
  | .invokestatic i => ML.contains (own, i, aux.toNat)
  | .invokespecial i => if aux = -1 then decide (own = 0) && decide (i = 1) else ML.contains (own, i, aux.toNat)
  | _ => true
def rowOne (FL ML : List (Nat × Nat × Nat)) (KI KJ : List (Nat × Nat × Int)) (AT : List FieldType) (WF : List Nat) (nsl nw : Nat) (bt : Nat → ByteArray) (own : Nat → Nat) (ini : Nat → Bool) (m : Nat) (r : Row) : Bool :=
  decide (decode (bt m) r.1 = .ok (r.2.1, r.2.2.1)) && decide (r.2.2.1 = ilen2 r.2.1 r.2.2.1) && rowChk FL ML KI KJ AT WF nsl nw (own m) (ini m) r.2.1 r.2.2.2
theorem all_td {α : Type} {p : α → Bool} {l : List α} (c : Nat) (h1 : (l.take c).all p = true) (h2 : (l.drop c).all p = true) : l.all p = true := by
  rw [← List.take_append_drop c l, List.all_append, h1, h2]; rfl
theorem all_c {α : Type} {p : α → Bool} {l : List α} {a : α} (h1 : p a = true) (h2 : l.all p = true) : (a :: l).all p = true := by
  rw [List.all_cons, h1, h2]; rfl
theorem all_n {α : Type} {p : α → Bool} : ([] : List α).all p = true := rfl
theorem lookup_mem {L : List Row} {pc : Nat} {d : Instr × Nat × Int} (h : L.lookup pc = some d) : (pc, d) ∈ L := by
  induction L with
  | nil => cases h
  | cons x L ih =>
    obtain ⟨k, v⟩ := x
    rw [List.lookup_cons] at h
    by_cases e : pc = k
    · subst e; simp at h; subst h; exact List.mem_cons_self ..
    · have : (pc == k) = false := by simpa using e
      rw [this] at h; exact List.mem_cons_of_mem _ (ih h)
theorem row_ok {P : Prog} {tb : List Jvm.Cond} {C : String} {fn : Nat → String × String} {F : List Nat} {nsl nw : Nat} {nm : Nat → MethodName} {R : List Nat} {cn : Nat → String} {own : Nat → Nat} {ini : Nat → Bool}
    {FL ML : List (Nat × Nat × Nat)} {KI KJ : List (Nat × Nat × Int)} {AT : List FieldType} {WF : List Nat} {m : Nat} {ins : Instr} {aux : Int}
    (hown : (nm m).cls = cn (own m)) (hini : ini m = true → (nm m).cls = C ∧ (nm m).name = "<init>")
    (hFL : ∀ t ∈ FL, t.2.2 ∈ F ∧ Jvm.Cond.fieldLink (cn t.1) t.2.1 C (fn t.2.2).1 (fn t.2.2).2 ∈ tb) (hWF : ∀ k ∈ WF, Jvm.Cond.lays C C (fn k).1 (fn k).2 ∈ tb)
    (hML : ∀ t ∈ ML, t.2.2 ∈ R ∧ Jvm.Cond.methodLink (cn t.1) t.2.1 (nm t.2.2) ∈ tb) (hKI : ∀ t ∈ KI, Jvm.Cond.constant (cn t.1) t.2.1 (Int32.ofInt t.2.2) ∈ tb) (hKJ : ∀ t ∈ KJ, Jvm.Cond.constantLong (cn t.1) t.2.1 (Int64.ofInt t.2.2) ∈ tb)
    (hAT : ∀ t ∈ AT, Jvm.Cond.arrayClass t ∈ tb) (hN : Jvm.Cond.classLink (cn 1) nw C ∈ tb)
    (hO : Jvm.Cond.methodLink (cn 0) 1 Lib.objectInit ∈ tb ∧ Jvm.Cond.instanceMethod Lib.objectInit ∈ tb ∧ Jvm.Cond.code Lib.objectInit ⟨#[0xb1]⟩ 1 none ∈ tb)
    (h : rowChk FL ML KI KJ AT WF nsl nw (own m) (ini m) ins aux = true) : RowOk P tb C fn F nsl nm R m ins aux := by
  cases ins <;> first | trivial | skip
  case getfield i => have q := hFL _ (List.contains_iff_mem.mp h); exact ⟨q.1, by rw [hown]; exact q.2⟩
  case putfield i =>
    simp only [rowChk, Bool.and_eq_true, Bool.or_eq_true] at h
    have q := hFL _ (List.contains_iff_mem.mp h.1)
    exact ⟨q.1, by rw [hown]; exact q.2, h.2.imp (fun u => hWF _ (List.contains_iff_mem.mp u)) hini⟩
  case new i =>
    simp only [rowChk, Bool.and_eq_true, decide_eq_true_eq] at h
    obtain ⟨⟨h1, h2⟩, h3⟩ := h
    exact ⟨h1, by rw [hown, h2, h3]; exact hN⟩
  case newarray t => exact hAT _ (of_decide_eq_true h)
  case ldc i => have q := hKI _ (List.contains_iff_mem.mp h); show _ ∈ tb; rw [hown]; exact q
  case ldc2_w i => have q := hKJ _ (List.contains_iff_mem.mp h); show _ ∈ tb; rw [hown]; exact q
  case invokevirtual i => have q := hML _ (List.contains_iff_mem.mp h); exact ⟨q.1, by rw [hown]; exact q.2⟩
  case invokestatic i => have q := hML _ (List.contains_iff_mem.mp h); exact ⟨q.1, by rw [hown]; exact q.2⟩
  case invokespecial i =>
    simp only [rowChk] at h
    refine ⟨fun e => ?_, fun e => ?_⟩
    · rw [if_pos e] at h
      simp only [Bool.and_eq_true, decide_eq_true_eq] at h
      rw [hown, h.1, h.2]; exact hO
    · rw [if_neg (by omega)] at h
      have q := hML _ (List.contains_iff_mem.mp h)
      exact ⟨q.1, by rw [hown]; exact q.2⟩
theorem rel_H1 {C : String} {fn : Nat → String × String} {F : List Nat} {s : State} {a : Addr} {cl : Cell} (hf : Fit s) (A : Arr s s.heap a cl .int) (hl : cl.slots.size < 2 ^ 31) :
    ∃ f : Nat → Int32, RelH C fn F s s.heap.size s.heap (H1 s.heap.size a cl.slots.size f) := by
  refine ⟨fun i => match cl.slots[i]? with | some (.int x) => x | _ => 0, rfl, Nat.le_refl _, fun b => ?_⟩
  simp only [H1]
  by_cases e : b = a
  · subst e
    simp only [if_true]
    refine ⟨fun q => (by cases q), hl, cl, A, rfl, fun i hi => ?_⟩
    have hi : i < cl.slots.size := hi
    have hj := idx_in hi hl
    obtain ⟨v, q1, q2⟩ := elem_fit hf A hj
    have e2 : (i.toInt32).toNatClampNeg = i := by
      have := len_toInt (n := i) (by omega)
      simp only [Int32.toNatClampNeg, this]; omega
    rw [e2] at q1
    obtain ⟨x, rfl⟩ := fit_I q2 (Or.inl rfl)
    show _ = some (Value.int (match cl.slots[i]? with | some (.int x) => x | _ => 0))
    rw [q1]
  · simp only [e, if_false]; exact ⟨fun q => (by cases q), trivial⟩
end Jvm.JX

namespace Jvm.JX.Pj
open Jvm Jvm.ClassFile Sem Op Lib Jvm.JX
def r1 : List Row := [(0, .aload_n 0, 1, 0), (1, .invokespecial 1, 3, (-1)), (4, .aload_n 0, 1, 0), (5, .sipush 128, 3, 0), (8, .newarray .int, 2, 0), (10, .putfield 7, 3, 1), (13, .aload_n 0, 1, 0), (14, .sipush 128, 3, 0), (17, .newarray .int, 2, 0), (19, .putfield 13, 3, 2), (22, .aload_n 0, 1, 0), (23, .sipush 128, 3, 0), (26, .newarray .int, 2, 0), (28, .putfield 16, 3, 3), (31, .aload_n 0, 1, 0), (32, .sipush 128, 3, 0), (35, .newarray .boolean, 2, 0), (37, .putfield 19, 3, 4), (40, .aload_n 0, 1, 0), (41, .sipush 128, 3, 0), (44, .newarray .boolean, 2, 0), (46, .putfield 23, 3, 5), (49, .aload_n 0, 1, 0), (50, .sipush 1024, 3, 0), (53, .newarray .int, 2, 0), (55, .putfield 26, 3, 6), (58, .aload_n 0, 1, 0), (59, .bipush 32, 2, 0), (61, .newarray .int, 2, 0), (63, .putfield 29, 3, 7), (66, .aload_n 0, 1, 0), (67, .bipush 32, 2, 0), (69, .newarray .boolean, 2, 0), (71, .putfield 32, 3, 8), (74, .aload_n 0, 1, 0), (75, .bipush 32, 2, 0), (77, .newarray .int, 2, 0), (79, .putfield 35, 3, 9), (82, .aload_n 0, 1, 0), (83, .bipush 32, 2, 0), (85, .newarray .int, 2, 0), (87, .putfield 38, 3, 10), (90, .aload_n 0, 1, 0), (91, .bipush 32, 2, 0), (93, .newarray .int, 2, 0), (95, .putfield 41, 3, 11), (98, .iload_n 1, 1, 0), (99, .istore_n 2, 1, 0), (100, .iload_n 2, 1, 0), (101, .iconst 2, 1, 0), (102, .if_icmp .ge 5, 3, 0), (105, .iconst 2, 1, 0), (106, .istore_n 2, 1, 0), (107, .iload_n 2, 1, 0), (108, .bipush 32, 2, 0), (110, .if_icmp .le 6, 3, 0), (113, .bipush 32, 2, 0), (115, .istore_n 2, 1, 0), (116, .aload_n 0, 1, 0), (117, .iload_n 2, 1, 0), (118, .putfield 44, 3, 0), (121, .aload_n 0, 1, 0), (122, .iconst 0, 1, 0), (123, .putfield 48, 3, 12), (126, .aload_n 0, 1, 0), (127, .iconst 0, 1, 0), (128, .putfield 51, 3, 13), (131, .aload_n 0, 1, 0), (132, .lconst 0, 1, 0), (133, .putfield 54, 3, 14), (136, .aload_n 0, 1, 0), (137, .iconst (-1), 1, 0), (138, .putfield 58, 3, 15), (141, .aload_n 0, 1, 0), (142, .iconst (-1), 1, 0), (143, .putfield 61, 3, 16), (146, .iconst 0, 1, 0), (147, .istore_n 3, 1, 0), (148, .iload_n 3, 1, 0), (149, .bipush 32, 2, 0), (151, .if_icmp .ge 16, 3, 0), (154, .aload_n 0, 1, 0), (155, .getfield 29, 3, 7), (158, .iload_n 3, 1, 0), (159, .iconst 0, 1, 0), (160, .iastore, 1, 0), (161, .iinc 3 1, 3, 0), (164, .goto (-16), 3, 0), (167, .aload_n 0, 1, 0), (168, .invokevirtual 64, 3, 29), (171, .return_, 1, 0)]
def r2 : List Row := [(0, .aload_n 0, 1, 0), (1, .iload_n 1, 1, 0), (2, .invokevirtual 67, 3, 39), (5, .ifCond .eq 11, 3, 0), (8, .aload_n 0, 1, 0), (9, .iload_n 2, 1, 0), (10, .invokevirtual 67, 3, 39), (13, .ifCond .ne 6, 3, 0), (16, .bipush (-2), 2, 0), (18, .ireturn, 1, 0), (19, .iload_n 1, 1, 0), (20, .iload_n 2, 1, 0), (21, .if_icmp .ne 6, 3, 0), (24, .bipush (-3), 2, 0), (26, .ireturn, 1, 0), (27, .aload_n 0, 1, 0), (28, .invokevirtual 71, 3, 22), (31, .istore 4, 2, 0), (33, .iload 4, 2, 0), (35, .iconst (-1), 1, 0), (36, .if_icmp .ne 6, 3, 0), (39, .bipush (-4), 2, 0), (41, .ireturn, 1, 0), (42, .aload_n 0, 1, 0), (43, .iload_n 3, 1, 0), (44, .invokevirtual 75, 3, 41), (47, .istore 5, 2, 0), (49, .aload_n 0, 1, 0), (50, .iload 4, 2, 0), (52, .iload_n 1, 1, 0), (53, .iload_n 2, 1, 0), (54, .iload 5, 2, 0), (56, .invokevirtual 79, 3, 23), (59, .aload_n 0, 1, 0), (60, .iload 4, 2, 0), (62, .invokevirtual 83, 3, 18), (65, .iload 4, 2, 0), (67, .ireturn, 1, 0)]
def r3 : List Row := [(0, .aload_n 0, 1, 0), (1, .iload_n 1, 1, 0), (2, .invokevirtual 87, 3, 5), (5, .ifCond .ne 5, 3, 0), (8, .iconst 0, 1, 0), (9, .ireturn, 1, 0), (10, .aload_n 0, 1, 0), (11, .getfield 23, 3, 5), (14, .iload_n 1, 1, 0), (15, .baload, 1, 0), (16, .ifCond .ne 16, 3, 0), (19, .aload_n 0, 1, 0), (20, .iload_n 1, 1, 0), (21, .invokevirtual 90, 3, 24), (24, .aload_n 0, 1, 0), (25, .iconst (-1), 1, 0), (26, .iconst (-1), 1, 0), (27, .invokevirtual 93, 3, 21), (30, .iconst 1, 1, 0), (31, .ireturn, 1, 0), (32, .aload_n 0, 1, 0), (33, .iload_n 1, 1, 0), (34, .invokevirtual 97, 3, 19), (37, .iconst 1, 1, 0), (38, .ireturn, 1, 0)]
def r4 : List Row := [(0, .aload_n 0, 1, 0), (1, .iload_n 1, 1, 0), (2, .invokevirtual 87, 3, 5), (5, .ifCond .ne 5, 3, 0), (8, .iconst 0, 1, 0), (9, .ireturn, 1, 0), (10, .aload_n 0, 1, 0), (11, .iload_n 2, 1, 0), (12, .invokevirtual 75, 3, 41), (15, .istore_n 3, 1, 0), (16, .aload_n 0, 1, 0), (17, .getfield 23, 3, 5), (20, .iload_n 1, 1, 0), (21, .baload, 1, 0), (22, .ifCond .eq 12, 3, 0), (25, .aload_n 0, 1, 0), (26, .iload_n 1, 1, 0), (27, .iload_n 3, 1, 0), (28, .invokevirtual 100, 3, 20), (31, .goto 15, 3, 0), (34, .aload_n 0, 1, 0), (35, .getfield 16, 3, 3), (38, .iload_n 1, 1, 0), (39, .iload_n 3, 1, 0), (40, .iastore, 1, 0), (41, .aload_n 0, 1, 0), (42, .iload_n 1, 1, 0), (43, .invokevirtual 83, 3, 18), (46, .iconst 1, 1, 0), (47, .ireturn, 1, 0)]
def r5 : List Row := [(0, .aload_n 0, 1, 0), (1, .iload_n 1, 1, 0), (2, .invokevirtual 103, 3, 40), (5, .ifCond .eq 16, 3, 0), (8, .aload_n 0, 1, 0), (9, .getfield 19, 3, 4), (12, .iload_n 1, 1, 0), (13, .baload, 1, 0), (14, .ifCond .eq 7, 3, 0), (17, .iconst 1, 1, 0), (18, .goto 4, 3, 0), (21, .iconst 0, 1, 0), (22, .ireturn, 1, 0)]
def r6 : List Row := [(0, .aload_n 0, 1, 0), (1, .iload_n 1, 1, 0), (2, .invokevirtual 103, 3, 40), (5, .ifCond .eq 25, 3, 0), (8, .aload_n 0, 1, 0), (9, .getfield 19, 3, 4), (12, .iload_n 1, 1, 0), (13, .baload, 1, 0), (14, .ifCond .eq 16, 3, 0), (17, .aload_n 0, 1, 0), (18, .getfield 23, 3, 5), (21, .iload_n 1, 1, 0), (22, .baload, 1, 0), (23, .ifCond .eq 7, 3, 0), (26, .iconst 1, 1, 0), (27, .goto 4, 3, 0), (30, .iconst 0, 1, 0), (31, .ireturn, 1, 0)]
def r7 : List Row := [(0, .aload_n 0, 1, 0), (1, .iload_n 1, 1, 0), (2, .invokevirtual 87, 3, 5), (5, .ifCond .ne 5, 3, 0), (8, .iconst (-1), 1, 0), (9, .ireturn, 1, 0), (10, .iload_n 2, 1, 0), (11, .ifCond .ne 10, 3, 0), (14, .aload_n 0, 1, 0), (15, .getfield 7, 3, 1), (18, .iload_n 1, 1, 0), (19, .iaload, 1, 0), (20, .ireturn, 1, 0), (21, .iload_n 2, 1, 0), (22, .iconst 1, 1, 0), (23, .if_icmp .ne 10, 3, 0), (26, .aload_n 0, 1, 0), (27, .getfield 13, 3, 2), (30, .iload_n 1, 1, 0), (31, .iaload, 1, 0), (32, .ireturn, 1, 0), (33, .iconst (-1), 1, 0), (34, .ireturn, 1, 0)]
def r8 : List Row := [(0, .aload_n 0, 1, 0), (1, .iload_n 1, 1, 0), (2, .invokevirtual 87, 3, 5), (5, .ifCond .ne 5, 3, 0), (8, .iconst 0, 1, 0), (9, .ireturn, 1, 0), (10, .aload_n 0, 1, 0), (11, .getfield 16, 3, 3), (14, .iload_n 1, 1, 0), (15, .iaload, 1, 0), (16, .ireturn, 1, 0)]
def r9 : List Row := [(0, .aload_n 0, 1, 0), (1, .getfield 48, 3, 12), (4, .ireturn, 1, 0)]
def r10 : List Row := [(0, .aload_n 0, 1, 0), (1, .getfield 54, 3, 14), (4, .lreturn, 1, 0)]
def r11 : List Row := [(0, .aload_n 0, 1, 0), (1, .getfield 51, 3, 13), (4, .ireturn, 1, 0)]
def r12 : List Row := [(0, .aload_n 0, 1, 0), (1, .getfield 44, 3, 0), (4, .aload_n 0, 1, 0), (5, .getfield 51, 3, 13), (8, .isub, 1, 0), (9, .ireturn, 1, 0)]
def r13 : List Row := [(0, .aload_n 0, 1, 0), (1, .iload_n 1, 1, 0), (2, .invokevirtual 67, 3, 39), (5, .ifCond .ne 5, 3, 0), (8, .iconst (-1), 1, 0), (9, .ireturn, 1, 0), (10, .aload_n 0, 1, 0), (11, .iload_n 1, 1, 0), (12, .iconst (-1), 1, 0), (13, .invokevirtual 106, 3, 30), (16, .pop, 1, 0), (17, .iconst 0, 1, 0), (18, .istore_n 2, 1, 0), (19, .iload_n 2, 1, 0), (20, .aload_n 0, 1, 0), (21, .getfield 44, 3, 0), (24, .if_icmp .ge 26, 3, 0), (27, .iload_n 2, 1, 0), (28, .bipush 32, 2, 0), (30, .if_icmp .ge 20, 3, 0), (33, .aload_n 0, 1, 0), (34, .getfield 32, 3, 8), (37, .iload_n 2, 1, 0), (38, .baload, 1, 0), (39, .ifCond .eq 5, 3, 0), (42, .iload_n 2, 1, 0), (43, .ireturn, 1, 0), (44, .iinc 2 1, 3, 0), (47, .goto (-28), 3, 0), (50, .iload_n 1, 1, 0), (51, .ireturn, 1, 0)]
def r14 : List Row := [(0, .aload_n 0, 1, 0), (1, .iload_n 1, 1, 0), (2, .invokevirtual 67, 3, 39), (5, .ifCond .eq 11, 3, 0), (8, .aload_n 0, 1, 0), (9, .iload_n 2, 1, 0), (10, .invokevirtual 67, 3, 39), (13, .ifCond .ne 5, 3, 0), (16, .iconst (-1), 1, 0), (17, .ireturn, 1, 0), (18, .iload_n 1, 1, 0), (19, .iload_n 2, 1, 0), (20, .if_icmp .ne 5, 3, 0), (23, .iconst (-1), 1, 0), (24, .ireturn, 1, 0), (25, .aload_n 0, 1, 0), (26, .iload_n 1, 1, 0), (27, .iconst (-1), 1, 0), (28, .invokevirtual 106, 3, 30), (31, .pop, 1, 0), (32, .aload_n 0, 1, 0), (33, .getfield 32, 3, 8), (36, .iload_n 2, 1, 0), (37, .baload, 1, 0), (38, .ifCond .ne 5, 3, 0), (41, .iconst (-1), 1, 0), (42, .ireturn, 1, 0), (43, .aload_n 0, 1, 0), (44, .iload_n 2, 1, 0), (45, .invokevirtual 110, 3, 32), (48, .ireturn, 1, 0)]
def r15 : List Row := [(0, .aload_n 0, 1, 0), (1, .iload_n 1, 1, 0), (2, .invokevirtual 113, 3, 6), (5, .ifCond .ne 5, 3, 0), (8, .iconst (-1), 1, 0), (9, .ireturn, 1, 0), (10, .aload_n 0, 1, 0), (11, .aload_n 0, 1, 0), (12, .getfield 7, 3, 1), (15, .iload_n 1, 1, 0), (16, .iaload, 1, 0), (17, .iload_n 1, 1, 0), (18, .invokevirtual 106, 3, 30), (21, .pop, 1, 0), (22, .aload_n 0, 1, 0), (23, .invokevirtual 116, 3, 33), (26, .ireturn, 1, 0)]
def r16 : List Row := [(0, .aload_n 0, 1, 0), (1, .getfield 58, 3, 15), (4, .ireturn, 1, 0)]
def r17 : List Row := [(0, .aload_n 0, 1, 0), (1, .getfield 61, 3, 16), (4, .ireturn, 1, 0)]
def r18 : List Row := [(0, .aload_n 0, 1, 0), (1, .aload_n 0, 1, 0), (2, .getfield 7, 3, 1), (5, .iload_n 1, 1, 0), (6, .iaload, 1, 0), (7, .iconst (-1), 1, 0), (8, .invokevirtual 106, 3, 30), (11, .pop, 1, 0), (12, .aload_n 0, 1, 0), (13, .getfield 13, 3, 2), (16, .iload_n 1, 1, 0), (17, .iaload, 1, 0), (18, .istore_n 2, 1, 0), (19, .aload_n 0, 1, 0), (20, .iload_n 2, 1, 0), (21, .invokevirtual 67, 3, 39), (24, .ifCond .eq 12, 3, 0), (27, .aload_n 0, 1, 0), (28, .getfield 32, 3, 8), (31, .iload_n 2, 1, 0), (32, .baload, 1, 0), (33, .ifCond .ne 15, 3, 0), (36, .aload_n 0, 1, 0), (37, .iload_n 1, 1, 0), (38, .invokevirtual 119, 3, 25), (41, .aload_n 0, 1, 0), (42, .iload_n 1, 1, 0), (43, .iconst (-1), 1, 0), (44, .invokevirtual 93, 3, 21), (47, .return_, 1, 0), (48, .aload_n 0, 1, 0), (49, .iload_n 2, 1, 0), (50, .invokevirtual 110, 3, 32), (53, .istore_n 3, 1, 0), (54, .iload_n 3, 1, 0), (55, .iconst (-1), 1, 0), (56, .if_icmp .eq 29, 3, 0), (59, .aload_n 0, 1, 0), (60, .iload_n 1, 1, 0), (61, .iload_n 3, 1, 0), (62, .invokevirtual 122, 3, 36), (65, .ifCond .eq 20, 3, 0), (68, .aload_n 0, 1, 0), (69, .iload_n 3, 1, 0), (70, .invokevirtual 126, 3, 26), (73, .aload_n 0, 1, 0), (74, .iload_n 1, 1, 0), (75, .invokevirtual 119, 3, 25), (78, .aload_n 0, 1, 0), (79, .iload_n 1, 1, 0), (80, .iload_n 3, 1, 0), (81, .invokevirtual 93, 3, 21), (84, .return_, 1, 0), (85, .aload_n 0, 1, 0), (86, .iconst (-1), 1, 0), (87, .iconst (-1), 1, 0), (88, .invokevirtual 93, 3, 21), (91, .return_, 1, 0)]
def r19 : List Row := [(0, .aload_n 0, 1, 0), (1, .iload_n 1, 1, 0), (2, .invokevirtual 126, 3, 26), (5, .aload_n 0, 1, 0), (6, .iload_n 1, 1, 0), (7, .invokevirtual 90, 3, 24), (10, .aload_n 0, 1, 0), (11, .aload_n 0, 1, 0), (12, .getfield 7, 3, 1), (15, .iload_n 1, 1, 0), (16, .iaload, 1, 0), (17, .iconst (-1), 1, 0), (18, .invokevirtual 106, 3, 30), (21, .pop, 1, 0), (22, .aload_n 0, 1, 0), (23, .invokevirtual 116, 3, 33), (26, .istore_n 2, 1, 0), (27, .iload_n 2, 1, 0), (28, .iconst (-1), 1, 0), (29, .if_icmp .eq 8, 3, 0), (32, .aload_n 0, 1, 0), (33, .iload_n 2, 1, 0), (34, .invokevirtual 119, 3, 25), (37, .aload_n 0, 1, 0), (38, .iload_n 2, 1, 0), (39, .iload_n 1, 1, 0), (40, .invokevirtual 93, 3, 21), (43, .return_, 1, 0)]
def r20 : List Row := [(0, .aload_n 0, 1, 0), (1, .iload_n 1, 1, 0), (2, .invokevirtual 126, 3, 26), (5, .aload_n 0, 1, 0), (6, .getfield 16, 3, 3), (9, .iload_n 1, 1, 0), (10, .iload_n 2, 1, 0), (11, .iastore, 1, 0), (12, .aload_n 0, 1, 0), (13, .aload_n 0, 1, 0), (14, .getfield 7, 3, 1), (17, .iload_n 1, 1, 0), (18, .iaload, 1, 0), (19, .iconst (-1), 1, 0), (20, .invokevirtual 106, 3, 30), (23, .pop, 1, 0), (24, .aload_n 0, 1, 0), (25, .invokevirtual 116, 3, 33), (28, .istore_n 3, 1, 0), (29, .iload_n 3, 1, 0), (30, .iconst (-1), 1, 0), (31, .if_icmp .eq 8, 3, 0), (34, .iload_n 3, 1, 0), (35, .iload_n 1, 1, 0), (36, .if_icmp .ne 15, 3, 0), (39, .aload_n 0, 1, 0), (40, .iload_n 1, 1, 0), (41, .invokevirtual 119, 3, 25), (44, .aload_n 0, 1, 0), (45, .iconst (-1), 1, 0), (46, .iconst (-1), 1, 0), (47, .invokevirtual 93, 3, 21), (50, .return_, 1, 0), (51, .aload_n 0, 1, 0), (52, .iload_n 3, 1, 0), (53, .invokevirtual 119, 3, 25), (56, .aload_n 0, 1, 0), (57, .iload_n 3, 1, 0), (58, .iload_n 1, 1, 0), (59, .invokevirtual 93, 3, 21), (62, .return_, 1, 0)]
def r21 : List Row := [(0, .aload_n 0, 1, 0), (1, .iload_n 1, 1, 0), (2, .putfield 58, 3, 15), (5, .aload_n 0, 1, 0), (6, .iload_n 2, 1, 0), (7, .putfield 61, 3, 16), (10, .return_, 1, 0)]
def r22 : List Row := [(0, .iconst 0, 1, 0), (1, .istore_n 1, 1, 0), (2, .iload_n 1, 1, 0), (3, .sipush 128, 3, 0), (6, .if_icmp .ge 20, 3, 0), (9, .aload_n 0, 1, 0), (10, .getfield 19, 3, 4), (13, .iload_n 1, 1, 0), (14, .baload, 1, 0), (15, .ifCond .ne 5, 3, 0), (18, .iload_n 1, 1, 0), (19, .ireturn, 1, 0), (20, .iinc 1 1, 3, 0), (23, .goto (-21), 3, 0), (26, .iconst (-1), 1, 0), (27, .ireturn, 1, 0)]
def r23 : List Row := [(0, .aload_n 0, 1, 0), (1, .getfield 7, 3, 1), (4, .iload_n 1, 1, 0), (5, .iload_n 2, 1, 0), (6, .iastore, 1, 0), (7, .aload_n 0, 1, 0), (8, .getfield 13, 3, 2), (11, .iload_n 1, 1, 0), (12, .iload_n 3, 1, 0), (13, .iastore, 1, 0), (14, .aload_n 0, 1, 0), (15, .getfield 16, 3, 3), (18, .iload_n 1, 1, 0), (19, .iload 4, 2, 0), (21, .iastore, 1, 0), (22, .aload_n 0, 1, 0), (23, .getfield 19, 3, 4), (26, .iload_n 1, 1, 0), (27, .iconst 1, 1, 0), (28, .bastore, 1, 0), (29, .aload_n 0, 1, 0), (30, .getfield 23, 3, 5), (33, .iload_n 1, 1, 0), (34, .iconst 0, 1, 0), (35, .bastore, 1, 0), (36, .aload_n 0, 1, 0), (37, .dup, 1, 0), (38, .getfield 48, 3, 12), (41, .iconst 1, 1, 0), (42, .iadd, 1, 0), (43, .putfield 48, 3, 12), (46, .return_, 1, 0)]
def r24 : List Row := [(0, .aload_n 0, 1, 0), (1, .getfield 19, 3, 4), (4, .iload_n 1, 1, 0), (5, .iconst 0, 1, 0), (6, .bastore, 1, 0), (7, .aload_n 0, 1, 0), (8, .getfield 23, 3, 5), (11, .iload_n 1, 1, 0), (12, .iconst 0, 1, 0), (13, .bastore, 1, 0), (14, .aload_n 0, 1, 0), (15, .dup, 1, 0), (16, .getfield 48, 3, 12), (19, .iconst 1, 1, 0), (20, .isub, 1, 0), (21, .putfield 48, 3, 12), (24, .return_, 1, 0)]
def r25 : List Row := [(0, .aload_n 0, 1, 0), (1, .iload_n 1, 1, 0), (2, .invokevirtual 103, 3, 40), (5, .ifCond .eq 12, 3, 0), (8, .aload_n 0, 1, 0), (9, .getfield 23, 3, 5), (12, .iload_n 1, 1, 0), (13, .baload, 1, 0), (14, .ifCond .eq 4, 3, 0), (17, .return_, 1, 0), (18, .aload_n 0, 1, 0), (19, .getfield 23, 3, 5), (22, .iload_n 1, 1, 0), (23, .iconst 1, 1, 0), (24, .bastore, 1, 0), (25, .aload_n 0, 1, 0), (26, .dup, 1, 0), (27, .getfield 51, 3, 13), (30, .iconst 1, 1, 0), (31, .iadd, 1, 0), (32, .putfield 51, 3, 13), (35, .aload_n 0, 1, 0), (36, .dup, 1, 0), (37, .getfield 54, 3, 14), (40, .aload_n 0, 1, 0), (41, .getfield 16, 3, 3), (44, .iload_n 1, 1, 0), (45, .iaload, 1, 0), (46, .i2l, 1, 0), (47, .ladd, 1, 0), (48, .putfield 54, 3, 14), (51, .aload_n 0, 1, 0), (52, .aload_n 0, 1, 0), (53, .getfield 7, 3, 1), (56, .iload_n 1, 1, 0), (57, .iaload, 1, 0), (58, .iload_n 1, 1, 0), (59, .invokevirtual 129, 3, 27), (62, .aload_n 0, 1, 0), (63, .aload_n 0, 1, 0), (64, .getfield 13, 3, 2), (67, .iload_n 1, 1, 0), (68, .iaload, 1, 0), (69, .iload_n 1, 1, 0), (70, .invokevirtual 129, 3, 27), (73, .return_, 1, 0)]
def r26 : List Row := [(0, .aload_n 0, 1, 0), (1, .iload_n 1, 1, 0), (2, .invokevirtual 103, 3, 40), (5, .ifCond .eq 12, 3, 0), (8, .aload_n 0, 1, 0), (9, .getfield 23, 3, 5), (12, .iload_n 1, 1, 0), (13, .baload, 1, 0), (14, .ifCond .ne 4, 3, 0), (17, .return_, 1, 0), (18, .aload_n 0, 1, 0), (19, .getfield 23, 3, 5), (22, .iload_n 1, 1, 0), (23, .iconst 0, 1, 0), (24, .bastore, 1, 0), (25, .aload_n 0, 1, 0), (26, .dup, 1, 0), (27, .getfield 51, 3, 13), (30, .iconst 1, 1, 0), (31, .isub, 1, 0), (32, .putfield 51, 3, 13), (35, .aload_n 0, 1, 0), (36, .dup, 1, 0), (37, .getfield 54, 3, 14), (40, .aload_n 0, 1, 0), (41, .getfield 16, 3, 3), (44, .iload_n 1, 1, 0), (45, .iaload, 1, 0), (46, .i2l, 1, 0), (47, .lsub, 1, 0), (48, .putfield 54, 3, 14), (51, .aload_n 0, 1, 0), (52, .aload_n 0, 1, 0), (53, .getfield 7, 3, 1), (56, .iload_n 1, 1, 0), (57, .iaload, 1, 0), (58, .iload_n 1, 1, 0), (59, .invokevirtual 132, 3, 28), (62, .aload_n 0, 1, 0), (63, .aload_n 0, 1, 0), (64, .getfield 13, 3, 2), (67, .iload_n 1, 1, 0), (68, .iaload, 1, 0), (69, .iload_n 1, 1, 0), (70, .invokevirtual 132, 3, 28), (73, .return_, 1, 0)]
def r27 : List Row := [(0, .iload_n 1, 1, 0), (1, .ifCond .lt 9, 3, 0), (4, .iload_n 1, 1, 0), (5, .bipush 32, 2, 0), (7, .if_icmp .lt 4, 3, 0), (10, .return_, 1, 0), (11, .aload_n 0, 1, 0), (12, .getfield 29, 3, 7), (15, .iload_n 1, 1, 0), (16, .iaload, 1, 0), (17, .ifCond .lt 14, 3, 0), (20, .aload_n 0, 1, 0), (21, .getfield 29, 3, 7), (24, .iload_n 1, 1, 0), (25, .iaload, 1, 0), (26, .bipush 32, 2, 0), (28, .if_icmp .lt 4, 3, 0), (31, .return_, 1, 0), (32, .aload_n 0, 1, 0), (33, .getfield 26, 3, 6), (36, .iload_n 1, 1, 0), (37, .bipush 32, 2, 0), (39, .imul, 1, 0), (40, .aload_n 0, 1, 0), (41, .getfield 29, 3, 7), (44, .iload_n 1, 1, 0), (45, .iaload, 1, 0), (46, .iadd, 1, 0), (47, .iload_n 2, 1, 0), (48, .iastore, 1, 0), (49, .aload_n 0, 1, 0), (50, .getfield 29, 3, 7), (53, .iload_n 1, 1, 0), (54, .dup2, 1, 0), (55, .iaload, 1, 0), (56, .iconst 1, 1, 0), (57, .iadd, 1, 0), (58, .iastore, 1, 0), (59, .return_, 1, 0)]
def r28 : List Row := [(0, .iload_n 1, 1, 0), (1, .ifCond .lt 9, 3, 0), (4, .iload_n 1, 1, 0), (5, .bipush 32, 2, 0), (7, .if_icmp .lt 4, 3, 0), (10, .return_, 1, 0), (11, .iload_n 1, 1, 0), (12, .bipush 32, 2, 0), (14, .imul, 1, 0), (15, .istore_n 3, 1, 0), (16, .iconst 0, 1, 0), (17, .istore 4, 2, 0), (19, .iload 4, 2, 0), (21, .aload_n 0, 1, 0), (22, .getfield 29, 3, 7), (25, .iload_n 1, 1, 0), (26, .iaload, 1, 0), (27, .if_icmp .ge 62, 3, 0), (30, .iload 4, 2, 0), (32, .bipush 32, 2, 0), (34, .if_icmp .ge 55, 3, 0), (37, .aload_n 0, 1, 0), (38, .getfield 26, 3, 6), (41, .iload_n 3, 1, 0), (42, .iload 4, 2, 0), (44, .iadd, 1, 0), (45, .iaload, 1, 0), (46, .iload_n 2, 1, 0), (47, .if_icmp .ne 36, 3, 0), (50, .aload_n 0, 1, 0), (51, .getfield 29, 3, 7), (54, .iload_n 1, 1, 0), (55, .dup2, 1, 0), (56, .iaload, 1, 0), (57, .iconst 1, 1, 0), (58, .isub, 1, 0), (59, .iastore, 1, 0), (60, .aload_n 0, 1, 0), (61, .getfield 26, 3, 6), (64, .iload_n 3, 1, 0), (65, .iload 4, 2, 0), (67, .iadd, 1, 0), (68, .aload_n 0, 1, 0), (69, .getfield 26, 3, 6), (72, .iload_n 3, 1, 0), (73, .aload_n 0, 1, 0), (74, .getfield 29, 3, 7), (77, .iload_n 1, 1, 0), (78, .iaload, 1, 0), (79, .iadd, 1, 0), (80, .iaload, 1, 0), (81, .iastore, 1, 0), (82, .return_, 1, 0), (83, .iinc 4 1, 3, 0), (86, .goto (-67), 3, 0), (89, .return_, 1, 0)]
def r29 : List Row := [(0, .iconst 0, 1, 0), (1, .istore_n 1, 1, 0), (2, .iload_n 1, 1, 0), (3, .bipush 32, 2, 0), (5, .if_icmp .ge 37, 3, 0), (8, .aload_n 0, 1, 0), (9, .getfield 32, 3, 8), (12, .iload_n 1, 1, 0), (13, .iconst 0, 1, 0), (14, .bastore, 1, 0), (15, .aload_n 0, 1, 0), (16, .getfield 35, 3, 9), (19, .iload_n 1, 1, 0), (20, .iconst (-1), 1, 0), (21, .iastore, 1, 0), (22, .aload_n 0, 1, 0), (23, .getfield 38, 3, 10), (26, .iload_n 1, 1, 0), (27, .iconst (-1), 1, 0), (28, .iastore, 1, 0), (29, .aload_n 0, 1, 0), (30, .getfield 41, 3, 11), (33, .iload_n 1, 1, 0), (34, .iconst 0, 1, 0), (35, .iastore, 1, 0), (36, .iinc 1 1, 3, 0), (39, .goto (-37), 3, 0), (42, .return_, 1, 0)]
def r30 : List Row := [(0, .aload_n 0, 1, 0), (1, .invokevirtual 64, 3, 29), (4, .aload_n 0, 1, 0), (5, .iload_n 1, 1, 0), (6, .invokevirtual 67, 3, 39), (9, .ifCond .ne 5, 3, 0), (12, .iconst 0, 1, 0), (13, .ireturn, 1, 0), (14, .aload_n 0, 1, 0), (15, .getfield 32, 3, 8), (18, .iload_n 1, 1, 0), (19, .iconst 1, 1, 0), (20, .bastore, 1, 0), (21, .aload_n 0, 1, 0), (22, .getfield 41, 3, 11), (25, .iconst 0, 1, 0), (26, .iload_n 1, 1, 0), (27, .iastore, 1, 0), (28, .iconst 1, 1, 0), (29, .istore_n 3, 1, 0), (30, .iconst 0, 1, 0), (31, .istore 4, 2, 0), (33, .iload 4, 2, 0), (35, .iload_n 3, 1, 0), (36, .if_icmp .ge 30, 3, 0), (39, .iload 4, 2, 0), (41, .bipush 32, 2, 0), (43, .if_icmp .ge 23, 3, 0), (46, .aload_n 0, 1, 0), (47, .aload_n 0, 1, 0), (48, .getfield 41, 3, 11), (51, .iload 4, 2, 0), (53, .iaload, 1, 0), (54, .iload_n 2, 1, 0), (55, .iload_n 3, 1, 0), (56, .invokevirtual 135, 3, 31), (59, .istore_n 3, 1, 0), (60, .iinc 4 1, 3, 0), (63, .goto (-30), 3, 0), (66, .iload_n 3, 1, 0), (67, .ireturn, 1, 0)]
def r31 : List Row := [(0, .iload_n 3, 1, 0), (1, .istore 4, 2, 0), (3, .iload_n 1, 1, 0), (4, .ifCond .lt 9, 3, 0), (7, .iload_n 1, 1, 0), (8, .bipush 32, 2, 0), (10, .if_icmp .lt 6, 3, 0), (13, .iload 4, 2, 0), (15, .ireturn, 1, 0), (16, .iload_n 1, 1, 0), (17, .bipush 32, 2, 0), (19, .imul, 1, 0), (20, .istore 5, 2, 0), (22, .iconst 0, 1, 0), (23, .istore 6, 2, 0), (25, .iload 6, 2, 0), (27, .aload_n 0, 1, 0), (28, .getfield 29, 3, 7), (31, .iload_n 1, 1, 0), (32, .iaload, 1, 0), (33, .if_icmp .ge 124, 3, 0), (36, .iload 6, 2, 0), (38, .bipush 32, 2, 0), (40, .if_icmp .ge 117, 3, 0), (43, .aload_n 0, 1, 0), (44, .getfield 26, 3, 6), (47, .iload 5, 2, 0), (49, .iload 6, 2, 0), (51, .iadd, 1, 0), (52, .iaload, 1, 0), (53, .istore 7, 2, 0), (55, .iload 7, 2, 0), (57, .iload_n 2, 1, 0), (58, .if_icmp .eq 93, 3, 0), (61, .aload_n 0, 1, 0), (62, .iload 7, 2, 0), (64, .invokevirtual 103, 3, 40), (67, .ifCond .ne 6, 3, 0), (70, .goto 81, 3, 0), (73, .aload_n 0, 1, 0), (74, .iload 7, 2, 0), (76, .iload_n 1, 1, 0), (77, .invokevirtual 139, 3, 35), (80, .istore 8, 2, 0), (82, .iload 8, 2, 0), (84, .ifCond .lt 67, 3, 0), (87, .iload 8, 2, 0), (89, .bipush 32, 2, 0), (91, .if_icmp .ge 60, 3, 0), (94, .aload_n 0, 1, 0), (95, .getfield 32, 3, 8), (98, .iload 8, 2, 0), (100, .baload, 1, 0), (101, .ifCond .ne 50, 3, 0), (104, .iload 4, 2, 0), (106, .bipush 32, 2, 0), (108, .if_icmp .lt 6, 3, 0), (111, .goto 40, 3, 0), (114, .aload_n 0, 1, 0), (115, .getfield 32, 3, 8), (118, .iload 8, 2, 0), (120, .iconst 1, 1, 0), (121, .bastore, 1, 0), (122, .aload_n 0, 1, 0), (123, .getfield 35, 3, 9), (126, .iload 8, 2, 0), (128, .iload 7, 2, 0), (130, .iastore, 1, 0), (131, .aload_n 0, 1, 0), (132, .getfield 38, 3, 10), (135, .iload 8, 2, 0), (137, .iload_n 1, 1, 0), (138, .iastore, 1, 0), (139, .aload_n 0, 1, 0), (140, .getfield 41, 3, 11), (143, .iload 4, 2, 0), (145, .iload 8, 2, 0), (147, .iastore, 1, 0), (148, .iinc 4 1, 3, 0), (151, .iinc 6 1, 3, 0), (154, .goto (-129), 3, 0), (157, .iload 4, 2, 0), (159, .ireturn, 1, 0)]
def r32 : List Row := [(0, .iconst (-1), 1, 0), (1, .istore_n 2, 1, 0), (2, .iload_n 1, 1, 0), (3, .istore_n 3, 1, 0), (4, .iconst 0, 1, 0), (5, .istore 4, 2, 0), (7, .iload 4, 2, 0), (9, .bipush 32, 2, 0), (11, .if_icmp .ge 54, 3, 0), (14, .iload_n 3, 1, 0), (15, .ifCond .lt 50, 3, 0), (18, .iload_n 3, 1, 0), (19, .bipush 32, 2, 0), (21, .if_icmp .lt 6, 3, 0), (24, .goto 41, 3, 0), (27, .aload_n 0, 1, 0), (28, .getfield 35, 3, 9), (31, .iload_n 3, 1, 0), (32, .iaload, 1, 0), (33, .istore 5, 2, 0), (35, .iload 5, 2, 0), (37, .iconst (-1), 1, 0), (38, .if_icmp .ne 6, 3, 0), (41, .goto 24, 3, 0), (44, .aload_n 0, 1, 0), (45, .iload_n 2, 1, 0), (46, .iload 5, 2, 0), (48, .invokevirtual 142, 3, 38), (51, .istore_n 2, 1, 0), (52, .aload_n 0, 1, 0), (53, .getfield 38, 3, 10), (56, .iload_n 3, 1, 0), (57, .iaload, 1, 0), (58, .istore_n 3, 1, 0), (59, .iinc 4 1, 3, 0), (62, .goto (-55), 3, 0), (65, .iload_n 2, 1, 0), (66, .ireturn, 1, 0)]
def r33 : List Row := [(0, .iconst (-1), 1, 0), (1, .istore_n 1, 1, 0), (2, .iconst 0, 1, 0), (3, .istore_n 2, 1, 0), (4, .iload_n 2, 1, 0), (5, .sipush 128, 3, 0), (8, .if_icmp .ge 42, 3, 0), (11, .aload_n 0, 1, 0), (12, .getfield 19, 3, 4), (15, .iload_n 2, 1, 0), (16, .baload, 1, 0), (17, .ifCond .eq 27, 3, 0), (20, .aload_n 0, 1, 0), (21, .getfield 23, 3, 5), (24, .iload_n 2, 1, 0), (25, .baload, 1, 0), (26, .ifCond .ne 18, 3, 0), (29, .aload_n 0, 1, 0), (30, .iload_n 2, 1, 0), (31, .invokevirtual 145, 3, 34), (34, .ifCond .eq 10, 3, 0), (37, .aload_n 0, 1, 0), (38, .iload_n 1, 1, 0), (39, .iload_n 2, 1, 0), (40, .invokevirtual 148, 3, 37), (43, .istore_n 1, 1, 0), (44, .iinc 2 1, 3, 0), (47, .goto (-43), 3, 0), (50, .iload_n 1, 1, 0), (51, .ireturn, 1, 0)]
def r34 : List Row := [(0, .aload_n 0, 1, 0), (1, .getfield 7, 3, 1), (4, .iload_n 1, 1, 0), (5, .iaload, 1, 0), (6, .istore_n 2, 1, 0), (7, .aload_n 0, 1, 0), (8, .getfield 13, 3, 2), (11, .iload_n 1, 1, 0), (12, .iaload, 1, 0), (13, .istore_n 3, 1, 0), (14, .iload_n 2, 1, 0), (15, .ifCond .lt 19, 3, 0), (18, .iload_n 2, 1, 0), (19, .bipush 32, 2, 0), (21, .if_icmp .ge 13, 3, 0), (24, .iload_n 3, 1, 0), (25, .ifCond .lt 9, 3, 0), (28, .iload_n 3, 1, 0), (29, .bipush 32, 2, 0), (31, .if_icmp .lt 5, 3, 0), (34, .iconst 0, 1, 0), (35, .ireturn, 1, 0), (36, .aload_n 0, 1, 0), (37, .getfield 32, 3, 8), (40, .iload_n 2, 1, 0), (41, .baload, 1, 0), (42, .aload_n 0, 1, 0), (43, .getfield 32, 3, 8), (46, .iload_n 3, 1, 0), (47, .baload, 1, 0), (48, .if_icmp .eq 7, 3, 0), (51, .iconst 1, 1, 0), (52, .goto 4, 3, 0), (55, .iconst 0, 1, 0), (56, .ireturn, 1, 0)]
def r35 : List Row := [(0, .aload_n 0, 1, 0), (1, .getfield 7, 3, 1), (4, .iload_n 1, 1, 0), (5, .iaload, 1, 0), (6, .iload_n 2, 1, 0), (7, .if_icmp .ne 10, 3, 0), (10, .aload_n 0, 1, 0), (11, .getfield 13, 3, 2), (14, .iload_n 1, 1, 0), (15, .iaload, 1, 0), (16, .ireturn, 1, 0), (17, .aload_n 0, 1, 0), (18, .getfield 13, 3, 2), (21, .iload_n 1, 1, 0), (22, .iaload, 1, 0), (23, .iload_n 2, 1, 0), (24, .if_icmp .ne 10, 3, 0), (27, .aload_n 0, 1, 0), (28, .getfield 7, 3, 1), (31, .iload_n 1, 1, 0), (32, .iaload, 1, 0), (33, .ireturn, 1, 0), (34, .iconst (-1), 1, 0), (35, .ireturn, 1, 0)]
def r36 : List Row := [(0, .aload_n 0, 1, 0), (1, .getfield 16, 3, 3), (4, .iload_n 1, 1, 0), (5, .iaload, 1, 0), (6, .aload_n 0, 1, 0), (7, .getfield 16, 3, 3), (10, .iload_n 2, 1, 0), (11, .iaload, 1, 0), (12, .if_icmp .eq 24, 3, 0), (15, .aload_n 0, 1, 0), (16, .getfield 16, 3, 3), (19, .iload_n 1, 1, 0), (20, .iaload, 1, 0), (21, .aload_n 0, 1, 0), (22, .getfield 16, 3, 3), (25, .iload_n 2, 1, 0), (26, .iaload, 1, 0), (27, .if_icmp .ge 7, 3, 0), (30, .iconst 1, 1, 0), (31, .goto 4, 3, 0), (34, .iconst 0, 1, 0), (35, .ireturn, 1, 0), (36, .iload_n 1, 1, 0), (37, .iload_n 2, 1, 0), (38, .if_icmp .ge 7, 3, 0), (41, .iconst 1, 1, 0), (42, .goto 4, 3, 0), (45, .iconst 0, 1, 0), (46, .ireturn, 1, 0)]
def r37 : List Row := [(0, .iload_n 1, 1, 0), (1, .iconst (-1), 1, 0), (2, .if_icmp .ne 5, 3, 0), (5, .iload_n 2, 1, 0), (6, .ireturn, 1, 0), (7, .iload_n 2, 1, 0), (8, .iconst (-1), 1, 0), (9, .if_icmp .ne 5, 3, 0), (12, .iload_n 1, 1, 0), (13, .ireturn, 1, 0), (14, .aload_n 0, 1, 0), (15, .iload_n 1, 1, 0), (16, .iload_n 2, 1, 0), (17, .invokevirtual 122, 3, 36), (20, .ifCond .eq 5, 3, 0), (23, .iload_n 1, 1, 0), (24, .ireturn, 1, 0), (25, .iload_n 2, 1, 0), (26, .ireturn, 1, 0)]
def r38 : List Row := [(0, .iload_n 1, 1, 0), (1, .iconst (-1), 1, 0), (2, .if_icmp .ne 5, 3, 0), (5, .iload_n 2, 1, 0), (6, .ireturn, 1, 0), (7, .iload_n 2, 1, 0), (8, .iconst (-1), 1, 0), (9, .if_icmp .ne 5, 3, 0), (12, .iload_n 1, 1, 0), (13, .ireturn, 1, 0), (14, .aload_n 0, 1, 0), (15, .iload_n 1, 1, 0), (16, .iload_n 2, 1, 0), (17, .invokevirtual 122, 3, 36), (20, .ifCond .eq 5, 3, 0), (23, .iload_n 2, 1, 0), (24, .ireturn, 1, 0), (25, .iload_n 1, 1, 0), (26, .ireturn, 1, 0)]
def r39 : List Row := [(0, .iload_n 1, 1, 0), (1, .ifCond .lt 21, 3, 0), (4, .iload_n 1, 1, 0), (5, .aload_n 0, 1, 0), (6, .getfield 44, 3, 0), (9, .if_icmp .ge 13, 3, 0), (12, .iload_n 1, 1, 0), (13, .bipush 32, 2, 0), (15, .if_icmp .ge 7, 3, 0), (18, .iconst 1, 1, 0), (19, .goto 4, 3, 0), (22, .iconst 0, 1, 0), (23, .ireturn, 1, 0)]
def r40 : List Row := [(0, .iload_n 1, 1, 0), (1, .ifCond .lt 14, 3, 0), (4, .iload_n 1, 1, 0), (5, .sipush 128, 3, 0), (8, .if_icmp .ge 7, 3, 0), (11, .iconst 1, 1, 0), (12, .goto 4, 3, 0), (15, .iconst 0, 1, 0), (16, .ireturn, 1, 0)]
def r41 : List Row := [(0, .iload_n 1, 1, 0), (1, .ldc 151, 2, (-1000000)), (3, .if_icmp .ge 6, 3, 0), (6, .ldc 151, 2, (-1000000)), (8, .ireturn, 1, 0), (9, .iload_n 1, 1, 0), (10, .ldc 152, 2, 1000000), (12, .if_icmp .le 6, 3, 0), (15, .ldc 152, 2, 1000000), (17, .ireturn, 1, 0), (18, .iload_n 1, 1, 0), (19, .ireturn, 1, 0)]
def prows : List (List Row) := [[], r1, r2, r3, r4, r5, r6, r7, r8, r9, r10, r11, r12, r13, r14, r15, r16, r17, r18, r19, r20, r21, r22, r23, r24, r25, r26, r27, r28, r29, r30, r31, r32, r33, r34, r35, r36, r37, r38, r39, r40, r41]
def pinfo : List MInfo := [(0, 0, 9, none, {}), (2, 4, 3, none, { frames := 1, cells := 11, slots := 1824, locals := 13 }), (4, 6, 1, some .int, { frames := 4, cells := 0, slots := 0, locals := 65 }), (2, 2, 1, some .boolean, { frames := 4, cells := 0, slots := 0, locals := 64 }), (3, 4, 1, some .boolean, { frames := 4, cells := 0, slots := 0, locals := 65 }), (2, 2, 1, some .boolean, { frames := 1, cells := 0, slots := 0, locals := 13 }), (2, 2, 1, some .boolean, { frames := 1, cells := 0, slots := 0, locals := 13 }), (3, 3, 1, some .int, { frames := 2, cells := 0, slots := 0, locals := 26 }), (2, 2, 1, some .int, { frames := 2, cells := 0, slots := 0, locals := 26 }), (1, 1, 1, some .int, { frames := 0, cells := 0, slots := 0, locals := 0 }), (1, 1, 1, some .long, { frames := 0, cells := 0, slots := 0, locals := 0 }), (1, 1, 1, some .int, { frames := 0, cells := 0, slots := 0, locals := 0 }), (1, 1, 1, some .int, { frames := 0, cells := 0, slots := 0, locals := 0 }), (2, 3, 1, some .int, { frames := 3, cells := 0, slots := 0, locals := 50 }), (3, 3, 1, some .int, { frames := 3, cells := 0, slots := 0, locals := 50 }), (2, 2, 1, some .int, { frames := 3, cells := 0, slots := 0, locals := 50 }), (1, 1, 1, some .int, { frames := 0, cells := 0, slots := 0, locals := 0 }), (1, 1, 1, some .int, { frames := 0, cells := 0, slots := 0, locals := 0 }), (2, 4, 2, none, { frames := 3, cells := 0, slots := 0, locals := 50 }), (2, 3, 2, none, { frames := 3, cells := 0, slots := 0, locals := 50 }), (3, 4, 2, none, { frames := 3, cells := 0, slots := 0, locals := 50 }), (3, 3, 2, none, { frames := 0, cells := 0, slots := 0, locals := 0 }), (1, 2, 2, some .int, { frames := 0, cells := 0, slots := 0, locals := 0 }), (5, 5, 2, none, { frames := 0, cells := 0, slots := 0, locals := 0 }), (2, 2, 2, none, { frames := 0, cells := 0, slots := 0, locals := 0 }), (2, 2, 2, none, { frames := 1, cells := 0, slots := 0, locals := 14 }), (2, 2, 2, none, { frames := 1, cells := 0, slots := 0, locals := 16 }), (3, 3, 2, none, { frames := 0, cells := 0, slots := 0, locals := 0 }), (3, 5, 2, none, { frames := 0, cells := 0, slots := 0, locals := 0 }), (1, 2, 2, none, { frames := 0, cells := 0, slots := 0, locals := 0 }), (3, 5, 2, some .int, { frames := 2, cells := 0, slots := 0, locals := 34 }), (4, 9, 2, some .int, { frames := 1, cells := 0, slots := 0, locals := 14 }), (2, 6, 2, some .int, { frames := 2, cells := 0, slots := 0, locals := 28 }), (1, 3, 2, some .int, { frames := 2, cells := 0, slots := 0, locals := 28 }), (2, 4, 2, some .boolean, { frames := 0, cells := 0, slots := 0, locals := 0 }), (3, 3, 2, some .int, { frames := 0, cells := 0, slots := 0, locals := 0 }), (3, 3, 2, some .boolean, { frames := 0, cells := 0, slots := 0, locals := 0 }), (3, 3, 2, some .int, { frames := 1, cells := 0, slots := 0, locals := 14 }), (3, 3, 2, some .int, { frames := 1, cells := 0, slots := 0, locals := 14 }), (2, 2, 2, some .boolean, { frames := 0, cells := 0, slots := 0, locals := 0 }), (2, 2, 2, some .boolean, { frames := 0, cells := 0, slots := 0, locals := 0 }), (2, 2, 2, some .int, { frames := 0, cells := 0, slots := 0, locals := 0 })]
def pft : List FieldType := [.int, .array .int, .array .int, .array .int, .array .boolean, .array .boolean, .array .int, .array .int, .array .boolean, .array .int, .array .int, .array .int, .int, .int, .long, .int, .int]
def pj (lw : LW) : Prog := (fun m pc => if m < 100 then (prows.getD m []).lookup pc else lw.1 (m - 100) pc, fun m => if m < 100 then pinfo.getD m (0, 0, 9, none, {}) else lw.2 (m - 100), fun k => pft.getD k .int, 17)
def lay : Lay := ([(.int, 0), (.array .int, 1), (.array .int, 2), (.array .int, 3), (.array .boolean, 4), (.array .boolean, 5), (.array .int, 6), (.array .int, 7), (.array .boolean, 8), (.array .int, 9), (.array .int, 10), (.array .int, 11), (.int, 0), (.int, 0), (.long, 0), (.int, 0), (.int, 0)], [(.int, 128), (.int, 128), (.int, 128), (.boolean, 128), (.boolean, 128), (.int, 1024), (.int, 32), (.boolean, 32), (.int, 32), (.int, 32), (.int, 32)])
abbrev ob (H : AH) (p : Nat) (s : St) : AH := put lay 11 H p s
section Acc
variable {H : AH} {p : Nat} {s : St} {i : Int32} {j q : Nat} {v : Int32} {w : Int64}
theorem g0 : fld (put lay j H p s) p 0 = .int (sI s 0) := fld_I (ty := .int) rfl (by decide) (by simp)
theorem s0 : wr (put lay j H p s) p 0 (.int v) = put lay j H p (uI s 0 v) := wr_I (ty := .int) rfl (by decide) (by simp)
theorem g1 : fld (ob H p s) p 1 = .ref (p + 1) := fld_R (ty := .int) rfl (by decide)
theorem g2 : fld (ob H p s) p 2 = .ref (p + 2) := fld_R (ty := .int) rfl (by decide)
theorem g3 : fld (ob H p s) p 3 = .ref (p + 3) := fld_R (ty := .int) rfl (by decide)
theorem g4 : fld (ob H p s) p 4 = .ref (p + 4) := fld_R (ty := .boolean) rfl (by decide)
theorem g5 : fld (ob H p s) p 5 = .ref (p + 5) := fld_R (ty := .boolean) rfl (by decide)
theorem g6 : fld (ob H p s) p 6 = .ref (p + 6) := fld_R (ty := .int) rfl (by decide)
theorem g7 : fld (ob H p s) p 7 = .ref (p + 7) := fld_R (ty := .int) rfl (by decide)
theorem g8 : fld (ob H p s) p 8 = .ref (p + 8) := fld_R (ty := .boolean) rfl (by decide)
theorem g9 : fld (ob H p s) p 9 = .ref (p + 9) := fld_R (ty := .int) rfl (by decide)
theorem g10 : fld (ob H p s) p 10 = .ref (p + 10) := fld_R (ty := .int) rfl (by decide)
theorem g11 : fld (ob H p s) p 11 = .ref (p + 11) := fld_R (ty := .int) rfl (by decide)
theorem g12 : fld (put lay j H p s) p 12 = .int (sI s 12) := fld_I (ty := .int) rfl (by decide) (by simp)
theorem s12 : wr (put lay j H p s) p 12 (.int v) = put lay j H p (uI s 12 v) := wr_I (ty := .int) rfl (by decide) (by simp)
theorem g13 : fld (put lay j H p s) p 13 = .int (sI s 13) := fld_I (ty := .int) rfl (by decide) (by simp)
theorem s13 : wr (put lay j H p s) p 13 (.int v) = put lay j H p (uI s 13 v) := wr_I (ty := .int) rfl (by decide) (by simp)
theorem g14 : fld (put lay j H p s) p 14 = .long (sJ s 14) := fld_J rfl
theorem s14 : wr (put lay j H p s) p 14 (.long w) = put lay j H p (uJ s 14 w) := wr_J rfl
theorem g15 : fld (put lay j H p s) p 15 = .int (sI s 15) := fld_I (ty := .int) rfl (by decide) (by simp)
theorem s15 : wr (put lay j H p s) p 15 (.int v) = put lay j H p (uI s 15 v) := wr_I (ty := .int) rfl (by decide) (by simp)
theorem g16 : fld (put lay j H p s) p 16 = .int (sI s 16) := fld_I (ty := .int) rfl (by decide) (by simp)
theorem s16 : wr (put lay j H p s) p 16 (.int v) = put lay j H p (uI s 16 v) := wr_I (ty := .int) rfl (by decide) (by simp)
theorem ai1 : inA (ob H p s) (p + 1) .int i = true ↔ (0 ≤ i.toInt ∧ i.toInt < 128) := inA_I (t := 0) rfl (by decide) (by decide)
theorem aw1 : inAw (ob H p s) (p + 1) .int i = true ↔ (0 ≤ i.toInt ∧ i.toInt < 128) := inAw_I (t := 0) rfl (by decide) (by decide)
theorem ae1 : elt (ob H p s) (p + 1) i = .int (sA s 1 i.toNatClampNeg) := elt_I (t := 0) (ty := .int) rfl (by decide) (by decide)
theorem as1 : wr (ob H p s) (p + 1) q (.int v) = ob H p (uA s 1 q v) := wr_A (t := 0) (ty := .int) rfl (by decide) (by decide)
theorem ai2 : inA (ob H p s) (p + 2) .int i = true ↔ (0 ≤ i.toInt ∧ i.toInt < 128) := inA_I (t := 1) rfl (by decide) (by decide)
theorem aw2 : inAw (ob H p s) (p + 2) .int i = true ↔ (0 ≤ i.toInt ∧ i.toInt < 128) := inAw_I (t := 1) rfl (by decide) (by decide)
theorem ae2 : elt (ob H p s) (p + 2) i = .int (sA s 2 i.toNatClampNeg) := elt_I (t := 1) (ty := .int) rfl (by decide) (by decide)
theorem as2 : wr (ob H p s) (p + 2) q (.int v) = ob H p (uA s 2 q v) := wr_A (t := 1) (ty := .int) rfl (by decide) (by decide)
theorem ai3 : inA (ob H p s) (p + 3) .int i = true ↔ (0 ≤ i.toInt ∧ i.toInt < 128) := inA_I (t := 2) rfl (by decide) (by decide)
theorem aw3 : inAw (ob H p s) (p + 3) .int i = true ↔ (0 ≤ i.toInt ∧ i.toInt < 128) := inAw_I (t := 2) rfl (by decide) (by decide)
theorem ae3 : elt (ob H p s) (p + 3) i = .int (sA s 3 i.toNatClampNeg) := elt_I (t := 2) (ty := .int) rfl (by decide) (by decide)
theorem as3 : wr (ob H p s) (p + 3) q (.int v) = ob H p (uA s 3 q v) := wr_A (t := 2) (ty := .int) rfl (by decide) (by decide)
theorem ai4 : inA (ob H p s) (p + 4) .boolean i = true ↔ (0 ≤ i.toInt ∧ i.toInt < 128) := inA_I (t := 3) rfl (by decide) (by decide)
theorem aw4 : inAw (ob H p s) (p + 4) .boolean i = true ↔ (0 ≤ i.toInt ∧ i.toInt < 128) := inAw_I (t := 3) rfl (by decide) (by decide)
theorem ain4 : inA (ob H p s) (p + 4) .byte i = true ↔ False := inA_no (t := 3) (ty := .boolean) rfl (by decide) (by decide) (by decide)
theorem awn4 : inAw (ob H p s) (p + 4) .byte i = true ↔ False := inAw_no (t := 3) (ty := .boolean) rfl (by decide) (by decide) (by decide)
theorem ae4 : elt (ob H p s) (p + 4) i = .int (sA s 4 i.toNatClampNeg) := elt_I (t := 3) (ty := .boolean) rfl (by decide) (by decide)
theorem as4 : wr (ob H p s) (p + 4) q (.int v) = ob H p (uA s 4 q v) := wr_A (t := 3) (ty := .boolean) rfl (by decide) (by decide)
theorem ai5 : inA (ob H p s) (p + 5) .boolean i = true ↔ (0 ≤ i.toInt ∧ i.toInt < 128) := inA_I (t := 4) rfl (by decide) (by decide)
theorem aw5 : inAw (ob H p s) (p + 5) .boolean i = true ↔ (0 ≤ i.toInt ∧ i.toInt < 128) := inAw_I (t := 4) rfl (by decide) (by decide)
theorem ain5 : inA (ob H p s) (p + 5) .byte i = true ↔ False := inA_no (t := 4) (ty := .boolean) rfl (by decide) (by decide) (by decide)
theorem awn5 : inAw (ob H p s) (p + 5) .byte i = true ↔ False := inAw_no (t := 4) (ty := .boolean) rfl (by decide) (by decide) (by decide)
theorem ae5 : elt (ob H p s) (p + 5) i = .int (sA s 5 i.toNatClampNeg) := elt_I (t := 4) (ty := .boolean) rfl (by decide) (by decide)
theorem as5 : wr (ob H p s) (p + 5) q (.int v) = ob H p (uA s 5 q v) := wr_A (t := 4) (ty := .boolean) rfl (by decide) (by decide)
theorem ai6 : inA (ob H p s) (p + 6) .int i = true ↔ (0 ≤ i.toInt ∧ i.toInt < 1024) := inA_I (t := 5) rfl (by decide) (by decide)
theorem aw6 : inAw (ob H p s) (p + 6) .int i = true ↔ (0 ≤ i.toInt ∧ i.toInt < 1024) := inAw_I (t := 5) rfl (by decide) (by decide)
theorem ae6 : elt (ob H p s) (p + 6) i = .int (sA s 6 i.toNatClampNeg) := elt_I (t := 5) (ty := .int) rfl (by decide) (by decide)
theorem as6 : wr (ob H p s) (p + 6) q (.int v) = ob H p (uA s 6 q v) := wr_A (t := 5) (ty := .int) rfl (by decide) (by decide)
theorem ai7 : inA (ob H p s) (p + 7) .int i = true ↔ (0 ≤ i.toInt ∧ i.toInt < 32) := inA_I (t := 6) rfl (by decide) (by decide)
theorem aw7 : inAw (ob H p s) (p + 7) .int i = true ↔ (0 ≤ i.toInt ∧ i.toInt < 32) := inAw_I (t := 6) rfl (by decide) (by decide)
theorem ae7 : elt (ob H p s) (p + 7) i = .int (sA s 7 i.toNatClampNeg) := elt_I (t := 6) (ty := .int) rfl (by decide) (by decide)
theorem as7 : wr (ob H p s) (p + 7) q (.int v) = ob H p (uA s 7 q v) := wr_A (t := 6) (ty := .int) rfl (by decide) (by decide)
theorem ai8 : inA (ob H p s) (p + 8) .boolean i = true ↔ (0 ≤ i.toInt ∧ i.toInt < 32) := inA_I (t := 7) rfl (by decide) (by decide)
theorem aw8 : inAw (ob H p s) (p + 8) .boolean i = true ↔ (0 ≤ i.toInt ∧ i.toInt < 32) := inAw_I (t := 7) rfl (by decide) (by decide)
theorem ain8 : inA (ob H p s) (p + 8) .byte i = true ↔ False := inA_no (t := 7) (ty := .boolean) rfl (by decide) (by decide) (by decide)
theorem awn8 : inAw (ob H p s) (p + 8) .byte i = true ↔ False := inAw_no (t := 7) (ty := .boolean) rfl (by decide) (by decide) (by decide)
theorem ae8 : elt (ob H p s) (p + 8) i = .int (sA s 8 i.toNatClampNeg) := elt_I (t := 7) (ty := .boolean) rfl (by decide) (by decide)
theorem as8 : wr (ob H p s) (p + 8) q (.int v) = ob H p (uA s 8 q v) := wr_A (t := 7) (ty := .boolean) rfl (by decide) (by decide)
theorem ai9 : inA (ob H p s) (p + 9) .int i = true ↔ (0 ≤ i.toInt ∧ i.toInt < 32) := inA_I (t := 8) rfl (by decide) (by decide)
theorem aw9 : inAw (ob H p s) (p + 9) .int i = true ↔ (0 ≤ i.toInt ∧ i.toInt < 32) := inAw_I (t := 8) rfl (by decide) (by decide)
theorem ae9 : elt (ob H p s) (p + 9) i = .int (sA s 9 i.toNatClampNeg) := elt_I (t := 8) (ty := .int) rfl (by decide) (by decide)
theorem as9 : wr (ob H p s) (p + 9) q (.int v) = ob H p (uA s 9 q v) := wr_A (t := 8) (ty := .int) rfl (by decide) (by decide)
theorem ai10 : inA (ob H p s) (p + 10) .int i = true ↔ (0 ≤ i.toInt ∧ i.toInt < 32) := inA_I (t := 9) rfl (by decide) (by decide)
theorem aw10 : inAw (ob H p s) (p + 10) .int i = true ↔ (0 ≤ i.toInt ∧ i.toInt < 32) := inAw_I (t := 9) rfl (by decide) (by decide)
theorem ae10 : elt (ob H p s) (p + 10) i = .int (sA s 10 i.toNatClampNeg) := elt_I (t := 9) (ty := .int) rfl (by decide) (by decide)
theorem as10 : wr (ob H p s) (p + 10) q (.int v) = ob H p (uA s 10 q v) := wr_A (t := 9) (ty := .int) rfl (by decide) (by decide)
theorem ai11 : inA (ob H p s) (p + 11) .int i = true ↔ (0 ≤ i.toInt ∧ i.toInt < 32) := inA_I (t := 10) rfl (by decide) (by decide)
theorem aw11 : inAw (ob H p s) (p + 11) .int i = true ↔ (0 ≤ i.toInt ∧ i.toInt < 32) := inAw_I (t := 10) rfl (by decide) (by decide)
theorem ae11 : elt (ob H p s) (p + 11) i = .int (sA s 11 i.toNatClampNeg) := elt_I (t := 10) (ty := .int) rfl (by decide) (by decide)
theorem as11 : wr (ob H p s) (p + 11) q (.int v) = ob H p (uA s 11 q v) := wr_A (t := 10) (ty := .int) rfl (by decide) (by decide)
theorem mkO_ob {lw : LW} : mkO (pj lw) H = put lay 0 (H.1 + 1, H.2) H.1 z0 := mkO_put rfl (fun k => match k with | 0 => rfl | 1 => rfl | 2 => rfl | 3 => rfl | 4 => rfl | 5 => rfl | 6 => rfl | 7 => rfl | 8 => rfl | 9 => rfl | 10 => rfl | 11 => rfl | 12 => rfl | 13 => rfl | 14 => rfl | 15 => rfl | 16 => rfl | (_ + 17) => rfl)
theorem mk1 {h : Nat → Cel} (hz : zr s 1) : wr (mkA .int 128 (put lay 0 (p + 1, h) p s)) p 1 (.ref (p + 1)) = put lay 1 (p + 2, h) p s := mkA_put (j := 0) rfl rfl (by decide) hz.1 hz.2 (Or.inl rfl)
theorem io1 {h : Nat → Cel} : isOw (mkA .int 128 (put lay 0 (p + 1, h) p s)) p = true := isOw_mk (c := 0)
theorem mk2 {h : Nat → Cel} (hz : zr s 2) : wr (mkA .int 128 (put lay 1 (p + 2, h) p s)) p 2 (.ref (p + 2)) = put lay 2 (p + 3, h) p s := mkA_put (j := 1) rfl rfl (by decide) hz.1 hz.2 (Or.inl rfl)
theorem io2 {h : Nat → Cel} : isOw (mkA .int 128 (put lay 1 (p + 2, h) p s)) p = true := isOw_mk (c := 1)
theorem mk3 {h : Nat → Cel} (hz : zr s 3) : wr (mkA .int 128 (put lay 2 (p + 3, h) p s)) p 3 (.ref (p + 3)) = put lay 3 (p + 4, h) p s := mkA_put (j := 2) rfl rfl (by decide) hz.1 hz.2 (Or.inl rfl)
theorem io3 {h : Nat → Cel} : isOw (mkA .int 128 (put lay 2 (p + 3, h) p s)) p = true := isOw_mk (c := 2)
theorem mk4 {h : Nat → Cel} (hz : zr s 4) : wr (mkA .boolean 128 (put lay 3 (p + 4, h) p s)) p 4 (.ref (p + 4)) = put lay 4 (p + 5, h) p s := mkA_put (j := 3) rfl rfl (by decide) hz.1 hz.2 (Or.inr (Or.inr (Or.inr rfl)))
theorem io4 {h : Nat → Cel} : isOw (mkA .boolean 128 (put lay 3 (p + 4, h) p s)) p = true := isOw_mk (c := 3)
theorem mk5 {h : Nat → Cel} (hz : zr s 5) : wr (mkA .boolean 128 (put lay 4 (p + 5, h) p s)) p 5 (.ref (p + 5)) = put lay 5 (p + 6, h) p s := mkA_put (j := 4) rfl rfl (by decide) hz.1 hz.2 (Or.inr (Or.inr (Or.inr rfl)))
theorem io5 {h : Nat → Cel} : isOw (mkA .boolean 128 (put lay 4 (p + 5, h) p s)) p = true := isOw_mk (c := 4)
theorem mk6 {h : Nat → Cel} (hz : zr s 6) : wr (mkA .int 1024 (put lay 5 (p + 6, h) p s)) p 6 (.ref (p + 6)) = put lay 6 (p + 7, h) p s := mkA_put (j := 5) rfl rfl (by decide) hz.1 hz.2 (Or.inl rfl)
theorem io6 {h : Nat → Cel} : isOw (mkA .int 1024 (put lay 5 (p + 6, h) p s)) p = true := isOw_mk (c := 5)
theorem mk7 {h : Nat → Cel} (hz : zr s 7) : wr (mkA .int 32 (put lay 6 (p + 7, h) p s)) p 7 (.ref (p + 7)) = put lay 7 (p + 8, h) p s := mkA_put (j := 6) rfl rfl (by decide) hz.1 hz.2 (Or.inl rfl)
theorem io7 {h : Nat → Cel} : isOw (mkA .int 32 (put lay 6 (p + 7, h) p s)) p = true := isOw_mk (c := 6)
theorem mk8 {h : Nat → Cel} (hz : zr s 8) : wr (mkA .boolean 32 (put lay 7 (p + 8, h) p s)) p 8 (.ref (p + 8)) = put lay 8 (p + 9, h) p s := mkA_put (j := 7) rfl rfl (by decide) hz.1 hz.2 (Or.inr (Or.inr (Or.inr rfl)))
theorem io8 {h : Nat → Cel} : isOw (mkA .boolean 32 (put lay 7 (p + 8, h) p s)) p = true := isOw_mk (c := 7)
theorem mk9 {h : Nat → Cel} (hz : zr s 9) : wr (mkA .int 32 (put lay 8 (p + 9, h) p s)) p 9 (.ref (p + 9)) = put lay 9 (p + 10, h) p s := mkA_put (j := 8) rfl rfl (by decide) hz.1 hz.2 (Or.inl rfl)
theorem io9 {h : Nat → Cel} : isOw (mkA .int 32 (put lay 8 (p + 9, h) p s)) p = true := isOw_mk (c := 8)
theorem mk10 {h : Nat → Cel} (hz : zr s 10) : wr (mkA .int 32 (put lay 9 (p + 10, h) p s)) p 10 (.ref (p + 10)) = put lay 10 (p + 11, h) p s := mkA_put (j := 9) rfl rfl (by decide) hz.1 hz.2 (Or.inl rfl)
theorem io10 {h : Nat → Cel} : isOw (mkA .int 32 (put lay 9 (p + 10, h) p s)) p = true := isOw_mk (c := 9)
theorem mk11 {h : Nat → Cel} (hz : zr s 11) : wr (mkA .int 32 (put lay 10 (p + 11, h) p s)) p 11 (.ref (p + 11)) = put lay 11 (p + 12, h) p s := mkA_put (j := 10) rfl rfl (by decide) hz.1 hz.2 (Or.inl rfl)
theorem io11 {h : Nat → Cel} : isOw (mkA .int 32 (put lay 10 (p + 11, h) p s)) p = true := isOw_mk (c := 10)
end Acc
section Pc
variable {lw : LW} {L : List Slot} {S : List Value} {k n : Nat} {H : AH} {Q : Option Value → AH → Prop}
theorem c1 {x0 : Nat} {x1 : Int32} : Cl (pj lw) 1 [.ref x0, .int x1] H Q ↔ W (pj lw) 1 0 [.val (.ref x0), .val (.int x1), .unset, .unset] [] 0 0 H Q := cl_unf rfl
abbrev EW (lw : LW) (m pc pc' : Nat) (L : List Slot) (S S' : List Value) : Prop := ∀ {k n : Nat} {H : AH} {Q : Option Value → AH → Prop}, W (pj lw) m pc L S k n H Q ↔ W (pj lw) m pc' L S' k n H Q
def stq (P : Prog) (m pc : Nat) (L : List Slot) (S : List Value) (k n : Nat) (H : AH) : Option Fm :=
  match P.1 m pc with
  | some (ins, len, aux) => if (ret P m ins S).isNone && (cal P m ins aux S k n H).isNone then stp P m ins len aux pc L S k n H else none
  | none => none
theorem ES {lw : LW} {m pc pc' : Nat} {L : List Slot} {S S' : List Value} (h : stq (pj lw) m pc L S = fun k n H => some (pc', L, S', k, n, H)) : EW lw m pc pc' L S S' := by
  intro k n H Q
  have h := congrFun (congrFun (congrFun h k) n) H
  unfold stq at h
  split at h
  · rename_i e
    split at h
    · rename_i c
      rw [Bool.and_eq_true, Option.isNone_iff_eq_none, Option.isNone_iff_eq_none] at c
      exact W_s e c.1 c.2 h
    · exact absurd h (by simp)
  · exact absurd h (by simp)
theorem w1_0 : EW lw 1 0 1 (.val (.ref x)::L) S (.ref x::S) := ES rfl
abbrev Zw0 (lw : LW) (m0 m1 m2 m3 m4 m5 : Nat) : Prop := ∀ {L : List Slot} {S : List Value} {k n : Nat} {H : AH} {Q : Option Value → AH → Prop} {x : Int32} {y : Int32}, W (pj lw) m0 m1 L (.int y::.int x::S) k n H Q ↔ (if x < y then W (pj lw) m2 m3 L S k n H Q else W (pj lw) m4 m5 L S k n H Q)
abbrev Zw1 (lw : LW) (m0 m1 m2 m3 m4 m5 : Nat) : Prop := ∀ {L : List Slot} {S : List Value} {k n : Nat} {H : AH} {Q : Option Value → AH → Prop} {x : Int32} {y : Int32}, W (pj lw) m0 m1 L (.int y::.int x::S) k n H Q ↔ (if y < x then W (pj lw) m2 m3 L S k n H Q else W (pj lw) m4 m5 L S k n H Q)
abbrev Zw2 (lw : LW) (m0 m1 m2 m3 m4 : Nat) : Prop := ∀ {L : List Slot} {S : List Value} {k n : Nat} {H : AH} {Q : Option Value → AH → Prop} {a : Nat}, W (pj lw) m0 m1 L (.ref a::S) k n H Q ↔ (isO H a = true ∧ W (pj lw) m2 m3 L (fld H a m4::S) k n H Q)
abbrev Zw3 (lw : LW) (m0 m1 m2 m3 : Nat) : Prop := ∀ {L : List Slot} {S : List Value} {k n : Nat} {H : AH} {Q : Option Value → AH → Prop} {a : Nat} {i : Int32} {x : Int32}, W (pj lw) m0 m1 L (.int x::.int i::.ref a::S) k n H Q ↔ (inAw H a .int i = true ∧ W (pj lw) m2 m3 L S k n (wr H a i.toNatClampNeg (.int x)) Q)
abbrev Zw4 (lw : LW) (m0 m1 m2 m3 m4 m5 : Nat) : Prop := ∀ {L : List Slot} {S : List Value} {k n : Nat} {H : AH} {Q : Option Value → AH → Prop} {x : Int32}, W (pj lw) m0 m1 L (.int x::S) k n H Q ↔ (if x = 0 then W (pj lw) m2 m3 L S k n H Q else W (pj lw) m4 m5 L S k n H Q)
abbrev Zw5 (lw : LW) (m0 m1 m2 m3 m4 m5 : Nat) : Prop := ∀ {L : List Slot} {S : List Value} {k n : Nat} {H : AH} {Q : Option Value → AH → Prop} {x : Int32} {y : Int32}, W (pj lw) m0 m1 L (.int y::.int x::S) k n H Q ↔ (if x = y then W (pj lw) m2 m3 L S k n H Q else W (pj lw) m4 m5 L S k n H Q)
abbrev Zw6 (lw : LW) (m0 m1 : Nat) : Prop := ∀ {L : List Slot} {S : List Value} {k n : Nat} {H : AH} {Q : Option Value → AH → Prop} {x : Int32}, W (pj lw) m0 m1 L (.int x::S) k n H Q ↔ ((x = 0 ∨ x = 1) ∧ Q (some (.int x)) H)
abbrev Zw7 (lw : LW) (m0 m1 m2 m3 : Nat) : Prop := ∀ {L : List Slot} {S : List Value} {k n : Nat} {H : AH} {Q : Option Value → AH → Prop} {a : Nat} {i : Int32}, W (pj lw) m0 m1 L (.int i::.ref a::S) k n H Q ↔ ((inA H a .byte i = true ∨ inA H a .boolean i = true) ∧ W (pj lw) m2 m3 L (elt H a i::S) k n H Q)
abbrev Zw8 (lw : LW) (m0 m1 m2 m3 : Nat) : Prop := ∀ {L : List Slot} {S : List Value} {k n : Nat} {H : AH} {Q : Option Value → AH → Prop} {a : Nat} {i : Int32}, W (pj lw) m0 m1 L (.int i::.ref a::S) k n H Q ↔ (inA H a .int i = true ∧ W (pj lw) m2 m3 L (elt H a i::S) k n H Q)
abbrev Zw9 (lw : LW) (m0 m1 m2 m3 : Nat) : Prop := ∀ {L : List Slot} {S : List Value} {k n : Nat} {H : AH} {Q : Option Value → AH → Prop} {a : Nat} {i : Int32} {x : Int32}, W (pj lw) m0 m1 L (.int x::.int i::.ref a::S) k n H Q ↔ (((inAw H a .byte i = true ∧ okv .byte (.int x) = true) ∨ (inAw H a .boolean i = true ∧ okv .boolean (.int x) = true)) ∧ W (pj lw) m2 m3 L S k n (wr H a i.toNatClampNeg (.int x)) Q)
abbrev Zw10 (lw : LW) (m0 m1 m2 m3 m4 m5 : Nat) : Prop := ∀ {L : List Slot} {S : List Value} {k n : Nat} {H : AH} {Q : Option Value → AH → Prop} {x : Int32}, W (pj lw) m0 m1 L (.int x::S) k n H Q ↔ (if x < 0 then W (pj lw) m2 m3 L S k n H Q else W (pj lw) m4 m5 L S k n H Q)
theorem w1_1 : W (pj lw) 1 1 L (.ref a::S) k n H Q ↔ ((1 ≤ 1 ∧ cs S + 12 ≤ 13) ∧ W (pj lw) 1 4 L S k n H Q) := W_oinit (len := 3) rfl
theorem w1_4 : EW lw 1 4 5 (.val (.ref x)::L) S (.ref x::S) := ES rfl
theorem w1_5 : EW lw 1 5 8 L S (.int 128::S) := ES rfl
theorem w1_8 : W (pj lw) 1 8 L (.int 128::S) k n H Q ↔ ((k + 1 ≤ 11 ∧ n + 128 ≤ 1824) ∧ W (pj lw) 1 10 L (.ref H.1::S) (k + 1) (n + 128) (mkA .int 128 H) Q) := W_newarr' (rfl : (pj lw).1 1 8 = some (.newarray .int, 2, 0)) rfl (by decide) (by decide)
theorem w1_10 {v : Value} : W (pj lw) 1 10 L (v::.ref a::S) k n H Q ↔ ((isOw H a = true ∧ okv (.array .int) v = true) ∧ W (pj lw) 1 13 L S k n (wr H a 1 v) Q) := W_putf (rfl : (pj lw).1 1 10 = some (.putfield 7, 3, 1))
theorem w1_13 : EW lw 1 13 14 (.val (.ref x)::L) S (.ref x::S) := ES rfl
theorem w1_14 : EW lw 1 14 17 L S (.int 128::S) := ES rfl
theorem w1_17 : W (pj lw) 1 17 L (.int 128::S) k n H Q ↔ ((k + 1 ≤ 11 ∧ n + 128 ≤ 1824) ∧ W (pj lw) 1 19 L (.ref H.1::S) (k + 1) (n + 128) (mkA .int 128 H) Q) := W_newarr' (rfl : (pj lw).1 1 17 = some (.newarray .int, 2, 0)) rfl (by decide) (by decide)
theorem w1_19 {v : Value} : W (pj lw) 1 19 L (v::.ref a::S) k n H Q ↔ ((isOw H a = true ∧ okv (.array .int) v = true) ∧ W (pj lw) 1 22 L S k n (wr H a 2 v) Q) := W_putf (rfl : (pj lw).1 1 19 = some (.putfield 13, 3, 2))
theorem w1_22 : EW lw 1 22 23 (.val (.ref x)::L) S (.ref x::S) := ES rfl
theorem w1_23 : EW lw 1 23 26 L S (.int 128::S) := ES rfl
theorem w1_26 : W (pj lw) 1 26 L (.int 128::S) k n H Q ↔ ((k + 1 ≤ 11 ∧ n + 128 ≤ 1824) ∧ W (pj lw) 1 28 L (.ref H.1::S) (k + 1) (n + 128) (mkA .int 128 H) Q) := W_newarr' (rfl : (pj lw).1 1 26 = some (.newarray .int, 2, 0)) rfl (by decide) (by decide)
theorem w1_28 {v : Value} : W (pj lw) 1 28 L (v::.ref a::S) k n H Q ↔ ((isOw H a = true ∧ okv (.array .int) v = true) ∧ W (pj lw) 1 31 L S k n (wr H a 3 v) Q) := W_putf (rfl : (pj lw).1 1 28 = some (.putfield 16, 3, 3))
theorem w1_31 : EW lw 1 31 32 (.val (.ref x)::L) S (.ref x::S) := ES rfl
theorem w1_32 : EW lw 1 32 35 L S (.int 128::S) := ES rfl
theorem w1_35 : W (pj lw) 1 35 L (.int 128::S) k n H Q ↔ ((k + 1 ≤ 11 ∧ n + 128 ≤ 1824) ∧ W (pj lw) 1 37 L (.ref H.1::S) (k + 1) (n + 128) (mkA .boolean 128 H) Q) := W_newarr' (rfl : (pj lw).1 1 35 = some (.newarray .boolean, 2, 0)) rfl (by decide) (by decide)
theorem w1_37 {v : Value} : W (pj lw) 1 37 L (v::.ref a::S) k n H Q ↔ ((isOw H a = true ∧ okv (.array .boolean) v = true) ∧ W (pj lw) 1 40 L S k n (wr H a 4 v) Q) := W_putf (rfl : (pj lw).1 1 37 = some (.putfield 19, 3, 4))
theorem w1_40 : EW lw 1 40 41 (.val (.ref x)::L) S (.ref x::S) := ES rfl
theorem w1_41 : EW lw 1 41 44 L S (.int 128::S) := ES rfl
theorem w1_44 : W (pj lw) 1 44 L (.int 128::S) k n H Q ↔ ((k + 1 ≤ 11 ∧ n + 128 ≤ 1824) ∧ W (pj lw) 1 46 L (.ref H.1::S) (k + 1) (n + 128) (mkA .boolean 128 H) Q) := W_newarr' (rfl : (pj lw).1 1 44 = some (.newarray .boolean, 2, 0)) rfl (by decide) (by decide)
theorem w1_46 {v : Value} : W (pj lw) 1 46 L (v::.ref a::S) k n H Q ↔ ((isOw H a = true ∧ okv (.array .boolean) v = true) ∧ W (pj lw) 1 49 L S k n (wr H a 5 v) Q) := W_putf (rfl : (pj lw).1 1 46 = some (.putfield 23, 3, 5))
theorem w1_49 : EW lw 1 49 50 (.val (.ref x)::L) S (.ref x::S) := ES rfl
theorem w1_50 : EW lw 1 50 53 L S (.int 1024::S) := ES rfl
theorem w1_53 : W (pj lw) 1 53 L (.int 1024::S) k n H Q ↔ ((k + 1 ≤ 11 ∧ n + 1024 ≤ 1824) ∧ W (pj lw) 1 55 L (.ref H.1::S) (k + 1) (n + 1024) (mkA .int 1024 H) Q) := W_newarr' (rfl : (pj lw).1 1 53 = some (.newarray .int, 2, 0)) rfl (by decide) (by decide)
theorem w1_55 {v : Value} : W (pj lw) 1 55 L (v::.ref a::S) k n H Q ↔ ((isOw H a = true ∧ okv (.array .int) v = true) ∧ W (pj lw) 1 58 L S k n (wr H a 6 v) Q) := W_putf (rfl : (pj lw).1 1 55 = some (.putfield 26, 3, 6))
theorem w1_58 : EW lw 1 58 59 (.val (.ref x)::L) S (.ref x::S) := ES rfl
theorem w1_59 : EW lw 1 59 61 L S (.int 32::S) := ES rfl
theorem w1_61 : W (pj lw) 1 61 L (.int 32::S) k n H Q ↔ ((k + 1 ≤ 11 ∧ n + 32 ≤ 1824) ∧ W (pj lw) 1 63 L (.ref H.1::S) (k + 1) (n + 32) (mkA .int 32 H) Q) := W_newarr' (rfl : (pj lw).1 1 61 = some (.newarray .int, 2, 0)) rfl (by decide) (by decide)
theorem w1_63 {v : Value} : W (pj lw) 1 63 L (v::.ref a::S) k n H Q ↔ ((isOw H a = true ∧ okv (.array .int) v = true) ∧ W (pj lw) 1 66 L S k n (wr H a 7 v) Q) := W_putf (rfl : (pj lw).1 1 63 = some (.putfield 29, 3, 7))
theorem w1_66 : EW lw 1 66 67 (.val (.ref x)::L) S (.ref x::S) := ES rfl
theorem w1_67 : EW lw 1 67 69 L S (.int 32::S) := ES rfl
theorem w1_69 : W (pj lw) 1 69 L (.int 32::S) k n H Q ↔ ((k + 1 ≤ 11 ∧ n + 32 ≤ 1824) ∧ W (pj lw) 1 71 L (.ref H.1::S) (k + 1) (n + 32) (mkA .boolean 32 H) Q) := W_newarr' (rfl : (pj lw).1 1 69 = some (.newarray .boolean, 2, 0)) rfl (by decide) (by decide)
theorem w1_71 {v : Value} : W (pj lw) 1 71 L (v::.ref a::S) k n H Q ↔ ((isOw H a = true ∧ okv (.array .boolean) v = true) ∧ W (pj lw) 1 74 L S k n (wr H a 8 v) Q) := W_putf (rfl : (pj lw).1 1 71 = some (.putfield 32, 3, 8))
theorem w1_74 : EW lw 1 74 75 (.val (.ref x)::L) S (.ref x::S) := ES rfl
theorem w1_75 : EW lw 1 75 77 L S (.int 32::S) := ES rfl
theorem w1_77 : W (pj lw) 1 77 L (.int 32::S) k n H Q ↔ ((k + 1 ≤ 11 ∧ n + 32 ≤ 1824) ∧ W (pj lw) 1 79 L (.ref H.1::S) (k + 1) (n + 32) (mkA .int 32 H) Q) := W_newarr' (rfl : (pj lw).1 1 77 = some (.newarray .int, 2, 0)) rfl (by decide) (by decide)
theorem w1_79 {v : Value} : W (pj lw) 1 79 L (v::.ref a::S) k n H Q ↔ ((isOw H a = true ∧ okv (.array .int) v = true) ∧ W (pj lw) 1 82 L S k n (wr H a 9 v) Q) := W_putf (rfl : (pj lw).1 1 79 = some (.putfield 35, 3, 9))
theorem w1_82 : EW lw 1 82 83 (.val (.ref x)::L) S (.ref x::S) := ES rfl
theorem w1_83 : EW lw 1 83 85 L S (.int 32::S) := ES rfl
theorem w1_85 : W (pj lw) 1 85 L (.int 32::S) k n H Q ↔ ((k + 1 ≤ 11 ∧ n + 32 ≤ 1824) ∧ W (pj lw) 1 87 L (.ref H.1::S) (k + 1) (n + 32) (mkA .int 32 H) Q) := W_newarr' (rfl : (pj lw).1 1 85 = some (.newarray .int, 2, 0)) rfl (by decide) (by decide)
theorem w1_87 {v : Value} : W (pj lw) 1 87 L (v::.ref a::S) k n H Q ↔ ((isOw H a = true ∧ okv (.array .int) v = true) ∧ W (pj lw) 1 90 L S k n (wr H a 10 v) Q) := W_putf (rfl : (pj lw).1 1 87 = some (.putfield 38, 3, 10))
theorem w1_90 : EW lw 1 90 91 (.val (.ref x)::L) S (.ref x::S) := ES rfl
theorem w1_91 : EW lw 1 91 93 L S (.int 32::S) := ES rfl
theorem w1_93 : W (pj lw) 1 93 L (.int 32::S) k n H Q ↔ ((k + 1 ≤ 11 ∧ n + 32 ≤ 1824) ∧ W (pj lw) 1 95 L (.ref H.1::S) (k + 1) (n + 32) (mkA .int 32 H) Q) := W_newarr' (rfl : (pj lw).1 1 93 = some (.newarray .int, 2, 0)) rfl (by decide) (by decide)
theorem w1_95 {v : Value} : W (pj lw) 1 95 L (v::.ref a::S) k n H Q ↔ ((isOw H a = true ∧ okv (.array .int) v = true) ∧ W (pj lw) 1 98 L S k n (wr H a 11 v) Q) := W_putf (rfl : (pj lw).1 1 95 = some (.putfield 41, 3, 11))
theorem w1_98 : EW lw 1 98 99 (a::.val (.int x)::L) S (.int x::S) := ES rfl
theorem w1_99 : W (pj lw) 1 99 (a::b::.unset::L) (.int x::S) k n H Q ↔ W (pj lw) 1 100 (a::b::.val (.int x)::L) S k n H Q := W_istn (rfl : (pj lw).1 1 99 = some (.istore_n 2, 1, 0)) rfl rfl
theorem w1_100 : EW lw 1 100 101 (a::b::.val (.int x)::L) S (.int x::S) := ES rfl
theorem w1_101 : EW lw 1 101 102 L S (.int 2::S) := ES rfl
theorem w1_102 : Zw0 lw 1 102 1 105 1 107 := W_icmp_ge (len := 3) rfl rfl
theorem w1_105 : EW lw 1 105 106 L S (.int 2::S) := ES rfl
theorem w1_106i : W (pj lw) 1 106 (a::b::.val (.int y)::L) (.int x::S) k n H Q ↔ W (pj lw) 1 107 (a::b::.val (.int x)::L) S k n H Q := W_istn (rfl : (pj lw).1 1 106 = some (.istore_n 2, 1, 0)) rfl rfl
theorem w1_107 : EW lw 1 107 108 (a::b::.val (.int x)::L) S (.int x::S) := ES rfl
theorem w1_108 : EW lw 1 108 110 L S (.int 32::S) := ES rfl
theorem w1_110 : Zw1 lw 1 110 1 113 1 116 := W_icmp_le (len := 3) rfl rfl
theorem w1_113 : EW lw 1 113 115 L S (.int 32::S) := ES rfl
theorem w1_115i : W (pj lw) 1 115 (a::b::.val (.int y)::L) (.int x::S) k n H Q ↔ W (pj lw) 1 116 (a::b::.val (.int x)::L) S k n H Q := W_istn (rfl : (pj lw).1 1 115 = some (.istore_n 2, 1, 0)) rfl rfl
theorem w1_116 : EW lw 1 116 117 (.val (.ref x)::L) S (.ref x::S) := ES rfl
theorem w1_117 : EW lw 1 117 118 (a::b::.val (.int x)::L) S (.int x::S) := ES rfl
theorem w1_118 {v : Value} : W (pj lw) 1 118 L (v::.ref a::S) k n H Q ↔ ((isOw H a = true ∧ okv (.int) v = true) ∧ W (pj lw) 1 121 L S k n (wr H a 0 v) Q) := W_putf (rfl : (pj lw).1 1 118 = some (.putfield 44, 3, 0))
theorem w1_121 : EW lw 1 121 122 (.val (.ref x)::L) S (.ref x::S) := ES rfl
theorem w1_122 : EW lw 1 122 123 L S (.int 0::S) := ES rfl
theorem w1_123 {v : Value} : W (pj lw) 1 123 L (v::.ref a::S) k n H Q ↔ ((isOw H a = true ∧ okv (.int) v = true) ∧ W (pj lw) 1 126 L S k n (wr H a 12 v) Q) := W_putf (rfl : (pj lw).1 1 123 = some (.putfield 48, 3, 12))
theorem w1_126 : EW lw 1 126 127 (.val (.ref x)::L) S (.ref x::S) := ES rfl
theorem w1_127 : EW lw 1 127 128 L S (.int 0::S) := ES rfl
theorem w1_128 {v : Value} : W (pj lw) 1 128 L (v::.ref a::S) k n H Q ↔ ((isOw H a = true ∧ okv (.int) v = true) ∧ W (pj lw) 1 131 L S k n (wr H a 13 v) Q) := W_putf (rfl : (pj lw).1 1 128 = some (.putfield 51, 3, 13))
theorem w1_131 : EW lw 1 131 132 (.val (.ref x)::L) S (.ref x::S) := ES rfl
theorem w1_132 : EW lw 1 132 133 L S (.long 0::S) := ES rfl
theorem w1_133 {v : Value} : W (pj lw) 1 133 L (v::.ref a::S) k n H Q ↔ ((isOw H a = true ∧ okv (.long) v = true) ∧ W (pj lw) 1 136 L S k n (wr H a 14 v) Q) := W_putf (rfl : (pj lw).1 1 133 = some (.putfield 54, 3, 14))
theorem w1_136 : EW lw 1 136 137 (.val (.ref x)::L) S (.ref x::S) := ES rfl
theorem w1_137 : EW lw 1 137 138 L S (.int (-1)::S) := ES rfl
theorem w1_138 {v : Value} : W (pj lw) 1 138 L (v::.ref a::S) k n H Q ↔ ((isOw H a = true ∧ okv (.int) v = true) ∧ W (pj lw) 1 141 L S k n (wr H a 15 v) Q) := W_putf (rfl : (pj lw).1 1 138 = some (.putfield 58, 3, 15))
theorem w1_141 : EW lw 1 141 142 (.val (.ref x)::L) S (.ref x::S) := ES rfl
theorem w1_142 : EW lw 1 142 143 L S (.int (-1)::S) := ES rfl
theorem w1_143 {v : Value} : W (pj lw) 1 143 L (v::.ref a::S) k n H Q ↔ ((isOw H a = true ∧ okv (.int) v = true) ∧ W (pj lw) 1 146 L S k n (wr H a 16 v) Q) := W_putf (rfl : (pj lw).1 1 143 = some (.putfield 61, 3, 16))
theorem w1_146 : EW lw 1 146 147 L S (.int 0::S) := ES rfl
theorem w1_147 : W (pj lw) 1 147 (a::b::c::.unset::L) (.int x::S) k n H Q ↔ W (pj lw) 1 148 (a::b::c::.val (.int x)::L) S k n H Q := W_istn (rfl : (pj lw).1 1 147 = some (.istore_n 3, 1, 0)) rfl rfl
theorem w1_148 : EW lw 1 148 149 (a::b::c::.val (.int x)::L) S (.int x::S) := ES rfl
theorem w1_149 : EW lw 1 149 151 L S (.int 32::S) := ES rfl
theorem w1_151 : Zw0 lw 1 151 1 154 1 167 := W_icmp_ge (len := 3) rfl rfl
theorem w1_154 : EW lw 1 154 155 (.val (.ref x)::L) S (.ref x::S) := ES rfl
theorem w1_155 : Zw2 lw 1 155 1 158 7 := W_getf (rfl : (pj lw).1 1 155 = some (.getfield 29, 3, 7))
theorem w1_158 : EW lw 1 158 159 (a::b::c::.val (.int x)::L) S (.int x::S) := ES rfl
theorem w1_159 : EW lw 1 159 160 L S (.int 0::S) := ES rfl
theorem w1_160 : Zw3 lw 1 160 1 161 := W_iastore (len := 1) rfl
theorem w1_161 : W (pj lw) 1 161 (a::b::c::.val (.int x)::L) S k n H Q ↔ W (pj lw) 1 164 (a::b::c::.val (.int (x + 1))::L) S k n H Q := W_s rfl rfl rfl rfl
theorem w1_164 : W (pj lw) 1 164 L S k n H Q ↔ W (pj lw) 1 148 L S k n H Q := W_goto rfl rfl
theorem w1_167 : EW lw 1 167 168 (.val (.ref x)::L) S (.ref x::S) := ES rfl
theorem w1_168 : W (pj lw) 1 168 L (.ref a::S) k n H Q ↔ ((isO H a = true ∧ cs S + (2 + 11) + 0 ≤ 13) ∧ Cl (pj lw) 29 [.ref a] H (fun v H => W (pj lw) 1 171 L (v.toList ++ S) k n H Q)) := W_inst (as := []) (rfl : (pj lw).1 1 168 = some (.invokevirtual 64, 3, 29)) rfl rfl rfl (Nat.le_of_ble_eq_true rfl) (Nat.le_of_ble_eq_true rfl) ⟨rfl, rfl⟩
theorem w1_171 : W (pj lw) 1 171 L [] k n H Q ↔ Q none H := W_r rfl rfl
theorem c2 {x0 : Nat} {x1 : Int32} {x2 : Int32} {x3 : Int32} : Cl (pj lw) 2 [.ref x0, .int x1, .int x2, .int x3] H Q ↔ W (pj lw) 2 0 [.val (.ref x0), .val (.int x1), .val (.int x2), .val (.int x3), .unset, .unset] [] 0 0 H Q := cl_unf rfl
theorem w2_0 : EW lw 2 0 1 (.val (.ref x)::L) S (.ref x::S) := ES rfl
theorem w2_1 : EW lw 2 1 2 (a::.val (.int x)::L) S (.int x::S) := ES rfl
theorem w2_2 : W (pj lw) 2 2 L (.int x0::.ref a::S) k n H Q ↔ ((isO H a = true ∧ cs S + (2 + 11) + 0 ≤ 65) ∧ Cl (pj lw) 39 [.ref a, .int x0] H (fun v H => W (pj lw) 2 5 L (v.toList ++ S) k n H Q)) := W_inst (as := [.int x0]) (rfl : (pj lw).1 2 2 = some (.invokevirtual 67, 3, 39)) rfl rfl rfl (Nat.le_of_ble_eq_true rfl) (Nat.le_of_ble_eq_true rfl) ⟨rfl, rfl⟩
theorem w2_5 : Zw4 lw 2 5 2 16 2 8 := W_if_eq (len := 3) rfl rfl
theorem w2_8 : EW lw 2 8 9 (.val (.ref x)::L) S (.ref x::S) := ES rfl
theorem w2_9 : EW lw 2 9 10 (a::b::.val (.int x)::L) S (.int x::S) := ES rfl
theorem w2_10 : W (pj lw) 2 10 L (.int x0::.ref a::S) k n H Q ↔ ((isO H a = true ∧ cs S + (2 + 11) + 0 ≤ 65) ∧ Cl (pj lw) 39 [.ref a, .int x0] H (fun v H => W (pj lw) 2 13 L (v.toList ++ S) k n H Q)) := W_inst (as := [.int x0]) (rfl : (pj lw).1 2 10 = some (.invokevirtual 67, 3, 39)) rfl rfl rfl (Nat.le_of_ble_eq_true rfl) (Nat.le_of_ble_eq_true rfl) ⟨rfl, rfl⟩
theorem w2_13 : Zw4 lw 2 13 2 16 2 19 := W_if_ne (len := 3) rfl rfl
theorem w2_16 : EW lw 2 16 18 L S (.int (-2)::S) := ES rfl
theorem w2_18 : W (pj lw) 2 18 L (.int x::S) k n H Q ↔ Q (some (.int x)) H := W_r rfl rfl
theorem w2_19 : EW lw 2 19 20 (a::.val (.int x)::L) S (.int x::S) := ES rfl
theorem w2_20 : EW lw 2 20 21 (a::b::.val (.int x)::L) S (.int x::S) := ES rfl
theorem w2_21 : Zw5 lw 2 21 2 24 2 27 := W_icmp_ne (len := 3) rfl rfl
theorem w2_24 : EW lw 2 24 26 L S (.int (-3)::S) := ES rfl
theorem w2_26 : W (pj lw) 2 26 L (.int x::S) k n H Q ↔ Q (some (.int x)) H := W_r rfl rfl
theorem w2_27 : EW lw 2 27 28 (.val (.ref x)::L) S (.ref x::S) := ES rfl
theorem w2_28 : W (pj lw) 2 28 L (.ref a::S) k n H Q ↔ ((isO H a = true ∧ cs S + (2 + 11) + 0 ≤ 65) ∧ Cl (pj lw) 22 [.ref a] H (fun v H => W (pj lw) 2 31 L (v.toList ++ S) k n H Q)) := W_inst (as := []) (rfl : (pj lw).1 2 28 = some (.invokevirtual 71, 3, 22)) rfl rfl rfl (Nat.le_of_ble_eq_true rfl) (Nat.le_of_ble_eq_true rfl) ⟨rfl, rfl⟩
theorem w2_31 : W (pj lw) 2 31 (a::b::c::d::.unset::L) (.int x::S) k n H Q ↔ W (pj lw) 2 33 (a::b::c::d::.val (.int x)::L) S k n H Q := W_ist (rfl : (pj lw).1 2 31 = some (.istore 4, 2, 0)) rfl rfl
theorem w2_33 : EW lw 2 33 35 (a::b::c::d::.val (.int x)::L) S (.int x::S) := ES rfl
theorem w2_35 : EW lw 2 35 36 L S (.int (-1)::S) := ES rfl
theorem w2_36 : Zw5 lw 2 36 2 39 2 42 := W_icmp_ne (len := 3) rfl rfl
theorem w2_42 : EW lw 2 42 43 (.val (.ref x)::L) S (.ref x::S) := ES rfl
theorem w2_43 : EW lw 2 43 44 (a::b::c::.val (.int x)::L) S (.int x::S) := ES rfl
theorem w2_44 : W (pj lw) 2 44 L (.int x0::.ref a::S) k n H Q ↔ ((isO H a = true ∧ cs S + (2 + 11) + 0 ≤ 65) ∧ Cl (pj lw) 41 [.ref a, .int x0] H (fun v H => W (pj lw) 2 47 L (v.toList ++ S) k n H Q)) := W_inst (as := [.int x0]) (rfl : (pj lw).1 2 44 = some (.invokevirtual 75, 3, 41)) rfl rfl rfl (Nat.le_of_ble_eq_true rfl) (Nat.le_of_ble_eq_true rfl) ⟨rfl, rfl⟩
theorem w2_47 : W (pj lw) 2 47 (a::b::c::d::e::.unset::L) (.int x::S) k n H Q ↔ W (pj lw) 2 49 (a::b::c::d::e::.val (.int x)::L) S k n H Q := W_ist (rfl : (pj lw).1 2 47 = some (.istore 5, 2, 0)) rfl rfl
theorem w2_49 : EW lw 2 49 50 (.val (.ref x)::L) S (.ref x::S) := ES rfl
theorem w2_50 : EW lw 2 50 52 (a::b::c::d::.val (.int x)::L) S (.int x::S) := ES rfl
theorem w2_52 : EW lw 2 52 53 (a::.val (.int x)::L) S (.int x::S) := ES rfl
theorem w2_53 : EW lw 2 53 54 (a::b::.val (.int x)::L) S (.int x::S) := ES rfl
theorem w2_54 : EW lw 2 54 56 (a::b::c::d::e::.val (.int x)::L) S (.int x::S) := ES rfl
theorem w2_56 : W (pj lw) 2 56 L (.int x3::.int x2::.int x1::.int x0::.ref a::S) k n H Q ↔ ((isO H a = true ∧ cs S + (5 + 11) + 0 ≤ 65) ∧ Cl (pj lw) 23 [.ref a, .int x0, .int x1, .int x2, .int x3] H (fun v H => W (pj lw) 2 59 L (v.toList ++ S) k n H Q)) := W_inst (as := [.int x0, .int x1, .int x2, .int x3]) (rfl : (pj lw).1 2 56 = some (.invokevirtual 79, 3, 23)) rfl rfl rfl (Nat.le_of_ble_eq_true rfl) (Nat.le_of_ble_eq_true rfl) ⟨rfl, rfl⟩
theorem w2_59 : EW lw 2 59 60 (.val (.ref x)::L) S (.ref x::S) := ES rfl
theorem w2_60 : EW lw 2 60 62 (a::b::c::d::.val (.int x)::L) S (.int x::S) := ES rfl
theorem w2_62 : W (pj lw) 2 62 L (.int x0::.ref a::S) k n H Q ↔ ((isO H a = true ∧ cs S + (4 + 11) + 50 ≤ 65) ∧ Cl (pj lw) 18 [.ref a, .int x0] H (fun v H => W (pj lw) 2 65 L (v.toList ++ S) k n H Q)) := W_inst (as := [.int x0]) (rfl : (pj lw).1 2 62 = some (.invokevirtual 83, 3, 18)) rfl rfl rfl (Nat.le_of_ble_eq_true rfl) (Nat.le_of_ble_eq_true rfl) ⟨rfl, rfl⟩
theorem w2_65 : EW lw 2 65 67 (a::b::c::d::.val (.int x)::L) S (.int x::S) := ES rfl
theorem w2_67 : W (pj lw) 2 67 L (.int x::S) k n H Q ↔ Q (some (.int x)) H := W_r rfl rfl
theorem c3 {x0 : Nat} {x1 : Int32} : Cl (pj lw) 3 [.ref x0, .int x1] H Q ↔ W (pj lw) 3 0 [.val (.ref x0), .val (.int x1)] [] 0 0 H Q := cl_unf rfl
theorem w3_0 : EW lw 3 0 1 (.val (.ref x)::L) S (.ref x::S) := ES rfl
theorem w3_1 : EW lw 3 1 2 (a::.val (.int x)::L) S (.int x::S) := ES rfl
theorem w3_2 : W (pj lw) 3 2 L (.int x0::.ref a::S) k n H Q ↔ ((isO H a = true ∧ cs S + (2 + 11) + 13 ≤ 64) ∧ Cl (pj lw) 5 [.ref a, .int x0] H (fun v H => W (pj lw) 3 5 L (v.toList ++ S) k n H Q)) := W_inst (as := [.int x0]) (rfl : (pj lw).1 3 2 = some (.invokevirtual 87, 3, 5)) rfl rfl rfl (Nat.le_of_ble_eq_true rfl) (Nat.le_of_ble_eq_true rfl) ⟨rfl, rfl⟩
theorem w3_5 : Zw4 lw 3 5 3 8 3 10 := W_if_ne (len := 3) rfl rfl
theorem w3_8 : EW lw 3 8 9 L S (.int 0::S) := ES rfl
theorem w3_9 : Zw6 lw 3 9 := W_rz rfl rfl
theorem w3_10 : EW lw 3 10 11 (.val (.ref x)::L) S (.ref x::S) := ES rfl
theorem w3_11 : Zw2 lw 3 11 3 14 5 := W_getf (rfl : (pj lw).1 3 11 = some (.getfield 23, 3, 5))
theorem w3_14 : EW lw 3 14 15 (a::.val (.int x)::L) S (.int x::S) := ES rfl
theorem w3_15 : Zw7 lw 3 15 3 16 := W_baload (len := 1) rfl
theorem w3_16 : Zw4 lw 3 16 3 19 3 32 := W_if_ne (len := 3) rfl rfl
theorem w3_19 : EW lw 3 19 20 (.val (.ref x)::L) S (.ref x::S) := ES rfl
theorem w3_20 : EW lw 3 20 21 (a::.val (.int x)::L) S (.int x::S) := ES rfl
theorem w3_21 : W (pj lw) 3 21 L (.int x0::.ref a::S) k n H Q ↔ ((isO H a = true ∧ cs S + (2 + 11) + 0 ≤ 64) ∧ Cl (pj lw) 24 [.ref a, .int x0] H (fun v H => W (pj lw) 3 24 L (v.toList ++ S) k n H Q)) := W_inst (as := [.int x0]) (rfl : (pj lw).1 3 21 = some (.invokevirtual 90, 3, 24)) rfl rfl rfl (Nat.le_of_ble_eq_true rfl) (Nat.le_of_ble_eq_true rfl) ⟨rfl, rfl⟩
theorem w3_24 : EW lw 3 24 25 (.val (.ref x)::L) S (.ref x::S) := ES rfl
theorem w3_25 : EW lw 3 25 26 L S (.int (-1)::S) := ES rfl
theorem w3_26 : EW lw 3 26 27 L S (.int (-1)::S) := ES rfl
theorem w3_27 : W (pj lw) 3 27 L (.int x1::.int x0::.ref a::S) k n H Q ↔ ((isO H a = true ∧ cs S + (3 + 11) + 0 ≤ 64) ∧ Cl (pj lw) 21 [.ref a, .int x0, .int x1] H (fun v H => W (pj lw) 3 30 L (v.toList ++ S) k n H Q)) := W_inst (as := [.int x0, .int x1]) (rfl : (pj lw).1 3 27 = some (.invokevirtual 93, 3, 21)) rfl rfl rfl (Nat.le_of_ble_eq_true rfl) (Nat.le_of_ble_eq_true rfl) ⟨rfl, rfl⟩
theorem w3_30 : EW lw 3 30 31 L S (.int 1::S) := ES rfl
theorem w3_31 : Zw6 lw 3 31 := W_rz rfl rfl
theorem w3_32 : EW lw 3 32 33 (.val (.ref x)::L) S (.ref x::S) := ES rfl
theorem w3_33 : EW lw 3 33 34 (a::.val (.int x)::L) S (.int x::S) := ES rfl
theorem w3_34 : W (pj lw) 3 34 L (.int x0::.ref a::S) k n H Q ↔ ((isO H a = true ∧ cs S + (3 + 11) + 50 ≤ 64) ∧ Cl (pj lw) 19 [.ref a, .int x0] H (fun v H => W (pj lw) 3 37 L (v.toList ++ S) k n H Q)) := W_inst (as := [.int x0]) (rfl : (pj lw).1 3 34 = some (.invokevirtual 97, 3, 19)) rfl rfl rfl (Nat.le_of_ble_eq_true rfl) (Nat.le_of_ble_eq_true rfl) ⟨rfl, rfl⟩
theorem w3_37 : EW lw 3 37 38 L S (.int 1::S) := ES rfl
theorem w3_38 : Zw6 lw 3 38 := W_rz rfl rfl
theorem c4 {x0 : Nat} {x1 : Int32} {x2 : Int32} : Cl (pj lw) 4 [.ref x0, .int x1, .int x2] H Q ↔ W (pj lw) 4 0 [.val (.ref x0), .val (.int x1), .val (.int x2), .unset] [] 0 0 H Q := cl_unf rfl
theorem w4_0 : EW lw 4 0 1 (.val (.ref x)::L) S (.ref x::S) := ES rfl
theorem w4_1 : EW lw 4 1 2 (a::.val (.int x)::L) S (.int x::S) := ES rfl
theorem w4_2 : W (pj lw) 4 2 L (.int x0::.ref a::S) k n H Q ↔ ((isO H a = true ∧ cs S + (2 + 11) + 13 ≤ 65) ∧ Cl (pj lw) 5 [.ref a, .int x0] H (fun v H => W (pj lw) 4 5 L (v.toList ++ S) k n H Q)) := W_inst (as := [.int x0]) (rfl : (pj lw).1 4 2 = some (.invokevirtual 87, 3, 5)) rfl rfl rfl (Nat.le_of_ble_eq_true rfl) (Nat.le_of_ble_eq_true rfl) ⟨rfl, rfl⟩
theorem w4_5 : Zw4 lw 4 5 4 8 4 10 := W_if_ne (len := 3) rfl rfl
theorem w4_8 : EW lw 4 8 9 L S (.int 0::S) := ES rfl
theorem w4_9 : Zw6 lw 4 9 := W_rz rfl rfl
theorem w4_10 : EW lw 4 10 11 (.val (.ref x)::L) S (.ref x::S) := ES rfl
theorem w4_11 : EW lw 4 11 12 (a::b::.val (.int x)::L) S (.int x::S) := ES rfl
theorem w4_12 : W (pj lw) 4 12 L (.int x0::.ref a::S) k n H Q ↔ ((isO H a = true ∧ cs S + (2 + 11) + 0 ≤ 65) ∧ Cl (pj lw) 41 [.ref a, .int x0] H (fun v H => W (pj lw) 4 15 L (v.toList ++ S) k n H Q)) := W_inst (as := [.int x0]) (rfl : (pj lw).1 4 12 = some (.invokevirtual 75, 3, 41)) rfl rfl rfl (Nat.le_of_ble_eq_true rfl) (Nat.le_of_ble_eq_true rfl) ⟨rfl, rfl⟩
theorem w4_15 : W (pj lw) 4 15 (a::b::c::.unset::L) (.int x::S) k n H Q ↔ W (pj lw) 4 16 (a::b::c::.val (.int x)::L) S k n H Q := W_istn (rfl : (pj lw).1 4 15 = some (.istore_n 3, 1, 0)) rfl rfl
theorem w4_16 : EW lw 4 16 17 (.val (.ref x)::L) S (.ref x::S) := ES rfl
theorem w4_17 : Zw2 lw 4 17 4 20 5 := W_getf (rfl : (pj lw).1 4 17 = some (.getfield 23, 3, 5))
theorem w4_20 : EW lw 4 20 21 (a::.val (.int x)::L) S (.int x::S) := ES rfl
theorem w4_21 : Zw7 lw 4 21 4 22 := W_baload (len := 1) rfl
theorem w4_22 : Zw4 lw 4 22 4 34 4 25 := W_if_eq (len := 3) rfl rfl
theorem w4_25 : EW lw 4 25 26 (.val (.ref x)::L) S (.ref x::S) := ES rfl
theorem w4_26 : EW lw 4 26 27 (a::.val (.int x)::L) S (.int x::S) := ES rfl
theorem w4_27 : EW lw 4 27 28 (a::b::c::.val (.int x)::L) S (.int x::S) := ES rfl
theorem w4_28 : W (pj lw) 4 28 L (.int x1::.int x0::.ref a::S) k n H Q ↔ ((isO H a = true ∧ cs S + (4 + 11) + 50 ≤ 65) ∧ Cl (pj lw) 20 [.ref a, .int x0, .int x1] H (fun v H => W (pj lw) 4 31 L (v.toList ++ S) k n H Q)) := W_inst (as := [.int x0, .int x1]) (rfl : (pj lw).1 4 28 = some (.invokevirtual 100, 3, 20)) rfl rfl rfl (Nat.le_of_ble_eq_true rfl) (Nat.le_of_ble_eq_true rfl) ⟨rfl, rfl⟩
theorem w4_31 : W (pj lw) 4 31 L S k n H Q ↔ W (pj lw) 4 46 L S k n H Q := W_goto rfl rfl
theorem w4_34 : EW lw 4 34 35 (.val (.ref x)::L) S (.ref x::S) := ES rfl
theorem w4_35 : Zw2 lw 4 35 4 38 3 := W_getf (rfl : (pj lw).1 4 35 = some (.getfield 16, 3, 3))
theorem w4_38 : EW lw 4 38 39 (a::.val (.int x)::L) S (.int x::S) := ES rfl
theorem w4_39 : EW lw 4 39 40 (a::b::c::.val (.int x)::L) S (.int x::S) := ES rfl
theorem w4_40 : Zw3 lw 4 40 4 41 := W_iastore (len := 1) rfl
theorem w4_41 : EW lw 4 41 42 (.val (.ref x)::L) S (.ref x::S) := ES rfl
theorem w4_42 : EW lw 4 42 43 (a::.val (.int x)::L) S (.int x::S) := ES rfl
theorem w4_43 : W (pj lw) 4 43 L (.int x0::.ref a::S) k n H Q ↔ ((isO H a = true ∧ cs S + (4 + 11) + 50 ≤ 65) ∧ Cl (pj lw) 18 [.ref a, .int x0] H (fun v H => W (pj lw) 4 46 L (v.toList ++ S) k n H Q)) := W_inst (as := [.int x0]) (rfl : (pj lw).1 4 43 = some (.invokevirtual 83, 3, 18)) rfl rfl rfl (Nat.le_of_ble_eq_true rfl) (Nat.le_of_ble_eq_true rfl) ⟨rfl, rfl⟩
theorem w4_46 : EW lw 4 46 47 L S (.int 1::S) := ES rfl
theorem w4_47 : Zw6 lw 4 47 := W_rz rfl rfl
theorem c5 {x0 : Nat} {x1 : Int32} : Cl (pj lw) 5 [.ref x0, .int x1] H Q ↔ W (pj lw) 5 0 [.val (.ref x0), .val (.int x1)] [] 0 0 H Q := cl_unf rfl
theorem w5_0 : EW lw 5 0 1 (.val (.ref x)::L) S (.ref x::S) := ES rfl
theorem w5_1 : EW lw 5 1 2 (a::.val (.int x)::L) S (.int x::S) := ES rfl
theorem w5_2 : W (pj lw) 5 2 L (.int x0::.ref a::S) k n H Q ↔ ((isO H a = true ∧ cs S + (2 + 11) + 0 ≤ 13) ∧ Cl (pj lw) 40 [.ref a, .int x0] H (fun v H => W (pj lw) 5 5 L (v.toList ++ S) k n H Q)) := W_inst (as := [.int x0]) (rfl : (pj lw).1 5 2 = some (.invokevirtual 103, 3, 40)) rfl rfl rfl (Nat.le_of_ble_eq_true rfl) (Nat.le_of_ble_eq_true rfl) ⟨rfl, rfl⟩
theorem w5_5 : Zw4 lw 5 5 5 21 5 8 := W_if_eq (len := 3) rfl rfl
theorem w5_8 : EW lw 5 8 9 (.val (.ref x)::L) S (.ref x::S) := ES rfl
theorem w5_9 : Zw2 lw 5 9 5 12 4 := W_getf (rfl : (pj lw).1 5 9 = some (.getfield 19, 3, 4))
theorem w5_12 : EW lw 5 12 13 (a::.val (.int x)::L) S (.int x::S) := ES rfl
theorem w5_13 : Zw7 lw 5 13 5 14 := W_baload (len := 1) rfl
theorem w5_14 : Zw4 lw 5 14 5 21 5 17 := W_if_eq (len := 3) rfl rfl
theorem w5_17 : EW lw 5 17 18 L S (.int 1::S) := ES rfl
theorem w5_18 : W (pj lw) 5 18 L S k n H Q ↔ W (pj lw) 5 22 L S k n H Q := W_goto rfl rfl
theorem w5_21 : EW lw 5 21 22 L S (.int 0::S) := ES rfl
theorem w5_22 : Zw6 lw 5 22 := W_rz rfl rfl
theorem c6 {x0 : Nat} {x1 : Int32} : Cl (pj lw) 6 [.ref x0, .int x1] H Q ↔ W (pj lw) 6 0 [.val (.ref x0), .val (.int x1)] [] 0 0 H Q := cl_unf rfl
theorem w6_0 : EW lw 6 0 1 (.val (.ref x)::L) S (.ref x::S) := ES rfl
theorem w6_1 : EW lw 6 1 2 (a::.val (.int x)::L) S (.int x::S) := ES rfl
theorem w6_2 : W (pj lw) 6 2 L (.int x0::.ref a::S) k n H Q ↔ ((isO H a = true ∧ cs S + (2 + 11) + 0 ≤ 13) ∧ Cl (pj lw) 40 [.ref a, .int x0] H (fun v H => W (pj lw) 6 5 L (v.toList ++ S) k n H Q)) := W_inst (as := [.int x0]) (rfl : (pj lw).1 6 2 = some (.invokevirtual 103, 3, 40)) rfl rfl rfl (Nat.le_of_ble_eq_true rfl) (Nat.le_of_ble_eq_true rfl) ⟨rfl, rfl⟩
theorem w6_5 : Zw4 lw 6 5 6 30 6 8 := W_if_eq (len := 3) rfl rfl
theorem w6_8 : EW lw 6 8 9 (.val (.ref x)::L) S (.ref x::S) := ES rfl
theorem w6_9 : Zw2 lw 6 9 6 12 4 := W_getf (rfl : (pj lw).1 6 9 = some (.getfield 19, 3, 4))
theorem w6_12 : EW lw 6 12 13 (a::.val (.int x)::L) S (.int x::S) := ES rfl
theorem w6_13 : Zw7 lw 6 13 6 14 := W_baload (len := 1) rfl
theorem w6_14 : Zw4 lw 6 14 6 30 6 17 := W_if_eq (len := 3) rfl rfl
theorem w6_17 : EW lw 6 17 18 (.val (.ref x)::L) S (.ref x::S) := ES rfl
theorem w6_18 : Zw2 lw 6 18 6 21 5 := W_getf (rfl : (pj lw).1 6 18 = some (.getfield 23, 3, 5))
theorem w6_21 : EW lw 6 21 22 (a::.val (.int x)::L) S (.int x::S) := ES rfl
theorem w6_22 : Zw7 lw 6 22 6 23 := W_baload (len := 1) rfl
theorem w6_23 : Zw4 lw 6 23 6 30 6 26 := W_if_eq (len := 3) rfl rfl
theorem w6_26 : EW lw 6 26 27 L S (.int 1::S) := ES rfl
theorem w6_27 : W (pj lw) 6 27 L S k n H Q ↔ W (pj lw) 6 31 L S k n H Q := W_goto rfl rfl
theorem w6_30 : EW lw 6 30 31 L S (.int 0::S) := ES rfl
theorem w6_31 : Zw6 lw 6 31 := W_rz rfl rfl
theorem c7 {x0 : Nat} {x1 : Int32} {x2 : Int32} : Cl (pj lw) 7 [.ref x0, .int x1, .int x2] H Q ↔ W (pj lw) 7 0 [.val (.ref x0), .val (.int x1), .val (.int x2)] [] 0 0 H Q := cl_unf rfl
theorem w7_0 : EW lw 7 0 1 (.val (.ref x)::L) S (.ref x::S) := ES rfl
theorem w7_1 : EW lw 7 1 2 (a::.val (.int x)::L) S (.int x::S) := ES rfl
theorem w7_2 : W (pj lw) 7 2 L (.int x0::.ref a::S) k n H Q ↔ ((isO H a = true ∧ cs S + (2 + 11) + 13 ≤ 26) ∧ Cl (pj lw) 5 [.ref a, .int x0] H (fun v H => W (pj lw) 7 5 L (v.toList ++ S) k n H Q)) := W_inst (as := [.int x0]) (rfl : (pj lw).1 7 2 = some (.invokevirtual 87, 3, 5)) rfl rfl rfl (Nat.le_of_ble_eq_true rfl) (Nat.le_of_ble_eq_true rfl) ⟨rfl, rfl⟩
theorem w7_5 : Zw4 lw 7 5 7 8 7 10 := W_if_ne (len := 3) rfl rfl
theorem w7_8 : EW lw 7 8 9 L S (.int (-1)::S) := ES rfl
theorem w7_9 : W (pj lw) 7 9 L (.int x::S) k n H Q ↔ Q (some (.int x)) H := W_r rfl rfl
theorem w7_10 : EW lw 7 10 11 (a::b::.val (.int x)::L) S (.int x::S) := ES rfl
theorem w7_11 : Zw4 lw 7 11 7 14 7 21 := W_if_ne (len := 3) rfl rfl
theorem w7_14 : EW lw 7 14 15 (.val (.ref x)::L) S (.ref x::S) := ES rfl
theorem w7_15 : Zw2 lw 7 15 7 18 1 := W_getf (rfl : (pj lw).1 7 15 = some (.getfield 7, 3, 1))
theorem w7_18 : EW lw 7 18 19 (a::.val (.int x)::L) S (.int x::S) := ES rfl
theorem w7_19 : Zw8 lw 7 19 7 20 := W_iaload (len := 1) rfl
theorem w7_20 : W (pj lw) 7 20 L (.int x::S) k n H Q ↔ Q (some (.int x)) H := W_r rfl rfl
theorem w7_21 : EW lw 7 21 22 (a::b::.val (.int x)::L) S (.int x::S) := ES rfl
theorem w7_22 : EW lw 7 22 23 L S (.int 1::S) := ES rfl
theorem w7_23 : Zw5 lw 7 23 7 26 7 33 := W_icmp_ne (len := 3) rfl rfl
theorem w7_26 : EW lw 7 26 27 (.val (.ref x)::L) S (.ref x::S) := ES rfl
theorem w7_27 : Zw2 lw 7 27 7 30 2 := W_getf (rfl : (pj lw).1 7 27 = some (.getfield 13, 3, 2))
theorem w7_30 : EW lw 7 30 31 (a::.val (.int x)::L) S (.int x::S) := ES rfl
theorem w7_31 : Zw8 lw 7 31 7 32 := W_iaload (len := 1) rfl
theorem w7_32 : W (pj lw) 7 32 L (.int x::S) k n H Q ↔ Q (some (.int x)) H := W_r rfl rfl
theorem c8 {x0 : Nat} {x1 : Int32} : Cl (pj lw) 8 [.ref x0, .int x1] H Q ↔ W (pj lw) 8 0 [.val (.ref x0), .val (.int x1)] [] 0 0 H Q := cl_unf rfl
theorem w8_0 : EW lw 8 0 1 (.val (.ref x)::L) S (.ref x::S) := ES rfl
theorem w8_1 : EW lw 8 1 2 (a::.val (.int x)::L) S (.int x::S) := ES rfl
theorem w8_2 : W (pj lw) 8 2 L (.int x0::.ref a::S) k n H Q ↔ ((isO H a = true ∧ cs S + (2 + 11) + 13 ≤ 26) ∧ Cl (pj lw) 5 [.ref a, .int x0] H (fun v H => W (pj lw) 8 5 L (v.toList ++ S) k n H Q)) := W_inst (as := [.int x0]) (rfl : (pj lw).1 8 2 = some (.invokevirtual 87, 3, 5)) rfl rfl rfl (Nat.le_of_ble_eq_true rfl) (Nat.le_of_ble_eq_true rfl) ⟨rfl, rfl⟩
theorem w8_5 : Zw4 lw 8 5 8 8 8 10 := W_if_ne (len := 3) rfl rfl
theorem w8_8 : EW lw 8 8 9 L S (.int 0::S) := ES rfl
theorem w8_9 : W (pj lw) 8 9 L (.int x::S) k n H Q ↔ Q (some (.int x)) H := W_r rfl rfl
theorem w8_10 : EW lw 8 10 11 (.val (.ref x)::L) S (.ref x::S) := ES rfl
theorem w8_11 : Zw2 lw 8 11 8 14 3 := W_getf (rfl : (pj lw).1 8 11 = some (.getfield 16, 3, 3))
theorem w8_14 : EW lw 8 14 15 (a::.val (.int x)::L) S (.int x::S) := ES rfl
theorem w8_15 : Zw8 lw 8 15 8 16 := W_iaload (len := 1) rfl
theorem w8_16 : W (pj lw) 8 16 L (.int x::S) k n H Q ↔ Q (some (.int x)) H := W_r rfl rfl
theorem c9 {x0 : Nat} : Cl (pj lw) 9 [.ref x0] H Q ↔ W (pj lw) 9 0 [.val (.ref x0)] [] 0 0 H Q := cl_unf rfl
theorem w9_0 : EW lw 9 0 1 (.val (.ref x)::L) S (.ref x::S) := ES rfl
theorem w9_1 : Zw2 lw 9 1 9 4 12 := W_getf (rfl : (pj lw).1 9 1 = some (.getfield 48, 3, 12))
theorem w9_4 : W (pj lw) 9 4 L (.int x::S) k n H Q ↔ Q (some (.int x)) H := W_r rfl rfl
theorem c10 {x0 : Nat} : Cl (pj lw) 10 [.ref x0] H Q ↔ W (pj lw) 10 0 [.val (.ref x0)] [] 0 0 H Q := cl_unf rfl
theorem w10_0 : EW lw 10 0 1 (.val (.ref x)::L) S (.ref x::S) := ES rfl
theorem w10_1 : Zw2 lw 10 1 10 4 14 := W_getf (rfl : (pj lw).1 10 1 = some (.getfield 54, 3, 14))
theorem w10_4 : W (pj lw) 10 4 L (.long x::S) k n H Q ↔ Q (some (.long x)) H := W_r rfl rfl
theorem c11 {x0 : Nat} : Cl (pj lw) 11 [.ref x0] H Q ↔ W (pj lw) 11 0 [.val (.ref x0)] [] 0 0 H Q := cl_unf rfl
theorem w11_0 : EW lw 11 0 1 (.val (.ref x)::L) S (.ref x::S) := ES rfl
theorem w11_1 : Zw2 lw 11 1 11 4 13 := W_getf (rfl : (pj lw).1 11 1 = some (.getfield 51, 3, 13))
theorem w11_4 : W (pj lw) 11 4 L (.int x::S) k n H Q ↔ Q (some (.int x)) H := W_r rfl rfl
theorem c12 {x0 : Nat} : Cl (pj lw) 12 [.ref x0] H Q ↔ W (pj lw) 12 0 [.val (.ref x0)] [] 0 0 H Q := cl_unf rfl
theorem w12_0 : EW lw 12 0 1 (.val (.ref x)::L) S (.ref x::S) := ES rfl
theorem w12_1 : Zw2 lw 12 1 12 4 0 := W_getf (rfl : (pj lw).1 12 1 = some (.getfield 44, 3, 0))
theorem w12_4 : EW lw 12 4 5 (.val (.ref x)::L) S (.ref x::S) := ES rfl
theorem w12_5 : Zw2 lw 12 5 12 8 13 := W_getf (rfl : (pj lw).1 12 5 = some (.getfield 51, 3, 13))
theorem w12_8 : EW lw 12 8 9 L (.int y::.int x::S) (.int (x - y)::S) := ES rfl
theorem w12_9 : W (pj lw) 12 9 L (.int x::S) k n H Q ↔ Q (some (.int x)) H := W_r rfl rfl
theorem c13 {x0 : Nat} {x1 : Int32} : Cl (pj lw) 13 [.ref x0, .int x1] H Q ↔ W (pj lw) 13 0 [.val (.ref x0), .val (.int x1), .unset] [] 0 0 H Q := cl_unf rfl
theorem w13_0 : EW lw 13 0 1 (.val (.ref x)::L) S (.ref x::S) := ES rfl
theorem w13_1 : EW lw 13 1 2 (a::.val (.int x)::L) S (.int x::S) := ES rfl
theorem w13_2 : W (pj lw) 13 2 L (.int x0::.ref a::S) k n H Q ↔ ((isO H a = true ∧ cs S + (2 + 11) + 0 ≤ 50) ∧ Cl (pj lw) 39 [.ref a, .int x0] H (fun v H => W (pj lw) 13 5 L (v.toList ++ S) k n H Q)) := W_inst (as := [.int x0]) (rfl : (pj lw).1 13 2 = some (.invokevirtual 67, 3, 39)) rfl rfl rfl (Nat.le_of_ble_eq_true rfl) (Nat.le_of_ble_eq_true rfl) ⟨rfl, rfl⟩
theorem w13_5 : Zw4 lw 13 5 13 8 13 10 := W_if_ne (len := 3) rfl rfl
theorem w13_10 : EW lw 13 10 11 (.val (.ref x)::L) S (.ref x::S) := ES rfl
theorem w13_11 : EW lw 13 11 12 (a::.val (.int x)::L) S (.int x::S) := ES rfl
theorem w13_12 : EW lw 13 12 13 L S (.int (-1)::S) := ES rfl
theorem w13_13 : W (pj lw) 13 13 L (.int x1::.int x0::.ref a::S) k n H Q ↔ ((isO H a = true ∧ cs S + (5 + 11) + 34 ≤ 50) ∧ Cl (pj lw) 30 [.ref a, .int x0, .int x1] H (fun v H => W (pj lw) 13 16 L (v.toList ++ S) k n H Q)) := W_inst (as := [.int x0, .int x1]) (rfl : (pj lw).1 13 13 = some (.invokevirtual 106, 3, 30)) rfl rfl rfl (Nat.le_of_ble_eq_true rfl) (Nat.le_of_ble_eq_true rfl) ⟨rfl, rfl⟩
theorem w13_16 : EW lw 13 16 17 L (.int x::S) S := ES rfl
theorem w13_17 : EW lw 13 17 18 L S (.int 0::S) := ES rfl
theorem w13_18 : W (pj lw) 13 18 (a::b::.unset::L) (.int x::S) k n H Q ↔ W (pj lw) 13 19 (a::b::.val (.int x)::L) S k n H Q := W_istn (rfl : (pj lw).1 13 18 = some (.istore_n 2, 1, 0)) rfl rfl
theorem w13_19 : EW lw 13 19 20 (a::b::.val (.int x)::L) S (.int x::S) := ES rfl
theorem w13_20 : EW lw 13 20 21 (.val (.ref x)::L) S (.ref x::S) := ES rfl
theorem w13_21 : Zw2 lw 13 21 13 24 0 := W_getf (rfl : (pj lw).1 13 21 = some (.getfield 44, 3, 0))
theorem w13_24 : Zw0 lw 13 24 13 27 13 50 := W_icmp_ge (len := 3) rfl rfl
theorem w13_27 : EW lw 13 27 28 (a::b::.val (.int x)::L) S (.int x::S) := ES rfl
theorem w13_28 : EW lw 13 28 30 L S (.int 32::S) := ES rfl
theorem w13_30 : Zw0 lw 13 30 13 33 13 50 := W_icmp_ge (len := 3) rfl rfl
theorem w13_33 : EW lw 13 33 34 (.val (.ref x)::L) S (.ref x::S) := ES rfl
theorem w13_34 : Zw2 lw 13 34 13 37 8 := W_getf (rfl : (pj lw).1 13 34 = some (.getfield 32, 3, 8))
theorem w13_37 : EW lw 13 37 38 (a::b::.val (.int x)::L) S (.int x::S) := ES rfl
theorem w13_38 : Zw7 lw 13 38 13 39 := W_baload (len := 1) rfl
theorem w13_39 : Zw4 lw 13 39 13 44 13 42 := W_if_eq (len := 3) rfl rfl
theorem w13_42 : EW lw 13 42 43 (a::b::.val (.int x)::L) S (.int x::S) := ES rfl
theorem w13_43 : W (pj lw) 13 43 L (.int x::S) k n H Q ↔ Q (some (.int x)) H := W_r rfl rfl
theorem w13_44 : W (pj lw) 13 44 (a::b::.val (.int x)::L) S k n H Q ↔ W (pj lw) 13 47 (a::b::.val (.int (x + 1))::L) S k n H Q := W_s rfl rfl rfl rfl
theorem w13_47 : W (pj lw) 13 47 L S k n H Q ↔ W (pj lw) 13 19 L S k n H Q := W_goto rfl rfl
theorem c14 {x0 : Nat} {x1 : Int32} {x2 : Int32} : Cl (pj lw) 14 [.ref x0, .int x1, .int x2] H Q ↔ W (pj lw) 14 0 [.val (.ref x0), .val (.int x1), .val (.int x2)] [] 0 0 H Q := cl_unf rfl
theorem w14_0 : EW lw 14 0 1 (.val (.ref x)::L) S (.ref x::S) := ES rfl
theorem w14_1 : EW lw 14 1 2 (a::.val (.int x)::L) S (.int x::S) := ES rfl
theorem w14_2 : W (pj lw) 14 2 L (.int x0::.ref a::S) k n H Q ↔ ((isO H a = true ∧ cs S + (2 + 11) + 0 ≤ 50) ∧ Cl (pj lw) 39 [.ref a, .int x0] H (fun v H => W (pj lw) 14 5 L (v.toList ++ S) k n H Q)) := W_inst (as := [.int x0]) (rfl : (pj lw).1 14 2 = some (.invokevirtual 67, 3, 39)) rfl rfl rfl (Nat.le_of_ble_eq_true rfl) (Nat.le_of_ble_eq_true rfl) ⟨rfl, rfl⟩
theorem w14_5 : Zw4 lw 14 5 14 16 14 8 := W_if_eq (len := 3) rfl rfl
theorem w14_8 : EW lw 14 8 9 (.val (.ref x)::L) S (.ref x::S) := ES rfl
theorem w14_9 : EW lw 14 9 10 (a::b::.val (.int x)::L) S (.int x::S) := ES rfl
theorem w14_10 : W (pj lw) 14 10 L (.int x0::.ref a::S) k n H Q ↔ ((isO H a = true ∧ cs S + (2 + 11) + 0 ≤ 50) ∧ Cl (pj lw) 39 [.ref a, .int x0] H (fun v H => W (pj lw) 14 13 L (v.toList ++ S) k n H Q)) := W_inst (as := [.int x0]) (rfl : (pj lw).1 14 10 = some (.invokevirtual 67, 3, 39)) rfl rfl rfl (Nat.le_of_ble_eq_true rfl) (Nat.le_of_ble_eq_true rfl) ⟨rfl, rfl⟩
theorem w14_13 : Zw4 lw 14 13 14 16 14 18 := W_if_ne (len := 3) rfl rfl
theorem w14_18 : EW lw 14 18 19 (a::.val (.int x)::L) S (.int x::S) := ES rfl
theorem w14_19 : EW lw 14 19 20 (a::b::.val (.int x)::L) S (.int x::S) := ES rfl
theorem w14_20 : Zw5 lw 14 20 14 23 14 25 := W_icmp_ne (len := 3) rfl rfl
theorem w14_25 : EW lw 14 25 26 (.val (.ref x)::L) S (.ref x::S) := ES rfl
theorem w14_26 : EW lw 14 26 27 (a::.val (.int x)::L) S (.int x::S) := ES rfl
theorem w14_27 : EW lw 14 27 28 L S (.int (-1)::S) := ES rfl
theorem w14_28 : W (pj lw) 14 28 L (.int x1::.int x0::.ref a::S) k n H Q ↔ ((isO H a = true ∧ cs S + (5 + 11) + 34 ≤ 50) ∧ Cl (pj lw) 30 [.ref a, .int x0, .int x1] H (fun v H => W (pj lw) 14 31 L (v.toList ++ S) k n H Q)) := W_inst (as := [.int x0, .int x1]) (rfl : (pj lw).1 14 28 = some (.invokevirtual 106, 3, 30)) rfl rfl rfl (Nat.le_of_ble_eq_true rfl) (Nat.le_of_ble_eq_true rfl) ⟨rfl, rfl⟩
theorem w14_31 : EW lw 14 31 32 L (.int x::S) S := ES rfl
theorem w14_32 : EW lw 14 32 33 (.val (.ref x)::L) S (.ref x::S) := ES rfl
theorem w14_33 : Zw2 lw 14 33 14 36 8 := W_getf (rfl : (pj lw).1 14 33 = some (.getfield 32, 3, 8))
theorem w14_36 : EW lw 14 36 37 (a::b::.val (.int x)::L) S (.int x::S) := ES rfl
theorem w14_37 : Zw7 lw 14 37 14 38 := W_baload (len := 1) rfl
theorem w14_38 : Zw4 lw 14 38 14 41 14 43 := W_if_ne (len := 3) rfl rfl
theorem w14_41 : EW lw 14 41 42 L S (.int (-1)::S) := ES rfl
theorem w14_42 : W (pj lw) 14 42 L (.int x::S) k n H Q ↔ Q (some (.int x)) H := W_r rfl rfl
theorem w14_43 : EW lw 14 43 44 (.val (.ref x)::L) S (.ref x::S) := ES rfl
theorem w14_44 : EW lw 14 44 45 (a::b::.val (.int x)::L) S (.int x::S) := ES rfl
theorem w14_45 : W (pj lw) 14 45 L (.int x0::.ref a::S) k n H Q ↔ ((isO H a = true ∧ cs S + (6 + 11) + 28 ≤ 50) ∧ Cl (pj lw) 32 [.ref a, .int x0] H (fun v H => W (pj lw) 14 48 L (v.toList ++ S) k n H Q)) := W_inst (as := [.int x0]) (rfl : (pj lw).1 14 45 = some (.invokevirtual 110, 3, 32)) rfl rfl rfl (Nat.le_of_ble_eq_true rfl) (Nat.le_of_ble_eq_true rfl) ⟨rfl, rfl⟩
theorem w14_48 : W (pj lw) 14 48 L (.int x::S) k n H Q ↔ Q (some (.int x)) H := W_r rfl rfl
theorem c15 {x0 : Nat} {x1 : Int32} : Cl (pj lw) 15 [.ref x0, .int x1] H Q ↔ W (pj lw) 15 0 [.val (.ref x0), .val (.int x1)] [] 0 0 H Q := cl_unf rfl
theorem w15_0 : EW lw 15 0 1 (.val (.ref x)::L) S (.ref x::S) := ES rfl
theorem w15_1 : EW lw 15 1 2 (a::.val (.int x)::L) S (.int x::S) := ES rfl
theorem w15_2 : W (pj lw) 15 2 L (.int x0::.ref a::S) k n H Q ↔ ((isO H a = true ∧ cs S + (2 + 11) + 13 ≤ 50) ∧ Cl (pj lw) 6 [.ref a, .int x0] H (fun v H => W (pj lw) 15 5 L (v.toList ++ S) k n H Q)) := W_inst (as := [.int x0]) (rfl : (pj lw).1 15 2 = some (.invokevirtual 113, 3, 6)) rfl rfl rfl (Nat.le_of_ble_eq_true rfl) (Nat.le_of_ble_eq_true rfl) ⟨rfl, rfl⟩
theorem w15_5 : Zw4 lw 15 5 15 8 15 10 := W_if_ne (len := 3) rfl rfl
theorem w15_8 : EW lw 15 8 9 L S (.int (-1)::S) := ES rfl
theorem w15_9 : W (pj lw) 15 9 L (.int x::S) k n H Q ↔ Q (some (.int x)) H := W_r rfl rfl
theorem w15_10 : EW lw 15 10 11 (.val (.ref x)::L) S (.ref x::S) := ES rfl
theorem w15_11 : EW lw 15 11 12 (.val (.ref x)::L) S (.ref x::S) := ES rfl
theorem w15_12 : Zw2 lw 15 12 15 15 1 := W_getf (rfl : (pj lw).1 15 12 = some (.getfield 7, 3, 1))
theorem w15_15 : EW lw 15 15 16 (a::.val (.int x)::L) S (.int x::S) := ES rfl
theorem w15_16 : Zw8 lw 15 16 15 17 := W_iaload (len := 1) rfl
theorem w15_17 : EW lw 15 17 18 (a::.val (.int x)::L) S (.int x::S) := ES rfl
theorem w15_18 : W (pj lw) 15 18 L (.int x1::.int x0::.ref a::S) k n H Q ↔ ((isO H a = true ∧ cs S + (5 + 11) + 34 ≤ 50) ∧ Cl (pj lw) 30 [.ref a, .int x0, .int x1] H (fun v H => W (pj lw) 15 21 L (v.toList ++ S) k n H Q)) := W_inst (as := [.int x0, .int x1]) (rfl : (pj lw).1 15 18 = some (.invokevirtual 106, 3, 30)) rfl rfl rfl (Nat.le_of_ble_eq_true rfl) (Nat.le_of_ble_eq_true rfl) ⟨rfl, rfl⟩
theorem w15_21 : EW lw 15 21 22 L (.int x::S) S := ES rfl
theorem w15_22 : EW lw 15 22 23 (.val (.ref x)::L) S (.ref x::S) := ES rfl
theorem w15_23 : W (pj lw) 15 23 L (.ref a::S) k n H Q ↔ ((isO H a = true ∧ cs S + (3 + 11) + 28 ≤ 50) ∧ Cl (pj lw) 33 [.ref a] H (fun v H => W (pj lw) 15 26 L (v.toList ++ S) k n H Q)) := W_inst (as := []) (rfl : (pj lw).1 15 23 = some (.invokevirtual 116, 3, 33)) rfl rfl rfl (Nat.le_of_ble_eq_true rfl) (Nat.le_of_ble_eq_true rfl) ⟨rfl, rfl⟩
theorem w15_26 : W (pj lw) 15 26 L (.int x::S) k n H Q ↔ Q (some (.int x)) H := W_r rfl rfl
theorem c16 {x0 : Nat} : Cl (pj lw) 16 [.ref x0] H Q ↔ W (pj lw) 16 0 [.val (.ref x0)] [] 0 0 H Q := cl_unf rfl
theorem w16_0 : EW lw 16 0 1 (.val (.ref x)::L) S (.ref x::S) := ES rfl
theorem w16_1 : Zw2 lw 16 1 16 4 15 := W_getf (rfl : (pj lw).1 16 1 = some (.getfield 58, 3, 15))
theorem w16_4 : W (pj lw) 16 4 L (.int x::S) k n H Q ↔ Q (some (.int x)) H := W_r rfl rfl
theorem c17 {x0 : Nat} : Cl (pj lw) 17 [.ref x0] H Q ↔ W (pj lw) 17 0 [.val (.ref x0)] [] 0 0 H Q := cl_unf rfl
theorem w17_0 : EW lw 17 0 1 (.val (.ref x)::L) S (.ref x::S) := ES rfl
theorem w17_1 : Zw2 lw 17 1 17 4 16 := W_getf (rfl : (pj lw).1 17 1 = some (.getfield 61, 3, 16))
theorem w17_4 : W (pj lw) 17 4 L (.int x::S) k n H Q ↔ Q (some (.int x)) H := W_r rfl rfl
theorem c18 {x0 : Nat} {x1 : Int32} : Cl (pj lw) 18 [.ref x0, .int x1] H Q ↔ W (pj lw) 18 0 [.val (.ref x0), .val (.int x1), .unset, .unset] [] 0 0 H Q := cl_unf rfl
theorem w18_0 : EW lw 18 0 1 (.val (.ref x)::L) S (.ref x::S) := ES rfl
theorem w18_1 : EW lw 18 1 2 (.val (.ref x)::L) S (.ref x::S) := ES rfl
theorem w18_2 : Zw2 lw 18 2 18 5 1 := W_getf (rfl : (pj lw).1 18 2 = some (.getfield 7, 3, 1))
theorem w18_5 : EW lw 18 5 6 (a::.val (.int x)::L) S (.int x::S) := ES rfl
theorem w18_6 : Zw8 lw 18 6 18 7 := W_iaload (len := 1) rfl
theorem w18_7 : EW lw 18 7 8 L S (.int (-1)::S) := ES rfl
theorem w18_8 : W (pj lw) 18 8 L (.int x1::.int x0::.ref a::S) k n H Q ↔ ((isO H a = true ∧ cs S + (5 + 11) + 34 ≤ 50) ∧ Cl (pj lw) 30 [.ref a, .int x0, .int x1] H (fun v H => W (pj lw) 18 11 L (v.toList ++ S) k n H Q)) := W_inst (as := [.int x0, .int x1]) (rfl : (pj lw).1 18 8 = some (.invokevirtual 106, 3, 30)) rfl rfl rfl (Nat.le_of_ble_eq_true rfl) (Nat.le_of_ble_eq_true rfl) ⟨rfl, rfl⟩
theorem w18_11 : EW lw 18 11 12 L (.int x::S) S := ES rfl
theorem w18_12 : EW lw 18 12 13 (.val (.ref x)::L) S (.ref x::S) := ES rfl
theorem w18_13 : Zw2 lw 18 13 18 16 2 := W_getf (rfl : (pj lw).1 18 13 = some (.getfield 13, 3, 2))
theorem w18_16 : EW lw 18 16 17 (a::.val (.int x)::L) S (.int x::S) := ES rfl
theorem w18_17 : Zw8 lw 18 17 18 18 := W_iaload (len := 1) rfl
theorem w18_18 : W (pj lw) 18 18 (a::b::.unset::L) (.int x::S) k n H Q ↔ W (pj lw) 18 19 (a::b::.val (.int x)::L) S k n H Q := W_istn (rfl : (pj lw).1 18 18 = some (.istore_n 2, 1, 0)) rfl rfl
theorem w18_19 : EW lw 18 19 20 (.val (.ref x)::L) S (.ref x::S) := ES rfl
theorem w18_20 : EW lw 18 20 21 (a::b::.val (.int x)::L) S (.int x::S) := ES rfl
theorem w18_21 : W (pj lw) 18 21 L (.int x0::.ref a::S) k n H Q ↔ ((isO H a = true ∧ cs S + (2 + 11) + 0 ≤ 50) ∧ Cl (pj lw) 39 [.ref a, .int x0] H (fun v H => W (pj lw) 18 24 L (v.toList ++ S) k n H Q)) := W_inst (as := [.int x0]) (rfl : (pj lw).1 18 21 = some (.invokevirtual 67, 3, 39)) rfl rfl rfl (Nat.le_of_ble_eq_true rfl) (Nat.le_of_ble_eq_true rfl) ⟨rfl, rfl⟩
theorem w18_24 : Zw4 lw 18 24 18 36 18 27 := W_if_eq (len := 3) rfl rfl
theorem w18_27 : EW lw 18 27 28 (.val (.ref x)::L) S (.ref x::S) := ES rfl
theorem w18_28 : Zw2 lw 18 28 18 31 8 := W_getf (rfl : (pj lw).1 18 28 = some (.getfield 32, 3, 8))
theorem w18_31 : EW lw 18 31 32 (a::b::.val (.int x)::L) S (.int x::S) := ES rfl
theorem w18_32 : Zw7 lw 18 32 18 33 := W_baload (len := 1) rfl
theorem w18_33 : Zw4 lw 18 33 18 36 18 48 := W_if_ne (len := 3) rfl rfl
theorem w18_36 : EW lw 18 36 37 (.val (.ref x)::L) S (.ref x::S) := ES rfl
theorem w18_37 : EW lw 18 37 38 (a::.val (.int x)::L) S (.int x::S) := ES rfl
theorem w18_38 : W (pj lw) 18 38 L (.int x0::.ref a::S) k n H Q ↔ ((isO H a = true ∧ cs S + (2 + 11) + 14 ≤ 50) ∧ Cl (pj lw) 25 [.ref a, .int x0] H (fun v H => W (pj lw) 18 41 L (v.toList ++ S) k n H Q)) := W_inst (as := [.int x0]) (rfl : (pj lw).1 18 38 = some (.invokevirtual 119, 3, 25)) rfl rfl rfl (Nat.le_of_ble_eq_true rfl) (Nat.le_of_ble_eq_true rfl) ⟨rfl, rfl⟩
theorem w18_41 : EW lw 18 41 42 (.val (.ref x)::L) S (.ref x::S) := ES rfl
theorem w18_42 : EW lw 18 42 43 (a::.val (.int x)::L) S (.int x::S) := ES rfl
theorem w18_43 : EW lw 18 43 44 L S (.int (-1)::S) := ES rfl
theorem w18_44 : W (pj lw) 18 44 L (.int x1::.int x0::.ref a::S) k n H Q ↔ ((isO H a = true ∧ cs S + (3 + 11) + 0 ≤ 50) ∧ Cl (pj lw) 21 [.ref a, .int x0, .int x1] H (fun v H => W (pj lw) 18 47 L (v.toList ++ S) k n H Q)) := W_inst (as := [.int x0, .int x1]) (rfl : (pj lw).1 18 44 = some (.invokevirtual 93, 3, 21)) rfl rfl rfl (Nat.le_of_ble_eq_true rfl) (Nat.le_of_ble_eq_true rfl) ⟨rfl, rfl⟩
theorem w18_47 : W (pj lw) 18 47 L [] k n H Q ↔ Q none H := W_r rfl rfl
theorem w18_48 : EW lw 18 48 49 (.val (.ref x)::L) S (.ref x::S) := ES rfl
theorem w18_49 : EW lw 18 49 50 (a::b::.val (.int x)::L) S (.int x::S) := ES rfl
theorem w18_50 : W (pj lw) 18 50 L (.int x0::.ref a::S) k n H Q ↔ ((isO H a = true ∧ cs S + (6 + 11) + 28 ≤ 50) ∧ Cl (pj lw) 32 [.ref a, .int x0] H (fun v H => W (pj lw) 18 53 L (v.toList ++ S) k n H Q)) := W_inst (as := [.int x0]) (rfl : (pj lw).1 18 50 = some (.invokevirtual 110, 3, 32)) rfl rfl rfl (Nat.le_of_ble_eq_true rfl) (Nat.le_of_ble_eq_true rfl) ⟨rfl, rfl⟩
theorem w18_53 : W (pj lw) 18 53 (a::b::c::.unset::L) (.int x::S) k n H Q ↔ W (pj lw) 18 54 (a::b::c::.val (.int x)::L) S k n H Q := W_istn (rfl : (pj lw).1 18 53 = some (.istore_n 3, 1, 0)) rfl rfl
theorem w18_54 : EW lw 18 54 55 (a::b::c::.val (.int x)::L) S (.int x::S) := ES rfl
theorem w18_55 : EW lw 18 55 56 L S (.int (-1)::S) := ES rfl
theorem w18_56 : Zw5 lw 18 56 18 85 18 59 := W_icmp_eq (len := 3) rfl rfl
theorem w18_59 : EW lw 18 59 60 (.val (.ref x)::L) S (.ref x::S) := ES rfl
theorem w18_60 : EW lw 18 60 61 (a::.val (.int x)::L) S (.int x::S) := ES rfl
theorem w18_61 : EW lw 18 61 62 (a::b::c::.val (.int x)::L) S (.int x::S) := ES rfl
theorem w18_62 : W (pj lw) 18 62 L (.int x1::.int x0::.ref a::S) k n H Q ↔ ((isO H a = true ∧ cs S + (3 + 11) + 0 ≤ 50) ∧ Cl (pj lw) 36 [.ref a, .int x0, .int x1] H (fun v H => W (pj lw) 18 65 L (v.toList ++ S) k n H Q)) := W_inst (as := [.int x0, .int x1]) (rfl : (pj lw).1 18 62 = some (.invokevirtual 122, 3, 36)) rfl rfl rfl (Nat.le_of_ble_eq_true rfl) (Nat.le_of_ble_eq_true rfl) ⟨rfl, rfl⟩
theorem w18_65 : Zw4 lw 18 65 18 85 18 68 := W_if_eq (len := 3) rfl rfl
theorem w18_68 : EW lw 18 68 69 (.val (.ref x)::L) S (.ref x::S) := ES rfl
theorem w18_69 : EW lw 18 69 70 (a::b::c::.val (.int x)::L) S (.int x::S) := ES rfl
theorem w18_70 : W (pj lw) 18 70 L (.int x0::.ref a::S) k n H Q ↔ ((isO H a = true ∧ cs S + (2 + 11) + 16 ≤ 50) ∧ Cl (pj lw) 26 [.ref a, .int x0] H (fun v H => W (pj lw) 18 73 L (v.toList ++ S) k n H Q)) := W_inst (as := [.int x0]) (rfl : (pj lw).1 18 70 = some (.invokevirtual 126, 3, 26)) rfl rfl rfl (Nat.le_of_ble_eq_true rfl) (Nat.le_of_ble_eq_true rfl) ⟨rfl, rfl⟩
theorem w18_73 : EW lw 18 73 74 (.val (.ref x)::L) S (.ref x::S) := ES rfl
theorem w18_74 : EW lw 18 74 75 (a::.val (.int x)::L) S (.int x::S) := ES rfl
theorem w18_75 : W (pj lw) 18 75 L (.int x0::.ref a::S) k n H Q ↔ ((isO H a = true ∧ cs S + (2 + 11) + 14 ≤ 50) ∧ Cl (pj lw) 25 [.ref a, .int x0] H (fun v H => W (pj lw) 18 78 L (v.toList ++ S) k n H Q)) := W_inst (as := [.int x0]) (rfl : (pj lw).1 18 75 = some (.invokevirtual 119, 3, 25)) rfl rfl rfl (Nat.le_of_ble_eq_true rfl) (Nat.le_of_ble_eq_true rfl) ⟨rfl, rfl⟩
theorem w18_78 : EW lw 18 78 79 (.val (.ref x)::L) S (.ref x::S) := ES rfl
theorem w18_79 : EW lw 18 79 80 (a::.val (.int x)::L) S (.int x::S) := ES rfl
theorem w18_80 : EW lw 18 80 81 (a::b::c::.val (.int x)::L) S (.int x::S) := ES rfl
theorem w18_81 : W (pj lw) 18 81 L (.int x1::.int x0::.ref a::S) k n H Q ↔ ((isO H a = true ∧ cs S + (3 + 11) + 0 ≤ 50) ∧ Cl (pj lw) 21 [.ref a, .int x0, .int x1] H (fun v H => W (pj lw) 18 84 L (v.toList ++ S) k n H Q)) := W_inst (as := [.int x0, .int x1]) (rfl : (pj lw).1 18 81 = some (.invokevirtual 93, 3, 21)) rfl rfl rfl (Nat.le_of_ble_eq_true rfl) (Nat.le_of_ble_eq_true rfl) ⟨rfl, rfl⟩
theorem w18_84 : W (pj lw) 18 84 L [] k n H Q ↔ Q none H := W_r rfl rfl
theorem w18_85 : EW lw 18 85 86 (.val (.ref x)::L) S (.ref x::S) := ES rfl
theorem w18_86 : EW lw 18 86 87 L S (.int (-1)::S) := ES rfl
theorem w18_87 : EW lw 18 87 88 L S (.int (-1)::S) := ES rfl
theorem w18_88 : W (pj lw) 18 88 L (.int x1::.int x0::.ref a::S) k n H Q ↔ ((isO H a = true ∧ cs S + (3 + 11) + 0 ≤ 50) ∧ Cl (pj lw) 21 [.ref a, .int x0, .int x1] H (fun v H => W (pj lw) 18 91 L (v.toList ++ S) k n H Q)) := W_inst (as := [.int x0, .int x1]) (rfl : (pj lw).1 18 88 = some (.invokevirtual 93, 3, 21)) rfl rfl rfl (Nat.le_of_ble_eq_true rfl) (Nat.le_of_ble_eq_true rfl) ⟨rfl, rfl⟩
theorem w18_91 : W (pj lw) 18 91 L [] k n H Q ↔ Q none H := W_r rfl rfl
theorem c19 {x0 : Nat} {x1 : Int32} : Cl (pj lw) 19 [.ref x0, .int x1] H Q ↔ W (pj lw) 19 0 [.val (.ref x0), .val (.int x1), .unset] [] 0 0 H Q := cl_unf rfl
theorem w19_0 : EW lw 19 0 1 (.val (.ref x)::L) S (.ref x::S) := ES rfl
theorem w19_1 : EW lw 19 1 2 (a::.val (.int x)::L) S (.int x::S) := ES rfl
theorem w19_2 : W (pj lw) 19 2 L (.int x0::.ref a::S) k n H Q ↔ ((isO H a = true ∧ cs S + (2 + 11) + 16 ≤ 50) ∧ Cl (pj lw) 26 [.ref a, .int x0] H (fun v H => W (pj lw) 19 5 L (v.toList ++ S) k n H Q)) := W_inst (as := [.int x0]) (rfl : (pj lw).1 19 2 = some (.invokevirtual 126, 3, 26)) rfl rfl rfl (Nat.le_of_ble_eq_true rfl) (Nat.le_of_ble_eq_true rfl) ⟨rfl, rfl⟩
theorem w19_5 : EW lw 19 5 6 (.val (.ref x)::L) S (.ref x::S) := ES rfl
theorem w19_6 : EW lw 19 6 7 (a::.val (.int x)::L) S (.int x::S) := ES rfl
theorem w19_7 : W (pj lw) 19 7 L (.int x0::.ref a::S) k n H Q ↔ ((isO H a = true ∧ cs S + (2 + 11) + 0 ≤ 50) ∧ Cl (pj lw) 24 [.ref a, .int x0] H (fun v H => W (pj lw) 19 10 L (v.toList ++ S) k n H Q)) := W_inst (as := [.int x0]) (rfl : (pj lw).1 19 7 = some (.invokevirtual 90, 3, 24)) rfl rfl rfl (Nat.le_of_ble_eq_true rfl) (Nat.le_of_ble_eq_true rfl) ⟨rfl, rfl⟩
theorem w19_10 : EW lw 19 10 11 (.val (.ref x)::L) S (.ref x::S) := ES rfl
theorem w19_11 : EW lw 19 11 12 (.val (.ref x)::L) S (.ref x::S) := ES rfl
theorem w19_12 : Zw2 lw 19 12 19 15 1 := W_getf (rfl : (pj lw).1 19 12 = some (.getfield 7, 3, 1))
theorem w19_15 : EW lw 19 15 16 (a::.val (.int x)::L) S (.int x::S) := ES rfl
theorem w19_16 : Zw8 lw 19 16 19 17 := W_iaload (len := 1) rfl
theorem w19_17 : EW lw 19 17 18 L S (.int (-1)::S) := ES rfl
theorem w19_18 : W (pj lw) 19 18 L (.int x1::.int x0::.ref a::S) k n H Q ↔ ((isO H a = true ∧ cs S + (5 + 11) + 34 ≤ 50) ∧ Cl (pj lw) 30 [.ref a, .int x0, .int x1] H (fun v H => W (pj lw) 19 21 L (v.toList ++ S) k n H Q)) := W_inst (as := [.int x0, .int x1]) (rfl : (pj lw).1 19 18 = some (.invokevirtual 106, 3, 30)) rfl rfl rfl (Nat.le_of_ble_eq_true rfl) (Nat.le_of_ble_eq_true rfl) ⟨rfl, rfl⟩
theorem w19_21 : EW lw 19 21 22 L (.int x::S) S := ES rfl
theorem w19_22 : EW lw 19 22 23 (.val (.ref x)::L) S (.ref x::S) := ES rfl
theorem w19_23 : W (pj lw) 19 23 L (.ref a::S) k n H Q ↔ ((isO H a = true ∧ cs S + (3 + 11) + 28 ≤ 50) ∧ Cl (pj lw) 33 [.ref a] H (fun v H => W (pj lw) 19 26 L (v.toList ++ S) k n H Q)) := W_inst (as := []) (rfl : (pj lw).1 19 23 = some (.invokevirtual 116, 3, 33)) rfl rfl rfl (Nat.le_of_ble_eq_true rfl) (Nat.le_of_ble_eq_true rfl) ⟨rfl, rfl⟩
theorem w19_26 : W (pj lw) 19 26 (a::b::.unset::L) (.int x::S) k n H Q ↔ W (pj lw) 19 27 (a::b::.val (.int x)::L) S k n H Q := W_istn (rfl : (pj lw).1 19 26 = some (.istore_n 2, 1, 0)) rfl rfl
theorem w19_27 : EW lw 19 27 28 (a::b::.val (.int x)::L) S (.int x::S) := ES rfl
theorem w19_28 : EW lw 19 28 29 L S (.int (-1)::S) := ES rfl
theorem w19_29 : Zw5 lw 19 29 19 37 19 32 := W_icmp_eq (len := 3) rfl rfl
theorem w19_32 : EW lw 19 32 33 (.val (.ref x)::L) S (.ref x::S) := ES rfl
theorem w19_33 : EW lw 19 33 34 (a::b::.val (.int x)::L) S (.int x::S) := ES rfl
theorem w19_34 : W (pj lw) 19 34 L (.int x0::.ref a::S) k n H Q ↔ ((isO H a = true ∧ cs S + (2 + 11) + 14 ≤ 50) ∧ Cl (pj lw) 25 [.ref a, .int x0] H (fun v H => W (pj lw) 19 37 L (v.toList ++ S) k n H Q)) := W_inst (as := [.int x0]) (rfl : (pj lw).1 19 34 = some (.invokevirtual 119, 3, 25)) rfl rfl rfl (Nat.le_of_ble_eq_true rfl) (Nat.le_of_ble_eq_true rfl) ⟨rfl, rfl⟩
theorem w19_37 : EW lw 19 37 38 (.val (.ref x)::L) S (.ref x::S) := ES rfl
theorem w19_38 : EW lw 19 38 39 (a::b::.val (.int x)::L) S (.int x::S) := ES rfl
theorem w19_39 : EW lw 19 39 40 (a::.val (.int x)::L) S (.int x::S) := ES rfl
theorem w19_40 : W (pj lw) 19 40 L (.int x1::.int x0::.ref a::S) k n H Q ↔ ((isO H a = true ∧ cs S + (3 + 11) + 0 ≤ 50) ∧ Cl (pj lw) 21 [.ref a, .int x0, .int x1] H (fun v H => W (pj lw) 19 43 L (v.toList ++ S) k n H Q)) := W_inst (as := [.int x0, .int x1]) (rfl : (pj lw).1 19 40 = some (.invokevirtual 93, 3, 21)) rfl rfl rfl (Nat.le_of_ble_eq_true rfl) (Nat.le_of_ble_eq_true rfl) ⟨rfl, rfl⟩
theorem w19_43 : W (pj lw) 19 43 L [] k n H Q ↔ Q none H := W_r rfl rfl
theorem c20 {x0 : Nat} {x1 : Int32} {x2 : Int32} : Cl (pj lw) 20 [.ref x0, .int x1, .int x2] H Q ↔ W (pj lw) 20 0 [.val (.ref x0), .val (.int x1), .val (.int x2), .unset] [] 0 0 H Q := cl_unf rfl
theorem w20_0 : EW lw 20 0 1 (.val (.ref x)::L) S (.ref x::S) := ES rfl
theorem w20_1 : EW lw 20 1 2 (a::.val (.int x)::L) S (.int x::S) := ES rfl
theorem w20_2 : W (pj lw) 20 2 L (.int x0::.ref a::S) k n H Q ↔ ((isO H a = true ∧ cs S + (2 + 11) + 16 ≤ 50) ∧ Cl (pj lw) 26 [.ref a, .int x0] H (fun v H => W (pj lw) 20 5 L (v.toList ++ S) k n H Q)) := W_inst (as := [.int x0]) (rfl : (pj lw).1 20 2 = some (.invokevirtual 126, 3, 26)) rfl rfl rfl (Nat.le_of_ble_eq_true rfl) (Nat.le_of_ble_eq_true rfl) ⟨rfl, rfl⟩
theorem w20_5 : EW lw 20 5 6 (.val (.ref x)::L) S (.ref x::S) := ES rfl
theorem w20_6 : Zw2 lw 20 6 20 9 3 := W_getf (rfl : (pj lw).1 20 6 = some (.getfield 16, 3, 3))
theorem w20_9 : EW lw 20 9 10 (a::.val (.int x)::L) S (.int x::S) := ES rfl
theorem w20_10 : EW lw 20 10 11 (a::b::.val (.int x)::L) S (.int x::S) := ES rfl
theorem w20_11 : Zw3 lw 20 11 20 12 := W_iastore (len := 1) rfl
theorem w20_12 : EW lw 20 12 13 (.val (.ref x)::L) S (.ref x::S) := ES rfl
theorem w20_13 : EW lw 20 13 14 (.val (.ref x)::L) S (.ref x::S) := ES rfl
theorem w20_14 : Zw2 lw 20 14 20 17 1 := W_getf (rfl : (pj lw).1 20 14 = some (.getfield 7, 3, 1))
theorem w20_17 : EW lw 20 17 18 (a::.val (.int x)::L) S (.int x::S) := ES rfl
theorem w20_18 : Zw8 lw 20 18 20 19 := W_iaload (len := 1) rfl
theorem w20_19 : EW lw 20 19 20 L S (.int (-1)::S) := ES rfl
theorem w20_20 : W (pj lw) 20 20 L (.int x1::.int x0::.ref a::S) k n H Q ↔ ((isO H a = true ∧ cs S + (5 + 11) + 34 ≤ 50) ∧ Cl (pj lw) 30 [.ref a, .int x0, .int x1] H (fun v H => W (pj lw) 20 23 L (v.toList ++ S) k n H Q)) := W_inst (as := [.int x0, .int x1]) (rfl : (pj lw).1 20 20 = some (.invokevirtual 106, 3, 30)) rfl rfl rfl (Nat.le_of_ble_eq_true rfl) (Nat.le_of_ble_eq_true rfl) ⟨rfl, rfl⟩
theorem w20_23 : EW lw 20 23 24 L (.int x::S) S := ES rfl
theorem w20_24 : EW lw 20 24 25 (.val (.ref x)::L) S (.ref x::S) := ES rfl
theorem w20_25 : W (pj lw) 20 25 L (.ref a::S) k n H Q ↔ ((isO H a = true ∧ cs S + (3 + 11) + 28 ≤ 50) ∧ Cl (pj lw) 33 [.ref a] H (fun v H => W (pj lw) 20 28 L (v.toList ++ S) k n H Q)) := W_inst (as := []) (rfl : (pj lw).1 20 25 = some (.invokevirtual 116, 3, 33)) rfl rfl rfl (Nat.le_of_ble_eq_true rfl) (Nat.le_of_ble_eq_true rfl) ⟨rfl, rfl⟩
theorem w20_28 : W (pj lw) 20 28 (a::b::c::.unset::L) (.int x::S) k n H Q ↔ W (pj lw) 20 29 (a::b::c::.val (.int x)::L) S k n H Q := W_istn (rfl : (pj lw).1 20 28 = some (.istore_n 3, 1, 0)) rfl rfl
theorem w20_29 : EW lw 20 29 30 (a::b::c::.val (.int x)::L) S (.int x::S) := ES rfl
theorem w20_30 : EW lw 20 30 31 L S (.int (-1)::S) := ES rfl
theorem w20_31 : Zw5 lw 20 31 20 39 20 34 := W_icmp_eq (len := 3) rfl rfl
theorem w20_34 : EW lw 20 34 35 (a::b::c::.val (.int x)::L) S (.int x::S) := ES rfl
theorem w20_35 : EW lw 20 35 36 (a::.val (.int x)::L) S (.int x::S) := ES rfl
theorem w20_36 : Zw5 lw 20 36 20 39 20 51 := W_icmp_ne (len := 3) rfl rfl
theorem w20_39 : EW lw 20 39 40 (.val (.ref x)::L) S (.ref x::S) := ES rfl
theorem w20_40 : EW lw 20 40 41 (a::.val (.int x)::L) S (.int x::S) := ES rfl
theorem w20_41 : W (pj lw) 20 41 L (.int x0::.ref a::S) k n H Q ↔ ((isO H a = true ∧ cs S + (2 + 11) + 14 ≤ 50) ∧ Cl (pj lw) 25 [.ref a, .int x0] H (fun v H => W (pj lw) 20 44 L (v.toList ++ S) k n H Q)) := W_inst (as := [.int x0]) (rfl : (pj lw).1 20 41 = some (.invokevirtual 119, 3, 25)) rfl rfl rfl (Nat.le_of_ble_eq_true rfl) (Nat.le_of_ble_eq_true rfl) ⟨rfl, rfl⟩
theorem w20_44 : EW lw 20 44 45 (.val (.ref x)::L) S (.ref x::S) := ES rfl
theorem w20_45 : EW lw 20 45 46 L S (.int (-1)::S) := ES rfl
theorem w20_46 : EW lw 20 46 47 L S (.int (-1)::S) := ES rfl
theorem w20_47 : W (pj lw) 20 47 L (.int x1::.int x0::.ref a::S) k n H Q ↔ ((isO H a = true ∧ cs S + (3 + 11) + 0 ≤ 50) ∧ Cl (pj lw) 21 [.ref a, .int x0, .int x1] H (fun v H => W (pj lw) 20 50 L (v.toList ++ S) k n H Q)) := W_inst (as := [.int x0, .int x1]) (rfl : (pj lw).1 20 47 = some (.invokevirtual 93, 3, 21)) rfl rfl rfl (Nat.le_of_ble_eq_true rfl) (Nat.le_of_ble_eq_true rfl) ⟨rfl, rfl⟩
theorem w20_50 : W (pj lw) 20 50 L [] k n H Q ↔ Q none H := W_r rfl rfl
theorem w20_51 : EW lw 20 51 52 (.val (.ref x)::L) S (.ref x::S) := ES rfl
theorem w20_52 : EW lw 20 52 53 (a::b::c::.val (.int x)::L) S (.int x::S) := ES rfl
theorem w20_53 : W (pj lw) 20 53 L (.int x0::.ref a::S) k n H Q ↔ ((isO H a = true ∧ cs S + (2 + 11) + 14 ≤ 50) ∧ Cl (pj lw) 25 [.ref a, .int x0] H (fun v H => W (pj lw) 20 56 L (v.toList ++ S) k n H Q)) := W_inst (as := [.int x0]) (rfl : (pj lw).1 20 53 = some (.invokevirtual 119, 3, 25)) rfl rfl rfl (Nat.le_of_ble_eq_true rfl) (Nat.le_of_ble_eq_true rfl) ⟨rfl, rfl⟩
theorem w20_56 : EW lw 20 56 57 (.val (.ref x)::L) S (.ref x::S) := ES rfl
theorem w20_57 : EW lw 20 57 58 (a::b::c::.val (.int x)::L) S (.int x::S) := ES rfl
theorem w20_58 : EW lw 20 58 59 (a::.val (.int x)::L) S (.int x::S) := ES rfl
theorem w20_59 : W (pj lw) 20 59 L (.int x1::.int x0::.ref a::S) k n H Q ↔ ((isO H a = true ∧ cs S + (3 + 11) + 0 ≤ 50) ∧ Cl (pj lw) 21 [.ref a, .int x0, .int x1] H (fun v H => W (pj lw) 20 62 L (v.toList ++ S) k n H Q)) := W_inst (as := [.int x0, .int x1]) (rfl : (pj lw).1 20 59 = some (.invokevirtual 93, 3, 21)) rfl rfl rfl (Nat.le_of_ble_eq_true rfl) (Nat.le_of_ble_eq_true rfl) ⟨rfl, rfl⟩
theorem w20_62 : W (pj lw) 20 62 L [] k n H Q ↔ Q none H := W_r rfl rfl
theorem c21 {x0 : Nat} {x1 : Int32} {x2 : Int32} : Cl (pj lw) 21 [.ref x0, .int x1, .int x2] H Q ↔ W (pj lw) 21 0 [.val (.ref x0), .val (.int x1), .val (.int x2)] [] 0 0 H Q := cl_unf rfl
theorem w21_0 : EW lw 21 0 1 (.val (.ref x)::L) S (.ref x::S) := ES rfl
theorem w21_1 : EW lw 21 1 2 (a::.val (.int x)::L) S (.int x::S) := ES rfl
theorem w21_2 {v : Value} : W (pj lw) 21 2 L (v::.ref a::S) k n H Q ↔ ((isOw H a = true ∧ okv (.int) v = true) ∧ W (pj lw) 21 5 L S k n (wr H a 15 v) Q) := W_putf (rfl : (pj lw).1 21 2 = some (.putfield 58, 3, 15))
theorem w21_5 : EW lw 21 5 6 (.val (.ref x)::L) S (.ref x::S) := ES rfl
theorem w21_6 : EW lw 21 6 7 (a::b::.val (.int x)::L) S (.int x::S) := ES rfl
theorem w21_7 {v : Value} : W (pj lw) 21 7 L (v::.ref a::S) k n H Q ↔ ((isOw H a = true ∧ okv (.int) v = true) ∧ W (pj lw) 21 10 L S k n (wr H a 16 v) Q) := W_putf (rfl : (pj lw).1 21 7 = some (.putfield 61, 3, 16))
theorem w21_10 : W (pj lw) 21 10 L [] k n H Q ↔ Q none H := W_r rfl rfl
theorem c22 {x0 : Nat} : Cl (pj lw) 22 [.ref x0] H Q ↔ W (pj lw) 22 0 [.val (.ref x0), .unset] [] 0 0 H Q := cl_unf rfl
theorem w22_0 : EW lw 22 0 1 L S (.int 0::S) := ES rfl
theorem w22_1 : W (pj lw) 22 1 (a::.unset::L) (.int x::S) k n H Q ↔ W (pj lw) 22 2 (a::.val (.int x)::L) S k n H Q := W_istn (rfl : (pj lw).1 22 1 = some (.istore_n 1, 1, 0)) rfl rfl
theorem w22_2 : EW lw 22 2 3 (a::.val (.int x)::L) S (.int x::S) := ES rfl
theorem w22_3 : EW lw 22 3 6 L S (.int 128::S) := ES rfl
theorem w22_6 : Zw0 lw 22 6 22 9 22 26 := W_icmp_ge (len := 3) rfl rfl
theorem w22_9 : EW lw 22 9 10 (.val (.ref x)::L) S (.ref x::S) := ES rfl
theorem w22_10 : Zw2 lw 22 10 22 13 4 := W_getf (rfl : (pj lw).1 22 10 = some (.getfield 19, 3, 4))
theorem w22_13 : EW lw 22 13 14 (a::.val (.int x)::L) S (.int x::S) := ES rfl
theorem w22_14 : Zw7 lw 22 14 22 15 := W_baload (len := 1) rfl
theorem w22_15 : Zw4 lw 22 15 22 18 22 20 := W_if_ne (len := 3) rfl rfl
theorem w22_18 : EW lw 22 18 19 (a::.val (.int x)::L) S (.int x::S) := ES rfl
theorem w22_19 : W (pj lw) 22 19 L (.int x::S) k n H Q ↔ Q (some (.int x)) H := W_r rfl rfl
theorem w22_20 : W (pj lw) 22 20 (a::.val (.int x)::L) S k n H Q ↔ W (pj lw) 22 23 (a::.val (.int (x + 1))::L) S k n H Q := W_s rfl rfl rfl rfl
theorem w22_23 : W (pj lw) 22 23 L S k n H Q ↔ W (pj lw) 22 2 L S k n H Q := W_goto rfl rfl
theorem c23 {x0 : Nat} {x1 : Int32} {x2 : Int32} {x3 : Int32} {x4 : Int32} : Cl (pj lw) 23 [.ref x0, .int x1, .int x2, .int x3, .int x4] H Q ↔ W (pj lw) 23 0 [.val (.ref x0), .val (.int x1), .val (.int x2), .val (.int x3), .val (.int x4)] [] 0 0 H Q := cl_unf rfl
theorem w23_0 : EW lw 23 0 1 (.val (.ref x)::L) S (.ref x::S) := ES rfl
theorem w23_1 : Zw2 lw 23 1 23 4 1 := W_getf (rfl : (pj lw).1 23 1 = some (.getfield 7, 3, 1))
theorem w23_4 : EW lw 23 4 5 (a::.val (.int x)::L) S (.int x::S) := ES rfl
theorem w23_5 : EW lw 23 5 6 (a::b::.val (.int x)::L) S (.int x::S) := ES rfl
theorem w23_6 : Zw3 lw 23 6 23 7 := W_iastore (len := 1) rfl
theorem w23_7 : EW lw 23 7 8 (.val (.ref x)::L) S (.ref x::S) := ES rfl
theorem w23_8 : Zw2 lw 23 8 23 11 2 := W_getf (rfl : (pj lw).1 23 8 = some (.getfield 13, 3, 2))
theorem w23_11 : EW lw 23 11 12 (a::.val (.int x)::L) S (.int x::S) := ES rfl
theorem w23_12 : EW lw 23 12 13 (a::b::c::.val (.int x)::L) S (.int x::S) := ES rfl
theorem w23_13 : Zw3 lw 23 13 23 14 := W_iastore (len := 1) rfl
theorem w23_14 : EW lw 23 14 15 (.val (.ref x)::L) S (.ref x::S) := ES rfl
theorem w23_15 : Zw2 lw 23 15 23 18 3 := W_getf (rfl : (pj lw).1 23 15 = some (.getfield 16, 3, 3))
theorem w23_18 : EW lw 23 18 19 (a::.val (.int x)::L) S (.int x::S) := ES rfl
theorem w23_19 : EW lw 23 19 21 (a::b::c::d::.val (.int x)::L) S (.int x::S) := ES rfl
theorem w23_21 : Zw3 lw 23 21 23 22 := W_iastore (len := 1) rfl
theorem w23_22 : EW lw 23 22 23 (.val (.ref x)::L) S (.ref x::S) := ES rfl
theorem w23_23 : Zw2 lw 23 23 23 26 4 := W_getf (rfl : (pj lw).1 23 23 = some (.getfield 19, 3, 4))
theorem w23_26 : EW lw 23 26 27 (a::.val (.int x)::L) S (.int x::S) := ES rfl
theorem w23_27 : EW lw 23 27 28 L S (.int 1::S) := ES rfl
theorem w23_28 : Zw9 lw 23 28 23 29 := W_bastore (len := 1) rfl
theorem w23_29 : EW lw 23 29 30 (.val (.ref x)::L) S (.ref x::S) := ES rfl
theorem w23_30 : Zw2 lw 23 30 23 33 5 := W_getf (rfl : (pj lw).1 23 30 = some (.getfield 23, 3, 5))
theorem w23_33 : EW lw 23 33 34 (a::.val (.int x)::L) S (.int x::S) := ES rfl
theorem w23_34 : EW lw 23 34 35 L S (.int 0::S) := ES rfl
theorem w23_35 : Zw9 lw 23 35 23 36 := W_bastore (len := 1) rfl
theorem w23_36 : EW lw 23 36 37 (.val (.ref x)::L) S (.ref x::S) := ES rfl
theorem w23_37 : EW lw 23 37 38 L (.ref x::S) (.ref x::.ref x::S) := ES rfl
theorem w23_38 : Zw2 lw 23 38 23 41 12 := W_getf (rfl : (pj lw).1 23 38 = some (.getfield 48, 3, 12))
theorem w23_41 : EW lw 23 41 42 L S (.int 1::S) := ES rfl
theorem w23_42 : EW lw 23 42 43 L (.int y::.int x::S) (.int (x + y)::S) := ES rfl
theorem w23_43 {v : Value} : W (pj lw) 23 43 L (v::.ref a::S) k n H Q ↔ ((isOw H a = true ∧ okv (.int) v = true) ∧ W (pj lw) 23 46 L S k n (wr H a 12 v) Q) := W_putf (rfl : (pj lw).1 23 43 = some (.putfield 48, 3, 12))
theorem w23_46 : W (pj lw) 23 46 L [] k n H Q ↔ Q none H := W_r rfl rfl
theorem c24 {x0 : Nat} {x1 : Int32} : Cl (pj lw) 24 [.ref x0, .int x1] H Q ↔ W (pj lw) 24 0 [.val (.ref x0), .val (.int x1)] [] 0 0 H Q := cl_unf rfl
theorem w24_0 : EW lw 24 0 1 (.val (.ref x)::L) S (.ref x::S) := ES rfl
theorem w24_1 : Zw2 lw 24 1 24 4 4 := W_getf (rfl : (pj lw).1 24 1 = some (.getfield 19, 3, 4))
theorem w24_4 : EW lw 24 4 5 (a::.val (.int x)::L) S (.int x::S) := ES rfl
theorem w24_5 : EW lw 24 5 6 L S (.int 0::S) := ES rfl
theorem w24_6 : Zw9 lw 24 6 24 7 := W_bastore (len := 1) rfl
theorem w24_7 : EW lw 24 7 8 (.val (.ref x)::L) S (.ref x::S) := ES rfl
theorem w24_8 : Zw2 lw 24 8 24 11 5 := W_getf (rfl : (pj lw).1 24 8 = some (.getfield 23, 3, 5))
theorem w24_11 : EW lw 24 11 12 (a::.val (.int x)::L) S (.int x::S) := ES rfl
theorem w24_12 : EW lw 24 12 13 L S (.int 0::S) := ES rfl
theorem w24_13 : Zw9 lw 24 13 24 14 := W_bastore (len := 1) rfl
theorem w24_14 : EW lw 24 14 15 (.val (.ref x)::L) S (.ref x::S) := ES rfl
theorem w24_15 : EW lw 24 15 16 L (.ref x::S) (.ref x::.ref x::S) := ES rfl
theorem w24_16 : Zw2 lw 24 16 24 19 12 := W_getf (rfl : (pj lw).1 24 16 = some (.getfield 48, 3, 12))
theorem w24_19 : EW lw 24 19 20 L S (.int 1::S) := ES rfl
theorem w24_20 : EW lw 24 20 21 L (.int y::.int x::S) (.int (x - y)::S) := ES rfl
theorem w24_21 {v : Value} : W (pj lw) 24 21 L (v::.ref a::S) k n H Q ↔ ((isOw H a = true ∧ okv (.int) v = true) ∧ W (pj lw) 24 24 L S k n (wr H a 12 v) Q) := W_putf (rfl : (pj lw).1 24 21 = some (.putfield 48, 3, 12))
theorem w24_24 : W (pj lw) 24 24 L [] k n H Q ↔ Q none H := W_r rfl rfl
theorem c25 {x0 : Nat} {x1 : Int32} : Cl (pj lw) 25 [.ref x0, .int x1] H Q ↔ W (pj lw) 25 0 [.val (.ref x0), .val (.int x1)] [] 0 0 H Q := cl_unf rfl
theorem w25_0 : EW lw 25 0 1 (.val (.ref x)::L) S (.ref x::S) := ES rfl
theorem w25_1 : EW lw 25 1 2 (a::.val (.int x)::L) S (.int x::S) := ES rfl
theorem w25_2 : W (pj lw) 25 2 L (.int x0::.ref a::S) k n H Q ↔ ((isO H a = true ∧ cs S + (2 + 11) + 0 ≤ 14) ∧ Cl (pj lw) 40 [.ref a, .int x0] H (fun v H => W (pj lw) 25 5 L (v.toList ++ S) k n H Q)) := W_inst (as := [.int x0]) (rfl : (pj lw).1 25 2 = some (.invokevirtual 103, 3, 40)) rfl rfl rfl (Nat.le_of_ble_eq_true rfl) (Nat.le_of_ble_eq_true rfl) ⟨rfl, rfl⟩
theorem w25_5 : Zw4 lw 25 5 25 17 25 8 := W_if_eq (len := 3) rfl rfl
theorem w25_8 : EW lw 25 8 9 (.val (.ref x)::L) S (.ref x::S) := ES rfl
theorem w25_9 : Zw2 lw 25 9 25 12 5 := W_getf (rfl : (pj lw).1 25 9 = some (.getfield 23, 3, 5))
theorem w25_12 : EW lw 25 12 13 (a::.val (.int x)::L) S (.int x::S) := ES rfl
theorem w25_13 : Zw7 lw 25 13 25 14 := W_baload (len := 1) rfl
theorem w25_14 : Zw4 lw 25 14 25 18 25 17 := W_if_eq (len := 3) rfl rfl
theorem w25_17 : W (pj lw) 25 17 L [] k n H Q ↔ Q none H := W_r rfl rfl
theorem w25_18 : EW lw 25 18 19 (.val (.ref x)::L) S (.ref x::S) := ES rfl
theorem w25_19 : Zw2 lw 25 19 25 22 5 := W_getf (rfl : (pj lw).1 25 19 = some (.getfield 23, 3, 5))
theorem w25_22 : EW lw 25 22 23 (a::.val (.int x)::L) S (.int x::S) := ES rfl
theorem w25_23 : EW lw 25 23 24 L S (.int 1::S) := ES rfl
theorem w25_24 : Zw9 lw 25 24 25 25 := W_bastore (len := 1) rfl
theorem w25_25 : EW lw 25 25 26 (.val (.ref x)::L) S (.ref x::S) := ES rfl
theorem w25_26 : EW lw 25 26 27 L (.ref x::S) (.ref x::.ref x::S) := ES rfl
theorem w25_27 : Zw2 lw 25 27 25 30 13 := W_getf (rfl : (pj lw).1 25 27 = some (.getfield 51, 3, 13))
theorem w25_30 : EW lw 25 30 31 L S (.int 1::S) := ES rfl
theorem w25_31 : EW lw 25 31 32 L (.int y::.int x::S) (.int (x + y)::S) := ES rfl
theorem w25_32 {v : Value} : W (pj lw) 25 32 L (v::.ref a::S) k n H Q ↔ ((isOw H a = true ∧ okv (.int) v = true) ∧ W (pj lw) 25 35 L S k n (wr H a 13 v) Q) := W_putf (rfl : (pj lw).1 25 32 = some (.putfield 51, 3, 13))
theorem w25_35 : EW lw 25 35 36 (.val (.ref x)::L) S (.ref x::S) := ES rfl
theorem w25_36 : EW lw 25 36 37 L (.ref x::S) (.ref x::.ref x::S) := ES rfl
theorem w25_37 : Zw2 lw 25 37 25 40 14 := W_getf (rfl : (pj lw).1 25 37 = some (.getfield 54, 3, 14))
theorem w25_40 : EW lw 25 40 41 (.val (.ref x)::L) S (.ref x::S) := ES rfl
theorem w25_41 : Zw2 lw 25 41 25 44 3 := W_getf (rfl : (pj lw).1 25 41 = some (.getfield 16, 3, 3))
theorem w25_44 : EW lw 25 44 45 (a::.val (.int x)::L) S (.int x::S) := ES rfl
theorem w25_45 : Zw8 lw 25 45 25 46 := W_iaload (len := 1) rfl
theorem w25_46 : EW lw 25 46 47 L (.int x::S) (.long x.toInt64::S) := ES rfl
theorem w25_47 : EW lw 25 47 48 L (.long y::.long x::S) (.long (x + y)::S) := ES rfl
theorem w25_48 {v : Value} : W (pj lw) 25 48 L (v::.ref a::S) k n H Q ↔ ((isOw H a = true ∧ okv (.long) v = true) ∧ W (pj lw) 25 51 L S k n (wr H a 14 v) Q) := W_putf (rfl : (pj lw).1 25 48 = some (.putfield 54, 3, 14))
theorem w25_51 : EW lw 25 51 52 (.val (.ref x)::L) S (.ref x::S) := ES rfl
theorem w25_52 : EW lw 25 52 53 (.val (.ref x)::L) S (.ref x::S) := ES rfl
theorem w25_53 : Zw2 lw 25 53 25 56 1 := W_getf (rfl : (pj lw).1 25 53 = some (.getfield 7, 3, 1))
theorem w25_56 : EW lw 25 56 57 (a::.val (.int x)::L) S (.int x::S) := ES rfl
theorem w25_57 : Zw8 lw 25 57 25 58 := W_iaload (len := 1) rfl
theorem w25_58 : EW lw 25 58 59 (a::.val (.int x)::L) S (.int x::S) := ES rfl
theorem w25_59 : W (pj lw) 25 59 L (.int x1::.int x0::.ref a::S) k n H Q ↔ ((isO H a = true ∧ cs S + (3 + 11) + 0 ≤ 14) ∧ Cl (pj lw) 27 [.ref a, .int x0, .int x1] H (fun v H => W (pj lw) 25 62 L (v.toList ++ S) k n H Q)) := W_inst (as := [.int x0, .int x1]) (rfl : (pj lw).1 25 59 = some (.invokevirtual 129, 3, 27)) rfl rfl rfl (Nat.le_of_ble_eq_true rfl) (Nat.le_of_ble_eq_true rfl) ⟨rfl, rfl⟩
theorem w25_62 : EW lw 25 62 63 (.val (.ref x)::L) S (.ref x::S) := ES rfl
theorem w25_63 : EW lw 25 63 64 (.val (.ref x)::L) S (.ref x::S) := ES rfl
theorem w25_64 : Zw2 lw 25 64 25 67 2 := W_getf (rfl : (pj lw).1 25 64 = some (.getfield 13, 3, 2))
theorem w25_67 : EW lw 25 67 68 (a::.val (.int x)::L) S (.int x::S) := ES rfl
theorem w25_68 : Zw8 lw 25 68 25 69 := W_iaload (len := 1) rfl
theorem w25_69 : EW lw 25 69 70 (a::.val (.int x)::L) S (.int x::S) := ES rfl
theorem w25_70 : W (pj lw) 25 70 L (.int x1::.int x0::.ref a::S) k n H Q ↔ ((isO H a = true ∧ cs S + (3 + 11) + 0 ≤ 14) ∧ Cl (pj lw) 27 [.ref a, .int x0, .int x1] H (fun v H => W (pj lw) 25 73 L (v.toList ++ S) k n H Q)) := W_inst (as := [.int x0, .int x1]) (rfl : (pj lw).1 25 70 = some (.invokevirtual 129, 3, 27)) rfl rfl rfl (Nat.le_of_ble_eq_true rfl) (Nat.le_of_ble_eq_true rfl) ⟨rfl, rfl⟩
theorem w25_73 : W (pj lw) 25 73 L [] k n H Q ↔ Q none H := W_r rfl rfl
theorem c26 {x0 : Nat} {x1 : Int32} : Cl (pj lw) 26 [.ref x0, .int x1] H Q ↔ W (pj lw) 26 0 [.val (.ref x0), .val (.int x1)] [] 0 0 H Q := cl_unf rfl
theorem w26_0 : EW lw 26 0 1 (.val (.ref x)::L) S (.ref x::S) := ES rfl
theorem w26_1 : EW lw 26 1 2 (a::.val (.int x)::L) S (.int x::S) := ES rfl
theorem w26_2 : W (pj lw) 26 2 L (.int x0::.ref a::S) k n H Q ↔ ((isO H a = true ∧ cs S + (2 + 11) + 0 ≤ 16) ∧ Cl (pj lw) 40 [.ref a, .int x0] H (fun v H => W (pj lw) 26 5 L (v.toList ++ S) k n H Q)) := W_inst (as := [.int x0]) (rfl : (pj lw).1 26 2 = some (.invokevirtual 103, 3, 40)) rfl rfl rfl (Nat.le_of_ble_eq_true rfl) (Nat.le_of_ble_eq_true rfl) ⟨rfl, rfl⟩
theorem w26_5 : Zw4 lw 26 5 26 17 26 8 := W_if_eq (len := 3) rfl rfl
theorem w26_8 : EW lw 26 8 9 (.val (.ref x)::L) S (.ref x::S) := ES rfl
theorem w26_9 : Zw2 lw 26 9 26 12 5 := W_getf (rfl : (pj lw).1 26 9 = some (.getfield 23, 3, 5))
theorem w26_12 : EW lw 26 12 13 (a::.val (.int x)::L) S (.int x::S) := ES rfl
theorem w26_13 : Zw7 lw 26 13 26 14 := W_baload (len := 1) rfl
theorem w26_14 : Zw4 lw 26 14 26 17 26 18 := W_if_ne (len := 3) rfl rfl
theorem w26_17 : W (pj lw) 26 17 L [] k n H Q ↔ Q none H := W_r rfl rfl
theorem w26_18 : EW lw 26 18 19 (.val (.ref x)::L) S (.ref x::S) := ES rfl
theorem w26_19 : Zw2 lw 26 19 26 22 5 := W_getf (rfl : (pj lw).1 26 19 = some (.getfield 23, 3, 5))
theorem w26_22 : EW lw 26 22 23 (a::.val (.int x)::L) S (.int x::S) := ES rfl
theorem w26_23 : EW lw 26 23 24 L S (.int 0::S) := ES rfl
theorem w26_24 : Zw9 lw 26 24 26 25 := W_bastore (len := 1) rfl
theorem w26_25 : EW lw 26 25 26 (.val (.ref x)::L) S (.ref x::S) := ES rfl
theorem w26_26 : EW lw 26 26 27 L (.ref x::S) (.ref x::.ref x::S) := ES rfl
theorem w26_27 : Zw2 lw 26 27 26 30 13 := W_getf (rfl : (pj lw).1 26 27 = some (.getfield 51, 3, 13))
theorem w26_30 : EW lw 26 30 31 L S (.int 1::S) := ES rfl
theorem w26_31 : EW lw 26 31 32 L (.int y::.int x::S) (.int (x - y)::S) := ES rfl
theorem w26_32 {v : Value} : W (pj lw) 26 32 L (v::.ref a::S) k n H Q ↔ ((isOw H a = true ∧ okv (.int) v = true) ∧ W (pj lw) 26 35 L S k n (wr H a 13 v) Q) := W_putf (rfl : (pj lw).1 26 32 = some (.putfield 51, 3, 13))
theorem w26_35 : EW lw 26 35 36 (.val (.ref x)::L) S (.ref x::S) := ES rfl
theorem w26_36 : EW lw 26 36 37 L (.ref x::S) (.ref x::.ref x::S) := ES rfl
theorem w26_37 : Zw2 lw 26 37 26 40 14 := W_getf (rfl : (pj lw).1 26 37 = some (.getfield 54, 3, 14))
theorem w26_40 : EW lw 26 40 41 (.val (.ref x)::L) S (.ref x::S) := ES rfl
theorem w26_41 : Zw2 lw 26 41 26 44 3 := W_getf (rfl : (pj lw).1 26 41 = some (.getfield 16, 3, 3))
theorem w26_44 : EW lw 26 44 45 (a::.val (.int x)::L) S (.int x::S) := ES rfl
theorem w26_45 : Zw8 lw 26 45 26 46 := W_iaload (len := 1) rfl
theorem w26_46 : EW lw 26 46 47 L (.int x::S) (.long x.toInt64::S) := ES rfl
theorem w26_47 : EW lw 26 47 48 L (.long y::.long x::S) (.long (x - y)::S) := ES rfl
theorem w26_48 {v : Value} : W (pj lw) 26 48 L (v::.ref a::S) k n H Q ↔ ((isOw H a = true ∧ okv (.long) v = true) ∧ W (pj lw) 26 51 L S k n (wr H a 14 v) Q) := W_putf (rfl : (pj lw).1 26 48 = some (.putfield 54, 3, 14))
theorem w26_51 : EW lw 26 51 52 (.val (.ref x)::L) S (.ref x::S) := ES rfl
theorem w26_52 : EW lw 26 52 53 (.val (.ref x)::L) S (.ref x::S) := ES rfl
theorem w26_53 : Zw2 lw 26 53 26 56 1 := W_getf (rfl : (pj lw).1 26 53 = some (.getfield 7, 3, 1))
theorem w26_56 : EW lw 26 56 57 (a::.val (.int x)::L) S (.int x::S) := ES rfl
theorem w26_57 : Zw8 lw 26 57 26 58 := W_iaload (len := 1) rfl
theorem w26_58 : EW lw 26 58 59 (a::.val (.int x)::L) S (.int x::S) := ES rfl
theorem w26_59 : W (pj lw) 26 59 L (.int x1::.int x0::.ref a::S) k n H Q ↔ ((isO H a = true ∧ cs S + (5 + 11) + 0 ≤ 16) ∧ Cl (pj lw) 28 [.ref a, .int x0, .int x1] H (fun v H => W (pj lw) 26 62 L (v.toList ++ S) k n H Q)) := W_inst (as := [.int x0, .int x1]) (rfl : (pj lw).1 26 59 = some (.invokevirtual 132, 3, 28)) rfl rfl rfl (Nat.le_of_ble_eq_true rfl) (Nat.le_of_ble_eq_true rfl) ⟨rfl, rfl⟩
theorem w26_62 : EW lw 26 62 63 (.val (.ref x)::L) S (.ref x::S) := ES rfl
theorem w26_63 : EW lw 26 63 64 (.val (.ref x)::L) S (.ref x::S) := ES rfl
theorem w26_64 : Zw2 lw 26 64 26 67 2 := W_getf (rfl : (pj lw).1 26 64 = some (.getfield 13, 3, 2))
theorem w26_67 : EW lw 26 67 68 (a::.val (.int x)::L) S (.int x::S) := ES rfl
theorem w26_68 : Zw8 lw 26 68 26 69 := W_iaload (len := 1) rfl
theorem w26_69 : EW lw 26 69 70 (a::.val (.int x)::L) S (.int x::S) := ES rfl
theorem w26_70 : W (pj lw) 26 70 L (.int x1::.int x0::.ref a::S) k n H Q ↔ ((isO H a = true ∧ cs S + (5 + 11) + 0 ≤ 16) ∧ Cl (pj lw) 28 [.ref a, .int x0, .int x1] H (fun v H => W (pj lw) 26 73 L (v.toList ++ S) k n H Q)) := W_inst (as := [.int x0, .int x1]) (rfl : (pj lw).1 26 70 = some (.invokevirtual 132, 3, 28)) rfl rfl rfl (Nat.le_of_ble_eq_true rfl) (Nat.le_of_ble_eq_true rfl) ⟨rfl, rfl⟩
theorem w26_73 : W (pj lw) 26 73 L [] k n H Q ↔ Q none H := W_r rfl rfl
theorem c27 {x0 : Nat} {x1 : Int32} {x2 : Int32} : Cl (pj lw) 27 [.ref x0, .int x1, .int x2] H Q ↔ W (pj lw) 27 0 [.val (.ref x0), .val (.int x1), .val (.int x2)] [] 0 0 H Q := cl_unf rfl
theorem w27_0 : EW lw 27 0 1 (a::.val (.int x)::L) S (.int x::S) := ES rfl
theorem w27_1 : Zw10 lw 27 1 27 10 27 4 := W_if_lt (len := 3) rfl rfl
theorem w27_4 : EW lw 27 4 5 (a::.val (.int x)::L) S (.int x::S) := ES rfl
theorem w27_5 : EW lw 27 5 7 L S (.int 32::S) := ES rfl
theorem w27_7 : Zw0 lw 27 7 27 11 27 10 := W_icmp_lt (len := 3) rfl rfl
theorem w27_11 : EW lw 27 11 12 (.val (.ref x)::L) S (.ref x::S) := ES rfl
theorem w27_12 : Zw2 lw 27 12 27 15 7 := W_getf (rfl : (pj lw).1 27 12 = some (.getfield 29, 3, 7))
theorem w27_15 : EW lw 27 15 16 (a::.val (.int x)::L) S (.int x::S) := ES rfl
theorem w27_16 : Zw8 lw 27 16 27 17 := W_iaload (len := 1) rfl
theorem w27_17 : Zw10 lw 27 17 27 31 27 20 := W_if_lt (len := 3) rfl rfl
theorem w27_20 : EW lw 27 20 21 (.val (.ref x)::L) S (.ref x::S) := ES rfl
theorem w27_21 : Zw2 lw 27 21 27 24 7 := W_getf (rfl : (pj lw).1 27 21 = some (.getfield 29, 3, 7))
theorem w27_24 : EW lw 27 24 25 (a::.val (.int x)::L) S (.int x::S) := ES rfl
theorem w27_25 : Zw8 lw 27 25 27 26 := W_iaload (len := 1) rfl
theorem w27_26 : EW lw 27 26 28 L S (.int 32::S) := ES rfl
theorem w27_28 : Zw0 lw 27 28 27 32 27 31 := W_icmp_lt (len := 3) rfl rfl
theorem w27_31 : W (pj lw) 27 31 L [] k n H Q ↔ Q none H := W_r rfl rfl
theorem w27_32 : EW lw 27 32 33 (.val (.ref x)::L) S (.ref x::S) := ES rfl
theorem w27_33 : Zw2 lw 27 33 27 36 6 := W_getf (rfl : (pj lw).1 27 33 = some (.getfield 26, 3, 6))
theorem w27_36 : EW lw 27 36 37 (a::.val (.int x)::L) S (.int x::S) := ES rfl
theorem w27_37 : EW lw 27 37 39 L S (.int 32::S) := ES rfl
theorem w27_39 : EW lw 27 39 40 L (.int y::.int x::S) (.int (x * y)::S) := ES rfl
theorem w27_40 : EW lw 27 40 41 (.val (.ref x)::L) S (.ref x::S) := ES rfl
theorem w27_41 : Zw2 lw 27 41 27 44 7 := W_getf (rfl : (pj lw).1 27 41 = some (.getfield 29, 3, 7))
theorem w27_44 : EW lw 27 44 45 (a::.val (.int x)::L) S (.int x::S) := ES rfl
theorem w27_45 : Zw8 lw 27 45 27 46 := W_iaload (len := 1) rfl
theorem w27_46 : EW lw 27 46 47 L (.int y::.int x::S) (.int (x + y)::S) := ES rfl
theorem w27_47 : EW lw 27 47 48 (a::b::.val (.int x)::L) S (.int x::S) := ES rfl
theorem w27_48 : Zw3 lw 27 48 27 49 := W_iastore (len := 1) rfl
theorem w27_49 : EW lw 27 49 50 (.val (.ref x)::L) S (.ref x::S) := ES rfl
theorem w27_50 : Zw2 lw 27 50 27 53 7 := W_getf (rfl : (pj lw).1 27 50 = some (.getfield 29, 3, 7))
theorem w27_53 : EW lw 27 53 54 (a::.val (.int x)::L) S (.int x::S) := ES rfl
theorem w27_54 : EW lw 27 54 55 L (.int x::.ref y::S) (.int x::.ref y::.int x::.ref y::S) := ES rfl
theorem w27_55 : Zw8 lw 27 55 27 56 := W_iaload (len := 1) rfl
theorem w27_56 : EW lw 27 56 57 L S (.int 1::S) := ES rfl
theorem w27_57 : EW lw 27 57 58 L (.int y::.int x::S) (.int (x + y)::S) := ES rfl
theorem w27_58 : Zw3 lw 27 58 27 59 := W_iastore (len := 1) rfl
theorem w27_59 : W (pj lw) 27 59 L [] k n H Q ↔ Q none H := W_r rfl rfl
theorem c28 {x0 : Nat} {x1 : Int32} {x2 : Int32} : Cl (pj lw) 28 [.ref x0, .int x1, .int x2] H Q ↔ W (pj lw) 28 0 [.val (.ref x0), .val (.int x1), .val (.int x2), .unset, .unset] [] 0 0 H Q := cl_unf rfl
theorem w28_0 : EW lw 28 0 1 (a::.val (.int x)::L) S (.int x::S) := ES rfl
theorem w28_1 : Zw10 lw 28 1 28 10 28 4 := W_if_lt (len := 3) rfl rfl
theorem w28_4 : EW lw 28 4 5 (a::.val (.int x)::L) S (.int x::S) := ES rfl
theorem w28_5 : EW lw 28 5 7 L S (.int 32::S) := ES rfl
theorem w28_7 : Zw0 lw 28 7 28 11 28 10 := W_icmp_lt (len := 3) rfl rfl
theorem w28_11 : EW lw 28 11 12 (a::.val (.int x)::L) S (.int x::S) := ES rfl
theorem w28_12 : EW lw 28 12 14 L S (.int 32::S) := ES rfl
theorem w28_14 : EW lw 28 14 15 L (.int y::.int x::S) (.int (x * y)::S) := ES rfl
theorem w28_15 : W (pj lw) 28 15 (a::b::c::.unset::L) (.int x::S) k n H Q ↔ W (pj lw) 28 16 (a::b::c::.val (.int x)::L) S k n H Q := W_istn (rfl : (pj lw).1 28 15 = some (.istore_n 3, 1, 0)) rfl rfl
theorem w28_16 : EW lw 28 16 17 L S (.int 0::S) := ES rfl
theorem w28_17 : W (pj lw) 28 17 (a::b::c::d::.unset::L) (.int x::S) k n H Q ↔ W (pj lw) 28 19 (a::b::c::d::.val (.int x)::L) S k n H Q := W_ist (rfl : (pj lw).1 28 17 = some (.istore 4, 2, 0)) rfl rfl
theorem w28_19 : EW lw 28 19 21 (a::b::c::d::.val (.int x)::L) S (.int x::S) := ES rfl
theorem w28_21 : EW lw 28 21 22 (.val (.ref x)::L) S (.ref x::S) := ES rfl
theorem w28_22 : Zw2 lw 28 22 28 25 7 := W_getf (rfl : (pj lw).1 28 22 = some (.getfield 29, 3, 7))
theorem w28_25 : EW lw 28 25 26 (a::.val (.int x)::L) S (.int x::S) := ES rfl
theorem w28_26 : Zw8 lw 28 26 28 27 := W_iaload (len := 1) rfl
theorem w28_27 : Zw0 lw 28 27 28 30 28 89 := W_icmp_ge (len := 3) rfl rfl
theorem w28_30 : EW lw 28 30 32 (a::b::c::d::.val (.int x)::L) S (.int x::S) := ES rfl
theorem w28_32 : EW lw 28 32 34 L S (.int 32::S) := ES rfl
theorem w28_34 : Zw0 lw 28 34 28 37 28 89 := W_icmp_ge (len := 3) rfl rfl
theorem w28_37 : EW lw 28 37 38 (.val (.ref x)::L) S (.ref x::S) := ES rfl
theorem w28_38 : Zw2 lw 28 38 28 41 6 := W_getf (rfl : (pj lw).1 28 38 = some (.getfield 26, 3, 6))
theorem w28_41 : EW lw 28 41 42 (a::b::c::.val (.int x)::L) S (.int x::S) := ES rfl
theorem w28_42 : EW lw 28 42 44 (a::b::c::d::.val (.int x)::L) S (.int x::S) := ES rfl
theorem w28_44 : EW lw 28 44 45 L (.int y::.int x::S) (.int (x + y)::S) := ES rfl
theorem w28_45 : Zw8 lw 28 45 28 46 := W_iaload (len := 1) rfl
theorem w28_46 : EW lw 28 46 47 (a::b::.val (.int x)::L) S (.int x::S) := ES rfl
theorem w28_47 : Zw5 lw 28 47 28 50 28 83 := W_icmp_ne (len := 3) rfl rfl
theorem w28_50 : EW lw 28 50 51 (.val (.ref x)::L) S (.ref x::S) := ES rfl
theorem w28_51 : Zw2 lw 28 51 28 54 7 := W_getf (rfl : (pj lw).1 28 51 = some (.getfield 29, 3, 7))
theorem w28_54 : EW lw 28 54 55 (a::.val (.int x)::L) S (.int x::S) := ES rfl
theorem w28_55 : EW lw 28 55 56 L (.int x::.ref y::S) (.int x::.ref y::.int x::.ref y::S) := ES rfl
theorem w28_56 : Zw8 lw 28 56 28 57 := W_iaload (len := 1) rfl
theorem w28_57 : EW lw 28 57 58 L S (.int 1::S) := ES rfl
theorem w28_58 : EW lw 28 58 59 L (.int y::.int x::S) (.int (x - y)::S) := ES rfl
theorem w28_59 : Zw3 lw 28 59 28 60 := W_iastore (len := 1) rfl
theorem w28_60 : EW lw 28 60 61 (.val (.ref x)::L) S (.ref x::S) := ES rfl
theorem w28_61 : Zw2 lw 28 61 28 64 6 := W_getf (rfl : (pj lw).1 28 61 = some (.getfield 26, 3, 6))
theorem w28_64 : EW lw 28 64 65 (a::b::c::.val (.int x)::L) S (.int x::S) := ES rfl
theorem w28_65 : EW lw 28 65 67 (a::b::c::d::.val (.int x)::L) S (.int x::S) := ES rfl
theorem w28_67 : EW lw 28 67 68 L (.int y::.int x::S) (.int (x + y)::S) := ES rfl
theorem w28_68 : EW lw 28 68 69 (.val (.ref x)::L) S (.ref x::S) := ES rfl
theorem w28_69 : Zw2 lw 28 69 28 72 6 := W_getf (rfl : (pj lw).1 28 69 = some (.getfield 26, 3, 6))
theorem w28_72 : EW lw 28 72 73 (a::b::c::.val (.int x)::L) S (.int x::S) := ES rfl
theorem w28_73 : EW lw 28 73 74 (.val (.ref x)::L) S (.ref x::S) := ES rfl
theorem w28_74 : Zw2 lw 28 74 28 77 7 := W_getf (rfl : (pj lw).1 28 74 = some (.getfield 29, 3, 7))
theorem w28_77 : EW lw 28 77 78 (a::.val (.int x)::L) S (.int x::S) := ES rfl
theorem w28_78 : Zw8 lw 28 78 28 79 := W_iaload (len := 1) rfl
theorem w28_79 : EW lw 28 79 80 L (.int y::.int x::S) (.int (x + y)::S) := ES rfl
theorem w28_80 : Zw8 lw 28 80 28 81 := W_iaload (len := 1) rfl
theorem w28_81 : Zw3 lw 28 81 28 82 := W_iastore (len := 1) rfl
theorem w28_82 : W (pj lw) 28 82 L [] k n H Q ↔ Q none H := W_r rfl rfl
theorem w28_83 : W (pj lw) 28 83 (a::b::c::d::.val (.int x)::L) S k n H Q ↔ W (pj lw) 28 86 (a::b::c::d::.val (.int (x + 1))::L) S k n H Q := W_s rfl rfl rfl rfl
theorem w28_86 : W (pj lw) 28 86 L S k n H Q ↔ W (pj lw) 28 19 L S k n H Q := W_goto rfl rfl
theorem w28_89 : W (pj lw) 28 89 L [] k n H Q ↔ Q none H := W_r rfl rfl
theorem c29 {x0 : Nat} : Cl (pj lw) 29 [.ref x0] H Q ↔ W (pj lw) 29 0 [.val (.ref x0), .unset] [] 0 0 H Q := cl_unf rfl
theorem w29_0 : EW lw 29 0 1 L S (.int 0::S) := ES rfl
theorem w29_1 : W (pj lw) 29 1 (a::.unset::L) (.int x::S) k n H Q ↔ W (pj lw) 29 2 (a::.val (.int x)::L) S k n H Q := W_istn (rfl : (pj lw).1 29 1 = some (.istore_n 1, 1, 0)) rfl rfl
theorem w29_2 : EW lw 29 2 3 (a::.val (.int x)::L) S (.int x::S) := ES rfl
theorem w29_3 : EW lw 29 3 5 L S (.int 32::S) := ES rfl
theorem w29_5 : Zw0 lw 29 5 29 8 29 42 := W_icmp_ge (len := 3) rfl rfl
theorem w29_8 : EW lw 29 8 9 (.val (.ref x)::L) S (.ref x::S) := ES rfl
theorem w29_9 : Zw2 lw 29 9 29 12 8 := W_getf (rfl : (pj lw).1 29 9 = some (.getfield 32, 3, 8))
theorem w29_12 : EW lw 29 12 13 (a::.val (.int x)::L) S (.int x::S) := ES rfl
theorem w29_13 : EW lw 29 13 14 L S (.int 0::S) := ES rfl
theorem w29_14 : Zw9 lw 29 14 29 15 := W_bastore (len := 1) rfl
theorem w29_15 : EW lw 29 15 16 (.val (.ref x)::L) S (.ref x::S) := ES rfl
theorem w29_16 : Zw2 lw 29 16 29 19 9 := W_getf (rfl : (pj lw).1 29 16 = some (.getfield 35, 3, 9))
theorem w29_19 : EW lw 29 19 20 (a::.val (.int x)::L) S (.int x::S) := ES rfl
theorem w29_20 : EW lw 29 20 21 L S (.int (-1)::S) := ES rfl
theorem w29_21 : Zw3 lw 29 21 29 22 := W_iastore (len := 1) rfl
theorem w29_22 : EW lw 29 22 23 (.val (.ref x)::L) S (.ref x::S) := ES rfl
theorem w29_23 : Zw2 lw 29 23 29 26 10 := W_getf (rfl : (pj lw).1 29 23 = some (.getfield 38, 3, 10))
theorem w29_26 : EW lw 29 26 27 (a::.val (.int x)::L) S (.int x::S) := ES rfl
theorem w29_27 : EW lw 29 27 28 L S (.int (-1)::S) := ES rfl
theorem w29_28 : Zw3 lw 29 28 29 29 := W_iastore (len := 1) rfl
theorem w29_29 : EW lw 29 29 30 (.val (.ref x)::L) S (.ref x::S) := ES rfl
theorem w29_30 : Zw2 lw 29 30 29 33 11 := W_getf (rfl : (pj lw).1 29 30 = some (.getfield 41, 3, 11))
theorem w29_33 : EW lw 29 33 34 (a::.val (.int x)::L) S (.int x::S) := ES rfl
theorem w29_34 : EW lw 29 34 35 L S (.int 0::S) := ES rfl
theorem w29_35 : Zw3 lw 29 35 29 36 := W_iastore (len := 1) rfl
theorem w29_36 : W (pj lw) 29 36 (a::.val (.int x)::L) S k n H Q ↔ W (pj lw) 29 39 (a::.val (.int (x + 1))::L) S k n H Q := W_s rfl rfl rfl rfl
theorem w29_39 : W (pj lw) 29 39 L S k n H Q ↔ W (pj lw) 29 2 L S k n H Q := W_goto rfl rfl
theorem w29_42 : W (pj lw) 29 42 L [] k n H Q ↔ Q none H := W_r rfl rfl
theorem c30 {x0 : Nat} {x1 : Int32} {x2 : Int32} : Cl (pj lw) 30 [.ref x0, .int x1, .int x2] H Q ↔ W (pj lw) 30 0 [.val (.ref x0), .val (.int x1), .val (.int x2), .unset, .unset] [] 0 0 H Q := cl_unf rfl
theorem w30_0 : EW lw 30 0 1 (.val (.ref x)::L) S (.ref x::S) := ES rfl
theorem w30_1 : W (pj lw) 30 1 L (.ref a::S) k n H Q ↔ ((isO H a = true ∧ cs S + (2 + 11) + 0 ≤ 34) ∧ Cl (pj lw) 29 [.ref a] H (fun v H => W (pj lw) 30 4 L (v.toList ++ S) k n H Q)) := W_inst (as := []) (rfl : (pj lw).1 30 1 = some (.invokevirtual 64, 3, 29)) rfl rfl rfl (Nat.le_of_ble_eq_true rfl) (Nat.le_of_ble_eq_true rfl) ⟨rfl, rfl⟩
theorem w30_4 : EW lw 30 4 5 (.val (.ref x)::L) S (.ref x::S) := ES rfl
theorem w30_5 : EW lw 30 5 6 (a::.val (.int x)::L) S (.int x::S) := ES rfl
theorem w30_6 : W (pj lw) 30 6 L (.int x0::.ref a::S) k n H Q ↔ ((isO H a = true ∧ cs S + (2 + 11) + 0 ≤ 34) ∧ Cl (pj lw) 39 [.ref a, .int x0] H (fun v H => W (pj lw) 30 9 L (v.toList ++ S) k n H Q)) := W_inst (as := [.int x0]) (rfl : (pj lw).1 30 6 = some (.invokevirtual 67, 3, 39)) rfl rfl rfl (Nat.le_of_ble_eq_true rfl) (Nat.le_of_ble_eq_true rfl) ⟨rfl, rfl⟩
theorem w30_9 : Zw4 lw 30 9 30 12 30 14 := W_if_ne (len := 3) rfl rfl
theorem w30_14 : EW lw 30 14 15 (.val (.ref x)::L) S (.ref x::S) := ES rfl
theorem w30_15 : Zw2 lw 30 15 30 18 8 := W_getf (rfl : (pj lw).1 30 15 = some (.getfield 32, 3, 8))
theorem w30_18 : EW lw 30 18 19 (a::.val (.int x)::L) S (.int x::S) := ES rfl
theorem w30_19 : EW lw 30 19 20 L S (.int 1::S) := ES rfl
theorem w30_20 : Zw9 lw 30 20 30 21 := W_bastore (len := 1) rfl
theorem w30_21 : EW lw 30 21 22 (.val (.ref x)::L) S (.ref x::S) := ES rfl
theorem w30_22 : Zw2 lw 30 22 30 25 11 := W_getf (rfl : (pj lw).1 30 22 = some (.getfield 41, 3, 11))
theorem w30_25 : EW lw 30 25 26 L S (.int 0::S) := ES rfl
theorem w30_26 : EW lw 30 26 27 (a::.val (.int x)::L) S (.int x::S) := ES rfl
theorem w30_27 : Zw3 lw 30 27 30 28 := W_iastore (len := 1) rfl
theorem w30_28 : EW lw 30 28 29 L S (.int 1::S) := ES rfl
theorem w30_29 : W (pj lw) 30 29 (a::b::c::.unset::L) (.int x::S) k n H Q ↔ W (pj lw) 30 30 (a::b::c::.val (.int x)::L) S k n H Q := W_istn (rfl : (pj lw).1 30 29 = some (.istore_n 3, 1, 0)) rfl rfl
theorem w30_30 : EW lw 30 30 31 L S (.int 0::S) := ES rfl
theorem w30_31 : W (pj lw) 30 31 (a::b::c::d::.unset::L) (.int x::S) k n H Q ↔ W (pj lw) 30 33 (a::b::c::d::.val (.int x)::L) S k n H Q := W_ist (rfl : (pj lw).1 30 31 = some (.istore 4, 2, 0)) rfl rfl
theorem w30_33 : EW lw 30 33 35 (a::b::c::d::.val (.int x)::L) S (.int x::S) := ES rfl
theorem w30_35 : EW lw 30 35 36 (a::b::c::.val (.int x)::L) S (.int x::S) := ES rfl
theorem w30_36 : Zw0 lw 30 36 30 39 30 66 := W_icmp_ge (len := 3) rfl rfl
theorem w30_39 : EW lw 30 39 41 (a::b::c::d::.val (.int x)::L) S (.int x::S) := ES rfl
theorem w30_41 : EW lw 30 41 43 L S (.int 32::S) := ES rfl
theorem w30_43 : Zw0 lw 30 43 30 46 30 66 := W_icmp_ge (len := 3) rfl rfl
theorem w30_46 : EW lw 30 46 47 (.val (.ref x)::L) S (.ref x::S) := ES rfl
theorem w30_47 : EW lw 30 47 48 (.val (.ref x)::L) S (.ref x::S) := ES rfl
theorem w30_48 : Zw2 lw 30 48 30 51 11 := W_getf (rfl : (pj lw).1 30 48 = some (.getfield 41, 3, 11))
theorem w30_51 : EW lw 30 51 53 (a::b::c::d::.val (.int x)::L) S (.int x::S) := ES rfl
theorem w30_53 : Zw8 lw 30 53 30 54 := W_iaload (len := 1) rfl
theorem w30_54 : EW lw 30 54 55 (a::b::.val (.int x)::L) S (.int x::S) := ES rfl
theorem w30_55 : EW lw 30 55 56 (a::b::c::.val (.int x)::L) S (.int x::S) := ES rfl
theorem w30_56 : W (pj lw) 30 56 L (.int x2::.int x1::.int x0::.ref a::S) k n H Q ↔ ((isO H a = true ∧ cs S + (9 + 11) + 14 ≤ 34) ∧ Cl (pj lw) 31 [.ref a, .int x0, .int x1, .int x2] H (fun v H => W (pj lw) 30 59 L (v.toList ++ S) k n H Q)) := W_inst (as := [.int x0, .int x1, .int x2]) (rfl : (pj lw).1 30 56 = some (.invokevirtual 135, 3, 31)) rfl rfl rfl (Nat.le_of_ble_eq_true rfl) (Nat.le_of_ble_eq_true rfl) ⟨rfl, rfl⟩
theorem w30_59i : W (pj lw) 30 59 (a::b::c::.val (.int y)::L) (.int x::S) k n H Q ↔ W (pj lw) 30 60 (a::b::c::.val (.int x)::L) S k n H Q := W_istn (rfl : (pj lw).1 30 59 = some (.istore_n 3, 1, 0)) rfl rfl
theorem w30_60 : W (pj lw) 30 60 (a::b::c::d::.val (.int x)::L) S k n H Q ↔ W (pj lw) 30 63 (a::b::c::d::.val (.int (x + 1))::L) S k n H Q := W_s rfl rfl rfl rfl
theorem w30_63 : W (pj lw) 30 63 L S k n H Q ↔ W (pj lw) 30 33 L S k n H Q := W_goto rfl rfl
theorem w30_66 : EW lw 30 66 67 (a::b::c::.val (.int x)::L) S (.int x::S) := ES rfl
theorem w30_67 : W (pj lw) 30 67 L (.int x::S) k n H Q ↔ Q (some (.int x)) H := W_r rfl rfl
theorem c31 {x0 : Nat} {x1 : Int32} {x2 : Int32} {x3 : Int32} : Cl (pj lw) 31 [.ref x0, .int x1, .int x2, .int x3] H Q ↔ W (pj lw) 31 0 [.val (.ref x0), .val (.int x1), .val (.int x2), .val (.int x3), .unset, .unset, .unset, .unset, .unset] [] 0 0 H Q := cl_unf rfl
theorem w31_0 : EW lw 31 0 1 (a::b::c::.val (.int x)::L) S (.int x::S) := ES rfl
theorem w31_1 : W (pj lw) 31 1 (a::b::c::d::.unset::L) (.int x::S) k n H Q ↔ W (pj lw) 31 3 (a::b::c::d::.val (.int x)::L) S k n H Q := W_ist (rfl : (pj lw).1 31 1 = some (.istore 4, 2, 0)) rfl rfl
theorem w31_3 : EW lw 31 3 4 (a::.val (.int x)::L) S (.int x::S) := ES rfl
theorem w31_4 : Zw10 lw 31 4 31 13 31 7 := W_if_lt (len := 3) rfl rfl
theorem w31_7 : EW lw 31 7 8 (a::.val (.int x)::L) S (.int x::S) := ES rfl
theorem w31_8 : EW lw 31 8 10 L S (.int 32::S) := ES rfl
theorem w31_10 : Zw0 lw 31 10 31 16 31 13 := W_icmp_lt (len := 3) rfl rfl
theorem w31_13 : EW lw 31 13 15 (a::b::c::d::.val (.int x)::L) S (.int x::S) := ES rfl
theorem w31_15 : W (pj lw) 31 15 L (.int x::S) k n H Q ↔ Q (some (.int x)) H := W_r rfl rfl
theorem w31_16 : EW lw 31 16 17 (a::.val (.int x)::L) S (.int x::S) := ES rfl
theorem w31_17 : EW lw 31 17 19 L S (.int 32::S) := ES rfl
theorem w31_19 : EW lw 31 19 20 L (.int y::.int x::S) (.int (x * y)::S) := ES rfl
theorem w31_20 : W (pj lw) 31 20 (a::b::c::d::e::.unset::L) (.int x::S) k n H Q ↔ W (pj lw) 31 22 (a::b::c::d::e::.val (.int x)::L) S k n H Q := W_ist (rfl : (pj lw).1 31 20 = some (.istore 5, 2, 0)) rfl rfl
theorem w31_22 : EW lw 31 22 23 L S (.int 0::S) := ES rfl
theorem w31_23 : W (pj lw) 31 23 (a::b::c::d::e::f::.unset::L) (.int x::S) k n H Q ↔ W (pj lw) 31 25 (a::b::c::d::e::f::.val (.int x)::L) S k n H Q := W_ist (rfl : (pj lw).1 31 23 = some (.istore 6, 2, 0)) rfl rfl
theorem w31_25 : EW lw 31 25 27 (a::b::c::d::e::f::.val (.int x)::L) S (.int x::S) := ES rfl
theorem w31_27 : EW lw 31 27 28 (.val (.ref x)::L) S (.ref x::S) := ES rfl
theorem w31_28 : Zw2 lw 31 28 31 31 7 := W_getf (rfl : (pj lw).1 31 28 = some (.getfield 29, 3, 7))
theorem w31_31 : EW lw 31 31 32 (a::.val (.int x)::L) S (.int x::S) := ES rfl
theorem w31_32 : Zw8 lw 31 32 31 33 := W_iaload (len := 1) rfl
theorem w31_33 : Zw0 lw 31 33 31 36 31 157 := W_icmp_ge (len := 3) rfl rfl
theorem w31_36 : EW lw 31 36 38 (a::b::c::d::e::f::.val (.int x)::L) S (.int x::S) := ES rfl
theorem w31_38 : EW lw 31 38 40 L S (.int 32::S) := ES rfl
theorem w31_40 : Zw0 lw 31 40 31 43 31 157 := W_icmp_ge (len := 3) rfl rfl
theorem w31_43 : EW lw 31 43 44 (.val (.ref x)::L) S (.ref x::S) := ES rfl
theorem w31_44 : Zw2 lw 31 44 31 47 6 := W_getf (rfl : (pj lw).1 31 44 = some (.getfield 26, 3, 6))
theorem w31_47 : EW lw 31 47 49 (a::b::c::d::e::.val (.int x)::L) S (.int x::S) := ES rfl
theorem w31_49 : EW lw 31 49 51 (a::b::c::d::e::f::.val (.int x)::L) S (.int x::S) := ES rfl
theorem w31_51 : EW lw 31 51 52 L (.int y::.int x::S) (.int (x + y)::S) := ES rfl
theorem w31_52 : Zw8 lw 31 52 31 53 := W_iaload (len := 1) rfl
theorem w31_53 : W (pj lw) 31 53 (a::b::c::d::e::f::h::.unset::L) (.int x::S) k n H Q ↔ W (pj lw) 31 55 (a::b::c::d::e::f::h::.val (.int x)::L) S k n H Q := W_ist (rfl : (pj lw).1 31 53 = some (.istore 7, 2, 0)) rfl rfl
theorem w31_55 : EW lw 31 55 57 (a::b::c::d::e::f::h::.val (.int x)::L) S (.int x::S) := ES rfl
theorem w31_57 : EW lw 31 57 58 (a::b::.val (.int x)::L) S (.int x::S) := ES rfl
theorem w31_58 : Zw5 lw 31 58 31 151 31 61 := W_icmp_eq (len := 3) rfl rfl
theorem w31_61 : EW lw 31 61 62 (.val (.ref x)::L) S (.ref x::S) := ES rfl
theorem w31_62 : EW lw 31 62 64 (a::b::c::d::e::f::h::.val (.int x)::L) S (.int x::S) := ES rfl
theorem w31_64 : W (pj lw) 31 64 L (.int x0::.ref a::S) k n H Q ↔ ((isO H a = true ∧ cs S + (2 + 11) + 0 ≤ 14) ∧ Cl (pj lw) 40 [.ref a, .int x0] H (fun v H => W (pj lw) 31 67 L (v.toList ++ S) k n H Q)) := W_inst (as := [.int x0]) (rfl : (pj lw).1 31 64 = some (.invokevirtual 103, 3, 40)) rfl rfl rfl (Nat.le_of_ble_eq_true rfl) (Nat.le_of_ble_eq_true rfl) ⟨rfl, rfl⟩
theorem w31_67 : Zw4 lw 31 67 31 70 31 73 := W_if_ne (len := 3) rfl rfl
theorem w31_70 : W (pj lw) 31 70 L S k n H Q ↔ W (pj lw) 31 151 L S k n H Q := W_goto rfl rfl
theorem w31_73 : EW lw 31 73 74 (.val (.ref x)::L) S (.ref x::S) := ES rfl
theorem w31_74 : EW lw 31 74 76 (a::b::c::d::e::f::h::.val (.int x)::L) S (.int x::S) := ES rfl
theorem w31_76 : EW lw 31 76 77 (a::.val (.int x)::L) S (.int x::S) := ES rfl
theorem w31_77 : W (pj lw) 31 77 L (.int x1::.int x0::.ref a::S) k n H Q ↔ ((isO H a = true ∧ cs S + (3 + 11) + 0 ≤ 14) ∧ Cl (pj lw) 35 [.ref a, .int x0, .int x1] H (fun v H => W (pj lw) 31 80 L (v.toList ++ S) k n H Q)) := W_inst (as := [.int x0, .int x1]) (rfl : (pj lw).1 31 77 = some (.invokevirtual 139, 3, 35)) rfl rfl rfl (Nat.le_of_ble_eq_true rfl) (Nat.le_of_ble_eq_true rfl) ⟨rfl, rfl⟩
theorem w31_80 : W (pj lw) 31 80 (a::b::c::d::e::f::h::i::.unset::L) (.int x::S) k n H Q ↔ W (pj lw) 31 82 (a::b::c::d::e::f::h::i::.val (.int x)::L) S k n H Q := W_ist (rfl : (pj lw).1 31 80 = some (.istore 8, 2, 0)) rfl rfl
theorem w31_82 : EW lw 31 82 84 (a::b::c::d::e::f::h::i::.val (.int x)::L) S (.int x::S) := ES rfl
theorem w31_84 : Zw10 lw 31 84 31 151 31 87 := W_if_lt (len := 3) rfl rfl
theorem w31_87 : EW lw 31 87 89 (a::b::c::d::e::f::h::i::.val (.int x)::L) S (.int x::S) := ES rfl
theorem w31_89 : EW lw 31 89 91 L S (.int 32::S) := ES rfl
theorem w31_91 : Zw0 lw 31 91 31 94 31 151 := W_icmp_ge (len := 3) rfl rfl
theorem w31_94 : EW lw 31 94 95 (.val (.ref x)::L) S (.ref x::S) := ES rfl
theorem w31_95 : Zw2 lw 31 95 31 98 8 := W_getf (rfl : (pj lw).1 31 95 = some (.getfield 32, 3, 8))
theorem w31_98 : EW lw 31 98 100 (a::b::c::d::e::f::h::i::.val (.int x)::L) S (.int x::S) := ES rfl
theorem w31_100 : Zw7 lw 31 100 31 101 := W_baload (len := 1) rfl
theorem w31_101 : Zw4 lw 31 101 31 104 31 151 := W_if_ne (len := 3) rfl rfl
theorem w31_104 : EW lw 31 104 106 (a::b::c::d::.val (.int x)::L) S (.int x::S) := ES rfl
theorem w31_106 : EW lw 31 106 108 L S (.int 32::S) := ES rfl
theorem w31_108 : Zw0 lw 31 108 31 114 31 111 := W_icmp_lt (len := 3) rfl rfl
theorem w31_111 : W (pj lw) 31 111 L S k n H Q ↔ W (pj lw) 31 151 L S k n H Q := W_goto rfl rfl
theorem w31_114 : EW lw 31 114 115 (.val (.ref x)::L) S (.ref x::S) := ES rfl
theorem w31_115 : Zw2 lw 31 115 31 118 8 := W_getf (rfl : (pj lw).1 31 115 = some (.getfield 32, 3, 8))
theorem w31_118 : EW lw 31 118 120 (a::b::c::d::e::f::h::i::.val (.int x)::L) S (.int x::S) := ES rfl
theorem w31_120 : EW lw 31 120 121 L S (.int 1::S) := ES rfl
theorem w31_121 : Zw9 lw 31 121 31 122 := W_bastore (len := 1) rfl
theorem w31_122 : EW lw 31 122 123 (.val (.ref x)::L) S (.ref x::S) := ES rfl
theorem w31_123 : Zw2 lw 31 123 31 126 9 := W_getf (rfl : (pj lw).1 31 123 = some (.getfield 35, 3, 9))
theorem w31_126 : EW lw 31 126 128 (a::b::c::d::e::f::h::i::.val (.int x)::L) S (.int x::S) := ES rfl
theorem w31_128 : EW lw 31 128 130 (a::b::c::d::e::f::h::.val (.int x)::L) S (.int x::S) := ES rfl
theorem w31_130 : Zw3 lw 31 130 31 131 := W_iastore (len := 1) rfl
theorem w31_131 : EW lw 31 131 132 (.val (.ref x)::L) S (.ref x::S) := ES rfl
theorem w31_132 : Zw2 lw 31 132 31 135 10 := W_getf (rfl : (pj lw).1 31 132 = some (.getfield 38, 3, 10))
theorem w31_135 : EW lw 31 135 137 (a::b::c::d::e::f::h::i::.val (.int x)::L) S (.int x::S) := ES rfl
theorem w31_137 : EW lw 31 137 138 (a::.val (.int x)::L) S (.int x::S) := ES rfl
theorem w31_138 : Zw3 lw 31 138 31 139 := W_iastore (len := 1) rfl
theorem w31_139 : EW lw 31 139 140 (.val (.ref x)::L) S (.ref x::S) := ES rfl
theorem w31_140 : Zw2 lw 31 140 31 143 11 := W_getf (rfl : (pj lw).1 31 140 = some (.getfield 41, 3, 11))
theorem w31_143 : EW lw 31 143 145 (a::b::c::d::.val (.int x)::L) S (.int x::S) := ES rfl
theorem w31_145 : EW lw 31 145 147 (a::b::c::d::e::f::h::i::.val (.int x)::L) S (.int x::S) := ES rfl
theorem w31_147 : Zw3 lw 31 147 31 148 := W_iastore (len := 1) rfl
theorem w31_148 : W (pj lw) 31 148 (a::b::c::d::.val (.int x)::L) S k n H Q ↔ W (pj lw) 31 151 (a::b::c::d::.val (.int (x + 1))::L) S k n H Q := W_s rfl rfl rfl rfl
theorem w31_151 : W (pj lw) 31 151 (a::b::c::d::e::f::.val (.int x)::L) S k n H Q ↔ W (pj lw) 31 154 (a::b::c::d::e::f::.val (.int (x + 1))::L) S k n H Q := W_s rfl rfl rfl rfl
theorem w31_154 : W (pj lw) 31 154 L S k n H Q ↔ W (pj lw) 31 25 L S k n H Q := W_goto rfl rfl
theorem w31_157 : EW lw 31 157 159 (a::b::c::d::.val (.int x)::L) S (.int x::S) := ES rfl
theorem w31_159 : W (pj lw) 31 159 L (.int x::S) k n H Q ↔ Q (some (.int x)) H := W_r rfl rfl
theorem c32 {x0 : Nat} {x1 : Int32} : Cl (pj lw) 32 [.ref x0, .int x1] H Q ↔ W (pj lw) 32 0 [.val (.ref x0), .val (.int x1), .unset, .unset, .unset, .unset] [] 0 0 H Q := cl_unf rfl
theorem w32_0 : EW lw 32 0 1 L S (.int (-1)::S) := ES rfl
theorem w32_1 : W (pj lw) 32 1 (a::b::.unset::L) (.int x::S) k n H Q ↔ W (pj lw) 32 2 (a::b::.val (.int x)::L) S k n H Q := W_istn (rfl : (pj lw).1 32 1 = some (.istore_n 2, 1, 0)) rfl rfl
theorem w32_2 : EW lw 32 2 3 (a::.val (.int x)::L) S (.int x::S) := ES rfl
theorem w32_3 : W (pj lw) 32 3 (a::b::c::.unset::L) (.int x::S) k n H Q ↔ W (pj lw) 32 4 (a::b::c::.val (.int x)::L) S k n H Q := W_istn (rfl : (pj lw).1 32 3 = some (.istore_n 3, 1, 0)) rfl rfl
theorem w32_4 : EW lw 32 4 5 L S (.int 0::S) := ES rfl
theorem w32_5 : W (pj lw) 32 5 (a::b::c::d::.unset::L) (.int x::S) k n H Q ↔ W (pj lw) 32 7 (a::b::c::d::.val (.int x)::L) S k n H Q := W_ist (rfl : (pj lw).1 32 5 = some (.istore 4, 2, 0)) rfl rfl
theorem w32_7 : EW lw 32 7 9 (a::b::c::d::.val (.int x)::L) S (.int x::S) := ES rfl
theorem w32_9 : EW lw 32 9 11 L S (.int 32::S) := ES rfl
theorem w32_11 : Zw0 lw 32 11 32 14 32 65 := W_icmp_ge (len := 3) rfl rfl
theorem w32_14 : EW lw 32 14 15 (a::b::c::.val (.int x)::L) S (.int x::S) := ES rfl
theorem w32_15 : Zw10 lw 32 15 32 65 32 18 := W_if_lt (len := 3) rfl rfl
theorem w32_18 : EW lw 32 18 19 (a::b::c::.val (.int x)::L) S (.int x::S) := ES rfl
theorem w32_19 : EW lw 32 19 21 L S (.int 32::S) := ES rfl
theorem w32_21 : Zw0 lw 32 21 32 27 32 24 := W_icmp_lt (len := 3) rfl rfl
theorem w32_24 : W (pj lw) 32 24 L S k n H Q ↔ W (pj lw) 32 65 L S k n H Q := W_goto rfl rfl
theorem w32_27 : EW lw 32 27 28 (.val (.ref x)::L) S (.ref x::S) := ES rfl
theorem w32_28 : Zw2 lw 32 28 32 31 9 := W_getf (rfl : (pj lw).1 32 28 = some (.getfield 35, 3, 9))
theorem w32_31 : EW lw 32 31 32 (a::b::c::.val (.int x)::L) S (.int x::S) := ES rfl
theorem w32_32 : Zw8 lw 32 32 32 33 := W_iaload (len := 1) rfl
theorem w32_33 : W (pj lw) 32 33 (a::b::c::d::e::.unset::L) (.int x::S) k n H Q ↔ W (pj lw) 32 35 (a::b::c::d::e::.val (.int x)::L) S k n H Q := W_ist (rfl : (pj lw).1 32 33 = some (.istore 5, 2, 0)) rfl rfl
theorem w32_35 : EW lw 32 35 37 (a::b::c::d::e::.val (.int x)::L) S (.int x::S) := ES rfl
theorem w32_37 : EW lw 32 37 38 L S (.int (-1)::S) := ES rfl
theorem w32_38 : Zw5 lw 32 38 32 41 32 44 := W_icmp_ne (len := 3) rfl rfl
theorem w32_41 : W (pj lw) 32 41 L S k n H Q ↔ W (pj lw) 32 65 L S k n H Q := W_goto rfl rfl
theorem w32_44 : EW lw 32 44 45 (.val (.ref x)::L) S (.ref x::S) := ES rfl
theorem w32_45 : EW lw 32 45 46 (a::b::.val (.int x)::L) S (.int x::S) := ES rfl
theorem w32_46 : EW lw 32 46 48 (a::b::c::d::e::.val (.int x)::L) S (.int x::S) := ES rfl
theorem w32_48 : W (pj lw) 32 48 L (.int x1::.int x0::.ref a::S) k n H Q ↔ ((isO H a = true ∧ cs S + (3 + 11) + 14 ≤ 28) ∧ Cl (pj lw) 38 [.ref a, .int x0, .int x1] H (fun v H => W (pj lw) 32 51 L (v.toList ++ S) k n H Q)) := W_inst (as := [.int x0, .int x1]) (rfl : (pj lw).1 32 48 = some (.invokevirtual 142, 3, 38)) rfl rfl rfl (Nat.le_of_ble_eq_true rfl) (Nat.le_of_ble_eq_true rfl) ⟨rfl, rfl⟩
theorem w32_51i : W (pj lw) 32 51 (a::b::.val (.int y)::L) (.int x::S) k n H Q ↔ W (pj lw) 32 52 (a::b::.val (.int x)::L) S k n H Q := W_istn (rfl : (pj lw).1 32 51 = some (.istore_n 2, 1, 0)) rfl rfl
theorem w32_52 : EW lw 32 52 53 (.val (.ref x)::L) S (.ref x::S) := ES rfl
theorem w32_53 : Zw2 lw 32 53 32 56 10 := W_getf (rfl : (pj lw).1 32 53 = some (.getfield 38, 3, 10))
theorem w32_56 : EW lw 32 56 57 (a::b::c::.val (.int x)::L) S (.int x::S) := ES rfl
theorem w32_57 : Zw8 lw 32 57 32 58 := W_iaload (len := 1) rfl
theorem w32_58i : W (pj lw) 32 58 (a::b::c::.val (.int y)::L) (.int x::S) k n H Q ↔ W (pj lw) 32 59 (a::b::c::.val (.int x)::L) S k n H Q := W_istn (rfl : (pj lw).1 32 58 = some (.istore_n 3, 1, 0)) rfl rfl
theorem w32_59 : W (pj lw) 32 59 (a::b::c::d::.val (.int x)::L) S k n H Q ↔ W (pj lw) 32 62 (a::b::c::d::.val (.int (x + 1))::L) S k n H Q := W_s rfl rfl rfl rfl
theorem w32_62 : W (pj lw) 32 62 L S k n H Q ↔ W (pj lw) 32 7 L S k n H Q := W_goto rfl rfl
theorem w32_65 : EW lw 32 65 66 (a::b::.val (.int x)::L) S (.int x::S) := ES rfl
theorem w32_66 : W (pj lw) 32 66 L (.int x::S) k n H Q ↔ Q (some (.int x)) H := W_r rfl rfl
theorem c33 {x0 : Nat} : Cl (pj lw) 33 [.ref x0] H Q ↔ W (pj lw) 33 0 [.val (.ref x0), .unset, .unset] [] 0 0 H Q := cl_unf rfl
theorem w33_0 : EW lw 33 0 1 L S (.int (-1)::S) := ES rfl
theorem w33_1 : W (pj lw) 33 1 (a::.unset::L) (.int x::S) k n H Q ↔ W (pj lw) 33 2 (a::.val (.int x)::L) S k n H Q := W_istn (rfl : (pj lw).1 33 1 = some (.istore_n 1, 1, 0)) rfl rfl
theorem w33_2 : EW lw 33 2 3 L S (.int 0::S) := ES rfl
theorem w33_3 : W (pj lw) 33 3 (a::b::.unset::L) (.int x::S) k n H Q ↔ W (pj lw) 33 4 (a::b::.val (.int x)::L) S k n H Q := W_istn (rfl : (pj lw).1 33 3 = some (.istore_n 2, 1, 0)) rfl rfl
theorem w33_4 : EW lw 33 4 5 (a::b::.val (.int x)::L) S (.int x::S) := ES rfl
theorem w33_5 : EW lw 33 5 8 L S (.int 128::S) := ES rfl
theorem w33_8 : Zw0 lw 33 8 33 11 33 50 := W_icmp_ge (len := 3) rfl rfl
theorem w33_11 : EW lw 33 11 12 (.val (.ref x)::L) S (.ref x::S) := ES rfl
theorem w33_12 : Zw2 lw 33 12 33 15 4 := W_getf (rfl : (pj lw).1 33 12 = some (.getfield 19, 3, 4))
theorem w33_15 : EW lw 33 15 16 (a::b::.val (.int x)::L) S (.int x::S) := ES rfl
theorem w33_16 : Zw7 lw 33 16 33 17 := W_baload (len := 1) rfl
theorem w33_17 : Zw4 lw 33 17 33 44 33 20 := W_if_eq (len := 3) rfl rfl
theorem w33_20 : EW lw 33 20 21 (.val (.ref x)::L) S (.ref x::S) := ES rfl
theorem w33_21 : Zw2 lw 33 21 33 24 5 := W_getf (rfl : (pj lw).1 33 21 = some (.getfield 23, 3, 5))
theorem w33_24 : EW lw 33 24 25 (a::b::.val (.int x)::L) S (.int x::S) := ES rfl
theorem w33_25 : Zw7 lw 33 25 33 26 := W_baload (len := 1) rfl
theorem w33_26 : Zw4 lw 33 26 33 29 33 44 := W_if_ne (len := 3) rfl rfl
theorem w33_29 : EW lw 33 29 30 (.val (.ref x)::L) S (.ref x::S) := ES rfl
theorem w33_30 : EW lw 33 30 31 (a::b::.val (.int x)::L) S (.int x::S) := ES rfl
theorem w33_31 : W (pj lw) 33 31 L (.int x0::.ref a::S) k n H Q ↔ ((isO H a = true ∧ cs S + (4 + 11) + 0 ≤ 28) ∧ Cl (pj lw) 34 [.ref a, .int x0] H (fun v H => W (pj lw) 33 34 L (v.toList ++ S) k n H Q)) := W_inst (as := [.int x0]) (rfl : (pj lw).1 33 31 = some (.invokevirtual 145, 3, 34)) rfl rfl rfl (Nat.le_of_ble_eq_true rfl) (Nat.le_of_ble_eq_true rfl) ⟨rfl, rfl⟩
theorem w33_34 : Zw4 lw 33 34 33 44 33 37 := W_if_eq (len := 3) rfl rfl
theorem w33_37 : EW lw 33 37 38 (.val (.ref x)::L) S (.ref x::S) := ES rfl
theorem w33_38 : EW lw 33 38 39 (a::.val (.int x)::L) S (.int x::S) := ES rfl
theorem w33_39 : EW lw 33 39 40 (a::b::.val (.int x)::L) S (.int x::S) := ES rfl
theorem w33_40 : W (pj lw) 33 40 L (.int x1::.int x0::.ref a::S) k n H Q ↔ ((isO H a = true ∧ cs S + (3 + 11) + 14 ≤ 28) ∧ Cl (pj lw) 37 [.ref a, .int x0, .int x1] H (fun v H => W (pj lw) 33 43 L (v.toList ++ S) k n H Q)) := W_inst (as := [.int x0, .int x1]) (rfl : (pj lw).1 33 40 = some (.invokevirtual 148, 3, 37)) rfl rfl rfl (Nat.le_of_ble_eq_true rfl) (Nat.le_of_ble_eq_true rfl) ⟨rfl, rfl⟩
theorem w33_43i : W (pj lw) 33 43 (a::.val (.int y)::L) (.int x::S) k n H Q ↔ W (pj lw) 33 44 (a::.val (.int x)::L) S k n H Q := W_istn (rfl : (pj lw).1 33 43 = some (.istore_n 1, 1, 0)) rfl rfl
theorem w33_44 : W (pj lw) 33 44 (a::b::.val (.int x)::L) S k n H Q ↔ W (pj lw) 33 47 (a::b::.val (.int (x + 1))::L) S k n H Q := W_s rfl rfl rfl rfl
theorem w33_47 : W (pj lw) 33 47 L S k n H Q ↔ W (pj lw) 33 4 L S k n H Q := W_goto rfl rfl
theorem w33_50 : EW lw 33 50 51 (a::.val (.int x)::L) S (.int x::S) := ES rfl
theorem w33_51 : W (pj lw) 33 51 L (.int x::S) k n H Q ↔ Q (some (.int x)) H := W_r rfl rfl
theorem c34 {x0 : Nat} {x1 : Int32} : Cl (pj lw) 34 [.ref x0, .int x1] H Q ↔ W (pj lw) 34 0 [.val (.ref x0), .val (.int x1), .unset, .unset] [] 0 0 H Q := cl_unf rfl
theorem w34_0 : EW lw 34 0 1 (.val (.ref x)::L) S (.ref x::S) := ES rfl
theorem w34_1 : Zw2 lw 34 1 34 4 1 := W_getf (rfl : (pj lw).1 34 1 = some (.getfield 7, 3, 1))
theorem w34_4 : EW lw 34 4 5 (a::.val (.int x)::L) S (.int x::S) := ES rfl
theorem w34_5 : Zw8 lw 34 5 34 6 := W_iaload (len := 1) rfl
theorem w34_6 : W (pj lw) 34 6 (a::b::.unset::L) (.int x::S) k n H Q ↔ W (pj lw) 34 7 (a::b::.val (.int x)::L) S k n H Q := W_istn (rfl : (pj lw).1 34 6 = some (.istore_n 2, 1, 0)) rfl rfl
theorem w34_7 : EW lw 34 7 8 (.val (.ref x)::L) S (.ref x::S) := ES rfl
theorem w34_8 : Zw2 lw 34 8 34 11 2 := W_getf (rfl : (pj lw).1 34 8 = some (.getfield 13, 3, 2))
theorem w34_11 : EW lw 34 11 12 (a::.val (.int x)::L) S (.int x::S) := ES rfl
theorem w34_12 : Zw8 lw 34 12 34 13 := W_iaload (len := 1) rfl
theorem w34_13 : W (pj lw) 34 13 (a::b::c::.unset::L) (.int x::S) k n H Q ↔ W (pj lw) 34 14 (a::b::c::.val (.int x)::L) S k n H Q := W_istn (rfl : (pj lw).1 34 13 = some (.istore_n 3, 1, 0)) rfl rfl
theorem w34_14 : EW lw 34 14 15 (a::b::.val (.int x)::L) S (.int x::S) := ES rfl
theorem w34_15 : Zw10 lw 34 15 34 34 34 18 := W_if_lt (len := 3) rfl rfl
theorem w34_18 : EW lw 34 18 19 (a::b::.val (.int x)::L) S (.int x::S) := ES rfl
theorem w34_19 : EW lw 34 19 21 L S (.int 32::S) := ES rfl
theorem w34_21 : Zw0 lw 34 21 34 24 34 34 := W_icmp_ge (len := 3) rfl rfl
theorem w34_24 : EW lw 34 24 25 (a::b::c::.val (.int x)::L) S (.int x::S) := ES rfl
theorem w34_25 : Zw10 lw 34 25 34 34 34 28 := W_if_lt (len := 3) rfl rfl
theorem w34_28 : EW lw 34 28 29 (a::b::c::.val (.int x)::L) S (.int x::S) := ES rfl
theorem w34_29 : EW lw 34 29 31 L S (.int 32::S) := ES rfl
theorem w34_31 : Zw0 lw 34 31 34 36 34 34 := W_icmp_lt (len := 3) rfl rfl
theorem w34_34 : EW lw 34 34 35 L S (.int 0::S) := ES rfl
theorem w34_35 : Zw6 lw 34 35 := W_rz rfl rfl
theorem w34_36 : EW lw 34 36 37 (.val (.ref x)::L) S (.ref x::S) := ES rfl
theorem w34_37 : Zw2 lw 34 37 34 40 8 := W_getf (rfl : (pj lw).1 34 37 = some (.getfield 32, 3, 8))
theorem w34_40 : EW lw 34 40 41 (a::b::.val (.int x)::L) S (.int x::S) := ES rfl
theorem w34_41 : Zw7 lw 34 41 34 42 := W_baload (len := 1) rfl
theorem w34_42 : EW lw 34 42 43 (.val (.ref x)::L) S (.ref x::S) := ES rfl
theorem w34_43 : Zw2 lw 34 43 34 46 8 := W_getf (rfl : (pj lw).1 34 43 = some (.getfield 32, 3, 8))
theorem w34_46 : EW lw 34 46 47 (a::b::c::.val (.int x)::L) S (.int x::S) := ES rfl
theorem w34_47 : Zw7 lw 34 47 34 48 := W_baload (len := 1) rfl
theorem w34_48 : Zw5 lw 34 48 34 55 34 51 := W_icmp_eq (len := 3) rfl rfl
theorem w34_51 : EW lw 34 51 52 L S (.int 1::S) := ES rfl
theorem w34_52 : W (pj lw) 34 52 L S k n H Q ↔ W (pj lw) 34 56 L S k n H Q := W_goto rfl rfl
theorem w34_55 : EW lw 34 55 56 L S (.int 0::S) := ES rfl
theorem w34_56 : Zw6 lw 34 56 := W_rz rfl rfl
theorem c35 {x0 : Nat} {x1 : Int32} {x2 : Int32} : Cl (pj lw) 35 [.ref x0, .int x1, .int x2] H Q ↔ W (pj lw) 35 0 [.val (.ref x0), .val (.int x1), .val (.int x2)] [] 0 0 H Q := cl_unf rfl
theorem w35_0 : EW lw 35 0 1 (.val (.ref x)::L) S (.ref x::S) := ES rfl
theorem w35_1 : Zw2 lw 35 1 35 4 1 := W_getf (rfl : (pj lw).1 35 1 = some (.getfield 7, 3, 1))
theorem w35_4 : EW lw 35 4 5 (a::.val (.int x)::L) S (.int x::S) := ES rfl
theorem w35_5 : Zw8 lw 35 5 35 6 := W_iaload (len := 1) rfl
theorem w35_6 : EW lw 35 6 7 (a::b::.val (.int x)::L) S (.int x::S) := ES rfl
theorem w35_7 : Zw5 lw 35 7 35 10 35 17 := W_icmp_ne (len := 3) rfl rfl
theorem w35_10 : EW lw 35 10 11 (.val (.ref x)::L) S (.ref x::S) := ES rfl
theorem w35_11 : Zw2 lw 35 11 35 14 2 := W_getf (rfl : (pj lw).1 35 11 = some (.getfield 13, 3, 2))
theorem w35_14 : EW lw 35 14 15 (a::.val (.int x)::L) S (.int x::S) := ES rfl
theorem w35_15 : Zw8 lw 35 15 35 16 := W_iaload (len := 1) rfl
theorem w35_16 : W (pj lw) 35 16 L (.int x::S) k n H Q ↔ Q (some (.int x)) H := W_r rfl rfl
theorem w35_17 : EW lw 35 17 18 (.val (.ref x)::L) S (.ref x::S) := ES rfl
theorem w35_18 : Zw2 lw 35 18 35 21 2 := W_getf (rfl : (pj lw).1 35 18 = some (.getfield 13, 3, 2))
theorem w35_21 : EW lw 35 21 22 (a::.val (.int x)::L) S (.int x::S) := ES rfl
theorem w35_22 : Zw8 lw 35 22 35 23 := W_iaload (len := 1) rfl
theorem w35_23 : EW lw 35 23 24 (a::b::.val (.int x)::L) S (.int x::S) := ES rfl
theorem w35_24 : Zw5 lw 35 24 35 27 35 34 := W_icmp_ne (len := 3) rfl rfl
theorem w35_27 : EW lw 35 27 28 (.val (.ref x)::L) S (.ref x::S) := ES rfl
theorem w35_28 : Zw2 lw 35 28 35 31 1 := W_getf (rfl : (pj lw).1 35 28 = some (.getfield 7, 3, 1))
theorem w35_31 : EW lw 35 31 32 (a::.val (.int x)::L) S (.int x::S) := ES rfl
theorem w35_32 : Zw8 lw 35 32 35 33 := W_iaload (len := 1) rfl
theorem w35_33 : W (pj lw) 35 33 L (.int x::S) k n H Q ↔ Q (some (.int x)) H := W_r rfl rfl
theorem w35_34 : EW lw 35 34 35 L S (.int (-1)::S) := ES rfl
theorem w35_35 : W (pj lw) 35 35 L (.int x::S) k n H Q ↔ Q (some (.int x)) H := W_r rfl rfl
theorem c36 {x0 : Nat} {x1 : Int32} {x2 : Int32} : Cl (pj lw) 36 [.ref x0, .int x1, .int x2] H Q ↔ W (pj lw) 36 0 [.val (.ref x0), .val (.int x1), .val (.int x2)] [] 0 0 H Q := cl_unf rfl
theorem w36_0 : EW lw 36 0 1 (.val (.ref x)::L) S (.ref x::S) := ES rfl
theorem w36_1 : Zw2 lw 36 1 36 4 3 := W_getf (rfl : (pj lw).1 36 1 = some (.getfield 16, 3, 3))
theorem w36_4 : EW lw 36 4 5 (a::.val (.int x)::L) S (.int x::S) := ES rfl
theorem w36_5 : Zw8 lw 36 5 36 6 := W_iaload (len := 1) rfl
theorem w36_6 : EW lw 36 6 7 (.val (.ref x)::L) S (.ref x::S) := ES rfl
theorem w36_7 : Zw2 lw 36 7 36 10 3 := W_getf (rfl : (pj lw).1 36 7 = some (.getfield 16, 3, 3))
theorem w36_10 : EW lw 36 10 11 (a::b::.val (.int x)::L) S (.int x::S) := ES rfl
theorem w36_11 : Zw8 lw 36 11 36 12 := W_iaload (len := 1) rfl
theorem w36_12 : Zw5 lw 36 12 36 36 36 15 := W_icmp_eq (len := 3) rfl rfl
theorem w36_15 : EW lw 36 15 16 (.val (.ref x)::L) S (.ref x::S) := ES rfl
theorem w36_16 : Zw2 lw 36 16 36 19 3 := W_getf (rfl : (pj lw).1 36 16 = some (.getfield 16, 3, 3))
theorem w36_19 : EW lw 36 19 20 (a::.val (.int x)::L) S (.int x::S) := ES rfl
theorem w36_20 : Zw8 lw 36 20 36 21 := W_iaload (len := 1) rfl
theorem w36_21 : EW lw 36 21 22 (.val (.ref x)::L) S (.ref x::S) := ES rfl
theorem w36_22 : Zw2 lw 36 22 36 25 3 := W_getf (rfl : (pj lw).1 36 22 = some (.getfield 16, 3, 3))
theorem w36_25 : EW lw 36 25 26 (a::b::.val (.int x)::L) S (.int x::S) := ES rfl
theorem w36_26 : Zw8 lw 36 26 36 27 := W_iaload (len := 1) rfl
theorem w36_27 : Zw0 lw 36 27 36 30 36 34 := W_icmp_ge (len := 3) rfl rfl
theorem w36_30 : EW lw 36 30 31 L S (.int 1::S) := ES rfl
theorem w36_31 : W (pj lw) 36 31 L S k n H Q ↔ W (pj lw) 36 35 L S k n H Q := W_goto rfl rfl
theorem w36_34 : EW lw 36 34 35 L S (.int 0::S) := ES rfl
theorem w36_35 : Zw6 lw 36 35 := W_rz rfl rfl
theorem w36_36 : EW lw 36 36 37 (a::.val (.int x)::L) S (.int x::S) := ES rfl
theorem w36_37 : EW lw 36 37 38 (a::b::.val (.int x)::L) S (.int x::S) := ES rfl
theorem w36_38 : Zw0 lw 36 38 36 41 36 45 := W_icmp_ge (len := 3) rfl rfl
theorem w36_41 : EW lw 36 41 42 L S (.int 1::S) := ES rfl
theorem w36_42 : W (pj lw) 36 42 L S k n H Q ↔ W (pj lw) 36 46 L S k n H Q := W_goto rfl rfl
theorem w36_45 : EW lw 36 45 46 L S (.int 0::S) := ES rfl
theorem w36_46 : Zw6 lw 36 46 := W_rz rfl rfl
theorem c37 {x0 : Nat} {x1 : Int32} {x2 : Int32} : Cl (pj lw) 37 [.ref x0, .int x1, .int x2] H Q ↔ W (pj lw) 37 0 [.val (.ref x0), .val (.int x1), .val (.int x2)] [] 0 0 H Q := cl_unf rfl
theorem w37_0 : EW lw 37 0 1 (a::.val (.int x)::L) S (.int x::S) := ES rfl
theorem w37_1 : EW lw 37 1 2 L S (.int (-1)::S) := ES rfl
theorem w37_2 : Zw5 lw 37 2 37 5 37 7 := W_icmp_ne (len := 3) rfl rfl
theorem w37_5 : EW lw 37 5 6 (a::b::.val (.int x)::L) S (.int x::S) := ES rfl
theorem w37_6 : W (pj lw) 37 6 L (.int x::S) k n H Q ↔ Q (some (.int x)) H := W_r rfl rfl
theorem w37_7 : EW lw 37 7 8 (a::b::.val (.int x)::L) S (.int x::S) := ES rfl
theorem w37_8 : EW lw 37 8 9 L S (.int (-1)::S) := ES rfl
theorem w37_9 : Zw5 lw 37 9 37 12 37 14 := W_icmp_ne (len := 3) rfl rfl
theorem w37_12 : EW lw 37 12 13 (a::.val (.int x)::L) S (.int x::S) := ES rfl
theorem w37_13 : W (pj lw) 37 13 L (.int x::S) k n H Q ↔ Q (some (.int x)) H := W_r rfl rfl
theorem w37_14 : EW lw 37 14 15 (.val (.ref x)::L) S (.ref x::S) := ES rfl
theorem w37_15 : EW lw 37 15 16 (a::.val (.int x)::L) S (.int x::S) := ES rfl
theorem w37_16 : EW lw 37 16 17 (a::b::.val (.int x)::L) S (.int x::S) := ES rfl
theorem w37_17 : W (pj lw) 37 17 L (.int x1::.int x0::.ref a::S) k n H Q ↔ ((isO H a = true ∧ cs S + (3 + 11) + 0 ≤ 14) ∧ Cl (pj lw) 36 [.ref a, .int x0, .int x1] H (fun v H => W (pj lw) 37 20 L (v.toList ++ S) k n H Q)) := W_inst (as := [.int x0, .int x1]) (rfl : (pj lw).1 37 17 = some (.invokevirtual 122, 3, 36)) rfl rfl rfl (Nat.le_of_ble_eq_true rfl) (Nat.le_of_ble_eq_true rfl) ⟨rfl, rfl⟩
theorem w37_20 : Zw4 lw 37 20 37 25 37 23 := W_if_eq (len := 3) rfl rfl
theorem w37_23 : EW lw 37 23 24 (a::.val (.int x)::L) S (.int x::S) := ES rfl
theorem w37_24 : W (pj lw) 37 24 L (.int x::S) k n H Q ↔ Q (some (.int x)) H := W_r rfl rfl
theorem w37_25 : EW lw 37 25 26 (a::b::.val (.int x)::L) S (.int x::S) := ES rfl
theorem w37_26 : W (pj lw) 37 26 L (.int x::S) k n H Q ↔ Q (some (.int x)) H := W_r rfl rfl
theorem c38 {x0 : Nat} {x1 : Int32} {x2 : Int32} : Cl (pj lw) 38 [.ref x0, .int x1, .int x2] H Q ↔ W (pj lw) 38 0 [.val (.ref x0), .val (.int x1), .val (.int x2)] [] 0 0 H Q := cl_unf rfl
theorem w38_0 : EW lw 38 0 1 (a::.val (.int x)::L) S (.int x::S) := ES rfl
theorem w38_1 : EW lw 38 1 2 L S (.int (-1)::S) := ES rfl
theorem w38_2 : Zw5 lw 38 2 38 5 38 7 := W_icmp_ne (len := 3) rfl rfl
theorem w38_5 : EW lw 38 5 6 (a::b::.val (.int x)::L) S (.int x::S) := ES rfl
theorem w38_6 : W (pj lw) 38 6 L (.int x::S) k n H Q ↔ Q (some (.int x)) H := W_r rfl rfl
theorem w38_7 : EW lw 38 7 8 (a::b::.val (.int x)::L) S (.int x::S) := ES rfl
theorem w38_8 : EW lw 38 8 9 L S (.int (-1)::S) := ES rfl
theorem w38_9 : Zw5 lw 38 9 38 12 38 14 := W_icmp_ne (len := 3) rfl rfl
theorem w38_12 : EW lw 38 12 13 (a::.val (.int x)::L) S (.int x::S) := ES rfl
theorem w38_13 : W (pj lw) 38 13 L (.int x::S) k n H Q ↔ Q (some (.int x)) H := W_r rfl rfl
theorem w38_14 : EW lw 38 14 15 (.val (.ref x)::L) S (.ref x::S) := ES rfl
theorem w38_15 : EW lw 38 15 16 (a::.val (.int x)::L) S (.int x::S) := ES rfl
theorem w38_16 : EW lw 38 16 17 (a::b::.val (.int x)::L) S (.int x::S) := ES rfl
theorem w38_17 : W (pj lw) 38 17 L (.int x1::.int x0::.ref a::S) k n H Q ↔ ((isO H a = true ∧ cs S + (3 + 11) + 0 ≤ 14) ∧ Cl (pj lw) 36 [.ref a, .int x0, .int x1] H (fun v H => W (pj lw) 38 20 L (v.toList ++ S) k n H Q)) := W_inst (as := [.int x0, .int x1]) (rfl : (pj lw).1 38 17 = some (.invokevirtual 122, 3, 36)) rfl rfl rfl (Nat.le_of_ble_eq_true rfl) (Nat.le_of_ble_eq_true rfl) ⟨rfl, rfl⟩
theorem w38_20 : Zw4 lw 38 20 38 25 38 23 := W_if_eq (len := 3) rfl rfl
theorem w38_23 : EW lw 38 23 24 (a::b::.val (.int x)::L) S (.int x::S) := ES rfl
theorem w38_24 : W (pj lw) 38 24 L (.int x::S) k n H Q ↔ Q (some (.int x)) H := W_r rfl rfl
theorem w38_25 : EW lw 38 25 26 (a::.val (.int x)::L) S (.int x::S) := ES rfl
theorem w38_26 : W (pj lw) 38 26 L (.int x::S) k n H Q ↔ Q (some (.int x)) H := W_r rfl rfl
theorem c39 {x0 : Nat} {x1 : Int32} : Cl (pj lw) 39 [.ref x0, .int x1] H Q ↔ W (pj lw) 39 0 [.val (.ref x0), .val (.int x1)] [] 0 0 H Q := cl_unf rfl
theorem w39_0 : EW lw 39 0 1 (a::.val (.int x)::L) S (.int x::S) := ES rfl
theorem w39_1 : Zw10 lw 39 1 39 22 39 4 := W_if_lt (len := 3) rfl rfl
theorem w39_4 : EW lw 39 4 5 (a::.val (.int x)::L) S (.int x::S) := ES rfl
theorem w39_5 : EW lw 39 5 6 (.val (.ref x)::L) S (.ref x::S) := ES rfl
theorem w39_6 : Zw2 lw 39 6 39 9 0 := W_getf (rfl : (pj lw).1 39 6 = some (.getfield 44, 3, 0))
theorem w39_9 : Zw0 lw 39 9 39 12 39 22 := W_icmp_ge (len := 3) rfl rfl
theorem w39_12 : EW lw 39 12 13 (a::.val (.int x)::L) S (.int x::S) := ES rfl
theorem w39_13 : EW lw 39 13 15 L S (.int 32::S) := ES rfl
theorem w39_15 : Zw0 lw 39 15 39 18 39 22 := W_icmp_ge (len := 3) rfl rfl
theorem w39_18 : EW lw 39 18 19 L S (.int 1::S) := ES rfl
theorem w39_19 : W (pj lw) 39 19 L S k n H Q ↔ W (pj lw) 39 23 L S k n H Q := W_goto rfl rfl
theorem w39_22 : EW lw 39 22 23 L S (.int 0::S) := ES rfl
theorem w39_23 : Zw6 lw 39 23 := W_rz rfl rfl
theorem c40 {x0 : Nat} {x1 : Int32} : Cl (pj lw) 40 [.ref x0, .int x1] H Q ↔ W (pj lw) 40 0 [.val (.ref x0), .val (.int x1)] [] 0 0 H Q := cl_unf rfl
theorem w40_0 : EW lw 40 0 1 (a::.val (.int x)::L) S (.int x::S) := ES rfl
theorem w40_1 : Zw10 lw 40 1 40 15 40 4 := W_if_lt (len := 3) rfl rfl
theorem w40_4 : EW lw 40 4 5 (a::.val (.int x)::L) S (.int x::S) := ES rfl
theorem w40_5 : EW lw 40 5 8 L S (.int 128::S) := ES rfl
theorem w40_8 : Zw0 lw 40 8 40 11 40 15 := W_icmp_ge (len := 3) rfl rfl
theorem w40_11 : EW lw 40 11 12 L S (.int 1::S) := ES rfl
theorem w40_12 : W (pj lw) 40 12 L S k n H Q ↔ W (pj lw) 40 16 L S k n H Q := W_goto rfl rfl
theorem w40_15 : EW lw 40 15 16 L S (.int 0::S) := ES rfl
theorem w40_16 : Zw6 lw 40 16 := W_rz rfl rfl
theorem c41 {x0 : Nat} {x1 : Int32} : Cl (pj lw) 41 [.ref x0, .int x1] H Q ↔ W (pj lw) 41 0 [.val (.ref x0), .val (.int x1)] [] 0 0 H Q := cl_unf rfl
theorem w41_0 : EW lw 41 0 1 (a::.val (.int x)::L) S (.int x::S) := ES rfl
theorem w41_1 : EW lw 41 1 3 L S (.int (-1000000)::S) := ES rfl
theorem w41_3 : Zw0 lw 41 3 41 6 41 9 := W_icmp_ge (len := 3) rfl rfl
theorem w41_6 : EW lw 41 6 8 L S (.int (-1000000)::S) := ES rfl
theorem w41_8 : W (pj lw) 41 8 L (.int x::S) k n H Q ↔ Q (some (.int x)) H := W_r rfl rfl
theorem w41_9 : EW lw 41 9 10 (a::.val (.int x)::L) S (.int x::S) := ES rfl
theorem w41_10 : EW lw 41 10 12 L S (.int 1000000::S) := ES rfl
theorem w41_12 : Zw1 lw 41 12 41 15 41 18 := W_icmp_le (len := 3) rfl rfl
theorem w41_15 : EW lw 41 15 17 L S (.int 1000000::S) := ES rfl
theorem w41_17 : W (pj lw) 41 17 L (.int x::S) k n H Q ↔ Q (some (.int x)) H := W_r rfl rfl
theorem w41_18 : EW lw 41 18 19 (a::.val (.int x)::L) S (.int x::S) := ES rfl
theorem w41_19 : W (pj lw) 41 19 L (.int x::S) k n H Q ↔ Q (some (.int x)) H := W_r rfl rfl
end Pc
section A
variable {lw : LW} {H : AH} {p j : Nat} {s : St} {Q : Option Value → AH → Prop} {a b c d : Int32} {h : Nat → Cel} {k n : Nat}
def F2 (s : St) (lo : Nat) : St := fA (fA (fA (fA s 8 lo 32 0) 9 lo 32 (-1)) 10 lo 32 (-1)) 11 lo 32 0
theorem F2_nil {lo : Nat} (h : 32 ≤ lo) : F2 s lo = s := by simp only [F2, fA_nil h]
theorem F2_step {lo : Nat} (h : lo < 32) : F2 (uA (uA (uA (uA s 8 lo 0) 9 lo (-1)) 10 lo (-1)) 11 lo 0) (lo + 1) = F2 s lo := by
  refine St_ext (fun k => by simp only [F2, sI_fA, sI_uA]) (fun k => by simp only [F2, sJ_fA, sJ_uA]) (fun t' i => ?_) (fun t' i => by simp only [F2, sB_fA, sB_uA])
  simp only [F2, sA_fA, sA_uA]
  by_cases hi : i = lo
  · subst hi
    have h1 : ¬ (i + 1 ≤ i) := by omega
    simp only [h1, h, Nat.le_refl, and_true, and_false, true_and, false_and, if_false]
  · have h1 : (lo + 1 ≤ i) = (lo ≤ i) := propext ⟨fun _ => by omega, fun _ => by omega⟩
    simp only [hi, h1, and_false, if_false]
theorem l29 (m : Nat) : ∀ (i : Int32) (s : St), i.toInt = 32 - m → m ≤ 32 → (W (pj lw) 29 2 [.val (.ref p), .val (.int i)] [] k n (ob H p s) Q ↔ Q none (ob H p (F2 s i.toNatClampNeg))) := by
  induction m with
  | zero =>
    intro i s hi _
    have h1 : ¬ i < 32 := by rw [lt32]; simp only [Int32.reduceToInt]; omega
    rw [w29_2]; simp +decide only [w29_3, w29_5, w29_42, ↓reduceIte, h1]
    rw [F2_nil (by rw [cln]; omega)]
  | succ m ih =>
    intro i s hi hm
    have h1 : i < 32 := by rw [lt32]; simp only [Int32.reduceToInt]; omega
    have h2 : (i + 1).toInt = i.toInt + 1 := ia (by simp only [Int32.reduceToInt]; omega) (by simp only [Int32.reduceToInt]; omega)
    have h3 : 0 ≤ i.toInt ∧ i.toInt < 32 := by omega
    rw [w29_2]; simp +decide only [w29_3, w29_5, w29_8, w29_9, w29_12, w29_13, w29_14, w29_15, w29_16, w29_19, w29_20, w29_21, w29_22, w29_23, w29_26, w29_27, w29_28, w29_29, w29_30, w29_33, w29_34, w29_35, w29_36, w29_39, isO_put, true_and, and_true, or_true, ↓reduceIte, g8, g9, g10, g11, aw8, awn8, as8, aw9, as9, aw10, as10, aw11, as11, h1, h3]
    rw [ih (i + 1) _ (by omega) (by omega)]
    have h4 : (i + 1).toNatClampNeg = i.toNatClampNeg + 1 := by rw [cln, cln]; omega
    rw [h4, F2_step (by rw [cln]; omega)]
theorem t29 : Cl (pj lw) 29 [.ref p] (ob H p s) Q ↔ Q none (ob H p (F2 s 0)) := by
  rw [c29]; simp +decide only [w29_0, w29_1]
  rw [l29 32 0 _ (by decide) (by decide)]; simp only [Int32.reduceToNatClampNeg]
theorem l1 (m : Nat) : ∀ (i : Int32) (s : St), i.toInt = 32 - m → m ≤ 32 → (W (pj lw) 1 148 [.val (.ref p), .val (.int a), .val (.int b), .val (.int i)] [] k n (ob H p s) Q ↔ W (pj lw) 1 167 [.val (.ref p), .val (.int a), .val (.int b), .val (.int 32)] [] k n (ob H p (fA s 7 i.toNatClampNeg 32 0)) Q) := by
  induction m with
  | zero =>
    intro i s hi _
    have h1 : ¬ i < 32 := by rw [lt32]; simp only [Int32.reduceToInt]; omega
    have h0 : i = 32 := by rw [eq32]; simp only [Int32.reduceToInt]; omega
    rw [w1_148]; simp +decide only [w1_149, w1_151, ↓reduceIte, h1]
    rw [fA_nil (by rw [cln]; omega), h0]
  | succ m ih =>
    intro i s hi hm
    have h1 : i < 32 := by rw [lt32]; simp only [Int32.reduceToInt]; omega
    have h2 : (i + 1).toInt = i.toInt + 1 := ia (by simp only [Int32.reduceToInt]; omega) (by simp only [Int32.reduceToInt]; omega)
    have h3 : 0 ≤ i.toInt ∧ i.toInt < 32 := by omega
    rw [w1_148]; simp +decide only [w1_149, w1_151, w1_154, w1_155, w1_158, w1_159, w1_160, w1_161, w1_164, isO_put, true_and, and_true, ↓reduceIte, g7, aw7, as7, h1, h3]
    rw [ih (i + 1) _ (by omega) (by omega)]
    have h4 : (i + 1).toNatClampNeg = i.toNatClampNeg + 1 := by rw [cln, cln]; omega
    rw [h4, fA_step (by rw [cln]; omega)]
def ini0 (a : Int32) : St := F2 (fA (uI (uI (uJ (uI (uI (uI z0 0 (cl 2 32 a)) 12 0) 13 0) 14 0) 15 (-1)) 16 (-1)) 7 0 32 0) 0
set_option maxRecDepth 100000 in
theorem t1 : Cl (pj lw) 1 [.ref p, .int a] (put lay 0 (p + 1, h) p z0) Q ↔ Q none (ob (p + 12, h) p (ini0 a)) := by
  rw [c1]
  rcases cl3 (lo := 2) (hi := 32) a (by decide) with ⟨h1, h2⟩ | ⟨h1, h2⟩ | ⟨h1, h2⟩ <;>
  · simp +decide only [w1_0, w1_1, w1_4, w1_5, w1_8, w1_10, w1_13, w1_14, w1_17, w1_19, w1_22, w1_23, w1_26, w1_28, w1_31, w1_32, w1_35, w1_37, w1_40, w1_41, w1_44, w1_46, w1_49, w1_50, w1_53, w1_55, w1_58, w1_59, w1_61, w1_63, w1_66, w1_67, w1_69, w1_71, w1_74, w1_75, w1_77, w1_79, w1_82, w1_83, w1_85, w1_87, w1_90, w1_91, w1_93, w1_95, w1_98, w1_99, w1_100, w1_101, w1_102, w1_105, w1_106i, w1_107, w1_108, w1_110, w1_113, w1_115i, w1_116, w1_117, w1_118, w1_121, w1_122, w1_123, w1_126, w1_127, w1_128, w1_131, w1_132, w1_133, w1_136, w1_137, w1_138, w1_141, w1_142, w1_143, w1_146, w1_147, zr_z0, isOw_put, put_fst, okv_int, okv_ref, true_and, and_true, ↓reduceIte, Nat.reduceAdd, Int32.reduceAdd, Int64.reduceAdd, Nat.zero_add, s0, s12, s13, s14, s15, s16, mk1, io1, mk2, io2, mk3, io3, mk4, io4, mk5, io5, mk6, io6, mk7, io7, mk8, io8, mk9, io9, mk10, io10, mk11, io11, h1, h2]
    rw [l1 32 0 _ (by decide) (by decide)]
    simp +decide only [w1_167, w1_168, w1_171, isO_put, Option.toList_none, List.nil_append, true_and, and_true, ↓reduceIte, Int32.reduceToNatClampNeg, t29, ini0, cl, h1, h2]
theorem t41 : Cl (pj lw) 41 [.ref p, .int a] H Q ↔ Q (some (.int (cl (-1000000) 1000000 a))) H := by
  rw [c41]
  rcases cl3 (lo := -1000000) (hi := 1000000) a (by decide) with ⟨h1, h2⟩ | ⟨h1, h2⟩ | ⟨h1, h2⟩ <;> simp +decide only [w41_0, w41_1, w41_3, w41_6, w41_8, w41_9, w41_10, w41_12, w41_15, w41_17, w41_18, w41_19, ↓reduceIte, h1, h2, cl]
end A

section B
variable {lw : LW} {H : AH} {p j : Nat} {s s' : St} {Q : Option Value → AH → Prop} {a b c d e x y t : Int32} {k n : Nat}
def bz (x : Bool) : Int32 := if x = true then 1 else 0
def vv (s : St) (a : Int32) : Bool := decide (¬ a < 0 ∧ a < sI s 0 ∧ a < 32)
def vi (a : Int32) : Bool := decide (¬ a < 0 ∧ a < 128)
theorem vi_rg (h : vi a = true) : 0 ≤ a.toInt ∧ a.toInt < 128 := by
  have := of_decide_eq_true h
  rw [lt32, lt32] at this; simp only [Int32.reduceToInt] at this; omega
theorem vi_t (h : 0 ≤ a.toInt ∧ a.toInt < 128) : vi a = true := by
  refine decide_eq_true ?_
  rw [lt32, lt32]; simp only [Int32.reduceToInt]; omega
theorem vv_t (h : 0 ≤ a.toInt ∧ a.toInt < (sI s 0).toInt) (hn : (sI s 0).toInt ≤ 32) : vv s a = true := by
  refine decide_eq_true ?_
  rw [lt32, lt32, lt32]; simp only [Int32.reduceToInt]; omega
theorem vv_rg (h : vv s a = true) : (0 ≤ a.toInt ∧ a.toInt < (sI s 0).toInt) ∧ a.toInt < 32 := by
  have := of_decide_eq_true h
  rw [lt32, lt32, lt32] at this; simp only [Int32.reduceToInt] at this; omega
theorem t39 : Cl (pj lw) 39 [.ref p, .int a] (ob H p s) Q ↔ Q (some (.int (bz (vv s a)))) (ob H p s) := by
  rw [c39]; unfold vv
  by_cases e1 : a < 0
  · simp +decide only [w39_0, w39_1, w39_22, w39_23, true_and, false_and, not_true_eq_false, ↓reduceIte, e1, bz]
  · by_cases e2 : a < sI s 0
    · by_cases e3 : a < 32 <;> simp +decide only [w39_0, w39_1, w39_4, w39_5, w39_6, w39_9, w39_12, w39_13, w39_15, w39_18, w39_19, w39_22, w39_23, isO_put, true_and, and_true, and_false, not_false_eq_true, ↓reduceIte, g0, e1, e2, e3, bz]
    · simp +decide only [w39_0, w39_1, w39_4, w39_5, w39_6, w39_9, w39_22, w39_23, isO_put, true_and, false_and, and_false, not_false_eq_true, ↓reduceIte, g0, e1, e2, bz]
theorem t40 : Cl (pj lw) 40 [.ref p, .int a] H Q ↔ Q (some (.int (bz (vi a)))) H := by
  rw [c40]; unfold vi
  by_cases e1 : a < 0
  · simp +decide only [w40_0, w40_1, w40_15, w40_16, true_and, false_and, not_true_eq_false, ↓reduceIte, e1, bz]
  · by_cases e3 : a < 128 <;> simp +decide only [w40_0, w40_1, w40_4, w40_5, w40_8, w40_11, w40_12, w40_15, w40_16, true_and, and_true, and_false, not_false_eq_true, ↓reduceIte, e1, e3, bz]
def pr (s : St) (a : Int32) : Bool := vi a && decide (sA s 4 a.toNatClampNeg ≠ 0)
theorem t5 : Cl (pj lw) 5 [.ref p, .int a] (ob H p s) Q ↔ Q (some (.int (bz (pr s a)))) (ob H p s) := by
  rw [c5]; unfold pr
  cases e1 : vi a with
  | false => simp +decide only [w5_0, w5_1, w5_2, w5_5, w5_21, w5_22, isO_put, Option.toList_some, List.cons_append, List.nil_append, true_and, and_true, false_and, ↓reduceIte, ne_eq, t40, e1, bz, Bool.false_and]
  | true =>
    have h := vi_rg e1
    by_cases e2 : sA s 4 a.toNatClampNeg = 0 <;> simp +decide only [w5_0, w5_1, w5_2, w5_5, w5_8, w5_9, w5_12, w5_13, w5_14, w5_17, w5_18, w5_21, w5_22, isO_put, Option.toList_some, List.cons_append, List.nil_append, true_and, and_true, or_true, not_false_eq_true, ↓reduceIte, ne_eq, g4, ai4, ain4, ae4, ain4, t40, e1, h, e2, bz]
def tr (s : St) (a : Int32) : Bool := vi a && (decide (sA s 4 a.toNatClampNeg ≠ 0) && decide (sA s 5 a.toNatClampNeg ≠ 0))
theorem t6 : Cl (pj lw) 6 [.ref p, .int a] (ob H p s) Q ↔ Q (some (.int (bz (tr s a)))) (ob H p s) := by
  rw [c6]; unfold tr
  cases e1 : vi a with
  | false => simp +decide only [w6_0, w6_1, w6_2, w6_5, w6_30, w6_31, isO_put, Option.toList_some, List.cons_append, List.nil_append, true_and, and_true, false_and, ↓reduceIte, ne_eq, t40, e1, bz, Bool.false_and]
  | true =>
    have h := vi_rg e1
    by_cases e2 : sA s 4 a.toNatClampNeg = 0
    · simp +decide only [w6_0, w6_1, w6_2, w6_5, w6_8, w6_9, w6_12, w6_13, w6_14, w6_30, w6_31, isO_put, Option.toList_some, List.cons_append, List.nil_append, true_and, and_true, false_and, and_false, or_true, ↓reduceIte, ne_eq, g4, ai4, ain4, ae4, ain4, t40, e1, h, e2, bz, decide_false, Bool.false_and, Bool.and_false, Bool.true_and]
    · by_cases e3 : sA s 5 a.toNatClampNeg = 0 <;> simp +decide only [w6_0, w6_1, w6_2, w6_5, w6_8, w6_9, w6_12, w6_13, w6_14, w6_17, w6_18, w6_21, w6_22, w6_23, w6_26, w6_27, w6_30, w6_31, isO_put, Option.toList_some, List.cons_append, List.nil_append, true_and, and_true, or_true, not_false_eq_true, ↓reduceIte, ne_eq, g4, g5, ai4, ain4, ae4, ai5, ain5, ae5, ain4, ain5, t40, e1, h, e2, e3, bz]
theorem t7a : Cl (pj lw) 7 [.ref p, .int a, .int 0] (ob H p s) Q ↔ Q (some (.int (if pr s a = true then sA s 1 a.toNatClampNeg else -1))) (ob H p s) := by
  rw [c7]
  cases e1 : pr s a with
  | false => simp +decide only [w7_0, w7_1, w7_2, w7_5, w7_8, w7_9, isO_put, Option.toList_some, List.cons_append, List.nil_append, true_and, and_true, ↓reduceIte, t5, e1, bz]
  | true =>
    have h : 0 ≤ a.toInt ∧ a.toInt < 128 := by
      unfold pr at e1; rw [Bool.and_eq_true] at e1; exact vi_rg e1.1
    simp +decide only [w7_0, w7_1, w7_2, w7_5, w7_10, w7_11, w7_14, w7_15, w7_18, w7_19, w7_20, isO_put, Option.toList_some, List.cons_append, List.nil_append, true_and, and_true, ↓reduceIte, g1, ai1, ae1, t5, e1, h, bz]
theorem t7b : Cl (pj lw) 7 [.ref p, .int a, .int 1] (ob H p s) Q ↔ Q (some (.int (if pr s a = true then sA s 2 a.toNatClampNeg else -1))) (ob H p s) := by
  rw [c7]
  cases e1 : pr s a with
  | false => simp +decide only [w7_0, w7_1, w7_2, w7_5, w7_8, w7_9, isO_put, Option.toList_some, List.cons_append, List.nil_append, true_and, and_true, ↓reduceIte, t5, e1, bz]
  | true =>
    have h : 0 ≤ a.toInt ∧ a.toInt < 128 := by
      unfold pr at e1; rw [Bool.and_eq_true] at e1; exact vi_rg e1.1
    simp +decide only [w7_0, w7_1, w7_2, w7_5, w7_10, w7_11, w7_21, w7_22, w7_23, w7_26, w7_27, w7_30, w7_31, w7_32, isO_put, Option.toList_some, List.cons_append, List.nil_append, true_and, and_true, ↓reduceIte, g2, ai2, ae2, t5, e1, h, bz]
def ew (s : St) (a : Int32) : Int32 := if pr s a = true then sA s 3 a.toNatClampNeg else 0
theorem t8 : Cl (pj lw) 8 [.ref p, .int a] (ob H p s) Q ↔ Q (some (.int (ew s a))) (ob H p s) := by
  rw [c8]; unfold ew
  cases e1 : pr s a with
  | false => simp +decide only [w8_0, w8_1, w8_2, w8_5, w8_8, w8_9, isO_put, Option.toList_some, List.cons_append, List.nil_append, true_and, and_true, ↓reduceIte, t5, e1, bz]
  | true =>
    have h : 0 ≤ a.toInt ∧ a.toInt < 128 := by
      unfold pr at e1; rw [Bool.and_eq_true] at e1; exact vi_rg e1.1
    simp +decide only [w8_0, w8_1, w8_2, w8_5, w8_10, w8_11, w8_14, w8_15, w8_16, isO_put, Option.toList_some, List.cons_append, List.nil_append, true_and, and_true, ↓reduceIte, g3, ai3, ae3, t5, e1, h, bz]
theorem l22 {f : Nat} (hf : f < 128) (h0 : sA s 4 f = 0) (h1 : ∀ i, i < f → sA s 4 i ≠ 0) (m : Nat) : ∀ (i : Int32), i.toInt = (f : Int) - m → m ≤ f →
    (W (pj lw) 22 2 [.val (.ref p), .val (.int i)] [] k n (ob H p s) Q ↔ Q (some (.int (Int32.ofNat f))) (ob H p s)) := by
  have hF : (Int32.ofNat f).toInt = f := Int32.toInt_ofNat_of_lt (by omega)
  induction m with
  | zero =>
    intro i hi _
    have e : i = Int32.ofNat f := by rw [eq32]; omega
    have h2 : i < 128 := by rw [lt32]; simp only [Int32.reduceToInt]; omega
    have h3 : 0 ≤ i.toInt ∧ i.toInt < 128 := by omega
    have h4 : sA s 4 i.toNatClampNeg = 0 := by rw [cln, show i.toInt.toNat = f by omega]; exact h0
    rw [w22_2]; simp +decide only [w22_3, w22_6, w22_9, w22_10, w22_13, w22_14, w22_15, w22_18, w22_19, isO_put, true_and, and_true, or_true, ↓reduceIte, g4, ai4, ain4, ae4, ain4, h2, h3, h4]; rw [e]
  | succ m ih =>
    intro i hi hm
    have h2 : i < 128 := by rw [lt32]; simp only [Int32.reduceToInt]; omega
    have h3 : 0 ≤ i.toInt ∧ i.toInt < 128 := by omega
    have h4 : ¬ sA s 4 i.toNatClampNeg = 0 := by rw [cln]; exact h1 _ (by omega)
    have h5 : (i + 1).toInt = i.toInt + 1 := ia (by simp only [Int32.reduceToInt]; omega) (by simp only [Int32.reduceToInt]; omega)
    rw [w22_2]; simp +decide only [w22_3, w22_6, w22_9, w22_10, w22_13, w22_14, w22_15, w22_20, w22_23, isO_put, true_and, and_true, or_true, ↓reduceIte, g4, ai4, ain4, ae4, ain4, h2, h3, h4]
    exact ih (i + 1) (by omega) (by omega)
theorem t22 {f : Nat} (hf : f < 128) (h0 : sA s 4 f = 0) (h1 : ∀ i, i < f → sA s 4 i ≠ 0) : Cl (pj lw) 22 [.ref p] (ob H p s) Q ↔ Q (some (.int (Int32.ofNat f))) (ob H p s) := by
  rw [c22]; simp +decide only [w22_0, w22_1]
  exact l22 hf h0 h1 f 0 (by simp only [Int32.reduceToInt]; omega) (Nat.le_refl _)
def stE (s : St) (a b c d : Int32) : St := uI (uA (uA (uA (uA (uA s 1 a.toNatClampNeg b) 2 a.toNatClampNeg c) 3 a.toNatClampNeg d) 4 a.toNatClampNeg 1) 5 a.toNatClampNeg 0) 12 (sI s 12 + 1)
theorem t23 (ha : 0 ≤ a.toInt ∧ a.toInt < 128) : Cl (pj lw) 23 [.ref p, .int a, .int b, .int c, .int d] (ob H p s) Q ↔ Q none (ob H p (stE s a b c d)) := by
  rw [c23]; unfold stE; simp +decide only [w23_0, w23_1, w23_4, w23_5, w23_6, w23_7, w23_8, w23_11, w23_12, w23_13, w23_14, w23_15, w23_18, w23_19, w23_21, w23_22, w23_23, w23_26, w23_27, w23_28, w23_29, w23_30, w23_33, w23_34, w23_35, w23_36, w23_37, w23_38, w23_41, w23_42, w23_43, w23_46, isO_put, isOw_put, okv_int, sI_uA, true_and, and_true, or_true, g1, g2, g3, g4, g5, g12, s12, aw1, as1, aw2, as2, aw3, as3, aw4, awn4, as4, aw5, awn5, as5, awn4, awn5, ha]
def frS (s : St) (a : Int32) : St := uI (uA (uA s 4 a.toNatClampNeg 0) 5 a.toNatClampNeg 0) 12 (sI s 12 - 1)
theorem t24 (ha : 0 ≤ a.toInt ∧ a.toInt < 128) : Cl (pj lw) 24 [.ref p, .int a] (ob H p s) Q ↔ Q none (ob H p (frS s a)) := by
  rw [c24]; unfold frS; simp +decide only [w24_0, w24_1, w24_4, w24_5, w24_6, w24_7, w24_8, w24_11, w24_12, w24_13, w24_14, w24_15, w24_16, w24_19, w24_20, w24_21, w24_24, isO_put, isOw_put, okv_int, sI_uA, true_and, and_true, or_true, g4, g5, g12, s12, aw4, awn4, as4, aw5, awn5, as5, awn4, awn5, ha]
def stL2 (s : St) (a b : Int32) : St := uI (uI s 15 a) 16 b
theorem t21 : Cl (pj lw) 21 [.ref p, .int a, .int b] (ob H p s) Q ↔ Q none (ob H p (stL2 s a b)) := by
  rw [c21]; unfold stL2; simp +decide only [w21_0, w21_1, w21_2, w21_5, w21_6, w21_7, w21_10, isOw_put, okv_int, true_and, and_true, s15, s16]
def DG (s : St) : Prop := ∀ x, x < 32 → 0 ≤ (sA s 7 x).toInt ∧ (sA s 7 x).toInt ≤ 32
def dN (s : St) (x : Nat) : Nat := (sA s 7 x).toInt.toNat
theorem adx (hx : 0 ≤ x.toInt ∧ x.toInt < 32) (hd : 0 ≤ d.toInt ∧ d.toInt < 32) : (x * 32).toInt = x.toInt * 32 ∧ (x * 32 + d).toInt = x.toInt * 32 + d.toInt ∧ (x * 32 + d).toNatClampNeg = x.toNatClampNeg * 32 + d.toInt.toNat := by
  have h1 : (x * 32).toInt = x.toInt * 32 := im (by simp only [Int32.reduceToInt]; omega) (by simp only [Int32.reduceToInt]; omega)
  have h2 : (x * 32 + d).toInt = x.toInt * 32 + d.toInt := by rw [ia (by omega) (by omega), h1]
  exact ⟨h1, h2, by rw [cln, cln, h2]; omega⟩
def aA (s : St) (x e : Int32) : St := if (sA s 7 x.toNatClampNeg).toInt < 32 then uA (uA s 6 (x.toNatClampNeg * 32 + dN s x.toNatClampNeg) e) 7 x.toNatClampNeg (sA s 7 x.toNatClampNeg + 1) else s
theorem t27 (hx : 0 ≤ x.toInt ∧ x.toInt < 32) (hd : DG s) : Cl (pj lw) 27 [.ref p, .int x, .int e] (ob H p s) Q ↔ Q none (ob H p (aA s x e)) := by
  rw [c27]
  have h0 := hd x.toNatClampNeg (by rw [cln]; omega)
  have h1 : ¬ x < 0 := by rw [lt32]; simp only [Int32.reduceToInt]; omega
  have h2 : x < 32 := by rw [lt32]; simp only [Int32.reduceToInt]; omega
  have h3 : ¬ sA s 7 x.toNatClampNeg < 0 := by rw [lt32]; simp only [Int32.reduceToInt]; omega
  unfold aA
  by_cases e1 : sA s 7 x.toNatClampNeg < 32
  · have e2 : (sA s 7 x.toNatClampNeg).toInt < 32 := by rw [lt32] at e1; simpa only [Int32.reduceToInt] using e1
    have h4 := adx hx (d := sA s 7 x.toNatClampNeg) ⟨h0.1, e2⟩
    have h5 : 0 ≤ (x * 32 + sA s 7 x.toNatClampNeg).toInt ∧ (x * 32 + sA s 7 x.toNatClampNeg).toInt < 1024 := by omega
    have h6 : (x * 32 + sA s 7 x.toNatClampNeg).toNatClampNeg = x.toNatClampNeg * 32 + dN s x.toNatClampNeg := h4.2.2
    simp +decide only [w27_0, w27_1, w27_4, w27_5, w27_7, w27_11, w27_12, w27_15, w27_16, w27_17, w27_20, w27_21, w27_24, w27_25, w27_26, w27_28, w27_32, w27_33, w27_36, w27_37, w27_39, w27_40, w27_41, w27_44, w27_45, w27_46, w27_47, w27_48, w27_49, w27_50, w27_53, w27_54, w27_55, w27_56, w27_57, w27_58, w27_59, isO_put, sA_uA, true_and, and_true, false_and, ↓reduceIte, g6, g7, aw6, as6, ai7, aw7, ae7, as7, h1, h2, h3, e1, hx, h5, e2, h6]
  · have e2 : ¬ (sA s 7 x.toNatClampNeg).toInt < 32 := by rw [lt32] at e1; simpa only [Int32.reduceToInt] using e1
    simp +decide only [w27_0, w27_1, w27_4, w27_5, w27_7, w27_11, w27_12, w27_15, w27_16, w27_17, w27_20, w27_21, w27_24, w27_25, w27_26, w27_28, w27_31, isO_put, true_and, and_true, ↓reduceIte, g7, ai7, ae7, h1, h2, h3, e1, hx, e2]
def aR (s : St) (x : Int32) (κ : Nat) : St := uA (uA s 7 x.toNatClampNeg (sA s 7 x.toNatClampNeg - 1)) 6 (x.toNatClampNeg * 32 + κ) (sA s 6 (x.toNatClampNeg * 32 + (dN s x.toNatClampNeg - 1)))
theorem l28 (hx : 0 ≤ x.toInt ∧ x.toInt < 32) (hd : DG s) {κ : Nat} (hk : κ < dN s x.toNatClampNeg) (h0 : sA s 6 (x.toNatClampNeg * 32 + κ) = e) (h1 : ∀ i, i < κ → sA s 6 (x.toNatClampNeg * 32 + i) ≠ e) (m : Nat) : ∀ (i : Int32), i.toInt = (κ : Int) - m → m ≤ κ →
    (W (pj lw) 28 19 [.val (.ref p), .val (.int x), .val (.int e), .val (.int (x * 32)), .val (.int i)] [] k n (ob H p s) Q ↔ Q none (ob H p (aR s x κ))) := by
  have g0 := hd x.toNatClampNeg (by rw [cln]; omega)
  unfold dN at hk
  induction m with
  | zero =>
    intro i hi _
    have h2 : i < sA s 7 x.toNatClampNeg := by rw [lt32]; omega
    have h3 : i < 32 := by rw [lt32]; simp only [Int32.reduceToInt]; omega
    have h4 := adx hx (d := i) (by omega)
    have h5 : 0 ≤ (x * 32 + i).toInt ∧ (x * 32 + i).toInt < 1024 := by omega
    have h6 : (x * 32 + i).toNatClampNeg = x.toNatClampNeg * 32 + κ := by rw [h4.2.2]; omega
    have h7 : (sA s 7 x.toNatClampNeg - 1).toInt = (sA s 7 x.toNatClampNeg).toInt - 1 := isb (by simp only [Int32.reduceToInt]; omega) (by simp only [Int32.reduceToInt]; omega)
    have h8 := adx hx (d := sA s 7 x.toNatClampNeg - 1) (by omega)
    have h9 : 0 ≤ (x * 32 + (sA s 7 x.toNatClampNeg - 1)).toInt ∧ (x * 32 + (sA s 7 x.toNatClampNeg - 1)).toInt < 1024 := by omega
    have h10 : (x * 32 + (sA s 7 x.toNatClampNeg - 1)).toNatClampNeg = x.toNatClampNeg * 32 + (dN s x.toNatClampNeg - 1) := by rw [h8.2.2, h7]; unfold dN; omega
    rw [w28_19]; unfold aR; simp +decide only [w28_21, w28_22, w28_25, w28_26, w28_27, w28_30, w28_32, w28_34, w28_37, w28_38, w28_41, w28_42, w28_44, w28_45, w28_46, w28_47, w28_50, w28_51, w28_54, w28_55, w28_56, w28_57, w28_58, w28_59, w28_60, w28_61, w28_64, w28_65, w28_67, w28_68, w28_69, w28_72, w28_73, w28_74, w28_77, w28_78, w28_79, w28_80, w28_81, w28_82, isO_put, sA_uA, true_and, and_true, false_and, ↓reduceIte, g6, g7, ai6, aw6, ae6, as6, ai7, aw7, ae7, as7, h2, h3, hx, h5, h6, h0, h9, h10]
  | succ m ih =>
    intro i hi hm
    have h2 : i < sA s 7 x.toNatClampNeg := by rw [lt32]; omega
    have h3 : i < 32 := by rw [lt32]; simp only [Int32.reduceToInt]; omega
    have h4 := adx hx (d := i) (by omega)
    have h5 : 0 ≤ (x * 32 + i).toInt ∧ (x * 32 + i).toInt < 1024 := by omega
    have h6 : (x * 32 + i).toNatClampNeg = x.toNatClampNeg * 32 + i.toInt.toNat := h4.2.2
    have h7 : ¬ sA s 6 (x.toNatClampNeg * 32 + i.toInt.toNat) = e := h1 _ (by omega)
    have h8 : (i + 1).toInt = i.toInt + 1 := ia (by simp only [Int32.reduceToInt]; omega) (by simp only [Int32.reduceToInt]; omega)
    rw [w28_19]; simp +decide only [w28_21, w28_22, w28_25, w28_26, w28_27, w28_30, w28_32, w28_34, w28_37, w28_38, w28_41, w28_42, w28_44, w28_45, w28_46, w28_47, w28_83, w28_86, isO_put, true_and, and_true, ↓reduceIte, g6, g7, ai6, ae6, ai7, ae7, h2, h3, hx, h5, h6, h7]
    exact ih (i + 1) (by omega) (by omega)
theorem l28n (hx : 0 ≤ x.toInt ∧ x.toInt < 32) (hd : DG s) (h1 : ∀ i, i < dN s x.toNatClampNeg → sA s 6 (x.toNatClampNeg * 32 + i) ≠ e) (m : Nat) : ∀ (i : Int32), i.toInt = (dN s x.toNatClampNeg : Int) - m → m ≤ dN s x.toNatClampNeg →
    (W (pj lw) 28 19 [.val (.ref p), .val (.int x), .val (.int e), .val (.int (x * 32)), .val (.int i)] [] k n (ob H p s) Q ↔ Q none (ob H p s)) := by
  have g0 := hd x.toNatClampNeg (by rw [cln]; omega)
  unfold dN at *
  induction m with
  | zero =>
    intro i hi _
    have h2 : ¬ i < sA s 7 x.toNatClampNeg := by rw [lt32]; omega
    rw [w28_19]; simp +decide only [w28_21, w28_22, w28_25, w28_26, w28_27, w28_89, isO_put, true_and, and_true, ↓reduceIte, g7, ai7, ae7, h2, hx]
  | succ m ih =>
    intro i hi hm
    have h2 : i < sA s 7 x.toNatClampNeg := by rw [lt32]; omega
    have h3 : i < 32 := by rw [lt32]; simp only [Int32.reduceToInt]; omega
    have h4 := adx hx (d := i) (by omega)
    have h5 : 0 ≤ (x * 32 + i).toInt ∧ (x * 32 + i).toInt < 1024 := by omega
    have h6 : (x * 32 + i).toNatClampNeg = x.toNatClampNeg * 32 + i.toInt.toNat := h4.2.2
    have h7 : ¬ sA s 6 (x.toNatClampNeg * 32 + i.toInt.toNat) = e := h1 _ (by omega)
    have h8 : (i + 1).toInt = i.toInt + 1 := ia (by simp only [Int32.reduceToInt]; omega) (by simp only [Int32.reduceToInt]; omega)
    rw [w28_19]; simp +decide only [w28_21, w28_22, w28_25, w28_26, w28_27, w28_30, w28_32, w28_34, w28_37, w28_38, w28_41, w28_42, w28_44, w28_45, w28_46, w28_47, w28_83, w28_86, isO_put, true_and, and_true, ↓reduceIte, g6, g7, ai6, ae6, ai7, ae7, h2, h3, hx, h5, h6, h7]
    exact ih (i + 1) (by omega) (by omega)
def fnd (s : St) (x : Nat) (e : Int32) : Nat → Nat → Option Nat
  | _, 0 => none
  | j, m + 1 => if sA s 6 (x * 32 + j) = e then some j else fnd s x e (j + 1) m
theorem fnd_some {X : Nat} : ∀ (m j : Nat) {κ : Nat}, fnd s X e j m = some κ → (j ≤ κ ∧ κ < j + m) ∧ sA s 6 (X * 32 + κ) = e ∧ ∀ i, j ≤ i → i < κ → sA s 6 (X * 32 + i) ≠ e
  | 0, j, κ, h => by cases h
  | m + 1, j, κ, h => by
    unfold fnd at h
    by_cases g : sA s 6 (X * 32 + j) = e
    · rw [if_pos g] at h; cases h; exact ⟨by omega, g, fun i h1 h2 => by omega⟩
    · rw [if_neg g] at h
      have := fnd_some m (j + 1) h
      refine ⟨by omega, this.2.1, fun i h1 h2 => ?_⟩
      by_cases q : i = j
      · subst q; exact g
      · exact this.2.2 i (by omega) h2
theorem fnd_none {X : Nat} : ∀ (m j : Nat), fnd s X e j m = none → ∀ i, j ≤ i → i < j + m → sA s 6 (X * 32 + i) ≠ e
  | 0, j, h, i, h1, h2 => by omega
  | m + 1, j, h, i, h1, h2 => by
    unfold fnd at h
    by_cases g : sA s 6 (X * 32 + j) = e
    · rw [if_pos g] at h; cases h
    · rw [if_neg g] at h
      by_cases q : i = j
      · subst q; exact g
      · exact fnd_none m (j + 1) h i (by omega) (by omega)
def rA (s : St) (x e : Int32) : St := match fnd s x.toNatClampNeg e 0 (dN s x.toNatClampNeg) with
  | none => s
  | some κ => aR s x κ
theorem t28 (hx : 0 ≤ x.toInt ∧ x.toInt < 32) (hd : DG s) : Cl (pj lw) 28 [.ref p, .int x, .int e] (ob H p s) Q ↔ Q none (ob H p (rA s x e)) := by
  rw [c28]
  have h1 : ¬ x < 0 := by rw [lt32]; simp only [Int32.reduceToInt]; omega
  have h2 : x < 32 := by rw [lt32]; simp only [Int32.reduceToInt]; omega
  simp +decide only [w28_0, w28_1, w28_4, w28_5, w28_7, w28_11, w28_12, w28_14, w28_15, w28_16, w28_17, ↓reduceIte, h1, h2]
  unfold rA
  cases g : fnd s x.toNatClampNeg e 0 (dN s x.toNatClampNeg) with
  | none =>
    exact l28n hx hd (fun i hi => fnd_none _ _ g i (Nat.zero_le _) (by omega)) (dN s x.toNatClampNeg) 0 (by simp only [Int32.reduceToInt]; omega) (Nat.le_refl _)
  | some κ =>
    have r := fnd_some _ _ g
    exact l28 hx hd (by omega) r.2.1 (fun i hi => r.2.2 i (Nat.zero_le _) hi) κ 0 (by simp only [Int32.reduceToInt]; omega) (Nat.le_refl _)
end B

section C
variable {lw : LW} {H : AH} {p j : Nat} {s s' s1 s2 : St} {Q : Option Value → AH → Prop} {a b c d e x y t : Int32} {k n : Nat}
def oE (s : St) (e x : Int32) : Int32 := if sA s 1 e.toNatClampNeg = x then sA s 2 e.toNatClampNeg else if sA s 2 e.toNatClampNeg = x then sA s 1 e.toNatClampNeg else -1
theorem t35 (he : 0 ≤ e.toInt ∧ e.toInt < 128) : Cl (pj lw) 35 [.ref p, .int e, .int x] (ob H p s) Q ↔ Q (some (.int (oE s e x))) (ob H p s) := by
  rw [c35]; unfold oE
  by_cases e1 : sA s 1 e.toNatClampNeg = x
  · simp +decide only [w35_0, w35_1, w35_4, w35_5, w35_6, w35_7, w35_10, w35_11, w35_14, w35_15, w35_16, isO_put, true_and, and_true, ↓reduceIte, g1, g2, ai1, ae1, ai2, ae2, he, e1]
  · by_cases e2 : sA s 2 e.toNatClampNeg = x <;> simp +decide only [w35_0, w35_1, w35_4, w35_5, w35_6, w35_7, w35_17, w35_18, w35_21, w35_22, w35_23, w35_24, w35_27, w35_28, w35_31, w35_32, w35_33, w35_34, w35_35, isO_put, true_and, and_true, ↓reduceIte, g1, g2, ai1, ae1, ai2, ae2, he, e1, e2]
def pc (s : St) (a b : Int32) : Bool := if sA s 3 a.toNatClampNeg = sA s 3 b.toNatClampNeg then decide (a < b) else decide (sA s 3 a.toNatClampNeg < sA s 3 b.toNatClampNeg)
theorem t36 (ha : 0 ≤ a.toInt ∧ a.toInt < 128) (hb : 0 ≤ b.toInt ∧ b.toInt < 128) : Cl (pj lw) 36 [.ref p, .int a, .int b] (ob H p s) Q ↔ Q (some (.int (bz (pc s a b)))) (ob H p s) := by
  rw [c36]; unfold pc
  by_cases e1 : sA s 3 a.toNatClampNeg = sA s 3 b.toNatClampNeg
  · by_cases e2 : a < b <;> simp +decide only [w36_0, w36_1, w36_4, w36_5, w36_6, w36_7, w36_10, w36_11, w36_12, w36_36, w36_37, w36_38, w36_41, w36_42, w36_45, w36_46, isO_put, true_and, and_true, ↓reduceIte, g3, ai3, ae3, ha, hb, e1, e2, bz]
  · by_cases e2 : sA s 3 a.toNatClampNeg < sA s 3 b.toNatClampNeg <;> simp +decide only [w36_0, w36_1, w36_4, w36_5, w36_6, w36_7, w36_10, w36_11, w36_12, w36_15, w36_16, w36_19, w36_20, w36_21, w36_22, w36_25, w36_26, w36_27, w36_30, w36_31, w36_34, w36_35, isO_put, true_and, and_true, ↓reduceIte, g3, ai3, ae3, ha, hb, e1, e2, bz]
def nv (a : Int32) : Prop := a = -1 ∨ (0 ≤ a.toInt ∧ a.toInt < 128)
def lgt (s : St) (a b : Int32) : Int32 := if a = -1 then b else if b = -1 then a else if pc s a b = true then a else b
theorem t37 (ha : nv a) (hb : nv b) : Cl (pj lw) 37 [.ref p, .int a, .int b] (ob H p s) Q ↔ Q (some (.int (lgt s a b))) (ob H p s) := by
  rw [c37]; unfold lgt
  by_cases e1 : a = -1
  · simp +decide only [w37_0, w37_1, w37_2, w37_5, w37_6, ↓reduceIte, e1]
  · by_cases e2 : b = -1
    · simp +decide only [w37_0, w37_1, w37_2, w37_7, w37_8, w37_9, w37_12, w37_13, ↓reduceIte, e1, e2]
    · have q1 := ha.resolve_left e1
      have q2 := hb.resolve_left e2
      have q := fun Q => t36 (lw := lw) (H := H) (p := p) (s := s) (Q := Q) q1 q2
      cases e3 : pc s a b <;> simp +decide only [w37_0, w37_1, w37_2, w37_7, w37_8, w37_9, w37_14, w37_15, w37_16, w37_17, w37_20, w37_23, w37_24, w37_25, w37_26, isO_put, Option.toList_some, List.cons_append, List.nil_append, true_and, and_true, ↓reduceIte, e1, e2, q, e3, bz]
theorem lgt_nv (ha : nv a) (hb : nv b) : nv (lgt s a b) := by
  unfold lgt; split
  · exact hb
  · split
    · exact ha
    · split
      · exact ha
      · exact hb
def hvy (s : St) (a b : Int32) : Int32 := if a = -1 then b else if b = -1 then a else if pc s a b = true then b else a
theorem t38 (ha : nv a) (hb : nv b) : Cl (pj lw) 38 [.ref p, .int a, .int b] (ob H p s) Q ↔ Q (some (.int (hvy s a b))) (ob H p s) := by
  rw [c38]; unfold hvy
  by_cases e1 : a = -1
  · simp +decide only [w38_0, w38_1, w38_2, w38_5, w38_6, ↓reduceIte, e1]
  · by_cases e2 : b = -1
    · simp +decide only [w38_0, w38_1, w38_2, w38_7, w38_8, w38_9, w38_12, w38_13, ↓reduceIte, e1, e2]
    · have q1 := ha.resolve_left e1
      have q2 := hb.resolve_left e2
      have q := fun Q => t36 (lw := lw) (H := H) (p := p) (s := s) (Q := Q) q1 q2
      cases e3 : pc s a b <;> simp +decide only [w38_0, w38_1, w38_2, w38_7, w38_8, w38_9, w38_14, w38_15, w38_16, w38_17, w38_20, w38_23, w38_24, w38_25, w38_26, isO_put, Option.toList_some, List.cons_append, List.nil_append, true_and, and_true, ↓reduceIte, e1, e2, q, e3, bz]
theorem hvy_nv (ha : nv a) (hb : nv b) : nv (hvy s a b) := by
  unfold hvy; split
  · exact hb
  · split
    · exact ha
    · split
      · exact hb
      · exact ha
def cr (s : St) (e : Int32) : Bool := decide ((¬ sA s 1 e.toNatClampNeg < 0 ∧ sA s 1 e.toNatClampNeg < 32) ∧ (¬ sA s 2 e.toNatClampNeg < 0 ∧ sA s 2 e.toNatClampNeg < 32) ∧ sA s 8 (sA s 1 e.toNatClampNeg).toNatClampNeg ≠ sA s 8 (sA s 2 e.toNatClampNeg).toNatClampNeg)
theorem rn32 (h1 : ¬ a < 0) (h2 : a < 32) : 0 ≤ a.toInt ∧ a.toInt < 32 := by
  rw [lt32] at h1 h2; simp only [Int32.reduceToInt] at h1 h2; omega
theorem t34 (he : 0 ≤ e.toInt ∧ e.toInt < 128) : Cl (pj lw) 34 [.ref p, .int e] (ob H p s) Q ↔ Q (some (.int (bz (cr s e)))) (ob H p s) := by
  rw [c34]; unfold cr
  by_cases e1 : sA s 1 e.toNatClampNeg < 0
  · simp +decide only [w34_0, w34_1, w34_4, w34_5, w34_6, w34_7, w34_8, w34_11, w34_12, w34_13, w34_14, w34_15, w34_34, w34_35, isO_put, true_and, and_true, false_and, not_true_eq_false, ↓reduceIte, ne_eq, g1, g2, ai1, ae1, ai2, ae2, he, e1, bz]
  · by_cases e2 : sA s 1 e.toNatClampNeg < 32
    · by_cases e3 : sA s 2 e.toNatClampNeg < 0
      · simp +decide only [w34_0, w34_1, w34_4, w34_5, w34_6, w34_7, w34_8, w34_11, w34_12, w34_13, w34_14, w34_15, w34_18, w34_19, w34_21, w34_24, w34_25, w34_34, w34_35, isO_put, true_and, and_true, false_and, and_false, not_true_eq_false, not_false_eq_true, ↓reduceIte, ne_eq, g1, g2, ai1, ae1, ai2, ae2, he, e1, e2, e3, bz]
      · by_cases e4 : sA s 2 e.toNatClampNeg < 32
        · have q1 := rn32 e1 e2
          have q2 := rn32 e3 e4
          by_cases e5 : sA s 8 (sA s 1 e.toNatClampNeg).toNatClampNeg = sA s 8 (sA s 2 e.toNatClampNeg).toNatClampNeg <;>
          simp +decide only [w34_0, w34_1, w34_4, w34_5, w34_6, w34_7, w34_8, w34_11, w34_12, w34_13, w34_14, w34_15, w34_18, w34_19, w34_21, w34_24, w34_25, w34_28, w34_29, w34_31, w34_36, w34_37, w34_40, w34_41, w34_42, w34_43, w34_46, w34_47, w34_48, w34_51, w34_52, w34_55, w34_56, isO_put, true_and, and_true, and_false, or_true, not_true_eq_false, not_false_eq_true, ↓reduceIte, ne_eq, g1, g2, g8, ai1, ae1, ai2, ae2, ai8, ain8, ae8, ain8, he, e1, e2, e3, e4, q1, q2, e5, bz]
        · simp +decide only [w34_0, w34_1, w34_4, w34_5, w34_6, w34_7, w34_8, w34_11, w34_12, w34_13, w34_14, w34_15, w34_18, w34_19, w34_21, w34_24, w34_25, w34_28, w34_29, w34_31, w34_34, w34_35, isO_put, true_and, and_true, false_and, and_false, not_false_eq_true, ↓reduceIte, ne_eq, g1, g2, ai1, ae1, ai2, ae2, he, e1, e2, e3, e4, bz]
    · simp +decide only [w34_0, w34_1, w34_4, w34_5, w34_6, w34_7, w34_8, w34_11, w34_12, w34_13, w34_14, w34_15, w34_18, w34_19, w34_21, w34_34, w34_35, isO_put, true_and, and_true, false_and, and_false, not_false_eq_true, ↓reduceIte, ne_eq, g1, g2, ai1, ae1, ai2, ae2, he, e1, e2, bz]
def vs1 (s : St) (x ex e t : Int32) : St × Int32 :=
  if e = ex ∨ vi e = false then (s, t) else
  if oE s e x < 0 ∨ ¬ oE s e x < 32 ∨ ¬ sA s 8 (oE s e x).toNatClampNeg = 0 ∨ ¬ t < 32 then (s, t) else
  (uA (uA (uA (uA s 8 (oE s e x).toNatClampNeg 1) 9 (oE s e x).toNatClampNeg e) 10 (oE s e x).toNatClampNeg x) 11 t.toNatClampNeg (oE s e x), t + 1)
def vsF (x ex : Int32) : Nat → Nat → St × Int32 → St × Int32
  | _, 0, q => q
  | j, m + 1, q => vsF x ex (j + 1) m (vs1 q.1 x ex (sA q.1 6 (x.toNatClampNeg * 32 + j)) q.2)
theorem sAn {t t' i : Nat} {v : Int32} (h : t' ≠ t) : sA (uA s t i v) t' = sA s t' := by funext z; rw [sA_uA, if_neg (fun q => h q.1)]
def Sr (s s' : St) : Prop := (∀ x, sI s' x = sI s x) ∧ (∀ x, sJ s' x = sJ s x) ∧ (∀ t, t ≠ 8 → t ≠ 9 → t ≠ 10 → t ≠ 11 → sA s' t = sA s t) ∧ ∀ t i, sB s' t i = sB s t i
theorem Sr.refl : Sr s s := ⟨fun _ => rfl, fun _ => rfl, fun _ _ _ _ _ => rfl, fun _ _ => rfl⟩
theorem Sr.trans (h : Sr s s1) (g : Sr s1 s2) : Sr s s2 := ⟨fun x => (g.1 x).trans (h.1 x), fun x => (g.2.1 x).trans (h.2.1 x), fun t h1 h2 h3 h4 => (g.2.2.1 t h1 h2 h3 h4).trans (h.2.2.1 t h1 h2 h3 h4), fun t i => (g.2.2.2 t i).trans (h.2.2.2 t i)⟩
theorem Sr_uA {t i : Nat} {v : Int32} (ht : t = 8 ∨ t = 9 ∨ t = 10 ∨ t = 11) : Sr s (uA s t i v) := ⟨fun _ => sI_uA, fun _ => sJ_uA, fun t' h1 h2 h3 h4 => sAn (by omega), fun _ _ => sB_uA⟩
theorem vs1_Sr {ex : Int32} : Sr s (vs1 s x ex e t).1 := by
  unfold vs1; split
  · exact Sr.refl
  · split
    · exact Sr.refl
    · exact (Sr_uA (by simp)).trans ((Sr_uA (by simp)).trans ((Sr_uA (by simp)).trans (Sr_uA (by simp))))
theorem vsF_Sr {ex : Int32} : ∀ (m j : Nat) (q : St × Int32), Sr q.1 (vsF x ex j m q).1
  | 0, j, q => Sr.refl
  | m + 1, j, q => by unfold vsF; exact vs1_Sr.trans (vsF_Sr m (j + 1) _)
theorem vs1_t {ex : Int32} (h : 0 ≤ t.toInt ∧ t.toInt ≤ 32) : 0 ≤ (vs1 s x ex e t).2.toInt ∧ (vs1 s x ex e t).2.toInt ≤ 32 := by
  unfold vs1; split
  · exact h
  · split
    · exact h
    · rename_i q
      have q' : t < 32 := Decidable.byContradiction fun w => q (Or.inr (Or.inr (Or.inr w)))
      rw [lt32] at q'; simp only [Int32.reduceToInt] at q'
      have h5 : (t + 1).toInt = t.toInt + 1 := ia (by simp only [Int32.reduceToInt]; omega) (by simp only [Int32.reduceToInt]; omega)
      show 0 ≤ (t + 1).toInt ∧ (t + 1).toInt ≤ 32; omega
theorem vsF_t {ex : Int32} : ∀ (m j : Nat) (q : St × Int32), (0 ≤ q.2.toInt ∧ q.2.toInt ≤ 32) → 0 ≤ (vsF x ex j m q).2.toInt ∧ (vsF x ex j m q).2.toInt ≤ 32
  | 0, j, q, h => h
  | m + 1, j, q, h => by unfold vsF; exact vsF_t m (j + 1) _ (vs1_t h)
theorem DG.of (h : DG s) (g : Sr s s') : DG s' := by unfold DG; rw [g.2.2.1 7 (by decide) (by decide) (by decide) (by decide)]; exact h
set_option maxRecDepth 100000 in
theorem l31 {ex : Int32} (hx : 0 ≤ x.toInt ∧ x.toInt < 32) (m : Nat) : ∀ (i t : Int32) (s : St), DG s → i.toInt = (dN s x.toNatClampNeg : Int) - m → m ≤ dN s x.toNatClampNeg → (0 ≤ t.toInt ∧ t.toInt ≤ 32) →
    Q (some (.int (vsF x ex i.toNatClampNeg m (s, t)).2)) (ob H p (vsF x ex i.toNatClampNeg m (s, t)).1) →
    W (pj lw) 31 25 [.val (.ref p), .val (.int x), .val (.int ex), .val (.int c), .val (.int t), .val (.int (x * 32)), .val (.int i), .unset, .unset] [] k n (ob H p s) Q := by
  induction m with
  | zero =>
    intro i t s hd hi _ ht hq
    have g0 := hd x.toNatClampNeg (by rw [cln]; omega)
    have h2 : ¬ i < sA s 7 x.toNatClampNeg := by unfold dN at hi; rw [lt32]; omega
    rw [w31_25]; simp +decide only [w31_27, w31_28, w31_31, w31_32, w31_33, w31_157, w31_159, isO_put, true_and, and_true, ↓reduceIte, g7, ai7, ae7, h2, hx]
    exact hq
  | succ m ih =>
    intro i t s hd hi hm ht hq
    have g0 := hd x.toNatClampNeg (by rw [cln]; omega)
    have hi' := hi
    have hm' := hm
    unfold dN at hi' hm'
    have h2 : i < sA s 7 x.toNatClampNeg := by rw [lt32]; omega
    have h3 : i < 32 := by rw [lt32]; simp only [Int32.reduceToInt]; omega
    have h4 := adx hx (d := i) (by omega)
    have h5 : 0 ≤ (x * 32 + i).toInt ∧ (x * 32 + i).toInt < 1024 := by omega
    have h6 : (x * 32 + i).toNatClampNeg = x.toNatClampNeg * 32 + i.toNatClampNeg := h4.2.2
    have h8 : (i + 1).toInt = i.toInt + 1 := ia (by simp only [Int32.reduceToInt]; omega) (by simp only [Int32.reduceToInt]; omega)
    have h9 : (i + 1).toNatClampNeg = i.toNatClampNeg + 1 := by rw [cln, cln]; omega
    unfold vsF at hq
    have key := ih (i + 1) (vs1 s x ex (sA s 6 (x.toNatClampNeg * 32 + i.toNatClampNeg)) t).2 (vs1 s x ex (sA s 6 (x.toNatClampNeg * 32 + i.toNatClampNeg)) t).1 (hd.of vs1_Sr)
      (by have := vs1_Sr (s := s) (x := x) (ex := ex) (e := sA s 6 (x.toNatClampNeg * 32 + i.toNatClampNeg)) (t := t)
          unfold dN; rw [this.2.2.1 7 (by decide) (by decide) (by decide) (by decide)]; omega)
      (by have := vs1_Sr (s := s) (x := x) (ex := ex) (e := sA s 6 (x.toNatClampNeg * 32 + i.toNatClampNeg)) (t := t)
          unfold dN; rw [this.2.2.1 7 (by decide) (by decide) (by decide) (by decide)]; omega)
      (vs1_t ht) (by rw [h9]; exact hq)
    clear hq ih
    rw [w31_25]
    by_cases e1 : sA s 6 (x.toNatClampNeg * 32 + i.toNatClampNeg) = ex
    · unfold vs1 at key; rw [if_pos (Or.inl e1)] at key
      simp +decide only [w31_27, w31_28, w31_31, w31_32, w31_33, w31_36, w31_38, w31_40, w31_43, w31_44, w31_47, w31_49, w31_51, w31_52, w31_53, w31_55, w31_57, w31_58, w31_151, w31_154, isO_put, true_and, and_true, ↓reduceIte, g6, g7, ai6, ae6, ai7, ae7, h2, h3, hx, h5, h6, e1]
      refine W_fa 7 rfl ?_
      exact key
    · cases e2 : vi (sA s 6 (x.toNatClampNeg * 32 + i.toNatClampNeg)) with
      | false =>
        unfold vs1 at key; rw [if_pos (Or.inr e2)] at key
        simp +decide only [w31_27, w31_28, w31_31, w31_32, w31_33, w31_36, w31_38, w31_40, w31_43, w31_44, w31_47, w31_49, w31_51, w31_52, w31_53, w31_55, w31_57, w31_58, w31_61, w31_62, w31_64, w31_67, w31_70, w31_151, w31_154, isO_put, Option.toList_some, List.cons_append, List.nil_append, true_and, and_true, ↓reduceIte, g6, g7, ai6, ae6, ai7, ae7, h2, h3, hx, h5, h6, e1, t40, e2, bz]
        refine W_fa 7 rfl ?_
        exact key
      | true =>
        have r := vi_rg e2
        have q := fun Q => t35 (lw := lw) (H := H) (p := p) (s := s) (x := x) (Q := Q) r
        unfold vs1 at key; rw [if_neg (by rw [e2]; simp [e1])] at key
        generalize he : sA s 6 (x.toNatClampNeg * 32 + i.toNatClampNeg) = e at *
        by_cases e3 : oE s e x < 0
        · rw [if_pos (Or.inl e3)] at key
          simp +decide only [w31_27, w31_28, w31_31, w31_32, w31_33, w31_36, w31_38, w31_40, w31_43, w31_44, w31_47, w31_49, w31_51, w31_52, w31_53, w31_55, w31_57, w31_58, w31_61, w31_62, w31_64, w31_67, w31_73, w31_74, w31_76, w31_77, w31_80, w31_82, w31_84, w31_151, w31_154, isO_put, Option.toList_some, List.cons_append, List.nil_append, true_and, and_true, ↓reduceIte, g6, g7, ai6, ae6, ai7, ae7, h2, h3, hx, h5, h6, he, e1, t40, e2, bz, q, e3]
          refine W_fa 7 rfl ?_
          exact key
        · by_cases e4 : oE s e x < 32
          · have r2 := rn32 e3 e4
            by_cases e5 : sA s 8 (oE s e x).toNatClampNeg = 0
            · by_cases e6 : t < 32
              · rw [if_neg (by simp [e3, e4, e5, e6])] at key
                have r3 : 0 ≤ t.toInt ∧ t.toInt < 32 := by rw [lt32] at e6; simp only [Int32.reduceToInt] at e6; omega
                simp +decide only [w31_27, w31_28, w31_31, w31_32, w31_33, w31_36, w31_38, w31_40, w31_43, w31_44, w31_47, w31_49, w31_51, w31_52, w31_53, w31_55, w31_57, w31_58, w31_61, w31_62, w31_64, w31_67, w31_73, w31_74, w31_76, w31_77, w31_80, w31_82, w31_84, w31_87, w31_89, w31_91, w31_94, w31_95, w31_98, w31_100, w31_101, w31_104, w31_106, w31_108, w31_114, w31_115, w31_118, w31_120, w31_121, w31_122, w31_123, w31_126, w31_128, w31_130, w31_131, w31_132, w31_135, w31_137, w31_138, w31_139, w31_140, w31_143, w31_145, w31_147, w31_148, w31_151, w31_154, isO_put, Option.toList_some, List.cons_append, List.nil_append, true_and, and_true, or_true, ↓reduceIte, g6, g7, g8, g9, g10, g11, ai6, ae6, ai7, ae7, ai8, aw8, ain8, awn8, ae8, as8, aw9, as9, aw10, as10, aw11, as11, ain8, awn8, h2, h3, hx, h5, h6, he, e1, t40, e2, bz, q, e3, e4, r2, e5, e6, r3]
                refine W_fa 7 rfl ?_
                exact key
              · rw [if_pos (Or.inr (Or.inr (Or.inr e6)))] at key
                simp +decide only [w31_27, w31_28, w31_31, w31_32, w31_33, w31_36, w31_38, w31_40, w31_43, w31_44, w31_47, w31_49, w31_51, w31_52, w31_53, w31_55, w31_57, w31_58, w31_61, w31_62, w31_64, w31_67, w31_73, w31_74, w31_76, w31_77, w31_80, w31_82, w31_84, w31_87, w31_89, w31_91, w31_94, w31_95, w31_98, w31_100, w31_101, w31_104, w31_106, w31_108, w31_111, w31_151, w31_154, isO_put, Option.toList_some, List.cons_append, List.nil_append, true_and, and_true, or_true, ↓reduceIte, g6, g7, g8, ai6, ae6, ai7, ae7, ai8, ain8, ae8, ain8, h2, h3, hx, h5, h6, he, e1, t40, e2, bz, q, e3, e4, r2, e5, e6]
                refine W_fa 7 rfl ?_
                exact key
            · rw [if_pos (Or.inr (Or.inr (Or.inl e5)))] at key
              simp +decide only [w31_27, w31_28, w31_31, w31_32, w31_33, w31_36, w31_38, w31_40, w31_43, w31_44, w31_47, w31_49, w31_51, w31_52, w31_53, w31_55, w31_57, w31_58, w31_61, w31_62, w31_64, w31_67, w31_73, w31_74, w31_76, w31_77, w31_80, w31_82, w31_84, w31_87, w31_89, w31_91, w31_94, w31_95, w31_98, w31_100, w31_101, w31_151, w31_154, isO_put, Option.toList_some, List.cons_append, List.nil_append, true_and, and_true, or_true, ↓reduceIte, g6, g7, g8, ai6, ae6, ai7, ae7, ai8, ain8, ae8, ain8, h2, h3, hx, h5, h6, he, e1, t40, e2, bz, q, e3, e4, r2, e5]
              refine W_fa 7 rfl ?_
              exact key
          · rw [if_pos (Or.inr (Or.inl e4))] at key
            simp +decide only [w31_27, w31_28, w31_31, w31_32, w31_33, w31_36, w31_38, w31_40, w31_43, w31_44, w31_47, w31_49, w31_51, w31_52, w31_53, w31_55, w31_57, w31_58, w31_61, w31_62, w31_64, w31_67, w31_73, w31_74, w31_76, w31_77, w31_80, w31_82, w31_84, w31_87, w31_89, w31_91, w31_151, w31_154, isO_put, Option.toList_some, List.cons_append, List.nil_append, true_and, and_true, ↓reduceIte, g6, g7, ai6, ae6, ai7, ae7, h2, h3, hx, h5, h6, he, e1, t40, e2, bz, q, e3, e4]
            refine W_fa 7 rfl ?_
            exact key
def vis (q : St × Int32) (x ex : Int32) : St × Int32 := if x < 0 ∨ ¬ x < 32 then q else vsF x ex 0 (dN q.1 x.toNatClampNeg) q
theorem t31 {ex : Int32} (hd : DG s) (ht : 0 ≤ t.toInt ∧ t.toInt ≤ 32) (hq : Q (some (.int (vis (s, t) x ex).2)) (ob H p (vis (s, t) x ex).1)) : Cl (pj lw) 31 [.ref p, .int x, .int ex, .int t] (ob H p s) Q := by
  rw [c31]
  unfold vis at hq
  by_cases e1 : x < 0
  · rw [if_pos (Or.inl e1)] at hq
    simp +decide only [w31_0, w31_1, w31_3, w31_4, w31_13, w31_15, ↓reduceIte, e1]; exact hq
  · by_cases e2 : x < 32
    · rw [if_neg (by simp [e1, e2])] at hq
      simp +decide only [w31_0, w31_1, w31_3, w31_4, w31_7, w31_8, w31_10, w31_16, w31_17, w31_19, w31_20, w31_22, w31_23, ↓reduceIte, e1, e2]
      exact l31 (rn32 e1 e2) _ 0 t s hd (by simp only [Int32.reduceToInt]; omega) (Nat.le_refl _) ht hq
    · rw [if_pos (Or.inr e2)] at hq
      simp +decide only [w31_0, w31_1, w31_3, w31_4, w31_7, w31_8, w31_10, w31_13, w31_15, ↓reduceIte, e1, e2]; exact hq
theorem vis_Sr {ex : Int32} {q : St × Int32} : Sr q.1 (vis q x ex).1 := by
  unfold vis; split
  · exact Sr.refl
  · exact vsF_Sr _ _ _
theorem vis_t {ex : Int32} {q : St × Int32} (h : 0 ≤ q.2.toInt ∧ q.2.toInt ≤ 32) : 0 ≤ (vis q x ex).2.toInt ∧ (vis q x ex).2.toInt ≤ 32 := by
  unfold vis; split
  · exact h
  · exact vsF_t _ _ _ h
def exF (ex : Int32) : Nat → Nat → St × Int32 → St × Int32
  | _, 0, q => q
  | h, m + 1, q => if (h : Int) < q.2.toInt then exF ex (h + 1) m (vis q (sA q.1 11 h) ex) else q
theorem exF_Sr {ex : Int32} : ∀ (m h : Nat) (q : St × Int32), Sr q.1 (exF ex h m q).1
  | 0, h, q => Sr.refl
  | m + 1, h, q => by
    unfold exF; split
    · exact vis_Sr.trans (exF_Sr m (h + 1) _)
    · exact Sr.refl
theorem l30 {ex : Int32} (m : Nat) : ∀ (i t : Int32) (s : St), DG s → i.toInt = 32 - m → m ≤ 32 → (0 ≤ t.toInt ∧ t.toInt ≤ 32) →
    Q (some (.int (exF ex i.toNatClampNeg m (s, t)).2)) (ob H p (exF ex i.toNatClampNeg m (s, t)).1) →
    W (pj lw) 30 33 [.val (.ref p), .val (.int a), .val (.int ex), .val (.int t), .val (.int i)] [] k n (ob H p s) Q := by
  induction m with
  | zero =>
    intro i t s hd hi _ ht hq
    have h1 : ¬ i < t := by rw [lt32]; omega
    rw [w30_33]; simp +decide only [w30_35, w30_36, w30_66, w30_67, ↓reduceIte, h1]
    exact hq
  | succ m ih =>
    intro i t s hd hi hm ht hq
    unfold exF at hq
    by_cases e1 : i < t
    · have e2 := e1
      rw [lt32] at e2
      rw [if_pos (by show ((i.toNatClampNeg : Nat) : Int) < t.toInt; rw [cln]; omega)] at hq
      have h3 : i < 32 := by rw [lt32]; simp only [Int32.reduceToInt]; omega
      have h4 : 0 ≤ i.toInt ∧ i.toInt < 32 := by omega
      have h8 : (i + 1).toInt = i.toInt + 1 := ia (by simp only [Int32.reduceToInt]; omega) (by simp only [Int32.reduceToInt]; omega)
      have h9 : (i + 1).toNatClampNeg = i.toNatClampNeg + 1 := by rw [cln, cln]; omega
      rw [w30_33]; simp +decide only [w30_35, w30_36, w30_39, w30_41, w30_43, w30_46, w30_47, w30_48, w30_51, w30_53, w30_54, w30_55, w30_56, isO_put, true_and, and_true, ↓reduceIte, g11, ai11, ae11, e1, h3, h4]
      refine t31 hd ht ?_
      simp +decide only [w30_59i, w30_60, w30_63, Option.toList_some, List.cons_append, List.nil_append]
      exact ih (i + 1) _ _ (hd.of (vis_Sr (q := (s, t)))) (by omega) (by omega) (vis_t (q := (s, t)) ht) (by rw [h9]; exact hq)
    · have e2 := e1
      rw [lt32] at e2
      rw [if_neg (by show ¬ ((i.toNatClampNeg : Nat) : Int) < t.toInt; rw [cln]; omega)] at hq
      rw [w30_33]; simp +decide only [w30_35, w30_36, w30_66, w30_67, ↓reduceIte, e1]
      exact hq
def exq (s : St) (a ex : Int32) : St × Int32 := exF ex 0 32 (uA (uA (F2 s 0) 8 a.toNatClampNeg 1) 11 0 a, 1)
theorem F2_Sr : Sr s (F2 s 0) := by
  unfold F2
  refine ⟨fun x => by simp only [sI_fA], fun x => by simp only [sJ_fA], fun t h1 h2 h3 h4 => ?_, fun t i => by simp only [sB_fA]⟩
  funext i; simp only [sA_fA, h1, h2, h3, h4, false_and, if_false]
theorem exq_Sr {ex : Int32} : Sr s (exq s a ex).1 := by
  unfold exq
  exact F2_Sr.trans ((Sr_uA (by simp)).trans ((Sr_uA (by simp)).trans (exF_Sr _ _ (_, _))))
theorem t30 {ex : Int32} (hd : DG s) (ha : vv s a = true) (hq : Q (some (.int (exq s a ex).2)) (ob H p (exq s a ex).1)) : Cl (pj lw) 30 [.ref p, .int a, .int ex] (ob H p s) Q := by
  have r := vv_rg ha
  have r2 : 0 ≤ a.toInt ∧ a.toInt < 32 := by omega
  have hv : vv (F2 s 0) a = true := by unfold vv; rw [F2_Sr.1]; exact ha
  rw [c30]
  simp +decide only [w30_0, w30_1, w30_4, w30_5, w30_6, w30_9, w30_14, w30_15, w30_18, w30_19, w30_20, w30_21, w30_22, w30_25, w30_26, w30_27, w30_28, w30_29, w30_30, w30_31, isO_put, Option.toList_some, Option.toList_none, List.cons_append, List.nil_append, true_and, and_true, or_true, ↓reduceIte, Nat.reduceAdd, Nat.reduceLeDiff, Int32.reduceAdd, Int32.reduceToNatClampNeg, Int64.reduceAdd, Nat.add_zero, g8, g11, aw8, awn8, as8, aw11, as11, awn8, t29, t39, hv, bz, r2]
  exact l30 32 0 1 _ (hd.of (F2_Sr.trans ((Sr_uA (by simp)).trans (Sr_uA (by simp))))) (by decide) (by decide) (by decide) hq
end C

section D
variable {lw : LW} {H : AH} {p j : Nat} {s s' s1 s2 : St} {Q : Option Value → AH → Prop} {a b c d e x y t : Int32} {k n : Nat}
def PE (s : St) : Prop := ∀ y, y < 32 → nv (sA s 9 y)
def hvF (s : St) : Nat → Int32 → Int32 → Int32
  | 0, best, _ => best
  | m + 1, best, cur => if cur < 0 ∨ ¬ cur < 32 then best else if sA s 9 cur.toNatClampNeg = -1 then best else hvF s m (hvy s best (sA s 9 cur.toNatClampNeg)) (sA s 10 cur.toNatClampNeg)
theorem l32 (hp : PE s) (m : Nat) : ∀ (i best cur : Int32), i.toInt = 32 - m → m ≤ 32 → nv best → Q (some (.int (hvF s m best cur))) (ob H p s) →
    W (pj lw) 32 7 [.val (.ref p), .val (.int a), .val (.int best), .val (.int cur), .val (.int i), .unset] [] k n (ob H p s) Q := by
  induction m with
  | zero =>
    intro i best cur hi _ hb hq
    have h1 : ¬ i < 32 := by rw [lt32]; simp only [Int32.reduceToInt]; omega
    rw [w32_7]; simp +decide only [w32_9, w32_11, w32_65, w32_66, ↓reduceIte, h1]
    exact hq
  | succ m ih =>
    intro i best cur hi hm hb hq
    have h1 : i < 32 := by rw [lt32]; simp only [Int32.reduceToInt]; omega
    have h8 : (i + 1).toInt = i.toInt + 1 := ia (by simp only [Int32.reduceToInt]; omega) (by simp only [Int32.reduceToInt]; omega)
    unfold hvF at hq
    by_cases e1 : cur < 0
    · rw [if_pos (Or.inl e1)] at hq
      rw [w32_7]; simp +decide only [w32_9, w32_11, w32_14, w32_15, w32_65, w32_66, ↓reduceIte, h1, e1]; exact hq
    · by_cases e2 : cur < 32
      · have r := rn32 e1 e2
        have hv := hp cur.toNatClampNeg (by rw [cln]; omega)
        rw [if_neg (by simp [e1, e2])] at hq
        by_cases e3 : sA s 9 cur.toNatClampNeg = -1
        · rw [if_pos e3] at hq
          rw [w32_7]; simp +decide only [w32_9, w32_11, w32_14, w32_15, w32_18, w32_19, w32_21, w32_27, w32_28, w32_31, w32_32, w32_33, w32_35, w32_37, w32_38, w32_41, w32_65, w32_66, isO_put, true_and, and_true, ↓reduceIte, g9, ai9, ae9, h1, e1, e2, r, e3]; exact hq
        · rw [if_neg e3] at hq
          have q := fun Q => t38 (lw := lw) (H := H) (p := p) (s := s) (Q := Q) hb hv
          rw [w32_7]; simp +decide only [w32_9, w32_11, w32_14, w32_15, w32_18, w32_19, w32_21, w32_27, w32_28, w32_31, w32_32, w32_33, w32_35, w32_37, w32_38, w32_44, w32_45, w32_46, w32_48, w32_51i, w32_52, w32_53, w32_56, w32_57, w32_58i, w32_59, w32_62, isO_put, Option.toList_some, List.cons_append, List.nil_append, true_and, and_true, ↓reduceIte, g9, g10, ai9, ae9, ai10, ae10, h1, e1, e2, r, e3, q]
          refine W_fa 5 rfl ?_
          exact ih (i + 1) _ _ (by omega) (by omega) (hvy_nv hb hv) hq
      · rw [if_pos (Or.inr e2)] at hq
        rw [w32_7]; simp +decide only [w32_9, w32_11, w32_14, w32_15, w32_18, w32_19, w32_21, w32_24, w32_65, w32_66, ↓reduceIte, h1, e1, e2]; exact hq
theorem t32 (hp : PE s) (hq : Q (some (.int (hvF s 32 (-1) a))) (ob H p s)) : Cl (pj lw) 32 [.ref p, .int a] (ob H p s) Q := by
  rw [c32]; simp +decide only [w32_0, w32_1, w32_2, w32_3, w32_4, w32_5]
  exact l32 hp 32 0 (-1) a (by decide) (by decide) (Or.inl rfl) hq
def lcB (s : St) (j : Nat) : Bool := decide (¬ sA s 4 j = 0 ∧ sA s 5 j = 0) && cr s (Int32.ofNat j)
def lcF (s : St) : Nat → Nat → Int32 → Int32
  | _, 0, best => best
  | j, m + 1, best => lcF s (j + 1) m (if lcB s j = true then lgt s best (Int32.ofNat j) else best)
theorem l33 (m : Nat) : ∀ (i best : Int32), i.toInt = 128 - m → m ≤ 128 → nv best →
    (W (pj lw) 33 4 [.val (.ref p), .val (.int best), .val (.int i)] [] k n (ob H p s) Q ↔ Q (some (.int (lcF s i.toNatClampNeg m best))) (ob H p s)) := by
  induction m with
  | zero =>
    intro i best hi _ hb
    have h1 : ¬ i < 128 := by rw [lt32]; simp only [Int32.reduceToInt]; omega
    rw [w33_4]; simp +decide only [w33_5, w33_8, w33_50, w33_51, ↓reduceIte, h1, lcF]
  | succ m ih =>
    intro i best hi hm hb
    have h1 : i < 128 := by rw [lt32]; simp only [Int32.reduceToInt]; omega
    have r : 0 ≤ i.toInt ∧ i.toInt < 128 := by omega
    have h8 : (i + 1).toInt = i.toInt + 1 := ia (by simp only [Int32.reduceToInt]; omega) (by simp only [Int32.reduceToInt]; omega)
    have h9 : (i + 1).toNatClampNeg = i.toNatClampNeg + 1 := by rw [cln, cln]; omega
    have hI : Int32.ofNat i.toNatClampNeg = i := by rw [eq32, Int32.toInt_ofNat_of_lt (by rw [cln]; omega), cln]; omega
    unfold lcF lcB
    rw [hI, w33_4]
    by_cases e1 : sA s 4 i.toNatClampNeg = 0
    · simp +decide only [w33_5, w33_8, w33_11, w33_12, w33_15, w33_16, w33_17, w33_44, w33_47, isO_put, true_and, and_true, false_and, or_true, not_true_eq_false, ↓reduceIte, g4, ai4, ain4, ae4, ain4, h1, r, e1, Bool.false_and, decide_false]
      rw [ih (i + 1) best (by omega) (by omega) hb, h9]
    · by_cases e2 : sA s 5 i.toNatClampNeg = 0
      · have q := fun Q => t34 (lw := lw) (H := H) (p := p) (s := s) (Q := Q) r
        cases e3 : cr s i with
        | false =>
          simp +decide only [w33_5, w33_8, w33_11, w33_12, w33_15, w33_16, w33_17, w33_20, w33_21, w33_24, w33_25, w33_26, w33_29, w33_30, w33_31, w33_34, w33_44, w33_47, isO_put, Option.toList_some, List.cons_append, List.nil_append, true_and, and_true, and_false, or_true, not_false_eq_true, ↓reduceIte, g4, g5, ai4, ain4, ae4, ai5, ain5, ae5, ain4, ain5, h1, r, e1, e2, q, e3, bz, Bool.and_false]
          rw [ih (i + 1) best (by omega) (by omega) hb, h9]
        | true =>
          have q2 := fun Q => t37 (lw := lw) (H := H) (p := p) (s := s) (Q := Q) hb (Or.inr r)
          simp +decide only [w33_5, w33_8, w33_11, w33_12, w33_15, w33_16, w33_17, w33_20, w33_21, w33_24, w33_25, w33_26, w33_29, w33_30, w33_31, w33_34, w33_37, w33_38, w33_39, w33_40, w33_43i, w33_44, w33_47, isO_put, Option.toList_some, List.cons_append, List.nil_append, true_and, and_true, or_true, not_false_eq_true, ↓reduceIte, g4, g5, ai4, ain4, ae4, ai5, ain5, ae5, ain4, ain5, h1, r, e1, e2, q, e3, bz, q2, Bool.and_true]
          rw [ih (i + 1) _ (by omega) (by omega) (lgt_nv hb (Or.inr r)), h9]
      · simp +decide only [w33_5, w33_8, w33_11, w33_12, w33_15, w33_16, w33_17, w33_20, w33_21, w33_24, w33_25, w33_26, w33_44, w33_47, isO_put, true_and, and_true, false_and, and_false, or_true, not_false_eq_true, ↓reduceIte, g4, g5, ai4, ain4, ae4, ai5, ain5, ae5, ain4, ain5, h1, r, e1, e2, Bool.false_and, decide_false]
        rw [ih (i + 1) best (by omega) (by omega) hb, h9]
theorem t33 : Cl (pj lw) 33 [.ref p] (ob H p s) Q ↔ Q (some (.int (lcF s 0 128 (-1)))) (ob H p s) := by
  rw [c33]; simp +decide only [w33_0, w33_1, w33_2, w33_3]
  exact l33 128 0 (-1) (by decide) (by decide) (Or.inl rfl)
def EN (s : St) : Prop := ∀ e, e < 128 → (0 ≤ (sA s 1 e).toInt ∧ (sA s 1 e).toInt < (sI s 0).toInt) ∧ (0 ≤ (sA s 2 e).toInt ∧ (sA s 2 e).toInt < (sI s 0).toInt)
def nOk (s : St) : Prop := 2 ≤ (sI s 0).toInt ∧ (sI s 0).toInt ≤ 32
theorem aA_DG (h : DG s) : DG (aA s x e) := by
  unfold aA; split
  · intro z hz
    have h0 := h z hz
    rw [sA_uA]
    by_cases q : z = x.toNatClampNeg
    · subst q
      rw [if_pos ⟨rfl, rfl⟩, ia (by simp only [Int32.reduceToInt]; omega) (by simp only [Int32.reduceToInt]; omega)]; simp only [Int32.reduceToInt]; omega
    · rw [if_neg (fun w => q w.2), sA_uA, if_neg (by simp)]; exact h0
  · exact h
def jT (s : St) (e : Int32) : St := if vi e = true ∧ sA s 5 e.toNatClampNeg = 0 then
  aA (aA (uJ (uI (uA s 5 e.toNatClampNeg 1) 13 (sI s 13 + 1)) 14 (sJ s 14 + (sA s 3 e.toNatClampNeg).toInt64)) (sA s 1 e.toNatClampNeg) e) (sA s 2 e.toNatClampNeg) e else s
theorem aA_A {t : Nat} (h6 : t ≠ 6) (h7 : t ≠ 7) : sA (aA s x e) t = sA s t := by
  unfold aA; split
  · rw [sAn h7, sAn h6]
  · rfl
theorem aA_I : sI (aA s x e) k = sI s k := by unfold aA; split; simp only [sI_uA]; rfl
theorem aA_J : sJ (aA s x e) k = sJ s k := by unfold aA; split; simp only [sJ_uA]; rfl
theorem t25 (hd : DG s) (hE : EN s) (hn : nOk s) : Cl (pj lw) 25 [.ref p, .int e] (ob H p s) Q ↔ Q none (ob H p (jT s e)) := by
  rw [c25]; unfold jT
  cases e1 : vi e with
  | false => simp +decide only [w25_0, w25_1, w25_2, w25_5, w25_17, isO_put, Option.toList_some, List.cons_append, List.nil_append, true_and, and_true, false_and, ↓reduceIte, t40, e1, bz]
  | true =>
    have r := vi_rg e1
    have g := hE e.toNatClampNeg (by rw [cln]; omega)
    have hn' := hn.2
    by_cases e2 : sA s 5 e.toNatClampNeg = 0
    · have hd1 : DG (uJ (uI (uA s 5 e.toNatClampNeg 1) 13 (sI s 13 + 1)) 14 (sJ s 14 + (sA s 3 e.toNatClampNeg).toInt64)) := by
        intro z hz; have := hd z hz; simpa only [sA_uJ, sA_uI, sA_uA, Nat.reduceEqDiff, false_and, if_false] using this
      have q1 := fun Q => t27 (lw := lw) (H := H) (p := p) (Q := Q) (x := sA s 1 e.toNatClampNeg) (e := e) (by omega) hd1
      have q2 := fun Q => t27 (lw := lw) (H := H) (p := p) (Q := Q) (x := sA s 2 e.toNatClampNeg) (e := e) (by omega) (aA_DG (x := sA s 1 e.toNatClampNeg) (e := e) hd1)
      have q3 : sA (aA (uJ (uI (uA s 5 e.toNatClampNeg 1) 13 (sI s 13 + 1)) 14 (sJ s 14 + (sA s 3 e.toNatClampNeg).toInt64)) (sA s 1 e.toNatClampNeg) e) 2 = sA s 2 := by
        rw [aA_A (by decide) (by decide)]; funext z; simp only [sA_uJ, sA_uI, sA_uA, Nat.reduceEqDiff, false_and, if_false]
      simp +decide only [w25_0, w25_1, w25_2, w25_5, w25_8, w25_9, w25_12, w25_13, w25_14, w25_18, w25_19, w25_22, w25_23, w25_24, w25_25, w25_26, w25_27, w25_30, w25_31, w25_32, w25_35, w25_36, w25_37, w25_40, w25_41, w25_44, w25_45, w25_46, w25_47, w25_48, w25_51, w25_52, w25_53, w25_56, w25_57, w25_58, w25_59, w25_62, w25_63, w25_64, w25_67, w25_68, w25_69, w25_70, w25_73, isO_put, isOw_put, okv_int, okv_long, sI_uA, sJ_uI, sJ_uA, sA_uI, sA_uJ, sA_uA, Option.toList_some, Option.toList_none, List.cons_append, List.nil_append, true_and, and_true, or_true, ↓reduceIte, g1, g2, g3, g5, g13, s13, g14, s14, ai1, ae1, ai2, ae2, ai3, ae3, ai5, aw5, ain5, awn5, ae5, as5, ain5, awn5, t40, e1, bz, r, e2, q1, q3, q2]
    · simp +decide only [w25_0, w25_1, w25_2, w25_5, w25_8, w25_9, w25_12, w25_13, w25_14, w25_17, isO_put, Option.toList_some, List.cons_append, List.nil_append, true_and, and_true, and_false, or_true, ↓reduceIte, g5, ai5, ain5, ae5, ain5, t40, e1, bz, r, e2]
theorem aR_DG {κ : Nat} (h : DG s) (hk : κ < dN s x.toNatClampNeg) : DG (aR s x κ) := by
  intro z hz
  have h0 := h z hz
  unfold aR; rw [sA_uA, if_neg (by simp), sA_uA]
  by_cases q : z = x.toNatClampNeg
  · subst q
    unfold dN at hk
    rw [if_pos ⟨rfl, rfl⟩, isb (by simp only [Int32.reduceToInt]; omega) (by simp only [Int32.reduceToInt]; omega)]; simp only [Int32.reduceToInt]; omega
  · rw [if_neg (fun w => q w.2)]; exact h0
theorem rA_DG (h : DG s) : DG (rA s x e) := by
  unfold rA
  cases g : fnd s x.toNatClampNeg e 0 (dN s x.toNatClampNeg) with
  | none => exact h
  | some κ => exact aR_DG h (by have := (fnd_some _ _ g).1; omega)
theorem rA_A {t : Nat} (h6 : t ≠ 6) (h7 : t ≠ 7) : sA (rA s x e) t = sA s t := by
  unfold rA; split
  · rfl
  · unfold aR; rw [sAn h6, sAn h7]
theorem rA_I : sI (rA s x e) k = sI s k := by unfold rA; split; rfl; unfold aR; simp only [sI_uA]
theorem rA_J : sJ (rA s x e) k = sJ s k := by unfold rA; split; rfl; unfold aR; simp only [sJ_uA]
def lT (s : St) (e : Int32) : St := if vi e = true ∧ ¬ sA s 5 e.toNatClampNeg = 0 then
  rA (rA (uJ (uI (uA s 5 e.toNatClampNeg 0) 13 (sI s 13 - 1)) 14 (sJ s 14 - (sA s 3 e.toNatClampNeg).toInt64)) (sA s 1 e.toNatClampNeg) e) (sA s 2 e.toNatClampNeg) e else s
theorem t26 (hd : DG s) (hE : EN s) (hn : nOk s) : Cl (pj lw) 26 [.ref p, .int e] (ob H p s) Q ↔ Q none (ob H p (lT s e)) := by
  rw [c26]; unfold lT
  cases e1 : vi e with
  | false => simp +decide only [w26_0, w26_1, w26_2, w26_5, w26_17, isO_put, Option.toList_some, List.cons_append, List.nil_append, true_and, and_true, false_and, ↓reduceIte, t40, e1, bz]
  | true =>
    have r := vi_rg e1
    have g := hE e.toNatClampNeg (by rw [cln]; omega)
    have hn' := hn.2
    by_cases e2 : sA s 5 e.toNatClampNeg = 0
    · simp +decide only [w26_0, w26_1, w26_2, w26_5, w26_8, w26_9, w26_12, w26_13, w26_14, w26_17, isO_put, Option.toList_some, List.cons_append, List.nil_append, true_and, and_true, and_false, or_true, not_true_eq_false, ↓reduceIte, g5, ai5, ain5, ae5, ain5, t40, e1, bz, r, e2]
    · have hd1 : DG (uJ (uI (uA s 5 e.toNatClampNeg 0) 13 (sI s 13 - 1)) 14 (sJ s 14 - (sA s 3 e.toNatClampNeg).toInt64)) := by
        intro z hz; have := hd z hz; simpa only [sA_uJ, sA_uI, sA_uA, Nat.reduceEqDiff, false_and, if_false] using this
      have q1 := fun Q => t28 (lw := lw) (H := H) (p := p) (Q := Q) (x := sA s 1 e.toNatClampNeg) (e := e) (by omega) hd1
      have q2 := fun Q => t28 (lw := lw) (H := H) (p := p) (Q := Q) (x := sA s 2 e.toNatClampNeg) (e := e) (by omega) (rA_DG (x := sA s 1 e.toNatClampNeg) (e := e) hd1)
      have q3 : sA (rA (uJ (uI (uA s 5 e.toNatClampNeg 0) 13 (sI s 13 - 1)) 14 (sJ s 14 - (sA s 3 e.toNatClampNeg).toInt64)) (sA s 1 e.toNatClampNeg) e) 2 = sA s 2 := by
        rw [rA_A (by decide) (by decide)]; funext z; simp only [sA_uJ, sA_uI, sA_uA, Nat.reduceEqDiff, false_and, if_false]
      simp +decide only [w26_0, w26_1, w26_2, w26_5, w26_8, w26_9, w26_12, w26_13, w26_14, w26_18, w26_19, w26_22, w26_23, w26_24, w26_25, w26_26, w26_27, w26_30, w26_31, w26_32, w26_35, w26_36, w26_37, w26_40, w26_41, w26_44, w26_45, w26_46, w26_47, w26_48, w26_51, w26_52, w26_53, w26_56, w26_57, w26_58, w26_59, w26_62, w26_63, w26_64, w26_67, w26_68, w26_69, w26_70, w26_73, isO_put, isOw_put, okv_int, okv_long, sI_uA, sJ_uI, sJ_uA, sA_uI, sA_uJ, sA_uA, Option.toList_some, Option.toList_none, List.cons_append, List.nil_append, true_and, and_true, or_true, not_false_eq_true, ↓reduceIte, g1, g2, g3, g5, g13, s13, g14, s14, ai1, ae1, ai2, ae2, ai3, ae3, ai5, aw5, ain5, awn5, ae5, as5, ain5, awn5, t40, e1, bz, r, e2, q1, q3, q2]
theorem jT_A {t : Nat} (h5 : t ≠ 5) (h6 : t ≠ 6) (h7 : t ≠ 7) : sA (jT s e) t = sA s t := by
  unfold jT; split
  · rw [aA_A h6 h7, aA_A h6 h7]; funext z; rw [sA_uJ, sA_uI, sA_uA, if_neg (fun w => h5 w.1)]
  · rfl
theorem lT_A {t : Nat} (h5 : t ≠ 5) (h6 : t ≠ 6) (h7 : t ≠ 7) : sA (lT s e) t = sA s t := by
  unfold lT; split
  · rw [rA_A h6 h7, rA_A h6 h7]; funext z; rw [sA_uJ, sA_uI, sA_uA, if_neg (fun w => h5 w.1)]
  · rfl
theorem jT_I (h : k ≠ 13) : sI (jT s e) k = sI s k := by unfold jT; split; rw [aA_I, aA_I, sI_uJ, sI_uI, if_neg h, sI_uA]; rfl
theorem lT_I (h : k ≠ 13) : sI (lT s e) k = sI s k := by unfold lT; split; rw [rA_I, rA_I, sI_uJ, sI_uI, if_neg h, sI_uA]; rfl
theorem jT_DG (h : DG s) : DG (jT s e) := by
  unfold jT; split
  · refine aA_DG (aA_DG ?_)
    intro z hz; have := h z hz; simpa only [sA_uJ, sA_uI, sA_uA, Nat.reduceEqDiff, false_and, if_false] using this
  · exact h
theorem lT_DG (h : DG s) : DG (lT s e) := by
  unfold lT; split
  · refine rA_DG (rA_DG ?_)
    intro z hz; have := h z hz; simpa only [sA_uJ, sA_uI, sA_uA, Nat.reduceEqDiff, false_and, if_false] using this
  · exact h
theorem EN.of (h : EN s) (h0 : sI s' 0 = sI s 0) (h1 : sA s' 1 = sA s 1) (h2 : sA s' 2 = sA s 2) : EN s' := by unfold EN; rw [h0, h1, h2]; exact h
theorem nOk.of (h : nOk s) (h0 : sI s' 0 = sI s 0) : nOk s' := by unfold nOk; rw [h0]; exact h
theorem jT_EN (h : EN s) : EN (jT s e) := h.of (jT_I (by decide)) (jT_A (by decide) (by decide) (by decide)) (jT_A (by decide) (by decide) (by decide))
theorem lT_EN (h : EN s) : EN (lT s e) := h.of (lT_I (by decide)) (lT_A (by decide) (by decide) (by decide)) (lT_A (by decide) (by decide) (by decide))
theorem jT_nOk (h : nOk s) : nOk (jT s e) := h.of (jT_I (by decide))
theorem lT_nOk (h : nOk s) : nOk (lT s e) := h.of (lT_I (by decide))
theorem Sr.EN (g : Sr s s') (h : EN s) : EN s' := h.of (g.1 0) (g.2.2.1 _ (by decide) (by decide) (by decide) (by decide)) (g.2.2.1 _ (by decide) (by decide) (by decide) (by decide))
theorem Sr.nOk (g : Sr s s') (h : nOk s) : nOk s' := h.of (g.1 0)
theorem vs1_PE {ex : Int32} (h : PE s) : PE (vs1 s x ex e t).1 := by
  unfold vs1; split
  · exact h
  · rename_i q
    have q' : vi e = true := by cases w : vi e with
      | true => rfl
      | false => exact absurd (Or.inr w) q
    split
    · exact h
    · intro y hy
      show nv (sA (uA (uA (uA (uA s 8 _ 1) 9 _ e) 10 _ x) 11 _ _) 9 y)
      rw [sA_uA, if_neg (by simp), sA_uA, if_neg (by simp), sA_uA]
      split
      · exact Or.inr (vi_rg q')
      · rw [sA_uA, if_neg (by simp)]; exact h y hy
theorem vsF_PE {ex : Int32} : ∀ (m j : Nat) (q : St × Int32), PE q.1 → PE (vsF x ex j m q).1
  | 0, j, q, h => h
  | m + 1, j, q, h => by unfold vsF; exact vsF_PE m (j + 1) _ (vs1_PE h)
theorem vis_PE {ex : Int32} {q : St × Int32} (h : PE q.1) : PE (vis q x ex).1 := by
  unfold vis; split
  · exact h
  · exact vsF_PE _ _ _ h
theorem exF_PE {ex : Int32} : ∀ (m i : Nat) (q : St × Int32), PE q.1 → PE (exF ex i m q).1
  | 0, i, q, h => h
  | m + 1, i, q, h => by
    unfold exF; split
    · exact exF_PE m (i + 1) _ (vis_PE h)
    · exact h
theorem F2_9 {y : Nat} (h : y < 32) : sA (F2 s 0) 9 y = -1 := by
  unfold F2; simp only [sA_fA, Nat.reduceEqDiff, false_and, if_false, true_and, Nat.zero_le, h, if_true]
theorem exq_PE {ex : Int32} : PE (exq s a ex).1 := by
  unfold exq
  refine exF_PE _ _ (_, _) ?_
  intro y hy
  show nv (sA (uA (uA (F2 s 0) 8 _ 1) 11 0 a) 9 y)
  rw [sA_uA, if_neg (by simp), sA_uA, if_neg (by simp), F2_9 hy]; exact Or.inl rfl
def sx (s : St) (e : Int32) : St := (exq s (sA s 1 e.toNatClampNeg) (-1)).1
def iU (s : St) (e : Int32) : St :=
  if sA (sx s e) 8 (sA s 2 e.toNatClampNeg).toNatClampNeg = 0 then stL2 (jT (sx s e) e) e (-1) else
  if hvF (sx s e) 32 (-1) (sA s 2 e.toNatClampNeg) = -1 ∨ pc (sx s e) e (hvF (sx s e) 32 (-1) (sA s 2 e.toNatClampNeg)) = false then stL2 (sx s e) (-1) (-1) else
  stL2 (jT (lT (sx s e) (hvF (sx s e) 32 (-1) (sA s 2 e.toNatClampNeg))) e) e (hvF (sx s e) 32 (-1) (sA s 2 e.toNatClampNeg))
theorem hvF_nv (hp : PE s) : ∀ (m : Nat) (best cur : Int32), nv best → nv (hvF s m best cur)
  | 0, best, cur, h => h
  | m + 1, best, cur, h => by
    unfold hvF; split
    · exact h
    · rename_i q
      split
      · exact h
      · have q1 : ¬ cur < 0 := fun w => q (Or.inl w)
        have q2 : cur < 32 := Decidable.byContradiction fun w => q (Or.inr w)
        have := rn32 q1 q2
        exact hvF_nv hp m _ _ (hvy_nv h (hp _ (by rw [cln]; omega)))
theorem t18 (he : 0 ≤ e.toInt ∧ e.toInt < 128) (hd : DG s) (hE : EN s) (hn : nOk s) (hq : Q none (ob H p (iU s e))) : Cl (pj lw) 18 [.ref p, .int e] (ob H p s) Q := by
  have g := hE e.toNatClampNeg (by rw [cln]; omega)
  have hn' := hn.2
  have hS : Sr s (sx s e) := exq_Sr
  have hA2 : sA (sx s e) 2 = sA s 2 := hS.2.2.1 _ (by decide) (by decide) (by decide) (by decide)
  have v1 : vv s (sA s 1 e.toNatClampNeg) = true := vv_t g.1 hn'
  have v2 : vv (sx s e) (sA s 2 e.toNatClampNeg) = true := by unfold vv; rw [hS.1]; exact vv_t g.2 hn'
  have r2 : 0 ≤ (sA s 2 e.toNatClampNeg).toInt ∧ (sA s 2 e.toNatClampNeg).toInt < 32 := by omega
  have hdx : DG (sx s e) := hd.of hS
  have hEx : EN (sx s e) := hS.EN hE
  have hnx : nOk (sx s e) := hS.nOk hn
  rw [c18]; simp +decide only [w18_0, w18_1, w18_2, w18_5, w18_6, w18_7, w18_8, isO_put, true_and, and_true, g1, ai1, ae1, he]
  refine t30 hd v1 ?_
  have hsx : (exq s (sA s 1 e.toNatClampNeg) (-1)).1 = sx s e := rfl
  unfold iU at hq
  simp +decide only [hsx]
  have q25 := fun Q => t25 (lw := lw) (H := H) (p := p) (Q := Q) (e := e) hdx hEx hnx
  have hp : PE (sx s e) := exq_PE
  by_cases e1 : sA (sx s e) 8 (sA s 2 e.toNatClampNeg).toNatClampNeg = 0
  · rw [if_pos e1] at hq
    simp +decide only [w18_11, w18_12, w18_13, w18_16, w18_17, w18_18, w18_19, w18_20, w18_21, w18_24, w18_27, w18_28, w18_31, w18_32, w18_33, w18_36, w18_37, w18_38, w18_41, w18_42, w18_43, w18_44, w18_47, isO_put, Option.toList_some, Option.toList_none, List.cons_append, List.nil_append, true_and, and_true, or_true, ↓reduceIte, Nat.reduceAdd, Nat.reduceLeDiff, Int32.reduceAdd, Int64.reduceAdd, Nat.add_zero, g2, g8, ai2, ae2, ai8, ain8, ae8, ain8, he, t39, hA2, v2, bz, r2, e1, q25, t21]
    exact hq
  · rw [if_neg e1] at hq
    simp +decide only [w18_11, w18_12, w18_13, w18_16, w18_17, w18_18, w18_19, w18_20, w18_21, w18_24, w18_27, w18_28, w18_31, w18_32, w18_33, w18_48, w18_49, w18_50, isO_put, Option.toList_some, List.cons_append, List.nil_append, true_and, and_true, or_true, ↓reduceIte, g2, g8, ai2, ae2, ai8, ain8, ae8, ain8, he, t39, hA2, v2, bz, r2, e1]
    refine t32 hp ?_
    have hv := hvF_nv hp 32 (-1) (sA s 2 e.toNatClampNeg) (Or.inl rfl)
    generalize hvF (sx s e) 32 (-1) (sA s 2 e.toNatClampNeg) = m at *
    by_cases e2 : m = -1
    · rw [if_pos (Or.inl e2)] at hq
      simp +decide only [w18_53, w18_54, w18_55, w18_56, w18_85, w18_86, w18_87, w18_88, w18_91, isO_put, Option.toList_some, Option.toList_none, List.cons_append, List.nil_append, true_and, and_true, ↓reduceIte, e2, t21]
      exact hq
    · have rm := hv.resolve_left e2
      have q36 := fun Q => t36 (lw := lw) (H := H) (p := p) (s := sx s e) (Q := Q) he rm
      cases e3 : pc (sx s e) e m with
      | false =>
        rw [if_pos (Or.inr e3)] at hq
        simp +decide only [w18_53, w18_54, w18_55, w18_56, w18_59, w18_60, w18_61, w18_62, w18_65, w18_85, w18_86, w18_87, w18_88, w18_91, isO_put, Option.toList_some, Option.toList_none, List.cons_append, List.nil_append, true_and, and_true, ↓reduceIte, e2, q36, e3, bz, t21]
        exact hq
      | true =>
        rw [if_neg (by rw [e3]; simp [e2])] at hq
        have q26 := fun Q => t26 (lw := lw) (H := H) (p := p) (Q := Q) (e := m) hdx hEx hnx
        have q25' := fun Q => t25 (lw := lw) (H := H) (p := p) (Q := Q) (e := e) (lT_DG (e := m) hdx) (lT_EN (e := m) hEx) (lT_nOk (e := m) hnx)
        simp +decide only [w18_53, w18_54, w18_55, w18_56, w18_59, w18_60, w18_61, w18_62, w18_65, w18_68, w18_69, w18_70, w18_73, w18_74, w18_75, w18_78, w18_79, w18_80, w18_81, w18_84, isO_put, Option.toList_some, Option.toList_none, List.cons_append, List.nil_append, true_and, and_true, ↓reduceIte, Nat.reduceAdd, Nat.reduceLeDiff, Int32.reduceAdd, Int64.reduceAdd, Nat.add_zero, e2, q36, e3, bz, t21, q26, q25']
        exact hq
end D

section E
variable {lw : LW} {H : AH} {p j : Nat} {s s' s1 s2 : St} {Q : Option Value → AH → Prop} {a b c d e x y t u v w : Int32} {k n : Nat}
def cT1 (s : St) (e : Int32) : St := sx (frS (lT s e) e) e
def cT (s : St) (e : Int32) : St := stL2 (if lcF (cT1 s e) 0 128 (-1) = -1 then cT1 s e else jT (cT1 s e) (lcF (cT1 s e) 0 128 (-1))) (lcF (cT1 s e) 0 128 (-1)) e
theorem frS_A {t : Nat} (h4 : t ≠ 4) (h5 : t ≠ 5) : sA (frS s e) t = sA s t := by unfold frS; funext z; rw [sA_uI, sA_uA, if_neg (fun w => h5 w.1), sA_uA, if_neg (fun w => h4 w.1)]
theorem frS_I (h : k ≠ 12) : sI (frS s e) k = sI s k := by unfold frS; rw [sI_uI, if_neg h, sI_uA, sI_uA]
theorem frS_DG (h : DG s) : DG (frS s e) := by unfold DG; rw [frS_A (by decide) (by decide)]; exact h
theorem frS_EN (h : EN s) : EN (frS s e) := h.of (frS_I (by decide)) (frS_A (by decide) (by decide)) (frS_A (by decide) (by decide))
theorem frS_nOk (h : nOk s) : nOk (frS s e) := h.of (frS_I (by decide))
theorem sx_Sr : Sr s (sx s e) := exq_Sr
set_option maxRecDepth 100000 in
theorem t19 (he : 0 ≤ e.toInt ∧ e.toInt < 128) (hd : DG s) (hE : EN s) (hn : nOk s) (hq : Q none (ob H p (cT s e))) : Cl (pj lw) 19 [.ref p, .int e] (ob H p s) Q := by
  have q26 := fun Q => t26 (lw := lw) (H := H) (p := p) (Q := Q) (e := e) hd hE hn
  have q24 := fun Q => t24 (lw := lw) (H := H) (p := p) (Q := Q) (s := lT s e) he
  have hd1 : DG (frS (lT s e) e) := frS_DG (lT_DG hd)
  have hE1 : EN (frS (lT s e) e) := frS_EN (lT_EN hE)
  have hn1 : nOk (frS (lT s e) e) := frS_nOk (lT_nOk hn)
  have g := hE1 e.toNatClampNeg (by rw [cln]; omega)
  have v1 : vv (frS (lT s e) e) (sA (frS (lT s e) e) 1 e.toNatClampNeg) = true := vv_t g.1 hn1.2
  rw [c19]; simp +decide only [w19_0, w19_1, w19_2, w19_5, w19_6, w19_7, w19_10, w19_11, w19_12, w19_15, w19_16, w19_17, w19_18, isO_put, Option.toList_none, List.nil_append, true_and, and_true, Nat.reduceAdd, Nat.reduceLeDiff, Int32.reduceAdd, Int64.reduceAdd, Nat.add_zero, g1, ai1, ae1, q26, q24, he]
  refine t30 hd1 v1 ?_
  have hsx : (exq (frS (lT s e) e) (sA (frS (lT s e) e) 1 e.toNatClampNeg) (-1)).1 = cT1 s e := rfl
  have hS : Sr (frS (lT s e) e) (cT1 s e) := sx_Sr
  have q25 := fun Q => t25 (lw := lw) (H := H) (p := p) (Q := Q) (e := lcF (cT1 s e) 0 128 (-1)) (hd1.of hS) (hS.EN hE1) (hS.nOk hn1)
  unfold cT at hq
  by_cases e1 : lcF (cT1 s e) 0 128 (-1) = -1
  · rw [if_pos e1] at hq
    simp +decide only [w19_21, w19_22, w19_23, w19_26, w19_27, w19_28, w19_29, w19_37, w19_38, w19_39, w19_40, w19_43, isO_put, Option.toList_some, Option.toList_none, List.cons_append, List.nil_append, true_and, and_true, ↓reduceIte, hsx, t33, e1, t21]
    rw [e1] at hq; exact hq
  · rw [if_neg e1] at hq
    simp +decide only [w19_21, w19_22, w19_23, w19_26, w19_27, w19_28, w19_29, w19_32, w19_33, w19_34, w19_37, w19_38, w19_39, w19_40, w19_43, isO_put, Option.toList_some, Option.toList_none, List.cons_append, List.nil_append, true_and, and_true, ↓reduceIte, Nat.reduceAdd, Nat.reduceLeDiff, Int32.reduceAdd, Int64.reduceAdd, Nat.add_zero, hsx, t33, e1, t21, q25]
    exact hq
def rW1 (s : St) (e c : Int32) : St := sx (uA (lT s e) 3 e.toNatClampNeg c) e
def rW (s : St) (e c : Int32) : St := if lcF (rW1 s e c) 0 128 (-1) = -1 ∨ lcF (rW1 s e c) 0 128 (-1) = e then stL2 (jT (rW1 s e c) e) (-1) (-1) else stL2 (jT (rW1 s e c) (lcF (rW1 s e c) 0 128 (-1))) (lcF (rW1 s e c) 0 128 (-1)) e
theorem u3_DG (h : DG s) : DG (uA s 3 k c) := by unfold DG; rw [sAn (by decide)]; exact h
theorem u3_EN (h : EN s) : EN (uA s 3 k c) := h.of sI_uA (sAn (by decide)) (sAn (by decide))
theorem u3_nOk (h : nOk s) : nOk (uA s 3 k c) := h.of sI_uA
set_option maxRecDepth 100000 in
theorem t20 (he : 0 ≤ e.toInt ∧ e.toInt < 128) (hd : DG s) (hE : EN s) (hn : nOk s) (hq : Q none (ob H p (rW s e c))) : Cl (pj lw) 20 [.ref p, .int e, .int c] (ob H p s) Q := by
  have q26 := fun Q => t26 (lw := lw) (H := H) (p := p) (Q := Q) (e := e) hd hE hn
  have hd1 : DG (uA (lT s e) 3 e.toNatClampNeg c) := u3_DG (lT_DG hd)
  have hE1 : EN (uA (lT s e) 3 e.toNatClampNeg c) := u3_EN (lT_EN hE)
  have hn1 : nOk (uA (lT s e) 3 e.toNatClampNeg c) := u3_nOk (lT_nOk hn)
  have g := hE1 e.toNatClampNeg (by rw [cln]; omega)
  have v1 : vv (uA (lT s e) 3 e.toNatClampNeg c) (sA (uA (lT s e) 3 e.toNatClampNeg c) 1 e.toNatClampNeg) = true := vv_t g.1 hn1.2
  rw [sAn (show (1 : Nat) ≠ 3 by decide)] at v1
  have hsx : (exq (uA (lT s e) 3 e.toNatClampNeg c) (sA (lT s e) 1 e.toNatClampNeg) (-1)).1 = rW1 s e c := by unfold rW1 sx; rw [sAn (show (1 : Nat) ≠ 3 by decide)]
  rw [c20]; simp +decide only [w20_0, w20_1, w20_2, w20_5, w20_6, w20_9, w20_10, w20_11, w20_12, w20_13, w20_14, w20_17, w20_18, w20_19, w20_20, isO_put, sA_uA, Option.toList_none, List.nil_append, true_and, and_true, ↓reduceIte, g1, g3, ai1, ae1, aw3, as3, q26, he]
  refine t30 hd1 v1 ?_
  have hS : Sr (uA (lT s e) 3 e.toNatClampNeg c) (rW1 s e c) := sx_Sr
  have q25 := fun e Q => t25 (lw := lw) (H := H) (p := p) (Q := Q) (e := e) (hd1.of hS) (hS.EN hE1) (hS.nOk hn1)
  unfold rW at hq
  by_cases e1 : lcF (rW1 s e c) 0 128 (-1) = -1
  · rw [if_pos (Or.inl e1)] at hq
    simp +decide only [w20_23, w20_24, w20_25, w20_28, w20_29, w20_30, w20_31, w20_39, w20_40, w20_41, w20_44, w20_45, w20_46, w20_47, w20_50, isO_put, Option.toList_some, Option.toList_none, List.cons_append, List.nil_append, true_and, and_true, ↓reduceIte, Nat.reduceAdd, Nat.reduceLeDiff, Int32.reduceAdd, Int64.reduceAdd, Nat.add_zero, hsx, t33, e1, t21, q25]
    exact hq
  · by_cases e2 : lcF (rW1 s e c) 0 128 (-1) = e
    · rw [if_pos (Or.inr e2)] at hq
      have e3 : ¬ e = -1 := by rw [← e2]; exact e1
      simp +decide only [w20_23, w20_24, w20_25, w20_28, w20_29, w20_30, w20_31, w20_34, w20_35, w20_36, w20_39, w20_40, w20_41, w20_44, w20_45, w20_46, w20_47, w20_50, isO_put, Option.toList_some, Option.toList_none, List.cons_append, List.nil_append, true_and, and_true, ↓reduceIte, Nat.reduceAdd, Nat.reduceLeDiff, Int32.reduceAdd, Int64.reduceAdd, Nat.add_zero, hsx, t33, e2, e3, t21, q25]
      exact hq
    · rw [if_neg (fun w => w.elim e1 e2)] at hq
      simp +decide only [w20_23, w20_24, w20_25, w20_28, w20_29, w20_30, w20_31, w20_34, w20_35, w20_36, w20_51, w20_52, w20_53, w20_56, w20_57, w20_58, w20_59, w20_62, isO_put, Option.toList_some, Option.toList_none, List.cons_append, List.nil_append, true_and, and_true, ↓reduceIte, Nat.reduceAdd, Nat.reduceLeDiff, Int32.reduceAdd, Int64.reduceAdd, Nat.add_zero, hsx, t33, e1, e2, t21, q25]
      exact hq
theorem stE_DG (h : DG s) : DG (stE s a b c d) := by
  intro z hz; have := h z hz; unfold stE; simpa only [sA_uI, sA_uA, Nat.reduceEqDiff, false_and, if_false] using this
theorem stE_nOk (h : nOk s) : nOk (stE s a b c d) := h.of (by unfold stE; simp only [sI_uI, sI_uA, Nat.reduceEqDiff, if_false])
theorem stE_EN (h : EN s) (hb : 0 ≤ b.toInt ∧ b.toInt < (sI s 0).toInt) (hc : 0 ≤ c.toInt ∧ c.toInt < (sI s 0).toInt) : EN (stE s a b c d) := by
  intro z hz
  have := h z hz
  unfold stE; simp only [sI_uI, sA_uI, sI_uA, sA_uA, Nat.reduceEqDiff, false_and, true_and, if_false]
  by_cases q : z = a.toNatClampNeg
  · simp only [q, if_true]; exact ⟨hb, hc⟩
  · simp only [q, if_false]; exact this
def adS (s : St) (f : Nat) (u v w : Int32) : St := iU (stE s (Int32.ofNat f) u v (cl (-1000000) 1000000 w)) (Int32.ofNat f)
theorem t2n (h : vv s u = false ∨ vv s v = false) (hq : Q (some (.int (-2))) (ob H p s)) : Cl (pj lw) 2 [.ref p, .int u, .int v, .int w] (ob H p s) Q := by
  rw [c2]
  cases e1 : vv s u with
  | false => simp +decide only [w2_0, w2_1, w2_2, w2_5, w2_16, w2_18, isO_put, Option.toList_some, List.cons_append, List.nil_append, true_and, and_true, ↓reduceIte, t39, e1, bz]; exact hq
  | true =>
    have e2 : vv s v = false := h.resolve_left (by rw [e1]; decide)
    simp +decide only [w2_0, w2_1, w2_2, w2_5, w2_8, w2_9, w2_10, w2_13, w2_16, w2_18, isO_put, Option.toList_some, List.cons_append, List.nil_append, true_and, and_true, ↓reduceIte, t39, e1, e2, bz]; exact hq
theorem t2l (h : vv s u = true) (hq : Q (some (.int (-3))) (ob H p s)) : Cl (pj lw) 2 [.ref p, .int u, .int u, .int w] (ob H p s) Q := by
  rw [c2]; simp +decide only [w2_0, w2_1, w2_2, w2_5, w2_8, w2_9, w2_10, w2_13, w2_19, w2_20, w2_21, w2_24, w2_26, isO_put, Option.toList_some, List.cons_append, List.nil_append, true_and, and_true, ↓reduceIte, t39, h, bz]; exact hq
theorem t2 {f : Nat} (hf : f < 128) (h0 : sA s 4 f = 0) (h1 : ∀ i, i < f → sA s 4 i ≠ 0) (hu : vv s u = true) (hv : vv s v = true) (hne : u ≠ v) (hd : DG s) (hE : EN s) (hn : nOk s)
    (hq : Q (some (.int (Int32.ofNat f))) (ob H p (adS s f u v w))) : Cl (pj lw) 2 [.ref p, .int u, .int v, .int w] (ob H p s) Q := by
  have hF : (Int32.ofNat f).toInt = f := Int32.toInt_ofNat_of_lt (by omega)
  have q22 := fun Q => t22 (lw := lw) (H := H) (p := p) (s := s) (Q := Q) hf h0 h1
  have q23 := fun d Q => t23 (lw := lw) (H := H) (p := p) (s := s) (b := u) (c := v) (d := d) (Q := Q) (a := Int32.ofNat f) (by omega)
  have e1 : ¬ Int32.ofNat f = -1 := by rw [eq32, hF]; simp only [Int32.reduceToInt]; omega
  rw [c2]
  simp +decide only [w2_0, w2_1, w2_2, w2_5, w2_8, w2_9, w2_10, w2_13, w2_19, w2_20, w2_21, w2_27, w2_28, w2_31, w2_33, w2_35, w2_36, w2_42, w2_43, w2_44, w2_47, w2_49, w2_50, w2_52, w2_53, w2_54, w2_56, w2_59, w2_60, w2_62, w2_65, w2_67, isO_put, Option.toList_some, List.cons_append, List.nil_append, true_and, and_true, ↓reduceIte, Nat.reduceAdd, Nat.reduceLeDiff, Int32.reduceAdd, Int64.reduceAdd, t39, hu, hv, bz, eq_false hne, q22, e1, t41, q23]
  refine t18 (by omega) (stE_DG hd) (stE_EN hE (vv_rg hu).1 (vv_rg hv).1) (stE_nOk hn) ?_
  exact hq
def rmS (s : St) (e : Int32) : St := if pr s e = true then if sA s 5 e.toNatClampNeg = 0 then stL2 (frS s e) (-1) (-1) else cT s e else s
theorem pr_rg (h : pr s e = true) : 0 ≤ e.toInt ∧ e.toInt < 128 := by unfold pr at h; rw [Bool.and_eq_true] at h; exact vi_rg h.1
theorem t3 (hd : DG s) (hE : EN s) (hn : nOk s) (hq : Q (some (.int (bz (pr s e)))) (ob H p (rmS s e))) : Cl (pj lw) 3 [.ref p, .int e] (ob H p s) Q := by
  rw [c3]; unfold rmS at hq
  cases e1 : pr s e with
  | false =>
    rw [e1, if_neg (by decide)] at hq
    simp +decide only [w3_0, w3_1, w3_2, w3_5, w3_8, w3_9, isO_put, Option.toList_some, List.cons_append, List.nil_append, true_and, and_true, ↓reduceIte, t5, e1, bz]; exact hq
  | true =>
    have r := pr_rg e1
    rw [e1, if_pos rfl] at hq
    have q24 := fun Q => t24 (lw := lw) (H := H) (p := p) (Q := Q) (s := s) r
    by_cases e2 : sA s 5 e.toNatClampNeg = 0
    · rw [if_pos e2] at hq
      simp +decide only [w3_0, w3_1, w3_2, w3_5, w3_10, w3_11, w3_14, w3_15, w3_16, w3_19, w3_20, w3_21, w3_24, w3_25, w3_26, w3_27, w3_30, w3_31, isO_put, Option.toList_some, List.cons_append, List.nil_append, true_and, and_true, or_true, ↓reduceIte, Nat.reduceAdd, Nat.reduceLeDiff, Int32.reduceAdd, Int64.reduceAdd, Nat.add_zero, g5, ai5, ain5, ae5, ain5, t5, e1, bz, r, e2, q24, t21]; exact hq
    · rw [if_neg e2] at hq
      simp +decide only [w3_0, w3_1, w3_2, w3_5, w3_10, w3_11, w3_14, w3_15, w3_16, w3_32, w3_33, w3_34, w3_37, w3_38, isO_put, Option.toList_some, List.cons_append, List.nil_append, true_and, and_true, or_true, ↓reduceIte, g5, ai5, ain5, ae5, ain5, t5, e1, bz, r, e2]
      refine t19 r hd hE hn ?_
      exact hq
def swS (s : St) (e w : Int32) : St := if pr s e = true then if sA s 5 e.toNatClampNeg = 0 then iU (uA s 3 e.toNatClampNeg (cl (-1000000) 1000000 w)) e else rW s e (cl (-1000000) 1000000 w) else s
theorem t4 (hd : DG s) (hE : EN s) (hn : nOk s) (hq : Q (some (.int (bz (pr s e)))) (ob H p (swS s e w))) : Cl (pj lw) 4 [.ref p, .int e, .int w] (ob H p s) Q := by
  rw [c4]; unfold swS at hq
  cases e1 : pr s e with
  | false =>
    rw [e1, if_neg (by decide)] at hq
    simp +decide only [w4_0, w4_1, w4_2, w4_5, w4_8, w4_9, isO_put, Option.toList_some, List.cons_append, List.nil_append, true_and, and_true, ↓reduceIte, t5, e1, bz]; exact hq
  | true =>
    have r : 0 ≤ e.toInt ∧ e.toInt < 128 := by unfold pr at e1; rw [Bool.and_eq_true] at e1; exact vi_rg e1.1
    rw [e1, if_pos rfl] at hq
    by_cases e2 : sA s 5 e.toNatClampNeg = 0
    · rw [if_pos e2] at hq
      simp +decide only [w4_0, w4_1, w4_2, w4_5, w4_10, w4_11, w4_12, w4_15, w4_16, w4_17, w4_20, w4_21, w4_22, w4_34, w4_35, w4_38, w4_39, w4_40, w4_41, w4_42, w4_43, w4_46, w4_47, isO_put, Option.toList_some, List.cons_append, List.nil_append, true_and, and_true, or_true, ↓reduceIte, g3, g5, aw3, as3, ai5, ain5, ae5, ain5, t5, t41, e1, bz, r, e2]
      refine t18 r (u3_DG hd) (u3_EN hE) (u3_nOk hn) ?_
      exact hq
    · rw [if_neg e2] at hq
      simp +decide only [w4_0, w4_1, w4_2, w4_5, w4_10, w4_11, w4_12, w4_15, w4_16, w4_17, w4_20, w4_21, w4_22, w4_25, w4_26, w4_27, w4_28, w4_31, w4_46, w4_47, isO_put, Option.toList_some, List.cons_append, List.nil_append, true_and, and_true, or_true, ↓reduceIte, g5, ai5, ain5, ae5, ain5, t5, t41, e1, bz, r, e2]
      refine t20 r hd hE hn ?_
      exact hq
end E

section F
variable {lw : LW} {H : AH} {p j : Nat} {s s' s1 s2 : St} {Q : Option Value → AH → Prop} {a b c d e x y t u v w z : Int32} {k n X Y : Nat}
def MEM (s : St) (X : Nat) (z : Int32) : Prop := ∃ k, k < dN s X ∧ sA s 6 (X * 32 + k) = z
def ND (s : St) (X : Nat) : Prop := ∀ k k', k < k' → k' < dN s X → sA s 6 (X * 32 + k) ≠ sA s 6 (X * 32 + k')
theorem MEM.of (h6 : sA s' 6 = sA s 6) (h7 : sA s' 7 = sA s 7) : MEM s' X z ↔ MEM s X z := by unfold MEM dN; rw [h6, h7]
theorem ND.of (h6 : sA s' 6 = sA s 6) (h7 : sA s' 7 = sA s 7) : ND s' X ↔ ND s X := by unfold ND dN; rw [h6, h7]
theorem DG.dn (h : DG s) (hX : X < 32) : dN s X ≤ 32 ∧ (sA s 7 X).toInt = dN s X := by have := h X hX; unfold dN; omega
theorem aR_dN {κ : Nat} (hd : DG s) (hX : X < 32) (hx : x.toNatClampNeg = X) (hk : κ < dN s X) : dN (aR s x κ) X = dN s X - 1 := by
  have h0 := hd X hX
  unfold dN at *; unfold aR
  rw [sA_uA, if_neg (by simp), sA_uA, if_pos ⟨rfl, hx.symm⟩, hx, isb (by simp only [Int32.reduceToInt]; omega) (by simp only [Int32.reduceToInt]; omega)]; simp only [Int32.reduceToInt]; omega
theorem aR_6 {κ i : Nat} (hx : x.toNatClampNeg = X) : sA (aR s x κ) 6 (X * 32 + i) = if i = κ then sA s 6 (X * 32 + (dN s X - 1)) else sA s 6 (X * 32 + i) := by
  unfold aR; rw [sA_uA, hx]
  by_cases q : i = κ
  · subst q; rw [if_pos ⟨rfl, rfl⟩, if_pos rfl]
  · rw [if_neg (fun w => q (by omega)), if_neg q, sA_uA, if_neg (by simp)]
theorem rA_mem (hd : DG s) (hX : X < 32) (hx : x.toNatClampNeg = X) (nd : ND s X) : MEM (rA s x e) X z ↔ MEM s X z ∧ z ≠ e := by
  unfold rA; rw [hx]
  cases g : fnd s X e 0 (dN s X) with
  | none =>
    have q := fnd_none _ _ g
    show MEM s X z ↔ _
    constructor
    · rintro ⟨k, hk, rfl⟩; exact ⟨⟨k, hk, rfl⟩, q k (Nat.zero_le _) (by omega)⟩
    · exact fun h => h.1
  | some κ =>
    have q := fnd_some _ _ g
    have hk : κ < dN s X := by omega
    show MEM (aR s x κ) X z ↔ _
    unfold MEM
    rw [aR_dN hd hX hx hk]
    constructor
    · rintro ⟨k, h1, h2⟩
      rw [aR_6 hx] at h2
      by_cases w : k = κ
      · rw [if_pos w] at h2
        refine ⟨⟨dN s X - 1, by omega, h2⟩, ?_⟩
        rw [← h2, ← q.2.1]
        exact (nd κ (dN s X - 1) (by omega) (by omega)).symm
      · rw [if_neg w] at h2
        refine ⟨⟨k, by omega, h2⟩, ?_⟩
        rw [← h2, ← q.2.1]
        rcases Nat.lt_or_gt_of_ne w with w | w
        · exact nd k κ w hk
        · exact (nd κ k w (by omega)).symm
    · rintro ⟨⟨k, h1, h2⟩, h3⟩
      have w : k ≠ κ := fun w => h3 (by rw [← h2, w]; exact q.2.1)
      by_cases w2 : k = dN s X - 1
      · refine ⟨κ, by omega, ?_⟩
        rw [aR_6 hx, if_pos rfl, ← w2]; exact h2
      · refine ⟨k, by omega, ?_⟩
        rw [aR_6 hx, if_neg w]; exact h2
theorem rA_nd (hd : DG s) (hX : X < 32) (hx : x.toNatClampNeg = X) (nd : ND s X) : ND (rA s x e) X := by
  unfold rA; rw [hx]
  cases g : fnd s X e 0 (dN s X) with
  | none => exact nd
  | some κ =>
    have q := fnd_some _ _ g
    have hk : κ < dN s X := by omega
    show ND (aR s x κ) X
    unfold ND
    rw [aR_dN hd hX hx hk]
    intro k k' h1 h2
    rw [aR_6 hx, aR_6 hx]
    by_cases w : k = κ
    · rw [if_pos w, if_neg (by omega)]
      exact (nd k' (dN s X - 1) (by omega) (by omega)).symm
    · rw [if_neg w]
      by_cases w' : k' = κ
      · rw [if_pos w']; exact nd k (dN s X - 1) (by omega) (by omega)
      · rw [if_neg w']; exact nd k k' h1 (by omega)
theorem rA_ot (hd : DG s) (hY : Y < 32) (hx : x.toNatClampNeg = X) (hne : Y ≠ X) : dN (rA s x e) Y = dN s Y ∧ ∀ i, i < 32 → sA (rA s x e) 6 (Y * 32 + i) = sA s 6 (Y * 32 + i) := by
  unfold rA; rw [hx]
  cases g : fnd s X e 0 (dN s X) with
  | none => exact ⟨rfl, fun _ _ => rfl⟩
  | some κ =>
    show dN (aR s x κ) Y = dN s Y ∧ _
    have q := fnd_some _ _ g
    by_cases hX : X < 32
    · have hk := hd.dn hX
      refine ⟨?_, fun i hi => ?_⟩
      · unfold aR dN; rw [sA_uA, if_neg (by simp), sA_uA, if_neg (fun w => hne (by rw [← hx]; exact w.2))]
      · show sA (aR s x κ) 6 _ = _
        unfold aR; rw [sA_uA, if_neg (fun w => hne (by have := w.2; rw [hx] at this; omega)), sA_uA, if_neg (by simp)]
    · refine ⟨?_, fun i hi => ?_⟩
      · unfold aR dN; rw [sA_uA, if_neg (by simp), sA_uA, if_neg (fun w => hne (by rw [← hx]; exact w.2))]
      · show sA (aR s x κ) 6 _ = _
        unfold aR; rw [sA_uA, if_neg (fun w => hX (by have := w.2; rw [hx] at this; omega)), sA_uA, if_neg (by simp)]
theorem mem_congr (hd : DG s) (hY : Y < 32) (h1 : dN s' Y = dN s Y) (h2 : ∀ i, i < 32 → sA s' 6 (Y * 32 + i) = sA s 6 (Y * 32 + i)) : (MEM s' Y z ↔ MEM s Y z) ∧ (ND s' Y ↔ ND s Y) := by
  have g := hd.dn hY
  unfold MEM ND; rw [h1]
  refine ⟨⟨fun ⟨k, a, b⟩ => ⟨k, a, by rw [← h2 k (by omega)]; exact b⟩, fun ⟨k, a, b⟩ => ⟨k, a, by rw [h2 k (by omega)]; exact b⟩⟩, ⟨fun h k k' a b => ?_, fun h k k' a b => ?_⟩⟩
  · have := h k k' a b; rwa [h2 k (by omega), h2 k' (by omega)] at this
  · rw [h2 k (by omega), h2 k' (by omega)]; exact h k k' a b
theorem aA_in (hd : DG s) (hX : X < 32) (hx : x.toNatClampNeg = X) (hl : dN s X < 32) : dN (aA s x e) X = dN s X + 1 ∧ ∀ i, i < 32 → sA (aA s x e) 6 (X * 32 + i) = if i = dN s X then e else sA s 6 (X * 32 + i) := by
  have h0 := hd X hX
  unfold aA; rw [hx, if_pos (by unfold dN at hl; omega)]
  refine ⟨?_, fun i hi => ?_⟩
  · unfold dN; rw [sA_uA, if_pos ⟨rfl, rfl⟩, ia (by simp only [Int32.reduceToInt]; omega) (by simp only [Int32.reduceToInt]; omega)]; simp only [Int32.reduceToInt]; omega
  · rw [sA_uA, if_neg (by simp), sA_uA]
    by_cases q : i = dN s X
    · rw [if_pos ⟨rfl, by omega⟩, if_pos q]
    · rw [if_neg (fun w => q (by omega)), if_neg q]
theorem aA_mem (hd : DG s) (hX : X < 32) (hx : x.toNatClampNeg = X) (hl : dN s X < 32) : MEM (aA s x e) X z ↔ MEM s X z ∨ z = e := by
  obtain ⟨g1, g2⟩ := aA_in (e := e) hd hX hx hl
  unfold MEM; rw [g1]
  constructor
  · rintro ⟨k, h1, h2⟩
    rw [g2 k (by omega)] at h2
    by_cases q : k = dN s X
    · rw [if_pos q] at h2; exact Or.inr h2.symm
    · rw [if_neg q] at h2; exact Or.inl ⟨k, by omega, h2⟩
  · rintro (⟨k, h1, h2⟩ | h)
    · exact ⟨k, by omega, by rw [g2 k (by omega), if_neg (by omega)]; exact h2⟩
    · exact ⟨dN s X, by omega, by rw [g2 _ hl, if_pos rfl]; exact h.symm⟩
theorem aA_full (hX : X < 32) (hd : DG s) (hx : x.toNatClampNeg = X) (hl : ¬ dN s X < 32) : aA s x e = s := by
  have h0 := hd X hX
  unfold aA; rw [hx, if_neg (by unfold dN at hl; omega)]
theorem aA_nd (hd : DG s) (hX : X < 32) (hx : x.toNatClampNeg = X) (nd : ND s X) (ne : ¬ MEM s X e) : ND (aA s x e) X := by
  by_cases hl : dN s X < 32
  · obtain ⟨g1, g2⟩ := aA_in (e := e) hd hX hx hl
    unfold ND; rw [g1]
    intro k k' h1 h2
    rw [g2 k (by omega), g2 k' (by omega), if_neg (show ¬ k = dN s X by omega)]
    by_cases q : k' = dN s X
    · rw [if_pos q]; exact fun w => ne ⟨k, by omega, w⟩
    · rw [if_neg q]; exact nd k k' h1 (by omega)
  · rw [aA_full hX hd hx hl]; exact nd
theorem aA_ot (hY : Y < 32) (hX : X < 32) (hd : DG s) (hx : x.toNatClampNeg = X) (hne : Y ≠ X) : dN (aA s x e) Y = dN s Y ∧ ∀ i, i < 32 → sA (aA s x e) 6 (Y * 32 + i) = sA s 6 (Y * 32 + i) := by
  by_cases hl : dN s X < 32
  · have h0 := hd X hX
    unfold aA; rw [hx, if_pos (by unfold dN at hl; omega)]
    refine ⟨?_, fun i hi => ?_⟩
    · unfold dN; rw [sA_uA, if_neg (fun w => hne w.2), sA_uA, if_neg (by simp)]
    · rw [sA_uA, if_neg (by simp), sA_uA, if_neg (fun w => hne (by have := w.2; omega))]
  · rw [aA_full hX hd hx hl]; exact ⟨rfl, fun _ _ => rfl⟩
theorem aa2 (hd : DG s) {A B : Nat} (hA : A < 32) (hB : B < 32) (ha : a.toNatClampNeg = A) (hb : b.toNatClampNeg = B) (hab : A ≠ B) (hX : X < 32) (nd : ND s X) (ne : ¬ MEM s X e) :
    (MEM (aA (aA s a e) b e) X z → MEM s X z ∨ (z = e ∧ (X = A ∨ X = B))) ∧ ND (aA (aA s a e) b e) X ∧ (dN s A < 32 → dN s B < 32 → (MEM (aA (aA s a e) b e) X z ↔ MEM s X z ∨ (z = e ∧ (X = A ∨ X = B)))) ∧ (dN (aA (aA s a e) b e) X ≤ dN s X + (if X = A ∨ X = B then 1 else 0)) := by
  have hd1 : DG (aA s a e) := aA_DG hd
  by_cases q1 : X = B
  · subst q1
    have o := aA_ot (e := e) hB hA hd ha (Ne.symm hab)
    have c1 := fun z => mem_congr (z := z) hd hB o.1 o.2
    have nd1 : ND (aA s a e) X := ((c1 e).2).2 nd
    refine ⟨fun h => ?_, aA_nd hd1 hB hb nd1 (fun w => ne (((c1 e).1).1 w)), fun l1 l2 => ?_, ?_⟩
    · by_cases hl : dN (aA s a e) X < 32
      · rcases (aA_mem hd1 hB hb hl).1 h with h | h
        · exact Or.inl (((c1 z).1).1 h)
        · exact Or.inr ⟨h, Or.inr rfl⟩
      · rw [aA_full hB hd1 hb hl] at h; exact Or.inl (((c1 z).1).1 h)
    · rw [aA_mem hd1 hB hb (by rw [o.1]; exact l2), (c1 z).1]; simp
    · rw [if_pos (Or.inr rfl)]
      by_cases hl : dN (aA s a e) X < 32
      · rw [(aA_in hd1 hB hb hl).1, o.1]; omega
      · rw [aA_full hB hd1 hb hl, o.1]; omega
  · have o := aA_ot (e := e) hX hB hd1 hb q1
    have c1 := fun z => mem_congr (z := z) hd1 hX o.1 o.2
    by_cases q2 : X = A
    · subst q2
      refine ⟨fun h => ?_, ((c1 e).2).2 (aA_nd hd hX ha nd ne), fun l1 l2 => ?_, ?_⟩
      · rw [(c1 z).1] at h
        by_cases hl : dN s X < 32
        · rcases (aA_mem hd hX ha hl).1 h with h | h
          · exact Or.inl h
          · exact Or.inr ⟨h, Or.inl rfl⟩
        · rw [aA_full hX hd ha hl] at h; exact Or.inl h
      · rw [(c1 z).1, aA_mem hd hX ha l1]; simp
      · rw [if_pos (Or.inl rfl), o.1]
        by_cases hl : dN s X < 32
        · rw [(aA_in hd hX ha hl).1]; omega
        · rw [aA_full hX hd ha hl]; omega
    · have o2 := aA_ot (e := e) hX hA hd ha q2
      have c2 := fun z => mem_congr (z := z) hd hX o2.1 o2.2
      refine ⟨fun h => ?_, ((c1 e).2).2 (((c2 e).2).2 nd), fun l1 l2 => ?_, ?_⟩
      · rw [(c1 z).1, (c2 z).1] at h; exact Or.inl h
      · rw [(c1 z).1, (c2 z).1]; simp [q1, q2]
      · rw [o.1, o2.1]; omega
theorem ra2 (hd : DG s) {A B : Nat} (hA : A < 32) (hB : B < 32) (ha : a.toNatClampNeg = A) (hb : b.toNatClampNeg = B) (hab : A ≠ B) (hX : X < 32) (nd : ∀ X, X < 32 → ND s X) :
    (MEM (rA (rA s a e) b e) X z ↔ MEM s X z ∧ ¬ (z = e ∧ (X = A ∨ X = B))) ∧ ND (rA (rA s a e) b e) X := by
  have hd1 : DG (rA s a e) := rA_DG hd
  by_cases q1 : X = B
  · subst q1
    have o := rA_ot (e := e) hd hB ha (Ne.symm hab)
    have c1 := fun z => mem_congr (z := z) hd hB o.1 o.2
    have nd1 : ND (rA s a e) X := ((c1 e).2).2 (nd X hX)
    refine ⟨?_, rA_nd hd1 hB hb nd1⟩
    rw [rA_mem hd1 hB hb nd1, (c1 z).1]; simp
  · have o := rA_ot (e := e) hd1 hX hb q1
    have c1 := fun z => mem_congr (z := z) hd1 hX o.1 o.2
    by_cases q2 : X = A
    · subst q2
      refine ⟨?_, ((c1 e).2).2 (rA_nd hd hX ha (nd X hX))⟩
      rw [(c1 z).1, rA_mem hd hX ha (nd X hX)]; simp
    · have o2 := rA_ot (e := e) hd hX ha q2
      have c2 := fun z => mem_congr (z := z) hd hX o2.1 o2.2
      refine ⟨?_, ((c1 e).2).2 (((c2 e).2).2 (nd X hX))⟩
      rw [(c1 z).1, (c2 z).1]; simp [q1, q2]
def Bo (s : St) : Prop := ∀ i, i < 128 → (sA s 5 i ≠ 0 → sA s 4 i ≠ 0) ∧ (sA s 4 i ≠ 0 → sA s 1 i ≠ sA s 2 i)
def Ad (s : St) : Prop := ∀ X, X < 32 → ND s X ∧ ∀ z, MEM s X z → vi z = true ∧ sA s 5 z.toNatClampNeg ≠ 0 ∧ ((sA s 1 z.toNatClampNeg).toNatClampNeg = X ∨ (sA s 2 z.toNatClampNeg).toNatClampNeg = X)
def Iv (s : St) : Prop := DG s ∧ EN s ∧ nOk s ∧ Bo s ∧ Ad s
theorem Sr.Iv (g : Sr s s') (h : Iv s) : Iv s' := by
  have A := fun t h1 h2 h3 h4 => g.2.2.1 t h1 h2 h3 h4
  have h1 := A 1 (by decide) (by decide) (by decide) (by decide)
  have h2 := A 2 (by decide) (by decide) (by decide) (by decide)
  have h4 := A 4 (by decide) (by decide) (by decide) (by decide)
  have h5 := A 5 (by decide) (by decide) (by decide) (by decide)
  have h6 := A 6 (by decide) (by decide) (by decide) (by decide)
  have h7 := A 7 (by decide) (by decide) (by decide) (by decide)
  refine ⟨h.1.of g, g.EN h.2.1, g.nOk h.2.2.1, ?_, ?_⟩
  · unfold Bo; rw [h1, h2, h4, h5]; exact h.2.2.2.1
  · intro X hX
    have := h.2.2.2.2 X hX
    refine ⟨(ND.of h6 h7).2 this.1, fun z hz => ?_⟩
    rw [h1, h2, h5]; exact this.2 z ((MEM.of h6 h7).1 hz)
theorem EN.cl (h : EN s) (hn : nOk s) {i : Nat} (hi : i < 128) : (sA s 1 i).toNatClampNeg < 32 ∧ (sA s 2 i).toNatClampNeg < 32 := by
  have := h i hi; have := hn.2; rw [cln, cln]; omega
theorem cl_inj {i j : Int32} (hi : 0 ≤ i.toInt) (hj : 0 ≤ j.toInt) (h : i.toNatClampNeg = j.toNatClampNeg) : i = j := by
  rw [cln, cln] at h; rw [eq32]; omega
theorem vi_cl (h : vi e = true) : e.toNatClampNeg < 128 := by have := vi_rg h; rw [cln]; omega
theorem jT_5 {i : Nat} (h : vi e = true) (h5 : sA s 5 e.toNatClampNeg = 0) : sA (jT s e) 5 i = if i = e.toNatClampNeg then 1 else sA s 5 i := by
  unfold jT; rw [if_pos ⟨h, h5⟩, aA_A (by decide) (by decide), aA_A (by decide) (by decide), sA_uJ, sA_uI, sA_uA]; simp only [true_and]
theorem lT_5 {i : Nat} (h : vi e = true) (h5 : sA s 5 e.toNatClampNeg ≠ 0) : sA (lT s e) 5 i = if i = e.toNatClampNeg then 0 else sA s 5 i := by
  unfold lT; rw [if_pos ⟨h, h5⟩, rA_A (by decide) (by decide), rA_A (by decide) (by decide), sA_uJ, sA_uI, sA_uA]; simp only [true_and]
theorem jT_t (h : vi e = true) (h5 : sA s 5 e.toNatClampNeg = 0) : sI (jT s e) 13 = sI s 13 + 1 ∧ sJ (jT s e) 14 = sJ s 14 + (sA s 3 e.toNatClampNeg).toInt64 := by
  unfold jT; rw [if_pos ⟨h, h5⟩, aA_I, aA_I, aA_J, aA_J, sI_uJ, sI_uI, sJ_uJ]; exact ⟨rfl, rfl⟩
theorem lT_t (h : vi e = true) (h5 : sA s 5 e.toNatClampNeg ≠ 0) : sI (lT s e) 13 = sI s 13 - 1 ∧ sJ (lT s e) 14 = sJ s 14 - (sA s 3 e.toNatClampNeg).toInt64 := by
  unfold lT; rw [if_pos ⟨h, h5⟩, rA_I, rA_I, rA_J, rA_J, sI_uJ, sI_uI, sJ_uJ]; exact ⟨rfl, rfl⟩
theorem cab (hI : Iv s) (h : vi e = true) (h4 : sA s 4 e.toNatClampNeg ≠ 0) : (sA s 1 e.toNatClampNeg).toNatClampNeg ≠ (sA s 2 e.toNatClampNeg).toNatClampNeg := by
  have g := hI.2.1 _ (vi_cl h)
  exact fun w => (hI.2.2.2.1 _ (vi_cl h)).2 h4 (cl_inj g.1.1 g.2.1 w)
theorem inj_vi (h1 : vi e = true) (h2 : vi z = true) (h : e.toNatClampNeg = z.toNatClampNeg) : e = z := cl_inj (vi_rg h1).1 (vi_rg h2).1 h
theorem base_DG {v : Int32} {q : Int64} (hd : DG s) : DG (uJ (uI (uA s 5 k v) 13 c) 14 q) := by
  intro z hz; have := hd z hz; simpa only [sA_uJ, sA_uI, sA_uA, Nat.reduceEqDiff, false_and, if_false] using this
theorem base_6 {v : Int32} {q : Int64} : sA (uJ (uI (uA s 5 k v) 13 c) 14 q) 6 = sA s 6 := by funext i; simp only [sA_uJ, sA_uI, sA_uA, Nat.reduceEqDiff, false_and, if_false]
theorem base_7 {v : Int32} {q : Int64} : sA (uJ (uI (uA s 5 k v) 13 c) 14 q) 7 = sA s 7 := by funext i; simp only [sA_uJ, sA_uI, sA_uA, Nat.reduceEqDiff, false_and, if_false]
theorem jT_Iv (hI : Iv s) (h : vi e = true) (h4 : sA s 4 e.toNatClampNeg ≠ 0) (h5 : sA s 5 e.toNatClampNeg = 0) : Iv (jT s e) := by
  have hab := cab hI h h4
  have r := hI.2.1.cl hI.2.2.1 (vi_cl h)
  refine ⟨jT_DG hI.1, jT_EN hI.2.1, jT_nOk hI.2.2.1, ?_, ?_⟩
  · intro i hi
    have := hI.2.2.2.1 i hi
    rw [jT_5 h h5, jT_A (by decide) (by decide) (by decide), jT_A (by decide) (by decide) (by decide), jT_A (by decide) (by decide) (by decide)]
    refine ⟨fun q => ?_, this.2⟩
    by_cases w : i = e.toNatClampNeg
    · rw [w]; exact h4
    · rw [if_neg w] at q; exact this.1 q
  · intro X hX
    have ad := hI.2.2.2.2 X hX
    have nm : ¬ MEM s X e := fun w => (ad.2 e w).2.1 h5
    have G := fun z => aa2 (z := z) (X := X) (e := e) (a := sA s 1 e.toNatClampNeg) (b := sA s 2 e.toNatClampNeg) (base_DG (k := e.toNatClampNeg) (v := 1) (c := sI s 13 + 1) (q := sJ s 14 + (sA s 3 e.toNatClampNeg).toInt64) hI.1) r.1 r.2 rfl rfl hab hX ((ND.of base_6 base_7).2 ad.1) (fun w => nm ((MEM.of base_6 base_7).1 w))
    have hj : jT s e = aA (aA (uJ (uI (uA s 5 e.toNatClampNeg 1) 13 (sI s 13 + 1)) 14 (sJ s 14 + (sA s 3 e.toNatClampNeg).toInt64)) (sA s 1 e.toNatClampNeg) e) (sA s 2 e.toNatClampNeg) e := by unfold jT; rw [if_pos ⟨h, h5⟩]
    refine ⟨by rw [hj]; exact (G e).2.1, fun z hz => ?_⟩
    rw [jT_5 h h5, jT_A (by decide) (by decide) (by decide), jT_A (by decide) (by decide) (by decide)]
    rw [hj] at hz
    rcases (G z).1 hz with q | q
    · have q' := ad.2 z ((MEM.of base_6 base_7).1 q)
      refine ⟨q'.1, ?_, q'.2.2⟩
      split
      · decide
      · exact q'.2.1
    · obtain ⟨rfl, q⟩ := q
      refine ⟨h, by rw [if_pos rfl]; decide, q.elim (fun w => Or.inl w.symm) (fun w => Or.inr w.symm)⟩
theorem lT_Iv (hI : Iv s) (h : vi e = true) (h5 : sA s 5 e.toNatClampNeg ≠ 0) : Iv (lT s e) := by
  have h4 := (hI.2.2.2.1 _ (vi_cl h)).1 h5
  have hab := cab hI h h4
  have r := hI.2.1.cl hI.2.2.1 (vi_cl h)
  refine ⟨lT_DG hI.1, lT_EN hI.2.1, lT_nOk hI.2.2.1, ?_, ?_⟩
  · intro i hi
    have := hI.2.2.2.1 i hi
    rw [lT_5 h h5, lT_A (by decide) (by decide) (by decide), lT_A (by decide) (by decide) (by decide), lT_A (by decide) (by decide) (by decide)]
    refine ⟨fun q => ?_, this.2⟩
    by_cases w : i = e.toNatClampNeg
    · rw [if_pos w] at q; exact absurd rfl q
    · rw [if_neg w] at q; exact this.1 q
  · intro X hX
    have ad := hI.2.2.2.2 X hX
    have G := fun z => ra2 (z := z) (X := X) (e := e) (a := sA s 1 e.toNatClampNeg) (b := sA s 2 e.toNatClampNeg) (base_DG (k := e.toNatClampNeg) (v := 0) (c := sI s 13 - 1) (q := sJ s 14 - (sA s 3 e.toNatClampNeg).toInt64) hI.1) r.1 r.2 rfl rfl hab hX (fun X hX => (ND.of base_6 base_7).2 (hI.2.2.2.2 X hX).1)
    have hj : lT s e = rA (rA (uJ (uI (uA s 5 e.toNatClampNeg 0) 13 (sI s 13 - 1)) 14 (sJ s 14 - (sA s 3 e.toNatClampNeg).toInt64)) (sA s 1 e.toNatClampNeg) e) (sA s 2 e.toNatClampNeg) e := by unfold lT; rw [if_pos ⟨h, h5⟩]
    refine ⟨by rw [hj]; exact (G e).2, fun z hz => ?_⟩
    rw [lT_5 h h5, lT_A (by decide) (by decide) (by decide), lT_A (by decide) (by decide) (by decide)]
    rw [hj] at hz
    obtain ⟨q1, q2⟩ := (G z).1.1 hz
    have q' := ad.2 z ((MEM.of base_6 base_7).1 q1)
    refine ⟨q'.1, ?_, q'.2.2⟩
    split
    · rename_i w
      have := inj_vi q'.1 h w
      subst this
      exact absurd ⟨rfl, q'.2.2.elim (fun w => Or.inl w.symm) (fun w => Or.inr w.symm)⟩ q2
    · exact q'.2.1
theorem frS_4 {i : Nat} : sA (frS s e) 4 i = if i = e.toNatClampNeg then 0 else sA s 4 i := by unfold frS; rw [sA_uI, sA_uA, if_neg (by simp), sA_uA]; simp only [true_and]
theorem frS_5 {i : Nat} : sA (frS s e) 5 i = if i = e.toNatClampNeg then 0 else sA s 5 i := by unfold frS; rw [sA_uI, sA_uA]; simp only [true_and]; split; rfl; rw [sA_uA, if_neg (by simp)]
theorem frS_Iv (hI : Iv s) (h : vi e = true) (h5 : sA s 5 e.toNatClampNeg = 0) : Iv (frS s e) := by
  refine ⟨frS_DG hI.1, frS_EN hI.2.1, frS_nOk hI.2.2.1, ?_, ?_⟩
  · intro i hi
    have := hI.2.2.2.1 i hi
    rw [frS_5, frS_4, frS_A (by decide) (by decide), frS_A (by decide) (by decide)]
    by_cases w : i = e.toNatClampNeg
    · rw [if_pos w, if_pos w]; exact ⟨fun q => absurd rfl q, fun q => absurd rfl q⟩
    · rw [if_neg w, if_neg w]; exact this
  · intro X hX
    have ad := hI.2.2.2.2 X hX
    refine ⟨(ND.of (frS_A (by decide) (by decide)) (frS_A (by decide) (by decide))).2 ad.1, fun z hz => ?_⟩
    have q := ad.2 z ((MEM.of (frS_A (by decide) (by decide)) (frS_A (by decide) (by decide))).1 hz)
    rw [frS_5, frS_A (by decide) (by decide), frS_A (by decide) (by decide)]
    refine ⟨q.1, ?_, q.2.2⟩
    split
    · rename_i w; rw [w] at q; exact absurd h5 q.2.1
    · exact q.2.1
theorem u3_Iv (hI : Iv s) : Iv (uA s 3 k c) := by
  refine ⟨u3_DG hI.1, u3_EN hI.2.1, u3_nOk hI.2.2.1, ?_, ?_⟩
  · unfold Bo; rw [sAn (by decide), sAn (by decide), sAn (by decide), sAn (by decide)]; exact hI.2.2.2.1
  · intro X hX
    have ad := hI.2.2.2.2 X hX
    refine ⟨(ND.of (sAn (by decide)) (sAn (by decide))).2 ad.1, fun z hz => ?_⟩
    have q := ad.2 z ((MEM.of (sAn (by decide)) (sAn (by decide))).1 hz)
    rw [sAn (by decide), sAn (by decide), sAn (by decide)]; exact q
theorem stE_A {t : Nat} (h : t = 6 ∨ t = 7) : sA (stE s a b c d) t = sA s t := by
  unfold stE; funext i; rcases h with rfl | rfl <;> simp only [sA_uI, sA_uA, Nat.reduceEqDiff, false_and, if_false]
theorem stE_1 {i : Nat} : (sA (stE s a b c d) 1 i = if i = a.toNatClampNeg then b else sA s 1 i) ∧ (sA (stE s a b c d) 2 i = if i = a.toNatClampNeg then c else sA s 2 i) ∧ (sA (stE s a b c d) 3 i = if i = a.toNatClampNeg then d else sA s 3 i) ∧ (sA (stE s a b c d) 4 i = if i = a.toNatClampNeg then 1 else sA s 4 i) ∧ (sA (stE s a b c d) 5 i = if i = a.toNatClampNeg then 0 else sA s 5 i) := by
  unfold stE; simp only [sA_uI, sA_uA, Nat.reduceEqDiff, false_and, true_and, if_false, and_self]
theorem stE_Iv (hI : Iv s) (ha : vi a = true) (h4 : sA s 4 a.toNatClampNeg = 0) (hb : 0 ≤ b.toInt ∧ b.toInt < (sI s 0).toInt) (hc : 0 ≤ c.toInt ∧ c.toInt < (sI s 0).toInt) (hbc : b ≠ c) : Iv (stE s a b c d) := by
  have h5 : sA s 5 a.toNatClampNeg = 0 := Decidable.byContradiction fun w => (hI.2.2.2.1 _ (vi_cl ha)).1 w h4
  refine ⟨stE_DG hI.1, stE_EN hI.2.1 hb hc, stE_nOk hI.2.2.1, ?_, ?_⟩
  · intro i hi
    have := hI.2.2.2.1 i hi
    rw [stE_1.1, stE_1.2.1, stE_1.2.2.2.1, stE_1.2.2.2.2]
    by_cases w : i = a.toNatClampNeg
    · simp only [if_pos w]; exact ⟨fun q => absurd rfl q, fun _ => hbc⟩
    · simp only [if_neg w]; exact this
  · intro X hX
    have ad := hI.2.2.2.2 X hX
    refine ⟨(ND.of (stE_A (Or.inl rfl)) (stE_A (Or.inr rfl))).2 ad.1, fun z hz => ?_⟩
    have q := ad.2 z ((MEM.of (stE_A (Or.inl rfl)) (stE_A (Or.inr rfl))).1 hz)
    have w : ¬ z.toNatClampNeg = a.toNatClampNeg := fun w => q.2.1 (by rw [w]; exact h5)
    rw [stE_1.1, stE_1.2.1, stE_1.2.2.2.2, if_neg w, if_neg w, if_neg w]; exact q
theorem stL2_A : sA (stL2 s a b) = sA s := by unfold stL2; funext t i; rw [sA_uI, sA_uI]
theorem stL2_I (h1 : k ≠ 15) (h2 : k ≠ 16) : sI (stL2 s a b) k = sI s k := by unfold stL2; rw [sI_uI, if_neg h2, sI_uI, if_neg h1]
theorem stL2_15 : sI (stL2 s a b) 15 = a ∧ sI (stL2 s a b) 16 = b := by unfold stL2; rw [sI_uI, if_neg (by decide), sI_uI, if_pos rfl, sI_uI, if_pos rfl]; exact ⟨rfl, rfl⟩
theorem stL2_J : sJ (stL2 s a b) k = sJ s k := by unfold stL2; rw [sJ_uI, sJ_uI]
theorem stL2_Iv (hI : Iv s) : Iv (stL2 s a b) := by
  have A : ∀ t, sA (stL2 s a b) t = sA s t := fun t => by rw [stL2_A]
  have I : sI (stL2 s a b) 0 = sI s 0 := stL2_I (by decide) (by decide)
  refine ⟨?_, hI.2.1.of I (A _) (A _), hI.2.2.1.of I, ?_, ?_⟩
  · unfold DG; rw [A]; exact hI.1
  · unfold Bo; rw [A, A, A, A]; exact hI.2.2.2.1
  · intro X hX
    have ad := hI.2.2.2.2 X hX
    refine ⟨(ND.of (A _) (A _)).2 ad.1, fun z hz => ?_⟩
    have q := ad.2 z ((MEM.of (A _) (A _)).1 hz)
    rw [A, A, A]; exact q
end F

section G
variable {lw : LW} {H : AH} {p j : Nat} {s s' s1 s2 : St} {Q : Option Value → AH → Prop} {a b c d e x y t u v w z : Int32} {k n X Y : Nat}
def PK (s : St) : Prop := ∀ y, y < 32 → sA s 9 y = -1 ∨ ∃ X, X < 32 ∧ MEM s X (sA s 9 y)
theorem Sr.mem (g : Sr s s') : MEM s' X z ↔ MEM s X z := MEM.of (g.2.2.1 6 (by decide) (by decide) (by decide) (by decide)) (g.2.2.1 7 (by decide) (by decide) (by decide) (by decide))
theorem vs1_PK {ex : Int32} (hX : X < 32) (hm : MEM s X e) (h : PK s) : PK (vs1 s x ex e t).1 := by
  intro y hy
  have hS : Sr s (vs1 s x ex e t).1 := vs1_Sr
  rw [show (∃ X, X < 32 ∧ MEM (vs1 s x ex e t).1 X (sA (vs1 s x ex e t).1 9 y)) ↔ (∃ X, X < 32 ∧ MEM s X (sA (vs1 s x ex e t).1 9 y)) from ⟨fun ⟨X, a, b⟩ => ⟨X, a, hS.mem.1 b⟩, fun ⟨X, a, b⟩ => ⟨X, a, hS.mem.2 b⟩⟩]
  unfold vs1; split
  · exact h y hy
  · split
    · exact h y hy
    · show sA (uA (uA (uA (uA s 8 _ 1) 9 _ e) 10 _ x) 11 _ _) 9 y = -1 ∨ ∃ X, X < 32 ∧ MEM s X (sA (uA (uA (uA (uA s 8 _ 1) 9 _ e) 10 _ x) 11 _ _) 9 y)
      rw [sA_uA, if_neg (by simp), sA_uA, if_neg (by simp), sA_uA]
      split
      · exact Or.inr ⟨X, hX, hm⟩
      · rw [sA_uA, if_neg (by simp)]; exact h y hy
theorem vsF_PK {ex : Int32} (hX : x.toNatClampNeg < 32) : ∀ (m j : Nat) (q : St × Int32), j + m ≤ dN q.1 x.toNatClampNeg → PK q.1 → PK (vsF x ex j m q).1
  | 0, j, q, _, h => h
  | m + 1, j, q, hj, h => by
    unfold vsF
    refine vsF_PK hX m (j + 1) _ ?_ (vs1_PK hX ⟨j, by omega, rfl⟩ h)
    have hS : Sr q.1 (vs1 q.1 x ex (sA q.1 6 (x.toNatClampNeg * 32 + j)) q.2).1 := vs1_Sr
    unfold dN at *; rw [hS.2.2.1 7 (by decide) (by decide) (by decide) (by decide)]; omega
theorem vis_PK {ex : Int32} {q : St × Int32} (h : PK q.1) : PK (vis q x ex).1 := by
  unfold vis; split
  · exact h
  · rename_i w
    have := rn32 (fun r => w (Or.inl r)) (Decidable.byContradiction fun r => w (Or.inr r))
    exact vsF_PK (by rw [cln]; omega) _ _ _ (by omega) h
theorem exF_PK {ex : Int32} : ∀ (m i : Nat) (q : St × Int32), PK q.1 → PK (exF ex i m q).1
  | 0, i, q, h => h
  | m + 1, i, q, h => by
    unfold exF; split
    · exact exF_PK m (i + 1) _ (vis_PK h)
    · exact h
theorem exq_PK {ex : Int32} : PK (exq s a ex).1 := by
  unfold exq
  refine exF_PK _ _ (_, _) ?_
  intro y hy
  left
  show sA (uA (uA (F2 s 0) 8 _ 1) 11 0 a) 9 y = -1
  rw [sA_uA, if_neg (by simp), sA_uA, if_neg (by simp), F2_9 hy]
theorem hvF_PK (hp : PK s) : ∀ (m : Nat) (best cur : Int32), (best = -1 ∨ ∃ X, X < 32 ∧ MEM s X best) → (hvF s m best cur = -1 ∨ ∃ X, X < 32 ∧ MEM s X (hvF s m best cur))
  | 0, best, cur, h => h
  | m + 1, best, cur, h => by
    unfold hvF; split
    · exact h
    · rename_i q
      split
      · exact h
      · have := rn32 (fun w => q (Or.inl w)) (Decidable.byContradiction fun w => q (Or.inr w))
        have g := hp cur.toNatClampNeg (by rw [cln]; omega)
        refine hvF_PK hp m _ _ ?_
        unfold hvy
        by_cases w1 : best = -1
        · rw [if_pos w1]; exact g
        · rw [if_neg w1]
          by_cases w2 : sA s 9 cur.toNatClampNeg = -1
          · rw [if_pos w2]; exact h
          · rw [if_neg w2]
            by_cases w3 : pc s best (sA s 9 cur.toNatClampNeg) = true
            · rw [if_pos w3]; exact g
            · rw [if_neg w3]; exact h
theorem lcF_ok : ∀ (m j : Nat) (best : Int32), j + m ≤ 128 → (best = -1 ∨ ((vi best = true ∧ sA s 4 best.toNatClampNeg ≠ 0) ∧ sA s 5 best.toNatClampNeg = 0)) →
    (lcF s j m best = -1 ∨ ((vi (lcF s j m best) = true ∧ sA s 4 (lcF s j m best).toNatClampNeg ≠ 0) ∧ sA s 5 (lcF s j m best).toNatClampNeg = 0))
  | 0, j, best, _, h => h
  | m + 1, j, best, hj, h => by
    unfold lcF
    refine lcF_ok m (j + 1) _ (by omega) ?_
    split
    · rename_i q
      unfold lcB at q; rw [Bool.and_eq_true] at q
      have q1 := of_decide_eq_true q.1
      have hF : (Int32.ofNat j).toInt = j := Int32.toInt_ofNat_of_lt (by omega)
      have hG : (Int32.ofNat j).toNatClampNeg = j := by rw [cln, hF]; omega
      have g : Int32.ofNat j = -1 ∨ ((vi (Int32.ofNat j) = true ∧ sA s 4 (Int32.ofNat j).toNatClampNeg ≠ 0) ∧ sA s 5 (Int32.ofNat j).toNatClampNeg = 0) := by
        right; rw [hG]; exact ⟨⟨vi_t (by omega), q1.1⟩, q1.2⟩
      unfold lgt; split
      · exact g
      · split
        · exact h
        · split
          · exact h
          · exact g
    · exact h
def Sm (s s' : St) : Prop := sI s' 0 = sI s 0 ∧ sA s' 1 = sA s 1 ∧ sA s' 2 = sA s 2
theorem iU_ok (hI : Iv s) (he : vi e = true) (h4 : sA s 4 e.toNatClampNeg ≠ 0) (h5 : sA s 5 e.toNatClampNeg = 0) :
    Iv (iU s e) ∧ Sm s (iU s e) ∧ sA (iU s e) 3 = sA s 3 ∧ sA (iU s e) 4 = sA s 4 ∧ sI (iU s e) 12 = sI s 12 ∧
    ((sI (iU s e) 15 = e ∧ sA (iU s e) 5 e.toNatClampNeg ≠ 0 ∧
      ((sI (iU s e) 16 = -1 ∧ sI (iU s e) 13 = sI s 13 + 1 ∧ sJ (iU s e) 14 = sJ s 14 + (sA s 3 e.toNatClampNeg).toInt64) ∨
       (∃ m, sI (iU s e) 16 = m ∧ m ≠ -1 ∧ m ≠ e ∧ vi m = true ∧ sA s 4 m.toNatClampNeg ≠ 0 ∧ sI (iU s e) 13 = sI s 13 - 1 + 1 ∧ sJ (iU s e) 14 = sJ s 14 - (sA s 3 m.toNatClampNeg).toInt64 + (sA s 3 e.toNatClampNeg).toInt64))) ∨
     (sI (iU s e) 15 = -1 ∧ sI (iU s e) 16 = -1 ∧ sA (iU s e) 5 e.toNatClampNeg = 0 ∧ sI (iU s e) 13 = sI s 13 ∧ sJ (iU s e) 14 = sJ s 14)) := by
  have hS : Sr s (sx s e) := sx_Sr
  have A := fun t h1 h2 h3 h4 => hS.2.2.1 t h1 h2 h3 h4
  have a1 := A 1 (by decide) (by decide) (by decide) (by decide)
  have a2 := A 2 (by decide) (by decide) (by decide) (by decide)
  have a3 := A 3 (by decide) (by decide) (by decide) (by decide)
  have a4 := A 4 (by decide) (by decide) (by decide) (by decide)
  have a5 := A 5 (by decide) (by decide) (by decide) (by decide)
  have hIx := hS.Iv hI
  have h4x : sA (sx s e) 4 e.toNatClampNeg ≠ 0 := by rw [a4]; exact h4
  have h5x : sA (sx s e) 5 e.toNatClampNeg = 0 := by rw [a5]; exact h5
  unfold iU
  by_cases e1 : sA (sx s e) 8 (sA s 2 e.toNatClampNeg).toNatClampNeg = 0
  · rw [if_pos e1]
    have T := jT_t he h5x
    refine ⟨stL2_Iv (jT_Iv hIx he h4x h5x), ⟨?_, ?_, ?_⟩, ?_, ?_, ?_, Or.inl ⟨stL2_15.1, ?_, Or.inl ⟨stL2_15.2, ?_, ?_⟩⟩⟩
    · rw [stL2_I (by decide) (by decide), jT_I (by decide), hS.1]
    · rw [stL2_A, jT_A (by decide) (by decide) (by decide), a1]
    · rw [stL2_A, jT_A (by decide) (by decide) (by decide), a2]
    · rw [stL2_A, jT_A (by decide) (by decide) (by decide), a3]
    · rw [stL2_A, jT_A (by decide) (by decide) (by decide), a4]
    · rw [stL2_I (by decide) (by decide), jT_I (by decide), hS.1]
    · rw [stL2_A, jT_5 he h5x, if_pos rfl]; decide
    · rw [stL2_I (by decide) (by decide), T.1, hS.1]
    · rw [stL2_J, T.2, hS.2.1, a3]
  · rw [if_neg e1]
    have hm := hvF_PK (exq_PK (s := s) (a := sA s 1 e.toNatClampNeg) (ex := -1)) 32 (-1) (sA s 2 e.toNatClampNeg) (Or.inl rfl)
    change hvF (sx s e) 32 (-1) (sA s 2 e.toNatClampNeg) = -1 ∨ ∃ X, X < 32 ∧ MEM (sx s e) X (hvF (sx s e) 32 (-1) (sA s 2 e.toNatClampNeg)) at hm
    generalize hvF (sx s e) 32 (-1) (sA s 2 e.toNatClampNeg) = m at *
    by_cases e2 : m = -1 ∨ pc (sx s e) e m = false
    · rw [if_pos e2]
      refine ⟨stL2_Iv hIx, ⟨?_, ?_, ?_⟩, ?_, ?_, ?_, Or.inr ⟨stL2_15.1, stL2_15.2, ?_, ?_, ?_⟩⟩
      · rw [stL2_I (by decide) (by decide), hS.1]
      · rw [stL2_A, a1]
      · rw [stL2_A, a2]
      · rw [stL2_A, a3]
      · rw [stL2_A, a4]
      · rw [stL2_I (by decide) (by decide), hS.1]
      · rw [stL2_A]; exact h5x
      · rw [stL2_I (by decide) (by decide), hS.1]
      · rw [stL2_J, hS.2.1]
    · rw [if_neg e2]
      have e3 : m ≠ -1 := fun w => e2 (Or.inl w)
      obtain ⟨X, hX, hM⟩ := hm.resolve_left e3
      obtain ⟨m1, m2, _⟩ := (hIx.2.2.2.2 X hX).2 m hM
      have hne : m ≠ e := fun w => m2 (by rw [w]; exact h5x)
      have hne' : ¬ e.toNatClampNeg = m.toNatClampNeg := fun w => hne (inj_vi m1 he w.symm)
      have h4m : sA (sx s e) 4 m.toNatClampNeg ≠ 0 := (hIx.2.2.2.1 _ (vi_cl m1)).1 m2
      have hIl := lT_Iv hIx m1 m2
      have h5l : sA (lT (sx s e) m) 5 e.toNatClampNeg = 0 := by rw [lT_5 m1 m2, if_neg hne']; exact h5x
      have h4l : sA (lT (sx s e) m) 4 e.toNatClampNeg ≠ 0 := by rw [lT_A (by decide) (by decide) (by decide)]; exact h4x
      have T := jT_t he h5l
      have T2 := lT_t m1 m2
      refine ⟨stL2_Iv (jT_Iv hIl he h4l h5l), ⟨?_, ?_, ?_⟩, ?_, ?_, ?_, Or.inl ⟨stL2_15.1, ?_, Or.inr ⟨m, stL2_15.2, e3, hne, m1, by rw [← a4]; exact h4m, ?_, ?_⟩⟩⟩
      · rw [stL2_I (by decide) (by decide), jT_I (by decide), lT_I (by decide), hS.1]
      · rw [stL2_A, jT_A (by decide) (by decide) (by decide), lT_A (by decide) (by decide) (by decide), a1]
      · rw [stL2_A, jT_A (by decide) (by decide) (by decide), lT_A (by decide) (by decide) (by decide), a2]
      · rw [stL2_A, jT_A (by decide) (by decide) (by decide), lT_A (by decide) (by decide) (by decide), a3]
      · rw [stL2_A, jT_A (by decide) (by decide) (by decide), lT_A (by decide) (by decide) (by decide), a4]
      · rw [stL2_I (by decide) (by decide), jT_I (by decide), lT_I (by decide), hS.1]
      · rw [stL2_A, jT_5 he h5l, if_pos rfl]; decide
      · rw [stL2_I (by decide) (by decide), T.1, T2.1, hS.1]
      · rw [stL2_J, T.2, T2.2, lT_A (by decide) (by decide) (by decide), hS.2.1, a3]
theorem cT_ok (hI : Iv s) (he : vi e = true) (h5 : sA s 5 e.toNatClampNeg ≠ 0) :
    Iv (cT s e) ∧ Sm s (cT s e) ∧ sA (cT s e) 3 = sA s 3 ∧ (∀ i, sA (cT s e) 4 i = if i = e.toNatClampNeg then 0 else sA s 4 i) ∧ sI (cT s e) 12 = sI s 12 - 1 ∧ sI (cT s e) 16 = e ∧
    ((sI (cT s e) 15 = -1 ∧ sI (cT s e) 13 = sI s 13 - 1 ∧ sJ (cT s e) 14 = sJ s 14 - (sA s 3 e.toNatClampNeg).toInt64) ∨
     (∃ r, sI (cT s e) 15 = r ∧ r ≠ -1 ∧ r ≠ e ∧ vi r = true ∧ sA s 4 r.toNatClampNeg ≠ 0 ∧ sI (cT s e) 13 = sI s 13 - 1 + 1 ∧ sJ (cT s e) 14 = sJ s 14 - (sA s 3 e.toNatClampNeg).toInt64 + (sA s 3 r.toNatClampNeg).toInt64)) := by
  have T2 := lT_t he h5
  have hIl := lT_Iv hI he h5
  have h5l : sA (lT s e) 5 e.toNatClampNeg = 0 := by rw [lT_5 he h5, if_pos rfl]
  have hIf := frS_Iv hIl he h5l
  have hS : Sr (frS (lT s e) e) (cT1 s e) := sx_Sr
  have A := fun t h1 h2 h3 h4 => hS.2.2.1 t h1 h2 h3 h4
  have a1 : sA (cT1 s e) 1 = sA s 1 := by rw [A 1 (by decide) (by decide) (by decide) (by decide), frS_A (by decide) (by decide), lT_A (by decide) (by decide) (by decide)]
  have a2 : sA (cT1 s e) 2 = sA s 2 := by rw [A 2 (by decide) (by decide) (by decide) (by decide), frS_A (by decide) (by decide), lT_A (by decide) (by decide) (by decide)]
  have a3 : sA (cT1 s e) 3 = sA s 3 := by rw [A 3 (by decide) (by decide) (by decide) (by decide), frS_A (by decide) (by decide), lT_A (by decide) (by decide) (by decide)]
  have a4 : ∀ i, sA (cT1 s e) 4 i = if i = e.toNatClampNeg then 0 else sA s 4 i := fun i => by rw [A 4 (by decide) (by decide) (by decide) (by decide), frS_4, lT_A (by decide) (by decide) (by decide)]
  have i0 : sI (cT1 s e) 0 = sI s 0 := by rw [hS.1, frS_I (by decide), lT_I (by decide)]
  have i12 : sI (cT1 s e) 12 = sI s 12 - 1 := by rw [hS.1]; unfold frS; rw [sI_uI, if_pos rfl, lT_I (by decide)]
  have i13 : sI (cT1 s e) 13 = sI s 13 - 1 := by rw [hS.1, frS_I (by decide), T2.1]
  have j14 : sJ (cT1 s e) 14 = sJ s 14 - (sA s 3 e.toNatClampNeg).toInt64 := by rw [hS.2.1]; unfold frS; rw [sJ_uI, sJ_uA, sJ_uA, T2.2]
  have hIx := hS.Iv hIf
  have hr := lcF_ok (s := cT1 s e) 128 0 (-1) (by decide) (Or.inl rfl)
  unfold cT
  generalize lcF (cT1 s e) 0 128 (-1) = r at *
  by_cases e1 : r = -1
  · rw [if_pos e1]
    refine ⟨stL2_Iv hIx, ⟨?_, ?_, ?_⟩, ?_, fun i => ?_, ?_, stL2_15.2, Or.inl ⟨by rw [stL2_15.1]; exact e1, ?_, ?_⟩⟩
    · rw [stL2_I (by decide) (by decide), i0]
    · rw [stL2_A, a1]
    · rw [stL2_A, a2]
    · rw [stL2_A, a3]
    · rw [stL2_A, a4]
    · rw [stL2_I (by decide) (by decide), i12]
    · rw [stL2_I (by decide) (by decide), i13]
    · rw [stL2_J, j14]
  · rw [if_neg e1]
    obtain ⟨⟨r1, r2⟩, r3⟩ := hr.resolve_left e1
    have r2' := r2
    rw [a4] at r2'
    have hne : ¬ r.toNatClampNeg = e.toNatClampNeg := fun w => r2' (by rw [if_pos w])
    rw [if_neg hne] at r2'
    have T := jT_t r1 r3
    refine ⟨stL2_Iv (jT_Iv hIx r1 r2 r3), ⟨?_, ?_, ?_⟩, ?_, fun i => ?_, ?_, stL2_15.2, Or.inr ⟨r, stL2_15.1, e1, fun w => hne (by rw [w]), r1, r2', ?_, ?_⟩⟩
    · rw [stL2_I (by decide) (by decide), jT_I (by decide), i0]
    · rw [stL2_A, jT_A (by decide) (by decide) (by decide), a1]
    · rw [stL2_A, jT_A (by decide) (by decide) (by decide), a2]
    · rw [stL2_A, jT_A (by decide) (by decide) (by decide), a3]
    · rw [stL2_A, jT_A (by decide) (by decide) (by decide), a4]
    · rw [stL2_I (by decide) (by decide), jT_I (by decide), i12]
    · rw [stL2_I (by decide) (by decide), T.1, i13]
    · rw [stL2_J, T.2, j14, a3]
theorem rW_ok (hI : Iv s) (he : vi e = true) (h5 : sA s 5 e.toNatClampNeg ≠ 0) :
    Iv (rW s e c) ∧ Sm s (rW s e c) ∧ (∀ i, sA (rW s e c) 3 i = if i = e.toNatClampNeg then c else sA s 3 i) ∧ sA (rW s e c) 4 = sA s 4 ∧ sI (rW s e c) 12 = sI s 12 ∧ sI (rW s e c) 13 = sI s 13 - 1 + 1 ∧
    ((sI (rW s e c) 15 = -1 ∧ sI (rW s e c) 16 = -1 ∧ sA (rW s e c) 5 e.toNatClampNeg ≠ 0 ∧ sJ (rW s e c) 14 = sJ s 14 - (sA s 3 e.toNatClampNeg).toInt64 + c.toInt64) ∨
     (∃ r, sI (rW s e c) 15 = r ∧ sI (rW s e c) 16 = e ∧ r ≠ -1 ∧ r ≠ e ∧ vi r = true ∧ sA s 4 r.toNatClampNeg ≠ 0 ∧ sA (rW s e c) 5 e.toNatClampNeg = 0 ∧ sJ (rW s e c) 14 = sJ s 14 - (sA s 3 e.toNatClampNeg).toInt64 + (sA s 3 r.toNatClampNeg).toInt64)) := by
  have T2 := lT_t he h5
  have h4 := (hI.2.2.2.1 _ (vi_cl he)).1 h5
  have hIl := lT_Iv hI he h5
  have h5l : sA (lT s e) 5 e.toNatClampNeg = 0 := by rw [lT_5 he h5, if_pos rfl]
  have hIf := u3_Iv (k := e.toNatClampNeg) (c := c) hIl
  have hS : Sr (uA (lT s e) 3 e.toNatClampNeg c) (rW1 s e c) := sx_Sr
  have A := fun t h1 h2 h3 h4 => hS.2.2.1 t h1 h2 h3 h4
  have a1 : sA (rW1 s e c) 1 = sA s 1 := by rw [A 1 (by decide) (by decide) (by decide) (by decide), sAn (by decide), lT_A (by decide) (by decide) (by decide)]
  have a2 : sA (rW1 s e c) 2 = sA s 2 := by rw [A 2 (by decide) (by decide) (by decide) (by decide), sAn (by decide), lT_A (by decide) (by decide) (by decide)]
  have a3 : ∀ i, sA (rW1 s e c) 3 i = if i = e.toNatClampNeg then c else sA s 3 i := fun i => by rw [A 3 (by decide) (by decide) (by decide) (by decide), sA_uA, lT_A (by decide) (by decide) (by decide)]; simp only [true_and]
  have a4 : sA (rW1 s e c) 4 = sA s 4 := by rw [A 4 (by decide) (by decide) (by decide) (by decide), sAn (by decide), lT_A (by decide) (by decide) (by decide)]
  have a5 : sA (rW1 s e c) 5 e.toNatClampNeg = 0 := by rw [A 5 (by decide) (by decide) (by decide) (by decide), sAn (by decide)]; exact h5l
  have i0 : sI (rW1 s e c) 0 = sI s 0 := by rw [hS.1, sI_uA, lT_I (by decide)]
  have i12 : sI (rW1 s e c) 12 = sI s 12 := by rw [hS.1, sI_uA, lT_I (by decide)]
  have i13 : sI (rW1 s e c) 13 = sI s 13 - 1 := by rw [hS.1, sI_uA, T2.1]
  have j14 : sJ (rW1 s e c) 14 = sJ s 14 - (sA s 3 e.toNatClampNeg).toInt64 := by rw [hS.2.1, sJ_uA, T2.2]
  have hIx := hS.Iv hIf
  have hr := lcF_ok (s := rW1 s e c) 128 0 (-1) (by decide) (Or.inl rfl)
  unfold rW
  generalize lcF (rW1 s e c) 0 128 (-1) = r at *
  have h4x : sA (rW1 s e c) 4 e.toNatClampNeg ≠ 0 := by rw [a4]; exact h4
  by_cases e1 : r = -1 ∨ r = e
  · rw [if_pos e1]
    have T := jT_t he a5
    refine ⟨stL2_Iv (jT_Iv hIx he h4x a5), ⟨?_, ?_, ?_⟩, fun i => ?_, ?_, ?_, ?_, Or.inl ⟨stL2_15.1, stL2_15.2, ?_, ?_⟩⟩
    · rw [stL2_I (by decide) (by decide), jT_I (by decide), i0]
    · rw [stL2_A, jT_A (by decide) (by decide) (by decide), a1]
    · rw [stL2_A, jT_A (by decide) (by decide) (by decide), a2]
    · rw [stL2_A, jT_A (by decide) (by decide) (by decide), a3]
    · rw [stL2_A, jT_A (by decide) (by decide) (by decide), a4]
    · rw [stL2_I (by decide) (by decide), jT_I (by decide), i12]
    · rw [stL2_I (by decide) (by decide), T.1, i13]
    · rw [stL2_A, jT_5 he a5, if_pos rfl]; decide
    · rw [stL2_J, T.2, j14, a3, if_pos rfl]
  · rw [if_neg e1]
    have e2 : r ≠ -1 := fun w => e1 (Or.inl w)
    have e3 : r ≠ e := fun w => e1 (Or.inr w)
    obtain ⟨⟨r1, r2⟩, r3⟩ := hr.resolve_left e2
    have r2' := r2
    rw [a4] at r2'
    have hne : ¬ r.toNatClampNeg = e.toNatClampNeg := fun w => e3 (inj_vi r1 he w)
    have T := jT_t r1 r3
    refine ⟨stL2_Iv (jT_Iv hIx r1 r2 r3), ⟨?_, ?_, ?_⟩, fun i => ?_, ?_, ?_, ?_, Or.inr ⟨r, stL2_15.1, stL2_15.2, e2, e3, r1, r2', ?_, ?_⟩⟩
    · rw [stL2_I (by decide) (by decide), jT_I (by decide), i0]
    · rw [stL2_A, jT_A (by decide) (by decide) (by decide), a1]
    · rw [stL2_A, jT_A (by decide) (by decide) (by decide), a2]
    · rw [stL2_A, jT_A (by decide) (by decide) (by decide), a3]
    · rw [stL2_A, jT_A (by decide) (by decide) (by decide), a4]
    · rw [stL2_I (by decide) (by decide), jT_I (by decide), i12]
    · rw [stL2_I (by decide) (by decide), T.1, i13]
    · rw [stL2_A, jT_5 r1 r3, if_neg (fun w => hne w.symm)]; exact a5
    · rw [stL2_J, T.2, j14, a3, if_neg hne]
end G

section Hh
variable {lw : LW} {H : AH} {p j : Nat} {s s' s1 s2 : St} {Q : Option Value → AH → Prop} {a b c d e x y t u v w z : Int32} {k n X Y : Nat}
def stp2 (e l : Int32) : Int32 := (if e = -1 then 0 else 1) - (if l = -1 then 0 else 1)
def wI (s : St) (e : Int32) : Int64 := if e = -1 then 0 else (ew s e).toInt64
def wO (s : St) (l i o : Int32) : Int64 := if l = -1 then 0 else if l = i then o.toInt64 else (ew s l).toInt64
theorem pr_iff : pr s e = true ↔ vi e = true ∧ sA s 4 e.toNatClampNeg ≠ 0 := by unfold pr; rw [Bool.and_eq_true, decide_eq_true_eq]
theorem tr_iff : tr s e = true ↔ vi e = true ∧ sA s 4 e.toNatClampNeg ≠ 0 ∧ sA s 5 e.toNatClampNeg ≠ 0 := by unfold tr; rw [Bool.and_eq_true, Bool.and_eq_true, decide_eq_true_eq, decide_eq_true_eq]
theorem ew_of (h : vi e = true) (h4 : sA s 4 e.toNatClampNeg ≠ 0) : ew s e = sA s 3 e.toNatClampNeg := if_pos (pr_iff.2 ⟨h, h4⟩)
theorem tr_t (h : vi e = true) (h4 : sA s 4 e.toNatClampNeg ≠ 0) (h5 : sA s 5 e.toNatClampNeg ≠ 0) : tr s e = true := tr_iff.2 ⟨h, h4, h5⟩
theorem tr_f (h5 : sA s 5 e.toNatClampNeg = 0) : tr s e = false := by
  cases q : tr s e with
  | false => rfl
  | true => exact absurd h5 (tr_iff.1 q).2.2
theorem m1_vi (h : vi e = true) : e ≠ -1 := fun w => by rw [w] at h; exact absurd h (by decide)
theorem j3 {q x y : Int64} : q + (x - y) = q - y + x := by rw [Int64.sub_eq_add_neg, Int64.sub_eq_add_neg]; ac_rfl
theorem j0 {q x : Int64} : q + (x - 0) = q + x := by rw [Int64.sub_zero]
theorem i3 {q : Int32} : q + 0 = q - 1 + 1 := by rw [Int32.sub_eq_add_neg, Int32.add_assoc]; rfl
def Mv (s s' : St) (i o : Int32) : Prop := sI s 13 + stp2 (sI s' 15) (sI s' 16) = sI s' 13 ∧ sJ s 14 + (wI s' (sI s' 15) - wO s' (sI s' 16) i o) = sJ s' 14
theorem iU_law (hI : Iv s) (he : vi e = true) (h4 : sA s 4 e.toNatClampNeg ≠ 0) (h5 : sA s 5 e.toNatClampNeg = 0) :
    (sI (iU s e) 15 = e ∨ sI (iU s e) 15 = -1) ∧ (tr (iU s e) e = decide (sI (iU s e) 15 = e)) ∧ sI (iU s e) 16 ≠ e ∧ ∀ o, Mv s (iU s e) e o := by
  have hm := m1_vi he
  obtain ⟨hI', -, a3, a4, -, h⟩ := iU_ok hI he h4 h5
  have h4' : sA (iU s e) 4 e.toNatClampNeg ≠ 0 := by rw [a4]; exact h4
  rcases h with ⟨h1, h2, h⟩ | ⟨h1, h2, h3, h6, h7⟩
  · refine ⟨Or.inl h1, by rw [tr_t he h4' h2, h1]; simp, ?_, fun o => ?_⟩
    · rcases h with ⟨g1, -⟩ | ⟨m, g1, g2, g3, -⟩
      · rw [g1]; exact fun w => hm w.symm
      · rw [g1]; exact g3
    · have ee : wI (iU s e) e = (sA s 3 e.toNatClampNeg).toInt64 := by unfold wI; rw [if_neg hm, ew_of he h4', a3]
      rcases h with ⟨g1, g2, g3⟩ | ⟨m, g1, g2, g3, g4, g5, g6, g7⟩
      · unfold Mv wO stp2; rw [h1, g1, g2, g3, ee, if_neg hm, if_pos rfl, if_pos rfl, j0]; exact ⟨rfl, rfl⟩
      · have em : ew (iU s e) m = sA s 3 m.toNatClampNeg := by rw [ew_of g4 (by rw [a4]; exact g5), a3]
        unfold Mv wO stp2; rw [h1, g1, g6, g7, ee, if_neg hm, if_neg g2, if_neg g2, if_neg g3, em, j3]
        exact ⟨by rw [← i3]; rfl, rfl⟩
  · refine ⟨Or.inr h1, by rw [tr_f h3, h1]; exact (decide_eq_false (fun w => hm w.symm)).symm, by rw [h2]; exact fun w => hm w.symm, fun o => ?_⟩
    unfold Mv wO wI stp2; rw [h1, h2, h6, h7]; simp +decide
theorem ad_ok {f : Nat} (hI : Iv s) (hf : f < 128) (h4 : sA s 4 f = 0) (hu : 0 ≤ u.toInt ∧ u.toInt < (sI s 0).toInt) (hv : 0 ≤ v.toInt ∧ v.toInt < (sI s 0).toInt) (hne : u ≠ v) :
    Iv (adS s f u v w) ∧ sI (adS s f u v w) 0 = sI s 0 ∧ (∀ i, sA (adS s f u v w) 4 i = if i = f then 1 else sA s 4 i) ∧ (∀ i, sA (adS s f u v w) 3 i = if i = f then cl (-1000000) 1000000 w else sA s 3 i) ∧ sI (adS s f u v w) 12 = sI s 12 + 1 ∧
    sA (adS s f u v w) 1 f = u ∧ sA (adS s f u v w) 2 f = v ∧ ew (adS s f u v w) (Int32.ofNat f) = cl (-1000000) 1000000 w ∧ pr (adS s f u v w) (Int32.ofNat f) = true ∧
    (sI (adS s f u v w) 15 = Int32.ofNat f ∨ sI (adS s f u v w) 15 = -1) ∧ (tr (adS s f u v w) (Int32.ofNat f) = decide (sI (adS s f u v w) 15 = Int32.ofNat f)) ∧ Mv s (adS s f u v w) (Int32.ofNat f) 0 := by
  have hF : (Int32.ofNat f).toInt = f := Int32.toInt_ofNat_of_lt (by omega)
  have hc : (Int32.ofNat f).toNatClampNeg = f := by rw [cln, hF]; omega
  have hvi : vi (Int32.ofNat f) = true := vi_t (by omega)
  have hI1 := stE_Iv (d := cl (-1000000) 1000000 w) hI hvi (by rw [hc]; exact h4) hu hv hne
  have g4 : sA (stE s (Int32.ofNat f) u v (cl (-1000000) 1000000 w)) 4 (Int32.ofNat f).toNatClampNeg ≠ 0 := by rw [stE_1.2.2.2.1, if_pos rfl]; decide
  have g5 : sA (stE s (Int32.ofNat f) u v (cl (-1000000) 1000000 w)) 5 (Int32.ofNat f).toNatClampNeg = 0 := by rw [stE_1.2.2.2.2, if_pos rfl]
  obtain ⟨q1, q2, q3, q4, q5, -⟩ := iU_ok hI1 hvi g4 g5
  obtain ⟨r1, r2, r3, r4⟩ := iU_law hI1 hvi g4 g5
  have g4' : sA (adS s f u v w) 4 (Int32.ofNat f).toNatClampNeg ≠ 0 := by unfold adS; rw [q4]; exact g4
  have a3 : ∀ i, sA (adS s f u v w) 3 i = if i = f then cl (-1000000) 1000000 w else sA s 3 i := fun i => by unfold adS; rw [q3, stE_1.2.2.1, hc]
  refine ⟨q1, ?_, fun i => ?_, a3, ?_, ?_, ?_, ?_, pr_iff.2 ⟨hvi, g4'⟩, r1, r2, ?_⟩
  · unfold adS; rw [q2.1]; unfold stE; simp only [sI_uI, sI_uA, Nat.reduceEqDiff, if_false]
  · unfold adS; rw [q4, stE_1.2.2.2.1, hc]
  · unfold adS; rw [q5]; unfold stE; simp only [sI_uI, if_true]
  · unfold adS; rw [q2.2.1, stE_1.1, hc, if_pos rfl]
  · unfold adS; rw [q2.2.2, stE_1.2.1, hc, if_pos rfl]
  · rw [ew_of hvi g4', a3, hc, if_pos rfl]
  · have := r4 0
    unfold Mv at this ⊢
    unfold adS
    have e1 : sI (stE s (Int32.ofNat f) u v (cl (-1000000) 1000000 w)) 13 = sI s 13 := by unfold stE; simp only [sI_uI, sI_uA, Nat.reduceEqDiff, if_false]
    have e2 : sJ (stE s (Int32.ofNat f) u v (cl (-1000000) 1000000 w)) 14 = sJ s 14 := by unfold stE; simp only [sJ_uI, sJ_uA]
    rw [e1, e2] at this; exact this
theorem Iv_ini (hn : (cl 2 32 a).toInt ≤ 32) : Iv (ini0 a) ∧ (∀ i, sA (ini0 a) 4 i = 0) ∧ (∀ i, sA (ini0 a) 3 i = 0) ∧ (∀ i, sA (ini0 a) 5 i = 0) ∧ sI (ini0 a) 0 = cl 2 32 a ∧ sI (ini0 a) 12 = 0 ∧ sI (ini0 a) 13 = 0 ∧ sJ (ini0 a) 14 = 0 ∧ sI (ini0 a) 15 = -1 ∧ sI (ini0 a) 16 = -1 := by
  have A : ∀ t i, t ≠ 8 → t ≠ 9 → t ≠ 10 → t ≠ 11 → sA (ini0 a) t i = 0 := fun t i h1 h2 h3 h4 => by
    unfold ini0 F2; simp only [sA_fA, h1, h2, h3, h4, false_and, if_false, sA_uI, sA_uJ, sA_z0, ite_self]
  have I : sI (ini0 a) 0 = cl 2 32 a := by unfold ini0 F2; simp only [sI_fA, sI_uI, sI_uJ, Nat.reduceEqDiff, if_false, if_true]
  have c2 := cl_rg (lo := 2) (hi := 32) a (by decide)
  simp only [Int32.reduceToInt] at c2
  have d0 : ∀ X, dN (ini0 a) X = 0 := fun X => by unfold dN; rw [A 7 X (by decide) (by decide) (by decide) (by decide)]; rfl
  refine ⟨⟨fun X hX => ?_, fun i hi => ?_, ?_, fun i hi => ?_, fun X hX => ⟨fun k k' h1 h2 => ?_, fun z ⟨k, h1, h2⟩ => ?_⟩⟩, fun i => A 4 i (by decide) (by decide) (by decide) (by decide), fun i => A 3 i (by decide) (by decide) (by decide) (by decide), fun i => A 5 i (by decide) (by decide) (by decide) (by decide), I, ?_, ?_, ?_, ?_, ?_⟩
  · rw [A 7 X (by decide) (by decide) (by decide) (by decide)]; decide
  · rw [A 1 i (by decide) (by decide) (by decide) (by decide), A 2 i (by decide) (by decide) (by decide) (by decide), I]; simp only [Int32.reduceToInt]; omega
  · unfold nOk; rw [I]; exact c2
  · rw [A 5 i (by decide) (by decide) (by decide) (by decide), A 4 i (by decide) (by decide) (by decide) (by decide)]; exact ⟨fun w => absurd rfl w, fun w => absurd rfl w⟩
  · rw [d0] at h2; omega
  · rw [d0] at h1; omega
  · unfold ini0 F2; simp only [sI_fA, sI_uI, sI_uJ, Nat.reduceEqDiff, if_false, if_true]
  · unfold ini0 F2; simp only [sI_fA, sI_uI, sI_uJ, Nat.reduceEqDiff, if_false, if_true]
  · unfold ini0 F2; simp only [sJ_fA, sJ_uI, sJ_uJ, Nat.reduceEqDiff, if_false, if_true]
  · unfold ini0 F2; simp only [sI_fA, sI_uI, sI_uJ, Nat.reduceEqDiff, if_false, if_true]
  · unfold ini0 F2; simp only [sI_fA, sI_uI, sI_uJ, Nat.reduceEqDiff, if_false, if_true]
theorem sc1 {a cc len p : Nat} {f : Nat → Int32} {s : St} (ha : a < p) : (isA (ob (H1 cc a len f) p s) a = true) = True ∧ alen (ob (H1 cc a len f) p s) a = len ∧ (∀ i, (inA (ob (H1 cc a len f) p s) a .int i = true) = (0 ≤ i.toInt ∧ i.toInt < len)) ∧ ∀ i, elt (ob (H1 cc a len f) p s) a i = .int (f i.toNatClampNeg) := by
  unfold ob
  refine ⟨?_, ?_, fun i => ?_, fun i => ?_⟩
  · rw [isA_ot (Or.inl ha), isA_H1]; exact eq_self _ ▸ rfl
  · rw [alen_ot (Or.inl ha), alen_H1]
  · rw [inA_ot (Or.inl ha)]; exact propext inA_H1
  · rw [elt_ot (Or.inl ha), elt_H1]
theorem H1_c {c N a len : Nat} {f : Nat → Int32} : (c, (H1 N a len f).2) = H1 c a len f := rfl
end Hh

section Th
variable {A B A' B' : Nat → Nat} {E E' F U T : Nat → Prop} {ρ ρ' : Nat → Nat} {x y z e f m r θ a b : Nat}
def Csd (A B : Nat → Nat) (E S : Nat → Prop) : Prop := ∀ e, E e → (S (A e) ↔ S (B e))
def Cn (A B : Nat → Nat) (E : Nat → Prop) (x y : Nat) : Prop := ∀ S, Csd A B E S → (S x ↔ S y)
theorem Cn.refl : Cn A B E x x := fun _ _ => Iff.rfl
theorem Cn.symm (h : Cn A B E x y) : Cn A B E y x := fun S hS => (h S hS).symm
theorem Cn.trans (h : Cn A B E x y) (g : Cn A B E y z) : Cn A B E x z := fun S hS => (h S hS).trans (g S hS)
theorem Cn.gen (g : ∀ e, E e → Cn A B E' (A e) (B e)) (h : Cn A B E x y) : Cn A B E' x y := fun S hS => h S fun e he => g e he S hS
theorem Cn.edge (h : E e) : Cn A B E (A e) (B e) := fun _ hS => hS e h
theorem Cn.mono (g : ∀ e, E e → E' e) (h : Cn A B E x y) : Cn A B E' x y := h.gen fun _ he => Cn.edge (g _ he)
theorem Cn.cls : Csd A B E (fun z => Cn A B E x z) := fun _ he => ⟨fun h => h.trans (Cn.edge he), fun h => h.trans (Cn.edge he).symm⟩
theorem Cn.cong (g : ∀ e, E e → A' e = A e ∧ B' e = B e) (h : Cn A B E x y) : Cn A' B' E x y := fun S hS => h S fun e he => by
  have := hS e he; rw [(g e he).1, (g e he).2] at this; exact this
theorem Cn.emp (h : ∀ e, ¬ E e) (g : Cn A B E x y) : x = y := ((g (fun z => x = z) fun e he => absurd he (h e)).1 rfl)
theorem Cn.add (h : Cn A B (fun g => E g ∨ g = e) x y) : Cn A B E x y ∨ (Cn A B E x (A e) ∧ Cn A B E (B e) y) ∨ (Cn A B E x (B e) ∧ Cn A B E (A e) y) := by
  by_cases q : Cn A B E x y
  · exact Or.inl q
  by_cases qa : Cn A B E x (A e)
  · by_cases qb : Cn A B E x (B e)
    · exact absurd ((h _ (fun g hg => hg.elim (fun w => Cn.cls g w) (fun w => by subst w; exact ⟨fun _ => qb, fun _ => qa⟩))).1 Cn.refl) q
    · refine Or.inr (Or.inl ⟨qa, ?_⟩)
      have := (h (fun z => Cn A B E x z ∨ Cn A B E (B e) z) (fun g hg => ?_)).1 (Or.inl Cn.refl)
      · exact this.resolve_left q
      · rcases hg with hg | rfl
        · exact or_congr (Cn.cls g hg) (Cn.cls g hg)
        · exact ⟨fun _ => Or.inr Cn.refl, fun _ => Or.inl qa⟩
  · by_cases qb : Cn A B E x (B e)
    · refine Or.inr (Or.inr ⟨qb, ?_⟩)
      have := (h (fun z => Cn A B E x z ∨ Cn A B E (A e) z) (fun g hg => ?_)).1 (Or.inl Cn.refl)
      · exact this.resolve_left q
      · rcases hg with hg | rfl
        · exact or_congr (Cn.cls g hg) (Cn.cls g hg)
        · exact ⟨fun _ => Or.inl qb, fun _ => Or.inr Cn.refl⟩
    · exact absurd ((h _ (fun g hg => hg.elim (fun w => Cn.cls g w) (fun w => by subst w; exact ⟨fun w => absurd w qa, fun w => absurd w qb⟩))).1 Cn.refl) q
def Br (A B : Nat → Nat) (E : Nat → Prop) (e x y : Nat) : Prop := (Cn A B E x (A e) ∧ Cn A B E (B e) y) ∨ (Cn A B E x (B e) ∧ Cn A B E (A e) y)
theorem Br.mono (g : ∀ e, E e → E' e) (h : Br A B E e x y) : Br A B E' e x y := h.imp (fun w => ⟨w.1.mono g, w.2.mono g⟩) (fun w => ⟨w.1.mono g, w.2.mono g⟩)
theorem Br.cn (h : Br A B E e x y) (he : Cn A B E (A e) (B e)) : Cn A B E x y := h.elim (fun w => (w.1.trans he).trans w.2) (fun w => (w.1.trans he.symm).trans w.2)
theorem Br.inv (h : Br A B E e x y) (g : Cn A B E x y) : Cn A B E (A e) (B e) := h.elim (fun w => (w.1.symm.trans g).trans w.2.symm) (fun w => ((w.1.symm.trans g).trans w.2.symm).symm)
theorem Br.swap (h : Br A B E e (A f) (B f)) : Br A B E f (A e) (B e) := h.elim (fun w => Or.inl ⟨w.1.symm, w.2.symm⟩) (fun w => Or.inr ⟨w.2, w.1⟩)
def Bl (E : Nat → Prop) (ρ : Nat → Nat) (θ : Nat) : Nat → Prop := fun g => E g ∧ ρ g < θ
def Kr (A B ρ : Nat → Nat) (U T : Nat → Prop) : Prop := (∀ e, T e → U e) ∧ ∀ e, U e → (T e ↔ ¬ Cn A B (Bl U ρ (ρ e)) (A e) (B e))
theorem Kr.t1 (h : Kr A B ρ U T) : ∀ (n e : Nat), ρ e < n → U e → Cn A B (Bl T ρ (ρ e + 1)) (A e) (B e)
  | 0, _, h0, _ => by omega
  | n + 1, e, hn, hu => by
    by_cases q : T e
    · exact Cn.edge ⟨q, by omega⟩
    · have c := Classical.byContradiction (fun w => q ((h.2 e hu).2 w))
      exact c.gen fun g hg => (Kr.t1 h n g (by have := hg.2; omega) hg.1).mono fun k hk => ⟨hk.1, by have := hk.2; have := hg.2; omega⟩
theorem Kr.bl (h : Kr A B ρ U T) : Cn A B (Bl U ρ θ) x y ↔ Cn A B (Bl T ρ θ) x y :=
  ⟨fun c => c.gen fun g hg => (h.t1 (ρ g + 1) g (by omega) hg.1).mono fun k hk => ⟨hk.1, by have := hk.2; have := hg.2; omega⟩, fun c => c.mono fun g hg => ⟨h.1 g hg.1, hg.2⟩⟩
theorem Kr.all (h : Kr A B ρ U T) : Cn A B U x y ↔ Cn A B T x y :=
  ⟨fun c => c.gen fun g hg => (h.t1 (ρ g + 1) g (by omega) hg).mono fun k hk => hk.1, fun c => c.mono fun g hg => h.1 g hg⟩
def Inj (ρ : Nat → Nat) (U : Nat → Prop) : Prop := ∀ e f, U e → U f → ρ e = ρ f → e = f
theorem Kr.acy (h : Kr A B ρ U T) (hi : Inj ρ U) : ∀ (θ e : Nat), T e → ¬ Cn A B (fun g => (T g ∧ g ≠ e) ∧ ρ g < θ) (A e) (B e)
  | 0, e, he, c => by
    have := Cn.emp (fun g hg => by omega) c
    exact (h.2 e (h.1 e he)).1 he (by rw [this]; exact Cn.refl)
  | θ + 1, e, he, c => by
    have ih := Kr.acy h hi θ
    by_cases q : ∃ f, (T f ∧ f ≠ e) ∧ ρ f = θ
    · obtain ⟨f, hf, hθ⟩ := q
      have c2 : Cn A B (fun g => ((T g ∧ g ≠ e) ∧ ρ g < θ) ∨ g = f) (A e) (B e) := c.mono fun g hg => by
        by_cases w : ρ g = θ
        · exact Or.inr (hi g f (h.1 g hg.1.1) (h.1 f hf.1) (by omega))
        · exact Or.inl ⟨hg.1, by have := hg.2; omega⟩
      rcases Cn.add c2 with c3 | c3
      · exact ih e he c3
      · by_cases w : ρ e < θ
        · have b2 : Br A B (Bl U ρ (ρ f)) e (A f) (B f) := Br.swap (Br.mono (fun g hg => ⟨h.1 g hg.1.1, by have := hg.2; omega⟩) c3)
          exact (h.2 f (h.1 f hf.1)).1 hf.1 (b2.cn (Cn.edge ⟨h.1 e he, by omega⟩))
        · have w2 : ρ e ≠ θ := fun w3 => hf.2 (hi f e (h.1 f hf.1) (h.1 e he) (by omega))
          have b2 : Br A B (Bl U ρ (ρ e)) f (A e) (B e) := Br.mono (fun g hg => ⟨h.1 g hg.1.1, by have := hg.2; omega⟩) c3
          exact (h.2 e (h.1 e he)).1 he (b2.cn (Cn.edge ⟨h.1 f hf.1, by omega⟩))
    · exact ih e he (c.mono fun g hg => ⟨hg.1, by
        have : ρ g ≠ θ := fun w => q ⟨g, hg.1, w⟩
        have := hg.2; omega⟩)
theorem Kr.forest (h : Kr A B ρ U T) (hi : Inj ρ U) (hb : ∀ e, U e → ρ e < θ) (he : T e) : ¬ Cn A B (fun g => T g ∧ g ≠ e) (A e) (B e) := fun c =>
  h.acy hi θ e he (c.mono fun g hg => ⟨hg, hb g (h.1 g hg.1)⟩)
def Bn (A B ρ : Nat → Nat) (T : Nat → Prop) (m a b : Nat) : Prop := T m ∧ Cn A B (Bl T ρ (ρ m + 1)) a b ∧ ¬ Cn A B (Bl T ρ (ρ m)) a b
theorem Bn.uniq (h : Bn A B ρ T m a b) (g : Bn A B ρ T r a b) : ρ m = ρ r := by
  rcases Nat.lt_trichotomy (ρ m) (ρ r) with q | q | q
  · exact absurd (h.2.1.mono fun k hk => ⟨hk.1, by have := hk.2; omega⟩) g.2.2
  · exact q
  · exact absurd (g.2.1.mono fun k hk => ⟨hk.1, by have := hk.2; omega⟩) h.2.2
theorem Kr.non (h : Kr A B ρ U T) (hu : U e) (ht : ¬ T e) (g : Bn A B ρ T m (A e) (B e)) : ρ m < ρ e := by
  have c := h.bl.1 (Classical.byContradiction (fun w => ht ((h.2 e hu).2 w)))
  refine Classical.byContradiction fun q => g.2.2 (c.mono fun k hk => ⟨hk.1, by have := hk.2; omega⟩)
theorem add_bl (hne : ¬ U e) : ∀ g, Bl (fun k => U k ∨ k = e) ρ θ g ↔ (Bl U ρ θ g ∨ (g = e ∧ ρ e < θ)) := fun g => by
  constructor
  · rintro ⟨h1 | h1, h2⟩
    · exact Or.inl ⟨h1, h2⟩
    · subst h1; exact Or.inr ⟨rfl, h2⟩
  · rintro (h | ⟨rfl, h⟩)
    · exact ⟨Or.inl h.1, h.2⟩
    · exact ⟨Or.inr rfl, h⟩
theorem add_old (hne : ¬ U e) (h : ¬ ρ e < θ) (c : Cn A B (Bl (fun k => U k ∨ k = e) ρ θ) x y) : Cn A B (Bl U ρ θ) x y := c.mono fun g hg => ((add_bl hne g).1 hg).resolve_right fun w => h w.2
theorem add_new (hne : ¬ U e) (c : Cn A B (Bl (fun k => U k ∨ k = e) ρ θ) x y) : Cn A B (Bl U ρ θ) x y ∨ Br A B (Bl U ρ θ) e x y :=
  Cn.add (c.mono fun g hg => ((add_bl hne g).1 hg).imp id fun w => w.1)
theorem add_up (c : Cn A B (Bl U ρ θ) x y) : Cn A B (Bl (fun k => U k ∨ k = e) ρ θ) x y := c.mono fun g hg => ⟨Or.inl hg.1, hg.2⟩
theorem Kr.ins1 (h : Kr A B ρ U T) (hne : ¬ U e) (hc : ¬ Cn A B U (A e) (B e)) : Kr A B ρ (fun k => U k ∨ k = e) (fun k => T k ∨ k = e) := by
  refine ⟨fun g hg => hg.imp (h.1 g) id, fun f hf => ?_⟩
  rcases hf with hf | rfl
  · have e1 : (T f ∨ f = e) ↔ T f := ⟨fun w => w.resolve_right fun w => hne (w ▸ hf), Or.inl⟩
    show (T f ∨ f = e) ↔ _
    rw [e1, h.2 f hf]
    refine not_congr ⟨add_up, fun c => (add_new hne c).resolve_right fun w => ?_⟩
    exact hc ((Br.swap (w.mono fun g hg => hg.1)).cn (Cn.edge hf))
  · refine ⟨fun _ c => hc ((add_old hne (by omega) c).mono fun g hg => hg.1), fun _ => Or.inr rfl⟩
theorem Kr.ins2 (h : Kr A B ρ U T) (hne : ¬ U e) (hm : Bn A B ρ T m (A e) (B e)) (hl : ρ m < ρ e) : Kr A B ρ (fun k => U k ∨ k = e) T := by
  refine ⟨fun g hg => Or.inl (h.1 g hg), fun f hf => ?_⟩
  rcases hf with hf | rfl
  · rw [h.2 f hf]
    refine not_congr ⟨add_up, fun c => ?_⟩
    by_cases q : ρ e < ρ f
    · rcases add_new hne c with c | c
      · exact c
      · exact c.cn (h.bl.2 (hm.2.1.mono fun g hg => ⟨hg.1, by have := hg.2; omega⟩))
    · exact add_old hne q c
  · refine ⟨fun w => absurd (h.1 _ w) hne, fun w => absurd (add_up (h.bl.2 (hm.2.1.mono fun g hg => ⟨hg.1, by have := hg.2; omega⟩))) w⟩
theorem Kr.ins3 (h : Kr A B ρ U T) (hi : Inj ρ (fun k => U k ∨ k = e)) (hne : ¬ U e) (hm : Bn A B ρ T m (A e) (B e)) (hl : ρ e < ρ m) : Kr A B ρ (fun k => U k ∨ k = e) (fun k => (T k ∧ k ≠ m) ∨ k = e) := by
  have hmU := h.1 m hm.1
  refine ⟨fun g hg => hg.imp (fun w => h.1 g w.1) id, fun f hf => ?_⟩
  rcases hf with hf | rfl
  · have hfe : f ≠ e := fun w => hne (w ▸ hf)
    by_cases q : f = m
    · subst q
      refine ⟨fun w => absurd rfl (w.resolve_right hfe).2, fun w => absurd ?_ w⟩
      have c2 : Cn A B (fun g => Bl T ρ (ρ f) g ∨ g = f) (A e) (B e) := hm.2.1.mono fun g hg => by
        by_cases w : ρ g = ρ f
        · exact Or.inr (hi g f (Or.inl (h.1 g hg.1)) (Or.inl hf) w)
        · exact Or.inl ⟨hg.1, by have := hg.2; omega⟩
      rcases Cn.add c2 with c3 | c3
      · exact absurd c3 hm.2.2
      · have b := Br.swap (Br.mono (E' := Bl (fun k => U k ∨ k = e) ρ (ρ f)) (fun g hg => ⟨Or.inl (h.1 g hg.1), hg.2⟩) c3)
        exact b.cn (Cn.edge ⟨Or.inr rfl, hl⟩)
    · have e1 : ((T f ∧ f ≠ m) ∨ f = e) ↔ T f := ⟨fun w => (w.resolve_right hfe).1, fun w => Or.inl ⟨w, q⟩⟩
      show ((T f ∧ f ≠ m) ∨ f = e) ↔ _
      rw [e1, h.2 f hf]
      refine not_congr ⟨add_up, fun c => ?_⟩
      rcases add_new hne c with c | c
      · exact c
      · by_cases w : ρ m < ρ f
        · exact c.cn (h.bl.2 (hm.2.1.mono fun g hg => ⟨hg.1, by have := hg.2; omega⟩))
        · have w2 : ρ f ≠ ρ m := fun w2 => q (hi f m (Or.inl hf) (Or.inl hmU) w2)
          have b := Br.swap (c.mono (E' := Bl U ρ (ρ m)) fun g hg => ⟨hg.1, by have := hg.2; omega⟩)
          exact absurd (h.bl.1 (b.cn (Cn.edge ⟨hf, by omega⟩))) hm.2.2
  · refine ⟨fun _ c => ?_, fun _ => Or.inr rfl⟩
    have c2 := h.bl.1 (add_old hne (by omega) c)
    exact hm.2.2 (c2.mono fun g hg => ⟨hg.1, by have := hg.2; omega⟩)
theorem Kr.del0 (h : Kr A B ρ U T) (hu : U e) (ht : ¬ T e) : Kr A B ρ (fun k => U k ∧ k ≠ e) T := by
  refine ⟨fun g hg => ⟨h.1 g hg, fun w => ht (w ▸ hg)⟩, fun f hf => ?_⟩
  rw [h.2 f hf.1]
  refine not_congr ⟨fun c => ?_, fun c => c.mono fun g hg => ⟨hg.1.1, hg.2⟩⟩
  exact (h.bl.1 c).mono fun g hg => ⟨⟨h.1 g hg.1, fun w => ht (w ▸ hg.1)⟩, hg.2⟩
theorem Kr.crs (h : Kr A B ρ U T) (ht : T e) (hr : U r) (hn : ¬ T r) : Cn A B (Bl (fun k => T k ∧ k ≠ e) ρ (ρ r)) (A r) (B r) ∨ (ρ e < ρ r ∧ Br A B (Bl (fun k => T k ∧ k ≠ e) ρ (ρ r)) e (A r) (B r)) := by
  have c := h.bl.1 (Classical.byContradiction (fun w => hn ((h.2 r hr).2 w)))
  by_cases q : ρ e < ρ r
  · have c2 : Cn A B (fun g => Bl (fun k => T k ∧ k ≠ e) ρ (ρ r) g ∨ g = e) (A r) (B r) := c.mono fun g hg => by
      by_cases w : g = e
      · exact Or.inr w
      · exact Or.inl ⟨⟨hg.1, w⟩, hg.2⟩
    exact (Cn.add c2).imp id fun w => ⟨q, w⟩
  · exact Or.inl (c.mono fun g hg => ⟨⟨hg.1, fun w => q (w ▸ hg.2)⟩, hg.2⟩)
def Crs (A B : Nat → Nat) (E : Nat → Prop) (a f : Nat) : Prop := ¬ (Cn A B E a (A f) ↔ Cn A B E a (B f))
theorem Br.crs (hf : ¬ Cn A B E (A e) (B e)) (h : Br A B E e (A f) (B f)) : Crs A B E (A e) f := by
  intro q
  rcases h with h | h
  · exact hf ((q.1 h.1.symm).trans h.2.symm)
  · exact hf ((q.2 h.2).trans h.1)
theorem Kr.del (h : Kr A B ρ U T) (hi : Inj ρ U) (hb : ∀ e, U e → ρ e < θ) (ht : T e)
    (hr : ∀ f, U f → f ≠ e → ¬ T f → ¬ Crs A B (fun k => T k ∧ k ≠ e) (A e) f) : Kr A B ρ (fun k => U k ∧ k ≠ e) (fun k => T k ∧ k ≠ e) := by
  have hfo := h.forest hi hb ht
  refine ⟨fun g hg => ⟨h.1 g hg.1, hg.2⟩, fun f hf => ?_⟩
  by_cases q : T f
  · exact ⟨fun _ c => (h.2 f hf.1).1 q (c.mono fun g hg => ⟨hg.1.1, hg.2⟩), fun _ => ⟨q, hf.2⟩⟩
  · refine ⟨fun w => absurd w.1 q, fun w => absurd ?_ w⟩
    rcases h.crs ht hf.1 q with c | c
    · exact c.mono fun g hg => ⟨⟨h.1 g hg.1.1, hg.1.2⟩, hg.2⟩
    · exact absurd (Br.crs hfo (c.2.mono fun g hg => hg.1)) (hr f hf.1 hf.2 q)
theorem Kr.delr (h : Kr A B ρ U T) (hi : Inj ρ U) (hb : ∀ e, U e → ρ e < θ) (ht : T e) (hr : U r) (hre : r ≠ e) (hn : ¬ T r) (hc : Crs A B (fun k => T k ∧ k ≠ e) (A e) r)
    (hm : ∀ f, U f → f ≠ e → ¬ T f → Crs A B (fun k => T k ∧ k ≠ e) (A e) f → ρ r ≤ ρ f) : Kr A B ρ (fun k => U k ∧ k ≠ e) (fun k => (T k ∧ k ≠ e) ∨ k = r) := by
  have hfo := h.forest hi hb ht
  refine ⟨fun g hg => hg.elim (fun w => ⟨h.1 g w.1, w.2⟩) (fun w => by subst w; exact ⟨hr, hre⟩), fun f hf => ?_⟩
  by_cases q : T f
  · exact ⟨fun _ c => (h.2 f hf.1).1 q (c.mono fun g hg => ⟨hg.1.1, hg.2⟩), fun _ => Or.inl ⟨q, hf.2⟩⟩
  · by_cases w : f = r
    · subst w
      refine ⟨fun _ c => hc (c _ fun g hg => ?_), fun _ => Or.inr rfl⟩
      by_cases w : T g
      · exact Cn.cls g ⟨w, hg.1.2⟩
      · exact Classical.byContradiction fun k => by have := hm g hg.1.1 hg.1.2 w k; have := hg.2; omega
    · refine ⟨fun k => k.elim (fun k => absurd k.1 q) (fun k => absurd k w), fun k => absurd ?_ k⟩
      have up : ∀ g, Bl (fun k => T k ∧ k ≠ e) ρ (ρ f) g → Bl (fun k => U k ∧ k ≠ e) ρ (ρ f) g := fun g hg => ⟨⟨h.1 g hg.1.1, hg.1.2⟩, hg.2⟩
      rcases h.crs ht hf.1 q with c | c
      · exact c.mono up
      · have h1 := hm f hf.1 hf.2 q (Br.crs hfo (c.2.mono fun g hg => hg.1))
        have h2 : ρ r ≠ ρ f := fun k => w (hi f r hf.1 hr k.symm)
        rcases h.crs ht hr hn with d | d
        · exact absurd ⟨fun k => k.trans (d.mono fun g hg => hg.1), fun k => k.trans (d.symm.mono fun g hg => hg.1)⟩ hc
        · have d2 := (d.2.mono (E' := Bl (fun k => U k ∧ k ≠ e) ρ (ρ f)) fun g hg => ⟨⟨h.1 g hg.1.1, hg.1.2⟩, by have := hg.2; omega⟩)
          exact (c.2.mono up).cn (d2.inv (Cn.edge ⟨⟨hr, hre⟩, by omega⟩))
theorem Kr.rew (h : Kr A B ρ U T) (hi : Inj ρ U) (hi' : Inj ρ' U) (hb : ∀ e, U e → ρ e < θ) (ho : ∀ g, g ≠ e → ρ' g = ρ g) (ht : T e) (hr : U r) (hn : ¬ (T r ∧ r ≠ e)) (hc : Crs A B (fun k => T k ∧ k ≠ e) (A e) r)
    (hm : ∀ f, U f → ¬ (T f ∧ f ≠ e) → Crs A B (fun k => T k ∧ k ≠ e) (A e) f → ρ' r ≤ ρ' f) : Kr A B ρ' U (fun k => (T k ∧ k ≠ e) ∨ k = r) := by
  have hfo := h.forest hi hb ht
  have hue := h.1 e ht
  have hj : ∀ θ', ρ' r < θ' → Cn A B (Bl U ρ' θ') (A e) (B e) := fun θ' hθ => by
    by_cases w : r = e
    · subst w; exact Cn.edge ⟨hue, hθ⟩
    · have hn' : ¬ T r := fun k => hn ⟨k, w⟩
      rcases h.crs ht hr hn' with d | d
      · exact absurd ⟨fun k => k.trans (d.mono fun g hg => hg.1), fun k => k.trans (d.symm.mono fun g hg => hg.1)⟩ hc
      · have := ho r w
        exact (d.2.mono (E' := Bl U ρ' θ') fun g hg => ⟨h.1 g hg.1.1, by rw [ho g hg.1.2]; have := hg.2; omega⟩).inv (Cn.edge ⟨hr, hθ⟩)
  refine ⟨fun g hg => hg.elim (fun w => h.1 g w.1) (fun w => by subst w; exact hr), fun f hf => ?_⟩
  by_cases q : T f ∧ f ≠ e
  · refine ⟨fun _ c => ?_, fun _ => Or.inl q⟩
    have c2 : Cn A B (fun g => Bl (fun k => U k ∧ k ≠ e) ρ (ρ f) g ∨ g = e) (A f) (B f) := c.mono fun g hg => by
      by_cases w : g = e
      · exact Or.inr w
      · exact Or.inl ⟨⟨hg.1, w⟩, by have := hg.2; rw [ho g w, ho f q.2] at this; exact this⟩
    rcases Cn.add c2 with d | d
    · exact (h.2 f hf).1 q.1 (d.mono fun g hg => ⟨hg.1.1, hg.2⟩)
    · by_cases w : ρ e < ρ f
      · exact (h.2 f hf).1 q.1 (Br.cn (Br.mono (E' := Bl U ρ (ρ f)) (fun g hg => ⟨hg.1.1, hg.2⟩) d) (Cn.edge ⟨hue, w⟩))
      · have w2 : ρ e ≠ ρ f := fun k => q.2 (hi f e hf hue k.symm)
        have d2 : Br A B (Bl U ρ (ρ e)) f (A e) (B e) := Br.swap (Br.mono (E' := Bl U ρ (ρ e)) (fun g hg => ⟨hg.1.1, by have := hg.2; omega⟩) d)
        exact (h.2 e hue).1 ht (d2.cn (Cn.edge ⟨hf, by omega⟩))
  · by_cases w : f = r
    · subst w
      refine ⟨fun _ c => hc (c _ fun g hg => ?_), fun _ => Or.inr rfl⟩
      by_cases w : T g ∧ g ≠ e
      · exact Cn.cls g w
      · exact Classical.byContradiction fun k => by have := hm g hg.1 w k; have := hg.2; omega
    · refine ⟨fun k => k.elim (fun k => absurd k q) (fun k => absurd k w), fun k => absurd ?_ k⟩
      by_cases v : f = e
      · subst v
        have h1 := hm f hue q (fun k => hfo (k.1 Cn.refl))
        have h2 : ρ' r ≠ ρ' f := fun k => w (hi' f r hf hr k.symm)
        exact hj _ (by omega)
      · have hnt : ¬ T f := fun k => q ⟨k, v⟩
        have up : ∀ g, Bl (fun k => T k ∧ k ≠ e) ρ (ρ f) g → Bl U ρ' (ρ' f) g := fun g hg => ⟨h.1 g hg.1.1, by rw [ho g hg.1.2, ho f v]; exact hg.2⟩
        rcases h.crs ht hf hnt with c | c
        · exact c.mono up
        · have h1 := hm f hf q (Br.crs hfo (c.2.mono fun g hg => hg.1))
          have h2 : ρ' r ≠ ρ' f := fun k => w (hi' f r hf hr k.symm)
          exact (c.2.mono up).cn (hj _ (by omega))
theorem Kr.cong (h : Kr A B ρ U T) (g : ∀ e, U e → A' e = A e ∧ B' e = B e ∧ ρ' e = ρ e) : Kr A' B' ρ' U T := by
  refine ⟨h.1, fun e he => ?_⟩
  rw [h.2 e he]
  have q := g e he
  rw [q.1, q.2.1, q.2.2]
  refine not_congr ⟨fun c => (c.cong fun k hk => ⟨(g k hk.1).1, (g k hk.1).2.1⟩).mono fun k hk => ⟨hk.1, by rw [(g k hk.1).2.2]; exact hk.2⟩, fun c => ?_⟩
  exact ((c.mono (E' := Bl U ρ (ρ e)) fun k hk => ⟨hk.1, by have := hk.2; rw [(g k hk.1).2.2] at this; exact this⟩).cong fun k hk => ⟨(g k hk.1).1.symm, (g k hk.1).2.1.symm⟩)
theorem Kr.iff (h : Kr A B ρ U T) (h1 : ∀ k, F k ↔ U k) (h2 : ∀ k, E k ↔ T k) : Kr A B ρ F E := by
  have e1 : F = U := funext fun k => propext (h1 k)
  have e2 : E = T := funext fun k => propext (h2 k)
  rw [e1, e2]; exact h
theorem Kr.uniq (h : Kr A B ρ U T) (g : Kr A B ρ U E) : ∀ e, T e ↔ E e := fun e => by
  by_cases q : U e
  · rw [h.2 e q, g.2 e q]
  · exact ⟨fun w => absurd (h.1 e w) q, fun w => absurd (g.1 e w) q⟩
end Th

section J
variable {lw : LW} {H : AH} {p j : Nat} {s s' s1 s2 g : St} {Q : Option Value → AH → Prop} {a b c d e x y t u v w z ex : Int32} {k n X Y i h : Nat}
theorem php : ∀ (n t : Nat) (f : Nat → Nat), (∀ i, i < t → f i < n) → (∀ i j, i < j → j < t → f i ≠ f j) → t ≤ n
  | 0, t, f, h1, _ => by
    by_cases q : t = 0
    · omega
    · have := h1 0 (by omega); omega
  | n + 1, t, f, h1, h2 => by
    by_cases q : ∃ i, i < t ∧ f i = n
    · obtain ⟨i0, q1, q2⟩ := q
      have := php n (t - 1) (fun i => if i < i0 then f i else f (i + 1)) (fun i hi => by
        show (if i < i0 then f i else f (i + 1)) < n
        split
        · rename_i w
          have := h1 i (by omega); have := h2 i i0 w q1; omega
        · rename_i w
          have := h1 (i + 1) (by omega); have := h2 i0 (i + 1) (by omega) (by omega); omega) (fun i j hij hj => by
        show (if i < i0 then f i else f (i + 1)) ≠ (if j < i0 then f j else f (j + 1))
        split
        · split
          · exact h2 i j hij (by omega)
          · exact h2 i (j + 1) (by omega) (by omega)
        · split
          · omega
          · exact h2 (i + 1) (j + 1) (by omega) (by omega))
      omega
    · have := php n t f (fun i hi => by
        have := h1 i hi
        have : f i ≠ n := fun w => q ⟨i, hi, w⟩
        omega) h2
      omega
def tn (t : Int32) : Nat := t.toInt.toNat
def Pq (g : St) (ex : Int32) (s : St) (i : Nat) : Prop := vi (sA s 9 (sA s 11 i).toNatClampNeg) = true ∧ sA g 5 (sA s 9 (sA s 11 i).toNatClampNeg).toNatClampNeg ≠ 0 ∧ sA s 9 (sA s 11 i).toNatClampNeg ≠ ex ∧
  (∃ j, j < i ∧ sA s 10 (sA s 11 i).toNatClampNeg = sA s 11 j) ∧
  ((sA g 1 (sA s 9 (sA s 11 i).toNatClampNeg).toNatClampNeg = sA s 11 i ∧ sA g 2 (sA s 9 (sA s 11 i).toNatClampNeg).toNatClampNeg = sA s 10 (sA s 11 i).toNatClampNeg) ∨
   (sA g 2 (sA s 9 (sA s 11 i).toNatClampNeg).toNatClampNeg = sA s 11 i ∧ sA g 1 (sA s 9 (sA s 11 i).toNatClampNeg).toNatClampNeg = sA s 10 (sA s 11 i).toNatClampNeg))
def Qi (g : St) (a ex : Int32) (s : St) (t : Nat) : Prop := Sr g s ∧ (1 ≤ t ∧ t ≤ 32) ∧ sA s 11 0 = a ∧ sA s 9 a.toNatClampNeg = -1 ∧
  (∀ i, i < t → (0 ≤ (sA s 11 i).toInt ∧ (sA s 11 i).toInt < 32) ∧ sA s 8 (sA s 11 i).toNatClampNeg = 1) ∧
  (∀ v, v < 32 → sA s 8 v = 0 ∨ ∃ i, i < t ∧ (sA s 11 i).toNatClampNeg = v) ∧
  (∀ i j, i < j → j < t → sA s 11 i ≠ sA s 11 j) ∧ ∀ i, 0 < i → i < t → Pq g ex s i
def Mo (s : St) (t : Nat) (s' : St) (t' : Nat) : Prop := t ≤ t' ∧ (∀ v, sA s 8 v = 1 → sA s' 8 v = 1) ∧ ∀ i, i < t → sA s' 11 i = sA s 11 i
theorem Mo.refl {t : Nat} : Mo s t s t := ⟨Nat.le_refl _, fun _ h => h, fun _ _ => rfl⟩
theorem Mo.trans {t t1 t2 : Nat} (h : Mo s t s1 t1) (q : Mo s1 t1 s2 t2) : Mo s t s2 t2 := ⟨Nat.le_trans h.1 q.1, fun v w => q.2.1 v (h.2.1 v w), fun i hi => (q.2.2 i (Nat.lt_of_lt_of_le hi h.1)).trans (h.2.2 i hi)⟩
theorem Qi.lt {t : Nat} (hq : Qi g a ex s t) (hX : X < 32) (h0 : sA s 8 X = 0) : t < 32 := by
  obtain ⟨h1, h2, h3, h4, h5, h6, h7, h8⟩ := hq
  have := php 32 (t + 1) (fun i => if i < t then (sA s 11 i).toNatClampNeg else X) (fun i hi => by
    show (if i < t then (sA s 11 i).toNatClampNeg else X) < 32
    split
    · rename_i w; have := (h5 i w).1; rw [cln]; omega
    · exact hX) (fun i j hij hj => by
    show (if i < t then (sA s 11 i).toNatClampNeg else X) ≠ (if j < t then (sA s 11 j).toNatClampNeg else X)
    rw [if_pos (by omega)]
    split
    · rename_i w
      exact fun q => h7 i j hij w (cl_inj (h5 i (by omega)).1.1 (h5 j w).1.1 q)
    · intro q
      have := (h5 i (by omega)).2
      rw [q, h0] at this; exact absurd this (by decide))
  omega
theorem oE_of (hS : Sr g s) : oE s z x = oE g z x := by
  unfold oE; rw [hS.2.2.1 1 (by decide) (by decide) (by decide) (by decide), hS.2.2.1 2 (by decide) (by decide) (by decide) (by decide)]
theorem oE_mem (hI : Iv g) (hx : 0 ≤ x.toInt ∧ x.toInt < 32) (hm : MEM g x.toNatClampNeg z) : (vi z = true ∧ sA g 5 z.toNatClampNeg ≠ 0) ∧ (0 ≤ (oE g z x).toInt ∧ (oE g z x).toInt < 32) ∧
    ((sA g 1 z.toNatClampNeg = oE g z x ∧ sA g 2 z.toNatClampNeg = x) ∨ (sA g 2 z.toNatClampNeg = oE g z x ∧ sA g 1 z.toNatClampNeg = x)) := by
  obtain ⟨m1, m2, m3⟩ := (hI.2.2.2.2 x.toNatClampNeg (by rw [cln]; omega)).2 z hm
  have en := hI.2.1 _ (vi_cl m1)
  have nn := hI.2.2.1.2
  refine ⟨⟨m1, m2⟩, ?_⟩
  unfold oE
  by_cases q : sA g 1 z.toNatClampNeg = x
  · rw [if_pos q]; exact ⟨by omega, Or.inr ⟨rfl, q⟩⟩
  · rw [if_neg q]
    have q2 : sA g 2 z.toNatClampNeg = x := m3.elim (fun w => absurd (cl_inj en.1.1 hx.1 w) q) (fun w => cl_inj en.2.1 hx.1 w)
    rw [if_pos q2]; exact ⟨by omega, Or.inl ⟨rfl, q2⟩⟩
theorem vs1_Qi (hI : Iv g) (ht : 0 ≤ t.toInt) (hq : Qi g a ex s (tn t)) (hh : h < tn t) (hx : sA s 11 h = x) (hm : MEM g x.toNatClampNeg z) :
    Qi g a ex (vs1 s x ex z t).1 (tn (vs1 s x ex z t).2) ∧ 0 ≤ (vs1 s x ex z t).2.toInt ∧ Mo s (tn t) (vs1 s x ex z t).1 (tn (vs1 s x ex z t).2) ∧ (z ≠ ex → sA (vs1 s x ex z t).1 8 (oE g z x).toNatClampNeg = 1) := by
  have rx : 0 ≤ x.toInt ∧ x.toInt < 32 := by have := (hq.2.2.2.2.1 h hh).1; rw [hx] at this; exact this
  obtain ⟨⟨m1, m2⟩, r, m3⟩ := oE_mem hI rx hm
  have hS := hq.1
  have eo : oE s z x = oE g z x := oE_of hS
  unfold vs1
  by_cases q1 : z = ex
  · rw [if_pos (Or.inl q1)]; exact ⟨hq, ht, Mo.refl, fun w => absurd q1 w⟩
  rw [if_neg (by rw [m1]; simp [q1]), eo]
  generalize hy : oE g z x = y at *
  have ry : y.toNatClampNeg < 32 := by rw [cln]; omega
  by_cases q2 : sA s 8 y.toNatClampNeg = 0
  rotate_left
  · rw [if_pos (Or.inr (Or.inr (Or.inl q2)))]
    refine ⟨hq, ht, Mo.refl, fun _ => ?_⟩
    obtain ⟨i, w1, w2⟩ := (hq.2.2.2.2.2.1 _ ry).resolve_left q2
    have := (hq.2.2.2.2.1 i w1).2; rw [w2] at this; exact this
  have hlt := hq.lt ry q2
  have t32 : t.toInt < 32 := by unfold tn at hlt; omega
  rw [if_neg (by
    rw [lt32, lt32, lt32]; simp only [Int32.reduceToInt, q2, not_true_eq_false, false_or]; omega)]
  have ht1 : (t + 1).toInt = t.toInt + 1 := ia (by simp only [Int32.reduceToInt]; omega) (by simp only [Int32.reduceToInt]; omega)
  have htn : tn (t + 1) = tn t + 1 := by unfold tn; omega
  have htc : t.toNatClampNeg = tn t := rfl
  show Qi g a ex (uA (uA (uA (uA s 8 y.toNatClampNeg 1) 9 y.toNatClampNeg z) 10 y.toNatClampNeg x) 11 t.toNatClampNeg y) (tn (t + 1)) ∧ _ ≤ (t + 1).toInt ∧ Mo s (tn t) (uA (uA (uA (uA s 8 y.toNatClampNeg 1) 9 y.toNatClampNeg z) 10 y.toNatClampNeg x) 11 t.toNatClampNeg y) (tn (t + 1)) ∧ (_ → sA (uA (uA (uA (uA s 8 y.toNatClampNeg 1) 9 y.toNatClampNeg z) 10 y.toNatClampNeg x) 11 t.toNatClampNeg y) 8 y.toNatClampNeg = 1)
  rw [htc, htn]
  have S' : Sr s (uA (uA (uA (uA s 8 y.toNatClampNeg 1) 9 y.toNatClampNeg z) 10 y.toNatClampNeg x) 11 (tn t) y) := (Sr_uA (by simp)).trans ((Sr_uA (by simp)).trans ((Sr_uA (by simp)).trans (Sr_uA (by simp))))
  have a8 : ∀ i, sA (uA (uA (uA (uA s 8 y.toNatClampNeg 1) 9 y.toNatClampNeg z) 10 y.toNatClampNeg x) 11 (tn t) y) 8 i = if i = y.toNatClampNeg then 1 else sA s 8 i := fun i => by
    simp only [sA_uA, Nat.reduceEqDiff, false_and, if_false, true_and]
  have a9 : ∀ i, sA (uA (uA (uA (uA s 8 y.toNatClampNeg 1) 9 y.toNatClampNeg z) 10 y.toNatClampNeg x) 11 (tn t) y) 9 i = if i = y.toNatClampNeg then z else sA s 9 i := fun i => by
    simp only [sA_uA, Nat.reduceEqDiff, false_and, if_false, true_and]
  have a10 : ∀ i, sA (uA (uA (uA (uA s 8 y.toNatClampNeg 1) 9 y.toNatClampNeg z) 10 y.toNatClampNeg x) 11 (tn t) y) 10 i = if i = y.toNatClampNeg then x else sA s 10 i := fun i => by
    simp only [sA_uA, Nat.reduceEqDiff, false_and, if_false, true_and]
  have a11 : ∀ i, sA (uA (uA (uA (uA s 8 y.toNatClampNeg 1) 9 y.toNatClampNeg z) 10 y.toNatClampNeg x) 11 (tn t) y) 11 i = if i = tn t then y else sA s 11 i := fun i => by
    simp only [sA_uA, Nat.reduceEqDiff, false_and, if_false, true_and]
  generalize uA (uA (uA (uA s 8 y.toNatClampNeg 1) 9 y.toNatClampNeg z) 10 y.toNatClampNeg x) 11 (tn t) y = s' at *
  obtain ⟨h1, h2, h3, h4, h5, h6, h7, h8⟩ := hq
  have hne : ∀ i, i < tn t → (sA s 11 i).toNatClampNeg ≠ y.toNatClampNeg := fun i hi w => by
    have := (h5 i hi).2; rw [w, q2] at this; exact absurd this (by decide)
  have o11 : ∀ i, i < tn t → sA s' 11 i = sA s 11 i := fun i hi => by rw [a11, if_neg (by omega)]
  have n11 : sA s' 11 (tn t) = y := by rw [a11, if_pos rfl]
  refine ⟨⟨h1.trans S', by omega, by rw [o11 0 (by omega)]; exact h3, ?_, fun i hi => ?_, fun V hV => ?_, fun i j hij hj => ?_, fun i h0 hi => ?_⟩, by omega, ⟨by omega, fun V hV => ?_, o11⟩, fun _ => by rw [a8, if_pos rfl]⟩
  · rw [a9, if_neg (by rw [← h3]; exact hne 0 (by omega))]; exact h4
  · by_cases w : i = tn t
    · subst w; rw [n11, a8, if_pos rfl]; exact ⟨r, rfl⟩
    · rw [o11 i (by omega), a8, if_neg (hne i (by omega))]; exact h5 i (by omega)
  · by_cases w : V = y.toNatClampNeg
    · exact Or.inr ⟨tn t, by omega, by rw [n11, w]⟩
    · rw [a8, if_neg w]
      exact (h6 V hV).imp id fun ⟨i, w1, w2⟩ => ⟨i, by omega, by rw [o11 i w1]; exact w2⟩
  · rw [o11 i (by omega)]
    by_cases w : j = tn t
    · subst w; rw [n11]; exact fun k => hne i (by omega) (by rw [k])
    · rw [o11 j (by omega)]; exact h7 i j hij (by omega)
  · unfold Pq
    by_cases w : i = tn t
    · subst w
      rw [n11, a9, if_pos rfl, a10, if_pos rfl]
      exact ⟨m1, m2, q1, ⟨h, hh, by rw [o11 h hh]; exact hx.symm⟩, m3⟩
    · have hi' : i < tn t := by omega
      rw [o11 i hi', a9, if_neg (hne i hi'), a10, if_neg (hne i hi')]
      obtain ⟨p1, p2, p3, ⟨j, p4, p5⟩, p6⟩ := h8 i h0 hi'
      exact ⟨p1, p2, p3, ⟨j, p4, by rw [o11 j (by omega)]; exact p5⟩, p6⟩
  · rw [a8]; split
    · rfl
    · exact hV
theorem vsF_Qi (hI : Iv g) : ∀ (m j : Nat) (q : St × Int32), 0 ≤ q.2.toInt → Qi g a ex q.1 (tn q.2) → h < tn q.2 → sA q.1 11 h = x → j + m ≤ dN g x.toNatClampNeg →
    Qi g a ex (vsF x ex j m q).1 (tn (vsF x ex j m q).2) ∧ 0 ≤ (vsF x ex j m q).2.toInt ∧ Mo q.1 (tn q.2) (vsF x ex j m q).1 (tn (vsF x ex j m q).2) ∧ (∀ i, j ≤ i → i < j + m → sA g 6 (x.toNatClampNeg * 32 + i) ≠ ex → sA (vsF x ex j m q).1 8 (oE g (sA g 6 (x.toNatClampNeg * 32 + i)) x).toNatClampNeg = 1)
  | 0, j, q, h0, hq, hh, hx, hm => ⟨hq, h0, Mo.refl, fun i h1 h2 => by omega⟩
  | m + 1, j, q, h0, hq, hh, hx, hm => by
    unfold vsF
    have e6 : sA q.1 6 = sA g 6 := hq.1.2.2.1 6 (by decide) (by decide) (by decide) (by decide)
    obtain ⟨r1, r2, r3, r4⟩ := vs1_Qi (z := sA q.1 6 (x.toNatClampNeg * 32 + j)) hI h0 hq hh hx ⟨j, by omega, by rw [e6]⟩
    have ih := vsF_Qi hI m (j + 1) (vs1 q.1 x ex (sA q.1 6 (x.toNatClampNeg * 32 + j)) q.2) r2 r1 (by have := r3.1; omega) (by rw [r3.2.2 h hh]; exact hx) (by omega)
    refine ⟨ih.1, ih.2.1, r3.trans ih.2.2.1, fun i h1 h2 h3 => ?_⟩
    by_cases w : i = j
    · subst w; exact ih.2.2.1.2.1 _ (by rw [e6] at r4 ⊢; exact r4 h3)
    · exact ih.2.2.2 i (by omega) (by omega) h3
def Dn (g : St) (ex : Int32) (s : St) (h : Nat) : Prop := ∀ i, i < h → ∀ z, MEM g (sA s 11 i).toNatClampNeg z → z ≠ ex → sA s 8 (oE g z (sA s 11 i)).toNatClampNeg = 1
theorem exF_Qi (hI : Iv g) : ∀ (m i : Nat) (q : St × Int32), i + m = 32 → 0 ≤ q.2.toInt → Qi g a ex q.1 (tn q.2) → i ≤ tn q.2 → Dn g ex q.1 i →
    Qi g a ex (exF ex i m q).1 (tn (exF ex i m q).2) ∧ Dn g ex (exF ex i m q).1 (tn (exF ex i m q).2)
  | 0, i, q, hm, h0, hq, hi, hd => ⟨hq, fun k hk => hd k (by have := hq.2.1.2; unfold exF at hk; omega)⟩
  | m + 1, i, q, hm, h0, hq, hi, hd => by
    unfold exF
    by_cases w : (i : Int) < q.2.toInt
    · rw [if_pos w]
      have hi' : i < tn q.2 := by unfold tn; omega
      have r := (hq.2.2.2.2.1 i hi').1
      have eV : vis q (sA q.1 11 i) ex = vsF (sA q.1 11 i) ex 0 (dN q.1 (sA q.1 11 i).toNatClampNeg) q := by
        unfold vis; rw [if_neg (by rw [lt32, lt32]; simp only [Int32.reduceToInt]; omega)]
      have e7 : dN q.1 (sA q.1 11 i).toNatClampNeg = dN g (sA q.1 11 i).toNatClampNeg := by unfold dN; rw [hq.1.2.2.1 7 (by decide) (by decide) (by decide) (by decide)]
      obtain ⟨r1, r2, r3, r4⟩ := vsF_Qi (a := a) (ex := ex) (h := i) (x := sA q.1 11 i) hI (dN g (sA q.1 11 i).toNatClampNeg) 0 q h0 hq hi' rfl (by omega)
      rw [eV, e7]
      refine exF_Qi hI m (i + 1) _ (by omega) r2 r1 (by have := r3.1; omega) (fun k hk z hz hne => ?_)
      rw [r3.2.2 k (by omega)] at hz ⊢
      by_cases v : k = i
      · subst v
        obtain ⟨κ, k1, k2⟩ := hz
        subst k2
        exact r4 κ (Nat.zero_le _) (by omega) hne
      · exact r3.2.1 _ (hd k (by omega) z hz hne)
    · rw [if_neg w]
      exact ⟨hq, fun k hk => hd k (by unfold tn at hk; omega)⟩
theorem F2_0 (h : X < 32) : sA (F2 s 0) 8 X = 0 ∧ sA (F2 s 0) 9 X = -1 := by
  unfold F2; simp only [sA_fA, Nat.reduceEqDiff, false_and, if_false, true_and, Nat.zero_le, h, if_true, and_self]
theorem exq_Qi (hI : Iv s) (ha : 0 ≤ a.toInt ∧ a.toInt < 32) : Qi s a ex (exq s a ex).1 (tn (exq s a ex).2) ∧ Dn s ex (exq s a ex).1 (tn (exq s a ex).2) := by
  unfold exq
  have hac : a.toNatClampNeg < 32 := by rw [cln]; omega
  refine exF_Qi hI 32 0 (_, _) (by decide) (show 0 ≤ (1 : Int32).toInt by decide) ?_ (Nat.zero_le _) (fun i hi => by omega)
  show Qi s a ex (uA (uA (F2 s 0) 8 a.toNatClampNeg 1) 11 0 a) 1
  have a8 : ∀ i, sA (uA (uA (F2 s 0) 8 a.toNatClampNeg 1) 11 0 a) 8 i = if i = a.toNatClampNeg then 1 else sA (F2 s 0) 8 i := fun i => by
    simp only [sA_uA, Nat.reduceEqDiff, false_and, if_false, true_and]
  have a9 : ∀ i, sA (uA (uA (F2 s 0) 8 a.toNatClampNeg 1) 11 0 a) 9 i = sA (F2 s 0) 9 i := fun i => by
    simp only [sA_uA, Nat.reduceEqDiff, false_and, if_false, true_and]
  have a11 : sA (uA (uA (F2 s 0) 8 a.toNatClampNeg 1) 11 0 a) 11 0 = a := by simp only [sA_uA, and_self, if_true]
  refine ⟨F2_Sr.trans ((Sr_uA (by simp)).trans (Sr_uA (by simp))), by omega, a11, by rw [a9]; exact (F2_0 hac).2, fun i hi => ?_, fun V hV => ?_, fun i j h1 h2 => by omega, fun i h1 h2 => by omega⟩
  · have : i = 0 := by omega
    subst this
    rw [a11, a8, if_pos rfl]; exact ⟨ha, rfl⟩
  · by_cases w : V = a.toNatClampNeg
    · exact Or.inr ⟨0, by omega, by rw [a11, w]⟩
    · rw [a8, if_neg w]; exact Or.inl (F2_0 hV).1
end J

section K
variable {lw : LW} {H : AH} {p j : Nat} {s s' s1 s2 g : St} {Q : Option Value → AH → Prop} {a b c d e x y t u v w z ex : Int32} {k n X Y i h : Nat}
def gA (s : St) (e : Nat) : Nat := (sA s 1 e).toNatClampNeg
def gB (s : St) (e : Nat) : Nat := (sA s 2 e).toNatClampNeg
def gU (s : St) (e : Nat) : Prop := e < 128 ∧ sA s 4 e ≠ 0
def gT (s : St) (e : Nat) : Prop := e < 128 ∧ sA s 5 e ≠ 0
def gR (s : St) (e : Nat) : Nat := ((sA s 3 e).toInt + 2147483648).toNat * 128 + e
abbrev gC (s : St) (E : Nat → Prop) (X Y : Nat) : Prop := Cn (gA s) (gB s) E X Y
theorem gR_inj : Inj (gR s) (fun e => e < 128) := fun e f h1 h2 h3 => by
  unfold gR at h3; have h1' : e < 128 := h1; have h2' : f < 128 := h2; omega
theorem gR_injU : Inj (gR s) (gU s) := fun e f h1 h2 h3 => gR_inj e f h1.1 h2.1 h3
theorem gR_lt (h : i < 128) : gR s i < 549755813888 := by
  unfold gR; have := rg32 (sA s 3 i); omega
theorem pc_iff (ha : vi a = true) (hb : vi b = true) : pc s a b = true ↔ gR s a.toNatClampNeg < gR s b.toNatClampNeg := by
  have r1 := vi_cl ha
  have r2 := vi_cl hb
  have r3 := vi_rg ha
  have r4 := vi_rg hb
  have r5 := rg32 (sA s 3 a.toNatClampNeg)
  have r6 := rg32 (sA s 3 b.toNatClampNeg)
  unfold pc gR
  by_cases q : sA s 3 a.toNatClampNeg = sA s 3 b.toNatClampNeg
  · rw [if_pos q, q, decide_eq_true_eq, lt32]
    have c1 : a.toNatClampNeg = a.toInt.toNat := cln
    have c2 : b.toNatClampNeg = b.toInt.toNat := cln
    omega
  · rw [if_neg q, decide_eq_true_eq, lt32]
    have : (sA s 3 a.toNatClampNeg).toInt ≠ (sA s 3 b.toNatClampNeg).toInt := fun w => q (eq32.2 w)
    omega
theorem ofi (h : i < 128) : (Int32.ofNat i).toInt = i ∧ (Int32.ofNat i).toNatClampNeg = i ∧ vi (Int32.ofNat i) = true := by
  have e : (Int32.ofNat i).toInt = i := Int32.toInt_ofNat_of_lt (by omega)
  exact ⟨e, by rw [cln, e]; omega, vi_t (by omega)⟩
theorem ofv (h : vi z = true) : Int32.ofNat z.toNatClampNeg = z := by
  have := vi_rg h
  rw [eq32, (ofi (vi_cl h)).1, cln]; omega
def Cp (s : St) : Prop := ∀ e, gT s e → MEM s (gA s e) (Int32.ofNat e) ∧ MEM s (gB s e) (Int32.ofNat e)
def gX (s : St) (ex : Int32) (e : Nat) : Prop := gT s e ∧ Int32.ofNat e ≠ ex
theorem Qi.cn {t : Nat} (hq : Qi g a ex s t) : ∀ (m i : Nat), i < m → i < t → gC g (gX g ex) a.toNatClampNeg (sA s 11 i).toNatClampNeg
  | 0, i, h, _ => by omega
  | m + 1, i, h, hi => by
    obtain ⟨h1, h2, h3, h4, h5, h6, h7, h8⟩ := hq
    by_cases w : i = 0
    · subst w; rw [h3]; exact Cn.refl
    · obtain ⟨p1, p2, p3, ⟨j, p4, p5⟩, p6⟩ := h8 i (by omega) hi
      have ih := Qi.cn ⟨h1, h2, h3, h4, h5, h6, h7, h8⟩ m j (by omega) (by omega)
      have ed : gC g (gX g ex) (gA g (sA s 9 (sA s 11 i).toNatClampNeg).toNatClampNeg) (gB g (sA s 9 (sA s 11 i).toNatClampNeg).toNatClampNeg) := Cn.edge ⟨⟨vi_cl p1, p2⟩, by rw [ofv p1]; exact p3⟩
      unfold gA gB at ed
      rcases p6 with p6 | p6
      · rw [p6.1, p6.2, p5] at ed; exact ih.trans ed.symm
      · rw [p6.1, p6.2, p5] at ed; exact ih.trans ed
theorem seen01 (hI : Iv s) (ha : 0 ≤ a.toInt ∧ a.toInt < 32) (hX : X < 32) : sA (exq s a ex).1 8 X = 0 ∨ sA (exq s a ex).1 8 X = 1 := by
  have hq := (exq_Qi (ex := ex) hI ha).1
  refine (hq.2.2.2.2.2.1 X hX).imp id fun ⟨i, w1, w2⟩ => ?_
  have := (hq.2.2.2.2.1 i w1).2; rw [w2] at this; exact this
theorem seen_iff (hI : Iv s) (hc : Cp s) (ha : 0 ≤ a.toInt ∧ a.toInt < 32) (hX : X < 32) : sA (exq s a ex).1 8 X = 1 ↔ gC s (gX s ex) a.toNatClampNeg X := by
  obtain ⟨hq, hd⟩ := exq_Qi (ex := ex) hI ha
  have fi : ∀ V, V < 32 → sA (exq s a ex).1 8 V = 1 → ∃ i, i < tn (exq s a ex).2 ∧ (sA (exq s a ex).1 11 i).toNatClampNeg = V := fun V hV h => by
    exact (hq.2.2.2.2.2.1 V hV).resolve_left (by rw [h]; decide)
  constructor
  · intro h
    obtain ⟨i, w1, w2⟩ := fi X hX h
    rw [← w2]; exact hq.cn (i + 1) i (by omega) w1
  · intro h
    have key : ∀ e, gX s ex e → ((gA s e < 32 ∧ sA (exq s a ex).1 8 (gA s e) = 1) ↔ (gB s e < 32 ∧ sA (exq s a ex).1 8 (gB s e) = 1)) := fun e he => by
      have en := hI.2.1 e he.1.1
      have cl := hI.2.1.cl hI.2.2.1 he.1.1
      have cp := hc e he.1
      have ec := (ofi he.1.1).2.1
      constructor
      · rintro ⟨q1, q2⟩
        refine ⟨cl.2, ?_⟩
        obtain ⟨i, w1, w2⟩ := fi _ q1 q2
        have ei : sA (exq s a ex).1 11 i = sA s 1 e := cl_inj (hq.2.2.2.2.1 i w1).1.1 en.1.1 w2
        have := hd i w1 (Int32.ofNat e) (by rw [w2]; exact cp.1) he.2
        unfold oE at this; rw [ec, ei, if_pos rfl] at this; exact this
      · rintro ⟨q1, q2⟩
        refine ⟨cl.1, ?_⟩
        obtain ⟨i, w1, w2⟩ := fi _ q1 q2
        have ei : sA (exq s a ex).1 11 i = sA s 2 e := cl_inj (hq.2.2.2.2.1 i w1).1.1 en.2.1 w2
        have := hd i w1 (Int32.ofNat e) (by rw [w2]; exact cp.2) he.2
        unfold oE at this; rw [ec, ei] at this
        by_cases q : sA s 1 e = sA s 2 e
        · unfold gA; rw [q]; exact q2
        · rw [if_neg q, if_pos rfl] at this; exact this
    have r := (h (fun V => V < 32 ∧ sA (exq s a ex).1 8 V = 1) key).1 ⟨by rw [cln]; omega, ?_⟩
    · exact r.2
    · have := (hq.2.2.2.2.1 0 (by have := hq.2.1; omega)).2
      rw [hq.2.2.1] at this; exact this
theorem Qi.ne {t : Nat} (hq : Qi g a ex s t) (h0 : 0 < j) (hij : j < i) (hi : i < t) : sA s 9 (sA s 11 j).toNatClampNeg ≠ sA s 9 (sA s 11 i).toNatClampNeg := by
  obtain ⟨h1, h2, h3, h4, h5, h6, h7, h8⟩ := hq
  obtain ⟨p1, p2, p3, ⟨j1, p4, p5⟩, p6⟩ := h8 i (by omega) hi
  obtain ⟨r1, r2, r3, ⟨j2, r4, r5⟩, r6⟩ := h8 j h0 (by omega)
  intro q
  rw [q] at r6
  have n1 := h7 j i hij hi
  have n2 := h7 j2 i (by omega) hi
  rcases p6 with p6 | p6 <;> rcases r6 with r6 | r6
  · exact n1 (r6.1.symm.trans p6.1)
  · exact n2 (by rw [← r5, ← r6.2]; exact p6.1)
  · exact n2 (by rw [← r5, ← r6.2]; exact p6.1)
  · exact n1 (r6.1.symm.trans p6.1)
theorem Qi.cne {t : Nat} (hq : Qi g a ex s t) (hi : i < t) : ∀ (m j : Nat), j < m → j < i → gC g (fun k => gT g k ∧ k ≠ (sA s 9 (sA s 11 i).toNatClampNeg).toNatClampNeg) a.toNatClampNeg (sA s 11 j).toNatClampNeg
  | 0, j, h, _ => by omega
  | m + 1, j, h, hj => by
    by_cases w : j = 0
    · subst w; rw [hq.2.2.1]; exact Cn.refl
    · have hne := hq.ne (by omega) hj hi
      have pi := hq.2.2.2.2.2.2.2 i (by omega) hi
      obtain ⟨p1, p2, p3, ⟨j1, p4, p5⟩, p6⟩ := hq.2.2.2.2.2.2.2 j (by omega) (by omega)
      have ih := Qi.cne hq hi m j1 (by omega) (by omega)
      have ed : gC g (fun k => gT g k ∧ k ≠ (sA s 9 (sA s 11 i).toNatClampNeg).toNatClampNeg) (gA g (sA s 9 (sA s 11 j).toNatClampNeg).toNatClampNeg) (gB g (sA s 9 (sA s 11 j).toNatClampNeg).toNatClampNeg) := Cn.edge ⟨⟨vi_cl p1, p2⟩, fun w => hne (inj_vi p1 pi.1 w)⟩
      unfold gA gB at ed
      rcases p6 with p6 | p6
      · rw [p6.1, p6.2, p5] at ed; exact ih.trans ed.symm
      · rw [p6.1, p6.2, p5] at ed; exact ih.trans ed
theorem Qi.hv {t : Nat} (hq : Qi g a ex s t) (hf : ∀ e, gT g e → ¬ gC g (fun k => gT g k ∧ k ≠ e) (gA g e) (gB g e)) : ∀ (m i : Nat) (best : Int32), i < m → i < t → (best = -1 ∨ vi best = true) →
    (hvF s m best (sA s 11 i) = -1 → best = -1 ∧ i = 0) ∧ (hvF s m best (sA s 11 i) ≠ -1 → vi (hvF s m best (sA s 11 i)) = true ∧ gC g (Bl (gT g) (gR g) (gR g (hvF s m best (sA s 11 i)).toNatClampNeg + 1)) a.toNatClampNeg (sA s 11 i).toNatClampNeg) ∧
    (best ≠ -1 → hvF s m best (sA s 11 i) ≠ -1 ∧ gR g best.toNatClampNeg ≤ gR g (hvF s m best (sA s 11 i)).toNatClampNeg) ∧
    (hvF s m best (sA s 11 i) = best ∨ (gT g (hvF s m best (sA s 11 i)).toNatClampNeg ∧ ¬ gC g (fun k => gT g k ∧ k ≠ (hvF s m best (sA s 11 i)).toNatClampNeg) a.toNatClampNeg (sA s 11 i).toNatClampNeg))
  | 0, i, best, h, _, _ => by omega
  | m + 1, i, best, h, hi, hb => by
    have r := (hq.2.2.2.2.1 i hi).1
    have g3 : gR s = gR g := by funext k; unfold gR; rw [hq.1.2.2.1 3 (by decide) (by decide) (by decide) (by decide)]
    unfold hvF
    rw [if_neg (by rw [lt32, lt32]; simp only [Int32.reduceToInt]; omega)]
    by_cases w : i = 0
    · subst w
      rw [hq.2.2.1, hq.2.2.2.1, if_pos rfl]
      exact ⟨fun q => ⟨q, rfl⟩, fun q => ⟨hb.resolve_left q, Cn.refl⟩, fun q => ⟨q, Nat.le_refl _⟩, Or.inl rfl⟩
    · have hc := hq.cne hi (i + 1)
      obtain ⟨p1, p2, p3, ⟨j, p4, p5⟩, p6⟩ := hq.2.2.2.2.2.2.2 i (by omega) hi
      have hcj := hc j (by omega) p4
      rw [if_neg (m1_vi p1), p5]
      have tE : gT g (sA s 9 (sA s 11 i).toNatClampNeg).toNatClampNeg := ⟨vi_cl p1, p2⟩
      have fE := hf _ tE
      have p6' : (gA g (sA s 9 (sA s 11 i).toNatClampNeg).toNatClampNeg = (sA s 11 i).toNatClampNeg ∧ gB g (sA s 9 (sA s 11 i).toNatClampNeg).toNatClampNeg = (sA s 11 j).toNatClampNeg) ∨ (gB g (sA s 9 (sA s 11 i).toNatClampNeg).toNatClampNeg = (sA s 11 i).toNatClampNeg ∧ gA g (sA s 9 (sA s 11 i).toNatClampNeg).toNatClampNeg = (sA s 11 j).toNatClampNeg) := by
        unfold gA gB; rw [← p5]; exact p6.imp (fun w => ⟨by rw [w.1], by rw [w.2]⟩) (fun w => ⟨by rw [w.1], by rw [w.2]⟩)
      clear p6 p3 p5
      generalize sA s 9 (sA s 11 i).toNatClampNeg = e at *
      have jn : ∀ (E : Nat → Prop), E e.toNatClampNeg → gC g E (sA s 11 j).toNatClampNeg (sA s 11 i).toNatClampNeg := fun E hE => by
        have ed : gC g E (gA g e.toNatClampNeg) (gB g e.toNatClampNeg) := Cn.edge hE
        rcases p6' with p6 | p6
        · rw [p6.1, p6.2] at ed; exact ed.symm
        · rw [p6.1, p6.2] at ed; exact ed
      have hB : vi (hvy s best e) = true ∧ (best ≠ -1 → gR g best.toNatClampNeg ≤ gR g (hvy s best e).toNatClampNeg) ∧ gR g e.toNatClampNeg ≤ gR g (hvy s best e).toNatClampNeg ∧ (hvy s best e = best ∨ hvy s best e = e) := by
        unfold hvy
        by_cases q1 : best = -1
        · rw [if_pos q1]; exact ⟨p1, fun w => absurd q1 w, Nat.le_refl _, Or.inr rfl⟩
        · rw [if_neg q1, if_neg (m1_vi p1)]
          have vb := hb.resolve_left q1
          have pi := pc_iff (s := s) vb p1
          rw [g3] at pi
          by_cases q2 : pc s best e = true
          · rw [if_pos q2]; exact ⟨p1, fun _ => Nat.le_of_lt (pi.1 q2), Nat.le_refl _, Or.inr rfl⟩
          · rw [if_neg q2]
            have : ¬ gR g best.toNatClampNeg < gR g e.toNatClampNeg := fun w => q2 (pi.2 w)
            exact ⟨vb, fun _ => Nat.le_refl _, by omega, Or.inl rfl⟩
      have nb := m1_vi hB.1
      obtain ⟨i1, i2, i3, i4⟩ := Qi.hv hq hf m j (hvy s best e) (by omega) (by omega) (Or.inr hB.1)
      obtain ⟨i5, i6⟩ := i3 nb
      obtain ⟨i7, i8⟩ := i2 i5
      generalize hvF s m (hvy s best e) (sA s 11 j) = r at *
      refine ⟨fun q => absurd q i5, fun _ => ⟨i7, i8.trans (jn _ ⟨tE, by omega⟩)⟩, fun q => ⟨i5, by have := hB.2.1 q; omega⟩, ?_⟩
      have cut : ¬ gC g (fun k => gT g k ∧ k ≠ e.toNatClampNeg) a.toNatClampNeg (sA s 11 i).toNatClampNeg := fun q => fE (by
        have := hcj.symm.trans q
        rcases p6' with p6 | p6
        · rw [p6.1, p6.2]; exact this.symm
        · rw [p6.1, p6.2]; exact this)
      rcases i4 with i4 | ⟨i4, i9⟩
      · rcases hB.2.2.2 with q | q
        · exact Or.inl (i4.trans q)
        · right; rw [i4, q]; exact ⟨tE, cut⟩
      · right
        refine ⟨i4, fun q => ?_⟩
        by_cases w : e.toNatClampNeg = r.toNatClampNeg
        · rw [← w] at q; exact cut q
        · exact i9 (q.trans (jn _ ⟨tE, w⟩).symm)
theorem hv_bn (hI : Iv s) (ha : 0 ≤ a.toInt ∧ a.toInt < 32) (hb : 0 ≤ b.toInt ∧ b.toInt < 32) (hab : a ≠ b) (hf : ∀ e, gT s e → ¬ gC s (fun k => gT s k ∧ k ≠ e) (gA s e) (gB s e)) (hs : sA (exq s a ex).1 8 b.toNatClampNeg ≠ 0) :
    hvF (exq s a ex).1 32 (-1) b ≠ -1 ∧ vi (hvF (exq s a ex).1 32 (-1) b) = true ∧ Bn (gA s) (gB s) (gR s) (gT s) (hvF (exq s a ex).1 32 (-1) b).toNatClampNeg a.toNatClampNeg b.toNatClampNeg := by
  obtain ⟨hq, hd⟩ := exq_Qi (ex := ex) hI ha
  obtain ⟨i, w1, w2⟩ := (hq.2.2.2.2.2.1 b.toNatClampNeg (by rw [cln]; omega)).resolve_left hs
  have eb : sA (exq s a ex).1 11 i = b := cl_inj (hq.2.2.2.2.1 i w1).1.1 hb.1 w2
  have hi0 : i ≠ 0 := fun w => hab (by rw [← hq.2.2.1, ← eb, w])
  obtain ⟨i1, i2, i3, i4⟩ := hq.hv hf 32 i (-1) (by have := hq.2.1.2; omega) w1 (Or.inl rfl)
  rw [eb] at i1 i2 i3 i4
  have n1 : hvF (exq s a ex).1 32 (-1) b ≠ -1 := fun w => hi0 (i1 w).2
  obtain ⟨i5, i6⟩ := i2 n1
  obtain ⟨i7, i8⟩ := i4.resolve_left n1
  exact ⟨n1, i5, i7, i6, fun q => i8 (q.mono fun k hk => ⟨hk.1, fun w => by have := hk.2; rw [w] at this; omega⟩)⟩
theorem lcF_min : ∀ (m j : Nat) (best : Int32), j + m ≤ 128 → ((best = -1 ∧ ∀ i, i < j → lcB s i = false) ∨ (vi best = true ∧ lcB s best.toNatClampNeg = true ∧ ∀ i, i < j → lcB s i = true → gR s best.toNatClampNeg ≤ gR s i)) →
    ((lcF s j m best = -1 ∧ ∀ i, i < j + m → lcB s i = false) ∨ (vi (lcF s j m best) = true ∧ lcB s (lcF s j m best).toNatClampNeg = true ∧ ∀ i, i < j + m → lcB s i = true → gR s (lcF s j m best).toNatClampNeg ≤ gR s i))
  | 0, j, best, _, h => h
  | m + 1, j, best, hj, h => by
    unfold lcF
    rw [show j + (m + 1) = (j + 1) + m by omega]
    refine lcF_min m (j + 1) _ (by omega) ?_
    obtain ⟨o1, o2, o3⟩ := ofi (i := j) (by omega)
    by_cases q : lcB s j = true
    · rw [if_pos q]
      unfold lgt
      rcases h with ⟨h1, h2⟩ | ⟨h1, h2, h3⟩
      · rw [if_pos h1]
        refine Or.inr ⟨o3, by rw [o2]; exact q, fun i hi w => ?_⟩
        by_cases v : i = j
        · rw [o2, v]; exact Nat.le_refl _
        · rw [h2 i (by omega)] at w; exact absurd w (by decide)
      · rw [if_neg (m1_vi h1), if_neg (m1_vi o3)]
        have pi := pc_iff (s := s) h1 o3
        rw [o2] at pi
        by_cases q2 : pc s best (Int32.ofNat j) = true
        · rw [if_pos q2]
          refine Or.inr ⟨h1, h2, fun i hi w => ?_⟩
          by_cases v : i = j
          · rw [v]; exact Nat.le_of_lt (pi.1 q2)
          · exact h3 i (by omega) w
        · rw [if_neg q2]
          have q3 : ¬ gR s best.toNatClampNeg < gR s j := fun w => q2 (pi.2 w)
          refine Or.inr ⟨o3, by rw [o2]; exact q, fun i hi w => ?_⟩
          by_cases v : i = j
          · rw [o2, v]; exact Nat.le_refl _
          · have := h3 i (by omega) w; rw [o2]; omega
    · rw [if_neg q]
      have q' : lcB s j = false := by simpa using q
      refine h.imp (fun w => ⟨w.1, fun i hi => ?_⟩) (fun w => ⟨w.1, w.2.1, fun i hi k => ?_⟩)
      · by_cases v : i = j
        · rw [v]; exact q'
        · exact w.2 i (by omega)
      · by_cases v : i = j
        · rw [v, q'] at k; exact absurd k (by decide)
        · exact w.2.2 i (by omega) k
theorem lcF_0 : (lcF s 0 128 (-1) = -1 ∧ ∀ i, i < 128 → lcB s i = false) ∨ (vi (lcF s 0 128 (-1)) = true ∧ lcB s (lcF s 0 128 (-1)).toNatClampNeg = true ∧ ∀ i, i < 128 → lcB s i = true → gR s (lcF s 0 128 (-1)).toNatClampNeg ≤ gR s i) := by
  have := lcF_min (s := s) 128 0 (-1) (by decide) (Or.inl ⟨rfl, fun i hi => by omega⟩)
  simpa using this
theorem lcB_iff (hI : Iv s) (hc : Cp s) (ha : 0 ≤ a.toInt ∧ a.toInt < 32) (hi : i < 128) : lcB (exq s a ex).1 i = true ↔ (gU s i ∧ ¬ gT s i) ∧ Crs (gA s) (gB s) (gX s ex) a.toNatClampNeg i := by
  have hS : Sr s (exq s a ex).1 := exq_Sr
  obtain ⟨o1, o2, o3⟩ := ofi hi
  have en := hI.2.1 i hi
  have cl := hI.2.1.cl hI.2.2.1 hi
  have nn := hI.2.2.1.2
  have sa := seen_iff (X := gA s i) (ex := ex) hI hc ha cl.1
  have sb := seen_iff (X := gB s i) (ex := ex) hI hc ha cl.2
  have za := seen01 (ex := ex) hI ha cl.1
  have zb := seen01 (ex := ex) hI ha cl.2
  unfold lcB cr
  rw [Bool.and_eq_true, decide_eq_true_eq, decide_eq_true_eq, o2, hS.2.2.1 1 (by decide) (by decide) (by decide) (by decide), hS.2.2.1 2 (by decide) (by decide) (by decide) (by decide), hS.2.2.1 4 (by decide) (by decide) (by decide) (by decide), hS.2.2.1 5 (by decide) (by decide) (by decide) (by decide)]
  have r1 : ¬ sA s 1 i < 0 ∧ sA s 1 i < 32 := by rw [lt32, lt32]; simp only [Int32.reduceToInt]; omega
  have r2 : ¬ sA s 2 i < 0 ∧ sA s 2 i < 32 := by rw [lt32, lt32]; simp only [Int32.reduceToInt]; omega
  have e1 : (gU s i ∧ ¬ gT s i) ↔ (¬ sA s 4 i = 0 ∧ sA s 5 i = 0) := by
    unfold gU gT; simp [hi]
  rw [e1]
  refine and_congr Iff.rfl ?_
  show _ ↔ ¬ (gC s (gX s ex) a.toNatClampNeg (gA s i) ↔ gC s (gX s ex) a.toNatClampNeg (gB s i))
  rw [← sa, ← sb]
  show _ ↔ ¬ (sA (exq s a ex).1 8 (sA s 1 i).toNatClampNeg = 1 ↔ sA (exq s a ex).1 8 (sA s 2 i).toNatClampNeg = 1)
  constructor
  · rintro ⟨-, -, w⟩ q
    rcases za with za | za <;> rcases zb with zb | zb
    · exact w (za.trans zb.symm)
    · rw [za, zb] at q; exact absurd (q.2 rfl) (by decide)
    · rw [za, zb] at q; exact absurd (q.1 rfl) (by decide)
    · exact w (za.trans zb.symm)
  · intro q
    refine ⟨r1, r2, fun w => q (by rw [w])⟩
end K

section L
variable {lw : LW} {H : AH} {p j : Nat} {s s' s1 s2 g : St} {Q : Option Value → AH → Prop} {a b c d e x y t u v w z ex : Int32} {k n X Y i h : Nat}
def Fo (s : St) : Prop := ∀ e, gT s e → ¬ gC s (fun k => gT s k ∧ k ≠ e) (gA s e) (gB s e)
theorem deg_lt (hI : Iv s) (hF : Fo s) (hX : X < 32) : dN s X < 32 := by
  have ad := hI.2.2.2.2 X hX
  have xi : (Int32.ofNat X).toInt = X := Int32.toInt_ofNat_of_lt (by omega)
  have xc : (Int32.ofNat X).toNatClampNeg = X := by rw [cln, xi]; omega
  have om : ∀ k, k < dN s X → _ := fun k hk => oE_mem (z := sA s 6 (X * 32 + k)) (x := Int32.ofNat X) hI (by omega) (by rw [xc]; exact ⟨k, hk, rfl⟩)
  have := php 32 (dN s X + 1) (fun k => if k < dN s X then (oE s (sA s 6 (X * 32 + k)) (Int32.ofNat X)).toNatClampNeg else X) (fun k hk => by
    show (if k < dN s X then (oE s (sA s 6 (X * 32 + k)) (Int32.ofNat X)).toNatClampNeg else X) < 32
    split
    · rename_i w; have := (om k w).2.1; rw [cln]; omega
    · exact hX) (fun k k' hk hk' => by
    show (if k < dN s X then (oE s (sA s 6 (X * 32 + k)) (Int32.ofNat X)).toNatClampNeg else X) ≠ (if k' < dN s X then (oE s (sA s 6 (X * 32 + k')) (Int32.ofNat X)).toNatClampNeg else X)
    rw [if_pos (by omega)]
    obtain ⟨⟨m1, m2⟩, m3, m4⟩ := om k (by omega)
    split
    · rename_i w
      obtain ⟨⟨r1, r2⟩, r3, r4⟩ := om k' w
      have nd := ad.1 k k' hk w
      intro q
      have q' := cl_inj m3.1 r3.1 q
      refine hF _ ⟨vi_cl m1, m2⟩ ?_
      have ed : gC s (fun k_1 => gT s k_1 ∧ k_1 ≠ (sA s 6 (X * 32 + k)).toNatClampNeg) (gA s (sA s 6 (X * 32 + k')).toNatClampNeg) (gB s (sA s 6 (X * 32 + k')).toNatClampNeg) := Cn.edge ⟨⟨vi_cl r1, r2⟩, fun v => nd (inj_vi r1 m1 v).symm⟩
      unfold gC gA gB at *
      rcases m4 with m4 | m4 <;> rcases r4 with r4 | r4
      · rw [m4.1, m4.2, q', ← r4.1, ← r4.2]; exact ed
      · rw [m4.1, m4.2, q', ← r4.1, ← r4.2]; exact ed.symm
      · rw [m4.1, m4.2, q', ← r4.1, ← r4.2]; exact ed.symm
      · rw [m4.1, m4.2, q', ← r4.1, ← r4.2]; exact ed
    · intro q
      have bo := hI.2.2.2.1 _ (vi_cl m1)
      have ne := bo.2 (bo.1 m2)
      have q' : oE s (sA s 6 (X * 32 + k)) (Int32.ofNat X) = Int32.ofNat X := cl_inj m3.1 (by omega) (by rw [xc]; exact q)
      rw [q'] at m4
      exact m4.elim (fun w => ne (w.1.trans w.2.symm)) (fun w => ne (w.2.trans w.1.symm)))
  omega
theorem gT_jT (h : vi e = true) (h5 : sA s 5 e.toNatClampNeg = 0) : gT (jT s e) k ↔ (gT s k ∨ k = e.toNatClampNeg) := by
  unfold gT; rw [jT_5 h h5]
  by_cases q : k = e.toNatClampNeg
  · subst q; simp [vi_cl h]
  · simp [q]
theorem gT_lT (h : vi e = true) (h5 : sA s 5 e.toNatClampNeg ≠ 0) : gT (lT s e) k ↔ (gT s k ∧ k ≠ e.toNatClampNeg) := by
  unfold gT; rw [lT_5 h h5]
  by_cases q : k = e.toNatClampNeg
  · subst q; simp
  · simp [q]
theorem gA_of (h : sA s' 1 = sA s 1) : gA s' = gA s := by funext k; unfold gA; rw [h]
theorem gB_of (h : sA s' 2 = sA s 2) : gB s' = gB s := by funext k; unfold gB; rw [h]
theorem gR_of (h : sA s' 3 = sA s 3) : gR s' = gR s := by funext k; unfold gR; rw [h]
theorem gU_of (h : sA s' 4 = sA s 4) : gU s' = gU s := by funext k; unfold gU; rw [h]
theorem gT_of (h : sA s' 5 = sA s 5) : gT s' = gT s := by funext k; unfold gT; rw [h]
theorem Sr.ar (g : Sr s s') {t : Nat} (h : t < 8) : sA s' t = sA s t := g.2.2.1 t (by omega) (by omega) (by omega) (by omega)
theorem Cp.of (h : Cp s) (h1 : sA s' 1 = sA s 1) (h2 : sA s' 2 = sA s 2) (h5 : sA s' 5 = sA s 5) (h6 : sA s' 6 = sA s 6) (h7 : sA s' 7 = sA s 7) : Cp s' := by
  intro e he
  rw [gT_of h5] at he
  rw [gA_of h1, gB_of h2, MEM.of h6 h7, MEM.of h6 h7]; exact h e he
theorem jT_Cp (hI : Iv s) (hc : Cp s) (hF : Fo s) (h : vi e = true) (h4 : sA s 4 e.toNatClampNeg ≠ 0) (h5 : sA s 5 e.toNatClampNeg = 0) : Cp (jT s e) := by
  have hab := cab hI h h4
  have r := hI.2.1.cl hI.2.2.1 (vi_cl h)
  have hj : jT s e = aA (aA (uJ (uI (uA s 5 e.toNatClampNeg 1) 13 (sI s 13 + 1)) 14 (sJ s 14 + (sA s 3 e.toNatClampNeg).toInt64)) (sA s 1 e.toNatClampNeg) e) (sA s 2 e.toNatClampNeg) e := by unfold jT; rw [if_pos ⟨h, h5⟩]
  have G : ∀ X, X < 32 → ∀ z, MEM (jT s e) X z ↔ MEM s X z ∨ (z = e ∧ (X = gA s e.toNatClampNeg ∨ X = gB s e.toNatClampNeg)) := fun X hX z => by
    have ad := hI.2.2.2.2 X hX
    have nm : ¬ MEM s X e := fun w => (ad.2 e w).2.1 h5
    have := (aa2 (z := z) (X := X) (e := e) (a := sA s 1 e.toNatClampNeg) (b := sA s 2 e.toNatClampNeg) (base_DG (k := e.toNatClampNeg) (v := 1) (c := sI s 13 + 1) (q := sJ s 14 + (sA s 3 e.toNatClampNeg).toInt64) hI.1) r.1 r.2 rfl rfl hab hX ((ND.of base_6 base_7).2 ad.1) (fun w => nm ((MEM.of base_6 base_7).1 w))).2.2.1
      (by unfold dN; rw [base_7]; exact deg_lt hI hF r.1) (by unfold dN; rw [base_7]; exact deg_lt hI hF r.2)
    rw [MEM.of base_6 base_7] at this
    rw [hj]; exact this
  have a1 : sA (jT s e) 1 = sA s 1 := jT_A (by decide) (by decide) (by decide)
  have a2 : sA (jT s e) 2 = sA s 2 := jT_A (by decide) (by decide) (by decide)
  intro k hk
  rw [gT_jT h h5] at hk
  rw [gA_of a1, gB_of a2]
  rcases hk with hk | hk
  · have := hI.2.1.cl hI.2.2.1 hk.1
    rw [G (gA s k) this.1, G (gB s k) this.2]; exact ⟨Or.inl (hc k hk).1, Or.inl (hc k hk).2⟩
  · subst hk
    rw [G (gA s e.toNatClampNeg) r.1, G (gB s e.toNatClampNeg) r.2, ofv h]; exact ⟨Or.inr ⟨rfl, Or.inl rfl⟩, Or.inr ⟨rfl, Or.inr rfl⟩⟩
theorem lT_Cp (hI : Iv s) (hc : Cp s) (h : vi e = true) (h5 : sA s 5 e.toNatClampNeg ≠ 0) : Cp (lT s e) := by
  have h4 := (hI.2.2.2.1 _ (vi_cl h)).1 h5
  have hab := cab hI h h4
  have r := hI.2.1.cl hI.2.2.1 (vi_cl h)
  have hj : lT s e = rA (rA (uJ (uI (uA s 5 e.toNatClampNeg 0) 13 (sI s 13 - 1)) 14 (sJ s 14 - (sA s 3 e.toNatClampNeg).toInt64)) (sA s 1 e.toNatClampNeg) e) (sA s 2 e.toNatClampNeg) e := by unfold lT; rw [if_pos ⟨h, h5⟩]
  have G : ∀ X, X < 32 → ∀ z, MEM (lT s e) X z ↔ MEM s X z ∧ ¬ (z = e ∧ (X = gA s e.toNatClampNeg ∨ X = gB s e.toNatClampNeg)) := fun X hX z => by
    have := (ra2 (z := z) (X := X) (e := e) (a := sA s 1 e.toNatClampNeg) (b := sA s 2 e.toNatClampNeg) (base_DG (k := e.toNatClampNeg) (v := 0) (c := sI s 13 - 1) (q := sJ s 14 - (sA s 3 e.toNatClampNeg).toInt64) hI.1) r.1 r.2 rfl rfl hab hX (fun X hX => (ND.of base_6 base_7).2 (hI.2.2.2.2 X hX).1)).1
    rw [MEM.of base_6 base_7] at this
    rw [hj]; exact this
  have a1 : sA (lT s e) 1 = sA s 1 := lT_A (by decide) (by decide) (by decide)
  have a2 : sA (lT s e) 2 = sA s 2 := lT_A (by decide) (by decide) (by decide)
  intro k hk
  rw [gT_lT h h5] at hk
  rw [gA_of a1, gB_of a2]
  have := hI.2.1.cl hI.2.2.1 hk.1.1
  have ne : Int32.ofNat k ≠ e := fun w => hk.2 (by rw [← w]; exact (ofi hk.1.1).2.1.symm)
  rw [G (gA s k) this.1, G (gB s k) this.2]; exact ⟨⟨(hc k hk.1).1, fun w => ne w.1⟩, ⟨(hc k hk.1).2, fun w => ne w.1⟩⟩
def Kj (s : St) : Prop := Kr (gA s) (gB s) (gR s) (gU s) (gT s)
def Jv (s : St) : Prop := Iv s ∧ Cp s ∧ Kj s
theorem Kj.of (h : Kj s) (h1 : sA s' 1 = sA s 1) (h2 : sA s' 2 = sA s 2) (h3 : sA s' 3 = sA s 3) (h4 : sA s' 4 = sA s 4) (h5 : sA s' 5 = sA s 5) : Kj s' := by
  unfold Kj; rw [gA_of h1, gB_of h2, gR_of h3, gU_of h4, gT_of h5]; exact h
theorem Sr.Jv (g : Sr s s') (h : Jv s) : Jv s' := ⟨g.Iv h.1, h.2.1.of (g.ar (by decide)) (g.ar (by decide)) (g.ar (by decide)) (g.ar (by decide)) (g.ar (by decide)), h.2.2.of (g.ar (by decide)) (g.ar (by decide)) (g.ar (by decide)) (g.ar (by decide)) (g.ar (by decide))⟩
theorem stL2_Jv (h : Jv s) : Jv (stL2 s a b) := by
  have A : ∀ t, sA (stL2 s a b) t = sA s t := fun t => by rw [stL2_A]
  exact ⟨stL2_Iv h.1, h.2.1.of (A _) (A _) (A _) (A _) (A _), h.2.2.of (A _) (A _) (A _) (A _) (A _)⟩
theorem Fo_of {U : Nat → Prop} (h : Kr (gA s) (gB s) (gR s) U (gT s)) (hU : ∀ k, U k → k < 128) : Fo s := fun e he =>
  h.forest (θ := 549755813888) (fun e f h1 h2 h3 => gR_inj e f (hU e h1) (hU f h2) h3) (fun e he => gR_lt (hU e he)) he
theorem Kj.fo (h : Kj s) : Fo s := Fo_of h fun k hk => hk.1
theorem gX_m1 : gX s (-1) = gT s := by
  funext k; unfold gX
  exact propext ⟨fun h => h.1, fun h => ⟨h, m1_vi (ofi h.1).2.2⟩⟩
theorem iU_J (hI : Iv s) (hc : Cp s) (he : vi e = true) (h4 : sA s 4 e.toNatClampNeg ≠ 0) (h5 : sA s 5 e.toNatClampNeg = 0) (hk : Kr (gA s) (gB s) (gR s) (fun k => gU s k ∧ k ≠ e.toNatClampNeg) (gT s)) : Jv (iU s e) := by
  have hF : Fo s := Fo_of hk fun k hk => hk.1.1
  have hI' := (iU_ok hI he h4 h5).1
  have hS : Sr s (sx s e) := sx_Sr
  have hIx := hS.Iv hI
  have hcx : Cp (sx s e) := hc.of (hS.ar (by decide)) (hS.ar (by decide)) (hS.ar (by decide)) (hS.ar (by decide)) (hS.ar (by decide))
  have xA := gA_of (hS.ar (t := 1) (by decide))
  have xB := gB_of (hS.ar (t := 2) (by decide))
  have xR := gR_of (hS.ar (t := 3) (by decide))
  have xU := gU_of (hS.ar (t := 4) (by decide))
  have xT := gT_of (hS.ar (t := 5) (by decide))
  have hFx : Fo (sx s e) := by unfold Fo gC; rw [xA, xB, xT]; exact hF
  have h4x : sA (sx s e) 4 e.toNatClampNeg ≠ 0 := by rw [hS.ar (by decide)]; exact h4
  have h5x : sA (sx s e) 5 e.toNatClampNeg = 0 := by rw [hS.ar (by decide)]; exact h5
  have en := hI.2.1 _ (vi_cl he)
  have nn := hI.2.2.1.2
  have cle := hI.2.1.cl hI.2.2.1 (vi_cl he)
  have ra : 0 ≤ (sA s 1 e.toNatClampNeg).toInt ∧ (sA s 1 e.toNatClampNeg).toInt < 32 := by omega
  have rb : 0 ≤ (sA s 2 e.toNatClampNeg).toInt ∧ (sA s 2 e.toNatClampNeg).toInt < 32 := by omega
  have nU : ¬ (gU s e.toNatClampNeg ∧ e.toNatClampNeg ≠ e.toNatClampNeg) := fun w => w.2 rfl
  have nT : ¬ gT s e.toNatClampNeg := fun w => w.2 h5
  have uE : gU s e.toNatClampNeg := ⟨vi_cl he, h4⟩
  have eU : ∀ k, gU s k ↔ ((gU s k ∧ k ≠ e.toNatClampNeg) ∨ k = e.toNatClampNeg) := fun k => by
    by_cases q : k = e.toNatClampNeg
    · subst q; simp [uE]
    · simp [q]
  have sn := seen_iff (X := gB s e.toNatClampNeg) (ex := -1) hI hc ra cle.2
  rw [gX_m1] at sn
  refine ⟨hI', ?_⟩
  unfold iU
  by_cases e1 : sA (sx s e) 8 (sA s 2 e.toNatClampNeg).toNatClampNeg = 0
  · rw [if_pos e1]
    have J : Cp (jT (sx s e) e) ∧ Kj (jT (sx s e) e) := by
      refine ⟨jT_Cp hIx hcx hFx he h4x h5x, ?_⟩
      unfold Kj
      rw [gA_of (jT_A (by decide) (by decide) (by decide)), gB_of (jT_A (by decide) (by decide) (by decide)), gR_of (jT_A (by decide) (by decide) (by decide)), gU_of (jT_A (by decide) (by decide) (by decide)), xA, xB, xR, xU]
      refine (hk.ins1 nU (fun q => ?_)).iff eU (fun k => by rw [gT_jT he h5x, xT])
      have := sn.2 (hk.all.1 q)
      unfold gB at this; rw [show (exq s (sA s 1 e.toNatClampNeg) (-1)).1 = sx s e from rfl, e1] at this; exact absurd this (by decide)
    have A : ∀ t, sA (stL2 (jT (sx s e) e) e (-1)) t = sA (jT (sx s e) e) t := fun t => by rw [stL2_A]
    exact ⟨J.1.of (A _) (A _) (A _) (A _) (A _), J.2.of (A _) (A _) (A _) (A _) (A _)⟩
  · rw [if_neg e1]
    have hne : sA s 1 e.toNatClampNeg ≠ sA s 2 e.toNatClampNeg := (hI.2.2.2.1 _ (vi_cl he)).2 h4
    obtain ⟨n1, v1, bn⟩ := hv_bn (ex := -1) hI ra rb hne hF e1
    rw [show (exq s (sA s 1 e.toNatClampNeg) (-1)).1 = sx s e from rfl] at n1 v1 bn
    generalize hvF (sx s e) 32 (-1) (sA s 2 e.toNatClampNeg) = m at *
    have mT : gT s m.toNatClampNeg := bn.1
    have mne : m.toNatClampNeg ≠ e.toNatClampNeg := fun w => nT (w ▸ mT)
    have pi := pc_iff (s := sx s e) he v1
    rw [xR] at pi
    have rne : gR s m.toNatClampNeg ≠ gR s e.toNatClampNeg := fun w => mne (gR_inj _ _ (vi_cl v1) (vi_cl he) w)
    by_cases e2 : m = -1 ∨ pc (sx s e) e m = false
    · rw [if_pos e2]
      have e3 := e2.resolve_left n1
      have hl : gR s m.toNatClampNeg < gR s e.toNatClampNeg := by
        have : ¬ gR s e.toNatClampNeg < gR s m.toNatClampNeg := fun w => by rw [pi.2 w] at e3; exact absurd e3 (by decide)
        omega
      have A : ∀ t, t < 8 → sA (stL2 (sx s e) (-1) (-1)) t = sA s t := fun t ht => by rw [stL2_A, hS.ar ht]
      refine ⟨hc.of (A _ (by decide)) (A _ (by decide)) (A _ (by decide)) (A _ (by decide)) (A _ (by decide)), Kj.of ?_ (A _ (by decide)) (A _ (by decide)) (A _ (by decide)) (A _ (by decide)) (A _ (by decide))⟩
      exact (hk.ins2 nU bn hl).iff eU (fun k => Iff.rfl)
    · rw [if_neg e2]
      have e3 : pc (sx s e) e m = true := by
        cases q : pc (sx s e) e m with
        | true => rfl
        | false => exact absurd (Or.inr q) e2
      have m5 : sA (sx s e) 5 m.toNatClampNeg ≠ 0 := by rw [hS.ar (by decide)]; exact mT.2
      have hIl := lT_Iv hIx v1 m5
      have hcl := lT_Cp hIx hcx v1 m5
      have lA := fun (t : Nat) h5 h6 h7 => lT_A (s := sx s e) (e := m) (t := t) h5 h6 h7
      have h5l : sA (lT (sx s e) m) 5 e.toNatClampNeg = 0 := by rw [lT_5 v1 m5, if_neg (Ne.symm mne)]; exact h5x
      have h4l : sA (lT (sx s e) m) 4 e.toNatClampNeg ≠ 0 := by rw [lA 4 (by decide) (by decide) (by decide)]; exact h4x
      have hFl : Fo (lT (sx s e) m) := fun k hk c => by
        rw [gT_lT v1 m5] at hk
        unfold gC at c
        rw [gA_of (lA 1 (by decide) (by decide) (by decide)), gB_of (lA 2 (by decide) (by decide) (by decide))] at c
        exact hFx k hk.1 (c.mono fun f hf => ⟨(gT_lT v1 m5).1 hf.1 |>.1, hf.2⟩)
      have J : Cp (jT (lT (sx s e) m) e) ∧ Kj (jT (lT (sx s e) m) e) := by
        refine ⟨jT_Cp hIl hcl hFl he h4l h5l, ?_⟩
        unfold Kj
        rw [gA_of (jT_A (by decide) (by decide) (by decide)), gB_of (jT_A (by decide) (by decide) (by decide)), gR_of (jT_A (by decide) (by decide) (by decide)), gU_of (jT_A (by decide) (by decide) (by decide)), gA_of (lA 1 (by decide) (by decide) (by decide)), gB_of (lA 2 (by decide) (by decide) (by decide)), gR_of (lA 3 (by decide) (by decide) (by decide)), gU_of (lA 4 (by decide) (by decide) (by decide)), xA, xB, xR, xU]
        refine (hk.ins3 (fun e f h1 h2 h3 => gR_inj e f ?_ ?_ h3) nU bn (pi.1 e3)).iff eU (fun k => by rw [gT_jT he h5l, gT_lT v1 m5, xT])
        · exact h1.elim (fun w => w.1.1) (fun w => by subst w; exact vi_cl he)
        · exact h2.elim (fun w => w.1.1) (fun w => by subst w; exact vi_cl he)
      have A : ∀ t, sA (stL2 (jT (lT (sx s e) m) e) e m) t = sA (jT (lT (sx s e) m) e) t := fun t => by rw [stL2_A]
      exact ⟨J.1.of (A _) (A _) (A _) (A _) (A _), J.2.of (A _) (A _) (A _) (A _) (A _)⟩
end L

section M
variable {lw : LW} {H : AH} {p j : Nat} {s s' s1 s2 g : St} {Q : Option Value → AH → Prop} {a b c d e x y t u v w z ex : Int32} {k n X Y i h : Nat}
theorem frS_5z (h5 : sA s 5 e.toNatClampNeg = 0) : sA (frS s e) 5 = sA s 5 := by
  funext i; rw [frS_5]; split
  · rename_i w; rw [w, h5]
  · rfl
theorem gU_frS : gU (frS s e) k ↔ (gU s k ∧ k ≠ e.toNatClampNeg) := by
  unfold gU; rw [frS_4]
  by_cases q : k = e.toNatClampNeg
  · subst q; simp
  · simp [q]
theorem Fo_sub (hF : Fo s) (hA : gA s' = gA s) (hB : gB s' = gB s) (hT : ∀ k, gT s' k → gT s k) : Fo s' := fun k hk c => by
  unfold gC at c; rw [hA, hB] at c
  exact hF k (hT k hk) (c.mono fun f hf => ⟨hT f hf.1, hf.2⟩)
theorem jT_K (hI : Iv s) (hc : Cp s) (hF : Fo s) (h : vi e = true) (h4 : sA s 4 e.toNatClampNeg ≠ 0) (h5 : sA s 5 e.toNatClampNeg = 0) (hk : Kr (gA s) (gB s) (gR s) (gU s) (fun k => gT s k ∨ k = e.toNatClampNeg)) : Jv (jT s e) := by
  refine ⟨jT_Iv hI h h4 h5, jT_Cp hI hc hF h h4 h5, ?_⟩
  unfold Kj
  rw [gA_of (jT_A (by decide) (by decide) (by decide)), gB_of (jT_A (by decide) (by decide) (by decide)), gR_of (jT_A (by decide) (by decide) (by decide)), gU_of (jT_A (by decide) (by decide) (by decide))]
  exact hk.iff (fun k => Iff.rfl) (fun k => gT_jT h h5)
theorem cT_J (hJ : Jv s) (he : vi e = true) (h5 : sA s 5 e.toNatClampNeg ≠ 0) : Jv (cT s e) := by
  obtain ⟨hI, hc, hk⟩ := hJ
  have hF := hk.fo
  have tE : gT s e.toNatClampNeg := ⟨vi_cl he, h5⟩
  have hIl := lT_Iv hI he h5
  have hcl := lT_Cp hI hc he h5
  have h5l : sA (lT s e) 5 e.toNatClampNeg = 0 := by rw [lT_5 he h5, if_pos rfl]
  have hI1 := frS_Iv hIl he h5l
  have fA := fun (t : Nat) h4 h5 => frS_A (s := lT s e) (e := e) (t := t) h4 h5
  have lA := fun (t : Nat) h5 h6 h7 => lT_A (s := s) (e := e) (t := t) h5 h6 h7
  have hc1 : Cp (frS (lT s e) e) := hcl.of (fA 1 (by decide) (by decide)) (fA 2 (by decide) (by decide)) (frS_5z h5l) (fA 6 (by decide) (by decide)) (fA 7 (by decide) (by decide))
  have e1 : sA (frS (lT s e) e) 1 = sA s 1 := (fA 1 (by decide) (by decide)).trans (lA 1 (by decide) (by decide) (by decide))
  have e2 : sA (frS (lT s e) e) 2 = sA s 2 := (fA 2 (by decide) (by decide)).trans (lA 2 (by decide) (by decide) (by decide))
  have e3 : sA (frS (lT s e) e) 3 = sA s 3 := (fA 3 (by decide) (by decide)).trans (lA 3 (by decide) (by decide) (by decide))
  have U1 : ∀ k, gU (frS (lT s e) e) k ↔ (gU s k ∧ k ≠ e.toNatClampNeg) := fun k => by rw [gU_frS, gU_of (lA 4 (by decide) (by decide) (by decide))]
  have T1 : ∀ k, gT (frS (lT s e) e) k ↔ (gT s k ∧ k ≠ e.toNatClampNeg) := fun k => by rw [gT_of (frS_5z h5l), gT_lT he h5]
  have T1f : gT (frS (lT s e) e) = fun k => gT s k ∧ k ≠ e.toNatClampNeg := funext fun k => propext (T1 k)
  have U1f : gU (frS (lT s e) e) = fun k => gU s k ∧ k ≠ e.toNatClampNeg := funext fun k => propext (U1 k)
  have hS : Sr (frS (lT s e) e) (cT1 s e) := sx_Sr
  have en := hI.2.1 _ (vi_cl he)
  have nn := hI.2.2.1.2
  have lb := fun i hi => lcB_iff (ex := -1) (i := i) (a := sA (frS (lT s e) e) 1 e.toNatClampNeg) hI1 hc1 (by rw [e1]; omega) hi
  have hsx : (exq (frS (lT s e) e) (sA (frS (lT s e) e) 1 e.toNatClampNeg) (-1)).1 = cT1 s e := rfl
  simp only [hsx, gX_m1, gA_of e1, gB_of e2] at lb
  rw [U1f, T1f, e1] at lb
  have hI2 := hS.Iv hI1
  have hc2 : Cp (cT1 s e) := hc1.of (hS.ar (by decide)) (hS.ar (by decide)) (hS.ar (by decide)) (hS.ar (by decide)) (hS.ar (by decide))
  have xA : gA (cT1 s e) = gA s := by rw [gA_of (hS.ar (by decide)), gA_of e1]
  have xB : gB (cT1 s e) = gB s := by rw [gB_of (hS.ar (by decide)), gB_of e2]
  have xR : gR (cT1 s e) = gR s := by rw [gR_of (hS.ar (by decide)), gR_of e3]
  have xU : gU (cT1 s e) = fun k => gU s k ∧ k ≠ e.toNatClampNeg := by rw [gU_of (hS.ar (by decide)), U1f]
  have xT : gT (cT1 s e) = fun k => gT s k ∧ k ≠ e.toNatClampNeg := by rw [gT_of (hS.ar (by decide)), T1f]
  have hF2 : Fo (cT1 s e) := Fo_sub hF xA xB (fun k hk => by rw [xT] at hk; exact hk.1)
  unfold cT
  refine stL2_Jv ?_
  rcases lcF_0 (s := cT1 s e) with ⟨r1, r2⟩ | ⟨r1, r2, r3⟩
  · rw [if_pos r1]
    refine ⟨hI2, hc2, ?_⟩
    unfold Kj; rw [xA, xB, xR, xU, xT]
    refine hk.del gR_injU (fun k hk => gR_lt hk.1) tE (fun f hf hne hnt hcr => ?_)
    have := (lb f hf.1).2 ⟨⟨⟨hf, hne⟩, fun w => hnt w.1⟩, hcr⟩
    rw [r2 f hf.1] at this; exact absurd this (by decide)
  · rw [if_neg (m1_vi r1)]
    generalize lcF (cT1 s e) 0 128 (-1) = r at *
    obtain ⟨⟨⟨q1, q2⟩, q3⟩, q4⟩ := (lb _ (vi_cl r1)).1 r2
    have q3' : ¬ gT s r.toNatClampNeg := fun w => q3 ⟨w, q2⟩
    have r4 : gU (cT1 s e) r.toNatClampNeg := by rw [xU]; exact ⟨q1, q2⟩
    have r5 : sA (cT1 s e) 5 r.toNatClampNeg = 0 := Decidable.byContradiction fun w => by
      have : gT (cT1 s e) r.toNatClampNeg := ⟨vi_cl r1, w⟩
      rw [xT] at this; exact q3 this
    refine jT_K hI2 hc2 hF2 r1 r4.2 r5 ?_
    rw [xA, xB, xR, xU, xT]
    refine hk.delr gR_injU (fun k hk => gR_lt hk.1) tE q1 q2 q3' q4 (fun f hf hne hnt hcr => ?_)
    have := r3 f hf.1 ((lb f hf.1).2 ⟨⟨⟨hf, hne⟩, fun w => hnt w.1⟩, hcr⟩)
    rw [xR] at this; exact this
theorem gR_u3 (h : k ≠ X) : gR (uA s 3 X c) k = gR s k := by unfold gR; rw [sA_uA, if_neg (fun w => h w.2)]
theorem rW_J (hJ : Jv s) (he : vi e = true) (h5 : sA s 5 e.toNatClampNeg ≠ 0) : Jv (rW s e c) := by
  obtain ⟨hI, hc, hk⟩ := hJ
  have hF := hk.fo
  have h4 := (hI.2.2.2.1 _ (vi_cl he)).1 h5
  have tE : gT s e.toNatClampNeg := ⟨vi_cl he, h5⟩
  have hIl := lT_Iv hI he h5
  have hcl := lT_Cp hI hc he h5
  have hI1 := u3_Iv (k := e.toNatClampNeg) (c := c) hIl
  have fA := fun (t : Nat) h => sAn (s := lT s e) (t := 3) (t' := t) (i := e.toNatClampNeg) (v := c) h
  have lA := fun (t : Nat) h5 h6 h7 => lT_A (s := s) (e := e) (t := t) h5 h6 h7
  have hc1 : Cp (uA (lT s e) 3 e.toNatClampNeg c) := hcl.of (fA 1 (by decide)) (fA 2 (by decide)) (fA 5 (by decide)) (fA 6 (by decide)) (fA 7 (by decide))
  have e1 : sA (uA (lT s e) 3 e.toNatClampNeg c) 1 = sA s 1 := (fA 1 (by decide)).trans (lA 1 (by decide) (by decide) (by decide))
  have e2 : sA (uA (lT s e) 3 e.toNatClampNeg c) 2 = sA s 2 := (fA 2 (by decide)).trans (lA 2 (by decide) (by decide) (by decide))
  have e4 : sA (uA (lT s e) 3 e.toNatClampNeg c) 4 = sA s 4 := (fA 4 (by decide)).trans (lA 4 (by decide) (by decide) (by decide))
  have T1 : ∀ k, gT (uA (lT s e) 3 e.toNatClampNeg c) k ↔ (gT s k ∧ k ≠ e.toNatClampNeg) := fun k => by rw [gT_of (fA 5 (by decide)), gT_lT he h5]
  have T1f : gT (uA (lT s e) 3 e.toNatClampNeg c) = fun k => gT s k ∧ k ≠ e.toNatClampNeg := funext fun k => propext (T1 k)
  have hS : Sr (uA (lT s e) 3 e.toNatClampNeg c) (rW1 s e c) := sx_Sr
  have en := hI.2.1 _ (vi_cl he)
  have nn := hI.2.2.1.2
  have lb := fun i hi => lcB_iff (ex := -1) (i := i) (a := sA (uA (lT s e) 3 e.toNatClampNeg c) 1 e.toNatClampNeg) hI1 hc1 (by rw [e1]; omega) hi
  have hsx : (exq (uA (lT s e) 3 e.toNatClampNeg c) (sA (uA (lT s e) 3 e.toNatClampNeg c) 1 e.toNatClampNeg) (-1)).1 = rW1 s e c := rfl
  simp only [hsx, gX_m1, gA_of e1, gB_of e2, gU_of e4] at lb
  rw [T1f, e1] at lb
  have hI2 := hS.Iv hI1
  have hc2 : Cp (rW1 s e c) := hc1.of (hS.ar (by decide)) (hS.ar (by decide)) (hS.ar (by decide)) (hS.ar (by decide)) (hS.ar (by decide))
  have xA : gA (rW1 s e c) = gA s := by rw [gA_of (hS.ar (by decide)), gA_of e1]
  have xB : gB (rW1 s e c) = gB s := by rw [gB_of (hS.ar (by decide)), gB_of e2]
  have xR : ∀ k, k ≠ e.toNatClampNeg → gR (rW1 s e c) k = gR s k := fun k hk => by rw [gR_of (hS.ar (by decide)), gR_u3 hk, gR_of (lA 3 (by decide) (by decide) (by decide))]
  have xU : gU (rW1 s e c) = gU s := by rw [gU_of (hS.ar (by decide)), gU_of e4]
  have xT : gT (rW1 s e c) = fun k => gT s k ∧ k ≠ e.toNatClampNeg := by rw [gT_of (hS.ar (by decide)), T1f]
  have hF2 : Fo (rW1 s e c) := Fo_sub hF xA xB (fun k hk => by rw [xT] at hk; exact hk.1)
  have eC : Crs (gA s) (gB s) (fun k => gT s k ∧ k ≠ e.toNatClampNeg) (gA s e.toNatClampNeg) e.toNatClampNeg := fun q => hF _ tE (q.1 Cn.refl)
  unfold rW
  rcases lcF_0 (s := rW1 s e c) with ⟨r1, r2⟩ | ⟨r1, r2, r3⟩
  · have := (lb _ (vi_cl he)).2 ⟨⟨⟨vi_cl he, h4⟩, fun w => w.2 rfl⟩, eC⟩
    rw [r2 _ (vi_cl he)] at this; exact absurd this (by decide)
  · generalize lcF (rW1 s e c) 0 128 (-1) = r at *
    obtain ⟨⟨q1, q3⟩, q4⟩ := (lb _ (vi_cl r1)).1 r2
    have r4 : gU (rW1 s e c) r.toNatClampNeg := by rw [xU]; exact q1
    have r5 : sA (rW1 s e c) 5 r.toNatClampNeg = 0 := Decidable.byContradiction fun w => by
      have : gT (rW1 s e c) r.toNatClampNeg := ⟨vi_cl r1, w⟩
      rw [xT] at this; exact q3 this
    have J : Jv (jT (rW1 s e c) r) := by
      refine jT_K hI2 hc2 hF2 r1 r4.2 r5 ?_
      have K := hk.rew (ρ' := gR (rW1 s e c)) gR_injU (fun e f h1 h2 h3 => gR_inj e f h1.1 h2.1 h3) (fun k hk => gR_lt hk.1) xR tE q1 q3 q4 (fun f hf hnt hcr => r3 f hf.1 ((lb f hf.1).2 ⟨⟨hf, hnt⟩, hcr⟩))
      rw [xA, xB, xU, xT]; exact K
    by_cases w : r = -1 ∨ r = e
    · rw [if_pos w]
      have w2 := w.resolve_left (m1_vi r1)
      rw [w2] at J; exact stL2_Jv J
    · rw [if_neg w]; exact stL2_Jv J
theorem ad_J {f : Nat} (hJ : Jv s) (hf : f < 128) (h4 : sA s 4 f = 0) (hu : 0 ≤ u.toInt ∧ u.toInt < (sI s 0).toInt) (hv : 0 ≤ v.toInt ∧ v.toInt < (sI s 0).toInt) (hne : u ≠ v) : Jv (adS s f u v w) := by
  obtain ⟨hI, hc, hk⟩ := hJ
  obtain ⟨o1, o2, o3⟩ := ofi hf
  have hI1 := stE_Iv (d := cl (-1000000) 1000000 w) hI o3 (by rw [o2]; exact h4) hu hv hne
  have h5 : sA s 5 f = 0 := Decidable.byContradiction fun w => (hI.2.2.2.1 f hf).1 w h4
  have g4 : sA (stE s (Int32.ofNat f) u v (cl (-1000000) 1000000 w)) 4 (Int32.ofNat f).toNatClampNeg ≠ 0 := by rw [stE_1.2.2.2.1, if_pos rfl]; decide
  have g5 : sA (stE s (Int32.ofNat f) u v (cl (-1000000) 1000000 w)) 5 (Int32.ofNat f).toNatClampNeg = 0 := by rw [stE_1.2.2.2.2, if_pos rfl]
  have T1 : ∀ k, gT (stE s (Int32.ofNat f) u v (cl (-1000000) 1000000 w)) k ↔ gT s k := fun k => by
    unfold gT; rw [stE_1.2.2.2.2, o2]
    by_cases q : k = f
    · subst q; simp [h5]
    · simp [q]
  have nU : ¬ gU s f := fun w => w.2 h4
  have oth : ∀ k, k ≠ f → gA (stE s (Int32.ofNat f) u v (cl (-1000000) 1000000 w)) k = gA s k ∧ gB (stE s (Int32.ofNat f) u v (cl (-1000000) 1000000 w)) k = gB s k ∧ gR (stE s (Int32.ofNat f) u v (cl (-1000000) 1000000 w)) k = gR s k := fun k hk => by
    unfold gA gB gR; rw [stE_1.1, stE_1.2.1, stE_1.2.2.1, o2, if_neg hk, if_neg hk, if_neg hk]; exact ⟨rfl, rfl, rfl⟩
  unfold adS
  refine iU_J hI1 ?_ o3 g4 g5 ?_
  · intro k hk
    rw [T1] at hk
    have : k ≠ f := fun w => hk.2 (by rw [w]; exact h5)
    rw [(oth k this).1, (oth k this).2.1, MEM.of (stE_A (Or.inl rfl)) (stE_A (Or.inr rfl)), MEM.of (stE_A (Or.inl rfl)) (stE_A (Or.inr rfl))]
    exact hc k hk
  · refine (hk.cong (fun k hk => oth k (fun w => nU (w ▸ hk)))).iff (fun k => ?_) T1
    unfold gU; rw [stE_1.2.2.2.1, o2]
    by_cases q : k = f
    · subst q; simp [h4]
    · simp [q]
theorem rm_J (hJ : Jv s) : Jv (rmS s e) := by
  unfold rmS
  by_cases hp : pr s e = true
  · rw [if_pos hp]
    obtain ⟨hv, h4⟩ := pr_iff.1 hp
    by_cases e1 : sA s 5 e.toNatClampNeg = 0
    · rw [if_pos e1]
      obtain ⟨hI, hc, hk⟩ := hJ
      refine stL2_Jv ⟨frS_Iv hI hv e1, hc.of (frS_A (by decide) (by decide)) (frS_A (by decide) (by decide)) (frS_5z e1) (frS_A (by decide) (by decide)) (frS_A (by decide) (by decide)), ?_⟩
      unfold Kj
      rw [gA_of (frS_A (by decide) (by decide)), gB_of (frS_A (by decide) (by decide)), gR_of (frS_A (by decide) (by decide)), gT_of (frS_5z e1)]
      exact (hk.del0 (e := e.toNatClampNeg) ⟨vi_cl hv, h4⟩ (fun w => w.2 e1)).iff (fun k => gU_frS) (fun k => Iff.rfl)
    · rw [if_neg e1]; exact cT_J hJ hv e1
  · rw [if_neg hp]; exact hJ
theorem sw_J (hJ : Jv s) : Jv (swS s e w) := by
  unfold swS
  by_cases hp : pr s e = true
  · rw [if_pos hp]
    obtain ⟨hv, h4⟩ := pr_iff.1 hp
    by_cases e1 : sA s 5 e.toNatClampNeg = 0
    · rw [if_pos e1]
      obtain ⟨hI, hc, hk⟩ := hJ
      have hI1 := u3_Iv (k := e.toNatClampNeg) (c := cl (-1000000) 1000000 w) hI
      refine iU_J hI1 (hc.of (sAn (by decide)) (sAn (by decide)) (sAn (by decide)) (sAn (by decide)) (sAn (by decide))) hv (by rw [sAn (by decide)]; exact h4) (by rw [sAn (by decide)]; exact e1) ?_
      rw [gA_of (sAn (by decide)), gB_of (sAn (by decide)), gU_of (sAn (by decide)), gT_of (sAn (by decide))]
      exact (hk.del0 (e := e.toNatClampNeg) ⟨vi_cl hv, h4⟩ (fun w => w.2 e1)).cong (fun k hk => ⟨rfl, rfl, gR_u3 hk.2⟩)
    · rw [if_neg e1]; exact rW_J hJ hv e1
  · rw [if_neg hp]; exact hJ
theorem ini_J : Jv (ini0 a) := by
  have c2 := cl_rg (lo := 2) (hi := 32) a (by decide)
  simp only [Int32.reduceToInt] at c2
  obtain ⟨I1, a4, a3, a5, -⟩ := Iv_ini (a := a) c2.2
  refine ⟨I1, fun e he => absurd (a5 e) he.2, fun e he => absurd (a5 e) he.2, fun e he => absurd (a4 e) he.2⟩
theorem l13m {μ : Nat} (hn : (sI s 0).toInt ≤ 32) (hμ : (μ : Int) < (sI s 0).toInt) (h8 : sA s 8 μ ≠ 0) (hz : ∀ i, i < μ → sA s 8 i = 0) (m : Nat) : ∀ (i : Int32), i.toInt = (μ : Int) - m → 0 ≤ i.toInt →
    (W (pj lw) 13 19 [.val (.ref p), .val (.int a), .val (.int i)] [] k n (ob H p s) Q ↔ Q (some (.int (Int32.ofNat μ))) (ob H p s)) := by
  have hF : (Int32.ofNat μ).toInt = μ := Int32.toInt_ofNat_of_lt (by omega)
  induction m with
  | zero =>
    intro i hi h0
    have e : i = Int32.ofNat μ := by rw [eq32]; omega
    have h1 : i < sI s 0 := by rw [lt32]; omega
    have h2 : i < 32 := by rw [lt32]; simp only [Int32.reduceToInt]; omega
    have h3 : 0 ≤ i.toInt ∧ i.toInt < 32 := by omega
    have h4 : ¬ sA s 8 i.toNatClampNeg = 0 := by rw [cln, show i.toInt.toNat = μ by omega]; exact h8
    rw [w13_19]; simp +decide only [w13_20, w13_21, w13_24, w13_27, w13_28, w13_30, w13_33, w13_34, w13_37, w13_38, w13_39, w13_42, w13_43, isO_put, true_and, and_true, or_true, ↓reduceIte, g0, g8, ai8, ain8, ae8, ain8, h1, h2, h3, h4]; rw [e]
  | succ m ih =>
    intro i hi h0
    have h1 : i < sI s 0 := by rw [lt32]; omega
    have h2 : i < 32 := by rw [lt32]; simp only [Int32.reduceToInt]; omega
    have h3 : 0 ≤ i.toInt ∧ i.toInt < 32 := by omega
    have h4 : (i + 1).toInt = i.toInt + 1 := ia (by simp only [Int32.reduceToInt]; omega) (by simp only [Int32.reduceToInt]; omega)
    have h5 : sA s 8 i.toNatClampNeg = 0 := hz _ (by rw [cln]; omega)
    rw [w13_19]; simp +decide only [w13_20, w13_21, w13_24, w13_27, w13_28, w13_30, w13_33, w13_34, w13_37, w13_38, w13_39, w13_44, w13_47, isO_put, true_and, and_true, or_true, ↓reduceIte, g0, g8, ai8, ain8, ae8, ain8, h1, h2, h3, h5]
    exact ih (i + 1) (by omega) (by omega)
theorem t13 {μ : Nat} (hd : DG s) (ha : vv s a = true) (hn : (sI s 0).toInt ≤ 32) (hμ : (μ : Int) < (sI s 0).toInt) (h8 : sA (exq s a (-1)).1 8 μ ≠ 0) (hz : ∀ i, i < μ → sA (exq s a (-1)).1 8 i = 0) (hq : Q (some (.int (Int32.ofNat μ))) (ob H p (exq s a (-1)).1)) : Cl (pj lw) 13 [.ref p, .int a] (ob H p s) Q := by
  rw [c13]
  simp +decide only [w13_0, w13_1, w13_2, w13_5, w13_10, w13_11, w13_12, w13_13, isO_put, Option.toList_some, List.cons_append, List.nil_append, true_and, and_true, ↓reduceIte, t39, ha, bz]
  refine t30 hd ha ?_
  have hS : Sr s (exq s a (-1)).1 := exq_Sr
  simp +decide only [w13_16, w13_17, w13_18, Option.toList_some, List.cons_append, List.nil_append]
  refine (l13m (by rw [hS.1]; exact hn) (by rw [hS.1]; exact hμ) h8 hz μ 0 (by simp only [Int32.reduceToInt]; omega) (by decide)).2 hq
def pmx (s : St) (a b : Int32) : Int32 := if sA (exq s a (-1)).1 8 b.toNatClampNeg = 0 then -1 else hvF (exq s a (-1)).1 32 (-1) b
theorem t14 (hd : DG s) (ha : vv s a = true) (hb : vv s b = true) (hne : a ≠ b) (hq : Q (some (.int (pmx s a b))) (ob H p (exq s a (-1)).1)) : Cl (pj lw) 14 [.ref p, .int a, .int b] (ob H p s) Q := by
  have r := vv_rg hb
  have r2 : 0 ≤ b.toInt ∧ b.toInt < 32 := by omega
  rw [c14]
  simp +decide only [w14_0, w14_1, w14_2, w14_5, w14_8, w14_9, w14_10, w14_13, w14_18, w14_19, w14_20, w14_25, w14_26, w14_27, w14_28, isO_put, Option.toList_some, List.cons_append, List.nil_append, true_and, and_true, ↓reduceIte, t39, ha, hb, bz, eq_false hne]
  refine t30 hd ha ?_
  unfold pmx at hq
  by_cases e1 : sA (exq s a (-1)).1 8 b.toNatClampNeg = 0
  · rw [if_pos e1] at hq
    simp +decide only [w14_31, w14_32, w14_33, w14_36, w14_37, w14_38, w14_41, w14_42, isO_put, Option.toList_some, List.cons_append, List.nil_append, true_and, and_true, or_true, ↓reduceIte, g8, ai8, ain8, ae8, ain8, r2, e1]; exact hq
  · rw [if_neg e1] at hq
    simp +decide only [w14_31, w14_32, w14_33, w14_36, w14_37, w14_38, w14_43, w14_44, w14_45, isO_put, Option.toList_some, List.cons_append, List.nil_append, true_and, and_true, or_true, ↓reduceIte, g8, ai8, ain8, ae8, ain8, r2, e1]
    refine t32 exq_PE ?_
    simp +decide only [w14_48, Option.toList_some, List.cons_append, List.nil_append]
    exact hq
def rpl (s : St) (e : Int32) : Int32 := if tr s e = true then lcF (exq s (sA s 1 e.toNatClampNeg) e).1 0 128 (-1) else -1
def rplS (s : St) (e : Int32) : St := if tr s e = true then (exq s (sA s 1 e.toNatClampNeg) e).1 else s
theorem t15 (hd : DG s) (hE : EN s) (hn : nOk s) (hq : Q (some (.int (rpl s e))) (ob H p (rplS s e))) : Cl (pj lw) 15 [.ref p, .int e] (ob H p s) Q := by
  rw [c15]; unfold rpl rplS at hq
  cases e1 : tr s e with
  | false =>
    rw [e1, if_neg (by decide), if_neg (by decide)] at hq
    simp +decide only [w15_0, w15_1, w15_2, w15_5, w15_8, w15_9, isO_put, Option.toList_some, List.cons_append, List.nil_append, true_and, and_true, ↓reduceIte, t6, e1, bz]; exact hq
  | true =>
    rw [e1, if_pos rfl, if_pos rfl] at hq
    have r : 0 ≤ e.toInt ∧ e.toInt < 128 := by unfold tr at e1; rw [Bool.and_eq_true] at e1; exact vi_rg e1.1
    have g := hE e.toNatClampNeg (by rw [cln]; omega)
    have v1 : vv s (sA s 1 e.toNatClampNeg) = true := vv_t g.1 hn.2
    simp +decide only [w15_0, w15_1, w15_2, w15_5, w15_10, w15_11, w15_12, w15_15, w15_16, w15_17, w15_18, isO_put, Option.toList_some, List.cons_append, List.nil_append, true_and, and_true, ↓reduceIte, g1, ai1, ae1, t6, e1, bz, r]
    refine t30 hd v1 ?_
    simp +decide only [w15_21, w15_22, w15_23, w15_26, isO_put, Option.toList_some, List.cons_append, List.nil_append, true_and, and_true, t33]
    exact hq
end M

section N
variable {lw : LW} {H : AH} {p j : Nat} {s s' s1 s2 g : St} {Q : Option Value → AH → Prop} {a b c d e x y t u v w z ex : Int32} {k n X Y i h : Nat}
theorem cnt_set {f g : Nat → Bool} {x : Nat} : ∀ (k j : Nat), j ≤ x → x < j + k → f x = false → g x = true → (∀ i, i ≠ x → g i = f i) → cnt g j k = cnt f j k + 1
  | 0, j, h1, h2, _, _, _ => by omega
  | k + 1, j, h1, h2, h3, h4, h5 => by
    simp only [cnt]
    by_cases e : j = x
    · subst e
      rw [h3, h4, cnt_congr (f := g) (g := f) k (j + 1) fun i a b => h5 i (by omega)]; simp; omega
    · rw [h5 j e, cnt_set k (j + 1) (by omega) (by omega) h3 h4 h5]; omega
theorem cnt_mono {f g : Nat → Bool} : ∀ (k j : Nat), (∀ i, j ≤ i → i < j + k → f i = true → g i = true) → cnt f j k ≤ cnt g j k
  | 0, _, _ => Nat.le_refl _
  | k + 1, j, h => by
    have := cnt_mono k (j + 1) (fun i a b => h i (by omega) (by omega))
    have h0 := h j (Nat.le_refl _) (by omega)
    simp only [cnt]
    by_cases q : f j = true
    · rw [if_pos q, if_pos (h0 q)]; omega
    · rw [if_neg q]; omega
def wsm (f : Nat → Bool) (w : Nat → Int64) : Nat → Nat → Int64
  | _, 0 => 0
  | j, k + 1 => (if f j = true then w j else 0) + wsm f w (j + 1) k
theorem wsm_congr {f g : Nat → Bool} {w w' : Nat → Int64} : ∀ (k j : Nat), (∀ i, j ≤ i → i < j + k → f i = g i ∧ (f i = true → w i = w' i)) → wsm f w j k = wsm g w' j k
  | 0, _, _ => rfl
  | k + 1, j, h => by
    have h0 := h j (Nat.le_refl _) (by omega)
    simp only [wsm]; rw [wsm_congr k (j + 1) fun i a b => h i (by omega) (by omega), ← h0.1]
    by_cases q : f j = true
    · rw [if_pos q, if_pos q, h0.2 q]
    · rw [if_neg q, if_neg q]
theorem wsm_set {f g : Nat → Bool} {w : Nat → Int64} {x : Nat} : ∀ (k j : Nat), j ≤ x → x < j + k → f x = false → g x = true → (∀ i, i ≠ x → g i = f i) → wsm g w j k = wsm f w j k + w x
  | 0, j, h1, h2, _, _, _ => by omega
  | k + 1, j, h1, h2, h3, h4, h5 => by
    simp only [wsm]
    by_cases e : j = x
    · subst e
      rw [h3, h4, wsm_congr (f := g) (g := f) k (j + 1) fun i a b => ⟨h5 i (by omega), fun _ => rfl⟩]; simp only [if_true, Bool.false_eq_true, if_false, Int64.zero_add]; exact Int64.add_comm _ _
    · rw [h5 j e, wsm_set k (j + 1) (by omega) (by omega) h3 h4 h5, Int64.add_assoc]
def uB8 (s : St) (t : Nat) : Nat → Bool := fun i => decide (sA s t i ≠ 0)
def wJ (s : St) : Nat → Int64 := fun i => (sA s 3 i).toInt64
def CW (s : St) : Prop := sI s 12 = Int32.ofNat (cnt (uB8 s 4) 0 128) ∧ sI s 13 = Int32.ofNat (cnt (uB8 s 5) 0 128) ∧ sJ s 14 = wsm (uB8 s 5) (wJ s) 0 128
theorem CW.of (h : CW s) (h12 : sI s' 12 = sI s 12) (h13 : sI s' 13 = sI s 13) (h14 : sJ s' 14 = sJ s 14) (h3 : sA s' 3 = sA s 3) (h4 : sA s' 4 = sA s 4) (h5 : sA s' 5 = sA s 5) : CW s' := by
  unfold CW uB8 wJ; rw [h12, h13, h14, h3, h4, h5]; exact h
theorem Sr.CW (g : Sr s s') (h : CW s) : CW s' := h.of (g.1 _) (g.1 _) (g.2.1 _) (g.ar (by decide)) (g.ar (by decide)) (g.ar (by decide))
theorem stL2_CW (h : CW s) : CW (stL2 s a b) := h.of (stL2_I (by decide) (by decide)) (stL2_I (by decide) (by decide)) stL2_J (by rw [stL2_A]) (by rw [stL2_A]) (by rw [stL2_A])
theorem jT_CW (h : CW s) : CW (jT s e) := by
  by_cases q : vi e = true ∧ sA s 5 e.toNatClampNeg = 0
  · obtain ⟨q1, q2⟩ := q
    have T := jT_t q1 q2
    have r := vi_cl q1
    have f1 : uB8 s 5 e.toNatClampNeg = false := decide_eq_false (fun w => w q2)
    have f2 : uB8 (jT s e) 5 e.toNatClampNeg = true := by unfold uB8; rw [jT_5 q1 q2, if_pos rfl]; decide
    have f3 : ∀ i, i ≠ e.toNatClampNeg → uB8 (jT s e) 5 i = uB8 s 5 i := fun i hi => by unfold uB8; rw [jT_5 q1 q2, if_neg hi]
    have w3 : wJ (jT s e) = wJ s := by unfold wJ; rw [jT_A (by decide) (by decide) (by decide)]
    refine ⟨?_, ?_, ?_⟩
    · rw [jT_I (by decide), h.1]; unfold uB8; rw [jT_A (by decide) (by decide) (by decide)]
    · rw [T.1, h.2.1, cnt_set 128 0 (Nat.zero_le _) (by omega) f1 f2 f3, Int32.ofNat_add]; rfl
    · rw [T.2, h.2.2, w3, wsm_set 128 0 (Nat.zero_le _) (by omega) f1 f2 f3]; rfl
  · unfold jT; rw [if_neg q]; exact h
theorem lT_CW (h : CW s) : CW (lT s e) := by
  by_cases q : vi e = true ∧ ¬ sA s 5 e.toNatClampNeg = 0
  · obtain ⟨q1, q2⟩ := q
    have T := lT_t q1 q2
    have r := vi_cl q1
    have f1 : uB8 s 5 e.toNatClampNeg = true := decide_eq_true q2
    have f2 : uB8 (lT s e) 5 e.toNatClampNeg = false := by unfold uB8; rw [lT_5 q1 q2, if_pos rfl]; decide
    have f3 : ∀ i, i ≠ e.toNatClampNeg → uB8 s 5 i = uB8 (lT s e) 5 i := fun i hi => by unfold uB8; rw [lT_5 q1 q2, if_neg hi]
    have w3 : wJ (lT s e) = wJ s := by unfold wJ; rw [lT_A (by decide) (by decide) (by decide)]
    refine ⟨?_, ?_, ?_⟩
    · rw [lT_I (by decide), h.1]; unfold uB8; rw [lT_A (by decide) (by decide) (by decide)]
    · rw [T.1, h.2.1, cnt_set 128 0 (Nat.zero_le _) (by omega) f2 f1 f3, Int32.ofNat_add, show Int32.ofNat 1 = 1 from rfl, Int32.add_sub_cancel]
    · rw [T.2, h.2.2, w3, wsm_set 128 0 (Nat.zero_le _) (by omega) f2 f1 f3]; unfold wJ; rw [Int64.add_sub_cancel]
  · unfold lT; rw [if_neg q]; exact h
theorem frS_CW (h : CW s) (hv : vi e = true) (h4 : sA s 4 e.toNatClampNeg ≠ 0) (h5 : sA s 5 e.toNatClampNeg = 0) : CW (frS s e) := by
  have r := vi_cl hv
  have f1 : uB8 s 4 e.toNatClampNeg = true := decide_eq_true h4
  have f2 : uB8 (frS s e) 4 e.toNatClampNeg = false := by unfold uB8; rw [frS_4, if_pos rfl]; decide
  have f3 : ∀ i, i ≠ e.toNatClampNeg → uB8 s 4 i = uB8 (frS s e) 4 i := fun i hi => by unfold uB8; rw [frS_4, if_neg hi]
  have w5 : uB8 (frS s e) 5 = uB8 s 5 := by unfold uB8; rw [frS_5z h5]
  have w3 : wJ (frS s e) = wJ s := by unfold wJ; rw [frS_A (by decide) (by decide)]
  refine ⟨?_, ?_, ?_⟩
  · have : sI (frS s e) 12 = sI s 12 - 1 := by unfold frS; rw [sI_uI, if_pos rfl]
    rw [this, h.1, cnt_set 128 0 (Nat.zero_le _) (by omega) f2 f1 f3, Int32.ofNat_add, show Int32.ofNat 1 = 1 from rfl, Int32.add_sub_cancel]
  · rw [frS_I (by decide), w5]; exact h.2.1
  · have : sJ (frS s e) 14 = sJ s 14 := by unfold frS; rw [sJ_uI, sJ_uA, sJ_uA]
    rw [this, w5, w3]; exact h.2.2
theorem stE_CW (h : CW s) (hv : vi a = true) (h4 : sA s 4 a.toNatClampNeg = 0) (h5 : sA s 5 a.toNatClampNeg = 0) : CW (stE s a b c d) := by
  have r := vi_cl hv
  have f1 : uB8 s 4 a.toNatClampNeg = false := decide_eq_false (fun w => w h4)
  have f2 : uB8 (stE s a b c d) 4 a.toNatClampNeg = true := by unfold uB8; rw [stE_1.2.2.2.1, if_pos rfl]; decide
  have f3 : ∀ i, i ≠ a.toNatClampNeg → uB8 (stE s a b c d) 4 i = uB8 s 4 i := fun i hi => by unfold uB8; rw [stE_1.2.2.2.1, if_neg hi]
  have w5 : uB8 (stE s a b c d) 5 = uB8 s 5 := by
    unfold uB8; funext i; rw [stE_1.2.2.2.2]
    by_cases q : i = a.toNatClampNeg
    · rw [if_pos q, q, h5]
    · rw [if_neg q]
  refine ⟨?_, ?_, ?_⟩
  · have : sI (stE s a b c d) 12 = sI s 12 + 1 := by unfold stE; simp only [sI_uI, if_true]
    rw [this, h.1, cnt_set 128 0 (Nat.zero_le _) (by omega) f1 f2 f3, Int32.ofNat_add]; rfl
  · have : sI (stE s a b c d) 13 = sI s 13 := by unfold stE; simp only [sI_uI, sI_uA, Nat.reduceEqDiff, if_false]
    rw [this, w5]; exact h.2.1
  · have : sJ (stE s a b c d) 14 = sJ s 14 := by unfold stE; simp only [sJ_uI, sJ_uA]
    rw [this, w5, h.2.2]
    refine wsm_congr _ _ fun i _ _ => ⟨rfl, fun q => ?_⟩
    have : i ≠ a.toNatClampNeg := fun w => (of_decide_eq_true q) (by rw [w]; exact h5)
    unfold wJ; rw [stE_1.2.2.1, if_neg this]
theorem u3_CW (h : CW s) (h5 : sA s 5 X = 0) : CW (uA s 3 X c) := by
  have w4 : uB8 (uA s 3 X c) 4 = uB8 s 4 := by unfold uB8; rw [sAn (by decide)]
  have w5 : uB8 (uA s 3 X c) 5 = uB8 s 5 := by unfold uB8; rw [sAn (by decide)]
  refine ⟨by rw [sI_uA, w4]; exact h.1, by rw [sI_uA, w5]; exact h.2.1, ?_⟩
  rw [sJ_uA, w5, h.2.2]
  refine wsm_congr _ _ fun i _ _ => ⟨rfl, fun q => ?_⟩
  have : i ≠ X := fun w => (of_decide_eq_true q) (by rw [w]; exact h5)
  unfold wJ; rw [sA_uA, if_neg (fun w => this w.2)]
theorem iU_CW (h : CW s) : CW (iU s e) := by
  have hx : CW (sx s e) := sx_Sr.CW h
  unfold iU; split
  · exact stL2_CW (jT_CW hx)
  · split
    · exact stL2_CW hx
    · exact stL2_CW (jT_CW (lT_CW hx))
theorem cT_CW (h : CW s) (hv : vi e = true) (h4 : sA s 4 e.toNatClampNeg ≠ 0) (h5 : sA s 5 e.toNatClampNeg ≠ 0) : CW (cT s e) := by
  have hx : CW (cT1 s e) := sx_Sr.CW (frS_CW (lT_CW h) hv (by rw [lT_A (by decide) (by decide) (by decide)]; exact h4) (by rw [lT_5 hv h5, if_pos rfl]))
  unfold cT; refine stL2_CW ?_; split
  · exact hx
  · exact jT_CW hx
theorem rW_CW (h : CW s) (hv : vi e = true) (h5 : sA s 5 e.toNatClampNeg ≠ 0) : CW (rW s e c) := by
  have hx : CW (rW1 s e c) := sx_Sr.CW (u3_CW (lT_CW h) (by rw [lT_5 hv h5, if_pos rfl]))
  unfold rW; split
  · exact stL2_CW (jT_CW hx)
  · exact stL2_CW (jT_CW hx)
theorem ad_CW {f : Nat} (h : CW s) (hI : Iv s) (hf : f < 128) (h4 : sA s 4 f = 0) : CW (adS s f u v w) := by
  obtain ⟨o1, o2, o3⟩ := ofi hf
  unfold adS
  exact iU_CW (stE_CW h o3 (by rw [o2]; exact h4) (by rw [o2]; exact Decidable.byContradiction fun w => (hI.2.2.2.1 f hf).1 w h4))
theorem rm_CW (h : CW s) : CW (rmS s e) := by
  unfold rmS
  by_cases hp : pr s e = true
  · rw [if_pos hp]
    obtain ⟨hv, h4⟩ := pr_iff.1 hp
    by_cases e1 : sA s 5 e.toNatClampNeg = 0
    · rw [if_pos e1]; exact stL2_CW (frS_CW h hv h4 e1)
    · rw [if_neg e1]; exact cT_CW h hv h4 e1
  · rw [if_neg hp]; exact h
theorem sw_CW (h : CW s) : CW (swS s e w) := by
  unfold swS
  by_cases hp : pr s e = true
  · rw [if_pos hp]
    obtain ⟨hv, h4⟩ := pr_iff.1 hp
    by_cases e1 : sA s 5 e.toNatClampNeg = 0
    · rw [if_pos e1]; exact iU_CW (u3_CW h e1)
    · rw [if_neg e1]; exact rW_CW h hv e1
  · rw [if_neg hp]; exact h
theorem ini_CW : CW (ini0 a) := by
  have c2 := cl_rg (lo := 2) (hi := 32) a (by decide)
  simp only [Int32.reduceToInt] at c2
  obtain ⟨I1, a4, a3, a5, i0, i12, i13, j14, -⟩ := Iv_ini (a := a) c2.2
  have f4 : ∀ i, uB8 (ini0 a) 4 i = false := fun i => decide_eq_false (fun w => w (a4 i))
  have f5 : ∀ i, uB8 (ini0 a) 5 i = false := fun i => decide_eq_false (fun w => w (a5 i))
  refine ⟨by rw [i12, cnt_none _ _ fun i _ _ => f4 i]; rfl, by rw [i13, cnt_none _ _ fun i _ _ => f5 i]; rfl, ?_⟩
  rw [j14]
  have : ∀ (k j : Nat), wsm (uB8 (ini0 a) 5) (wJ (ini0 a)) j k = 0 := fun k => by
    induction k with
    | zero => intro j; rfl
    | succ k ih => intro j; simp only [wsm]; rw [f5, ih, if_neg (by decide)]; rfl
  exact (this _ _).symm
theorem ad_v {f : Nat} (hI : Iv s) (hf : f < 128) (h4 : sA s 4 f = 0) (hu : 0 ≤ u.toInt ∧ u.toInt < (sI s 0).toInt) (hv : 0 ≤ v.toInt ∧ v.toInt < (sI s 0).toInt) (hne : u ≠ v) :
    (∀ i, sA (adS s f u v w) 1 i = if i = f then u else sA s 1 i) ∧ (∀ i, sA (adS s f u v w) 2 i = if i = f then v else sA s 2 i) ∧ (∀ i, sA (adS s f u v w) 3 i = if i = f then cl (-1000000) 1000000 w else sA s 3 i) ∧ (∀ i, sA (adS s f u v w) 4 i = if i = f then 1 else sA s 4 i) ∧ sI (adS s f u v w) 0 = sI s 0 := by
  obtain ⟨o1, o2, o3⟩ := ofi hf
  have hI1 := stE_Iv (d := cl (-1000000) 1000000 w) hI o3 (by rw [o2]; exact h4) hu hv hne
  obtain ⟨-, q2, q3, q4, -⟩ := iU_ok hI1 o3 (by rw [stE_1.2.2.2.1, if_pos rfl]; decide) (by rw [stE_1.2.2.2.2, if_pos rfl])
  unfold adS
  rw [q2.1, q2.2.1, q2.2.2, q3, q4]
  refine ⟨fun i => by rw [stE_1.1, o2], fun i => by rw [stE_1.2.1, o2], fun i => by rw [stE_1.2.2.1, o2], fun i => by rw [stE_1.2.2.2.1, o2], ?_⟩
  unfold stE; simp only [sI_uI, sI_uA, Nat.reduceEqDiff, if_false]
theorem rm_v (hI : Iv s) : sA (rmS s e) 1 = sA s 1 ∧ sA (rmS s e) 2 = sA s 2 ∧ sA (rmS s e) 3 = sA s 3 ∧ (∀ i, sA (rmS s e) 4 i = if pr s e = true ∧ i = e.toNatClampNeg then 0 else sA s 4 i) ∧ sI (rmS s e) 0 = sI s 0 := by
  unfold rmS
  by_cases hp : pr s e = true
  · simp only [hp, true_and, if_true]
    obtain ⟨hv, h4⟩ := pr_iff.1 hp
    by_cases e1 : sA s 5 e.toNatClampNeg = 0
    · rw [if_pos e1, stL2_A, frS_A (by decide) (by decide), frS_A (by decide) (by decide), frS_A (by decide) (by decide), stL2_I (by decide) (by decide), frS_I (by decide)]
      exact ⟨rfl, rfl, rfl, fun i => frS_4, rfl⟩
    · rw [if_neg e1]
      obtain ⟨-, q2, q3, q4, -⟩ := cT_ok hI hv e1
      exact ⟨q2.2.1, q2.2.2, q3, q4, q2.1⟩
  · simp only [hp, false_and, if_false, Bool.false_eq_true]
    simp
theorem sw_v (hI : Iv s) : sA (swS s e w) 1 = sA s 1 ∧ sA (swS s e w) 2 = sA s 2 ∧ (∀ i, sA (swS s e w) 3 i = if pr s e = true ∧ i = e.toNatClampNeg then cl (-1000000) 1000000 w else sA s 3 i) ∧ sA (swS s e w) 4 = sA s 4 ∧ sI (swS s e w) 0 = sI s 0 := by
  unfold swS
  by_cases hp : pr s e = true
  · simp only [hp, true_and, if_true]
    obtain ⟨hv, h4⟩ := pr_iff.1 hp
    by_cases e1 : sA s 5 e.toNatClampNeg = 0
    · rw [if_pos e1]
      obtain ⟨-, q2, q3, q4, -⟩ := iU_ok (u3_Iv (k := e.toNatClampNeg) (c := cl (-1000000) 1000000 w) hI) hv (by rw [sAn (by decide)]; exact h4) (by rw [sAn (by decide)]; exact e1)
      rw [q2.1, q2.2.1, q2.2.2, q3, q4, sI_uA]
      exact ⟨sAn (by decide), sAn (by decide), fun i => by rw [sA_uA]; simp only [true_and], sAn (by decide), rfl⟩
    · rw [if_neg e1]
      obtain ⟨-, q2, q3, q4, -⟩ := rW_ok (c := cl (-1000000) 1000000 w) hI hv e1
      exact ⟨q2.2.1, q2.2.2, q3, q4, q2.1⟩
  · simp only [hp, false_and, if_false, Bool.false_eq_true]
    simp
theorem low {g : Nat → Prop} [DecidablePred g] {T : Nat} (h : g T) : ∃ f, f ≤ T ∧ g f ∧ ∀ j, j < f → ¬ g j := by
  induction T using Nat.strongRecOn with
  | ind T ih =>
    by_cases q : ∃ j, j < T ∧ g j
    · obtain ⟨j, q1, q2⟩ := q
      obtain ⟨f, a, b, c⟩ := ih j q1 q2
      exact ⟨f, by omega, b, c⟩
    · exact ⟨T, Nat.le_refl _, h, fun j hj w => q ⟨j, hj, w⟩⟩
end N

section O
variable {lw : LW} {H : AH} {p q j m : Nat} {s s' s1 s2 g : St} {Q : Option Value → AH → Prop} {a b c d e x y t u v w z ex : Int32} {k n X Y i h : Nat}
def Sg (s s' : St) : Prop := sI s' 0 = sI s 0 ∧ (∀ e, sA s' 4 e = 0 ↔ sA s 4 e = 0) ∧ ∀ e, e < 128 → sA s 4 e ≠ 0 → sA s' 1 e = sA s 1 e ∧ sA s' 2 e = sA s 2 e ∧ sA s' 3 e = sA s 3 e
theorem Sg.sr (h : Sg s s') (h1 : Sr s s1) (h2 : Sr s' s2) : Sg s1 s2 := by
  refine ⟨by rw [h1.1, h2.1]; exact h.1, ?_, ?_⟩
  · rw [h1.ar (by decide), h2.ar (by decide)]; exact h.2.1
  · rw [h1.ar (t := 4) (by decide), h1.ar (t := 1) (by decide), h1.ar (t := 2) (by decide), h1.ar (t := 3) (by decide), h2.ar (t := 1) (by decide), h2.ar (t := 2) (by decide), h2.ar (t := 3) (by decide)]; exact h.2.2
theorem Sg.uu (h : Sg s s') : gU s' = gU s := by
  funext e; unfold gU; exact propext (and_congr Iff.rfl (not_congr (h.2.1 e)))
theorem Sg.gg (h : Sg s s') (he : gU s k) : gA s' k = gA s k ∧ gB s' k = gB s k ∧ gR s' k = gR s k := by
  obtain ⟨h1, h2, h3⟩ := h.2.2 k he.1 he.2
  unfold gA gB gR; rw [h1, h2, h3]; exact ⟨rfl, rfl, rfl⟩
theorem Sg.tt (h : Sg s s') (hk : Kj s) (hk' : Kj s') : gT s' = gT s := by
  have k1 : Kr (gA s') (gB s') (gR s') (gU s') (gT s) := by
    rw [h.uu]; exact hk.cong fun e he => h.gg he
  funext e; exact propext (Kr.uniq hk' k1 e)
theorem Sg.cc {E : Nat → Prop} (h : Sg s s') (hE : ∀ k, E k → gU s k) : gC s' E X Y ↔ gC s E X Y :=
  ⟨fun c => Cn.cong (fun k hk => ⟨(h.gg (hE k hk)).1.symm, (h.gg (hE k hk)).2.1.symm⟩) c, fun c => Cn.cong (fun k hk => ⟨(h.gg (hE k hk)).1, (h.gg (hE k hk)).2.1⟩) c⟩
theorem Sg.pr (h : Sg s s') : pr s' e = pr s e := by
  unfold Pj.pr; congr 1; exact decide_eq_decide.mpr (not_congr (h.2.1 _))
theorem Sg.tr (h : Sg s s') (hk : Kj s) (hk' : Kj s') : tr s' e = tr s e := by
  unfold Pj.tr
  cases q : vi e with
  | false => rfl
  | true =>
    rw [Bool.true_and, Bool.true_and]
    have ht := congrFun (h.tt hk hk') e.toNatClampNeg
    unfold gT at ht
    have ht' : sA s' 5 e.toNatClampNeg ≠ 0 ↔ sA s 5 e.toNatClampNeg ≠ 0 := by
      have r := vi_cl q
      simp only [r, true_and] at ht; exact ht ▸ Iff.rfl
    congr 1
    · exact decide_eq_decide.mpr (not_congr (h.2.1 _))
    · exact decide_eq_decide.mpr ht'
theorem Sg.ew (h : Sg s s') : ew s' e = ew s e := by
  unfold Pj.ew; rw [h.pr]
  by_cases q : Pj.pr s e = true
  · rw [if_pos q, if_pos q]; have := pr_iff.1 q; exact (h.2.2 _ (vi_cl this.1) this.2).2.2
  · rw [if_neg q, if_neg q]
theorem Sg.en (h : Sg s s') : (if Pj.pr s' e = true then sA s' 1 e.toNatClampNeg else -1) = (if Pj.pr s e = true then sA s 1 e.toNatClampNeg else -1) ∧ (if Pj.pr s' e = true then sA s' 2 e.toNatClampNeg else -1) = (if Pj.pr s e = true then sA s 2 e.toNatClampNeg else -1) := by
  rw [h.pr]
  by_cases q : Pj.pr s e = true
  · simp only [if_pos q]; have := pr_iff.1 q; have := h.2.2 _ (vi_cl this.1) this.2; exact ⟨this.1, this.2.1⟩
  · rw [if_neg q, if_neg q, if_neg q, if_neg q]; exact ⟨rfl, rfl⟩
theorem Sg.cw (h : Sg s s') (hJ : Jv s) (hJ' : Jv s') (hC : CW s) (hC' : CW s') : sI s' 12 = sI s 12 ∧ sI s' 13 = sI s 13 ∧ sJ s' 14 = sJ s 14 := by
  have f4 : uB8 s' 4 = uB8 s 4 := by funext i; unfold uB8; exact decide_eq_decide.mpr (not_congr (h.2.1 i))
  have ht := h.tt hJ.2.2 hJ'.2.2
  have f5 : ∀ i, i < 128 → uB8 s' 5 i = uB8 s 5 i := fun i hi => by
    have := congrFun ht i
    unfold gT at this
    simp only [hi, true_and] at this
    unfold uB8; exact decide_eq_decide.mpr (this ▸ Iff.rfl)
  refine ⟨by rw [hC.1, hC'.1, f4], by rw [hC.2.1, hC'.2.1, cnt_congr _ _ fun i _ hi => f5 i (by omega)], ?_⟩
  rw [hC.2.2, hC'.2.2]
  refine wsm_congr _ _ fun i _ hi => ⟨f5 i (by omega), fun w => ?_⟩
  rw [f5 i (by omega)] at w
  unfold wJ
  rw [(h.2.2 i (by omega) ((hJ.1.2.2.2.1 i (by omega)).1 (of_decide_eq_true w))).2.2]
theorem Sg.rp (h : Sg s s') (hJ : Jv s) (hJ' : Jv s') : rpl s' e = rpl s e := by
  unfold rpl
  rw [h.tr hJ.2.2 hJ'.2.2]
  by_cases q : Pj.tr s e = true
  rotate_left
  · rw [if_neg q, if_neg q]
  rw [if_pos q, if_pos q]
  obtain ⟨v1, v2, v3⟩ := tr_iff.1 q
  have uE : gU s e.toNatClampNeg := ⟨vi_cl v1, v2⟩
  have eA := (h.2.2 _ (vi_cl v1) v2).1
  have en := hJ.1.2.1 _ (vi_cl v1)
  have nn := hJ.1.2.2.1.2
  have ra : 0 ≤ (sA s 1 e.toNatClampNeg).toInt ∧ (sA s 1 e.toNatClampNeg).toInt < 32 := by omega
  rw [eA]
  have ht := h.tt hJ.2.2 hJ'.2.2
  have hu := h.uu
  have hX : gX s' e = gX s e := by funext k; unfold gX; rw [ht]
  have hS : Sr s (exq s (sA s 1 e.toNatClampNeg) e).1 := exq_Sr
  have hS' : Sr s' (exq s' (sA s 1 e.toNatClampNeg) e).1 := exq_Sr
  have lb : ∀ i, i < 128 → (lcB (exq s' (sA s 1 e.toNatClampNeg) e).1 i = true ↔ lcB (exq s (sA s 1 e.toNatClampNeg) e).1 i = true) := fun i hi => by
    rw [lcB_iff hJ.1 hJ.2.1 ra hi, lcB_iff hJ'.1 hJ'.2.1 ra hi, hu, ht, hX]
    refine and_congr_right fun w => not_congr ?_
    have g := h.gg w.1
    rw [g.1, g.2.1]
    have c := fun Y => h.cc (E := gX s e) (X := (sA s 1 e.toNatClampNeg).toNatClampNeg) (Y := Y) (fun k hk => hJ.2.2.1 k hk.1)
    exact ⟨fun w => (c _).symm.trans (w.trans (c _)), fun w => (c _).trans (w.trans (c _).symm)⟩
  have lu : ∀ i, i < 128 → lcB (exq s (sA s 1 e.toNatClampNeg) e).1 i = true → gR s' i = gR s i := fun i hi w => (h.gg ((lcB_iff hJ.1 hJ.2.1 ra hi).1 w).1.1).2.2
  have r1 := lcF_0 (s := (exq s (sA s 1 e.toNatClampNeg) e).1)
  have r2 := lcF_0 (s := (exq s' (sA s 1 e.toNatClampNeg) e).1)
  rw [gR_of (hS.ar (by decide))] at r1
  rw [gR_of (hS'.ar (by decide))] at r2
  rcases r1 with ⟨a1, a2⟩ | ⟨a1, a2, a3⟩ <;> rcases r2 with ⟨b1, b2⟩ | ⟨b1, b2, b3⟩
  · rw [a1, b1]
  · have := (lb _ (vi_cl b1)).1 b2; rw [a2 _ (vi_cl b1)] at this; exact absurd this (by decide)
  · have := (lb _ (vi_cl a1)).2 a2; rw [b2 _ (vi_cl a1)] at this; exact absurd this (by decide)
  · have c1 := a3 _ (vi_cl b1) ((lb _ (vi_cl b1)).1 b2)
    have c2 := b3 _ (vi_cl a1) ((lb _ (vi_cl a1)).2 a2)
    rw [lu _ (vi_cl b1) ((lb _ (vi_cl b1)).1 b2), lu _ (vi_cl a1) a2] at c2
    exact inj_vi b1 a1 (gR_inj _ _ (vi_cl b1) (vi_cl a1) (Nat.le_antisymm c2 c1))
theorem sn_eq (h : Sr s s1) (hJ : Jv s) (hx : 0 ≤ x.toInt ∧ x.toInt < 32) {X : Nat} (hX : X < 32) : sA (exq s1 x (-1)).1 8 X ≠ 0 ↔ gC s (gT s) x.toNatClampNeg X := by
  have hJ1 := h.Jv hJ
  have q := seen_iff (ex := -1) hJ1.1 hJ1.2.1 hx hX
  have z := seen01 (ex := -1) hJ1.1 hx hX
  rw [gX_m1] at q
  unfold gC at q ⊢
  rw [gA_of (h.ar (by decide)), gB_of (h.ar (by decide)), gT_of (h.ar (by decide))] at q
  rw [← q]
  rcases z with z | z <;> rw [z] <;> decide
theorem Sg.sn (h : Sg s s') (hJ : Jv s) (hJ' : Jv s') (hx : 0 ≤ x.toInt ∧ x.toInt < 32) (hX : X < 32) : sA (exq s' x (-1)).1 8 X ≠ 0 ↔ sA (exq s x (-1)).1 8 X ≠ 0 := by
  rw [sn_eq Sr.refl hJ hx hX, sn_eq Sr.refl hJ' hx hX, h.tt hJ.2.2 hJ'.2.2]
  exact h.cc fun k hk => hJ.2.2.1 k hk
theorem Sg.rm (h : Sg s s') (hI : Iv s) (hI' : Iv s') : Sg (rmS s e) (rmS s' e) := by
  obtain ⟨v1, v2, v3, v4, v5⟩ := rm_v (e := e) hI
  obtain ⟨w1, w2, w3, w4, w5⟩ := rm_v (e := e) hI'
  refine ⟨by rw [v5, w5]; exact h.1, fun k => ?_, fun k hk hu => ?_⟩
  · rw [v4, w4, h.pr]; split
    · exact Iff.rfl
    · exact h.2.1 k
  · rw [v1, v2, v3, w1, w2, w3]
    rw [v4] at hu
    by_cases w : Pj.pr s e = true ∧ k = e.toNatClampNeg
    · rw [if_pos w] at hu; exact absurd rfl hu
    · rw [if_neg w] at hu; exact h.2.2 k hk hu
theorem Sg.sw (h : Sg s s') (hI : Iv s) (hI' : Iv s') : Sg (swS s e w) (swS s' e w) := by
  obtain ⟨v1, v2, v3, v4, v5⟩ := sw_v (e := e) (w := w) hI
  obtain ⟨w1, w2, w3, w4, w5⟩ := sw_v (e := e) (w := w) hI'
  refine ⟨by rw [v5, w5]; exact h.1, fun k => by rw [v4, w4]; exact h.2.1 k, fun k hk hu => ?_⟩
  rw [v4] at hu
  rw [v1, v2, v3, w1, w2, w3, h.pr]
  obtain ⟨h1, h2, h3⟩ := h.2.2 k hk hu
  exact ⟨h1, h2, by rw [h3]⟩
theorem Sg.ad {f : Nat} (h : Sg s s') (hI : Iv s) (hI' : Iv s') (hf : f < 128) (h4 : sA s 4 f = 0) (hu : vv s u = true) (hv : vv s v = true) (hne : u ≠ v) : Sg (adS s f u v w) (adS s' f u v w) := by
  have ru := (vv_rg hu).1
  have rv := (vv_rg hv).1
  obtain ⟨v1, v2, v3, v4, v5⟩ := ad_v (w := w) hI hf h4 ru rv hne
  obtain ⟨w1, w2, w3, w4, w5⟩ := ad_v (w := w) hI' hf ((h.2.1 f).2 h4) (by rw [h.1]; exact ru) (by rw [h.1]; exact rv) hne
  refine ⟨by rw [v5, w5]; exact h.1, fun k => ?_, fun k hk hu => ?_⟩
  · rw [v4, w4]; split
    · exact Iff.rfl
    · exact h.2.1 k
  · rw [v1, v2, v3, w1, w2, w3]
    rw [v4] at hu
    by_cases w : k = f
    · rw [if_pos w, if_pos w, if_pos w, if_pos w, if_pos w, if_pos w]; exact ⟨rfl, rfl, rfl⟩
    · rw [if_neg w] at hu; simp only [if_neg w]; exact h.2.2 k hk hu
theorem Sg.ar {f : Nat} (h : Sg s s') (hI' : Iv s') (hf : f < 128) (h4 : sA s 4 f = 0) (hu : vv s u = true) (hv : vv s v = true) (hne : u ≠ v) : Sg s (rmS (adS s' f u v w) (Int32.ofNat f)) := by
  have ru := (vv_rg hu).1
  have rv := (vv_rg hv).1
  obtain ⟨o1, o2, o3⟩ := ofi hf
  have f4 := (h.2.1 f).2 h4
  have ru' : 0 ≤ u.toInt ∧ u.toInt < (sI s' 0).toInt := by rw [h.1]; exact ru
  have rv' : 0 ≤ v.toInt ∧ v.toInt < (sI s' 0).toInt := by rw [h.1]; exact rv
  obtain ⟨w1, w2, w3, w4, w5⟩ := ad_v (w := w) hI' hf f4 ru' rv' hne
  have hIa := (ad_ok (w := w) hI' hf f4 ru' rv' hne).1
  have pa := (ad_ok (w := w) hI' hf f4 ru' rv' hne).2.2.2.2.2.2.2.2.1
  obtain ⟨v1, v2, v3, v4, v5⟩ := rm_v (e := Int32.ofNat f) hIa
  refine ⟨by rw [v5, w5]; exact h.1, fun k => ?_, fun k hk hu => ?_⟩
  · rw [v4, o2, w4]
    by_cases q : k = f
    · rw [if_pos ⟨pa, q⟩, q]; exact ⟨fun _ => h4, fun _ => rfl⟩
    · rw [if_neg (fun w => q w.2), if_neg q]; exact h.2.1 k
  · have q : k ≠ f := fun w => hu (by rw [w]; exact h4)
    rw [v1, v2, v3, w1, w2, w3, if_neg q, if_neg q, if_neg q]; exact h.2.2 k hk hu
theorem t9 : Cl (pj lw) 9 [.ref p] (ob H p s) Q ↔ Q (some (.int (sI s 12))) (ob H p s) := by rw [c9]; simp +decide only [w9_0, w9_1, w9_4, isO_put, true_and, g12]
theorem t10 : Cl (pj lw) 10 [.ref p] (ob H p s) Q ↔ Q (some (.long (sJ s 14))) (ob H p s) := by rw [c10]; simp +decide only [w10_0, w10_1, w10_4, isO_put, true_and, g14]
theorem t11 : Cl (pj lw) 11 [.ref p] (ob H p s) Q ↔ Q (some (.int (sI s 13))) (ob H p s) := by rw [c11]; simp +decide only [w11_0, w11_1, w11_4, isO_put, true_and, g13]
theorem t12 : Cl (pj lw) 12 [.ref p] (ob H p s) Q ↔ Q (some (.int (sI s 0 - sI s 13))) (ob H p s) := by rw [c12]; simp +decide only [w12_0, w12_1, w12_4, w12_5, w12_8, w12_9, isO_put, true_and, g0, g13]
end O

section P
variable {lw : LW} {H : AH} {p q j m : Nat} {s s' s1 s2 : St} {Q : Option Value → AH → Prop} {a b c d e x y u v w z ex w0 w1 w2 : Int32} {k n X Y i h : Nat}
theorem wsm_0 {f : Nat → Bool} {w : Nat → Int64} : ∀ (k j : Nat), (∀ i, j ≤ i → i < j + k → f i = false) → wsm f w j k = 0
  | 0, _, _ => rfl
  | k + 1, j, h => by
    simp only [wsm]; rw [h j (Nat.le_refl _) (by omega), wsm_0 k (j + 1) fun i a b => h i (by omega) (by omega)]; rfl
theorem wsm_3 {f : Nat → Bool} {w : Nat → Int64} (h : ∀ i, 3 ≤ i → i < 128 → f i = false) : wsm f w 0 128 = (if f 0 = true then w 0 else 0) + ((if f 1 = true then w 1 else 0) + (if f 2 = true then w 2 else 0)) := by
  show (if f 0 = true then w 0 else 0) + ((if f 1 = true then w 1 else 0) + ((if f 2 = true then w 2 else 0) + wsm f w 3 125)) = _
  rw [wsm_0 125 3 fun i a b => h i a (by omega), Int64.add_zero]
theorem cnt_3 {f : Nat → Bool} (h : ∀ i, 3 ≤ i → i < 128 → f i = false) : cnt f 0 128 = (if f 0 = true then 1 else 0) + ((if f 1 = true then 1 else 0) + (if f 2 = true then 1 else 0)) := by
  show (if f 0 = true then 1 else 0) + ((if f 1 = true then 1 else 0) + ((if f 2 = true then 1 else 0) + cnt f 3 125)) = _
  rw [cnt_none 125 3 fun i a b => h i a (by omega), Nat.add_zero]
def Tr3 (s : St) (w0 w1 w2 : Int32) : Prop := sI s 0 = 3 ∧ (sA s 1 0 = 0 ∧ sA s 2 0 = 1) ∧ (sA s 1 1 = 1 ∧ sA s 2 1 = 2) ∧ (sA s 1 2 = 0 ∧ sA s 2 2 = 2) ∧ sA s 3 0 = w0 ∧ sA s 3 1 = w1 ∧ sA s 3 2 = w2
theorem Tr3.g (h : Tr3 s w0 w1 w2) : (gA s 0 = 0 ∧ gB s 0 = 1) ∧ (gA s 1 = 1 ∧ gB s 1 = 2) ∧ (gA s 2 = 0 ∧ gB s 2 = 2) := by
  unfold gA gB; rw [h.2.1.1, h.2.1.2, h.2.2.1.1, h.2.2.1.2, h.2.2.2.1.1, h.2.2.2.1.2]; exact ⟨⟨rfl, rfl⟩, ⟨rfl, rfl⟩, rfl, rfl⟩
theorem n3 (h : i < 3) : i = 0 ∨ i = 1 ∨ i = 2 := by omega
theorem Tr3.sep (h : Tr3 s w0 w1 w2) (hx : X < 3) (hy : Y < 3) (hne : X ≠ Y) : ¬ gC s (fun g => g = X) (gA s Y) (gB s Y) := by
  obtain ⟨⟨a0, b0⟩, ⟨a1, b1⟩, a2, b2⟩ := h.g
  intro c
  rcases n3 hx with rfl | rfl | rfl <;> rcases n3 hy with rfl | rfl | rfl
  · exact hne rfl
  · have := c (fun z => z = 2) (fun e he => by subst he; rw [a0, b0]; decide); rw [a1, b1] at this; exact absurd (this.2 rfl) (by decide)
  · have := c (fun z => z = 2) (fun e he => by subst he; rw [a0, b0]; decide); rw [a2, b2] at this; exact absurd (this.2 rfl) (by decide)
  · have := c (fun z => z = 0) (fun e he => by subst he; rw [a1, b1]; decide); rw [a0, b0] at this; exact absurd (this.1 rfl) (by decide)
  · exact hne rfl
  · have := c (fun z => z = 0) (fun e he => by subst he; rw [a1, b1]; decide); rw [a2, b2] at this; exact absurd (this.1 rfl) (by decide)
  · have := c (fun z => z = 1) (fun e he => by subst he; rw [a2, b2]; decide); rw [a0, b0] at this; exact absurd (this.2 rfl) (by decide)
  · have := c (fun z => z = 1) (fun e he => by subst he; rw [a2, b2]; decide); rw [a1, b1] at this; exact absurd (this.1 rfl) (by decide)
  · exact hne rfl
def P3 (i j k : Nat) : Prop := (i < 3 ∧ j < 3 ∧ k < 3) ∧ i ≠ j ∧ j ≠ k ∧ i ≠ k
theorem P3.or (h : P3 i j k) (hx : X < 3) : X = i ∨ X = j ∨ X = k := by unfold P3 at h; omega
theorem Tr3.con (h : Tr3 s w0 w1 w2) (hp : P3 i j k) {E : Nat → Prop} (hi : E i) (hj : E j) : gC s E (gA s k) (gB s k) := by
  obtain ⟨⟨a0, b0⟩, ⟨a1, b1⟩, a2, b2⟩ := h.g
  have ci : gC s E (gA s i) (gB s i) := Cn.edge hi
  have cj : gC s E (gA s j) (gB s j) := Cn.edge hj
  obtain ⟨⟨p1, p2, p3⟩, p4, p5, p6⟩ := hp
  unfold gC at *
  rcases n3 p1 with rfl | rfl | rfl <;> rcases n3 p2 with rfl | rfl | rfl <;> rcases n3 p3 with rfl | rfl | rfl <;> first | exact absurd rfl p4 | exact absurd rfl p5 | exact absurd rfl p6 | skip
  · rw [a0, b0] at ci; rw [a1, b1] at cj; rw [a2, b2]; exact ci.trans cj
  · rw [a0, b0] at ci; rw [a2, b2] at cj; rw [a1, b1]; exact ci.symm.trans cj
  · rw [a1, b1] at ci; rw [a0, b0] at cj; rw [a2, b2]; exact cj.trans ci
  · rw [a1, b1] at ci; rw [a2, b2] at cj; rw [a0, b0]; exact cj.trans ci.symm
  · rw [a2, b2] at ci; rw [a0, b0] at cj; rw [a1, b1]; exact cj.symm.trans ci
  · rw [a2, b2] at ci; rw [a1, b1] at cj; rw [a0, b0]; exact ci.trans cj.symm
theorem Tr3.all (h : Tr3 s w0 w1 w2) (hJ : Jv s) (hu : ∀ e, gU s e ↔ e < 3) (hp : P3 i j k) (h1 : gR s i < gR s j) (h2 : gR s j < gR s k) : (∀ e, gT s e ↔ (e < 3 ∧ e ≠ k)) ∧ Bn (gA s) (gB s) (gR s) (gT s) j (gA s k) (gB s k) := by
  have hk := hJ.2.2
  have hpo := fun X hX => hp.or (X := X) hX
  obtain ⟨⟨p1, p2, p3⟩, p4, p5, p6⟩ := hp
  have lti : ∀ g, Bl (gU s) (gR s) (gR s i) g → g = j := fun g hg => by
    rcases hpo g ((hu g).1 hg.1) with rfl | rfl | rfl
    · have := hg.2; omega
    · rfl
    · have := hg.2; omega
  have ltj : ∀ g, Bl (gU s) (gR s) (gR s j) g → g = i := fun g hg => by
    rcases hpo g ((hu g).1 hg.1) with rfl | rfl | rfl
    · rfl
    · have := hg.2; omega
    · have := hg.2; omega
  have ti : gT s i := (hk.2 i ((hu i).2 p1)).2 fun c => h.sep p2 p1 (Ne.symm p4) (c.mono lti)
  have tj : gT s j := (hk.2 j ((hu j).2 p2)).2 fun c => h.sep p1 p2 p4 (c.mono ltj)
  have tk : ¬ gT s k := fun w => (hk.2 k ((hu k).2 p3)).1 w (h.con ⟨⟨p1, p2, p3⟩, p4, p5, p6⟩ ⟨(hu i).2 p1, by omega⟩ ⟨(hu j).2 p2, h2⟩)
  refine ⟨fun e => ⟨fun w => ⟨(hu e).1 (hk.1 e w), fun v => tk (v ▸ w)⟩, fun w => ?_⟩, tj, h.con ⟨⟨p1, p2, p3⟩, p4, p5, p6⟩ ⟨ti, by omega⟩ ⟨tj, by omega⟩, fun c => h.sep p1 p3 p6 (c.mono fun g hg => ltj g ⟨hk.1 g hg.1, hg.2⟩)⟩
  rcases hpo e w.1 with rfl | rfl | rfl
  · exact ti
  · exact tj
  · exact absurd rfl w.2
theorem Tr3.two (h : Tr3 s w0 w1 w2) (hJ : Jv s) (hr : X < 3) (hu : ∀ e, gU s e ↔ (e < 3 ∧ e ≠ X)) : ∀ e, gT s e ↔ (e < 3 ∧ e ≠ X) := fun e => by
  have hk := hJ.2.2
  refine ⟨fun w => (hu e).1 (hk.1 e w), fun w => (hk.2 e ((hu e).2 w)).2 fun c => ?_⟩
  have : ∃ o, o < 3 ∧ o ≠ e ∧ o ≠ X := by
    by_cases q0 : 0 ≠ e ∧ 0 ≠ X
    · exact ⟨0, by omega, q0⟩
    · by_cases q1 : 1 ≠ e ∧ 1 ≠ X
      · exact ⟨1, by omega, q1⟩
      · exact ⟨2, by omega, by omega⟩
  obtain ⟨o, o1, o2, o3⟩ := this
  refine h.sep o1 w.1 o2 (c.mono fun g hg => ?_)
  have := (hu g).1 hg.1
  have : g ≠ e := fun v => by have := hg.2; rw [v] at this; omega
  omega
theorem Tr3.rp (h : Tr3 s w0 w1 w2) (hJ : Jv s) (hu : ∀ e, gU s e ↔ e < 3) (ht : ∀ e, gT s e ↔ (e < 3 ∧ e ≠ k)) (hk3 : k < 3) (hX : X < 3) : rpl s (Int32.ofNat X) = if X = k then -1 else Int32.ofNat k := by
  obtain ⟨o1, o2, o3⟩ := ofi (i := X) (by omega)
  have hk := hJ.2.2
  unfold rpl
  by_cases q : X = k
  · rw [if_pos q, if_neg]
    intro w
    have := (tr_iff.1 w).2.2
    rw [o2] at this
    exact ((ht X).1 ⟨by omega, this⟩).2 q
  · rw [if_neg q]
    have tX : gT s X := (ht X).2 ⟨hX, q⟩
    have uX := (hu X).2 hX
    have uk := (hu k).2 hk3
    have nk : ¬ gT s k := fun w => ((ht k).1 w).2 rfl
    rw [if_pos (tr_t o3 (by rw [o2]; exact uX.2) (by rw [o2]; exact tX.2)), o2]
    have en := hJ.1.2.1 X (by omega)
    have nn := hJ.1.2.2.1.2
    have ra : 0 ≤ (sA s 1 X).toInt ∧ (sA s 1 X).toInt < 32 := by omega
    have lb := fun i hi => lcB_iff (ex := Int32.ofNat X) (i := i) hJ.1 hJ.2.1 ra hi
    have eX : gX s (Int32.ofNat X) = fun g => gT s g ∧ g ≠ X := by
      funext g; unfold gX; refine propext (and_congr_right fun w => not_congr ⟨fun v => ?_, fun v => by rw [v]⟩)
      have := congrArg Int32.toNatClampNeg v; rw [(ofi w.1).2.1, o2] at this; exact this
    rw [eX] at lb
    have cr : Crs (gA s) (gB s) (fun g => gT s g ∧ g ≠ X) (gA s X) k := by
      rcases hk.crs tX uk nk with c | c
      · obtain ⟨o, q1, q2, q3⟩ : ∃ o, o < 3 ∧ o ≠ k ∧ o ≠ X := by
          by_cases q0 : 0 ≠ k ∧ 0 ≠ X
          · exact ⟨0, by omega, q0⟩
          · by_cases q1 : 1 ≠ k ∧ 1 ≠ X
            · exact ⟨1, by omega, q1⟩
            · exact ⟨2, by omega, by omega⟩
        refine absurd (c.mono fun g hg => ?_) (h.sep q1 hk3 q2)
        have := (ht g).1 hg.1.1
        have := hg.1.2
        omega
      · exact Br.crs (hk.fo X tX) (c.2.mono fun g hg => hg.1)
    have lk := (lb k (by omega)).2 ⟨⟨uk, nk⟩, cr⟩
    rcases lcF_0 (s := (exq s (sA s 1 X) (Int32.ofNat X)).1) with ⟨r1, r2⟩ | ⟨r1, r2, r3⟩
    · rw [r2 k (by omega)] at lk; exact absurd lk (by decide)
    · have w := ((lb _ (vi_cl r1)).1 r2).1
      have w1 := (hu _).1 w.1
      have : (lcF (exq s (sA s 1 X) (Int32.ofNat X)).1 0 128 (-1)).toNatClampNeg = k := Classical.byContradiction fun v => w.2 ((ht _).2 ⟨w1, v⟩)
      rw [← this, ofv r1]
theorem Tr3.pm (h : Tr3 s w0 w1 w2) (hJ : Jv s) (hu : ∀ e, gU s e ↔ e < 3) (hX : X < 3) (hb : Bn (gA s) (gB s) (gR s) (gT s) Y (gA s X) (gB s X)) : pmx s (sA s 1 X) (sA s 2 X) = Int32.ofNat Y := by
  have en := hJ.1.2.1 X (by omega)
  have nn := hJ.1.2.2.1.2
  have uX := (hu X).2 hX
  have ne := (hJ.1.2.2.2.1 X (by omega)).2 uX.2
  have ra : 0 ≤ (sA s 1 X).toInt ∧ (sA s 1 X).toInt < 32 := by omega
  have rb : 0 ≤ (sA s 2 X).toInt ∧ (sA s 2 X).toInt < 32 := by omega
  have sn := (sn_eq (X := (sA s 2 X).toNatClampNeg) (Sr.refl (s := s)) hJ ra (by rw [cln]; omega)).2 (hJ.2.2.all.1 (Cn.edge uX))
  unfold pmx; rw [if_neg sn]
  obtain ⟨n1, v1, bn⟩ := hv_bn (ex := -1) hJ.1 ra rb ne hJ.2.2.fo sn
  have : gR s (hvF (exq s (sA s 1 X) (-1)).1 32 (-1) (sA s 2 X)).toNatClampNeg = gR s Y := bn.uniq hb
  have := gR_inj _ _ (vi_cl v1) hb.1.1 this
  rw [← this, ofv v1]
theorem Tr3.cw {P : Nat → Prop} [DecidablePred P] (h : Tr3 s w0 w1 w2) (hC : CW s) (ht : ∀ e, gT s e ↔ (e < 3 ∧ P e)) : sI s 13 = Int32.ofNat ((if P 0 then 1 else 0) + ((if P 1 then 1 else 0) + (if P 2 then 1 else 0))) ∧ sJ s 14 = (if P 0 then w0.toInt64 else 0) + ((if P 1 then w1.toInt64 else 0) + (if P 2 then w2.toInt64 else 0)) := by
  have f : ∀ i, i < 128 → uB8 s 5 i = decide (i < 3 ∧ P i) := fun i hi => by
    unfold uB8; refine decide_eq_decide.mpr ?_
    rw [← ht i]; unfold gT; exact ⟨fun w => ⟨hi, w⟩, fun w => w.2⟩
  have f3 : ∀ i, 3 ≤ i → i < 128 → uB8 s 5 i = false := fun i h1 h2 => by rw [f i h2]; exact decide_eq_false (by omega)
  rw [hC.2.1, hC.2.2, cnt_3 f3, wsm_3 f3, f 0 (by decide), f 1 (by decide), f 2 (by decide)]
  unfold wJ
  rw [h.2.2.2.2.1, h.2.2.2.2.2.1, h.2.2.2.2.2.2]
  simp
end P

section Q
variable {lw : LW} {H : AH} {p q m : Nat} {s s' s1 s2 : St} {Q : Option Value → AH → Prop} {a b c d e x y u v w z ex w0 w1 w2 : Int32} {n X Y i j k h : Nat}
theorem rm_15 (hI : Iv s) (ht : tr s e = true) : sI (rmS s e) 16 = e ∧ ((sI (rmS s e) 15 = -1 ∧ sI (rmS s e) 13 = sI s 13 - 1) ∨ (vi (sI (rmS s e) 15) = true ∧ sI (rmS s e) 15 ≠ e ∧ sA s 4 (sI (rmS s e) 15).toNatClampNeg ≠ 0 ∧ sA s 5 (sI (rmS s e) 15).toNatClampNeg = 0)) := by
  obtain ⟨he, h4, h5⟩ := tr_iff.1 ht
  have hp : pr s e = true := pr_iff.2 ⟨he, h4⟩
  obtain ⟨-, -, -, -, -, q6, q7⟩ := cT_ok hI he h5
  have T2 := lT_t he h5
  have hS : Sr (frS (lT s e) e) (cT1 s e) := sx_Sr
  have hr := lcF_ok (s := cT1 s e) 128 0 (-1) (by decide) (Or.inl rfl)
  have e15 : sI (cT s e) 15 = lcF (cT1 s e) 0 128 (-1) := by unfold cT; exact stL2_15.1
  have e5 : ∀ i, i ≠ e.toNatClampNeg → sA (cT1 s e) 5 i = sA s 5 i := fun i hi => by rw [hS.ar (by decide), frS_5, if_neg hi, lT_5 he h5, if_neg hi]
  unfold rmS; rw [if_pos hp, if_neg h5]
  refine ⟨q6, ?_⟩
  rcases q7 with ⟨r1, r2, -⟩ | ⟨r, r1, r2, r3, r4, r5, -⟩
  · exact Or.inl ⟨r1, r2⟩
  · rw [r1]
    refine Or.inr ⟨r4, r3, r5, ?_⟩
    rw [← e15, r1] at hr
    rw [← e5 _ (fun w => r3 (inj_vi r4 he w))]
    exact (hr.resolve_left r2).2
def GD (s : St) (i j k : Nat) (w0 w1 w2 : Int32) : Prop := Jv s ∧ CW s ∧ Tr3 s w0 w1 w2 ∧ (∀ e, gU s e ↔ e < 3) ∧ P3 i j k ∧ gR s i < gR s j ∧ gR s j < gR s k
theorem GD.t (h : GD s i j k w0 w1 w2) : ∀ e, gT s e ↔ (e < 3 ∧ e ≠ k) := (h.2.2.1.all h.1 h.2.2.2.1 h.2.2.2.2.1 h.2.2.2.2.2.1 h.2.2.2.2.2.2).1
theorem gtr (hi : i < 128) : tr s (Int32.ofNat i) = true ↔ gU s i ∧ gT s i := by
  obtain ⟨o1, o2, o3⟩ := ofi hi
  rw [tr_iff, o2]; unfold gU gT
  exact ⟨fun w => ⟨⟨hi, w.2.1⟩, hi, w.2.2⟩, fun w => ⟨o3, w.1.2, w.2.2⟩⟩
theorem GD.tr (h : GD s i j k w0 w1 w2) (hX : X < 3) : tr s (Int32.ofNat X) = decide (X ≠ k) := by
  by_cases q : X = k
  · rw [decide_eq_false (fun w => w q)]
    cases e : Pj.tr s (Int32.ofNat X) with
    | false => rfl
    | true => exact absurd q (((h.t X).1 ((gtr (by omega)).1 e).2).2)
  · rw [decide_eq_true q]; exact (gtr (by omega)).2 ⟨(h.2.2.2.1 X).2 hX, (h.t X).2 ⟨hX, q⟩⟩
theorem GD.cw (h : GD s i j k w0 w1 w2) : sI s 13 = 2 ∧ sJ s 14 = (if 0 ≠ k then w0.toInt64 else 0) + ((if 1 ≠ k then w1.toInt64 else 0) + (if 2 ≠ k then w2.toInt64 else 0)) := by
  have := h.2.2.1.cw (P := fun e => e ≠ k) h.2.1 h.t
  have hk := h.2.2.2.2.1.1.2.2
  refine ⟨?_, this.2⟩
  rw [this.1]
  rcases n3 hk with rfl | rfl | rfl <;> rfl
theorem GD.rm (G : GD s i j k w0 w1 w2) (hX : X < 3) (hne : X ≠ k) : pr s (Int32.ofNat X) = true ∧ sI (rmS s (Int32.ofNat X)) 16 = Int32.ofNat X ∧ sI (rmS s (Int32.ofNat X)) 15 = Int32.ofNat k ∧ Pj.tr (rmS s (Int32.ofNat X)) (Int32.ofNat k) = true ∧ sI (rmS s (Int32.ofNat X)) 0 = 3 ∧ sI (rmS s (Int32.ofNat X)) 13 = 2 ∧
    sJ (rmS s (Int32.ofNat X)) 14 = (if 0 ≠ X then w0.toInt64 else 0) + ((if 1 ≠ X then w1.toInt64 else 0) + (if 2 ≠ X then w2.toInt64 else 0)) := by
  have c13 := G.cw.1
  have ht := G.t
  have tX : Pj.tr s (Int32.ofNat X) = true := by rw [G.tr hX, decide_eq_true hne]
  have k3 := G.2.2.2.2.1.1.2.2
  obtain ⟨hJ, hC, h3, hu, -⟩ := G
  obtain ⟨o1, o2, o3⟩ := ofi (i := X) (by omega)
  have tX' := tr_iff.1 tX
  have hp : Pj.pr s (Int32.ofNat X) = true := pr_iff.2 ⟨tX'.1, tX'.2.1⟩
  obtain ⟨v1, v2, v3, v4, v0⟩ := rm_v (e := Int32.ofNat X) hJ.1
  have hJ' : Jv (rmS s (Int32.ofNat X)) := rm_J hJ
  have hC' : CW (rmS s (Int32.ofNat X)) := rm_CW hC
  have h3' : Tr3 (rmS s (Int32.ofNat X)) w0 w1 w2 := by unfold Tr3; rw [v0, v1, v2, v3]; exact h3
  have hu' : ∀ e, gU (rmS s (Int32.ofNat X)) e ↔ (e < 3 ∧ e ≠ X) := fun e => by
    unfold gU; rw [v4, o2]; simp only [hp, true_and]
    by_cases q : e = X
    · rw [if_pos q]; exact ⟨fun w => absurd rfl w.2, fun w => absurd q w.2⟩
    · rw [if_neg q]; exact ⟨fun w => ⟨(hu e).1 w, q⟩, fun w => (hu e).2 w.1⟩
  have t' := h3'.two hJ' hX hu'
  have cw := h3'.cw (P := fun e => e ≠ X) hC' t'
  have c13' : sI (rmS s (Int32.ofNat X)) 13 = 2 := by rw [cw.1]; rcases n3 hX with rfl | rfl | rfl <;> rfl
  obtain ⟨r1, r2⟩ := rm_15 hJ.1 tX
  have e15 : sI (rmS s (Int32.ofNat X)) 15 = Int32.ofNat k := by
    rcases r2 with ⟨u1, u2⟩ | ⟨u1, u2, u3, u4⟩
    · rw [c13, c13'] at u2; exact absurd u2 (by decide)
    · have m3 := (hu _).1 ⟨vi_cl u1, u3⟩
      have : (sI (rmS s (Int32.ofNat X)) 15).toNatClampNeg = k := Classical.byContradiction fun w => ((ht _).2 ⟨m3, w⟩).2 u4
      rw [← this, ofv u1]
  refine ⟨hp, r1, e15, ?_, ?_, c13', cw.2⟩
  · exact (gtr (by omega)).2 ⟨(hu' k).2 ⟨k3, fun w => hne w.symm⟩, (t' k).2 ⟨k3, fun w => hne w.symm⟩⟩
  · rw [v0]; exact h3.1
end Q

section R
variable {lw : LW} {H : AH} {p q m : Nat} {s s' s1 s2 : St} {Q : Option Value → AH → Prop} {a b c d e x y u v w z ex l : Int32} {n X Y i j k h : Nat}
def TX (s s' : St) : Prop := (sI s' 16 = -1 ∨ (vi (sI s' 16) = true ∧ sA s 5 (sI s' 16).toNatClampNeg ≠ 0)) ∧ (sI s' 15 = -1 ∨ (vi (sI s' 15) = true ∧ sA s 5 (sI s' 15).toNatClampNeg = 0)) ∧
  ∀ k, k < 128 → (sA s' 5 k ≠ 0 ↔ ((sA s 5 k ≠ 0 ∧ ¬ (vi (sI s' 16) = true ∧ k = (sI s' 16).toNatClampNeg)) ∨ (vi (sI s' 15) = true ∧ k = (sI s' 15).toNatClampNeg)))
theorem vm1 : vi (-1) = false := by decide
theorem TX_0 (h : ∀ k, sA s1 5 k ≠ 0 ↔ sA s 5 k ≠ 0) : TX s (stL2 s1 (-1) (-1)) := by
  refine ⟨Or.inl stL2_15.2, Or.inl stL2_15.1, fun k _ => ?_⟩
  rw [stL2_A, h, stL2_15.1, stL2_15.2, vm1]; simp
theorem TX_1 (he : vi e = true) (h5 : sA s 5 e.toNatClampNeg = 0) (h : ∀ k, sA s1 5 k = sA s 5 k) : TX s (stL2 (jT s1 e) e (-1)) := by
  refine ⟨Or.inl stL2_15.2, Or.inr (by rw [stL2_15.1]; exact ⟨he, h5⟩), fun k _ => ?_⟩
  rw [stL2_A, stL2_15.1, stL2_15.2, vm1, jT_5 he (by rw [h]; exact h5), h, he]
  by_cases q : k = e.toNatClampNeg
  · rw [if_pos q]; simp [q]
  · rw [if_neg q]; simp [q]
theorem TX_2 (he : vi e = true) (h5 : sA s 5 e.toNatClampNeg = 0) (hl : vi l = true) (hl5 : sA s 5 l.toNatClampNeg ≠ 0) (h : ∀ k, sA s1 5 k = if k = l.toNatClampNeg then 0 else sA s 5 k) : TX s (stL2 (jT s1 e) e l) := by
  have h5' : sA s1 5 e.toNatClampNeg = 0 := by rw [h]; split; rfl; exact h5
  refine ⟨Or.inr (by rw [stL2_15.2]; exact ⟨hl, hl5⟩), Or.inr (by rw [stL2_15.1]; exact ⟨he, h5⟩), fun k _ => ?_⟩
  rw [stL2_A, stL2_15.1, stL2_15.2, jT_5 he h5', h, he, hl]
  by_cases q : k = e.toNatClampNeg
  · rw [if_pos q]; simp [q]
  · rw [if_neg q]; by_cases r : k = l.toNatClampNeg
    · rw [if_pos r]; simp [q, r]; intro w; exact q (by rw [r, w])
    · rw [if_neg r]; simp [q, r]
theorem TX_3 (hl : vi l = true) (hl5 : sA s 5 l.toNatClampNeg ≠ 0) (h : ∀ k, sA s1 5 k = if k = l.toNatClampNeg then 0 else sA s 5 k) : TX s (stL2 s1 (-1) l) := by
  refine ⟨Or.inr (by rw [stL2_15.2]; exact ⟨hl, hl5⟩), Or.inl stL2_15.1, fun k _ => ?_⟩
  rw [stL2_A, stL2_15.1, stL2_15.2, vm1, h, hl]
  by_cases r : k = l.toNatClampNeg
  · rw [if_pos r]; simp [r]
  · rw [if_neg r]; simp [r]
theorem TX.of (h : TX s s') (h5 : sA s1 5 = sA s 5) : TX s1 s' := by unfold TX; rw [h5]; exact h
theorem iU_TX (hI : Iv s) (he : vi e = true) (h4 : sA s 4 e.toNatClampNeg ≠ 0) (h5 : sA s 5 e.toNatClampNeg = 0) : TX s (iU s e) := by
  have hS : Sr s (sx s e) := sx_Sr
  have a5 : sA (sx s e) 5 = sA s 5 := hS.ar (by decide)
  have hIx := hS.Iv hI
  unfold iU
  by_cases e1 : sA (sx s e) 8 (sA s 2 e.toNatClampNeg).toNatClampNeg = 0
  · rw [if_pos e1]; exact TX_1 he h5 fun k => by rw [a5]
  · rw [if_neg e1]
    have hm := hvF_PK (exq_PK (s := s) (a := sA s 1 e.toNatClampNeg) (ex := -1)) 32 (-1) (sA s 2 e.toNatClampNeg) (Or.inl rfl)
    change hvF (sx s e) 32 (-1) (sA s 2 e.toNatClampNeg) = -1 ∨ ∃ X, X < 32 ∧ MEM (sx s e) X (hvF (sx s e) 32 (-1) (sA s 2 e.toNatClampNeg)) at hm
    generalize hvF (sx s e) 32 (-1) (sA s 2 e.toNatClampNeg) = m at *
    by_cases e2 : m = -1 ∨ pc (sx s e) e m = false
    · rw [if_pos e2]; exact TX_0 fun k => by rw [a5]
    · rw [if_neg e2]
      have e3 : m ≠ -1 := fun w => e2 (Or.inl w)
      obtain ⟨X, hX, hM⟩ := hm.resolve_left e3
      obtain ⟨m1, m2, _⟩ := (hIx.2.2.2.2 X hX).2 m hM
      exact TX_2 he h5 m1 (by rw [← a5]; exact m2) fun k => by rw [lT_5 m1 m2, a5]
theorem cT_TX (hI : Iv s) (he : vi e = true) (h5 : sA s 5 e.toNatClampNeg ≠ 0) : TX s (cT s e) := by
  have hS : Sr (frS (lT s e) e) (cT1 s e) := sx_Sr
  have a5 : ∀ k, sA (cT1 s e) 5 k = if k = e.toNatClampNeg then 0 else sA s 5 k := fun k => by
    rw [hS.ar (by decide), frS_5, lT_5 he h5]; split <;> rfl
  have a4 : ∀ k, sA (cT1 s e) 4 k = if k = e.toNatClampNeg then 0 else sA s 4 k := fun k => by rw [hS.ar (by decide), frS_4, lT_A (by decide) (by decide) (by decide)]
  have hr := lcF_ok (s := cT1 s e) 128 0 (-1) (by decide) (Or.inl rfl)
  unfold cT
  generalize lcF (cT1 s e) 0 128 (-1) = r at *
  by_cases e1 : r = -1
  · rw [if_pos e1, e1]; exact TX_3 he h5 a5
  · rw [if_neg e1]
    obtain ⟨⟨r1, r2⟩, r3⟩ := hr.resolve_left e1
    refine TX_2 r1 ?_ he h5 a5
    rw [a5] at r3
    rw [a4] at r2
    by_cases q : r.toNatClampNeg = e.toNatClampNeg
    · rw [if_pos q] at r2; exact absurd rfl r2
    · rw [if_neg q] at r3; exact r3
theorem rW_TX (hI : Iv s) (he : vi e = true) (h5 : sA s 5 e.toNatClampNeg ≠ 0) : TX s (rW s e c) := by
  have hS : Sr (uA (lT s e) 3 e.toNatClampNeg c) (rW1 s e c) := sx_Sr
  have a5 : ∀ k, sA (rW1 s e c) 5 k = if k = e.toNatClampNeg then 0 else sA s 5 k := fun k => by rw [hS.ar (by decide), sAn (by decide), lT_5 he h5]
  have hr := lcF_ok (s := rW1 s e c) 128 0 (-1) (by decide) (Or.inl rfl)
  unfold rW
  generalize lcF (rW1 s e c) 0 128 (-1) = r at *
  by_cases e1 : r = -1 ∨ r = e
  · rw [if_pos e1]
    refine TX_0 fun k => ?_
    rw [jT_5 he (by rw [a5, if_pos rfl]), a5]
    by_cases q : k = e.toNatClampNeg
    · rw [if_pos q, q]; simp [h5]
    · rw [if_neg q, if_neg q]
  · rw [if_neg e1]
    have e2 : r ≠ -1 := fun w => e1 (Or.inl w)
    have e3 : r ≠ e := fun w => e1 (Or.inr w)
    obtain ⟨⟨r1, r2⟩, r3⟩ := hr.resolve_left e2
    refine TX_2 r1 ?_ he h5 a5
    rw [a5, if_neg (fun w => e3 (inj_vi r1 he w))] at r3; exact r3
theorem ad_TX {f : Nat} (hI : Iv s) (hf : f < 128) (h4 : sA s 4 f = 0) (hu : 0 ≤ u.toInt ∧ u.toInt < (sI s 0).toInt) (hv : 0 ≤ v.toInt ∧ v.toInt < (sI s 0).toInt) (hne : u ≠ v) : TX s (adS s f u v w) := by
  obtain ⟨o1, o2, o3⟩ := ofi hf
  have hI1 := stE_Iv (d := cl (-1000000) 1000000 w) hI o3 (by rw [o2]; exact h4) hu hv hne
  refine (iU_TX hI1 o3 (by rw [stE_1.2.2.2.1, if_pos rfl]; decide) (by rw [stE_1.2.2.2.2, if_pos rfl])).of ?_
  funext k; rw [stE_1.2.2.2.2, o2]
  by_cases q : k = f
  · rw [if_pos q, q]; exact Classical.byContradiction fun w => (hI.2.2.2.1 f hf).1 w h4
  · rw [if_neg q]
theorem rm_TX (hI : Iv s) (hp : pr s e = true) : TX s (rmS s e) := by
  obtain ⟨hv, h4⟩ := pr_iff.1 hp
  unfold rmS; rw [if_pos hp]
  by_cases e1 : sA s 5 e.toNatClampNeg = 0
  · rw [if_pos e1]; exact TX_0 fun k => by rw [frS_5z e1]
  · rw [if_neg e1]; exact cT_TX hI hv e1
theorem sw_TX (hI : Iv s) (hp : pr s e = true) : TX s (swS s e w) := by
  obtain ⟨hv, h4⟩ := pr_iff.1 hp
  unfold swS; rw [if_pos hp]
  by_cases e1 : sA s 5 e.toNatClampNeg = 0
  · rw [if_pos e1]
    exact (iU_TX (u3_Iv (k := e.toNatClampNeg) (c := cl (-1000000) 1000000 w) hI) hv (by rw [sAn (by decide)]; exact h4) (by rw [sAn (by decide)]; exact e1)).of (by rw [sAn (by decide)])
  · rw [if_neg e1]; exact rW_TX hI hv e1
theorem rp_ok (hJ : Jv s) (ht : gT s e.toNatClampNeg) (hv : vi e = true) : rpl s e = -1 ∨ (vi (rpl s e) = true ∧ gU s (rpl s e).toNatClampNeg ∧ ¬ gT s (rpl s e).toNatClampNeg ∧ gR s e.toNatClampNeg < gR s (rpl s e).toNatClampNeg) := by
  have hk := hJ.2.2
  have uE := hk.1 _ ht
  unfold rpl
  rw [if_pos (tr_t hv uE.2 ht.2)]
  have en := hJ.1.2.1 _ (vi_cl hv)
  have nn := hJ.1.2.2.1.2
  have ra : 0 ≤ (sA s 1 e.toNatClampNeg).toInt ∧ (sA s 1 e.toNatClampNeg).toInt < 32 := by omega
  rcases lcF_0 (s := (exq s (sA s 1 e.toNatClampNeg) e).1) with ⟨r1, r2⟩ | ⟨r1, r2, r3⟩
  · exact Or.inl r1
  · have w := (lcB_iff (ex := e) hJ.1 hJ.2.1 ra (vi_cl r1)).1 r2
    generalize lcF (exq s (sA s 1 e.toNatClampNeg) e).1 0 128 (-1) = r at *
    refine Or.inr ⟨r1, w.1.1, w.1.2, ?_⟩
    have eX : gX s e = fun g => gT s g ∧ g ≠ e.toNatClampNeg := by
      funext g; unfold gX; refine propext (and_congr_right fun w => not_congr ⟨fun v => ?_, fun v => by rw [v, ofv hv]⟩)
      have := congrArg Int32.toNatClampNeg v; rw [(ofi w.1).2.1] at this; exact this
    rw [eX] at w
    rcases hk.crs ht w.1.1 w.1.2 with c | c
    · refine absurd ?_ w.2
      have c' : gC s (fun g => gT s g ∧ g ≠ e.toNatClampNeg) (gA s r.toNatClampNeg) (gB s r.toNatClampNeg) := c.mono fun g hg => hg.1
      exact ⟨fun h => h.trans c', fun h => h.trans c'.symm⟩
    · exact c.1
theorem pm_ok (hJ : Jv s) (hu : gU s e.toNatClampNeg) (hv : vi e = true) (ht : ¬ gT s e.toNatClampNeg) : vi (pmx s (sA s 1 e.toNatClampNeg) (sA s 2 e.toNatClampNeg)) = true ∧ gU s (pmx s (sA s 1 e.toNatClampNeg) (sA s 2 e.toNatClampNeg)).toNatClampNeg ∧ gR s (pmx s (sA s 1 e.toNatClampNeg) (sA s 2 e.toNatClampNeg)).toNatClampNeg < gR s e.toNatClampNeg := by
  obtain ⟨hI, hc, hk⟩ := id hJ
  have en := hI.2.1 _ (vi_cl hv)
  have nn := hI.2.2.1.2
  have ne := (hI.2.2.2.1 _ (vi_cl hv)).2 hu.2
  have ra : 0 ≤ (sA s 1 e.toNatClampNeg).toInt ∧ (sA s 1 e.toNatClampNeg).toInt < 32 := by omega
  have rb : 0 ≤ (sA s 2 e.toNatClampNeg).toInt ∧ (sA s 2 e.toNatClampNeg).toInt < 32 := by omega
  have sn := (sn_eq (X := (sA s 2 e.toNatClampNeg).toNatClampNeg) (Sr.refl (s := s)) hJ ra (by rw [cln]; omega)).2 (hk.all.1 (Cn.edge hu))
  unfold pmx; rw [if_neg sn]
  obtain ⟨n1, v1, bn⟩ := hv_bn (ex := -1) hI ra rb ne hk.fo sn
  exact ⟨v1, hk.1 _ bn.1, hk.non hu ht bn⟩
end R

section S
variable {A B : Nat → Nat} {E : Nat → Prop} {R R0 c k x : Int32} {lo hi l1 l2 : Int64} {f it X x0 j : Nat} {s s' : St}
def bt (R : Int32) (X : Nat) : Bool := R.toBitVec.getLsbD X
theorem shl1' {κ i : Nat} (h : κ < 32) : (1#32 <<< κ).getLsbD i = decide (i = κ) := by
  rw [BitVec.getLsbD_shiftLeft, BitVec.getLsbD_one, Bool.eq_iff_iff]; simp; omega
theorem bt_1 (h : 0 ≤ k.toInt ∧ k.toInt < 32) : bt ((1 : Int32) <<< (k &&& 31)) X = decide (X = k.toNatClampNeg) := by
  have key : ∀ j : Fin 32, ((1 : Int32) <<< (Int32.ofNat j.val &&& 31)).toBitVec = 1#32 <<< j.val := by decide +kernel
  have := key ⟨k.toInt.toNat, by omega⟩
  simp only at this
  rw [show Int32.ofNat k.toInt.toNat = k by rw [eq32, Int32.toInt_ofNat_of_lt (by omega)]; omega] at this
  unfold bt; rw [this, shl1' (by omega), cln]
theorem bt_or {R' : Int32} : bt (R ||| R') X = (bt R X || bt R' X) := by unfold bt; rw [Int32.toBitVec_or, BitVec.getLsbD_or]
theorem ushr_bv (h : 0 ≤ k.toInt ∧ k.toInt < 32) : (Jvm.Free.XT.ushr R k).toBitVec = R.toBitVec >>> k.toInt.toNat := by
  have key : ∀ j : Fin 32, (Int32.ofNat j.val &&& 31).toUInt32 = UInt32.ofNat j.val := by decide +kernel
  have hk := key ⟨k.toInt.toNat, by omega⟩
  simp only at hk
  rw [show Int32.ofNat k.toInt.toNat = k by rw [eq32, Int32.toInt_ofNat_of_lt (by omega)]; omega] at hk
  unfold Jvm.Free.XT.ushr
  rw [hk]
  have h32 : k.toInt.toNat < 32 := by omega
  generalize k.toInt.toNat = κ at *
  show (R.toUInt32 >>> UInt32.ofNat κ).toBitVec = _
  rw [UInt32.toBitVec_shiftRight]
  have e : (UInt32.ofNat κ).toBitVec % 32 = BitVec.ofNat 32 κ := by
    apply BitVec.eq_of_toNat_eq
    simp
    omega
  rw [e]
  apply BitVec.eq_of_toNat_eq
  simp
  rw [Nat.mod_eq_of_lt (by omega)]
theorem ush_bt (h : 0 ≤ k.toInt ∧ k.toInt < 32) : Jvm.Free.XT.ushr R k &&& 1 = 0 ↔ bt R k.toNatClampNeg = false := by
  unfold bt
  rw [← Int32.toBitVec_inj, Int32.toBitVec_and, ushr_bv h, cln]
  generalize k.toInt.toNat = κ
  constructor
  · intro e
    have := congrArg (fun v => v.getLsbD 0) e
    simpa using this
  · intro e
    apply BitVec.eq_of_getLsbD_eq
    intro i hi
    rw [BitVec.getLsbD_and]
    by_cases g : i = 0
    · subst g; simp [e]
    · have : (1 : Int32).toBitVec.getLsbD i = false := by
        rw [show (1 : Int32).toBitVec = 1#32 from rfl, BitVec.getLsbD_one]; simp [g]
      rw [this]; simp
theorem cnt_lt {f g : Nat → Bool} {x : Nat} : ∀ (k j : Nat), (∀ i, f i = true → g i = true) → j ≤ x → x < j + k → f x = false → g x = true → cnt f j k < cnt g j k
  | 0, j, _, h1, h2, _, _ => by omega
  | k + 1, j, h, h1, h2, hf, hg => by
    simp only [cnt]
    by_cases q : x = j
    · subst q; rw [hf, hg]
      have := cnt_mono (f := f) (g := g) k (x + 1) (fun i _ _ => h i)
      simp; omega
    · have := cnt_lt k (j + 1) h (by omega) (by omega) hf hg
      by_cases e : f j = true
      · rw [e, h j e]; simp; omega
      · rw [if_neg e]; split <;> omega
def Rc (A B : Nat → Nat) (E : Nat → Prop) (x0 : Nat) (R0 R c : Int32) (f : Nat) : Prop :=
  bt R x0 = true ∧ (∀ X, bt R X = true → Cn A B E x0 X) ∧ ((c = 0 ∧ R = R0 ∧ ∀ g, g < f → E g → bt R (A g) = bt R (B g)) ∨ (c = 1 ∧ cnt (bt R0) 0 32 < cnt (bt R) 0 32))
theorem Rc.skip (h : Rc A B E x0 R0 R c f) (hs : E f → bt R (A f) = bt R (B f)) : Rc A B E x0 R0 R c (f + 1) := by
  refine ⟨h.1, h.2.1, h.2.2.imp (fun w => ⟨w.1, w.2.1, fun g hg hE => ?_⟩) (fun w => w)⟩
  by_cases q : g = f
  · subst q; exact hs hE
  · exact w.2.2 g (by omega) hE
theorem Rc.set {a b : Int32} (h : Rc A B E x0 R0 R c f) (hE : E f) (ha : 0 ≤ a.toInt ∧ a.toInt < 32) (hb : 0 ≤ b.toInt ∧ b.toInt < 32) (ea : a.toNatClampNeg = A f) (eb : b.toNatClampNeg = B f) (hd : bt R (A f) ≠ bt R (B f)) :
    Rc A B E x0 R0 (R ||| ((1 : Int32) <<< (a &&& 31) ||| (1 : Int32) <<< (b &&& 31))) 1 (f + 1) := by
  have bb : ∀ X, bt (R ||| ((1 : Int32) <<< (a &&& 31) ||| (1 : Int32) <<< (b &&& 31))) X = (bt R X || (decide (X = A f) || decide (X = B f))) := fun X => by
    rw [bt_or, bt_or, bt_1 ha, bt_1 hb, ea, eb]
  have hc : Cn A B E x0 (A f) ∧ Cn A B E x0 (B f) := by
    have he : Cn A B E (A f) (B f) := Cn.edge hE
    cases q : bt R (A f) with
    | true => exact ⟨h.2.1 _ q, (h.2.1 _ q).trans he⟩
    | false =>
      have : bt R (B f) = true := by cases q2 : bt R (B f) with | true => rfl | false => exact absurd (q.trans q2.symm) hd
      exact ⟨(h.2.1 _ this).trans he.symm, h.2.1 _ this⟩
  refine ⟨by rw [bb, h.1]; rfl, fun X hX => ?_, Or.inr ⟨rfl, ?_⟩⟩
  · rw [bb, Bool.or_eq_true, Bool.or_eq_true] at hX
    rcases hX with w | w | w
    · exact h.2.1 X w
    · rw [of_decide_eq_true w]; exact hc.1
    · rw [of_decide_eq_true w]; exact hc.2
  · have lA : A f < 32 := by rw [← ea, cln]; omega
    have lB : B f < 32 := by rw [← eb, cln]; omega
    have up : cnt (bt R) 0 32 < cnt (bt (R ||| ((1 : Int32) <<< (a &&& 31) ||| (1 : Int32) <<< (b &&& 31)))) 0 32 := by
      have mo : ∀ i, bt R i = true → bt (R ||| ((1 : Int32) <<< (a &&& 31) ||| (1 : Int32) <<< (b &&& 31))) i = true := fun i hi => by rw [bb, hi]; rfl
      cases q : bt R (A f) with
      | false => exact cnt_lt 32 0 mo (Nat.zero_le _) (by omega) q (by rw [bb, decide_eq_true (show A f = A f from rfl)]; simp)
      | true =>
        have : bt R (B f) = false := by cases q2 : bt R (B f) with | false => rfl | true => exact absurd (q.trans q2.symm) hd
        exact cnt_lt 32 0 mo (Nat.zero_le _) (by omega) this (by rw [bb, decide_eq_true (show B f = B f from rfl)]; simp)
    rcases h.2.2 with w | w
    · rw [← w.2.1]; exact up
    · omega
def Ro (A B : Nat → Nat) (E : Nat → Prop) (x0 : Nat) (R c : Int32) (it : Nat) : Prop :=
  bt R x0 = true ∧ (∀ X, bt R X = true → Cn A B E x0 X) ∧ ((c = 1 ∧ it < cnt (bt R) 0 32) ∨ (c = 0 ∧ ∀ g, g < 128 → E g → bt R (A g) = bt R (B g)))
theorem Ro_0 (h : 0 ≤ k.toInt ∧ k.toInt < 32) : Ro A B E k.toNatClampNeg ((1 : Int32) <<< (k &&& 31)) 1 0 := by
  refine ⟨by rw [bt_1 h]; simp, fun X hX => by rw [bt_1 h] at hX; rw [of_decide_eq_true hX]; exact Cn.refl, Or.inl ⟨rfl, ?_⟩⟩
  have := cnt_lt (f := fun _ => false) (g := bt ((1 : Int32) <<< (k &&& 31))) (x := k.toNatClampNeg) 32 0 (fun _ h => absurd h (by simp)) (Nat.zero_le _) (by rw [cln]; omega) rfl (by rw [bt_1 h]; simp)
  omega
theorem Ro.rc (h : Ro A B E x0 R c it) : Rc A B E x0 R R 0 0 := ⟨h.1, h.2.1, Or.inl ⟨rfl, rfl, fun g hg => absurd hg (by omega)⟩⟩
theorem Rc.ro (h : Rc A B E x0 R0 R c 128) (h0 : it < cnt (bt R0) 0 32) : Ro A B E x0 R c (it + 1) := by
  refine ⟨h.1, h.2.1, ?_⟩
  rcases h.2.2 with w | w
  · exact Or.inr ⟨w.1, fun g hg hE => w.2.2 g hg hE⟩
  · exact Or.inl ⟨w.1, by omega⟩
theorem Ro.fin (h : Ro A B E x0 R c it) (hE : ∀ g, E g → g < 128) (hq : c = 0 ∨ 40 ≤ it) : ∀ X, bt R X = true ↔ Cn A B E x0 X := by
  have hc : ∀ g, E g → bt R (A g) = bt R (B g) := by
    rcases h.2.2 with w | w
    · rcases hq with q | q
      · rw [w.1] at q; exact absurd q (by decide)
      · have := cnt_le (f := bt R) 32 0; omega
    · exact fun g hg => w.2 g (hE g hg) hg
  refine fun X => ⟨h.2.1 X, fun c => (c (fun Z => bt R Z = true) fun g hg => by show bt R (A g) = true ↔ bt R (B g) = true; rw [hc g hg]).1 h.1⟩
def B2 (lo hi : Int64) (j : Nat) : Bool := if j < 64 then lo.toBitVec.getLsbD j else hi.toBitVec.getLsbD (j - 64)
theorem B2_or1 (h : 0 ≤ x.toInt ∧ x.toInt < 64) : B2 (lo ||| (1 : Int64) <<< (x.toInt64 &&& 63)) hi j = (B2 lo hi j || decide (j = x.toNatClampNeg)) := by
  unfold B2; rw [cln]
  by_cases q : j < 64
  · rw [if_pos q, if_pos q, bit_or x h]
  · rw [if_neg q, if_neg q, decide_eq_false (by omega), Bool.or_false]
theorem B2_or2 (h : 64 ≤ x.toInt ∧ x.toInt < 128) : B2 lo (hi ||| (1 : Int64) <<< ((x - 64).toInt64 &&& 63)) j = (B2 lo hi j || decide (j = x.toNatClampNeg)) := by
  have h6 : (x - 64).toInt = x.toInt - 64 := isb (by simp only [Int32.reduceToInt]; omega) (by simp only [Int32.reduceToInt]; omega)
  unfold B2; rw [cln]
  by_cases q : j < 64
  · rw [if_pos q, if_pos q, decide_eq_false (by omega), Bool.or_false]
  · rw [if_neg q, if_neg q, bit_or (x - 64) (by omega)]
    congr 1
    exact decide_eq_decide.mpr (by omega)
theorem B2_an1 (h : 0 ≤ x.toInt ∧ x.toInt < 64) : B2 (lo &&& ((1 : Int64) <<< (x.toInt64 &&& 63) ^^^ (-1))) hi j = (B2 lo hi j && !decide (j = x.toNatClampNeg)) := by
  unfold B2; rw [cln]
  by_cases q : j < 64
  · rw [if_pos q, if_pos q, Int64.toBitVec_and, Int64.toBitVec_xor, bitk x h, BitVec.getLsbD_and, BitVec.getLsbD_xor, shl1 (by omega)]
    have : (Int64.toBitVec (-1)) = BitVec.allOnes 64 := by decide
    rw [this, BitVec.getLsbD_allOnes, decide_eq_true q, Bool.xor_true]
  · rw [if_neg q, if_neg q, decide_eq_false (by omega), Bool.not_false, Bool.and_true]
theorem B2_an2 (h : 64 ≤ x.toInt ∧ x.toInt < 128) : B2 lo (hi &&& ((1 : Int64) <<< ((x - 64).toInt64 &&& 63) ^^^ (-1))) j = (B2 lo hi j && !(decide (j = x.toNatClampNeg))) ∨ 128 ≤ j := by
  have h6 : (x - 64).toInt = x.toInt - 64 := isb (by simp only [Int32.reduceToInt]; omega) (by simp only [Int32.reduceToInt]; omega)
  by_cases g : j < 128
  · left
    unfold B2; rw [cln]
    by_cases q : j < 64
    · rw [if_pos q, if_pos q, decide_eq_false (by omega), Bool.not_false, Bool.and_true]
    · rw [if_neg q, if_neg q, Int64.toBitVec_and, Int64.toBitVec_xor, bitk (x - 64) (by omega), BitVec.getLsbD_and, BitVec.getLsbD_xor, shl1 (by omega)]
      have : (Int64.toBitVec (-1)) = BitVec.allOnes 64 := by decide
      rw [this, BitVec.getLsbD_allOnes, decide_eq_true (show j - 64 < 64 by omega), Bool.xor_true]
      congr 2
      exact decide_eq_decide.mpr (by omega)
  · right; omega
theorem B2_ext (h : ∀ j, j < 128 → B2 lo hi j = B2 l1 l2 j) : lo = l1 ∧ hi = l2 := by
  constructor
  · rw [← Int64.toBitVec_inj]; apply BitVec.eq_of_getLsbD_eq; intro j hj
    have := h j (by omega); unfold B2 at this; rwa [if_pos hj, if_pos hj] at this
  · rw [← Int64.toBitVec_inj]; apply BitVec.eq_of_getLsbD_eq; intro j hj
    have := h (j + 64) (by omega); unfold B2 at this; rwa [if_neg (by omega), if_neg (by omega), Nat.add_sub_cancel] at this
theorem B2_0 : B2 0 0 j = false := by unfold B2; split <;> simp
def fpS (s : St) : Nat → Int64
  | 0 => 0
  | j + 1 => if sA s 4 j = 0 then fpS s j else fpS s j * 1000003 + (((Int32.ofNat j).toInt64 * 64 + (sA s 1 j).toInt64) * 64 + (sA s 2 j).toInt64) * 4194304 + (sA s 3 j).toInt64
theorem Sr.fp (g : Sr s s') : ∀ j, fpS s' j = fpS s j
  | 0 => rfl
  | j + 1 => by rw [fpS, fpS, Sr.fp g j, g.ar (t := 1) (by decide), g.ar (t := 2) (by decide), g.ar (t := 3) (by decide), g.ar (t := 4) (by decide)]
theorem wsm_sn {f : Nat → Bool} {w : Nat → Int64} : ∀ (k j : Nat), wsm f w j (k + 1) = wsm f w j k + (if f (j + k) = true then w (j + k) else 0)
  | 0, j => by simp only [wsm, Nat.add_zero]; rw [Int64.add_zero, Int64.zero_add]
  | k + 1, j => by
    have := wsm_sn (f := f) (w := w) k (j + 1)
    rw [wsm, this, wsm, show j + 1 + k = j + (k + 1) by omega, Int64.add_assoc]
end S

end Jvm.JX.Pj
namespace Jvm.JX.Lw
open Jvm Jvm.ClassFile Sem Op Lib Jvm.JX Jvm.JX.Pj
def lr0 : List Row := [(0, .iconst 2, 1, 0), (1, .aload_n 0, 1, 0), (2, .iconst 0, 1, 0), (3, .invokestatic 15, 3, 102), (6, .bipush 8, 2, 0), (8, .invokestatic 7, 3, 103), (11, .iadd, 1, 0), (12, .istore_n 1, 1, 0), (13, .new 19, 3, 17), (16, .dup, 1, 0), (17, .iload_n 1, 1, 0), (18, .invokespecial 21, 3, 1), (21, .astore_n 2, 1, 0), (22, .lconst 0, 1, 0), (23, .lstore_n 3, 1, 0), (24, .lconst 0, 1, 0), (25, .lstore 5, 2, 0), (27, .lconst 0, 1, 0), (28, .lstore 7, 2, 0), (30, .lconst 0, 1, 0), (31, .lstore 9, 2, 0), (33, .lconst 0, 1, 0), (34, .lstore 11, 2, 0), (36, .lconst 0, 1, 0), (37, .lstore 13, 2, 0), (39, .iconst 0, 1, 0), (40, .istore 15, 2, 0), (42, .iconst 0, 1, 0), (43, .istore 16, 2, 0), (45, .iconst 0, 1, 0), (46, .istore 17, 2, 0), (48, .iconst 0, 1, 0), (49, .istore 18, 2, 0), (51, .iconst 0, 1, 0), (52, .istore 19, 2, 0), (54, .bipush (-3), 2, 0), (56, .istore 20, 2, 0), (58, .iload 20, 2, 0), (60, .aload_n 0, 1, 0), (61, .arraylength, 1, 0), (62, .if_icmp .ge 1381, 3, 0), (65, .iload 20, 2, 0), (67, .iconst 1, 1, 0), (68, .if_icmp .lt 7, 3, 0), (71, .iconst 1, 1, 0), (72, .goto 4, 3, 0), (75, .iconst 0, 1, 0), (76, .istore 21, 2, 0), (78, .iconst 1, 1, 0), (79, .istore 22, 2, 0), (81, .iload 21, 2, 0), (83, .ifCond .eq 264, 3, 0), (86, .aload_n 0, 1, 0), (87, .iload 20, 2, 0), (89, .invokestatic 15, 3, 102), (92, .bipush 8, 2, 0), (94, .invokestatic 7, 3, 103), (97, .istore 23, 2, 0), (99, .aload_n 0, 1, 0), (100, .iload 20, 2, 0), (102, .iconst 1, 1, 0), (103, .iadd, 1, 0), (104, .invokestatic 15, 3, 102), (107, .istore 24, 2, 0), (109, .aload_n 0, 1, 0), (110, .iload 20, 2, 0), (112, .iconst 2, 1, 0), (113, .iadd, 1, 0), (114, .invokestatic 15, 3, 102), (117, .istore 25, 2, 0), (119, .aload_n 0, 1, 0), (120, .iload 20, 2, 0), (122, .iconst 3, 1, 0), (123, .iadd, 1, 0), (124, .invokestatic 15, 3, 102), (127, .istore 26, 2, 0), (129, .iload 23, 2, 0), (131, .iconst 2, 1, 0), (132, .if_icmp .gt 37, 3, 0), (135, .aload_n 2, 1, 0), (136, .iload 24, 2, 0), (138, .iload_n 1, 1, 0), (139, .invokestatic 7, 3, 103), (142, .iload 25, 2, 0), (144, .iload_n 1, 1, 0), (145, .invokestatic 7, 3, 103), (148, .iload 26, 2, 0), (150, .invokestatic 24, 3, 104), (153, .invokevirtual 28, 3, 2), (156, .ifCond .lt 7, 3, 0), (159, .iconst 1, 1, 0), (160, .goto 4, 3, 0), (163, .iconst 0, 1, 0), (164, .istore 22, 2, 0), (166, .goto 181, 3, 0), (169, .iload 23, 2, 0), (171, .iconst 3, 1, 0), (172, .if_icmp .ne 52, 3, 0), (175, .aload_n 2, 1, 0), (176, .iload 24, 2, 0), (178, .iconst 2, 1, 0), (179, .invokestatic 7, 3, 103), (182, .ifCond .ne 7, 3, 0), (185, .iconst (-1), 1, 0), (186, .goto 11, 3, 0), (189, .iload_n 1, 1, 0), (190, .iload 24, 2, 0), (192, .iconst 3, 1, 0), (193, .invokestatic 7, 3, 103), (196, .iadd, 1, 0), (197, .iload 25, 2, 0), (199, .iload_n 1, 1, 0), (200, .invokestatic 7, 3, 103), (203, .iload 26, 2, 0), (205, .invokestatic 24, 3, 104), (208, .invokevirtual 28, 3, 2), (211, .ifCond .lt 7, 3, 0), (214, .iconst 1, 1, 0), (215, .goto 4, 3, 0), (218, .iconst 0, 1, 0), (219, .istore 22, 2, 0), (221, .goto 126, 3, 0), (224, .aload_n 2, 1, 0), (225, .invokevirtual 32, 3, 9), (228, .istore 27, 2, 0), (230, .iconst (-1), 1, 0), (231, .istore 28, 2, 0), (233, .iload 27, 2, 0), (235, .ifCond .le 12, 3, 0), (238, .iload 25, 2, 0), (240, .iconst 5, 1, 0), (241, .invokestatic 7, 3, 103), (244, .ifCond .ne 18, 3, 0), (247, .iload 24, 2, 0), (249, .sipush 136, 3, 0), (252, .invokestatic 7, 3, 103), (255, .iconst 4, 1, 0), (256, .isub, 1, 0), (257, .istore 28, 2, 0), (259, .goto 58, 3, 0), (262, .iload 24, 2, 0), (264, .iload 27, 2, 0), (266, .invokestatic 7, 3, 103), (269, .istore 29, 2, 0), (271, .iconst 0, 1, 0), (272, .istore 30, 2, 0), (274, .iload 30, 2, 0), (276, .sipush 128, 3, 0), (279, .if_icmp .ge 38, 3, 0), (282, .iload 28, 2, 0), (284, .ifCond .ge 33, 3, 0), (287, .aload_n 2, 1, 0), (288, .iload 30, 2, 0), (290, .invokevirtual 36, 3, 5), (293, .ifCond .eq 18, 3, 0), (296, .iload 29, 2, 0), (298, .ifCond .ne 10, 3, 0), (301, .iload 30, 2, 0), (303, .istore 28, 2, 0), (305, .goto 6, 3, 0), (308, .iinc 29 (-1), 3, 0), (311, .iinc 30 1, 3, 0), (314, .goto (-40), 3, 0), (317, .iload 23, 2, 0), (319, .iconst 5, 1, 0), (320, .if_icmp .gt 14, 3, 0), (323, .aload_n 2, 1, 0), (324, .iload 28, 2, 0), (326, .invokevirtual 40, 3, 3), (329, .istore 22, 2, 0), (331, .goto 16, 3, 0), (334, .aload_n 2, 1, 0), (335, .iload 28, 2, 0), (337, .iload 26, 2, 0), (339, .invokestatic 24, 3, 104), (342, .invokevirtual 43, 3, 4), (345, .istore 22, 2, 0), (347, .lconst 0, 1, 0), (348, .lstore 23, 2, 0), (350, .lconst 0, 1, 0), (351, .lstore 25, 2, 0), (353, .lconst 0, 1, 0), (354, .lstore 27, 2, 0), (356, .lconst 0, 1, 0), (357, .lstore 29, 2, 0), (359, .lconst 0, 1, 0), (360, .lstore 31, 2, 0), (362, .lconst 0, 1, 0), (363, .lstore 33, 2, 0), (365, .lconst 0, 1, 0), (366, .lstore 35, 2, 0), (368, .lconst 0, 1, 0), (369, .lstore 37, 2, 0), (371, .iconst 0, 1, 0), (372, .istore 39, 2, 0), (374, .iload 39, 2, 0), (376, .sipush 128, 3, 0), (379, .if_icmp .ge 469, 3, 0), (382, .aload_n 2, 1, 0), (383, .iload 39, 2, 0), (385, .invokevirtual 47, 3, 6), (388, .istore 40, 2, 0), (390, .iload 40, 2, 0), (392, .ifCond .eq 34, 3, 0), (395, .iload 39, 2, 0), (397, .bipush 64, 2, 0), (399, .if_icmp .ge 15, 3, 0), (402, .lload 23, 2, 0), (404, .lconst 1, 1, 0), (405, .iload 39, 2, 0), (407, .lshl, 1, 0), (408, .lor, 1, 0), (409, .lstore 23, 2, 0), (411, .goto 15, 3, 0), (414, .lload 25, 2, 0), (416, .lconst 1, 1, 0), (417, .iload 39, 2, 0), (419, .bipush 64, 2, 0), (421, .isub, 1, 0), (422, .lshl, 1, 0), (423, .lor, 1, 0), (424, .lstore 25, 2, 0), (426, .aload_n 2, 1, 0), (427, .iload 39, 2, 0), (429, .invokevirtual 36, 3, 5), (432, .ifCond .ne 6, 3, 0), (435, .goto 407, 3, 0), (438, .iload 39, 2, 0), (440, .bipush 64, 2, 0), (442, .if_icmp .ge 15, 3, 0), (445, .lload 27, 2, 0), (447, .lconst 1, 1, 0), (448, .iload 39, 2, 0), (450, .lshl, 1, 0), (451, .lor, 1, 0), (452, .lstore 27, 2, 0), (454, .goto 15, 3, 0), (457, .lload 29, 2, 0), (459, .lconst 1, 1, 0), (460, .iload 39, 2, 0), (462, .bipush 64, 2, 0), (464, .isub, 1, 0), (465, .lshl, 1, 0), (466, .lor, 1, 0), (467, .lstore 29, 2, 0), (469, .aload_n 2, 1, 0), (470, .iload 39, 2, 0), (472, .iconst 0, 1, 0), (473, .invokevirtual 50, 3, 7), (476, .istore 41, 2, 0), (478, .aload_n 2, 1, 0), (479, .iload 39, 2, 0), (481, .iconst 1, 1, 0), (482, .invokevirtual 50, 3, 7), (485, .istore 42, 2, 0), (487, .aload_n 2, 1, 0), (488, .iload 39, 2, 0), (490, .invokevirtual 53, 3, 8), (493, .istore 43, 2, 0), (495, .lload 35, 2, 0), (497, .ldc2_w 56, 3, 1000003), (500, .lmul, 1, 0), (501, .iload 39, 2, 0), (503, .i2l, 1, 0), (504, .ldc2_w 58, 3, 64), (507, .lmul, 1, 0), (508, .iload 41, 2, 0), (510, .i2l, 1, 0), (511, .ladd, 1, 0), (512, .ldc2_w 58, 3, 64), (515, .lmul, 1, 0), (516, .iload 42, 2, 0), (518, .i2l, 1, 0), (519, .ladd, 1, 0), (520, .ldc2_w 60, 3, 4194304), (523, .lmul, 1, 0), (524, .ladd, 1, 0), (525, .iload 43, 2, 0), (527, .i2l, 1, 0), (528, .ladd, 1, 0), (529, .lstore 35, 2, 0), (531, .iconst 1, 1, 0), (532, .iload 41, 2, 0), (534, .ishl, 1, 0), (535, .istore 44, 2, 0), (537, .iconst 1, 1, 0), (538, .istore 45, 2, 0), (540, .iconst 0, 1, 0), (541, .istore 46, 2, 0), (543, .iload 46, 2, 0), (545, .bipush 40, 2, 0), (547, .if_icmp .ge 150, 3, 0), (550, .iload 45, 2, 0), (552, .ifCond .eq 145, 3, 0), (555, .iconst 0, 1, 0), (556, .istore 45, 2, 0), (558, .iconst 0, 1, 0), (559, .istore 47, 2, 0), (561, .iload 47, 2, 0), (563, .sipush 128, 3, 0), (566, .if_icmp .ge 125, 3, 0), (569, .iload 47, 2, 0), (571, .iload 39, 2, 0), (573, .if_icmp .eq 112, 3, 0), (576, .aload_n 2, 1, 0), (577, .iload 47, 2, 0), (579, .invokevirtual 36, 3, 5), (582, .ifCond .ne 6, 3, 0), (585, .goto 100, 3, 0), (588, .aload_n 2, 1, 0), (589, .iload 47, 2, 0), (591, .invokevirtual 53, 3, 8), (594, .iload 47, 2, 0), (596, .iload 43, 2, 0), (598, .iload 39, 2, 0), (600, .invokestatic 62, 3, 105), (603, .ifCond .ne 6, 3, 0), (606, .goto 79, 3, 0), (609, .aload_n 2, 1, 0), (610, .iload 47, 2, 0), (612, .iconst 0, 1, 0), (613, .invokevirtual 50, 3, 7), (616, .istore 48, 2, 0), (618, .aload_n 2, 1, 0), (619, .iload 47, 2, 0), (621, .iconst 1, 1, 0), (622, .invokevirtual 50, 3, 7), (625, .istore 49, 2, 0), (627, .iload 44, 2, 0), (629, .iload 48, 2, 0), (631, .iushr, 1, 0), (632, .iconst 1, 1, 0), (633, .iand, 1, 0), (634, .ifCond .eq 7, 3, 0), (637, .iconst 1, 1, 0), (638, .goto 4, 3, 0), (641, .iconst 0, 1, 0), (642, .istore 50, 2, 0), (644, .iload 44, 2, 0), (646, .iload 49, 2, 0), (648, .iushr, 1, 0), (649, .iconst 1, 1, 0), (650, .iand, 1, 0), (651, .ifCond .eq 7, 3, 0), (654, .iconst 1, 1, 0), (655, .goto 4, 3, 0), (658, .iconst 0, 1, 0), (659, .istore 51, 2, 0), (661, .iload 50, 2, 0), (663, .iload 51, 2, 0), (665, .if_icmp .eq 20, 3, 0), (668, .iload 44, 2, 0), (670, .iconst 1, 1, 0), (671, .iload 48, 2, 0), (673, .ishl, 1, 0), (674, .iconst 1, 1, 0), (675, .iload 49, 2, 0), (677, .ishl, 1, 0), (678, .ior, 1, 0), (679, .ior, 1, 0), (680, .istore 44, 2, 0), (682, .iconst 1, 1, 0), (683, .istore 45, 2, 0), (685, .iinc 47 1, 3, 0), (688, .goto (-127), 3, 0), (691, .iinc 46 1, 3, 0), (694, .goto (-151), 3, 0), (697, .iload 44, 2, 0), (699, .iload 42, 2, 0), (701, .iushr, 1, 0), (702, .iconst 1, 1, 0), (703, .iand, 1, 0), (704, .ifCond .ne 42, 3, 0), (707, .iload 39, 2, 0), (709, .bipush 64, 2, 0), (711, .if_icmp .ge 15, 3, 0), (714, .lload 31, 2, 0), (716, .lconst 1, 1, 0), (717, .iload 39, 2, 0), (719, .lshl, 1, 0), (720, .lor, 1, 0), (721, .lstore 31, 2, 0), (723, .goto 15, 3, 0), (726, .lload 33, 2, 0), (728, .lconst 1, 1, 0), (729, .iload 39, 2, 0), (731, .bipush 64, 2, 0), (733, .isub, 1, 0), (734, .lshl, 1, 0), (735, .lor, 1, 0), (736, .lstore 33, 2, 0), (738, .lload 37, 2, 0), (740, .iload 43, 2, 0), (742, .i2l, 1, 0), (743, .ladd, 1, 0), (744, .lstore 37, 2, 0), (746, .iload 40, 2, 0), (748, .ifCond .ne 42, 3, 0), (751, .aload_n 2, 1, 0), (752, .iload 41, 2, 0), (754, .iload 42, 2, 0), (756, .invokevirtual 66, 3, 14), (759, .istore 46, 2, 0), (761, .iload 46, 2, 0), (763, .iconst (-1), 1, 0), (764, .if_icmp .eq 21, 3, 0), (767, .aload_n 2, 1, 0), (768, .iload 46, 2, 0), (770, .invokevirtual 53, 3, 8), (773, .iload 46, 2, 0), (775, .iload 43, 2, 0), (777, .iload 39, 2, 0), (779, .invokestatic 62, 3, 105), (782, .ifCond .ne 5, 3, 0), (785, .iconst 0, 1, 0), (786, .ireturn, 1, 0), (787, .goto 55, 3, 0), (790, .aload_n 2, 1, 0), (791, .iload 39, 2, 0), (793, .invokevirtual 69, 3, 15), (796, .istore 46, 2, 0), (798, .iload 46, 2, 0), (800, .iconst (-1), 1, 0), (801, .if_icmp .eq 41, 3, 0), (804, .aload_n 2, 1, 0), (805, .iload 46, 2, 0), (807, .invokevirtual 36, 3, 5), (810, .ifCond .eq 30, 3, 0), (813, .aload_n 2, 1, 0), (814, .iload 46, 2, 0), (816, .invokevirtual 47, 3, 6), (819, .ifCond .ne 21, 3, 0), (822, .aload_n 2, 1, 0), (823, .iload 46, 2, 0), (825, .invokevirtual 53, 3, 8), (828, .iload 46, 2, 0), (830, .iload 43, 2, 0), (832, .iload 39, 2, 0), (834, .invokestatic 62, 3, 105), (837, .ifCond .eq 5, 3, 0), (840, .iconst 0, 1, 0), (841, .ireturn, 1, 0), (842, .iinc 39 1, 3, 0), (845, .goto (-471), 3, 0), (848, .lload 23, 2, 0), (850, .lload 31, 2, 0), (852, .lcmp, 1, 0), (853, .ifCond .ne 21, 3, 0), (856, .lload 25, 2, 0), (858, .lload 33, 2, 0), (860, .lcmp, 1, 0), (861, .ifCond .ne 13, 3, 0), (864, .aload_n 2, 1, 0), (865, .invokevirtual 72, 3, 10), (868, .lload 37, 2, 0), (870, .lcmp, 1, 0), (871, .ifCond .eq 5, 3, 0), (874, .iconst 0, 1, 0), (875, .ireturn, 1, 0), (876, .aload_n 2, 1, 0), (877, .invokevirtual 76, 3, 11), (880, .iload_n 1, 1, 0), (881, .aload_n 2, 1, 0), (882, .invokevirtual 79, 3, 12), (885, .isub, 1, 0), (886, .if_icmp .eq 5, 3, 0), (889, .iconst 0, 1, 0), (890, .ireturn, 1, 0), (891, .iconst 0, 1, 0), (892, .istore 39, 2, 0), (894, .iload 39, 2, 0), (896, .iload_n 1, 1, 0), (897, .if_icmp .ge 202, 3, 0), (900, .iconst 1, 1, 0), (901, .iload 39, 2, 0), (903, .ishl, 1, 0), (904, .istore 40, 2, 0), (906, .iconst 1, 1, 0), (907, .istore 41, 2, 0), (909, .iconst 0, 1, 0), (910, .istore 42, 2, 0), (912, .iload 42, 2, 0), (914, .bipush 40, 2, 0), (916, .if_icmp .ge 122, 3, 0), (919, .iload 41, 2, 0), (921, .ifCond .eq 117, 3, 0), (924, .iconst 0, 1, 0), (925, .istore 41, 2, 0), (927, .iconst 0, 1, 0), (928, .istore 43, 2, 0), (930, .iload 43, 2, 0), (932, .sipush 128, 3, 0), (935, .if_icmp .ge 97, 3, 0), (938, .aload_n 2, 1, 0), (939, .iload 43, 2, 0), (941, .invokevirtual 36, 3, 5), (944, .ifCond .ne 6, 3, 0), (947, .goto 79, 3, 0), (950, .aload_n 2, 1, 0), (951, .iload 43, 2, 0), (953, .iconst 0, 1, 0), (954, .invokevirtual 50, 3, 7), (957, .istore 44, 2, 0), (959, .aload_n 2, 1, 0), (960, .iload 43, 2, 0), (962, .iconst 1, 1, 0), (963, .invokevirtual 50, 3, 7), (966, .istore 45, 2, 0), (968, .iload 40, 2, 0), (970, .iload 44, 2, 0), (972, .iushr, 1, 0), (973, .iconst 1, 1, 0), (974, .iand, 1, 0), (975, .ifCond .eq 7, 3, 0), (978, .iconst 1, 1, 0), (979, .goto 4, 3, 0), (982, .iconst 0, 1, 0), (983, .istore 46, 2, 0), (985, .iload 40, 2, 0), (987, .iload 45, 2, 0), (989, .iushr, 1, 0), (990, .iconst 1, 1, 0), (991, .iand, 1, 0), (992, .ifCond .eq 7, 3, 0), (995, .iconst 1, 1, 0), (996, .goto 4, 3, 0), (999, .iconst 0, 1, 0), (1000, .istore 47, 2, 0), (1002, .iload 46, 2, 0), (1004, .iload 47, 2, 0), (1006, .if_icmp .eq 20, 3, 0), (1009, .iload 40, 2, 0), (1011, .iconst 1, 1, 0), (1012, .iload 44, 2, 0), (1014, .ishl, 1, 0), (1015, .iconst 1, 1, 0), (1016, .iload 45, 2, 0), (1018, .ishl, 1, 0), (1019, .ior, 1, 0), (1020, .ior, 1, 0), (1021, .istore 40, 2, 0), (1023, .iconst 1, 1, 0), (1024, .istore 41, 2, 0), (1026, .iinc 43 1, 3, 0), (1029, .goto (-99), 3, 0), (1032, .iinc 42 1, 3, 0), (1035, .goto (-123), 3, 0), (1038, .iconst 0, 1, 0), (1039, .istore 42, 2, 0), (1041, .iload 42, 2, 0), (1043, .iload_n 1, 1, 0), (1044, .if_icmp .ge 49, 3, 0), (1047, .aload_n 2, 1, 0), (1048, .iload 39, 2, 0), (1050, .invokevirtual 82, 3, 13), (1053, .aload_n 2, 1, 0), (1054, .iload 42, 2, 0), (1056, .invokevirtual 82, 3, 13), (1059, .if_icmp .ne 7, 3, 0), (1062, .iconst 1, 1, 0), (1063, .goto 4, 3, 0), (1066, .iconst 0, 1, 0), (1067, .iload 40, 2, 0), (1069, .iload 42, 2, 0), (1071, .iushr, 1, 0), (1072, .iconst 1, 1, 0), (1073, .iand, 1, 0), (1074, .ifCond .eq 7, 3, 0), (1077, .iconst 1, 1, 0), (1078, .goto 4, 3, 0), (1081, .iconst 0, 1, 0), (1082, .if_icmp .eq 5, 3, 0), (1085, .iconst 0, 1, 0), (1086, .ireturn, 1, 0), (1087, .iinc 42 1, 3, 0), (1090, .goto (-49), 3, 0), (1093, .iinc 39 1, 3, 0), (1096, .goto (-202), 3, 0), (1099, .aload_n 2, 1, 0), (1100, .invokevirtual 32, 3, 9), (1103, .istore 39, 2, 0), (1105, .aload_n 2, 1, 0), (1106, .invokevirtual 79, 3, 12), (1109, .istore 40, 2, 0), (1111, .aload_n 2, 1, 0), (1112, .invokevirtual 76, 3, 11), (1115, .istore 41, 2, 0), (1117, .aload_n 2, 1, 0), (1118, .invokevirtual 85, 3, 16), (1121, .istore 42, 2, 0), (1123, .aload_n 2, 1, 0), (1124, .invokevirtual 88, 3, 17), (1127, .istore 43, 2, 0), (1129, .aload_n 2, 1, 0), (1130, .invokevirtual 72, 3, 10), (1133, .lstore 44, 2, 0), (1135, .iload 21, 2, 0), (1137, .ifCond .eq 168, 3, 0), (1140, .iload 22, 2, 0), (1142, .ifCond .eq 163, 3, 0), (1145, .lload_n 3, 1, 0), (1146, .lstore 46, 2, 0), (1148, .lload 5, 2, 0), (1150, .lstore 48, 2, 0), (1152, .iload 43, 2, 0), (1154, .iconst (-1), 1, 0), (1155, .if_icmp .eq 67, 3, 0), (1158, .iload 43, 2, 0), (1160, .ifCond .lt 21, 3, 0), (1163, .iload 43, 2, 0), (1165, .bipush 127, 2, 0), (1167, .if_icmp .gt 14, 3, 0), (1170, .lload_n 3, 1, 0), (1171, .lload 5, 2, 0), (1173, .iload 43, 2, 0), (1175, .invokestatic 91, 3, 106), (1178, .ifCond .ne 5, 3, 0), (1181, .iconst 0, 1, 0), (1182, .ireturn, 1, 0), (1183, .iload 43, 2, 0), (1185, .bipush 64, 2, 0), (1187, .if_icmp .ge 19, 3, 0), (1190, .lload 46, 2, 0), (1192, .lconst 1, 1, 0), (1193, .iload 43, 2, 0), (1195, .lshl, 1, 0), (1196, .ldc2_w 95, 3, (-1)), (1199, .lxor, 1, 0), (1200, .land, 1, 0), (1201, .lstore 46, 2, 0), (1203, .goto 19, 3, 0), (1206, .lload 48, 2, 0), (1208, .lconst 1, 1, 0), (1209, .iload 43, 2, 0), (1211, .bipush 64, 2, 0), (1213, .isub, 1, 0), (1214, .lshl, 1, 0), (1215, .ldc2_w 95, 3, (-1)), (1218, .lxor, 1, 0), (1219, .land, 1, 0), (1220, .lstore 48, 2, 0), (1222, .iload 42, 2, 0), (1224, .iconst (-1), 1, 0), (1225, .if_icmp .eq 59, 3, 0), (1228, .iload 42, 2, 0), (1230, .ifCond .lt 21, 3, 0), (1233, .iload 42, 2, 0), (1235, .bipush 127, 2, 0), (1237, .if_icmp .gt 14, 3, 0), (1240, .lload_n 3, 1, 0), (1241, .lload 5, 2, 0), (1243, .iload 42, 2, 0), (1245, .invokestatic 91, 3, 106), (1248, .ifCond .eq 5, 3, 0), (1251, .iconst 0, 1, 0), (1252, .ireturn, 1, 0), (1253, .iload 42, 2, 0), (1255, .bipush 64, 2, 0), (1257, .if_icmp .ge 15, 3, 0), (1260, .lload 46, 2, 0), (1262, .lconst 1, 1, 0), (1263, .iload 42, 2, 0), (1265, .lshl, 1, 0), (1266, .lor, 1, 0), (1267, .lstore 46, 2, 0), (1269, .goto 15, 3, 0), (1272, .lload 48, 2, 0), (1274, .lconst 1, 1, 0), (1275, .iload 42, 2, 0), (1277, .bipush 64, 2, 0), (1279, .isub, 1, 0), (1280, .lshl, 1, 0), (1281, .lor, 1, 0), (1282, .lstore 48, 2, 0), (1284, .lload 46, 2, 0), (1286, .lload 23, 2, 0), (1288, .lcmp, 1, 0), (1289, .ifCond .ne 11, 3, 0), (1292, .lload 48, 2, 0), (1294, .lload 25, 2, 0), (1296, .lcmp, 1, 0), (1297, .ifCond .eq 5, 3, 0), (1300, .iconst 0, 1, 0), (1301, .ireturn, 1, 0), (1302, .goto 92, 3, 0), (1305, .iload 21, 2, 0), (1307, .ifCond .eq 87, 3, 0), (1310, .lload 23, 2, 0), (1312, .lload_n 3, 1, 0), (1313, .lcmp, 1, 0), (1314, .ifCond .ne 78, 3, 0), (1317, .lload 25, 2, 0), (1319, .lload 5, 2, 0), (1321, .lcmp, 1, 0), (1322, .ifCond .ne 70, 3, 0), (1325, .lload 27, 2, 0), (1327, .lload 7, 2, 0), (1329, .lcmp, 1, 0), (1330, .ifCond .ne 62, 3, 0), (1333, .lload 29, 2, 0), (1335, .lload 9, 2, 0), (1337, .lcmp, 1, 0), (1338, .ifCond .ne 54, 3, 0), (1341, .lload 35, 2, 0), (1343, .lload 11, 2, 0), (1345, .lcmp, 1, 0), (1346, .ifCond .ne 46, 3, 0), (1349, .lload 44, 2, 0), (1351, .lload 13, 2, 0), (1353, .lcmp, 1, 0), (1354, .ifCond .ne 38, 3, 0), (1357, .iload 39, 2, 0), (1359, .iload 15, 2, 0), (1361, .if_icmp .ne 31, 3, 0), (1364, .iload 40, 2, 0), (1366, .iload 16, 2, 0), (1368, .if_icmp .ne 24, 3, 0), (1371, .iload 41, 2, 0), (1373, .iload 17, 2, 0), (1375, .if_icmp .ne 17, 3, 0), (1378, .iload 42, 2, 0), (1380, .iload 18, 2, 0), (1382, .if_icmp .ne 10, 3, 0), (1385, .iload 43, 2, 0), (1387, .iload 19, 2, 0), (1389, .if_icmp .eq 5, 3, 0), (1392, .iconst 0, 1, 0), (1393, .ireturn, 1, 0), (1394, .lload 23, 2, 0), (1396, .lstore_n 3, 1, 0), (1397, .lload 25, 2, 0), (1399, .lstore 5, 2, 0), (1401, .lload 27, 2, 0), (1403, .lstore 7, 2, 0), (1405, .lload 29, 2, 0), (1407, .lstore 9, 2, 0), (1409, .lload 35, 2, 0), (1411, .lstore 11, 2, 0), (1413, .lload 44, 2, 0), (1415, .lstore 13, 2, 0), (1417, .iload 39, 2, 0), (1419, .istore 15, 2, 0), (1421, .iload 40, 2, 0), (1423, .istore 16, 2, 0), (1425, .iload 41, 2, 0), (1427, .istore 17, 2, 0), (1429, .iload 42, 2, 0), (1431, .istore 18, 2, 0), (1433, .iload 43, 2, 0), (1435, .istore 19, 2, 0), (1437, .iinc 20 4, 3, 0), (1440, .goto (-1382), 3, 0), (1443, .iconst 1, 1, 0), (1444, .ireturn, 1, 0)]
def lr2 : List Row := [(0, .iload_n 1, 1, 0), (1, .aload_n 0, 1, 0), (2, .arraylength, 1, 0), (3, .if_icmp .ge 9, 3, 0), (6, .aload_n 0, 1, 0), (7, .iload_n 1, 1, 0), (8, .iaload, 1, 0), (9, .goto 4, 3, 0), (12, .iconst 0, 1, 0), (13, .ireturn, 1, 0)]
def lr3 : List Row := [(0, .iload_n 0, 1, 0), (1, .iload_n 1, 1, 0), (2, .irem, 1, 0), (3, .istore_n 2, 1, 0), (4, .iload_n 2, 1, 0), (5, .ifCond .ge 9, 3, 0), (8, .iload_n 2, 1, 0), (9, .iload_n 1, 1, 0), (10, .iadd, 1, 0), (11, .goto 4, 3, 0), (14, .iload_n 2, 1, 0), (15, .ireturn, 1, 0)]
def lr4 : List Row := [(0, .iload_n 0, 1, 0), (1, .bipush 40, 2, 0), (3, .invokestatic 7, 3, 103), (6, .istore_n 1, 1, 0), (7, .iload_n 1, 1, 0), (8, .bipush 38, 2, 0), (10, .if_icmp .ne 6, 3, 0), (13, .ldc 13, 2, 3000000), (15, .ireturn, 1, 0), (16, .iload_n 1, 1, 0), (17, .bipush 39, 2, 0), (19, .if_icmp .ne 6, 3, 0), (22, .ldc 14, 2, (-3000000)), (24, .ireturn, 1, 0), (25, .iload_n 0, 1, 0), (26, .bipush 9, 2, 0), (28, .invokestatic 7, 3, 103), (31, .iconst 4, 1, 0), (32, .isub, 1, 0), (33, .ireturn, 1, 0)]
def lr5 : List Row := [(0, .iload_n 0, 1, 0), (1, .iload_n 2, 1, 0), (2, .if_icmp .lt 13, 3, 0), (5, .iload_n 0, 1, 0), (6, .iload_n 2, 1, 0), (7, .if_icmp .ne 12, 3, 0), (10, .iload_n 1, 1, 0), (11, .iload_n 3, 1, 0), (12, .if_icmp .ge 7, 3, 0), (15, .iconst 1, 1, 0), (16, .goto 4, 3, 0), (19, .iconst 0, 1, 0), (20, .ireturn, 1, 0)]
def lr6 : List Row := [(0, .iload 4, 2, 0), (2, .bipush 64, 2, 0), (4, .if_icmp .ge 22, 3, 0), (7, .lload_n 0, 1, 0), (8, .iload 4, 2, 0), (10, .lushr, 1, 0), (11, .lconst 1, 1, 0), (12, .land, 1, 0), (13, .lconst 0, 1, 0), (14, .lcmp, 1, 0), (15, .ifCond .eq 7, 3, 0), (18, .iconst 1, 1, 0), (19, .goto 26, 3, 0), (22, .iconst 0, 1, 0), (23, .goto 22, 3, 0), (26, .lload_n 2, 1, 0), (27, .iload 4, 2, 0), (29, .bipush 64, 2, 0), (31, .isub, 1, 0), (32, .lushr, 1, 0), (33, .lconst 1, 1, 0), (34, .land, 1, 0), (35, .lconst 0, 1, 0), (36, .lcmp, 1, 0), (37, .ifCond .eq 7, 3, 0), (40, .iconst 1, 1, 0), (41, .goto 4, 3, 0), (44, .iconst 0, 1, 0), (45, .ireturn, 1, 0)]
def lrows : List (List Row) := [lr0, [], lr2, lr3, lr4, lr5, lr6]
def linfo : List MInfo := [(1, 52, 9, some .boolean, { frames := 8, cells := 32, slots := 3776, locals := 192 }), (0, 0, 9, none, {}), (2, 2, 0, some .int, { frames := 0, cells := 0, slots := 0, locals := 0 }), (2, 3, 0, some .int, { frames := 0, cells := 0, slots := 0, locals := 0 }), (1, 2, 0, some .int, { frames := 1, cells := 0, slots := 0, locals := 14 }), (4, 4, 0, some .boolean, { frames := 0, cells := 0, slots := 0, locals := 0 }), (3, 5, 0, some .boolean, { frames := 0, cells := 0, slots := 0, locals := 0 })]
def lw : LW := (fun j pc => (lrows.getD j []).lookup pc, fun j => linfo.getD j (0, 0, 9, none, {}))
section LPc
variable {L : List Slot} {S : List Value} {k n : Nat} {H : AH} {Q : Option Value → AH → Prop}
theorem c100 {x0 : Nat} : Cl (pj lw) 100 [.ref x0] H Q ↔ W (pj lw) 100 0 [.val (.ref x0), .unset, .unset, .unset, .unset, .unset, .unset, .unset, .unset, .unset, .unset, .unset, .unset, .unset, .unset, .unset, .unset, .unset, .unset, .unset, .unset, .unset, .unset, .unset, .unset, .unset, .unset, .unset, .unset, .unset, .unset, .unset, .unset, .unset, .unset, .unset, .unset, .unset, .unset, .unset, .unset, .unset, .unset, .unset, .unset, .unset, .unset, .unset, .unset, .unset, .unset, .unset] [] 0 0 H Q := cl_unf rfl
theorem w100_0 : EW lw 100 0 1 L S (.int 2::S) := ES rfl
theorem w100_1 : EW lw 100 1 2 (.val (.ref x)::L) S (.ref x::S) := ES rfl
theorem w100_2 : EW lw 100 2 3 L S (.int 0::S) := ES rfl
theorem w100_3 : W (pj lw) 100 3 L (.int x1::.ref x0::S) k n H Q ↔ (cs S + (2 + 11) + 0 ≤ 192 ∧ Cl (pj lw) 102 [.ref x0, .int x1] H (fun v H => W (pj lw) 100 6 L (v.toList ++ S) k n H Q)) := W_stat (a := [.ref x0, .int x1]) (rfl : (pj lw).1 100 3 = some (.invokestatic 15, 3, 102)) rfl rfl rfl (Nat.le_of_ble_eq_true rfl) (Nat.le_of_ble_eq_true rfl) ⟨rfl, rfl⟩
theorem w100_6 : EW lw 100 6 8 L S (.int 8::S) := ES rfl
theorem w100_8 : W (pj lw) 100 8 L (.int x1::.int x0::S) k n H Q ↔ (cs S + (3 + 11) + 0 ≤ 192 ∧ Cl (pj lw) 103 [.int x0, .int x1] H (fun v H => W (pj lw) 100 11 L (v.toList ++ S) k n H Q)) := W_stat (a := [.int x0, .int x1]) (rfl : (pj lw).1 100 8 = some (.invokestatic 7, 3, 103)) rfl rfl rfl (Nat.le_of_ble_eq_true rfl) (Nat.le_of_ble_eq_true rfl) ⟨rfl, rfl⟩
theorem w100_11 : EW lw 100 11 12 L (.int y::.int x::S) (.int (x + y)::S) := ES rfl
theorem w100_12 : W (pj lw) 100 12 (a::.unset::L) (.int x::S) k n H Q ↔ W (pj lw) 100 13 (a::.val (.int x)::L) S k n H Q := W_istn (rfl : (pj lw).1 100 12 = some (.istore_n 1, 1, 0)) rfl rfl
theorem w100_13 : W (pj lw) 100 13 L S k n H Q ↔ ((k + 1 ≤ 32 ∧ n + 17 ≤ 3776) ∧ W (pj lw) 100 16 L (.ref H.1::S) (k + 1) (n + 17) (mkO (pj lw) H) Q) := W_new' (rfl : (pj lw).1 100 13 = some (.new 19, 3, 17)) (by decide)
theorem w100_16 : EW lw 100 16 17 L (.ref x::S) (.ref x::.ref x::S) := ES rfl
theorem w100_17 : EW lw 100 17 18 (a::.val (.int x)::L) S (.int x::S) := ES rfl
theorem w100_18 : W (pj lw) 100 18 L (.int x0::.ref a::S) k n H Q ↔ ((isO H a = true ∧ cs S + (4 + 11) + 13 ≤ 192 ∧ k + 11 ≤ 32 ∧ n + 1824 ≤ 3776) ∧ Cl (pj lw) 1 [.ref a, .int x0] H (fun v H => W (pj lw) 100 21 L (v.toList ++ S) (k + 11) (n + 1824) H Q)) := W_init (as := [.int x0]) (rfl : (pj lw).1 100 18 = some (.invokespecial 21, 3, 1)) rfl rfl rfl (Nat.le_of_ble_eq_true rfl) (Nat.le_of_ble_eq_true rfl) (fun h => absurd (show (11 : Nat) = 0 from h.1) (by decide))
theorem w100_21 : W (pj lw) 100 21 (a::b::.unset::L) (.ref x::S) k n H Q ↔ W (pj lw) 100 22 (a::b::.val (.ref x)::L) S k n H Q := W_astn (rfl : (pj lw).1 100 21 = some (.astore_n 2, 1, 0)) rfl rfl
theorem w100_22 : EW lw 100 22 23 L S (.long 0::S) := ES rfl
theorem w100_23uu : W (pj lw) 100 23 (a::b::c::.unset::.unset::L) (.long x::S) k n H Q ↔ W (pj lw) 100 24 (a::b::c::.val (.long x)::.second::L) S k n H Q := W_lstn (rfl : (pj lw).1 100 23 = some (.lstore_n 3, 1, 0)) rfl rfl rfl rfl
theorem w100_24 : EW lw 100 24 25 L S (.long 0::S) := ES rfl
theorem w100_25uu : W (pj lw) 100 25 (a::b::c::d::e::.unset::.unset::L) (.long x::S) k n H Q ↔ W (pj lw) 100 27 (a::b::c::d::e::.val (.long x)::.second::L) S k n H Q := W_lst (rfl : (pj lw).1 100 25 = some (.lstore 5, 2, 0)) rfl rfl rfl rfl
theorem w100_27 : EW lw 100 27 28 L S (.long 0::S) := ES rfl
theorem w100_28uu : W (pj lw) 100 28 (a::b::c::d::e::f::h::.unset::.unset::L) (.long x::S) k n H Q ↔ W (pj lw) 100 30 (a::b::c::d::e::f::h::.val (.long x)::.second::L) S k n H Q := W_lst (rfl : (pj lw).1 100 28 = some (.lstore 7, 2, 0)) rfl rfl rfl rfl
theorem w100_30 : EW lw 100 30 31 L S (.long 0::S) := ES rfl
theorem w100_31uu : W (pj lw) 100 31 (a::b::c::d::e::f::h::i::j::.unset::.unset::L) (.long x::S) k n H Q ↔ W (pj lw) 100 33 (a::b::c::d::e::f::h::i::j::.val (.long x)::.second::L) S k n H Q := W_lst (rfl : (pj lw).1 100 31 = some (.lstore 9, 2, 0)) rfl rfl rfl rfl
theorem w100_33 : EW lw 100 33 34 L S (.long 0::S) := ES rfl
theorem w100_34uu : W (pj lw) 100 34 (a::b::c::d::e::f::h::i::j::l::m::.unset::.unset::L) (.long x::S) k n H Q ↔ W (pj lw) 100 36 (a::b::c::d::e::f::h::i::j::l::m::.val (.long x)::.second::L) S k n H Q := W_lst (rfl : (pj lw).1 100 34 = some (.lstore 11, 2, 0)) rfl rfl rfl rfl
theorem w100_36 : EW lw 100 36 37 L S (.long 0::S) := ES rfl
theorem w100_37uu : W (pj lw) 100 37 (a::b::c::d::e::f::h::i::j::l::m::o::p::.unset::.unset::L) (.long x::S) k n H Q ↔ W (pj lw) 100 39 (a::b::c::d::e::f::h::i::j::l::m::o::p::.val (.long x)::.second::L) S k n H Q := W_lst (rfl : (pj lw).1 100 37 = some (.lstore 13, 2, 0)) rfl rfl rfl rfl
theorem w100_39 : EW lw 100 39 40 L S (.int 0::S) := ES rfl
theorem w100_40 : W (pj lw) 100 40 (a::b::c::d::e::f::h::i::j::l::m::o::p::q::r::.unset::L) (.int x::S) k n H Q ↔ W (pj lw) 100 42 (a::b::c::d::e::f::h::i::j::l::m::o::p::q::r::.val (.int x)::L) S k n H Q := W_ist (rfl : (pj lw).1 100 40 = some (.istore 15, 2, 0)) rfl rfl
theorem w100_42 : EW lw 100 42 43 L S (.int 0::S) := ES rfl
theorem w100_43 : W (pj lw) 100 43 (a::b::c::d::e::f::h::i::j::l::m::o::p::q::r::s::.unset::L) (.int x::S) k n H Q ↔ W (pj lw) 100 45 (a::b::c::d::e::f::h::i::j::l::m::o::p::q::r::s::.val (.int x)::L) S k n H Q := W_ist (rfl : (pj lw).1 100 43 = some (.istore 16, 2, 0)) rfl rfl
theorem w100_45 : EW lw 100 45 46 L S (.int 0::S) := ES rfl
theorem w100_46 : W (pj lw) 100 46 (a::b::c::d::e::f::h::i::j::l::m::o::p::q::r::s::v::.unset::L) (.int x::S) k n H Q ↔ W (pj lw) 100 48 (a::b::c::d::e::f::h::i::j::l::m::o::p::q::r::s::v::.val (.int x)::L) S k n H Q := W_ist (rfl : (pj lw).1 100 46 = some (.istore 17, 2, 0)) rfl rfl
theorem w100_48 : EW lw 100 48 49 L S (.int 0::S) := ES rfl
theorem w100_49 : W (pj lw) 100 49 (a::b::c::d::e::f::h::i::j::l::m::o::p::q::r::s::v::w::.unset::L) (.int x::S) k n H Q ↔ W (pj lw) 100 51 (a::b::c::d::e::f::h::i::j::l::m::o::p::q::r::s::v::w::.val (.int x)::L) S k n H Q := W_ist (rfl : (pj lw).1 100 49 = some (.istore 18, 2, 0)) rfl rfl
theorem w100_51 : EW lw 100 51 52 L S (.int 0::S) := ES rfl
theorem w100_52 : W (pj lw) 100 52 (a::b::c::d::e::f::h::i::j::l::m::o::p::q::r::s::v::w::y::.unset::L) (.int x::S) k n H Q ↔ W (pj lw) 100 54 (a::b::c::d::e::f::h::i::j::l::m::o::p::q::r::s::v::w::y::.val (.int x)::L) S k n H Q := W_ist (rfl : (pj lw).1 100 52 = some (.istore 19, 2, 0)) rfl rfl
theorem w100_54 : EW lw 100 54 56 L S (.int (-3)::S) := ES rfl
theorem w100_56 : W (pj lw) 100 56 (a::b::c::d::e::f::h::i::j::l::m::o::p::q::r::s::v::w::y::z::.unset::L) (.int x::S) k n H Q ↔ W (pj lw) 100 58 (a::b::c::d::e::f::h::i::j::l::m::o::p::q::r::s::v::w::y::z::.val (.int x)::L) S k n H Q := W_ist (rfl : (pj lw).1 100 56 = some (.istore 20, 2, 0)) rfl rfl
theorem w100_58 : EW lw 100 58 60 (a::b::c::d::e::f::h::i::j::l::m::o::p::q::r::s::v::w::y::z::.val (.int x)::L) S (.int x::S) := ES rfl
theorem w100_60 : EW lw 100 60 61 (.val (.ref x)::L) S (.ref x::S) := ES rfl
theorem w100_61 : W (pj lw) 100 61 L (.ref a::S) k n H Q ↔ (isA H a = true ∧ W (pj lw) 100 62 L (.int (alen H a).toInt32::S) k n H Q) := W_alen (len := 1) rfl
theorem w100_62 : Zw0 lw 100 62 100 65 100 1443 := W_icmp_ge (len := 3) rfl rfl
theorem w100_65 : EW lw 100 65 67 (a::b::c::d::e::f::h::i::j::l::m::o::p::q::r::s::v::w::y::z::.val (.int x)::L) S (.int x::S) := ES rfl
theorem w100_67 : EW lw 100 67 68 L S (.int 1::S) := ES rfl
theorem w100_68 : Zw0 lw 100 68 100 75 100 71 := W_icmp_lt (len := 3) rfl rfl
theorem w100_71 : EW lw 100 71 72 L S (.int 1::S) := ES rfl
theorem w100_72 : W (pj lw) 100 72 L S k n H Q ↔ W (pj lw) 100 76 L S k n H Q := W_goto rfl rfl
theorem w100_75 : EW lw 100 75 76 L S (.int 0::S) := ES rfl
theorem w100_76 : W (pj lw) 100 76 (a::b::c::d::e::f::h::i::j::l::m::o::p::q::r::s::v::w::y::z::A::.unset::L) (.int x::S) k n H Q ↔ W (pj lw) 100 78 (a::b::c::d::e::f::h::i::j::l::m::o::p::q::r::s::v::w::y::z::A::.val (.int x)::L) S k n H Q := W_ist (rfl : (pj lw).1 100 76 = some (.istore 21, 2, 0)) rfl rfl
theorem w100_78 : EW lw 100 78 79 L S (.int 1::S) := ES rfl
theorem w100_79 : W (pj lw) 100 79 (a::b::c::d::e::f::h::i::j::l::m::o::p::q::r::s::v::w::y::z::A::B::.unset::L) (.int x::S) k n H Q ↔ W (pj lw) 100 81 (a::b::c::d::e::f::h::i::j::l::m::o::p::q::r::s::v::w::y::z::A::B::.val (.int x)::L) S k n H Q := W_ist (rfl : (pj lw).1 100 79 = some (.istore 22, 2, 0)) rfl rfl
theorem w100_81 : EW lw 100 81 83 (a::b::c::d::e::f::h::i::j::l::m::o::p::q::r::s::v::w::y::z::A::.val (.int x)::L) S (.int x::S) := ES rfl
theorem w100_83 : Zw4 lw 100 83 100 347 100 86 := W_if_eq (len := 3) rfl rfl
theorem w100_86 : EW lw 100 86 87 (.val (.ref x)::L) S (.ref x::S) := ES rfl
theorem w100_87 : EW lw 100 87 89 (a::b::c::d::e::f::h::i::j::l::m::o::p::q::r::s::v::w::y::z::.val (.int x)::L) S (.int x::S) := ES rfl
theorem w100_89 : W (pj lw) 100 89 L (.int x1::.ref x0::S) k n H Q ↔ (cs S + (2 + 11) + 0 ≤ 192 ∧ Cl (pj lw) 102 [.ref x0, .int x1] H (fun v H => W (pj lw) 100 92 L (v.toList ++ S) k n H Q)) := W_stat (a := [.ref x0, .int x1]) (rfl : (pj lw).1 100 89 = some (.invokestatic 15, 3, 102)) rfl rfl rfl (Nat.le_of_ble_eq_true rfl) (Nat.le_of_ble_eq_true rfl) ⟨rfl, rfl⟩
theorem w100_92 : EW lw 100 92 94 L S (.int 8::S) := ES rfl
theorem w100_94 : W (pj lw) 100 94 L (.int x1::.int x0::S) k n H Q ↔ (cs S + (3 + 11) + 0 ≤ 192 ∧ Cl (pj lw) 103 [.int x0, .int x1] H (fun v H => W (pj lw) 100 97 L (v.toList ++ S) k n H Q)) := W_stat (a := [.int x0, .int x1]) (rfl : (pj lw).1 100 94 = some (.invokestatic 7, 3, 103)) rfl rfl rfl (Nat.le_of_ble_eq_true rfl) (Nat.le_of_ble_eq_true rfl) ⟨rfl, rfl⟩
theorem w100_97 : W (pj lw) 100 97 (a::b::c::d::e::f::h::i::j::l::m::o::p::q::r::s::v::w::y::z::A::B::C::.unset::L) (.int x::S) k n H Q ↔ W (pj lw) 100 99 (a::b::c::d::e::f::h::i::j::l::m::o::p::q::r::s::v::w::y::z::A::B::C::.val (.int x)::L) S k n H Q := W_ist (rfl : (pj lw).1 100 97 = some (.istore 23, 2, 0)) rfl rfl
theorem w100_99 : EW lw 100 99 100 (.val (.ref x)::L) S (.ref x::S) := ES rfl
theorem w100_100 : EW lw 100 100 102 (a::b::c::d::e::f::h::i::j::l::m::o::p::q::r::s::v::w::y::z::.val (.int x)::L) S (.int x::S) := ES rfl
theorem w100_102 : EW lw 100 102 103 L S (.int 1::S) := ES rfl
theorem w100_103 : EW lw 100 103 104 L (.int y::.int x::S) (.int (x + y)::S) := ES rfl
theorem w100_104 : W (pj lw) 100 104 L (.int x1::.ref x0::S) k n H Q ↔ (cs S + (2 + 11) + 0 ≤ 192 ∧ Cl (pj lw) 102 [.ref x0, .int x1] H (fun v H => W (pj lw) 100 107 L (v.toList ++ S) k n H Q)) := W_stat (a := [.ref x0, .int x1]) (rfl : (pj lw).1 100 104 = some (.invokestatic 15, 3, 102)) rfl rfl rfl (Nat.le_of_ble_eq_true rfl) (Nat.le_of_ble_eq_true rfl) ⟨rfl, rfl⟩
theorem w100_107 : W (pj lw) 100 107 (a::b::c::d::e::f::h::i::j::l::m::o::p::q::r::s::v::w::y::z::A::B::C::D::.unset::L) (.int x::S) k n H Q ↔ W (pj lw) 100 109 (a::b::c::d::e::f::h::i::j::l::m::o::p::q::r::s::v::w::y::z::A::B::C::D::.val (.int x)::L) S k n H Q := W_ist (rfl : (pj lw).1 100 107 = some (.istore 24, 2, 0)) rfl rfl
theorem w100_109 : EW lw 100 109 110 (.val (.ref x)::L) S (.ref x::S) := ES rfl
theorem w100_110 : EW lw 100 110 112 (a::b::c::d::e::f::h::i::j::l::m::o::p::q::r::s::v::w::y::z::.val (.int x)::L) S (.int x::S) := ES rfl
theorem w100_112 : EW lw 100 112 113 L S (.int 2::S) := ES rfl
theorem w100_113 : EW lw 100 113 114 L (.int y::.int x::S) (.int (x + y)::S) := ES rfl
theorem w100_114 : W (pj lw) 100 114 L (.int x1::.ref x0::S) k n H Q ↔ (cs S + (2 + 11) + 0 ≤ 192 ∧ Cl (pj lw) 102 [.ref x0, .int x1] H (fun v H => W (pj lw) 100 117 L (v.toList ++ S) k n H Q)) := W_stat (a := [.ref x0, .int x1]) (rfl : (pj lw).1 100 114 = some (.invokestatic 15, 3, 102)) rfl rfl rfl (Nat.le_of_ble_eq_true rfl) (Nat.le_of_ble_eq_true rfl) ⟨rfl, rfl⟩
theorem w100_117 : W (pj lw) 100 117 (a::b::c::d::e::f::h::i::j::l::m::o::p::q::r::s::v::w::y::z::A::B::C::D::E::.unset::L) (.int x::S) k n H Q ↔ W (pj lw) 100 119 (a::b::c::d::e::f::h::i::j::l::m::o::p::q::r::s::v::w::y::z::A::B::C::D::E::.val (.int x)::L) S k n H Q := W_ist (rfl : (pj lw).1 100 117 = some (.istore 25, 2, 0)) rfl rfl
theorem w100_119 : EW lw 100 119 120 (.val (.ref x)::L) S (.ref x::S) := ES rfl
theorem w100_120 : EW lw 100 120 122 (a::b::c::d::e::f::h::i::j::l::m::o::p::q::r::s::v::w::y::z::.val (.int x)::L) S (.int x::S) := ES rfl
theorem w100_122 : EW lw 100 122 123 L S (.int 3::S) := ES rfl
theorem w100_123 : EW lw 100 123 124 L (.int y::.int x::S) (.int (x + y)::S) := ES rfl
theorem w100_124 : W (pj lw) 100 124 L (.int x1::.ref x0::S) k n H Q ↔ (cs S + (2 + 11) + 0 ≤ 192 ∧ Cl (pj lw) 102 [.ref x0, .int x1] H (fun v H => W (pj lw) 100 127 L (v.toList ++ S) k n H Q)) := W_stat (a := [.ref x0, .int x1]) (rfl : (pj lw).1 100 124 = some (.invokestatic 15, 3, 102)) rfl rfl rfl (Nat.le_of_ble_eq_true rfl) (Nat.le_of_ble_eq_true rfl) ⟨rfl, rfl⟩
theorem w100_127 : W (pj lw) 100 127 (a::b::c::d::e::f::h::i::j::l::m::o::p::q::r::s::v::w::y::z::A::B::C::D::E::F::.unset::L) (.int x::S) k n H Q ↔ W (pj lw) 100 129 (a::b::c::d::e::f::h::i::j::l::m::o::p::q::r::s::v::w::y::z::A::B::C::D::E::F::.val (.int x)::L) S k n H Q := W_ist (rfl : (pj lw).1 100 127 = some (.istore 26, 2, 0)) rfl rfl
theorem w100_129 : EW lw 100 129 131 (a::b::c::d::e::f::h::i::j::l::m::o::p::q::r::s::v::w::y::z::A::B::C::.val (.int x)::L) S (.int x::S) := ES rfl
theorem w100_131 : EW lw 100 131 132 L S (.int 2::S) := ES rfl
theorem w100_132 : Zw1 lw 100 132 100 169 100 135 := W_icmp_gt (len := 3) rfl rfl
theorem w100_135 : EW lw 100 135 136 (a::b::.val (.ref x)::L) S (.ref x::S) := ES rfl
theorem w100_136 : EW lw 100 136 138 (a::b::c::d::e::f::h::i::j::l::m::o::p::q::r::s::v::w::y::z::A::B::C::D::.val (.int x)::L) S (.int x::S) := ES rfl
theorem w100_138 : EW lw 100 138 139 (a::.val (.int x)::L) S (.int x::S) := ES rfl
theorem w100_139 : W (pj lw) 100 139 L (.int x1::.int x0::S) k n H Q ↔ (cs S + (3 + 11) + 0 ≤ 192 ∧ Cl (pj lw) 103 [.int x0, .int x1] H (fun v H => W (pj lw) 100 142 L (v.toList ++ S) k n H Q)) := W_stat (a := [.int x0, .int x1]) (rfl : (pj lw).1 100 139 = some (.invokestatic 7, 3, 103)) rfl rfl rfl (Nat.le_of_ble_eq_true rfl) (Nat.le_of_ble_eq_true rfl) ⟨rfl, rfl⟩
theorem w100_142 : EW lw 100 142 144 (a::b::c::d::e::f::h::i::j::l::m::o::p::q::r::s::v::w::y::z::A::B::C::D::E::.val (.int x)::L) S (.int x::S) := ES rfl
theorem w100_144 : EW lw 100 144 145 (a::.val (.int x)::L) S (.int x::S) := ES rfl
theorem w100_145 : W (pj lw) 100 145 L (.int x1::.int x0::S) k n H Q ↔ (cs S + (3 + 11) + 0 ≤ 192 ∧ Cl (pj lw) 103 [.int x0, .int x1] H (fun v H => W (pj lw) 100 148 L (v.toList ++ S) k n H Q)) := W_stat (a := [.int x0, .int x1]) (rfl : (pj lw).1 100 145 = some (.invokestatic 7, 3, 103)) rfl rfl rfl (Nat.le_of_ble_eq_true rfl) (Nat.le_of_ble_eq_true rfl) ⟨rfl, rfl⟩
theorem w100_148 : EW lw 100 148 150 (a::b::c::d::e::f::h::i::j::l::m::o::p::q::r::s::v::w::y::z::A::B::C::D::E::F::.val (.int x)::L) S (.int x::S) := ES rfl
theorem w100_150 : W (pj lw) 100 150 L (.int x0::S) k n H Q ↔ (cs S + (2 + 11) + 14 ≤ 192 ∧ Cl (pj lw) 104 [.int x0] H (fun v H => W (pj lw) 100 153 L (v.toList ++ S) k n H Q)) := W_stat (a := [.int x0]) (rfl : (pj lw).1 100 150 = some (.invokestatic 24, 3, 104)) rfl rfl rfl (Nat.le_of_ble_eq_true rfl) (Nat.le_of_ble_eq_true rfl) ⟨rfl, rfl⟩
theorem w100_153 : W (pj lw) 100 153 L (.int x2::.int x1::.int x0::.ref a::S) k n H Q ↔ ((isO H a = true ∧ cs S + (6 + 11) + 65 ≤ 192) ∧ Cl (pj lw) 2 [.ref a, .int x0, .int x1, .int x2] H (fun v H => W (pj lw) 100 156 L (v.toList ++ S) k n H Q)) := W_inst (as := [.int x0, .int x1, .int x2]) (rfl : (pj lw).1 100 153 = some (.invokevirtual 28, 3, 2)) rfl rfl rfl (Nat.le_of_ble_eq_true rfl) (Nat.le_of_ble_eq_true rfl) ⟨rfl, rfl⟩
theorem w100_156 : Zw10 lw 100 156 100 163 100 159 := W_if_lt (len := 3) rfl rfl
theorem w100_159 : EW lw 100 159 160 L S (.int 1::S) := ES rfl
theorem w100_160 : W (pj lw) 100 160 L S k n H Q ↔ W (pj lw) 100 164 L S k n H Q := W_goto rfl rfl
theorem w100_163 : EW lw 100 163 164 L S (.int 0::S) := ES rfl
theorem w100_164i : W (pj lw) 100 164 (a::b::c::d::e::f::h::i::j::l::m::o::p::q::r::s::v::w::z::A::B::C::.val (.int y)::L) (.int x::S) k n H Q ↔ W (pj lw) 100 166 (a::b::c::d::e::f::h::i::j::l::m::o::p::q::r::s::v::w::z::A::B::C::.val (.int x)::L) S k n H Q := W_ist (rfl : (pj lw).1 100 164 = some (.istore 22, 2, 0)) rfl rfl
theorem w100_166 : W (pj lw) 100 166 L S k n H Q ↔ W (pj lw) 100 347 L S k n H Q := W_goto rfl rfl
theorem w100_169 : EW lw 100 169 171 (a::b::c::d::e::f::h::i::j::l::m::o::p::q::r::s::v::w::y::z::A::B::C::.val (.int x)::L) S (.int x::S) := ES rfl
theorem w100_171 : EW lw 100 171 172 L S (.int 3::S) := ES rfl
theorem w100_172 : Zw5 lw 100 172 100 175 100 224 := W_icmp_ne (len := 3) rfl rfl
theorem w100_175 : EW lw 100 175 176 (a::b::.val (.ref x)::L) S (.ref x::S) := ES rfl
theorem w100_176 : EW lw 100 176 178 (a::b::c::d::e::f::h::i::j::l::m::o::p::q::r::s::v::w::y::z::A::B::C::D::.val (.int x)::L) S (.int x::S) := ES rfl
theorem w100_178 : EW lw 100 178 179 L S (.int 2::S) := ES rfl
theorem w100_179 : W (pj lw) 100 179 L (.int x1::.int x0::S) k n H Q ↔ (cs S + (3 + 11) + 0 ≤ 192 ∧ Cl (pj lw) 103 [.int x0, .int x1] H (fun v H => W (pj lw) 100 182 L (v.toList ++ S) k n H Q)) := W_stat (a := [.int x0, .int x1]) (rfl : (pj lw).1 100 179 = some (.invokestatic 7, 3, 103)) rfl rfl rfl (Nat.le_of_ble_eq_true rfl) (Nat.le_of_ble_eq_true rfl) ⟨rfl, rfl⟩
theorem w100_182 : Zw4 lw 100 182 100 185 100 189 := W_if_ne (len := 3) rfl rfl
theorem w100_185 : EW lw 100 185 186 L S (.int (-1)::S) := ES rfl
theorem w100_186 : W (pj lw) 100 186 L S k n H Q ↔ W (pj lw) 100 197 L S k n H Q := W_goto rfl rfl
theorem w100_189 : EW lw 100 189 190 (a::.val (.int x)::L) S (.int x::S) := ES rfl
theorem w100_190 : EW lw 100 190 192 (a::b::c::d::e::f::h::i::j::l::m::o::p::q::r::s::v::w::y::z::A::B::C::D::.val (.int x)::L) S (.int x::S) := ES rfl
theorem w100_192 : EW lw 100 192 193 L S (.int 3::S) := ES rfl
theorem w100_193 : W (pj lw) 100 193 L (.int x1::.int x0::S) k n H Q ↔ (cs S + (3 + 11) + 0 ≤ 192 ∧ Cl (pj lw) 103 [.int x0, .int x1] H (fun v H => W (pj lw) 100 196 L (v.toList ++ S) k n H Q)) := W_stat (a := [.int x0, .int x1]) (rfl : (pj lw).1 100 193 = some (.invokestatic 7, 3, 103)) rfl rfl rfl (Nat.le_of_ble_eq_true rfl) (Nat.le_of_ble_eq_true rfl) ⟨rfl, rfl⟩
theorem w100_196 : EW lw 100 196 197 L (.int y::.int x::S) (.int (x + y)::S) := ES rfl
theorem w100_197 : EW lw 100 197 199 (a::b::c::d::e::f::h::i::j::l::m::o::p::q::r::s::v::w::y::z::A::B::C::D::E::.val (.int x)::L) S (.int x::S) := ES rfl
theorem w100_199 : EW lw 100 199 200 (a::.val (.int x)::L) S (.int x::S) := ES rfl
theorem w100_200 : W (pj lw) 100 200 L (.int x1::.int x0::S) k n H Q ↔ (cs S + (3 + 11) + 0 ≤ 192 ∧ Cl (pj lw) 103 [.int x0, .int x1] H (fun v H => W (pj lw) 100 203 L (v.toList ++ S) k n H Q)) := W_stat (a := [.int x0, .int x1]) (rfl : (pj lw).1 100 200 = some (.invokestatic 7, 3, 103)) rfl rfl rfl (Nat.le_of_ble_eq_true rfl) (Nat.le_of_ble_eq_true rfl) ⟨rfl, rfl⟩
theorem w100_203 : EW lw 100 203 205 (a::b::c::d::e::f::h::i::j::l::m::o::p::q::r::s::v::w::y::z::A::B::C::D::E::F::.val (.int x)::L) S (.int x::S) := ES rfl
theorem w100_205 : W (pj lw) 100 205 L (.int x0::S) k n H Q ↔ (cs S + (2 + 11) + 14 ≤ 192 ∧ Cl (pj lw) 104 [.int x0] H (fun v H => W (pj lw) 100 208 L (v.toList ++ S) k n H Q)) := W_stat (a := [.int x0]) (rfl : (pj lw).1 100 205 = some (.invokestatic 24, 3, 104)) rfl rfl rfl (Nat.le_of_ble_eq_true rfl) (Nat.le_of_ble_eq_true rfl) ⟨rfl, rfl⟩
theorem w100_208 : W (pj lw) 100 208 L (.int x2::.int x1::.int x0::.ref a::S) k n H Q ↔ ((isO H a = true ∧ cs S + (6 + 11) + 65 ≤ 192) ∧ Cl (pj lw) 2 [.ref a, .int x0, .int x1, .int x2] H (fun v H => W (pj lw) 100 211 L (v.toList ++ S) k n H Q)) := W_inst (as := [.int x0, .int x1, .int x2]) (rfl : (pj lw).1 100 208 = some (.invokevirtual 28, 3, 2)) rfl rfl rfl (Nat.le_of_ble_eq_true rfl) (Nat.le_of_ble_eq_true rfl) ⟨rfl, rfl⟩
theorem w100_211 : Zw10 lw 100 211 100 218 100 214 := W_if_lt (len := 3) rfl rfl
theorem w100_218 : EW lw 100 218 219 L S (.int 0::S) := ES rfl
theorem w100_219i : W (pj lw) 100 219 (a::b::c::d::e::f::h::i::j::l::m::o::p::q::r::s::v::w::z::A::B::C::.val (.int y)::L) (.int x::S) k n H Q ↔ W (pj lw) 100 221 (a::b::c::d::e::f::h::i::j::l::m::o::p::q::r::s::v::w::z::A::B::C::.val (.int x)::L) S k n H Q := W_ist (rfl : (pj lw).1 100 219 = some (.istore 22, 2, 0)) rfl rfl
theorem w100_221 : W (pj lw) 100 221 L S k n H Q ↔ W (pj lw) 100 347 L S k n H Q := W_goto rfl rfl
theorem w100_224 : EW lw 100 224 225 (a::b::.val (.ref x)::L) S (.ref x::S) := ES rfl
theorem w100_225 : W (pj lw) 100 225 L (.ref a::S) k n H Q ↔ ((isO H a = true ∧ cs S + (1 + 11) + 0 ≤ 192) ∧ Cl (pj lw) 9 [.ref a] H (fun v H => W (pj lw) 100 228 L (v.toList ++ S) k n H Q)) := W_inst (as := []) (rfl : (pj lw).1 100 225 = some (.invokevirtual 32, 3, 9)) rfl rfl rfl (Nat.le_of_ble_eq_true rfl) (Nat.le_of_ble_eq_true rfl) ⟨rfl, rfl⟩
theorem w100_228 : W (pj lw) 100 228 (a::b::c::d::e::f::h::i::j::l::m::o::p::q::r::s::v::w::y::z::A::B::C::D::E::F::G::.unset::L) (.int x::S) k n H Q ↔ W (pj lw) 100 230 (a::b::c::d::e::f::h::i::j::l::m::o::p::q::r::s::v::w::y::z::A::B::C::D::E::F::G::.val (.int x)::L) S k n H Q := W_ist (rfl : (pj lw).1 100 228 = some (.istore 27, 2, 0)) rfl rfl
theorem w100_230 : EW lw 100 230 231 L S (.int (-1)::S) := ES rfl
theorem w100_231 : W (pj lw) 100 231 (a::b::c::d::e::f::h::i::j::l::m::o::p::q::r::s::v::w::y::z::A::B::C::D::E::F::G::I::.unset::L) (.int x::S) k n H Q ↔ W (pj lw) 100 233 (a::b::c::d::e::f::h::i::j::l::m::o::p::q::r::s::v::w::y::z::A::B::C::D::E::F::G::I::.val (.int x)::L) S k n H Q := W_ist (rfl : (pj lw).1 100 231 = some (.istore 28, 2, 0)) rfl rfl
theorem w100_233 : EW lw 100 233 235 (a::b::c::d::e::f::h::i::j::l::m::o::p::q::r::s::v::w::y::z::A::B::C::D::E::F::G::.val (.int x)::L) S (.int x::S) := ES rfl
theorem w100_235 : W (pj lw) 100 235 L (.int x::S) k n H Q ↔ (if 0 < x then W (pj lw) 100 238 L S k n H Q else W (pj lw) 100 247 L S k n H Q) := W_if_le (len := 3) rfl rfl
theorem w100_238 : EW lw 100 238 240 (a::b::c::d::e::f::h::i::j::l::m::o::p::q::r::s::v::w::y::z::A::B::C::D::E::.val (.int x)::L) S (.int x::S) := ES rfl
theorem w100_240 : EW lw 100 240 241 L S (.int 5::S) := ES rfl
theorem w100_241 : W (pj lw) 100 241 L (.int x1::.int x0::S) k n H Q ↔ (cs S + (3 + 11) + 0 ≤ 192 ∧ Cl (pj lw) 103 [.int x0, .int x1] H (fun v H => W (pj lw) 100 244 L (v.toList ++ S) k n H Q)) := W_stat (a := [.int x0, .int x1]) (rfl : (pj lw).1 100 241 = some (.invokestatic 7, 3, 103)) rfl rfl rfl (Nat.le_of_ble_eq_true rfl) (Nat.le_of_ble_eq_true rfl) ⟨rfl, rfl⟩
theorem w100_244 : Zw4 lw 100 244 100 247 100 262 := W_if_ne (len := 3) rfl rfl
theorem w100_247 : EW lw 100 247 249 (a::b::c::d::e::f::h::i::j::l::m::o::p::q::r::s::v::w::y::z::A::B::C::D::.val (.int x)::L) S (.int x::S) := ES rfl
theorem w100_249 : EW lw 100 249 252 L S (.int 136::S) := ES rfl
theorem w100_252 : W (pj lw) 100 252 L (.int x1::.int x0::S) k n H Q ↔ (cs S + (3 + 11) + 0 ≤ 192 ∧ Cl (pj lw) 103 [.int x0, .int x1] H (fun v H => W (pj lw) 100 255 L (v.toList ++ S) k n H Q)) := W_stat (a := [.int x0, .int x1]) (rfl : (pj lw).1 100 252 = some (.invokestatic 7, 3, 103)) rfl rfl rfl (Nat.le_of_ble_eq_true rfl) (Nat.le_of_ble_eq_true rfl) ⟨rfl, rfl⟩
theorem w100_255 : EW lw 100 255 256 L S (.int 4::S) := ES rfl
theorem w100_256 : EW lw 100 256 257 L (.int y::.int x::S) (.int (x - y)::S) := ES rfl
theorem w100_257i : W (pj lw) 100 257 (a::b::c::d::e::f::h::i::j::l::m::o::p::q::r::s::v::w::z::A::B::C::D::E::F::G::I::J::.val (.int y)::L) (.int x::S) k n H Q ↔ W (pj lw) 100 259 (a::b::c::d::e::f::h::i::j::l::m::o::p::q::r::s::v::w::z::A::B::C::D::E::F::G::I::J::.val (.int x)::L) S k n H Q := W_ist (rfl : (pj lw).1 100 257 = some (.istore 28, 2, 0)) rfl rfl
theorem w100_259 : W (pj lw) 100 259 L S k n H Q ↔ W (pj lw) 100 317 L S k n H Q := W_goto rfl rfl
theorem w100_262 : EW lw 100 262 264 (a::b::c::d::e::f::h::i::j::l::m::o::p::q::r::s::v::w::y::z::A::B::C::D::.val (.int x)::L) S (.int x::S) := ES rfl
theorem w100_264 : EW lw 100 264 266 (a::b::c::d::e::f::h::i::j::l::m::o::p::q::r::s::v::w::y::z::A::B::C::D::E::F::G::.val (.int x)::L) S (.int x::S) := ES rfl
theorem w100_266 : W (pj lw) 100 266 L (.int x1::.int x0::S) k n H Q ↔ (cs S + (3 + 11) + 0 ≤ 192 ∧ Cl (pj lw) 103 [.int x0, .int x1] H (fun v H => W (pj lw) 100 269 L (v.toList ++ S) k n H Q)) := W_stat (a := [.int x0, .int x1]) (rfl : (pj lw).1 100 266 = some (.invokestatic 7, 3, 103)) rfl rfl rfl (Nat.le_of_ble_eq_true rfl) (Nat.le_of_ble_eq_true rfl) ⟨rfl, rfl⟩
theorem w100_269 : W (pj lw) 100 269 (a::b::c::d::e::f::h::i::j::l::m::o::p::q::r::s::v::w::y::z::A::B::C::D::E::F::G::I::J::.unset::L) (.int x::S) k n H Q ↔ W (pj lw) 100 271 (a::b::c::d::e::f::h::i::j::l::m::o::p::q::r::s::v::w::y::z::A::B::C::D::E::F::G::I::J::.val (.int x)::L) S k n H Q := W_ist (rfl : (pj lw).1 100 269 = some (.istore 29, 2, 0)) rfl rfl
theorem w100_271 : EW lw 100 271 272 L S (.int 0::S) := ES rfl
theorem w100_272 : W (pj lw) 100 272 (a::b::c::d::e::f::h::i::j::l::m::o::p::q::r::s::v::w::y::z::A::B::C::D::E::F::G::I::J::K::.unset::L) (.int x::S) k n H Q ↔ W (pj lw) 100 274 (a::b::c::d::e::f::h::i::j::l::m::o::p::q::r::s::v::w::y::z::A::B::C::D::E::F::G::I::J::K::.val (.int x)::L) S k n H Q := W_ist (rfl : (pj lw).1 100 272 = some (.istore 30, 2, 0)) rfl rfl
theorem w100_274 : EW lw 100 274 276 (a::b::c::d::e::f::h::i::j::l::m::o::p::q::r::s::v::w::y::z::A::B::C::D::E::F::G::I::J::K::.val (.int x)::L) S (.int x::S) := ES rfl
theorem w100_276 : EW lw 100 276 279 L S (.int 128::S) := ES rfl
theorem w100_279 : Zw0 lw 100 279 100 282 100 317 := W_icmp_ge (len := 3) rfl rfl
theorem w100_282 : EW lw 100 282 284 (a::b::c::d::e::f::h::i::j::l::m::o::p::q::r::s::v::w::y::z::A::B::C::D::E::F::G::I::.val (.int x)::L) S (.int x::S) := ES rfl
theorem w100_284 : Zw10 lw 100 284 100 287 100 317 := W_if_ge (len := 3) rfl rfl
theorem w100_287 : EW lw 100 287 288 (a::b::.val (.ref x)::L) S (.ref x::S) := ES rfl
theorem w100_288 : EW lw 100 288 290 (a::b::c::d::e::f::h::i::j::l::m::o::p::q::r::s::v::w::y::z::A::B::C::D::E::F::G::I::J::K::.val (.int x)::L) S (.int x::S) := ES rfl
theorem w100_290 : W (pj lw) 100 290 L (.int x0::.ref a::S) k n H Q ↔ ((isO H a = true ∧ cs S + (2 + 11) + 13 ≤ 192) ∧ Cl (pj lw) 5 [.ref a, .int x0] H (fun v H => W (pj lw) 100 293 L (v.toList ++ S) k n H Q)) := W_inst (as := [.int x0]) (rfl : (pj lw).1 100 290 = some (.invokevirtual 36, 3, 5)) rfl rfl rfl (Nat.le_of_ble_eq_true rfl) (Nat.le_of_ble_eq_true rfl) ⟨rfl, rfl⟩
theorem w100_293 : Zw4 lw 100 293 100 311 100 296 := W_if_eq (len := 3) rfl rfl
theorem w100_296 : EW lw 100 296 298 (a::b::c::d::e::f::h::i::j::l::m::o::p::q::r::s::v::w::y::z::A::B::C::D::E::F::G::I::J::.val (.int x)::L) S (.int x::S) := ES rfl
theorem w100_298 : Zw4 lw 100 298 100 301 100 308 := W_if_ne (len := 3) rfl rfl
theorem w100_301 : EW lw 100 301 303 (a::b::c::d::e::f::h::i::j::l::m::o::p::q::r::s::v::w::y::z::A::B::C::D::E::F::G::I::J::K::.val (.int x)::L) S (.int x::S) := ES rfl
theorem w100_303i : W (pj lw) 100 303 (a::b::c::d::e::f::h::i::j::l::m::o::p::q::r::s::v::w::z::A::B::C::D::E::F::G::I::J::.val (.int y)::L) (.int x::S) k n H Q ↔ W (pj lw) 100 305 (a::b::c::d::e::f::h::i::j::l::m::o::p::q::r::s::v::w::z::A::B::C::D::E::F::G::I::J::.val (.int x)::L) S k n H Q := W_ist (rfl : (pj lw).1 100 303 = some (.istore 28, 2, 0)) rfl rfl
theorem w100_305 : W (pj lw) 100 305 L S k n H Q ↔ W (pj lw) 100 311 L S k n H Q := W_goto rfl rfl
theorem w100_308 : W (pj lw) 100 308 (a::b::c::d::e::f::h::i::j::l::m::o::p::q::r::s::v::w::y::z::A::B::C::D::E::F::G::I::J::.val (.int x)::L) S k n H Q ↔ W (pj lw) 100 311 (a::b::c::d::e::f::h::i::j::l::m::o::p::q::r::s::v::w::y::z::A::B::C::D::E::F::G::I::J::.val (.int (x + (-1)))::L) S k n H Q := W_s rfl rfl rfl rfl
theorem w100_311 : W (pj lw) 100 311 (a::b::c::d::e::f::h::i::j::l::m::o::p::q::r::s::v::w::y::z::A::B::C::D::E::F::G::I::J::K::.val (.int x)::L) S k n H Q ↔ W (pj lw) 100 314 (a::b::c::d::e::f::h::i::j::l::m::o::p::q::r::s::v::w::y::z::A::B::C::D::E::F::G::I::J::K::.val (.int (x + 1))::L) S k n H Q := W_s rfl rfl rfl rfl
theorem w100_314 : W (pj lw) 100 314 L S k n H Q ↔ W (pj lw) 100 274 L S k n H Q := W_goto rfl rfl
theorem w100_317 : EW lw 100 317 319 (a::b::c::d::e::f::h::i::j::l::m::o::p::q::r::s::v::w::y::z::A::B::C::.val (.int x)::L) S (.int x::S) := ES rfl
theorem w100_319 : EW lw 100 319 320 L S (.int 5::S) := ES rfl
theorem w100_320 : Zw1 lw 100 320 100 334 100 323 := W_icmp_gt (len := 3) rfl rfl
theorem w100_323 : EW lw 100 323 324 (a::b::.val (.ref x)::L) S (.ref x::S) := ES rfl
theorem w100_324 : EW lw 100 324 326 (a::b::c::d::e::f::h::i::j::l::m::o::p::q::r::s::v::w::y::z::A::B::C::D::E::F::G::I::.val (.int x)::L) S (.int x::S) := ES rfl
theorem w100_326 : W (pj lw) 100 326 L (.int x0::.ref a::S) k n H Q ↔ ((isO H a = true ∧ cs S + (2 + 11) + 64 ≤ 192) ∧ Cl (pj lw) 3 [.ref a, .int x0] H (fun v H => W (pj lw) 100 329 L (v.toList ++ S) k n H Q)) := W_inst (as := [.int x0]) (rfl : (pj lw).1 100 326 = some (.invokevirtual 40, 3, 3)) rfl rfl rfl (Nat.le_of_ble_eq_true rfl) (Nat.le_of_ble_eq_true rfl) ⟨rfl, rfl⟩
theorem w100_329i : W (pj lw) 100 329 (a::b::c::d::e::f::h::i::j::l::m::o::p::q::r::s::v::w::z::A::B::C::.val (.int y)::L) (.int x::S) k n H Q ↔ W (pj lw) 100 331 (a::b::c::d::e::f::h::i::j::l::m::o::p::q::r::s::v::w::z::A::B::C::.val (.int x)::L) S k n H Q := W_ist (rfl : (pj lw).1 100 329 = some (.istore 22, 2, 0)) rfl rfl
theorem w100_331 : W (pj lw) 100 331 L S k n H Q ↔ W (pj lw) 100 347 L S k n H Q := W_goto rfl rfl
theorem w100_334 : EW lw 100 334 335 (a::b::.val (.ref x)::L) S (.ref x::S) := ES rfl
theorem w100_335 : EW lw 100 335 337 (a::b::c::d::e::f::h::i::j::l::m::o::p::q::r::s::v::w::y::z::A::B::C::D::E::F::G::I::.val (.int x)::L) S (.int x::S) := ES rfl
theorem w100_337 : EW lw 100 337 339 (a::b::c::d::e::f::h::i::j::l::m::o::p::q::r::s::v::w::y::z::A::B::C::D::E::F::.val (.int x)::L) S (.int x::S) := ES rfl
theorem w100_339 : W (pj lw) 100 339 L (.int x0::S) k n H Q ↔ (cs S + (2 + 11) + 14 ≤ 192 ∧ Cl (pj lw) 104 [.int x0] H (fun v H => W (pj lw) 100 342 L (v.toList ++ S) k n H Q)) := W_stat (a := [.int x0]) (rfl : (pj lw).1 100 339 = some (.invokestatic 24, 3, 104)) rfl rfl rfl (Nat.le_of_ble_eq_true rfl) (Nat.le_of_ble_eq_true rfl) ⟨rfl, rfl⟩
theorem w100_342 : W (pj lw) 100 342 L (.int x1::.int x0::.ref a::S) k n H Q ↔ ((isO H a = true ∧ cs S + (4 + 11) + 65 ≤ 192) ∧ Cl (pj lw) 4 [.ref a, .int x0, .int x1] H (fun v H => W (pj lw) 100 345 L (v.toList ++ S) k n H Q)) := W_inst (as := [.int x0, .int x1]) (rfl : (pj lw).1 100 342 = some (.invokevirtual 43, 3, 4)) rfl rfl rfl (Nat.le_of_ble_eq_true rfl) (Nat.le_of_ble_eq_true rfl) ⟨rfl, rfl⟩
theorem w100_345i : W (pj lw) 100 345 (a::b::c::d::e::f::h::i::j::l::m::o::p::q::r::s::v::w::z::A::B::C::.val (.int y)::L) (.int x::S) k n H Q ↔ W (pj lw) 100 347 (a::b::c::d::e::f::h::i::j::l::m::o::p::q::r::s::v::w::z::A::B::C::.val (.int x)::L) S k n H Q := W_ist (rfl : (pj lw).1 100 345 = some (.istore 22, 2, 0)) rfl rfl
theorem w100_347 : EW lw 100 347 348 L S (.long 0::S) := ES rfl
theorem w100_348uu : W (pj lw) 100 348 (a::b::c::d::e::f::h::i::j::l::m::o::p::q::r::s::v::w::y::z::A::B::C::.unset::.unset::L) (.long x::S) k n H Q ↔ W (pj lw) 100 350 (a::b::c::d::e::f::h::i::j::l::m::o::p::q::r::s::v::w::y::z::A::B::C::.val (.long x)::.second::L) S k n H Q := W_lst (rfl : (pj lw).1 100 348 = some (.lstore 23, 2, 0)) rfl rfl rfl rfl
theorem w100_350 : EW lw 100 350 351 L S (.long 0::S) := ES rfl
theorem w100_351uu : W (pj lw) 100 351 (a::b::c::d::e::f::h::i::j::l::m::o::p::q::r::s::v::w::y::z::A::B::C::D::E::.unset::.unset::L) (.long x::S) k n H Q ↔ W (pj lw) 100 353 (a::b::c::d::e::f::h::i::j::l::m::o::p::q::r::s::v::w::y::z::A::B::C::D::E::.val (.long x)::.second::L) S k n H Q := W_lst (rfl : (pj lw).1 100 351 = some (.lstore 25, 2, 0)) rfl rfl rfl rfl
theorem w100_353 : EW lw 100 353 354 L S (.long 0::S) := ES rfl
theorem w100_354uu : W (pj lw) 100 354 (a::b::c::d::e::f::h::i::j::l::m::o::p::q::r::s::v::w::y::z::A::B::C::D::E::F::G::.unset::.unset::L) (.long x::S) k n H Q ↔ W (pj lw) 100 356 (a::b::c::d::e::f::h::i::j::l::m::o::p::q::r::s::v::w::y::z::A::B::C::D::E::F::G::.val (.long x)::.second::L) S k n H Q := W_lst (rfl : (pj lw).1 100 354 = some (.lstore 27, 2, 0)) rfl rfl rfl rfl
theorem w100_356 : EW lw 100 356 357 L S (.long 0::S) := ES rfl
theorem w100_357uu : W (pj lw) 100 357 (a::b::c::d::e::f::h::i::j::l::m::o::p::q::r::s::v::w::y::z::A::B::C::D::E::F::G::I::J::.unset::.unset::L) (.long x::S) k n H Q ↔ W (pj lw) 100 359 (a::b::c::d::e::f::h::i::j::l::m::o::p::q::r::s::v::w::y::z::A::B::C::D::E::F::G::I::J::.val (.long x)::.second::L) S k n H Q := W_lst (rfl : (pj lw).1 100 357 = some (.lstore 29, 2, 0)) rfl rfl rfl rfl
theorem w100_359 : EW lw 100 359 360 L S (.long 0::S) := ES rfl
theorem w100_360uu : W (pj lw) 100 360 (a::b::c::d::e::f::h::i::j::l::m::o::p::q::r::s::v::w::y::z::A::B::C::D::E::F::G::I::J::K::M::.unset::.unset::L) (.long x::S) k n H Q ↔ W (pj lw) 100 362 (a::b::c::d::e::f::h::i::j::l::m::o::p::q::r::s::v::w::y::z::A::B::C::D::E::F::G::I::J::K::M::.val (.long x)::.second::L) S k n H Q := W_lst (rfl : (pj lw).1 100 360 = some (.lstore 31, 2, 0)) rfl rfl rfl rfl
theorem w100_362 : EW lw 100 362 363 L S (.long 0::S) := ES rfl
theorem w100_363uu : W (pj lw) 100 363 (a::b::c::d::e::f::h::i::j::l::m::o::p::q::r::s::v::w::y::z::A::B::C::D::E::F::G::I::J::K::M::N::O::.unset::.unset::L) (.long x::S) k n H Q ↔ W (pj lw) 100 365 (a::b::c::d::e::f::h::i::j::l::m::o::p::q::r::s::v::w::y::z::A::B::C::D::E::F::G::I::J::K::M::N::O::.val (.long x)::.second::L) S k n H Q := W_lst (rfl : (pj lw).1 100 363 = some (.lstore 33, 2, 0)) rfl rfl rfl rfl
theorem w100_365 : EW lw 100 365 366 L S (.long 0::S) := ES rfl
theorem w100_366uu : W (pj lw) 100 366 (a::b::c::d::e::f::h::i::j::l::m::o::p::q::r::s::v::w::y::z::A::B::C::D::E::F::G::I::J::K::M::N::O::P::R::.unset::.unset::L) (.long x::S) k n H Q ↔ W (pj lw) 100 368 (a::b::c::d::e::f::h::i::j::l::m::o::p::q::r::s::v::w::y::z::A::B::C::D::E::F::G::I::J::K::M::N::O::P::R::.val (.long x)::.second::L) S k n H Q := W_lst (rfl : (pj lw).1 100 366 = some (.lstore 35, 2, 0)) rfl rfl rfl rfl
theorem w100_368 : EW lw 100 368 369 L S (.long 0::S) := ES rfl
theorem w100_369uu : W (pj lw) 100 369 (a::b::c::d::e::f::h::i::j::l::m::o::p::q::r::s::v::w::y::z::A::B::C::D::E::F::G::I::J::K::M::N::O::P::R::T::U::.unset::.unset::L) (.long x::S) k n H Q ↔ W (pj lw) 100 371 (a::b::c::d::e::f::h::i::j::l::m::o::p::q::r::s::v::w::y::z::A::B::C::D::E::F::G::I::J::K::M::N::O::P::R::T::U::.val (.long x)::.second::L) S k n H Q := W_lst (rfl : (pj lw).1 100 369 = some (.lstore 37, 2, 0)) rfl rfl rfl rfl
theorem w100_371 : EW lw 100 371 372 L S (.int 0::S) := ES rfl
theorem w100_372 : W (pj lw) 100 372 (a::b::c::d::e::f::h::i::j::l::m::o::p::q::r::s::v::w::y::z::A::B::C::D::E::F::G::I::J::K::M::N::O::P::R::T::U::V::X::.unset::L) (.int x::S) k n H Q ↔ W (pj lw) 100 374 (a::b::c::d::e::f::h::i::j::l::m::o::p::q::r::s::v::w::y::z::A::B::C::D::E::F::G::I::J::K::M::N::O::P::R::T::U::V::X::.val (.int x)::L) S k n H Q := W_ist (rfl : (pj lw).1 100 372 = some (.istore 39, 2, 0)) rfl rfl
theorem w100_374 : EW lw 100 374 376 (a::b::c::d::e::f::h::i::j::l::m::o::p::q::r::s::v::w::y::z::A::B::C::D::E::F::G::I::J::K::M::N::O::P::R::T::U::V::X::.val (.int x)::L) S (.int x::S) := ES rfl
theorem w100_376 : EW lw 100 376 379 L S (.int 128::S) := ES rfl
theorem w100_379 : Zw0 lw 100 379 100 382 100 848 := W_icmp_ge (len := 3) rfl rfl
theorem w100_382 : EW lw 100 382 383 (a::b::.val (.ref x)::L) S (.ref x::S) := ES rfl
theorem w100_383 : EW lw 100 383 385 (a::b::c::d::e::f::h::i::j::l::m::o::p::q::r::s::v::w::y::z::A::B::C::D::E::F::G::I::J::K::M::N::O::P::R::T::U::V::X::.val (.int x)::L) S (.int x::S) := ES rfl
theorem w100_385 : W (pj lw) 100 385 L (.int x0::.ref a::S) k n H Q ↔ ((isO H a = true ∧ cs S + (2 + 11) + 13 ≤ 192) ∧ Cl (pj lw) 6 [.ref a, .int x0] H (fun v H => W (pj lw) 100 388 L (v.toList ++ S) k n H Q)) := W_inst (as := [.int x0]) (rfl : (pj lw).1 100 385 = some (.invokevirtual 47, 3, 6)) rfl rfl rfl (Nat.le_of_ble_eq_true rfl) (Nat.le_of_ble_eq_true rfl) ⟨rfl, rfl⟩
theorem w100_388 : W (pj lw) 100 388 (a::b::c::d::e::f::h::i::j::l::m::o::p::q::r::s::v::w::y::z::A::B::C::D::E::F::G::I::J::K::M::N::O::P::R::T::U::V::X::Y::.unset::L) (.int x::S) k n H Q ↔ W (pj lw) 100 390 (a::b::c::d::e::f::h::i::j::l::m::o::p::q::r::s::v::w::y::z::A::B::C::D::E::F::G::I::J::K::M::N::O::P::R::T::U::V::X::Y::.val (.int x)::L) S k n H Q := W_ist (rfl : (pj lw).1 100 388 = some (.istore 40, 2, 0)) rfl rfl
theorem w100_390 : EW lw 100 390 392 (a::b::c::d::e::f::h::i::j::l::m::o::p::q::r::s::v::w::y::z::A::B::C::D::E::F::G::I::J::K::M::N::O::P::R::T::U::V::X::Y::.val (.int x)::L) S (.int x::S) := ES rfl
theorem w100_392 : Zw4 lw 100 392 100 426 100 395 := W_if_eq (len := 3) rfl rfl
theorem w100_395 : EW lw 100 395 397 (a::b::c::d::e::f::h::i::j::l::m::o::p::q::r::s::v::w::y::z::A::B::C::D::E::F::G::I::J::K::M::N::O::P::R::T::U::V::X::.val (.int x)::L) S (.int x::S) := ES rfl
theorem w100_397 : EW lw 100 397 399 L S (.int 64::S) := ES rfl
theorem w100_399 : Zw0 lw 100 399 100 402 100 414 := W_icmp_ge (len := 3) rfl rfl
theorem w100_402 : EW lw 100 402 404 (a::b::c::d::e::f::h::i::j::l::m::o::p::q::r::s::v::w::y::z::A::B::C::.val (.long x)::L) S (.long x::S) := ES rfl
theorem w100_404 : EW lw 100 404 405 L S (.long 1::S) := ES rfl
theorem w100_405 : EW lw 100 405 407 (a::b::c::d::e::f::h::i::j::l::m::o::p::q::r::s::v::w::y::z::A::B::C::D::E::F::G::I::J::K::M::N::O::P::R::T::U::V::X::.val (.int x)::L) S (.int x::S) := ES rfl
theorem w100_407 : EW lw 100 407 408 L (.int y::.long x::S) (.long (x <<< (y.toInt64 &&& 63))::S) := ES rfl
theorem w100_408 : EW lw 100 408 409 L (.long y::.long x::S) (.long (x ||| y)::S) := ES rfl
theorem w100_409j : W (pj lw) 100 409 (a::b::c::d::e::f::h::i::j::l::m::o::p::q::r::s::v::w::z::A::B::C::D::.val (.long y)::.second::L) (.long x::S) k n H Q ↔ W (pj lw) 100 411 (a::b::c::d::e::f::h::i::j::l::m::o::p::q::r::s::v::w::z::A::B::C::D::.val (.long x)::.second::L) S k n H Q := W_lst' (rfl : (pj lw).1 100 409 = some (.lstore 23, 2, 0)) rfl rfl
theorem w100_411 : W (pj lw) 100 411 L S k n H Q ↔ W (pj lw) 100 426 L S k n H Q := W_goto rfl rfl
theorem w100_414 : EW lw 100 414 416 (a::b::c::d::e::f::h::i::j::l::m::o::p::q::r::s::v::w::y::z::A::B::C::D::E::.val (.long x)::L) S (.long x::S) := ES rfl
theorem w100_416 : EW lw 100 416 417 L S (.long 1::S) := ES rfl
theorem w100_417 : EW lw 100 417 419 (a::b::c::d::e::f::h::i::j::l::m::o::p::q::r::s::v::w::y::z::A::B::C::D::E::F::G::I::J::K::M::N::O::P::R::T::U::V::X::.val (.int x)::L) S (.int x::S) := ES rfl
theorem w100_419 : EW lw 100 419 421 L S (.int 64::S) := ES rfl
theorem w100_421 : EW lw 100 421 422 L (.int y::.int x::S) (.int (x - y)::S) := ES rfl
theorem w100_422 : EW lw 100 422 423 L (.int y::.long x::S) (.long (x <<< (y.toInt64 &&& 63))::S) := ES rfl
theorem w100_423 : EW lw 100 423 424 L (.long y::.long x::S) (.long (x ||| y)::S) := ES rfl
theorem w100_424j : W (pj lw) 100 424 (a::b::c::d::e::f::h::i::j::l::m::o::p::q::r::s::v::w::z::A::B::C::D::E::F::.val (.long y)::.second::L) (.long x::S) k n H Q ↔ W (pj lw) 100 426 (a::b::c::d::e::f::h::i::j::l::m::o::p::q::r::s::v::w::z::A::B::C::D::E::F::.val (.long x)::.second::L) S k n H Q := W_lst' (rfl : (pj lw).1 100 424 = some (.lstore 25, 2, 0)) rfl rfl
theorem w100_426 : EW lw 100 426 427 (a::b::.val (.ref x)::L) S (.ref x::S) := ES rfl
theorem w100_427 : EW lw 100 427 429 (a::b::c::d::e::f::h::i::j::l::m::o::p::q::r::s::v::w::y::z::A::B::C::D::E::F::G::I::J::K::M::N::O::P::R::T::U::V::X::.val (.int x)::L) S (.int x::S) := ES rfl
theorem w100_429 : W (pj lw) 100 429 L (.int x0::.ref a::S) k n H Q ↔ ((isO H a = true ∧ cs S + (2 + 11) + 13 ≤ 192) ∧ Cl (pj lw) 5 [.ref a, .int x0] H (fun v H => W (pj lw) 100 432 L (v.toList ++ S) k n H Q)) := W_inst (as := [.int x0]) (rfl : (pj lw).1 100 429 = some (.invokevirtual 36, 3, 5)) rfl rfl rfl (Nat.le_of_ble_eq_true rfl) (Nat.le_of_ble_eq_true rfl) ⟨rfl, rfl⟩
theorem w100_432 : Zw4 lw 100 432 100 435 100 438 := W_if_ne (len := 3) rfl rfl
theorem w100_435 : W (pj lw) 100 435 L S k n H Q ↔ W (pj lw) 100 842 L S k n H Q := W_goto rfl rfl
theorem w100_438 : EW lw 100 438 440 (a::b::c::d::e::f::h::i::j::l::m::o::p::q::r::s::v::w::y::z::A::B::C::D::E::F::G::I::J::K::M::N::O::P::R::T::U::V::X::.val (.int x)::L) S (.int x::S) := ES rfl
theorem w100_440 : EW lw 100 440 442 L S (.int 64::S) := ES rfl
theorem w100_442 : Zw0 lw 100 442 100 445 100 457 := W_icmp_ge (len := 3) rfl rfl
theorem w100_445 : EW lw 100 445 447 (a::b::c::d::e::f::h::i::j::l::m::o::p::q::r::s::v::w::y::z::A::B::C::D::E::F::G::.val (.long x)::L) S (.long x::S) := ES rfl
theorem w100_447 : EW lw 100 447 448 L S (.long 1::S) := ES rfl
theorem w100_448 : EW lw 100 448 450 (a::b::c::d::e::f::h::i::j::l::m::o::p::q::r::s::v::w::y::z::A::B::C::D::E::F::G::I::J::K::M::N::O::P::R::T::U::V::X::.val (.int x)::L) S (.int x::S) := ES rfl
theorem w100_450 : EW lw 100 450 451 L (.int y::.long x::S) (.long (x <<< (y.toInt64 &&& 63))::S) := ES rfl
theorem w100_451 : EW lw 100 451 452 L (.long y::.long x::S) (.long (x ||| y)::S) := ES rfl
theorem w100_452j : W (pj lw) 100 452 (a::b::c::d::e::f::h::i::j::l::m::o::p::q::r::s::v::w::z::A::B::C::D::E::F::G::I::.val (.long y)::.second::L) (.long x::S) k n H Q ↔ W (pj lw) 100 454 (a::b::c::d::e::f::h::i::j::l::m::o::p::q::r::s::v::w::z::A::B::C::D::E::F::G::I::.val (.long x)::.second::L) S k n H Q := W_lst' (rfl : (pj lw).1 100 452 = some (.lstore 27, 2, 0)) rfl rfl
theorem w100_454 : W (pj lw) 100 454 L S k n H Q ↔ W (pj lw) 100 469 L S k n H Q := W_goto rfl rfl
theorem w100_457 : EW lw 100 457 459 (a::b::c::d::e::f::h::i::j::l::m::o::p::q::r::s::v::w::y::z::A::B::C::D::E::F::G::I::J::.val (.long x)::L) S (.long x::S) := ES rfl
theorem w100_459 : EW lw 100 459 460 L S (.long 1::S) := ES rfl
theorem w100_460 : EW lw 100 460 462 (a::b::c::d::e::f::h::i::j::l::m::o::p::q::r::s::v::w::y::z::A::B::C::D::E::F::G::I::J::K::M::N::O::P::R::T::U::V::X::.val (.int x)::L) S (.int x::S) := ES rfl
theorem w100_462 : EW lw 100 462 464 L S (.int 64::S) := ES rfl
theorem w100_464 : EW lw 100 464 465 L (.int y::.int x::S) (.int (x - y)::S) := ES rfl
theorem w100_465 : EW lw 100 465 466 L (.int y::.long x::S) (.long (x <<< (y.toInt64 &&& 63))::S) := ES rfl
theorem w100_466 : EW lw 100 466 467 L (.long y::.long x::S) (.long (x ||| y)::S) := ES rfl
theorem w100_467j : W (pj lw) 100 467 (a::b::c::d::e::f::h::i::j::l::m::o::p::q::r::s::v::w::z::A::B::C::D::E::F::G::I::J::K::.val (.long y)::.second::L) (.long x::S) k n H Q ↔ W (pj lw) 100 469 (a::b::c::d::e::f::h::i::j::l::m::o::p::q::r::s::v::w::z::A::B::C::D::E::F::G::I::J::K::.val (.long x)::.second::L) S k n H Q := W_lst' (rfl : (pj lw).1 100 467 = some (.lstore 29, 2, 0)) rfl rfl
theorem w100_469 : EW lw 100 469 470 (a::b::.val (.ref x)::L) S (.ref x::S) := ES rfl
theorem w100_470 : EW lw 100 470 472 (a::b::c::d::e::f::h::i::j::l::m::o::p::q::r::s::v::w::y::z::A::B::C::D::E::F::G::I::J::K::M::N::O::P::R::T::U::V::X::.val (.int x)::L) S (.int x::S) := ES rfl
theorem w100_472 : EW lw 100 472 473 L S (.int 0::S) := ES rfl
theorem w100_473 : W (pj lw) 100 473 L (.int x1::.int x0::.ref a::S) k n H Q ↔ ((isO H a = true ∧ cs S + (3 + 11) + 26 ≤ 192) ∧ Cl (pj lw) 7 [.ref a, .int x0, .int x1] H (fun v H => W (pj lw) 100 476 L (v.toList ++ S) k n H Q)) := W_inst (as := [.int x0, .int x1]) (rfl : (pj lw).1 100 473 = some (.invokevirtual 50, 3, 7)) rfl rfl rfl (Nat.le_of_ble_eq_true rfl) (Nat.le_of_ble_eq_true rfl) ⟨rfl, rfl⟩
theorem w100_476 : W (pj lw) 100 476 (a::b::c::d::e::f::h::i::j::l::m::o::p::q::r::s::v::w::y::z::A::B::C::D::E::F::G::I::J::K::M::N::O::P::R::T::U::V::X::Y::Z::.unset::L) (.int x::S) k n H Q ↔ W (pj lw) 100 478 (a::b::c::d::e::f::h::i::j::l::m::o::p::q::r::s::v::w::y::z::A::B::C::D::E::F::G::I::J::K::M::N::O::P::R::T::U::V::X::Y::Z::.val (.int x)::L) S k n H Q := W_ist (rfl : (pj lw).1 100 476 = some (.istore 41, 2, 0)) rfl rfl
theorem w100_478 : EW lw 100 478 479 (a::b::.val (.ref x)::L) S (.ref x::S) := ES rfl
theorem w100_479 : EW lw 100 479 481 (a::b::c::d::e::f::h::i::j::l::m::o::p::q::r::s::v::w::y::z::A::B::C::D::E::F::G::I::J::K::M::N::O::P::R::T::U::V::X::.val (.int x)::L) S (.int x::S) := ES rfl
theorem w100_481 : EW lw 100 481 482 L S (.int 1::S) := ES rfl
theorem w100_482 : W (pj lw) 100 482 L (.int x1::.int x0::.ref a::S) k n H Q ↔ ((isO H a = true ∧ cs S + (3 + 11) + 26 ≤ 192) ∧ Cl (pj lw) 7 [.ref a, .int x0, .int x1] H (fun v H => W (pj lw) 100 485 L (v.toList ++ S) k n H Q)) := W_inst (as := [.int x0, .int x1]) (rfl : (pj lw).1 100 482 = some (.invokevirtual 50, 3, 7)) rfl rfl rfl (Nat.le_of_ble_eq_true rfl) (Nat.le_of_ble_eq_true rfl) ⟨rfl, rfl⟩
theorem w100_485 : W (pj lw) 100 485 (a::b::c::d::e::f::h::i::j::l::m::o::p::q::r::s::v::w::y::z::A::B::C::D::E::F::G::I::J::K::M::N::O::P::R::T::U::V::X::Y::Z::l41::.unset::L) (.int x::S) k n H Q ↔ W (pj lw) 100 487 (a::b::c::d::e::f::h::i::j::l::m::o::p::q::r::s::v::w::y::z::A::B::C::D::E::F::G::I::J::K::M::N::O::P::R::T::U::V::X::Y::Z::l41::.val (.int x)::L) S k n H Q := W_ist (rfl : (pj lw).1 100 485 = some (.istore 42, 2, 0)) rfl rfl
theorem w100_487 : EW lw 100 487 488 (a::b::.val (.ref x)::L) S (.ref x::S) := ES rfl
theorem w100_488 : EW lw 100 488 490 (a::b::c::d::e::f::h::i::j::l::m::o::p::q::r::s::v::w::y::z::A::B::C::D::E::F::G::I::J::K::M::N::O::P::R::T::U::V::X::.val (.int x)::L) S (.int x::S) := ES rfl
theorem w100_490 : W (pj lw) 100 490 L (.int x0::.ref a::S) k n H Q ↔ ((isO H a = true ∧ cs S + (2 + 11) + 26 ≤ 192) ∧ Cl (pj lw) 8 [.ref a, .int x0] H (fun v H => W (pj lw) 100 493 L (v.toList ++ S) k n H Q)) := W_inst (as := [.int x0]) (rfl : (pj lw).1 100 490 = some (.invokevirtual 53, 3, 8)) rfl rfl rfl (Nat.le_of_ble_eq_true rfl) (Nat.le_of_ble_eq_true rfl) ⟨rfl, rfl⟩
theorem w100_493 : W (pj lw) 100 493 (a::b::c::d::e::f::h::i::j::l::m::o::p::q::r::s::v::w::y::z::A::B::C::D::E::F::G::I::J::K::M::N::O::P::R::T::U::V::X::Y::Z::l41::l42::.unset::L) (.int x::S) k n H Q ↔ W (pj lw) 100 495 (a::b::c::d::e::f::h::i::j::l::m::o::p::q::r::s::v::w::y::z::A::B::C::D::E::F::G::I::J::K::M::N::O::P::R::T::U::V::X::Y::Z::l41::l42::.val (.int x)::L) S k n H Q := W_ist (rfl : (pj lw).1 100 493 = some (.istore 43, 2, 0)) rfl rfl
theorem w100_495 : EW lw 100 495 497 (a::b::c::d::e::f::h::i::j::l::m::o::p::q::r::s::v::w::y::z::A::B::C::D::E::F::G::I::J::K::M::N::O::P::R::.val (.long x)::L) S (.long x::S) := ES rfl
theorem w100_497 : EW lw 100 497 500 L S (.long 1000003::S) := ES rfl
theorem w100_500 : EW lw 100 500 501 L (.long y::.long x::S) (.long (x * y)::S) := ES rfl
theorem w100_501 : EW lw 100 501 503 (a::b::c::d::e::f::h::i::j::l::m::o::p::q::r::s::v::w::y::z::A::B::C::D::E::F::G::I::J::K::M::N::O::P::R::T::U::V::X::.val (.int x)::L) S (.int x::S) := ES rfl
theorem w100_503 : EW lw 100 503 504 L (.int x::S) (.long x.toInt64::S) := ES rfl
theorem w100_504 : EW lw 100 504 507 L S (.long 64::S) := ES rfl
theorem w100_507 : EW lw 100 507 508 L (.long y::.long x::S) (.long (x * y)::S) := ES rfl
theorem w100_508 : EW lw 100 508 510 (a::b::c::d::e::f::h::i::j::l::m::o::p::q::r::s::v::w::y::z::A::B::C::D::E::F::G::I::J::K::M::N::O::P::R::T::U::V::X::Y::Z::.val (.int x)::L) S (.int x::S) := ES rfl
theorem w100_510 : EW lw 100 510 511 L (.int x::S) (.long x.toInt64::S) := ES rfl
theorem w100_511 : EW lw 100 511 512 L (.long y::.long x::S) (.long (x + y)::S) := ES rfl
theorem w100_512 : EW lw 100 512 515 L S (.long 64::S) := ES rfl
theorem w100_515 : EW lw 100 515 516 L (.long y::.long x::S) (.long (x * y)::S) := ES rfl
theorem w100_516 : EW lw 100 516 518 (a::b::c::d::e::f::h::i::j::l::m::o::p::q::r::s::v::w::y::z::A::B::C::D::E::F::G::I::J::K::M::N::O::P::R::T::U::V::X::Y::Z::l41::.val (.int x)::L) S (.int x::S) := ES rfl
theorem w100_518 : EW lw 100 518 519 L (.int x::S) (.long x.toInt64::S) := ES rfl
theorem w100_519 : EW lw 100 519 520 L (.long y::.long x::S) (.long (x + y)::S) := ES rfl
theorem w100_520 : EW lw 100 520 523 L S (.long 4194304::S) := ES rfl
theorem w100_523 : EW lw 100 523 524 L (.long y::.long x::S) (.long (x * y)::S) := ES rfl
theorem w100_524 : EW lw 100 524 525 L (.long y::.long x::S) (.long (x + y)::S) := ES rfl
theorem w100_525 : EW lw 100 525 527 (a::b::c::d::e::f::h::i::j::l::m::o::p::q::r::s::v::w::y::z::A::B::C::D::E::F::G::I::J::K::M::N::O::P::R::T::U::V::X::Y::Z::l41::l42::.val (.int x)::L) S (.int x::S) := ES rfl
theorem w100_527 : EW lw 100 527 528 L (.int x::S) (.long x.toInt64::S) := ES rfl
theorem w100_528 : EW lw 100 528 529 L (.long y::.long x::S) (.long (x + y)::S) := ES rfl
theorem w100_529j : W (pj lw) 100 529 (a::b::c::d::e::f::h::i::j::l::m::o::p::q::r::s::v::w::z::A::B::C::D::E::F::G::I::J::K::M::N::O::P::R::T::.val (.long y)::.second::L) (.long x::S) k n H Q ↔ W (pj lw) 100 531 (a::b::c::d::e::f::h::i::j::l::m::o::p::q::r::s::v::w::z::A::B::C::D::E::F::G::I::J::K::M::N::O::P::R::T::.val (.long x)::.second::L) S k n H Q := W_lst' (rfl : (pj lw).1 100 529 = some (.lstore 35, 2, 0)) rfl rfl
theorem w100_531 : EW lw 100 531 532 L S (.int 1::S) := ES rfl
theorem w100_532 : EW lw 100 532 534 (a::b::c::d::e::f::h::i::j::l::m::o::p::q::r::s::v::w::y::z::A::B::C::D::E::F::G::I::J::K::M::N::O::P::R::T::U::V::X::Y::Z::.val (.int x)::L) S (.int x::S) := ES rfl
theorem w100_534 : EW lw 100 534 535 L (.int y::.int x::S) (.int (x <<< (y &&& 31))::S) := ES rfl
theorem w100_535 : W (pj lw) 100 535 (a::b::c::d::e::f::h::i::j::l::m::o::p::q::r::s::v::w::y::z::A::B::C::D::E::F::G::I::J::K::M::N::O::P::R::T::U::V::X::Y::Z::l41::l42::l43::.unset::L) (.int x::S) k n H Q ↔ W (pj lw) 100 537 (a::b::c::d::e::f::h::i::j::l::m::o::p::q::r::s::v::w::y::z::A::B::C::D::E::F::G::I::J::K::M::N::O::P::R::T::U::V::X::Y::Z::l41::l42::l43::.val (.int x)::L) S k n H Q := W_ist (rfl : (pj lw).1 100 535 = some (.istore 44, 2, 0)) rfl rfl
theorem w100_537 : EW lw 100 537 538 L S (.int 1::S) := ES rfl
theorem w100_538 : W (pj lw) 100 538 (a::b::c::d::e::f::h::i::j::l::m::o::p::q::r::s::v::w::y::z::A::B::C::D::E::F::G::I::J::K::M::N::O::P::R::T::U::V::X::Y::Z::l41::l42::l43::l44::.unset::L) (.int x::S) k n H Q ↔ W (pj lw) 100 540 (a::b::c::d::e::f::h::i::j::l::m::o::p::q::r::s::v::w::y::z::A::B::C::D::E::F::G::I::J::K::M::N::O::P::R::T::U::V::X::Y::Z::l41::l42::l43::l44::.val (.int x)::L) S k n H Q := W_ist (rfl : (pj lw).1 100 538 = some (.istore 45, 2, 0)) rfl rfl
theorem w100_540 : EW lw 100 540 541 L S (.int 0::S) := ES rfl
theorem w100_541 : W (pj lw) 100 541 (a::b::c::d::e::f::h::i::j::l::m::o::p::q::r::s::v::w::y::z::A::B::C::D::E::F::G::I::J::K::M::N::O::P::R::T::U::V::X::Y::Z::l41::l42::l43::l44::l45::.unset::L) (.int x::S) k n H Q ↔ W (pj lw) 100 543 (a::b::c::d::e::f::h::i::j::l::m::o::p::q::r::s::v::w::y::z::A::B::C::D::E::F::G::I::J::K::M::N::O::P::R::T::U::V::X::Y::Z::l41::l42::l43::l44::l45::.val (.int x)::L) S k n H Q := W_ist (rfl : (pj lw).1 100 541 = some (.istore 46, 2, 0)) rfl rfl
theorem w100_543 : EW lw 100 543 545 (a::b::c::d::e::f::h::i::j::l::m::o::p::q::r::s::v::w::y::z::A::B::C::D::E::F::G::I::J::K::M::N::O::P::R::T::U::V::X::Y::Z::l41::l42::l43::l44::l45::.val (.int x)::L) S (.int x::S) := ES rfl
theorem w100_545 : EW lw 100 545 547 L S (.int 40::S) := ES rfl
theorem w100_547 : Zw0 lw 100 547 100 550 100 697 := W_icmp_ge (len := 3) rfl rfl
theorem w100_550 : EW lw 100 550 552 (a::b::c::d::e::f::h::i::j::l::m::o::p::q::r::s::v::w::y::z::A::B::C::D::E::F::G::I::J::K::M::N::O::P::R::T::U::V::X::Y::Z::l41::l42::l43::l44::.val (.int x)::L) S (.int x::S) := ES rfl
theorem w100_552 : Zw4 lw 100 552 100 697 100 555 := W_if_eq (len := 3) rfl rfl
theorem w100_555 : EW lw 100 555 556 L S (.int 0::S) := ES rfl
theorem w100_556i : W (pj lw) 100 556 (a::b::c::d::e::f::h::i::j::l::m::o::p::q::r::s::v::w::z::A::B::C::D::E::F::G::I::J::K::M::N::O::P::R::T::U::V::X::Y::Z::l40::l41::l42::l43::l44::.val (.int y)::L) (.int x::S) k n H Q ↔ W (pj lw) 100 558 (a::b::c::d::e::f::h::i::j::l::m::o::p::q::r::s::v::w::z::A::B::C::D::E::F::G::I::J::K::M::N::O::P::R::T::U::V::X::Y::Z::l40::l41::l42::l43::l44::.val (.int x)::L) S k n H Q := W_ist (rfl : (pj lw).1 100 556 = some (.istore 45, 2, 0)) rfl rfl
theorem w100_558 : EW lw 100 558 559 L S (.int 0::S) := ES rfl
theorem w100_559 : W (pj lw) 100 559 (a::b::c::d::e::f::h::i::j::l::m::o::p::q::r::s::v::w::y::z::A::B::C::D::E::F::G::I::J::K::M::N::O::P::R::T::U::V::X::Y::Z::l41::l42::l43::l44::l45::l46::.unset::L) (.int x::S) k n H Q ↔ W (pj lw) 100 561 (a::b::c::d::e::f::h::i::j::l::m::o::p::q::r::s::v::w::y::z::A::B::C::D::E::F::G::I::J::K::M::N::O::P::R::T::U::V::X::Y::Z::l41::l42::l43::l44::l45::l46::.val (.int x)::L) S k n H Q := W_ist (rfl : (pj lw).1 100 559 = some (.istore 47, 2, 0)) rfl rfl
theorem w100_561 : EW lw 100 561 563 (a::b::c::d::e::f::h::i::j::l::m::o::p::q::r::s::v::w::y::z::A::B::C::D::E::F::G::I::J::K::M::N::O::P::R::T::U::V::X::Y::Z::l41::l42::l43::l44::l45::l46::.val (.int x)::L) S (.int x::S) := ES rfl
theorem w100_563 : EW lw 100 563 566 L S (.int 128::S) := ES rfl
theorem w100_566 : Zw0 lw 100 566 100 569 100 691 := W_icmp_ge (len := 3) rfl rfl
theorem w100_569 : EW lw 100 569 571 (a::b::c::d::e::f::h::i::j::l::m::o::p::q::r::s::v::w::y::z::A::B::C::D::E::F::G::I::J::K::M::N::O::P::R::T::U::V::X::Y::Z::l41::l42::l43::l44::l45::l46::.val (.int x)::L) S (.int x::S) := ES rfl
theorem w100_571 : EW lw 100 571 573 (a::b::c::d::e::f::h::i::j::l::m::o::p::q::r::s::v::w::y::z::A::B::C::D::E::F::G::I::J::K::M::N::O::P::R::T::U::V::X::.val (.int x)::L) S (.int x::S) := ES rfl
theorem w100_573 : Zw5 lw 100 573 100 685 100 576 := W_icmp_eq (len := 3) rfl rfl
theorem w100_576 : EW lw 100 576 577 (a::b::.val (.ref x)::L) S (.ref x::S) := ES rfl
theorem w100_577 : EW lw 100 577 579 (a::b::c::d::e::f::h::i::j::l::m::o::p::q::r::s::v::w::y::z::A::B::C::D::E::F::G::I::J::K::M::N::O::P::R::T::U::V::X::Y::Z::l41::l42::l43::l44::l45::l46::.val (.int x)::L) S (.int x::S) := ES rfl
theorem w100_579 : W (pj lw) 100 579 L (.int x0::.ref a::S) k n H Q ↔ ((isO H a = true ∧ cs S + (2 + 11) + 13 ≤ 192) ∧ Cl (pj lw) 5 [.ref a, .int x0] H (fun v H => W (pj lw) 100 582 L (v.toList ++ S) k n H Q)) := W_inst (as := [.int x0]) (rfl : (pj lw).1 100 579 = some (.invokevirtual 36, 3, 5)) rfl rfl rfl (Nat.le_of_ble_eq_true rfl) (Nat.le_of_ble_eq_true rfl) ⟨rfl, rfl⟩
theorem w100_582 : Zw4 lw 100 582 100 585 100 588 := W_if_ne (len := 3) rfl rfl
theorem w100_585 : W (pj lw) 100 585 L S k n H Q ↔ W (pj lw) 100 685 L S k n H Q := W_goto rfl rfl
theorem w100_588 : EW lw 100 588 589 (a::b::.val (.ref x)::L) S (.ref x::S) := ES rfl
theorem w100_589 : EW lw 100 589 591 (a::b::c::d::e::f::h::i::j::l::m::o::p::q::r::s::v::w::y::z::A::B::C::D::E::F::G::I::J::K::M::N::O::P::R::T::U::V::X::Y::Z::l41::l42::l43::l44::l45::l46::.val (.int x)::L) S (.int x::S) := ES rfl
theorem w100_591 : W (pj lw) 100 591 L (.int x0::.ref a::S) k n H Q ↔ ((isO H a = true ∧ cs S + (2 + 11) + 26 ≤ 192) ∧ Cl (pj lw) 8 [.ref a, .int x0] H (fun v H => W (pj lw) 100 594 L (v.toList ++ S) k n H Q)) := W_inst (as := [.int x0]) (rfl : (pj lw).1 100 591 = some (.invokevirtual 53, 3, 8)) rfl rfl rfl (Nat.le_of_ble_eq_true rfl) (Nat.le_of_ble_eq_true rfl) ⟨rfl, rfl⟩
theorem w100_594 : EW lw 100 594 596 (a::b::c::d::e::f::h::i::j::l::m::o::p::q::r::s::v::w::y::z::A::B::C::D::E::F::G::I::J::K::M::N::O::P::R::T::U::V::X::Y::Z::l41::l42::l43::l44::l45::l46::.val (.int x)::L) S (.int x::S) := ES rfl
theorem w100_596 : EW lw 100 596 598 (a::b::c::d::e::f::h::i::j::l::m::o::p::q::r::s::v::w::y::z::A::B::C::D::E::F::G::I::J::K::M::N::O::P::R::T::U::V::X::Y::Z::l41::l42::.val (.int x)::L) S (.int x::S) := ES rfl
theorem w100_598 : EW lw 100 598 600 (a::b::c::d::e::f::h::i::j::l::m::o::p::q::r::s::v::w::y::z::A::B::C::D::E::F::G::I::J::K::M::N::O::P::R::T::U::V::X::.val (.int x)::L) S (.int x::S) := ES rfl
theorem w100_600 : W (pj lw) 100 600 L (.int x3::.int x2::.int x1::.int x0::S) k n H Q ↔ (cs S + (4 + 11) + 0 ≤ 192 ∧ Cl (pj lw) 105 [.int x0, .int x1, .int x2, .int x3] H (fun v H => W (pj lw) 100 603 L (v.toList ++ S) k n H Q)) := W_stat (a := [.int x0, .int x1, .int x2, .int x3]) (rfl : (pj lw).1 100 600 = some (.invokestatic 62, 3, 105)) rfl rfl rfl (Nat.le_of_ble_eq_true rfl) (Nat.le_of_ble_eq_true rfl) ⟨rfl, rfl⟩
theorem w100_603 : Zw4 lw 100 603 100 606 100 609 := W_if_ne (len := 3) rfl rfl
theorem w100_606 : W (pj lw) 100 606 L S k n H Q ↔ W (pj lw) 100 685 L S k n H Q := W_goto rfl rfl
theorem w100_609 : EW lw 100 609 610 (a::b::.val (.ref x)::L) S (.ref x::S) := ES rfl
theorem w100_610 : EW lw 100 610 612 (a::b::c::d::e::f::h::i::j::l::m::o::p::q::r::s::v::w::y::z::A::B::C::D::E::F::G::I::J::K::M::N::O::P::R::T::U::V::X::Y::Z::l41::l42::l43::l44::l45::l46::.val (.int x)::L) S (.int x::S) := ES rfl
theorem w100_612 : EW lw 100 612 613 L S (.int 0::S) := ES rfl
theorem w100_613 : W (pj lw) 100 613 L (.int x1::.int x0::.ref a::S) k n H Q ↔ ((isO H a = true ∧ cs S + (3 + 11) + 26 ≤ 192) ∧ Cl (pj lw) 7 [.ref a, .int x0, .int x1] H (fun v H => W (pj lw) 100 616 L (v.toList ++ S) k n H Q)) := W_inst (as := [.int x0, .int x1]) (rfl : (pj lw).1 100 613 = some (.invokevirtual 50, 3, 7)) rfl rfl rfl (Nat.le_of_ble_eq_true rfl) (Nat.le_of_ble_eq_true rfl) ⟨rfl, rfl⟩
theorem w100_616 : W (pj lw) 100 616 (a::b::c::d::e::f::h::i::j::l::m::o::p::q::r::s::v::w::y::z::A::B::C::D::E::F::G::I::J::K::M::N::O::P::R::T::U::V::X::Y::Z::l41::l42::l43::l44::l45::l46::l47::.unset::L) (.int x::S) k n H Q ↔ W (pj lw) 100 618 (a::b::c::d::e::f::h::i::j::l::m::o::p::q::r::s::v::w::y::z::A::B::C::D::E::F::G::I::J::K::M::N::O::P::R::T::U::V::X::Y::Z::l41::l42::l43::l44::l45::l46::l47::.val (.int x)::L) S k n H Q := W_ist (rfl : (pj lw).1 100 616 = some (.istore 48, 2, 0)) rfl rfl
theorem w100_618 : EW lw 100 618 619 (a::b::.val (.ref x)::L) S (.ref x::S) := ES rfl
theorem w100_619 : EW lw 100 619 621 (a::b::c::d::e::f::h::i::j::l::m::o::p::q::r::s::v::w::y::z::A::B::C::D::E::F::G::I::J::K::M::N::O::P::R::T::U::V::X::Y::Z::l41::l42::l43::l44::l45::l46::.val (.int x)::L) S (.int x::S) := ES rfl
theorem w100_621 : EW lw 100 621 622 L S (.int 1::S) := ES rfl
theorem w100_622 : W (pj lw) 100 622 L (.int x1::.int x0::.ref a::S) k n H Q ↔ ((isO H a = true ∧ cs S + (3 + 11) + 26 ≤ 192) ∧ Cl (pj lw) 7 [.ref a, .int x0, .int x1] H (fun v H => W (pj lw) 100 625 L (v.toList ++ S) k n H Q)) := W_inst (as := [.int x0, .int x1]) (rfl : (pj lw).1 100 622 = some (.invokevirtual 50, 3, 7)) rfl rfl rfl (Nat.le_of_ble_eq_true rfl) (Nat.le_of_ble_eq_true rfl) ⟨rfl, rfl⟩
theorem w100_625 : W (pj lw) 100 625 (a::b::c::d::e::f::h::i::j::l::m::o::p::q::r::s::v::w::y::z::A::B::C::D::E::F::G::I::J::K::M::N::O::P::R::T::U::V::X::Y::Z::l41::l42::l43::l44::l45::l46::l47::l48::.unset::L) (.int x::S) k n H Q ↔ W (pj lw) 100 627 (a::b::c::d::e::f::h::i::j::l::m::o::p::q::r::s::v::w::y::z::A::B::C::D::E::F::G::I::J::K::M::N::O::P::R::T::U::V::X::Y::Z::l41::l42::l43::l44::l45::l46::l47::l48::.val (.int x)::L) S k n H Q := W_ist (rfl : (pj lw).1 100 625 = some (.istore 49, 2, 0)) rfl rfl
theorem w100_627 : EW lw 100 627 629 (a::b::c::d::e::f::h::i::j::l::m::o::p::q::r::s::v::w::y::z::A::B::C::D::E::F::G::I::J::K::M::N::O::P::R::T::U::V::X::Y::Z::l41::l42::l43::.val (.int x)::L) S (.int x::S) := ES rfl
theorem w100_629 : EW lw 100 629 631 (a::b::c::d::e::f::h::i::j::l::m::o::p::q::r::s::v::w::y::z::A::B::C::D::E::F::G::I::J::K::M::N::O::P::R::T::U::V::X::Y::Z::l41::l42::l43::l44::l45::l46::l47::.val (.int x)::L) S (.int x::S) := ES rfl
theorem w100_631 : EW lw 100 631 632 L (.int y::.int x::S) (.int (Jvm.Free.XT.ushr x y)::S) := ES rfl
theorem w100_632 : EW lw 100 632 633 L S (.int 1::S) := ES rfl
theorem w100_633 : EW lw 100 633 634 L (.int y::.int x::S) (.int (x &&& y)::S) := ES rfl
theorem w100_634 : Zw4 lw 100 634 100 641 100 637 := W_if_eq (len := 3) rfl rfl
theorem w100_637 : EW lw 100 637 638 L S (.int 1::S) := ES rfl
theorem w100_638 : W (pj lw) 100 638 L S k n H Q ↔ W (pj lw) 100 642 L S k n H Q := W_goto rfl rfl
theorem w100_641 : EW lw 100 641 642 L S (.int 0::S) := ES rfl
theorem w100_642 : W (pj lw) 100 642 (a::b::c::d::e::f::h::i::j::l::m::o::p::q::r::s::v::w::y::z::A::B::C::D::E::F::G::I::J::K::M::N::O::P::R::T::U::V::X::Y::Z::l41::l42::l43::l44::l45::l46::l47::l48::l49::.unset::L) (.int x::S) k n H Q ↔ W (pj lw) 100 644 (a::b::c::d::e::f::h::i::j::l::m::o::p::q::r::s::v::w::y::z::A::B::C::D::E::F::G::I::J::K::M::N::O::P::R::T::U::V::X::Y::Z::l41::l42::l43::l44::l45::l46::l47::l48::l49::.val (.int x)::L) S k n H Q := W_ist (rfl : (pj lw).1 100 642 = some (.istore 50, 2, 0)) rfl rfl
theorem w100_644 : EW lw 100 644 646 (a::b::c::d::e::f::h::i::j::l::m::o::p::q::r::s::v::w::y::z::A::B::C::D::E::F::G::I::J::K::M::N::O::P::R::T::U::V::X::Y::Z::l41::l42::l43::.val (.int x)::L) S (.int x::S) := ES rfl
theorem w100_646 : EW lw 100 646 648 (a::b::c::d::e::f::h::i::j::l::m::o::p::q::r::s::v::w::y::z::A::B::C::D::E::F::G::I::J::K::M::N::O::P::R::T::U::V::X::Y::Z::l41::l42::l43::l44::l45::l46::l47::l48::.val (.int x)::L) S (.int x::S) := ES rfl
theorem w100_648 : EW lw 100 648 649 L (.int y::.int x::S) (.int (Jvm.Free.XT.ushr x y)::S) := ES rfl
theorem w100_649 : EW lw 100 649 650 L S (.int 1::S) := ES rfl
theorem w100_650 : EW lw 100 650 651 L (.int y::.int x::S) (.int (x &&& y)::S) := ES rfl
theorem w100_651 : Zw4 lw 100 651 100 658 100 654 := W_if_eq (len := 3) rfl rfl
theorem w100_654 : EW lw 100 654 655 L S (.int 1::S) := ES rfl
theorem w100_655 : W (pj lw) 100 655 L S k n H Q ↔ W (pj lw) 100 659 L S k n H Q := W_goto rfl rfl
theorem w100_658 : EW lw 100 658 659 L S (.int 0::S) := ES rfl
theorem w100_659 : W (pj lw) 100 659 (a::b::c::d::e::f::h::i::j::l::m::o::p::q::r::s::v::w::y::z::A::B::C::D::E::F::G::I::J::K::M::N::O::P::R::T::U::V::X::Y::Z::l41::l42::l43::l44::l45::l46::l47::l48::l49::l50::.unset::L) (.int x::S) k n H Q ↔ W (pj lw) 100 661 (a::b::c::d::e::f::h::i::j::l::m::o::p::q::r::s::v::w::y::z::A::B::C::D::E::F::G::I::J::K::M::N::O::P::R::T::U::V::X::Y::Z::l41::l42::l43::l44::l45::l46::l47::l48::l49::l50::.val (.int x)::L) S k n H Q := W_ist (rfl : (pj lw).1 100 659 = some (.istore 51, 2, 0)) rfl rfl
theorem w100_661 : EW lw 100 661 663 (a::b::c::d::e::f::h::i::j::l::m::o::p::q::r::s::v::w::y::z::A::B::C::D::E::F::G::I::J::K::M::N::O::P::R::T::U::V::X::Y::Z::l41::l42::l43::l44::l45::l46::l47::l48::l49::.val (.int x)::L) S (.int x::S) := ES rfl
theorem w100_663 : EW lw 100 663 665 (a::b::c::d::e::f::h::i::j::l::m::o::p::q::r::s::v::w::y::z::A::B::C::D::E::F::G::I::J::K::M::N::O::P::R::T::U::V::X::Y::Z::l41::l42::l43::l44::l45::l46::l47::l48::l49::l50::.val (.int x)::L) S (.int x::S) := ES rfl
theorem w100_665 : Zw5 lw 100 665 100 685 100 668 := W_icmp_eq (len := 3) rfl rfl
theorem w100_668 : EW lw 100 668 670 (a::b::c::d::e::f::h::i::j::l::m::o::p::q::r::s::v::w::y::z::A::B::C::D::E::F::G::I::J::K::M::N::O::P::R::T::U::V::X::Y::Z::l41::l42::l43::.val (.int x)::L) S (.int x::S) := ES rfl
theorem w100_670 : EW lw 100 670 671 L S (.int 1::S) := ES rfl
theorem w100_671 : EW lw 100 671 673 (a::b::c::d::e::f::h::i::j::l::m::o::p::q::r::s::v::w::y::z::A::B::C::D::E::F::G::I::J::K::M::N::O::P::R::T::U::V::X::Y::Z::l41::l42::l43::l44::l45::l46::l47::.val (.int x)::L) S (.int x::S) := ES rfl
theorem w100_673 : EW lw 100 673 674 L (.int y::.int x::S) (.int (x <<< (y &&& 31))::S) := ES rfl
theorem w100_674 : EW lw 100 674 675 L S (.int 1::S) := ES rfl
theorem w100_675 : EW lw 100 675 677 (a::b::c::d::e::f::h::i::j::l::m::o::p::q::r::s::v::w::y::z::A::B::C::D::E::F::G::I::J::K::M::N::O::P::R::T::U::V::X::Y::Z::l41::l42::l43::l44::l45::l46::l47::l48::.val (.int x)::L) S (.int x::S) := ES rfl
theorem w100_677 : EW lw 100 677 678 L (.int y::.int x::S) (.int (x <<< (y &&& 31))::S) := ES rfl
theorem w100_678 : EW lw 100 678 679 L (.int y::.int x::S) (.int (x ||| y)::S) := ES rfl
theorem w100_679 : EW lw 100 679 680 L (.int y::.int x::S) (.int (x ||| y)::S) := ES rfl
theorem w100_680i : W (pj lw) 100 680 (a::b::c::d::e::f::h::i::j::l::m::o::p::q::r::s::v::w::z::A::B::C::D::E::F::G::I::J::K::M::N::O::P::R::T::U::V::X::Y::Z::l40::l41::l42::l43::.val (.int y)::L) (.int x::S) k n H Q ↔ W (pj lw) 100 682 (a::b::c::d::e::f::h::i::j::l::m::o::p::q::r::s::v::w::z::A::B::C::D::E::F::G::I::J::K::M::N::O::P::R::T::U::V::X::Y::Z::l40::l41::l42::l43::.val (.int x)::L) S k n H Q := W_ist (rfl : (pj lw).1 100 680 = some (.istore 44, 2, 0)) rfl rfl
theorem w100_682 : EW lw 100 682 683 L S (.int 1::S) := ES rfl
theorem w100_683i : W (pj lw) 100 683 (a::b::c::d::e::f::h::i::j::l::m::o::p::q::r::s::v::w::z::A::B::C::D::E::F::G::I::J::K::M::N::O::P::R::T::U::V::X::Y::Z::l40::l41::l42::l43::l44::.val (.int y)::L) (.int x::S) k n H Q ↔ W (pj lw) 100 685 (a::b::c::d::e::f::h::i::j::l::m::o::p::q::r::s::v::w::z::A::B::C::D::E::F::G::I::J::K::M::N::O::P::R::T::U::V::X::Y::Z::l40::l41::l42::l43::l44::.val (.int x)::L) S k n H Q := W_ist (rfl : (pj lw).1 100 683 = some (.istore 45, 2, 0)) rfl rfl
theorem w100_685 : W (pj lw) 100 685 (a::b::c::d::e::f::h::i::j::l::m::o::p::q::r::s::v::w::y::z::A::B::C::D::E::F::G::I::J::K::M::N::O::P::R::T::U::V::X::Y::Z::l41::l42::l43::l44::l45::l46::.val (.int x)::L) S k n H Q ↔ W (pj lw) 100 688 (a::b::c::d::e::f::h::i::j::l::m::o::p::q::r::s::v::w::y::z::A::B::C::D::E::F::G::I::J::K::M::N::O::P::R::T::U::V::X::Y::Z::l41::l42::l43::l44::l45::l46::.val (.int (x + 1))::L) S k n H Q := W_s rfl rfl rfl rfl
theorem w100_688 : W (pj lw) 100 688 L S k n H Q ↔ W (pj lw) 100 561 L S k n H Q := W_goto rfl rfl
theorem w100_691 : W (pj lw) 100 691 (a::b::c::d::e::f::h::i::j::l::m::o::p::q::r::s::v::w::y::z::A::B::C::D::E::F::G::I::J::K::M::N::O::P::R::T::U::V::X::Y::Z::l41::l42::l43::l44::l45::.val (.int x)::L) S k n H Q ↔ W (pj lw) 100 694 (a::b::c::d::e::f::h::i::j::l::m::o::p::q::r::s::v::w::y::z::A::B::C::D::E::F::G::I::J::K::M::N::O::P::R::T::U::V::X::Y::Z::l41::l42::l43::l44::l45::.val (.int (x + 1))::L) S k n H Q := W_s rfl rfl rfl rfl
theorem w100_694 : W (pj lw) 100 694 L S k n H Q ↔ W (pj lw) 100 543 L S k n H Q := W_goto rfl rfl
theorem w100_697 : EW lw 100 697 699 (a::b::c::d::e::f::h::i::j::l::m::o::p::q::r::s::v::w::y::z::A::B::C::D::E::F::G::I::J::K::M::N::O::P::R::T::U::V::X::Y::Z::l41::l42::l43::.val (.int x)::L) S (.int x::S) := ES rfl
theorem w100_699 : EW lw 100 699 701 (a::b::c::d::e::f::h::i::j::l::m::o::p::q::r::s::v::w::y::z::A::B::C::D::E::F::G::I::J::K::M::N::O::P::R::T::U::V::X::Y::Z::l41::.val (.int x)::L) S (.int x::S) := ES rfl
theorem w100_701 : EW lw 100 701 702 L (.int y::.int x::S) (.int (Jvm.Free.XT.ushr x y)::S) := ES rfl
theorem w100_702 : EW lw 100 702 703 L S (.int 1::S) := ES rfl
theorem w100_703 : EW lw 100 703 704 L (.int y::.int x::S) (.int (x &&& y)::S) := ES rfl
theorem w100_704 : Zw4 lw 100 704 100 707 100 746 := W_if_ne (len := 3) rfl rfl
theorem w100_707 : EW lw 100 707 709 (a::b::c::d::e::f::h::i::j::l::m::o::p::q::r::s::v::w::y::z::A::B::C::D::E::F::G::I::J::K::M::N::O::P::R::T::U::V::X::.val (.int x)::L) S (.int x::S) := ES rfl
theorem w100_709 : EW lw 100 709 711 L S (.int 64::S) := ES rfl
theorem w100_711 : Zw0 lw 100 711 100 714 100 726 := W_icmp_ge (len := 3) rfl rfl
theorem w100_714 : EW lw 100 714 716 (a::b::c::d::e::f::h::i::j::l::m::o::p::q::r::s::v::w::y::z::A::B::C::D::E::F::G::I::J::K::M::.val (.long x)::L) S (.long x::S) := ES rfl
theorem w100_716 : EW lw 100 716 717 L S (.long 1::S) := ES rfl
theorem w100_717 : EW lw 100 717 719 (a::b::c::d::e::f::h::i::j::l::m::o::p::q::r::s::v::w::y::z::A::B::C::D::E::F::G::I::J::K::M::N::O::P::R::T::U::V::X::.val (.int x)::L) S (.int x::S) := ES rfl
theorem w100_719 : EW lw 100 719 720 L (.int y::.long x::S) (.long (x <<< (y.toInt64 &&& 63))::S) := ES rfl
theorem w100_720 : EW lw 100 720 721 L (.long y::.long x::S) (.long (x ||| y)::S) := ES rfl
theorem w100_721j : W (pj lw) 100 721 (a::b::c::d::e::f::h::i::j::l::m::o::p::q::r::s::v::w::z::A::B::C::D::E::F::G::I::J::K::M::N::.val (.long y)::.second::L) (.long x::S) k n H Q ↔ W (pj lw) 100 723 (a::b::c::d::e::f::h::i::j::l::m::o::p::q::r::s::v::w::z::A::B::C::D::E::F::G::I::J::K::M::N::.val (.long x)::.second::L) S k n H Q := W_lst' (rfl : (pj lw).1 100 721 = some (.lstore 31, 2, 0)) rfl rfl
theorem w100_723 : W (pj lw) 100 723 L S k n H Q ↔ W (pj lw) 100 738 L S k n H Q := W_goto rfl rfl
theorem w100_726 : EW lw 100 726 728 (a::b::c::d::e::f::h::i::j::l::m::o::p::q::r::s::v::w::y::z::A::B::C::D::E::F::G::I::J::K::M::N::O::.val (.long x)::L) S (.long x::S) := ES rfl
theorem w100_728 : EW lw 100 728 729 L S (.long 1::S) := ES rfl
theorem w100_729 : EW lw 100 729 731 (a::b::c::d::e::f::h::i::j::l::m::o::p::q::r::s::v::w::y::z::A::B::C::D::E::F::G::I::J::K::M::N::O::P::R::T::U::V::X::.val (.int x)::L) S (.int x::S) := ES rfl
theorem w100_731 : EW lw 100 731 733 L S (.int 64::S) := ES rfl
theorem w100_733 : EW lw 100 733 734 L (.int y::.int x::S) (.int (x - y)::S) := ES rfl
theorem w100_734 : EW lw 100 734 735 L (.int y::.long x::S) (.long (x <<< (y.toInt64 &&& 63))::S) := ES rfl
theorem w100_735 : EW lw 100 735 736 L (.long y::.long x::S) (.long (x ||| y)::S) := ES rfl
theorem w100_736j : W (pj lw) 100 736 (a::b::c::d::e::f::h::i::j::l::m::o::p::q::r::s::v::w::z::A::B::C::D::E::F::G::I::J::K::M::N::O::P::.val (.long y)::.second::L) (.long x::S) k n H Q ↔ W (pj lw) 100 738 (a::b::c::d::e::f::h::i::j::l::m::o::p::q::r::s::v::w::z::A::B::C::D::E::F::G::I::J::K::M::N::O::P::.val (.long x)::.second::L) S k n H Q := W_lst' (rfl : (pj lw).1 100 736 = some (.lstore 33, 2, 0)) rfl rfl
theorem w100_738 : EW lw 100 738 740 (a::b::c::d::e::f::h::i::j::l::m::o::p::q::r::s::v::w::y::z::A::B::C::D::E::F::G::I::J::K::M::N::O::P::R::T::U::.val (.long x)::L) S (.long x::S) := ES rfl
theorem w100_740 : EW lw 100 740 742 (a::b::c::d::e::f::h::i::j::l::m::o::p::q::r::s::v::w::y::z::A::B::C::D::E::F::G::I::J::K::M::N::O::P::R::T::U::V::X::Y::Z::l41::l42::.val (.int x)::L) S (.int x::S) := ES rfl
theorem w100_742 : EW lw 100 742 743 L (.int x::S) (.long x.toInt64::S) := ES rfl
theorem w100_743 : EW lw 100 743 744 L (.long y::.long x::S) (.long (x + y)::S) := ES rfl
theorem w100_744j : W (pj lw) 100 744 (a::b::c::d::e::f::h::i::j::l::m::o::p::q::r::s::v::w::z::A::B::C::D::E::F::G::I::J::K::M::N::O::P::R::T::U::V::.val (.long y)::.second::L) (.long x::S) k n H Q ↔ W (pj lw) 100 746 (a::b::c::d::e::f::h::i::j::l::m::o::p::q::r::s::v::w::z::A::B::C::D::E::F::G::I::J::K::M::N::O::P::R::T::U::V::.val (.long x)::.second::L) S k n H Q := W_lst' (rfl : (pj lw).1 100 744 = some (.lstore 37, 2, 0)) rfl rfl
theorem w100_746 : EW lw 100 746 748 (a::b::c::d::e::f::h::i::j::l::m::o::p::q::r::s::v::w::y::z::A::B::C::D::E::F::G::I::J::K::M::N::O::P::R::T::U::V::X::Y::.val (.int x)::L) S (.int x::S) := ES rfl
theorem w100_748 : Zw4 lw 100 748 100 751 100 790 := W_if_ne (len := 3) rfl rfl
theorem w100_751 : EW lw 100 751 752 (a::b::.val (.ref x)::L) S (.ref x::S) := ES rfl
theorem w100_752 : EW lw 100 752 754 (a::b::c::d::e::f::h::i::j::l::m::o::p::q::r::s::v::w::y::z::A::B::C::D::E::F::G::I::J::K::M::N::O::P::R::T::U::V::X::Y::Z::.val (.int x)::L) S (.int x::S) := ES rfl
theorem w100_754 : EW lw 100 754 756 (a::b::c::d::e::f::h::i::j::l::m::o::p::q::r::s::v::w::y::z::A::B::C::D::E::F::G::I::J::K::M::N::O::P::R::T::U::V::X::Y::Z::l41::.val (.int x)::L) S (.int x::S) := ES rfl
theorem w100_756 : W (pj lw) 100 756 L (.int x1::.int x0::.ref a::S) k n H Q ↔ ((isO H a = true ∧ cs S + (3 + 11) + 50 ≤ 192) ∧ Cl (pj lw) 14 [.ref a, .int x0, .int x1] H (fun v H => W (pj lw) 100 759 L (v.toList ++ S) k n H Q)) := W_inst (as := [.int x0, .int x1]) (rfl : (pj lw).1 100 756 = some (.invokevirtual 66, 3, 14)) rfl rfl rfl (Nat.le_of_ble_eq_true rfl) (Nat.le_of_ble_eq_true rfl) ⟨rfl, rfl⟩
theorem w100_759 : W (pj lw) 100 759 (a::b::c::d::e::f::h::i::j::l::m::o::p::q::r::s::v::w::y::z::A::B::C::D::E::F::G::I::J::K::M::N::O::P::R::T::U::V::X::Y::Z::l41::l42::l43::l44::l45::.unset::L) (.int x::S) k n H Q ↔ W (pj lw) 100 761 (a::b::c::d::e::f::h::i::j::l::m::o::p::q::r::s::v::w::y::z::A::B::C::D::E::F::G::I::J::K::M::N::O::P::R::T::U::V::X::Y::Z::l41::l42::l43::l44::l45::.val (.int x)::L) S k n H Q := W_ist (rfl : (pj lw).1 100 759 = some (.istore 46, 2, 0)) rfl rfl
theorem w100_761 : EW lw 100 761 763 (a::b::c::d::e::f::h::i::j::l::m::o::p::q::r::s::v::w::y::z::A::B::C::D::E::F::G::I::J::K::M::N::O::P::R::T::U::V::X::Y::Z::l41::l42::l43::l44::l45::.val (.int x)::L) S (.int x::S) := ES rfl
theorem w100_763 : EW lw 100 763 764 L S (.int (-1)::S) := ES rfl
theorem w100_764 : Zw5 lw 100 764 100 785 100 767 := W_icmp_eq (len := 3) rfl rfl
theorem w100_767 : EW lw 100 767 768 (a::b::.val (.ref x)::L) S (.ref x::S) := ES rfl
theorem w100_768 : EW lw 100 768 770 (a::b::c::d::e::f::h::i::j::l::m::o::p::q::r::s::v::w::y::z::A::B::C::D::E::F::G::I::J::K::M::N::O::P::R::T::U::V::X::Y::Z::l41::l42::l43::l44::l45::.val (.int x)::L) S (.int x::S) := ES rfl
theorem w100_770 : W (pj lw) 100 770 L (.int x0::.ref a::S) k n H Q ↔ ((isO H a = true ∧ cs S + (2 + 11) + 26 ≤ 192) ∧ Cl (pj lw) 8 [.ref a, .int x0] H (fun v H => W (pj lw) 100 773 L (v.toList ++ S) k n H Q)) := W_inst (as := [.int x0]) (rfl : (pj lw).1 100 770 = some (.invokevirtual 53, 3, 8)) rfl rfl rfl (Nat.le_of_ble_eq_true rfl) (Nat.le_of_ble_eq_true rfl) ⟨rfl, rfl⟩
theorem w100_773 : EW lw 100 773 775 (a::b::c::d::e::f::h::i::j::l::m::o::p::q::r::s::v::w::y::z::A::B::C::D::E::F::G::I::J::K::M::N::O::P::R::T::U::V::X::Y::Z::l41::l42::l43::l44::l45::.val (.int x)::L) S (.int x::S) := ES rfl
theorem w100_775 : EW lw 100 775 777 (a::b::c::d::e::f::h::i::j::l::m::o::p::q::r::s::v::w::y::z::A::B::C::D::E::F::G::I::J::K::M::N::O::P::R::T::U::V::X::Y::Z::l41::l42::.val (.int x)::L) S (.int x::S) := ES rfl
theorem w100_777 : EW lw 100 777 779 (a::b::c::d::e::f::h::i::j::l::m::o::p::q::r::s::v::w::y::z::A::B::C::D::E::F::G::I::J::K::M::N::O::P::R::T::U::V::X::.val (.int x)::L) S (.int x::S) := ES rfl
theorem w100_779 : W (pj lw) 100 779 L (.int x3::.int x2::.int x1::.int x0::S) k n H Q ↔ (cs S + (4 + 11) + 0 ≤ 192 ∧ Cl (pj lw) 105 [.int x0, .int x1, .int x2, .int x3] H (fun v H => W (pj lw) 100 782 L (v.toList ++ S) k n H Q)) := W_stat (a := [.int x0, .int x1, .int x2, .int x3]) (rfl : (pj lw).1 100 779 = some (.invokestatic 62, 3, 105)) rfl rfl rfl (Nat.le_of_ble_eq_true rfl) (Nat.le_of_ble_eq_true rfl) ⟨rfl, rfl⟩
theorem w100_782 : Zw4 lw 100 782 100 785 100 787 := W_if_ne (len := 3) rfl rfl
theorem w100_787 : W (pj lw) 100 787 L S k n H Q ↔ W (pj lw) 100 842 L S k n H Q := W_goto rfl rfl
theorem w100_790 : EW lw 100 790 791 (a::b::.val (.ref x)::L) S (.ref x::S) := ES rfl
theorem w100_791 : EW lw 100 791 793 (a::b::c::d::e::f::h::i::j::l::m::o::p::q::r::s::v::w::y::z::A::B::C::D::E::F::G::I::J::K::M::N::O::P::R::T::U::V::X::.val (.int x)::L) S (.int x::S) := ES rfl
theorem w100_793 : W (pj lw) 100 793 L (.int x0::.ref a::S) k n H Q ↔ ((isO H a = true ∧ cs S + (2 + 11) + 50 ≤ 192) ∧ Cl (pj lw) 15 [.ref a, .int x0] H (fun v H => W (pj lw) 100 796 L (v.toList ++ S) k n H Q)) := W_inst (as := [.int x0]) (rfl : (pj lw).1 100 793 = some (.invokevirtual 69, 3, 15)) rfl rfl rfl (Nat.le_of_ble_eq_true rfl) (Nat.le_of_ble_eq_true rfl) ⟨rfl, rfl⟩
theorem w100_796 : W (pj lw) 100 796 (a::b::c::d::e::f::h::i::j::l::m::o::p::q::r::s::v::w::y::z::A::B::C::D::E::F::G::I::J::K::M::N::O::P::R::T::U::V::X::Y::Z::l41::l42::l43::l44::l45::.unset::L) (.int x::S) k n H Q ↔ W (pj lw) 100 798 (a::b::c::d::e::f::h::i::j::l::m::o::p::q::r::s::v::w::y::z::A::B::C::D::E::F::G::I::J::K::M::N::O::P::R::T::U::V::X::Y::Z::l41::l42::l43::l44::l45::.val (.int x)::L) S k n H Q := W_ist (rfl : (pj lw).1 100 796 = some (.istore 46, 2, 0)) rfl rfl
theorem w100_798 : EW lw 100 798 800 (a::b::c::d::e::f::h::i::j::l::m::o::p::q::r::s::v::w::y::z::A::B::C::D::E::F::G::I::J::K::M::N::O::P::R::T::U::V::X::Y::Z::l41::l42::l43::l44::l45::.val (.int x)::L) S (.int x::S) := ES rfl
theorem w100_800 : EW lw 100 800 801 L S (.int (-1)::S) := ES rfl
theorem w100_801 : Zw5 lw 100 801 100 842 100 804 := W_icmp_eq (len := 3) rfl rfl
theorem w100_804 : EW lw 100 804 805 (a::b::.val (.ref x)::L) S (.ref x::S) := ES rfl
theorem w100_805 : EW lw 100 805 807 (a::b::c::d::e::f::h::i::j::l::m::o::p::q::r::s::v::w::y::z::A::B::C::D::E::F::G::I::J::K::M::N::O::P::R::T::U::V::X::Y::Z::l41::l42::l43::l44::l45::.val (.int x)::L) S (.int x::S) := ES rfl
theorem w100_807 : W (pj lw) 100 807 L (.int x0::.ref a::S) k n H Q ↔ ((isO H a = true ∧ cs S + (2 + 11) + 13 ≤ 192) ∧ Cl (pj lw) 5 [.ref a, .int x0] H (fun v H => W (pj lw) 100 810 L (v.toList ++ S) k n H Q)) := W_inst (as := [.int x0]) (rfl : (pj lw).1 100 807 = some (.invokevirtual 36, 3, 5)) rfl rfl rfl (Nat.le_of_ble_eq_true rfl) (Nat.le_of_ble_eq_true rfl) ⟨rfl, rfl⟩
theorem w100_810 : Zw4 lw 100 810 100 840 100 813 := W_if_eq (len := 3) rfl rfl
theorem w100_813 : EW lw 100 813 814 (a::b::.val (.ref x)::L) S (.ref x::S) := ES rfl
theorem w100_814 : EW lw 100 814 816 (a::b::c::d::e::f::h::i::j::l::m::o::p::q::r::s::v::w::y::z::A::B::C::D::E::F::G::I::J::K::M::N::O::P::R::T::U::V::X::Y::Z::l41::l42::l43::l44::l45::.val (.int x)::L) S (.int x::S) := ES rfl
theorem w100_816 : W (pj lw) 100 816 L (.int x0::.ref a::S) k n H Q ↔ ((isO H a = true ∧ cs S + (2 + 11) + 13 ≤ 192) ∧ Cl (pj lw) 6 [.ref a, .int x0] H (fun v H => W (pj lw) 100 819 L (v.toList ++ S) k n H Q)) := W_inst (as := [.int x0]) (rfl : (pj lw).1 100 816 = some (.invokevirtual 47, 3, 6)) rfl rfl rfl (Nat.le_of_ble_eq_true rfl) (Nat.le_of_ble_eq_true rfl) ⟨rfl, rfl⟩
theorem w100_819 : Zw4 lw 100 819 100 822 100 840 := W_if_ne (len := 3) rfl rfl
theorem w100_822 : EW lw 100 822 823 (a::b::.val (.ref x)::L) S (.ref x::S) := ES rfl
theorem w100_823 : EW lw 100 823 825 (a::b::c::d::e::f::h::i::j::l::m::o::p::q::r::s::v::w::y::z::A::B::C::D::E::F::G::I::J::K::M::N::O::P::R::T::U::V::X::Y::Z::l41::l42::l43::l44::l45::.val (.int x)::L) S (.int x::S) := ES rfl
theorem w100_825 : W (pj lw) 100 825 L (.int x0::.ref a::S) k n H Q ↔ ((isO H a = true ∧ cs S + (2 + 11) + 26 ≤ 192) ∧ Cl (pj lw) 8 [.ref a, .int x0] H (fun v H => W (pj lw) 100 828 L (v.toList ++ S) k n H Q)) := W_inst (as := [.int x0]) (rfl : (pj lw).1 100 825 = some (.invokevirtual 53, 3, 8)) rfl rfl rfl (Nat.le_of_ble_eq_true rfl) (Nat.le_of_ble_eq_true rfl) ⟨rfl, rfl⟩
theorem w100_828 : EW lw 100 828 830 (a::b::c::d::e::f::h::i::j::l::m::o::p::q::r::s::v::w::y::z::A::B::C::D::E::F::G::I::J::K::M::N::O::P::R::T::U::V::X::Y::Z::l41::l42::l43::l44::l45::.val (.int x)::L) S (.int x::S) := ES rfl
theorem w100_830 : EW lw 100 830 832 (a::b::c::d::e::f::h::i::j::l::m::o::p::q::r::s::v::w::y::z::A::B::C::D::E::F::G::I::J::K::M::N::O::P::R::T::U::V::X::Y::Z::l41::l42::.val (.int x)::L) S (.int x::S) := ES rfl
theorem w100_832 : EW lw 100 832 834 (a::b::c::d::e::f::h::i::j::l::m::o::p::q::r::s::v::w::y::z::A::B::C::D::E::F::G::I::J::K::M::N::O::P::R::T::U::V::X::.val (.int x)::L) S (.int x::S) := ES rfl
theorem w100_834 : W (pj lw) 100 834 L (.int x3::.int x2::.int x1::.int x0::S) k n H Q ↔ (cs S + (4 + 11) + 0 ≤ 192 ∧ Cl (pj lw) 105 [.int x0, .int x1, .int x2, .int x3] H (fun v H => W (pj lw) 100 837 L (v.toList ++ S) k n H Q)) := W_stat (a := [.int x0, .int x1, .int x2, .int x3]) (rfl : (pj lw).1 100 834 = some (.invokestatic 62, 3, 105)) rfl rfl rfl (Nat.le_of_ble_eq_true rfl) (Nat.le_of_ble_eq_true rfl) ⟨rfl, rfl⟩
theorem w100_837 : Zw4 lw 100 837 100 842 100 840 := W_if_eq (len := 3) rfl rfl
theorem w100_842 : W (pj lw) 100 842 (a::b::c::d::e::f::h::i::j::l::m::o::p::q::r::s::v::w::y::z::A::B::C::D::E::F::G::I::J::K::M::N::O::P::R::T::U::V::X::.val (.int x)::L) S k n H Q ↔ W (pj lw) 100 845 (a::b::c::d::e::f::h::i::j::l::m::o::p::q::r::s::v::w::y::z::A::B::C::D::E::F::G::I::J::K::M::N::O::P::R::T::U::V::X::.val (.int (x + 1))::L) S k n H Q := W_s rfl rfl rfl rfl
theorem w100_845 : W (pj lw) 100 845 L S k n H Q ↔ W (pj lw) 100 374 L S k n H Q := W_goto rfl rfl
theorem w100_848 : EW lw 100 848 850 (a::b::c::d::e::f::h::i::j::l::m::o::p::q::r::s::v::w::y::z::A::B::C::.val (.long x)::L) S (.long x::S) := ES rfl
theorem w100_850 : EW lw 100 850 852 (a::b::c::d::e::f::h::i::j::l::m::o::p::q::r::s::v::w::y::z::A::B::C::D::E::F::G::I::J::K::M::.val (.long x)::L) S (.long x::S) := ES rfl
theorem w100_852 : EW lw 100 852 853 L (.long y::.long x::S) (.int (Jvm.Free.XT.cmpL x y)::S) := ES rfl
theorem w100_853 : Zw4 lw 100 853 100 856 100 874 := W_if_ne (len := 3) rfl rfl
theorem w100_856 : EW lw 100 856 858 (a::b::c::d::e::f::h::i::j::l::m::o::p::q::r::s::v::w::y::z::A::B::C::D::E::.val (.long x)::L) S (.long x::S) := ES rfl
theorem w100_858 : EW lw 100 858 860 (a::b::c::d::e::f::h::i::j::l::m::o::p::q::r::s::v::w::y::z::A::B::C::D::E::F::G::I::J::K::M::N::O::.val (.long x)::L) S (.long x::S) := ES rfl
theorem w100_860 : EW lw 100 860 861 L (.long y::.long x::S) (.int (Jvm.Free.XT.cmpL x y)::S) := ES rfl
theorem w100_861 : Zw4 lw 100 861 100 864 100 874 := W_if_ne (len := 3) rfl rfl
theorem w100_864 : EW lw 100 864 865 (a::b::.val (.ref x)::L) S (.ref x::S) := ES rfl
theorem w100_865 : W (pj lw) 100 865 L (.ref a::S) k n H Q ↔ ((isO H a = true ∧ cs S + (1 + 11) + 0 ≤ 192) ∧ Cl (pj lw) 10 [.ref a] H (fun v H => W (pj lw) 100 868 L (v.toList ++ S) k n H Q)) := W_inst (as := []) (rfl : (pj lw).1 100 865 = some (.invokevirtual 72, 3, 10)) rfl rfl rfl (Nat.le_of_ble_eq_true rfl) (Nat.le_of_ble_eq_true rfl) ⟨rfl, rfl⟩
theorem w100_868 : EW lw 100 868 870 (a::b::c::d::e::f::h::i::j::l::m::o::p::q::r::s::v::w::y::z::A::B::C::D::E::F::G::I::J::K::M::N::O::P::R::T::U::.val (.long x)::L) S (.long x::S) := ES rfl
theorem w100_870 : EW lw 100 870 871 L (.long y::.long x::S) (.int (Jvm.Free.XT.cmpL x y)::S) := ES rfl
theorem w100_871 : Zw4 lw 100 871 100 876 100 874 := W_if_eq (len := 3) rfl rfl
theorem w100_876 : EW lw 100 876 877 (a::b::.val (.ref x)::L) S (.ref x::S) := ES rfl
theorem w100_877 : W (pj lw) 100 877 L (.ref a::S) k n H Q ↔ ((isO H a = true ∧ cs S + (1 + 11) + 0 ≤ 192) ∧ Cl (pj lw) 11 [.ref a] H (fun v H => W (pj lw) 100 880 L (v.toList ++ S) k n H Q)) := W_inst (as := []) (rfl : (pj lw).1 100 877 = some (.invokevirtual 76, 3, 11)) rfl rfl rfl (Nat.le_of_ble_eq_true rfl) (Nat.le_of_ble_eq_true rfl) ⟨rfl, rfl⟩
theorem w100_880 : EW lw 100 880 881 (a::.val (.int x)::L) S (.int x::S) := ES rfl
theorem w100_881 : EW lw 100 881 882 (a::b::.val (.ref x)::L) S (.ref x::S) := ES rfl
theorem w100_882 : W (pj lw) 100 882 L (.ref a::S) k n H Q ↔ ((isO H a = true ∧ cs S + (1 + 11) + 0 ≤ 192) ∧ Cl (pj lw) 12 [.ref a] H (fun v H => W (pj lw) 100 885 L (v.toList ++ S) k n H Q)) := W_inst (as := []) (rfl : (pj lw).1 100 882 = some (.invokevirtual 79, 3, 12)) rfl rfl rfl (Nat.le_of_ble_eq_true rfl) (Nat.le_of_ble_eq_true rfl) ⟨rfl, rfl⟩
theorem w100_885 : EW lw 100 885 886 L (.int y::.int x::S) (.int (x - y)::S) := ES rfl
theorem w100_886 : Zw5 lw 100 886 100 891 100 889 := W_icmp_eq (len := 3) rfl rfl
theorem w100_891 : EW lw 100 891 892 L S (.int 0::S) := ES rfl
theorem w100_892 : W (pj lw) 100 892 (a::b::c::d::e::f::h::i::j::l::m::o::p::q::r::s::v::w::y::z::A::B::C::D::E::F::G::I::J::K::M::N::O::P::R::T::U::V::X::.unset::L) (.int x::S) k n H Q ↔ W (pj lw) 100 894 (a::b::c::d::e::f::h::i::j::l::m::o::p::q::r::s::v::w::y::z::A::B::C::D::E::F::G::I::J::K::M::N::O::P::R::T::U::V::X::.val (.int x)::L) S k n H Q := W_ist (rfl : (pj lw).1 100 892 = some (.istore 39, 2, 0)) rfl rfl
theorem w100_894 : EW lw 100 894 896 (a::b::c::d::e::f::h::i::j::l::m::o::p::q::r::s::v::w::y::z::A::B::C::D::E::F::G::I::J::K::M::N::O::P::R::T::U::V::X::.val (.int x)::L) S (.int x::S) := ES rfl
theorem w100_896 : EW lw 100 896 897 (a::.val (.int x)::L) S (.int x::S) := ES rfl
theorem w100_897 : Zw0 lw 100 897 100 900 100 1099 := W_icmp_ge (len := 3) rfl rfl
theorem w100_900 : EW lw 100 900 901 L S (.int 1::S) := ES rfl
theorem w100_901 : EW lw 100 901 903 (a::b::c::d::e::f::h::i::j::l::m::o::p::q::r::s::v::w::y::z::A::B::C::D::E::F::G::I::J::K::M::N::O::P::R::T::U::V::X::.val (.int x)::L) S (.int x::S) := ES rfl
theorem w100_903 : EW lw 100 903 904 L (.int y::.int x::S) (.int (x <<< (y &&& 31))::S) := ES rfl
theorem w100_904 : W (pj lw) 100 904 (a::b::c::d::e::f::h::i::j::l::m::o::p::q::r::s::v::w::y::z::A::B::C::D::E::F::G::I::J::K::M::N::O::P::R::T::U::V::X::Y::.unset::L) (.int x::S) k n H Q ↔ W (pj lw) 100 906 (a::b::c::d::e::f::h::i::j::l::m::o::p::q::r::s::v::w::y::z::A::B::C::D::E::F::G::I::J::K::M::N::O::P::R::T::U::V::X::Y::.val (.int x)::L) S k n H Q := W_ist (rfl : (pj lw).1 100 904 = some (.istore 40, 2, 0)) rfl rfl
theorem w100_906 : EW lw 100 906 907 L S (.int 1::S) := ES rfl
theorem w100_907 : W (pj lw) 100 907 (a::b::c::d::e::f::h::i::j::l::m::o::p::q::r::s::v::w::y::z::A::B::C::D::E::F::G::I::J::K::M::N::O::P::R::T::U::V::X::Y::Z::.unset::L) (.int x::S) k n H Q ↔ W (pj lw) 100 909 (a::b::c::d::e::f::h::i::j::l::m::o::p::q::r::s::v::w::y::z::A::B::C::D::E::F::G::I::J::K::M::N::O::P::R::T::U::V::X::Y::Z::.val (.int x)::L) S k n H Q := W_ist (rfl : (pj lw).1 100 907 = some (.istore 41, 2, 0)) rfl rfl
theorem w100_909 : EW lw 100 909 910 L S (.int 0::S) := ES rfl
theorem w100_910 : W (pj lw) 100 910 (a::b::c::d::e::f::h::i::j::l::m::o::p::q::r::s::v::w::y::z::A::B::C::D::E::F::G::I::J::K::M::N::O::P::R::T::U::V::X::Y::Z::l41::.unset::L) (.int x::S) k n H Q ↔ W (pj lw) 100 912 (a::b::c::d::e::f::h::i::j::l::m::o::p::q::r::s::v::w::y::z::A::B::C::D::E::F::G::I::J::K::M::N::O::P::R::T::U::V::X::Y::Z::l41::.val (.int x)::L) S k n H Q := W_ist (rfl : (pj lw).1 100 910 = some (.istore 42, 2, 0)) rfl rfl
theorem w100_912 : EW lw 100 912 914 (a::b::c::d::e::f::h::i::j::l::m::o::p::q::r::s::v::w::y::z::A::B::C::D::E::F::G::I::J::K::M::N::O::P::R::T::U::V::X::Y::Z::l41::.val (.int x)::L) S (.int x::S) := ES rfl
theorem w100_914 : EW lw 100 914 916 L S (.int 40::S) := ES rfl
theorem w100_916 : Zw0 lw 100 916 100 919 100 1038 := W_icmp_ge (len := 3) rfl rfl
theorem w100_919 : EW lw 100 919 921 (a::b::c::d::e::f::h::i::j::l::m::o::p::q::r::s::v::w::y::z::A::B::C::D::E::F::G::I::J::K::M::N::O::P::R::T::U::V::X::Y::Z::.val (.int x)::L) S (.int x::S) := ES rfl
theorem w100_921 : Zw4 lw 100 921 100 1038 100 924 := W_if_eq (len := 3) rfl rfl
theorem w100_924 : EW lw 100 924 925 L S (.int 0::S) := ES rfl
theorem w100_925i : W (pj lw) 100 925 (a::b::c::d::e::f::h::i::j::l::m::o::p::q::r::s::v::w::z::A::B::C::D::E::F::G::I::J::K::M::N::O::P::R::T::U::V::X::Y::Z::l40::.val (.int y)::L) (.int x::S) k n H Q ↔ W (pj lw) 100 927 (a::b::c::d::e::f::h::i::j::l::m::o::p::q::r::s::v::w::z::A::B::C::D::E::F::G::I::J::K::M::N::O::P::R::T::U::V::X::Y::Z::l40::.val (.int x)::L) S k n H Q := W_ist (rfl : (pj lw).1 100 925 = some (.istore 41, 2, 0)) rfl rfl
theorem w100_927 : EW lw 100 927 928 L S (.int 0::S) := ES rfl
theorem w100_928 : W (pj lw) 100 928 (a::b::c::d::e::f::h::i::j::l::m::o::p::q::r::s::v::w::y::z::A::B::C::D::E::F::G::I::J::K::M::N::O::P::R::T::U::V::X::Y::Z::l41::l42::.unset::L) (.int x::S) k n H Q ↔ W (pj lw) 100 930 (a::b::c::d::e::f::h::i::j::l::m::o::p::q::r::s::v::w::y::z::A::B::C::D::E::F::G::I::J::K::M::N::O::P::R::T::U::V::X::Y::Z::l41::l42::.val (.int x)::L) S k n H Q := W_ist (rfl : (pj lw).1 100 928 = some (.istore 43, 2, 0)) rfl rfl
theorem w100_930 : EW lw 100 930 932 (a::b::c::d::e::f::h::i::j::l::m::o::p::q::r::s::v::w::y::z::A::B::C::D::E::F::G::I::J::K::M::N::O::P::R::T::U::V::X::Y::Z::l41::l42::.val (.int x)::L) S (.int x::S) := ES rfl
theorem w100_932 : EW lw 100 932 935 L S (.int 128::S) := ES rfl
theorem w100_935 : Zw0 lw 100 935 100 938 100 1032 := W_icmp_ge (len := 3) rfl rfl
theorem w100_938 : EW lw 100 938 939 (a::b::.val (.ref x)::L) S (.ref x::S) := ES rfl
theorem w100_939 : EW lw 100 939 941 (a::b::c::d::e::f::h::i::j::l::m::o::p::q::r::s::v::w::y::z::A::B::C::D::E::F::G::I::J::K::M::N::O::P::R::T::U::V::X::Y::Z::l41::l42::.val (.int x)::L) S (.int x::S) := ES rfl
theorem w100_941 : W (pj lw) 100 941 L (.int x0::.ref a::S) k n H Q ↔ ((isO H a = true ∧ cs S + (2 + 11) + 13 ≤ 192) ∧ Cl (pj lw) 5 [.ref a, .int x0] H (fun v H => W (pj lw) 100 944 L (v.toList ++ S) k n H Q)) := W_inst (as := [.int x0]) (rfl : (pj lw).1 100 941 = some (.invokevirtual 36, 3, 5)) rfl rfl rfl (Nat.le_of_ble_eq_true rfl) (Nat.le_of_ble_eq_true rfl) ⟨rfl, rfl⟩
theorem w100_944 : Zw4 lw 100 944 100 947 100 950 := W_if_ne (len := 3) rfl rfl
theorem w100_947 : W (pj lw) 100 947 L S k n H Q ↔ W (pj lw) 100 1026 L S k n H Q := W_goto rfl rfl
theorem w100_950 : EW lw 100 950 951 (a::b::.val (.ref x)::L) S (.ref x::S) := ES rfl
theorem w100_951 : EW lw 100 951 953 (a::b::c::d::e::f::h::i::j::l::m::o::p::q::r::s::v::w::y::z::A::B::C::D::E::F::G::I::J::K::M::N::O::P::R::T::U::V::X::Y::Z::l41::l42::.val (.int x)::L) S (.int x::S) := ES rfl
theorem w100_953 : EW lw 100 953 954 L S (.int 0::S) := ES rfl
theorem w100_954 : W (pj lw) 100 954 L (.int x1::.int x0::.ref a::S) k n H Q ↔ ((isO H a = true ∧ cs S + (3 + 11) + 26 ≤ 192) ∧ Cl (pj lw) 7 [.ref a, .int x0, .int x1] H (fun v H => W (pj lw) 100 957 L (v.toList ++ S) k n H Q)) := W_inst (as := [.int x0, .int x1]) (rfl : (pj lw).1 100 954 = some (.invokevirtual 50, 3, 7)) rfl rfl rfl (Nat.le_of_ble_eq_true rfl) (Nat.le_of_ble_eq_true rfl) ⟨rfl, rfl⟩
theorem w100_957 : W (pj lw) 100 957 (a::b::c::d::e::f::h::i::j::l::m::o::p::q::r::s::v::w::y::z::A::B::C::D::E::F::G::I::J::K::M::N::O::P::R::T::U::V::X::Y::Z::l41::l42::l43::.unset::L) (.int x::S) k n H Q ↔ W (pj lw) 100 959 (a::b::c::d::e::f::h::i::j::l::m::o::p::q::r::s::v::w::y::z::A::B::C::D::E::F::G::I::J::K::M::N::O::P::R::T::U::V::X::Y::Z::l41::l42::l43::.val (.int x)::L) S k n H Q := W_ist (rfl : (pj lw).1 100 957 = some (.istore 44, 2, 0)) rfl rfl
theorem w100_959 : EW lw 100 959 960 (a::b::.val (.ref x)::L) S (.ref x::S) := ES rfl
theorem w100_960 : EW lw 100 960 962 (a::b::c::d::e::f::h::i::j::l::m::o::p::q::r::s::v::w::y::z::A::B::C::D::E::F::G::I::J::K::M::N::O::P::R::T::U::V::X::Y::Z::l41::l42::.val (.int x)::L) S (.int x::S) := ES rfl
theorem w100_962 : EW lw 100 962 963 L S (.int 1::S) := ES rfl
theorem w100_963 : W (pj lw) 100 963 L (.int x1::.int x0::.ref a::S) k n H Q ↔ ((isO H a = true ∧ cs S + (3 + 11) + 26 ≤ 192) ∧ Cl (pj lw) 7 [.ref a, .int x0, .int x1] H (fun v H => W (pj lw) 100 966 L (v.toList ++ S) k n H Q)) := W_inst (as := [.int x0, .int x1]) (rfl : (pj lw).1 100 963 = some (.invokevirtual 50, 3, 7)) rfl rfl rfl (Nat.le_of_ble_eq_true rfl) (Nat.le_of_ble_eq_true rfl) ⟨rfl, rfl⟩
theorem w100_966 : W (pj lw) 100 966 (a::b::c::d::e::f::h::i::j::l::m::o::p::q::r::s::v::w::y::z::A::B::C::D::E::F::G::I::J::K::M::N::O::P::R::T::U::V::X::Y::Z::l41::l42::l43::l44::.unset::L) (.int x::S) k n H Q ↔ W (pj lw) 100 968 (a::b::c::d::e::f::h::i::j::l::m::o::p::q::r::s::v::w::y::z::A::B::C::D::E::F::G::I::J::K::M::N::O::P::R::T::U::V::X::Y::Z::l41::l42::l43::l44::.val (.int x)::L) S k n H Q := W_ist (rfl : (pj lw).1 100 966 = some (.istore 45, 2, 0)) rfl rfl
theorem w100_968 : EW lw 100 968 970 (a::b::c::d::e::f::h::i::j::l::m::o::p::q::r::s::v::w::y::z::A::B::C::D::E::F::G::I::J::K::M::N::O::P::R::T::U::V::X::Y::.val (.int x)::L) S (.int x::S) := ES rfl
theorem w100_970 : EW lw 100 970 972 (a::b::c::d::e::f::h::i::j::l::m::o::p::q::r::s::v::w::y::z::A::B::C::D::E::F::G::I::J::K::M::N::O::P::R::T::U::V::X::Y::Z::l41::l42::l43::.val (.int x)::L) S (.int x::S) := ES rfl
theorem w100_972 : EW lw 100 972 973 L (.int y::.int x::S) (.int (Jvm.Free.XT.ushr x y)::S) := ES rfl
theorem w100_973 : EW lw 100 973 974 L S (.int 1::S) := ES rfl
theorem w100_974 : EW lw 100 974 975 L (.int y::.int x::S) (.int (x &&& y)::S) := ES rfl
theorem w100_975 : Zw4 lw 100 975 100 982 100 978 := W_if_eq (len := 3) rfl rfl
theorem w100_978 : EW lw 100 978 979 L S (.int 1::S) := ES rfl
theorem w100_979 : W (pj lw) 100 979 L S k n H Q ↔ W (pj lw) 100 983 L S k n H Q := W_goto rfl rfl
theorem w100_982 : EW lw 100 982 983 L S (.int 0::S) := ES rfl
theorem w100_983 : W (pj lw) 100 983 (a::b::c::d::e::f::h::i::j::l::m::o::p::q::r::s::v::w::y::z::A::B::C::D::E::F::G::I::J::K::M::N::O::P::R::T::U::V::X::Y::Z::l41::l42::l43::l44::l45::.unset::L) (.int x::S) k n H Q ↔ W (pj lw) 100 985 (a::b::c::d::e::f::h::i::j::l::m::o::p::q::r::s::v::w::y::z::A::B::C::D::E::F::G::I::J::K::M::N::O::P::R::T::U::V::X::Y::Z::l41::l42::l43::l44::l45::.val (.int x)::L) S k n H Q := W_ist (rfl : (pj lw).1 100 983 = some (.istore 46, 2, 0)) rfl rfl
theorem w100_985 : EW lw 100 985 987 (a::b::c::d::e::f::h::i::j::l::m::o::p::q::r::s::v::w::y::z::A::B::C::D::E::F::G::I::J::K::M::N::O::P::R::T::U::V::X::Y::.val (.int x)::L) S (.int x::S) := ES rfl
theorem w100_987 : EW lw 100 987 989 (a::b::c::d::e::f::h::i::j::l::m::o::p::q::r::s::v::w::y::z::A::B::C::D::E::F::G::I::J::K::M::N::O::P::R::T::U::V::X::Y::Z::l41::l42::l43::l44::.val (.int x)::L) S (.int x::S) := ES rfl
theorem w100_989 : EW lw 100 989 990 L (.int y::.int x::S) (.int (Jvm.Free.XT.ushr x y)::S) := ES rfl
theorem w100_990 : EW lw 100 990 991 L S (.int 1::S) := ES rfl
theorem w100_991 : EW lw 100 991 992 L (.int y::.int x::S) (.int (x &&& y)::S) := ES rfl
theorem w100_992 : Zw4 lw 100 992 100 999 100 995 := W_if_eq (len := 3) rfl rfl
theorem w100_995 : EW lw 100 995 996 L S (.int 1::S) := ES rfl
theorem w100_996 : W (pj lw) 100 996 L S k n H Q ↔ W (pj lw) 100 1000 L S k n H Q := W_goto rfl rfl
theorem w100_999 : EW lw 100 999 1000 L S (.int 0::S) := ES rfl
theorem w100_1000 : W (pj lw) 100 1000 (a::b::c::d::e::f::h::i::j::l::m::o::p::q::r::s::v::w::y::z::A::B::C::D::E::F::G::I::J::K::M::N::O::P::R::T::U::V::X::Y::Z::l41::l42::l43::l44::l45::l46::.unset::L) (.int x::S) k n H Q ↔ W (pj lw) 100 1002 (a::b::c::d::e::f::h::i::j::l::m::o::p::q::r::s::v::w::y::z::A::B::C::D::E::F::G::I::J::K::M::N::O::P::R::T::U::V::X::Y::Z::l41::l42::l43::l44::l45::l46::.val (.int x)::L) S k n H Q := W_ist (rfl : (pj lw).1 100 1000 = some (.istore 47, 2, 0)) rfl rfl
theorem w100_1002 : EW lw 100 1002 1004 (a::b::c::d::e::f::h::i::j::l::m::o::p::q::r::s::v::w::y::z::A::B::C::D::E::F::G::I::J::K::M::N::O::P::R::T::U::V::X::Y::Z::l41::l42::l43::l44::l45::.val (.int x)::L) S (.int x::S) := ES rfl
theorem w100_1004 : EW lw 100 1004 1006 (a::b::c::d::e::f::h::i::j::l::m::o::p::q::r::s::v::w::y::z::A::B::C::D::E::F::G::I::J::K::M::N::O::P::R::T::U::V::X::Y::Z::l41::l42::l43::l44::l45::l46::.val (.int x)::L) S (.int x::S) := ES rfl
theorem w100_1006 : Zw5 lw 100 1006 100 1026 100 1009 := W_icmp_eq (len := 3) rfl rfl
theorem w100_1009 : EW lw 100 1009 1011 (a::b::c::d::e::f::h::i::j::l::m::o::p::q::r::s::v::w::y::z::A::B::C::D::E::F::G::I::J::K::M::N::O::P::R::T::U::V::X::Y::.val (.int x)::L) S (.int x::S) := ES rfl
theorem w100_1011 : EW lw 100 1011 1012 L S (.int 1::S) := ES rfl
theorem w100_1012 : EW lw 100 1012 1014 (a::b::c::d::e::f::h::i::j::l::m::o::p::q::r::s::v::w::y::z::A::B::C::D::E::F::G::I::J::K::M::N::O::P::R::T::U::V::X::Y::Z::l41::l42::l43::.val (.int x)::L) S (.int x::S) := ES rfl
theorem w100_1014 : EW lw 100 1014 1015 L (.int y::.int x::S) (.int (x <<< (y &&& 31))::S) := ES rfl
theorem w100_1015 : EW lw 100 1015 1016 L S (.int 1::S) := ES rfl
theorem w100_1016 : EW lw 100 1016 1018 (a::b::c::d::e::f::h::i::j::l::m::o::p::q::r::s::v::w::y::z::A::B::C::D::E::F::G::I::J::K::M::N::O::P::R::T::U::V::X::Y::Z::l41::l42::l43::l44::.val (.int x)::L) S (.int x::S) := ES rfl
theorem w100_1018 : EW lw 100 1018 1019 L (.int y::.int x::S) (.int (x <<< (y &&& 31))::S) := ES rfl
theorem w100_1019 : EW lw 100 1019 1020 L (.int y::.int x::S) (.int (x ||| y)::S) := ES rfl
theorem w100_1020 : EW lw 100 1020 1021 L (.int y::.int x::S) (.int (x ||| y)::S) := ES rfl
theorem w100_1021i : W (pj lw) 100 1021 (a::b::c::d::e::f::h::i::j::l::m::o::p::q::r::s::v::w::z::A::B::C::D::E::F::G::I::J::K::M::N::O::P::R::T::U::V::X::Y::Z::.val (.int y)::L) (.int x::S) k n H Q ↔ W (pj lw) 100 1023 (a::b::c::d::e::f::h::i::j::l::m::o::p::q::r::s::v::w::z::A::B::C::D::E::F::G::I::J::K::M::N::O::P::R::T::U::V::X::Y::Z::.val (.int x)::L) S k n H Q := W_ist (rfl : (pj lw).1 100 1021 = some (.istore 40, 2, 0)) rfl rfl
theorem w100_1023 : EW lw 100 1023 1024 L S (.int 1::S) := ES rfl
theorem w100_1024i : W (pj lw) 100 1024 (a::b::c::d::e::f::h::i::j::l::m::o::p::q::r::s::v::w::z::A::B::C::D::E::F::G::I::J::K::M::N::O::P::R::T::U::V::X::Y::Z::l40::.val (.int y)::L) (.int x::S) k n H Q ↔ W (pj lw) 100 1026 (a::b::c::d::e::f::h::i::j::l::m::o::p::q::r::s::v::w::z::A::B::C::D::E::F::G::I::J::K::M::N::O::P::R::T::U::V::X::Y::Z::l40::.val (.int x)::L) S k n H Q := W_ist (rfl : (pj lw).1 100 1024 = some (.istore 41, 2, 0)) rfl rfl
theorem w100_1026 : W (pj lw) 100 1026 (a::b::c::d::e::f::h::i::j::l::m::o::p::q::r::s::v::w::y::z::A::B::C::D::E::F::G::I::J::K::M::N::O::P::R::T::U::V::X::Y::Z::l41::l42::.val (.int x)::L) S k n H Q ↔ W (pj lw) 100 1029 (a::b::c::d::e::f::h::i::j::l::m::o::p::q::r::s::v::w::y::z::A::B::C::D::E::F::G::I::J::K::M::N::O::P::R::T::U::V::X::Y::Z::l41::l42::.val (.int (x + 1))::L) S k n H Q := W_s rfl rfl rfl rfl
theorem w100_1029 : W (pj lw) 100 1029 L S k n H Q ↔ W (pj lw) 100 930 L S k n H Q := W_goto rfl rfl
theorem w100_1032 : W (pj lw) 100 1032 (a::b::c::d::e::f::h::i::j::l::m::o::p::q::r::s::v::w::y::z::A::B::C::D::E::F::G::I::J::K::M::N::O::P::R::T::U::V::X::Y::Z::l41::.val (.int x)::L) S k n H Q ↔ W (pj lw) 100 1035 (a::b::c::d::e::f::h::i::j::l::m::o::p::q::r::s::v::w::y::z::A::B::C::D::E::F::G::I::J::K::M::N::O::P::R::T::U::V::X::Y::Z::l41::.val (.int (x + 1))::L) S k n H Q := W_s rfl rfl rfl rfl
theorem w100_1035 : W (pj lw) 100 1035 L S k n H Q ↔ W (pj lw) 100 912 L S k n H Q := W_goto rfl rfl
theorem w100_1038 : EW lw 100 1038 1039 L S (.int 0::S) := ES rfl
theorem w100_1039 : W (pj lw) 100 1039 (a::b::c::d::e::f::h::i::j::l::m::o::p::q::r::s::v::w::y::z::A::B::C::D::E::F::G::I::J::K::M::N::O::P::R::T::U::V::X::Y::Z::l41::.unset::L) (.int x::S) k n H Q ↔ W (pj lw) 100 1041 (a::b::c::d::e::f::h::i::j::l::m::o::p::q::r::s::v::w::y::z::A::B::C::D::E::F::G::I::J::K::M::N::O::P::R::T::U::V::X::Y::Z::l41::.val (.int x)::L) S k n H Q := W_ist (rfl : (pj lw).1 100 1039 = some (.istore 42, 2, 0)) rfl rfl
theorem w100_1041 : EW lw 100 1041 1043 (a::b::c::d::e::f::h::i::j::l::m::o::p::q::r::s::v::w::y::z::A::B::C::D::E::F::G::I::J::K::M::N::O::P::R::T::U::V::X::Y::Z::l41::.val (.int x)::L) S (.int x::S) := ES rfl
theorem w100_1043 : EW lw 100 1043 1044 (a::.val (.int x)::L) S (.int x::S) := ES rfl
theorem w100_1044 : Zw0 lw 100 1044 100 1047 100 1093 := W_icmp_ge (len := 3) rfl rfl
theorem w100_1047 : EW lw 100 1047 1048 (a::b::.val (.ref x)::L) S (.ref x::S) := ES rfl
theorem w100_1048 : EW lw 100 1048 1050 (a::b::c::d::e::f::h::i::j::l::m::o::p::q::r::s::v::w::y::z::A::B::C::D::E::F::G::I::J::K::M::N::O::P::R::T::U::V::X::.val (.int x)::L) S (.int x::S) := ES rfl
theorem w100_1050 : W (pj lw) 100 1050 L (.int x0::.ref a::S) k n H Q ↔ ((isO H a = true ∧ cs S + (3 + 11) + 50 ≤ 192) ∧ Cl (pj lw) 13 [.ref a, .int x0] H (fun v H => W (pj lw) 100 1053 L (v.toList ++ S) k n H Q)) := W_inst (as := [.int x0]) (rfl : (pj lw).1 100 1050 = some (.invokevirtual 82, 3, 13)) rfl rfl rfl (Nat.le_of_ble_eq_true rfl) (Nat.le_of_ble_eq_true rfl) ⟨rfl, rfl⟩
theorem w100_1053 : EW lw 100 1053 1054 (a::b::.val (.ref x)::L) S (.ref x::S) := ES rfl
theorem w100_1054 : EW lw 100 1054 1056 (a::b::c::d::e::f::h::i::j::l::m::o::p::q::r::s::v::w::y::z::A::B::C::D::E::F::G::I::J::K::M::N::O::P::R::T::U::V::X::Y::Z::l41::.val (.int x)::L) S (.int x::S) := ES rfl
theorem w100_1056 : W (pj lw) 100 1056 L (.int x0::.ref a::S) k n H Q ↔ ((isO H a = true ∧ cs S + (3 + 11) + 50 ≤ 192) ∧ Cl (pj lw) 13 [.ref a, .int x0] H (fun v H => W (pj lw) 100 1059 L (v.toList ++ S) k n H Q)) := W_inst (as := [.int x0]) (rfl : (pj lw).1 100 1056 = some (.invokevirtual 82, 3, 13)) rfl rfl rfl (Nat.le_of_ble_eq_true rfl) (Nat.le_of_ble_eq_true rfl) ⟨rfl, rfl⟩
theorem w100_1059 : Zw5 lw 100 1059 100 1062 100 1066 := W_icmp_ne (len := 3) rfl rfl
theorem w100_1062 : EW lw 100 1062 1063 L S (.int 1::S) := ES rfl
theorem w100_1063 : W (pj lw) 100 1063 L S k n H Q ↔ W (pj lw) 100 1067 L S k n H Q := W_goto rfl rfl
theorem w100_1066 : EW lw 100 1066 1067 L S (.int 0::S) := ES rfl
theorem w100_1067 : EW lw 100 1067 1069 (a::b::c::d::e::f::h::i::j::l::m::o::p::q::r::s::v::w::y::z::A::B::C::D::E::F::G::I::J::K::M::N::O::P::R::T::U::V::X::Y::.val (.int x)::L) S (.int x::S) := ES rfl
theorem w100_1069 : EW lw 100 1069 1071 (a::b::c::d::e::f::h::i::j::l::m::o::p::q::r::s::v::w::y::z::A::B::C::D::E::F::G::I::J::K::M::N::O::P::R::T::U::V::X::Y::Z::l41::.val (.int x)::L) S (.int x::S) := ES rfl
theorem w100_1071 : EW lw 100 1071 1072 L (.int y::.int x::S) (.int (Jvm.Free.XT.ushr x y)::S) := ES rfl
theorem w100_1072 : EW lw 100 1072 1073 L S (.int 1::S) := ES rfl
theorem w100_1073 : EW lw 100 1073 1074 L (.int y::.int x::S) (.int (x &&& y)::S) := ES rfl
theorem w100_1074 : Zw4 lw 100 1074 100 1081 100 1077 := W_if_eq (len := 3) rfl rfl
theorem w100_1077 : EW lw 100 1077 1078 L S (.int 1::S) := ES rfl
theorem w100_1078 : W (pj lw) 100 1078 L S k n H Q ↔ W (pj lw) 100 1082 L S k n H Q := W_goto rfl rfl
theorem w100_1081 : EW lw 100 1081 1082 L S (.int 0::S) := ES rfl
theorem w100_1082 : Zw5 lw 100 1082 100 1087 100 1085 := W_icmp_eq (len := 3) rfl rfl
theorem w100_1087 : W (pj lw) 100 1087 (a::b::c::d::e::f::h::i::j::l::m::o::p::q::r::s::v::w::y::z::A::B::C::D::E::F::G::I::J::K::M::N::O::P::R::T::U::V::X::Y::Z::l41::.val (.int x)::L) S k n H Q ↔ W (pj lw) 100 1090 (a::b::c::d::e::f::h::i::j::l::m::o::p::q::r::s::v::w::y::z::A::B::C::D::E::F::G::I::J::K::M::N::O::P::R::T::U::V::X::Y::Z::l41::.val (.int (x + 1))::L) S k n H Q := W_s rfl rfl rfl rfl
theorem w100_1090 : W (pj lw) 100 1090 L S k n H Q ↔ W (pj lw) 100 1041 L S k n H Q := W_goto rfl rfl
theorem w100_1093 : W (pj lw) 100 1093 (a::b::c::d::e::f::h::i::j::l::m::o::p::q::r::s::v::w::y::z::A::B::C::D::E::F::G::I::J::K::M::N::O::P::R::T::U::V::X::.val (.int x)::L) S k n H Q ↔ W (pj lw) 100 1096 (a::b::c::d::e::f::h::i::j::l::m::o::p::q::r::s::v::w::y::z::A::B::C::D::E::F::G::I::J::K::M::N::O::P::R::T::U::V::X::.val (.int (x + 1))::L) S k n H Q := W_s rfl rfl rfl rfl
theorem w100_1096 : W (pj lw) 100 1096 L S k n H Q ↔ W (pj lw) 100 894 L S k n H Q := W_goto rfl rfl
theorem w100_1099 : EW lw 100 1099 1100 (a::b::.val (.ref x)::L) S (.ref x::S) := ES rfl
theorem w100_1100 : W (pj lw) 100 1100 L (.ref a::S) k n H Q ↔ ((isO H a = true ∧ cs S + (1 + 11) + 0 ≤ 192) ∧ Cl (pj lw) 9 [.ref a] H (fun v H => W (pj lw) 100 1103 L (v.toList ++ S) k n H Q)) := W_inst (as := []) (rfl : (pj lw).1 100 1100 = some (.invokevirtual 32, 3, 9)) rfl rfl rfl (Nat.le_of_ble_eq_true rfl) (Nat.le_of_ble_eq_true rfl) ⟨rfl, rfl⟩
theorem w100_1103 : W (pj lw) 100 1103 (a::b::c::d::e::f::h::i::j::l::m::o::p::q::r::s::v::w::y::z::A::B::C::D::E::F::G::I::J::K::M::N::O::P::R::T::U::V::X::.unset::L) (.int x::S) k n H Q ↔ W (pj lw) 100 1105 (a::b::c::d::e::f::h::i::j::l::m::o::p::q::r::s::v::w::y::z::A::B::C::D::E::F::G::I::J::K::M::N::O::P::R::T::U::V::X::.val (.int x)::L) S k n H Q := W_ist (rfl : (pj lw).1 100 1103 = some (.istore 39, 2, 0)) rfl rfl
theorem w100_1105 : EW lw 100 1105 1106 (a::b::.val (.ref x)::L) S (.ref x::S) := ES rfl
theorem w100_1106 : W (pj lw) 100 1106 L (.ref a::S) k n H Q ↔ ((isO H a = true ∧ cs S + (1 + 11) + 0 ≤ 192) ∧ Cl (pj lw) 12 [.ref a] H (fun v H => W (pj lw) 100 1109 L (v.toList ++ S) k n H Q)) := W_inst (as := []) (rfl : (pj lw).1 100 1106 = some (.invokevirtual 79, 3, 12)) rfl rfl rfl (Nat.le_of_ble_eq_true rfl) (Nat.le_of_ble_eq_true rfl) ⟨rfl, rfl⟩
theorem w100_1109 : W (pj lw) 100 1109 (a::b::c::d::e::f::h::i::j::l::m::o::p::q::r::s::v::w::y::z::A::B::C::D::E::F::G::I::J::K::M::N::O::P::R::T::U::V::X::Y::.unset::L) (.int x::S) k n H Q ↔ W (pj lw) 100 1111 (a::b::c::d::e::f::h::i::j::l::m::o::p::q::r::s::v::w::y::z::A::B::C::D::E::F::G::I::J::K::M::N::O::P::R::T::U::V::X::Y::.val (.int x)::L) S k n H Q := W_ist (rfl : (pj lw).1 100 1109 = some (.istore 40, 2, 0)) rfl rfl
theorem w100_1111 : EW lw 100 1111 1112 (a::b::.val (.ref x)::L) S (.ref x::S) := ES rfl
theorem w100_1112 : W (pj lw) 100 1112 L (.ref a::S) k n H Q ↔ ((isO H a = true ∧ cs S + (1 + 11) + 0 ≤ 192) ∧ Cl (pj lw) 11 [.ref a] H (fun v H => W (pj lw) 100 1115 L (v.toList ++ S) k n H Q)) := W_inst (as := []) (rfl : (pj lw).1 100 1112 = some (.invokevirtual 76, 3, 11)) rfl rfl rfl (Nat.le_of_ble_eq_true rfl) (Nat.le_of_ble_eq_true rfl) ⟨rfl, rfl⟩
theorem w100_1115 : W (pj lw) 100 1115 (a::b::c::d::e::f::h::i::j::l::m::o::p::q::r::s::v::w::y::z::A::B::C::D::E::F::G::I::J::K::M::N::O::P::R::T::U::V::X::Y::Z::.unset::L) (.int x::S) k n H Q ↔ W (pj lw) 100 1117 (a::b::c::d::e::f::h::i::j::l::m::o::p::q::r::s::v::w::y::z::A::B::C::D::E::F::G::I::J::K::M::N::O::P::R::T::U::V::X::Y::Z::.val (.int x)::L) S k n H Q := W_ist (rfl : (pj lw).1 100 1115 = some (.istore 41, 2, 0)) rfl rfl
theorem w100_1117 : EW lw 100 1117 1118 (a::b::.val (.ref x)::L) S (.ref x::S) := ES rfl
theorem w100_1118 : W (pj lw) 100 1118 L (.ref a::S) k n H Q ↔ ((isO H a = true ∧ cs S + (1 + 11) + 0 ≤ 192) ∧ Cl (pj lw) 16 [.ref a] H (fun v H => W (pj lw) 100 1121 L (v.toList ++ S) k n H Q)) := W_inst (as := []) (rfl : (pj lw).1 100 1118 = some (.invokevirtual 85, 3, 16)) rfl rfl rfl (Nat.le_of_ble_eq_true rfl) (Nat.le_of_ble_eq_true rfl) ⟨rfl, rfl⟩
theorem w100_1121 : W (pj lw) 100 1121 (a::b::c::d::e::f::h::i::j::l::m::o::p::q::r::s::v::w::y::z::A::B::C::D::E::F::G::I::J::K::M::N::O::P::R::T::U::V::X::Y::Z::l41::.unset::L) (.int x::S) k n H Q ↔ W (pj lw) 100 1123 (a::b::c::d::e::f::h::i::j::l::m::o::p::q::r::s::v::w::y::z::A::B::C::D::E::F::G::I::J::K::M::N::O::P::R::T::U::V::X::Y::Z::l41::.val (.int x)::L) S k n H Q := W_ist (rfl : (pj lw).1 100 1121 = some (.istore 42, 2, 0)) rfl rfl
theorem w100_1123 : EW lw 100 1123 1124 (a::b::.val (.ref x)::L) S (.ref x::S) := ES rfl
theorem w100_1124 : W (pj lw) 100 1124 L (.ref a::S) k n H Q ↔ ((isO H a = true ∧ cs S + (1 + 11) + 0 ≤ 192) ∧ Cl (pj lw) 17 [.ref a] H (fun v H => W (pj lw) 100 1127 L (v.toList ++ S) k n H Q)) := W_inst (as := []) (rfl : (pj lw).1 100 1124 = some (.invokevirtual 88, 3, 17)) rfl rfl rfl (Nat.le_of_ble_eq_true rfl) (Nat.le_of_ble_eq_true rfl) ⟨rfl, rfl⟩
theorem w100_1127 : W (pj lw) 100 1127 (a::b::c::d::e::f::h::i::j::l::m::o::p::q::r::s::v::w::y::z::A::B::C::D::E::F::G::I::J::K::M::N::O::P::R::T::U::V::X::Y::Z::l41::l42::.unset::L) (.int x::S) k n H Q ↔ W (pj lw) 100 1129 (a::b::c::d::e::f::h::i::j::l::m::o::p::q::r::s::v::w::y::z::A::B::C::D::E::F::G::I::J::K::M::N::O::P::R::T::U::V::X::Y::Z::l41::l42::.val (.int x)::L) S k n H Q := W_ist (rfl : (pj lw).1 100 1127 = some (.istore 43, 2, 0)) rfl rfl
theorem w100_1129 : EW lw 100 1129 1130 (a::b::.val (.ref x)::L) S (.ref x::S) := ES rfl
theorem w100_1130 : W (pj lw) 100 1130 L (.ref a::S) k n H Q ↔ ((isO H a = true ∧ cs S + (1 + 11) + 0 ≤ 192) ∧ Cl (pj lw) 10 [.ref a] H (fun v H => W (pj lw) 100 1133 L (v.toList ++ S) k n H Q)) := W_inst (as := []) (rfl : (pj lw).1 100 1130 = some (.invokevirtual 72, 3, 10)) rfl rfl rfl (Nat.le_of_ble_eq_true rfl) (Nat.le_of_ble_eq_true rfl) ⟨rfl, rfl⟩
theorem w100_1133uu : W (pj lw) 100 1133 (a::b::c::d::e::f::h::i::j::l::m::o::p::q::r::s::v::w::y::z::A::B::C::D::E::F::G::I::J::K::M::N::O::P::R::T::U::V::X::Y::Z::l41::l42::l43::.unset::.unset::L) (.long x::S) k n H Q ↔ W (pj lw) 100 1135 (a::b::c::d::e::f::h::i::j::l::m::o::p::q::r::s::v::w::y::z::A::B::C::D::E::F::G::I::J::K::M::N::O::P::R::T::U::V::X::Y::Z::l41::l42::l43::.val (.long x)::.second::L) S k n H Q := W_lst (rfl : (pj lw).1 100 1133 = some (.lstore 44, 2, 0)) rfl rfl rfl rfl
theorem w100_1135 : EW lw 100 1135 1137 (a::b::c::d::e::f::h::i::j::l::m::o::p::q::r::s::v::w::y::z::A::.val (.int x)::L) S (.int x::S) := ES rfl
theorem w100_1137 : Zw4 lw 100 1137 100 1305 100 1140 := W_if_eq (len := 3) rfl rfl
theorem w100_1140 : EW lw 100 1140 1142 (a::b::c::d::e::f::h::i::j::l::m::o::p::q::r::s::v::w::y::z::A::B::.val (.int x)::L) S (.int x::S) := ES rfl
theorem w100_1142 : Zw4 lw 100 1142 100 1305 100 1145 := W_if_eq (len := 3) rfl rfl
theorem w100_1145 : EW lw 100 1145 1146 (a::b::c::.val (.long x)::L) S (.long x::S) := ES rfl
theorem w100_1146uu : W (pj lw) 100 1146 (a::b::c::d::e::f::h::i::j::l::m::o::p::q::r::s::v::w::y::z::A::B::C::D::E::F::G::I::J::K::M::N::O::P::R::T::U::V::X::Y::Z::l41::l42::l43::l44::l45::.unset::.unset::L) (.long x::S) k n H Q ↔ W (pj lw) 100 1148 (a::b::c::d::e::f::h::i::j::l::m::o::p::q::r::s::v::w::y::z::A::B::C::D::E::F::G::I::J::K::M::N::O::P::R::T::U::V::X::Y::Z::l41::l42::l43::l44::l45::.val (.long x)::.second::L) S k n H Q := W_lst (rfl : (pj lw).1 100 1146 = some (.lstore 46, 2, 0)) rfl rfl rfl rfl
theorem w100_1148 : EW lw 100 1148 1150 (a::b::c::d::e::.val (.long x)::L) S (.long x::S) := ES rfl
theorem w100_1150uu : W (pj lw) 100 1150 (a::b::c::d::e::f::h::i::j::l::m::o::p::q::r::s::v::w::y::z::A::B::C::D::E::F::G::I::J::K::M::N::O::P::R::T::U::V::X::Y::Z::l41::l42::l43::l44::l45::l46::l47::.unset::.unset::L) (.long x::S) k n H Q ↔ W (pj lw) 100 1152 (a::b::c::d::e::f::h::i::j::l::m::o::p::q::r::s::v::w::y::z::A::B::C::D::E::F::G::I::J::K::M::N::O::P::R::T::U::V::X::Y::Z::l41::l42::l43::l44::l45::l46::l47::.val (.long x)::.second::L) S k n H Q := W_lst (rfl : (pj lw).1 100 1150 = some (.lstore 48, 2, 0)) rfl rfl rfl rfl
theorem w100_1152 : EW lw 100 1152 1154 (a::b::c::d::e::f::h::i::j::l::m::o::p::q::r::s::v::w::y::z::A::B::C::D::E::F::G::I::J::K::M::N::O::P::R::T::U::V::X::Y::Z::l41::l42::.val (.int x)::L) S (.int x::S) := ES rfl
theorem w100_1154 : EW lw 100 1154 1155 L S (.int (-1)::S) := ES rfl
theorem w100_1155 : Zw5 lw 100 1155 100 1222 100 1158 := W_icmp_eq (len := 3) rfl rfl
theorem w100_1158 : EW lw 100 1158 1160 (a::b::c::d::e::f::h::i::j::l::m::o::p::q::r::s::v::w::y::z::A::B::C::D::E::F::G::I::J::K::M::N::O::P::R::T::U::V::X::Y::Z::l41::l42::.val (.int x)::L) S (.int x::S) := ES rfl
theorem w100_1160 : Zw10 lw 100 1160 100 1181 100 1163 := W_if_lt (len := 3) rfl rfl
theorem w100_1163 : EW lw 100 1163 1165 (a::b::c::d::e::f::h::i::j::l::m::o::p::q::r::s::v::w::y::z::A::B::C::D::E::F::G::I::J::K::M::N::O::P::R::T::U::V::X::Y::Z::l41::l42::.val (.int x)::L) S (.int x::S) := ES rfl
theorem w100_1165 : EW lw 100 1165 1167 L S (.int 127::S) := ES rfl
theorem w100_1167 : Zw1 lw 100 1167 100 1181 100 1170 := W_icmp_gt (len := 3) rfl rfl
theorem w100_1170 : EW lw 100 1170 1171 (a::b::c::.val (.long x)::L) S (.long x::S) := ES rfl
theorem w100_1171 : EW lw 100 1171 1173 (a::b::c::d::e::.val (.long x)::L) S (.long x::S) := ES rfl
theorem w100_1173 : EW lw 100 1173 1175 (a::b::c::d::e::f::h::i::j::l::m::o::p::q::r::s::v::w::y::z::A::B::C::D::E::F::G::I::J::K::M::N::O::P::R::T::U::V::X::Y::Z::l41::l42::.val (.int x)::L) S (.int x::S) := ES rfl
theorem w100_1175 : W (pj lw) 100 1175 L (.int x2::.long x1::.long x0::S) k n H Q ↔ (cs S + (5 + 11) + 0 ≤ 192 ∧ Cl (pj lw) 106 [.long x0, .long x1, .int x2] H (fun v H => W (pj lw) 100 1178 L (v.toList ++ S) k n H Q)) := W_stat (a := [.long x0, .long x1, .int x2]) (rfl : (pj lw).1 100 1175 = some (.invokestatic 91, 3, 106)) rfl rfl rfl (Nat.le_of_ble_eq_true rfl) (Nat.le_of_ble_eq_true rfl) ⟨rfl, rfl⟩
theorem w100_1178 : Zw4 lw 100 1178 100 1181 100 1183 := W_if_ne (len := 3) rfl rfl
theorem w100_1183 : EW lw 100 1183 1185 (a::b::c::d::e::f::h::i::j::l::m::o::p::q::r::s::v::w::y::z::A::B::C::D::E::F::G::I::J::K::M::N::O::P::R::T::U::V::X::Y::Z::l41::l42::.val (.int x)::L) S (.int x::S) := ES rfl
theorem w100_1185 : EW lw 100 1185 1187 L S (.int 64::S) := ES rfl
theorem w100_1187 : Zw0 lw 100 1187 100 1190 100 1206 := W_icmp_ge (len := 3) rfl rfl
theorem w100_1190 : EW lw 100 1190 1192 (a::b::c::d::e::f::h::i::j::l::m::o::p::q::r::s::v::w::y::z::A::B::C::D::E::F::G::I::J::K::M::N::O::P::R::T::U::V::X::Y::Z::l41::l42::l43::l44::l45::.val (.long x)::L) S (.long x::S) := ES rfl
theorem w100_1192 : EW lw 100 1192 1193 L S (.long 1::S) := ES rfl
theorem w100_1193 : EW lw 100 1193 1195 (a::b::c::d::e::f::h::i::j::l::m::o::p::q::r::s::v::w::y::z::A::B::C::D::E::F::G::I::J::K::M::N::O::P::R::T::U::V::X::Y::Z::l41::l42::.val (.int x)::L) S (.int x::S) := ES rfl
theorem w100_1195 : EW lw 100 1195 1196 L (.int y::.long x::S) (.long (x <<< (y.toInt64 &&& 63))::S) := ES rfl
theorem w100_1196 : EW lw 100 1196 1199 L S (.long (-1)::S) := ES rfl
theorem w100_1199 : EW lw 100 1199 1200 L (.long y::.long x::S) (.long (x ^^^ y)::S) := ES rfl
theorem w100_1200 : EW lw 100 1200 1201 L (.long y::.long x::S) (.long (x &&& y)::S) := ES rfl
theorem w100_1201j : W (pj lw) 100 1201 (a::b::c::d::e::f::h::i::j::l::m::o::p::q::r::s::v::w::z::A::B::C::D::E::F::G::I::J::K::M::N::O::P::R::T::U::V::X::Y::Z::l40::l41::l42::l43::l44::l45::.val (.long y)::.second::L) (.long x::S) k n H Q ↔ W (pj lw) 100 1203 (a::b::c::d::e::f::h::i::j::l::m::o::p::q::r::s::v::w::z::A::B::C::D::E::F::G::I::J::K::M::N::O::P::R::T::U::V::X::Y::Z::l40::l41::l42::l43::l44::l45::.val (.long x)::.second::L) S k n H Q := W_lst' (rfl : (pj lw).1 100 1201 = some (.lstore 46, 2, 0)) rfl rfl
theorem w100_1203 : W (pj lw) 100 1203 L S k n H Q ↔ W (pj lw) 100 1222 L S k n H Q := W_goto rfl rfl
theorem w100_1206 : EW lw 100 1206 1208 (a::b::c::d::e::f::h::i::j::l::m::o::p::q::r::s::v::w::y::z::A::B::C::D::E::F::G::I::J::K::M::N::O::P::R::T::U::V::X::Y::Z::l41::l42::l43::l44::l45::l46::l47::.val (.long x)::L) S (.long x::S) := ES rfl
theorem w100_1208 : EW lw 100 1208 1209 L S (.long 1::S) := ES rfl
theorem w100_1209 : EW lw 100 1209 1211 (a::b::c::d::e::f::h::i::j::l::m::o::p::q::r::s::v::w::y::z::A::B::C::D::E::F::G::I::J::K::M::N::O::P::R::T::U::V::X::Y::Z::l41::l42::.val (.int x)::L) S (.int x::S) := ES rfl
theorem w100_1211 : EW lw 100 1211 1213 L S (.int 64::S) := ES rfl
theorem w100_1213 : EW lw 100 1213 1214 L (.int y::.int x::S) (.int (x - y)::S) := ES rfl
theorem w100_1214 : EW lw 100 1214 1215 L (.int y::.long x::S) (.long (x <<< (y.toInt64 &&& 63))::S) := ES rfl
theorem w100_1215 : EW lw 100 1215 1218 L S (.long (-1)::S) := ES rfl
theorem w100_1218 : EW lw 100 1218 1219 L (.long y::.long x::S) (.long (x ^^^ y)::S) := ES rfl
theorem w100_1219 : EW lw 100 1219 1220 L (.long y::.long x::S) (.long (x &&& y)::S) := ES rfl
theorem w100_1220j : W (pj lw) 100 1220 (a::b::c::d::e::f::h::i::j::l::m::o::p::q::r::s::v::w::z::A::B::C::D::E::F::G::I::J::K::M::N::O::P::R::T::U::V::X::Y::Z::l40::l41::l42::l43::l44::l45::l46::l47::.val (.long y)::.second::L) (.long x::S) k n H Q ↔ W (pj lw) 100 1222 (a::b::c::d::e::f::h::i::j::l::m::o::p::q::r::s::v::w::z::A::B::C::D::E::F::G::I::J::K::M::N::O::P::R::T::U::V::X::Y::Z::l40::l41::l42::l43::l44::l45::l46::l47::.val (.long x)::.second::L) S k n H Q := W_lst' (rfl : (pj lw).1 100 1220 = some (.lstore 48, 2, 0)) rfl rfl
theorem w100_1222 : EW lw 100 1222 1224 (a::b::c::d::e::f::h::i::j::l::m::o::p::q::r::s::v::w::y::z::A::B::C::D::E::F::G::I::J::K::M::N::O::P::R::T::U::V::X::Y::Z::l41::.val (.int x)::L) S (.int x::S) := ES rfl
theorem w100_1224 : EW lw 100 1224 1225 L S (.int (-1)::S) := ES rfl
theorem w100_1225 : Zw5 lw 100 1225 100 1284 100 1228 := W_icmp_eq (len := 3) rfl rfl
theorem w100_1228 : EW lw 100 1228 1230 (a::b::c::d::e::f::h::i::j::l::m::o::p::q::r::s::v::w::y::z::A::B::C::D::E::F::G::I::J::K::M::N::O::P::R::T::U::V::X::Y::Z::l41::.val (.int x)::L) S (.int x::S) := ES rfl
theorem w100_1230 : Zw10 lw 100 1230 100 1251 100 1233 := W_if_lt (len := 3) rfl rfl
theorem w100_1233 : EW lw 100 1233 1235 (a::b::c::d::e::f::h::i::j::l::m::o::p::q::r::s::v::w::y::z::A::B::C::D::E::F::G::I::J::K::M::N::O::P::R::T::U::V::X::Y::Z::l41::.val (.int x)::L) S (.int x::S) := ES rfl
theorem w100_1235 : EW lw 100 1235 1237 L S (.int 127::S) := ES rfl
theorem w100_1237 : Zw1 lw 100 1237 100 1251 100 1240 := W_icmp_gt (len := 3) rfl rfl
theorem w100_1240 : EW lw 100 1240 1241 (a::b::c::.val (.long x)::L) S (.long x::S) := ES rfl
theorem w100_1241 : EW lw 100 1241 1243 (a::b::c::d::e::.val (.long x)::L) S (.long x::S) := ES rfl
theorem w100_1243 : EW lw 100 1243 1245 (a::b::c::d::e::f::h::i::j::l::m::o::p::q::r::s::v::w::y::z::A::B::C::D::E::F::G::I::J::K::M::N::O::P::R::T::U::V::X::Y::Z::l41::.val (.int x)::L) S (.int x::S) := ES rfl
theorem w100_1245 : W (pj lw) 100 1245 L (.int x2::.long x1::.long x0::S) k n H Q ↔ (cs S + (5 + 11) + 0 ≤ 192 ∧ Cl (pj lw) 106 [.long x0, .long x1, .int x2] H (fun v H => W (pj lw) 100 1248 L (v.toList ++ S) k n H Q)) := W_stat (a := [.long x0, .long x1, .int x2]) (rfl : (pj lw).1 100 1245 = some (.invokestatic 91, 3, 106)) rfl rfl rfl (Nat.le_of_ble_eq_true rfl) (Nat.le_of_ble_eq_true rfl) ⟨rfl, rfl⟩
theorem w100_1248 : Zw4 lw 100 1248 100 1253 100 1251 := W_if_eq (len := 3) rfl rfl
theorem w100_1253 : EW lw 100 1253 1255 (a::b::c::d::e::f::h::i::j::l::m::o::p::q::r::s::v::w::y::z::A::B::C::D::E::F::G::I::J::K::M::N::O::P::R::T::U::V::X::Y::Z::l41::.val (.int x)::L) S (.int x::S) := ES rfl
theorem w100_1255 : EW lw 100 1255 1257 L S (.int 64::S) := ES rfl
theorem w100_1257 : Zw0 lw 100 1257 100 1260 100 1272 := W_icmp_ge (len := 3) rfl rfl
theorem w100_1260 : EW lw 100 1260 1262 (a::b::c::d::e::f::h::i::j::l::m::o::p::q::r::s::v::w::y::z::A::B::C::D::E::F::G::I::J::K::M::N::O::P::R::T::U::V::X::Y::Z::l41::l42::l43::l44::l45::.val (.long x)::L) S (.long x::S) := ES rfl
theorem w100_1262 : EW lw 100 1262 1263 L S (.long 1::S) := ES rfl
theorem w100_1263 : EW lw 100 1263 1265 (a::b::c::d::e::f::h::i::j::l::m::o::p::q::r::s::v::w::y::z::A::B::C::D::E::F::G::I::J::K::M::N::O::P::R::T::U::V::X::Y::Z::l41::.val (.int x)::L) S (.int x::S) := ES rfl
theorem w100_1265 : EW lw 100 1265 1266 L (.int y::.long x::S) (.long (x <<< (y.toInt64 &&& 63))::S) := ES rfl
theorem w100_1266 : EW lw 100 1266 1267 L (.long y::.long x::S) (.long (x ||| y)::S) := ES rfl
theorem w100_1267j : W (pj lw) 100 1267 (a::b::c::d::e::f::h::i::j::l::m::o::p::q::r::s::v::w::z::A::B::C::D::E::F::G::I::J::K::M::N::O::P::R::T::U::V::X::Y::Z::l40::l41::l42::l43::l44::l45::.val (.long y)::.second::L) (.long x::S) k n H Q ↔ W (pj lw) 100 1269 (a::b::c::d::e::f::h::i::j::l::m::o::p::q::r::s::v::w::z::A::B::C::D::E::F::G::I::J::K::M::N::O::P::R::T::U::V::X::Y::Z::l40::l41::l42::l43::l44::l45::.val (.long x)::.second::L) S k n H Q := W_lst' (rfl : (pj lw).1 100 1267 = some (.lstore 46, 2, 0)) rfl rfl
theorem w100_1269 : W (pj lw) 100 1269 L S k n H Q ↔ W (pj lw) 100 1284 L S k n H Q := W_goto rfl rfl
theorem w100_1272 : EW lw 100 1272 1274 (a::b::c::d::e::f::h::i::j::l::m::o::p::q::r::s::v::w::y::z::A::B::C::D::E::F::G::I::J::K::M::N::O::P::R::T::U::V::X::Y::Z::l41::l42::l43::l44::l45::l46::l47::.val (.long x)::L) S (.long x::S) := ES rfl
theorem w100_1274 : EW lw 100 1274 1275 L S (.long 1::S) := ES rfl
theorem w100_1275 : EW lw 100 1275 1277 (a::b::c::d::e::f::h::i::j::l::m::o::p::q::r::s::v::w::y::z::A::B::C::D::E::F::G::I::J::K::M::N::O::P::R::T::U::V::X::Y::Z::l41::.val (.int x)::L) S (.int x::S) := ES rfl
theorem w100_1277 : EW lw 100 1277 1279 L S (.int 64::S) := ES rfl
theorem w100_1279 : EW lw 100 1279 1280 L (.int y::.int x::S) (.int (x - y)::S) := ES rfl
theorem w100_1280 : EW lw 100 1280 1281 L (.int y::.long x::S) (.long (x <<< (y.toInt64 &&& 63))::S) := ES rfl
theorem w100_1281 : EW lw 100 1281 1282 L (.long y::.long x::S) (.long (x ||| y)::S) := ES rfl
theorem w100_1282j : W (pj lw) 100 1282 (a::b::c::d::e::f::h::i::j::l::m::o::p::q::r::s::v::w::z::A::B::C::D::E::F::G::I::J::K::M::N::O::P::R::T::U::V::X::Y::Z::l40::l41::l42::l43::l44::l45::l46::l47::.val (.long y)::.second::L) (.long x::S) k n H Q ↔ W (pj lw) 100 1284 (a::b::c::d::e::f::h::i::j::l::m::o::p::q::r::s::v::w::z::A::B::C::D::E::F::G::I::J::K::M::N::O::P::R::T::U::V::X::Y::Z::l40::l41::l42::l43::l44::l45::l46::l47::.val (.long x)::.second::L) S k n H Q := W_lst' (rfl : (pj lw).1 100 1282 = some (.lstore 48, 2, 0)) rfl rfl
theorem w100_1284 : EW lw 100 1284 1286 (a::b::c::d::e::f::h::i::j::l::m::o::p::q::r::s::v::w::y::z::A::B::C::D::E::F::G::I::J::K::M::N::O::P::R::T::U::V::X::Y::Z::l41::l42::l43::l44::l45::.val (.long x)::L) S (.long x::S) := ES rfl
theorem w100_1286 : EW lw 100 1286 1288 (a::b::c::d::e::f::h::i::j::l::m::o::p::q::r::s::v::w::y::z::A::B::C::.val (.long x)::L) S (.long x::S) := ES rfl
theorem w100_1288 : EW lw 100 1288 1289 L (.long y::.long x::S) (.int (Jvm.Free.XT.cmpL x y)::S) := ES rfl
theorem w100_1289 : Zw4 lw 100 1289 100 1292 100 1300 := W_if_ne (len := 3) rfl rfl
theorem w100_1292 : EW lw 100 1292 1294 (a::b::c::d::e::f::h::i::j::l::m::o::p::q::r::s::v::w::y::z::A::B::C::D::E::F::G::I::J::K::M::N::O::P::R::T::U::V::X::Y::Z::l41::l42::l43::l44::l45::l46::l47::.val (.long x)::L) S (.long x::S) := ES rfl
theorem w100_1294 : EW lw 100 1294 1296 (a::b::c::d::e::f::h::i::j::l::m::o::p::q::r::s::v::w::y::z::A::B::C::D::E::.val (.long x)::L) S (.long x::S) := ES rfl
theorem w100_1296 : EW lw 100 1296 1297 L (.long y::.long x::S) (.int (Jvm.Free.XT.cmpL x y)::S) := ES rfl
theorem w100_1297 : Zw4 lw 100 1297 100 1302 100 1300 := W_if_eq (len := 3) rfl rfl
theorem w100_1302 : W (pj lw) 100 1302 L S k n H Q ↔ W (pj lw) 100 1394 L S k n H Q := W_goto rfl rfl
theorem w100_1305 : EW lw 100 1305 1307 (a::b::c::d::e::f::h::i::j::l::m::o::p::q::r::s::v::w::y::z::A::.val (.int x)::L) S (.int x::S) := ES rfl
theorem w100_1307 : Zw4 lw 100 1307 100 1394 100 1310 := W_if_eq (len := 3) rfl rfl
theorem w100_1310 : EW lw 100 1310 1312 (a::b::c::d::e::f::h::i::j::l::m::o::p::q::r::s::v::w::y::z::A::B::C::.val (.long x)::L) S (.long x::S) := ES rfl
theorem w100_1312 : EW lw 100 1312 1313 (a::b::c::.val (.long x)::L) S (.long x::S) := ES rfl
theorem w100_1313 : EW lw 100 1313 1314 L (.long y::.long x::S) (.int (Jvm.Free.XT.cmpL x y)::S) := ES rfl
theorem w100_1314 : Zw4 lw 100 1314 100 1317 100 1392 := W_if_ne (len := 3) rfl rfl
theorem w100_1317 : EW lw 100 1317 1319 (a::b::c::d::e::f::h::i::j::l::m::o::p::q::r::s::v::w::y::z::A::B::C::D::E::.val (.long x)::L) S (.long x::S) := ES rfl
theorem w100_1319 : EW lw 100 1319 1321 (a::b::c::d::e::.val (.long x)::L) S (.long x::S) := ES rfl
theorem w100_1321 : EW lw 100 1321 1322 L (.long y::.long x::S) (.int (Jvm.Free.XT.cmpL x y)::S) := ES rfl
theorem w100_1322 : Zw4 lw 100 1322 100 1325 100 1392 := W_if_ne (len := 3) rfl rfl
theorem w100_1325 : EW lw 100 1325 1327 (a::b::c::d::e::f::h::i::j::l::m::o::p::q::r::s::v::w::y::z::A::B::C::D::E::F::G::.val (.long x)::L) S (.long x::S) := ES rfl
theorem w100_1327 : EW lw 100 1327 1329 (a::b::c::d::e::f::h::.val (.long x)::L) S (.long x::S) := ES rfl
theorem w100_1329 : EW lw 100 1329 1330 L (.long y::.long x::S) (.int (Jvm.Free.XT.cmpL x y)::S) := ES rfl
theorem w100_1330 : Zw4 lw 100 1330 100 1333 100 1392 := W_if_ne (len := 3) rfl rfl
theorem w100_1333 : EW lw 100 1333 1335 (a::b::c::d::e::f::h::i::j::l::m::o::p::q::r::s::v::w::y::z::A::B::C::D::E::F::G::I::J::.val (.long x)::L) S (.long x::S) := ES rfl
theorem w100_1335 : EW lw 100 1335 1337 (a::b::c::d::e::f::h::i::j::.val (.long x)::L) S (.long x::S) := ES rfl
theorem w100_1337 : EW lw 100 1337 1338 L (.long y::.long x::S) (.int (Jvm.Free.XT.cmpL x y)::S) := ES rfl
theorem w100_1338 : Zw4 lw 100 1338 100 1341 100 1392 := W_if_ne (len := 3) rfl rfl
theorem w100_1341 : EW lw 100 1341 1343 (a::b::c::d::e::f::h::i::j::l::m::o::p::q::r::s::v::w::y::z::A::B::C::D::E::F::G::I::J::K::M::N::O::P::R::.val (.long x)::L) S (.long x::S) := ES rfl
theorem w100_1343 : EW lw 100 1343 1345 (a::b::c::d::e::f::h::i::j::l::m::.val (.long x)::L) S (.long x::S) := ES rfl
theorem w100_1345 : EW lw 100 1345 1346 L (.long y::.long x::S) (.int (Jvm.Free.XT.cmpL x y)::S) := ES rfl
theorem w100_1346 : Zw4 lw 100 1346 100 1349 100 1392 := W_if_ne (len := 3) rfl rfl
theorem w100_1349 : EW lw 100 1349 1351 (a::b::c::d::e::f::h::i::j::l::m::o::p::q::r::s::v::w::y::z::A::B::C::D::E::F::G::I::J::K::M::N::O::P::R::T::U::V::X::Y::Z::l41::l42::l43::.val (.long x)::L) S (.long x::S) := ES rfl
theorem w100_1351 : EW lw 100 1351 1353 (a::b::c::d::e::f::h::i::j::l::m::o::p::.val (.long x)::L) S (.long x::S) := ES rfl
theorem w100_1353 : EW lw 100 1353 1354 L (.long y::.long x::S) (.int (Jvm.Free.XT.cmpL x y)::S) := ES rfl
theorem w100_1354 : Zw4 lw 100 1354 100 1357 100 1392 := W_if_ne (len := 3) rfl rfl
theorem w100_1357 : EW lw 100 1357 1359 (a::b::c::d::e::f::h::i::j::l::m::o::p::q::r::s::v::w::y::z::A::B::C::D::E::F::G::I::J::K::M::N::O::P::R::T::U::V::X::.val (.int x)::L) S (.int x::S) := ES rfl
theorem w100_1359 : EW lw 100 1359 1361 (a::b::c::d::e::f::h::i::j::l::m::o::p::q::r::.val (.int x)::L) S (.int x::S) := ES rfl
theorem w100_1361 : Zw5 lw 100 1361 100 1364 100 1392 := W_icmp_ne (len := 3) rfl rfl
theorem w100_1364 : EW lw 100 1364 1366 (a::b::c::d::e::f::h::i::j::l::m::o::p::q::r::s::v::w::y::z::A::B::C::D::E::F::G::I::J::K::M::N::O::P::R::T::U::V::X::Y::.val (.int x)::L) S (.int x::S) := ES rfl
theorem w100_1366 : EW lw 100 1366 1368 (a::b::c::d::e::f::h::i::j::l::m::o::p::q::r::s::.val (.int x)::L) S (.int x::S) := ES rfl
theorem w100_1368 : Zw5 lw 100 1368 100 1371 100 1392 := W_icmp_ne (len := 3) rfl rfl
theorem w100_1371 : EW lw 100 1371 1373 (a::b::c::d::e::f::h::i::j::l::m::o::p::q::r::s::v::w::y::z::A::B::C::D::E::F::G::I::J::K::M::N::O::P::R::T::U::V::X::Y::Z::.val (.int x)::L) S (.int x::S) := ES rfl
theorem w100_1373 : EW lw 100 1373 1375 (a::b::c::d::e::f::h::i::j::l::m::o::p::q::r::s::v::.val (.int x)::L) S (.int x::S) := ES rfl
theorem w100_1375 : Zw5 lw 100 1375 100 1378 100 1392 := W_icmp_ne (len := 3) rfl rfl
theorem w100_1378 : EW lw 100 1378 1380 (a::b::c::d::e::f::h::i::j::l::m::o::p::q::r::s::v::w::y::z::A::B::C::D::E::F::G::I::J::K::M::N::O::P::R::T::U::V::X::Y::Z::l41::.val (.int x)::L) S (.int x::S) := ES rfl
theorem w100_1380 : EW lw 100 1380 1382 (a::b::c::d::e::f::h::i::j::l::m::o::p::q::r::s::v::w::.val (.int x)::L) S (.int x::S) := ES rfl
theorem w100_1382 : Zw5 lw 100 1382 100 1385 100 1392 := W_icmp_ne (len := 3) rfl rfl
theorem w100_1385 : EW lw 100 1385 1387 (a::b::c::d::e::f::h::i::j::l::m::o::p::q::r::s::v::w::y::z::A::B::C::D::E::F::G::I::J::K::M::N::O::P::R::T::U::V::X::Y::Z::l41::l42::.val (.int x)::L) S (.int x::S) := ES rfl
theorem w100_1387 : EW lw 100 1387 1389 (a::b::c::d::e::f::h::i::j::l::m::o::p::q::r::s::v::w::y::.val (.int x)::L) S (.int x::S) := ES rfl
theorem w100_1389 : Zw5 lw 100 1389 100 1394 100 1392 := W_icmp_eq (len := 3) rfl rfl
theorem w100_1394 : EW lw 100 1394 1396 (a::b::c::d::e::f::h::i::j::l::m::o::p::q::r::s::v::w::y::z::A::B::C::.val (.long x)::L) S (.long x::S) := ES rfl
theorem w100_1396j : W (pj lw) 100 1396 (a::b::c::.val (.long y)::.second::L) (.long x::S) k n H Q ↔ W (pj lw) 100 1397 (a::b::c::.val (.long x)::.second::L) S k n H Q := W_lstn' (rfl : (pj lw).1 100 1396 = some (.lstore_n 3, 1, 0)) rfl rfl
theorem w100_1397 : EW lw 100 1397 1399 (a::b::c::d::e::f::h::i::j::l::m::o::p::q::r::s::v::w::y::z::A::B::C::D::E::.val (.long x)::L) S (.long x::S) := ES rfl
theorem w100_1399j : W (pj lw) 100 1399 (a::b::c::d::e::.val (.long y)::.second::L) (.long x::S) k n H Q ↔ W (pj lw) 100 1401 (a::b::c::d::e::.val (.long x)::.second::L) S k n H Q := W_lst' (rfl : (pj lw).1 100 1399 = some (.lstore 5, 2, 0)) rfl rfl
theorem w100_1401 : EW lw 100 1401 1403 (a::b::c::d::e::f::h::i::j::l::m::o::p::q::r::s::v::w::y::z::A::B::C::D::E::F::G::.val (.long x)::L) S (.long x::S) := ES rfl
theorem w100_1403j : W (pj lw) 100 1403 (a::b::c::d::e::f::h::.val (.long y)::.second::L) (.long x::S) k n H Q ↔ W (pj lw) 100 1405 (a::b::c::d::e::f::h::.val (.long x)::.second::L) S k n H Q := W_lst' (rfl : (pj lw).1 100 1403 = some (.lstore 7, 2, 0)) rfl rfl
theorem w100_1405 : EW lw 100 1405 1407 (a::b::c::d::e::f::h::i::j::l::m::o::p::q::r::s::v::w::y::z::A::B::C::D::E::F::G::I::J::.val (.long x)::L) S (.long x::S) := ES rfl
theorem w100_1407j : W (pj lw) 100 1407 (a::b::c::d::e::f::h::i::j::.val (.long y)::.second::L) (.long x::S) k n H Q ↔ W (pj lw) 100 1409 (a::b::c::d::e::f::h::i::j::.val (.long x)::.second::L) S k n H Q := W_lst' (rfl : (pj lw).1 100 1407 = some (.lstore 9, 2, 0)) rfl rfl
theorem w100_1409 : EW lw 100 1409 1411 (a::b::c::d::e::f::h::i::j::l::m::o::p::q::r::s::v::w::y::z::A::B::C::D::E::F::G::I::J::K::M::N::O::P::R::.val (.long x)::L) S (.long x::S) := ES rfl
theorem w100_1411j : W (pj lw) 100 1411 (a::b::c::d::e::f::h::i::j::l::m::.val (.long y)::.second::L) (.long x::S) k n H Q ↔ W (pj lw) 100 1413 (a::b::c::d::e::f::h::i::j::l::m::.val (.long x)::.second::L) S k n H Q := W_lst' (rfl : (pj lw).1 100 1411 = some (.lstore 11, 2, 0)) rfl rfl
theorem w100_1413 : EW lw 100 1413 1415 (a::b::c::d::e::f::h::i::j::l::m::o::p::q::r::s::v::w::y::z::A::B::C::D::E::F::G::I::J::K::M::N::O::P::R::T::U::V::X::Y::Z::l41::l42::l43::.val (.long x)::L) S (.long x::S) := ES rfl
theorem w100_1415j : W (pj lw) 100 1415 (a::b::c::d::e::f::h::i::j::l::m::o::p::.val (.long y)::.second::L) (.long x::S) k n H Q ↔ W (pj lw) 100 1417 (a::b::c::d::e::f::h::i::j::l::m::o::p::.val (.long x)::.second::L) S k n H Q := W_lst' (rfl : (pj lw).1 100 1415 = some (.lstore 13, 2, 0)) rfl rfl
theorem w100_1417 : EW lw 100 1417 1419 (a::b::c::d::e::f::h::i::j::l::m::o::p::q::r::s::v::w::y::z::A::B::C::D::E::F::G::I::J::K::M::N::O::P::R::T::U::V::X::.val (.int x)::L) S (.int x::S) := ES rfl
theorem w100_1419i : W (pj lw) 100 1419 (a::b::c::d::e::f::h::i::j::l::m::o::p::q::r::.val (.int y)::L) (.int x::S) k n H Q ↔ W (pj lw) 100 1421 (a::b::c::d::e::f::h::i::j::l::m::o::p::q::r::.val (.int x)::L) S k n H Q := W_ist (rfl : (pj lw).1 100 1419 = some (.istore 15, 2, 0)) rfl rfl
theorem w100_1421 : EW lw 100 1421 1423 (a::b::c::d::e::f::h::i::j::l::m::o::p::q::r::s::v::w::y::z::A::B::C::D::E::F::G::I::J::K::M::N::O::P::R::T::U::V::X::Y::.val (.int x)::L) S (.int x::S) := ES rfl
theorem w100_1423i : W (pj lw) 100 1423 (a::b::c::d::e::f::h::i::j::l::m::o::p::q::r::s::.val (.int y)::L) (.int x::S) k n H Q ↔ W (pj lw) 100 1425 (a::b::c::d::e::f::h::i::j::l::m::o::p::q::r::s::.val (.int x)::L) S k n H Q := W_ist (rfl : (pj lw).1 100 1423 = some (.istore 16, 2, 0)) rfl rfl
theorem w100_1425 : EW lw 100 1425 1427 (a::b::c::d::e::f::h::i::j::l::m::o::p::q::r::s::v::w::y::z::A::B::C::D::E::F::G::I::J::K::M::N::O::P::R::T::U::V::X::Y::Z::.val (.int x)::L) S (.int x::S) := ES rfl
theorem w100_1427i : W (pj lw) 100 1427 (a::b::c::d::e::f::h::i::j::l::m::o::p::q::r::s::v::.val (.int y)::L) (.int x::S) k n H Q ↔ W (pj lw) 100 1429 (a::b::c::d::e::f::h::i::j::l::m::o::p::q::r::s::v::.val (.int x)::L) S k n H Q := W_ist (rfl : (pj lw).1 100 1427 = some (.istore 17, 2, 0)) rfl rfl
theorem w100_1429 : EW lw 100 1429 1431 (a::b::c::d::e::f::h::i::j::l::m::o::p::q::r::s::v::w::y::z::A::B::C::D::E::F::G::I::J::K::M::N::O::P::R::T::U::V::X::Y::Z::l41::.val (.int x)::L) S (.int x::S) := ES rfl
theorem w100_1431i : W (pj lw) 100 1431 (a::b::c::d::e::f::h::i::j::l::m::o::p::q::r::s::v::w::.val (.int y)::L) (.int x::S) k n H Q ↔ W (pj lw) 100 1433 (a::b::c::d::e::f::h::i::j::l::m::o::p::q::r::s::v::w::.val (.int x)::L) S k n H Q := W_ist (rfl : (pj lw).1 100 1431 = some (.istore 18, 2, 0)) rfl rfl
theorem w100_1433 : EW lw 100 1433 1435 (a::b::c::d::e::f::h::i::j::l::m::o::p::q::r::s::v::w::y::z::A::B::C::D::E::F::G::I::J::K::M::N::O::P::R::T::U::V::X::Y::Z::l41::l42::.val (.int x)::L) S (.int x::S) := ES rfl
theorem w100_1435i : W (pj lw) 100 1435 (a::b::c::d::e::f::h::i::j::l::m::o::p::q::r::s::v::w::z::.val (.int y)::L) (.int x::S) k n H Q ↔ W (pj lw) 100 1437 (a::b::c::d::e::f::h::i::j::l::m::o::p::q::r::s::v::w::z::.val (.int x)::L) S k n H Q := W_ist (rfl : (pj lw).1 100 1435 = some (.istore 19, 2, 0)) rfl rfl
theorem w100_1437 : W (pj lw) 100 1437 (a::b::c::d::e::f::h::i::j::l::m::o::p::q::r::s::v::w::y::z::.val (.int x)::L) S k n H Q ↔ W (pj lw) 100 1440 (a::b::c::d::e::f::h::i::j::l::m::o::p::q::r::s::v::w::y::z::.val (.int (x + 4))::L) S k n H Q := W_s rfl rfl rfl rfl
theorem w100_1440 : W (pj lw) 100 1440 L S k n H Q ↔ W (pj lw) 100 58 L S k n H Q := W_goto rfl rfl
theorem w100_1443 : EW lw 100 1443 1444 L S (.int 1::S) := ES rfl
theorem w100_1444 : Zw6 lw 100 1444 := W_rz rfl rfl
theorem c102 {x0 : Nat} {x1 : Int32} : Cl (pj lw) 102 [.ref x0, .int x1] H Q ↔ W (pj lw) 102 0 [.val (.ref x0), .val (.int x1)] [] 0 0 H Q := cl_unf rfl
theorem w102_0 : EW lw 102 0 1 (a::.val (.int x)::L) S (.int x::S) := ES rfl
theorem w102_1 : EW lw 102 1 2 (.val (.ref x)::L) S (.ref x::S) := ES rfl
theorem w102_2 : W (pj lw) 102 2 L (.ref a::S) k n H Q ↔ (isA H a = true ∧ W (pj lw) 102 3 L (.int (alen H a).toInt32::S) k n H Q) := W_alen (len := 1) rfl
theorem w102_3 : Zw0 lw 102 3 102 6 102 12 := W_icmp_ge (len := 3) rfl rfl
theorem w102_6 : EW lw 102 6 7 (.val (.ref x)::L) S (.ref x::S) := ES rfl
theorem w102_7 : EW lw 102 7 8 (a::.val (.int x)::L) S (.int x::S) := ES rfl
theorem w102_8 : Zw8 lw 102 8 102 9 := W_iaload (len := 1) rfl
theorem w102_9 : W (pj lw) 102 9 L S k n H Q ↔ W (pj lw) 102 13 L S k n H Q := W_goto rfl rfl
theorem w102_12 : EW lw 102 12 13 L S (.int 0::S) := ES rfl
theorem w102_13 : W (pj lw) 102 13 L (.int x::S) k n H Q ↔ Q (some (.int x)) H := W_r rfl rfl
theorem c103 {x0 : Int32} {x1 : Int32} : Cl (pj lw) 103 [.int x0, .int x1] H Q ↔ W (pj lw) 103 0 [.val (.int x0), .val (.int x1), .unset] [] 0 0 H Q := cl_unf rfl
theorem w103_0 : EW lw 103 0 1 (.val (.int x)::L) S (.int x::S) := ES rfl
theorem w103_1 : EW lw 103 1 2 (a::.val (.int x)::L) S (.int x::S) := ES rfl
theorem w103_2 : W (pj lw) 103 2 L (.int y::.int x::S) k n H Q ↔ (¬ y = 0 ∧ W (pj lw) 103 3 L (.int (x % y)::S) k n H Q) := W_irem (len := 1) rfl
theorem w103_3 : W (pj lw) 103 3 (a::b::.unset::L) (.int x::S) k n H Q ↔ W (pj lw) 103 4 (a::b::.val (.int x)::L) S k n H Q := W_istn (rfl : (pj lw).1 103 3 = some (.istore_n 2, 1, 0)) rfl rfl
theorem w103_4 : EW lw 103 4 5 (a::b::.val (.int x)::L) S (.int x::S) := ES rfl
theorem w103_5 : Zw10 lw 103 5 103 8 103 14 := W_if_ge (len := 3) rfl rfl
theorem w103_8 : EW lw 103 8 9 (a::b::.val (.int x)::L) S (.int x::S) := ES rfl
theorem w103_9 : EW lw 103 9 10 (a::.val (.int x)::L) S (.int x::S) := ES rfl
theorem w103_10 : EW lw 103 10 11 L (.int y::.int x::S) (.int (x + y)::S) := ES rfl
theorem w103_11 : W (pj lw) 103 11 L S k n H Q ↔ W (pj lw) 103 15 L S k n H Q := W_goto rfl rfl
theorem w103_14 : EW lw 103 14 15 (a::b::.val (.int x)::L) S (.int x::S) := ES rfl
theorem w103_15 : W (pj lw) 103 15 L (.int x::S) k n H Q ↔ Q (some (.int x)) H := W_r rfl rfl
theorem c104 {x0 : Int32} : Cl (pj lw) 104 [.int x0] H Q ↔ W (pj lw) 104 0 [.val (.int x0), .unset] [] 0 0 H Q := cl_unf rfl
theorem w104_0 : EW lw 104 0 1 (.val (.int x)::L) S (.int x::S) := ES rfl
theorem w104_1 : EW lw 104 1 3 L S (.int 40::S) := ES rfl
theorem w104_3 : W (pj lw) 104 3 L (.int x1::.int x0::S) k n H Q ↔ (cs S + (3 + 11) + 0 ≤ 14 ∧ Cl (pj lw) 103 [.int x0, .int x1] H (fun v H => W (pj lw) 104 6 L (v.toList ++ S) k n H Q)) := W_stat (a := [.int x0, .int x1]) (rfl : (pj lw).1 104 3 = some (.invokestatic 7, 3, 103)) rfl rfl rfl (Nat.le_of_ble_eq_true rfl) (Nat.le_of_ble_eq_true rfl) ⟨rfl, rfl⟩
theorem w104_6 : W (pj lw) 104 6 (a::.unset::L) (.int x::S) k n H Q ↔ W (pj lw) 104 7 (a::.val (.int x)::L) S k n H Q := W_istn (rfl : (pj lw).1 104 6 = some (.istore_n 1, 1, 0)) rfl rfl
theorem w104_7 : EW lw 104 7 8 (a::.val (.int x)::L) S (.int x::S) := ES rfl
theorem w104_8 : EW lw 104 8 10 L S (.int 38::S) := ES rfl
theorem w104_10 : Zw5 lw 104 10 104 13 104 16 := W_icmp_ne (len := 3) rfl rfl
theorem w104_13 : EW lw 104 13 15 L S (.int 3000000::S) := ES rfl
theorem w104_15 : W (pj lw) 104 15 L (.int x::S) k n H Q ↔ Q (some (.int x)) H := W_r rfl rfl
theorem w104_16 : EW lw 104 16 17 (a::.val (.int x)::L) S (.int x::S) := ES rfl
theorem w104_17 : EW lw 104 17 19 L S (.int 39::S) := ES rfl
theorem w104_19 : Zw5 lw 104 19 104 22 104 25 := W_icmp_ne (len := 3) rfl rfl
theorem w104_22 : EW lw 104 22 24 L S (.int (-3000000)::S) := ES rfl
theorem w104_24 : W (pj lw) 104 24 L (.int x::S) k n H Q ↔ Q (some (.int x)) H := W_r rfl rfl
theorem w104_25 : EW lw 104 25 26 (.val (.int x)::L) S (.int x::S) := ES rfl
theorem w104_26 : EW lw 104 26 28 L S (.int 9::S) := ES rfl
theorem w104_28 : W (pj lw) 104 28 L (.int x1::.int x0::S) k n H Q ↔ (cs S + (3 + 11) + 0 ≤ 14 ∧ Cl (pj lw) 103 [.int x0, .int x1] H (fun v H => W (pj lw) 104 31 L (v.toList ++ S) k n H Q)) := W_stat (a := [.int x0, .int x1]) (rfl : (pj lw).1 104 28 = some (.invokestatic 7, 3, 103)) rfl rfl rfl (Nat.le_of_ble_eq_true rfl) (Nat.le_of_ble_eq_true rfl) ⟨rfl, rfl⟩
theorem w104_31 : EW lw 104 31 32 L S (.int 4::S) := ES rfl
theorem w104_32 : EW lw 104 32 33 L (.int y::.int x::S) (.int (x - y)::S) := ES rfl
theorem w104_33 : W (pj lw) 104 33 L (.int x::S) k n H Q ↔ Q (some (.int x)) H := W_r rfl rfl
theorem c105 {x0 : Int32} {x1 : Int32} {x2 : Int32} {x3 : Int32} : Cl (pj lw) 105 [.int x0, .int x1, .int x2, .int x3] H Q ↔ W (pj lw) 105 0 [.val (.int x0), .val (.int x1), .val (.int x2), .val (.int x3)] [] 0 0 H Q := cl_unf rfl
theorem w105_0 : EW lw 105 0 1 (.val (.int x)::L) S (.int x::S) := ES rfl
theorem w105_1 : EW lw 105 1 2 (a::b::.val (.int x)::L) S (.int x::S) := ES rfl
theorem w105_2 : Zw0 lw 105 2 105 15 105 5 := W_icmp_lt (len := 3) rfl rfl
theorem w105_5 : EW lw 105 5 6 (.val (.int x)::L) S (.int x::S) := ES rfl
theorem w105_6 : EW lw 105 6 7 (a::b::.val (.int x)::L) S (.int x::S) := ES rfl
theorem w105_7 : Zw5 lw 105 7 105 10 105 19 := W_icmp_ne (len := 3) rfl rfl
theorem w105_10 : EW lw 105 10 11 (a::.val (.int x)::L) S (.int x::S) := ES rfl
theorem w105_11 : EW lw 105 11 12 (a::b::c::.val (.int x)::L) S (.int x::S) := ES rfl
theorem w105_12 : Zw0 lw 105 12 105 15 105 19 := W_icmp_ge (len := 3) rfl rfl
theorem w105_15 : EW lw 105 15 16 L S (.int 1::S) := ES rfl
theorem w105_16 : W (pj lw) 105 16 L S k n H Q ↔ W (pj lw) 105 20 L S k n H Q := W_goto rfl rfl
theorem w105_19 : EW lw 105 19 20 L S (.int 0::S) := ES rfl
theorem w105_20 : Zw6 lw 105 20 := W_rz rfl rfl
theorem c106 {x0 : Int64} {x1 : Int64} {x2 : Int32} : Cl (pj lw) 106 [.long x0, .long x1, .int x2] H Q ↔ W (pj lw) 106 0 [.val (.long x0), .second, .val (.long x1), .second, .val (.int x2)] [] 0 0 H Q := cl_unf rfl
theorem w106_0 : EW lw 106 0 2 (a::b::c::d::.val (.int x)::L) S (.int x::S) := ES rfl
theorem w106_2 : EW lw 106 2 4 L S (.int 64::S) := ES rfl
theorem w106_4 : Zw0 lw 106 4 106 7 106 26 := W_icmp_ge (len := 3) rfl rfl
theorem w106_7 : EW lw 106 7 8 (.val (.long x)::L) S (.long x::S) := ES rfl
theorem w106_8 : EW lw 106 8 10 (a::b::c::d::.val (.int x)::L) S (.int x::S) := ES rfl
theorem w106_10 : EW lw 106 10 11 L (.int y::.long x::S) (.long (Jvm.Free.XT.ushrL x y)::S) := ES rfl
theorem w106_11 : EW lw 106 11 12 L S (.long 1::S) := ES rfl
theorem w106_12 : EW lw 106 12 13 L (.long y::.long x::S) (.long (x &&& y)::S) := ES rfl
theorem w106_13 : EW lw 106 13 14 L S (.long 0::S) := ES rfl
theorem w106_14 : EW lw 106 14 15 L (.long y::.long x::S) (.int (Jvm.Free.XT.cmpL x y)::S) := ES rfl
theorem w106_15 : Zw4 lw 106 15 106 22 106 18 := W_if_eq (len := 3) rfl rfl
theorem w106_18 : EW lw 106 18 19 L S (.int 1::S) := ES rfl
theorem w106_19 : W (pj lw) 106 19 L S k n H Q ↔ W (pj lw) 106 45 L S k n H Q := W_goto rfl rfl
theorem w106_22 : EW lw 106 22 23 L S (.int 0::S) := ES rfl
theorem w106_23 : W (pj lw) 106 23 L S k n H Q ↔ W (pj lw) 106 45 L S k n H Q := W_goto rfl rfl
theorem w106_26 : EW lw 106 26 27 (a::b::.val (.long x)::L) S (.long x::S) := ES rfl
theorem w106_27 : EW lw 106 27 29 (a::b::c::d::.val (.int x)::L) S (.int x::S) := ES rfl
theorem w106_29 : EW lw 106 29 31 L S (.int 64::S) := ES rfl
theorem w106_31 : EW lw 106 31 32 L (.int y::.int x::S) (.int (x - y)::S) := ES rfl
theorem w106_32 : EW lw 106 32 33 L (.int y::.long x::S) (.long (Jvm.Free.XT.ushrL x y)::S) := ES rfl
theorem w106_33 : EW lw 106 33 34 L S (.long 1::S) := ES rfl
theorem w106_34 : EW lw 106 34 35 L (.long y::.long x::S) (.long (x &&& y)::S) := ES rfl
theorem w106_35 : EW lw 106 35 36 L S (.long 0::S) := ES rfl
theorem w106_36 : EW lw 106 36 37 L (.long y::.long x::S) (.int (Jvm.Free.XT.cmpL x y)::S) := ES rfl
theorem w106_37 : Zw4 lw 106 37 106 44 106 40 := W_if_eq (len := 3) rfl rfl
theorem w106_40 : EW lw 106 40 41 L S (.int 1::S) := ES rfl
theorem w106_41 : W (pj lw) 106 41 L S k n H Q ↔ W (pj lw) 106 45 L S k n H Q := W_goto rfl rfl
theorem w106_44 : EW lw 106 44 45 L S (.int 0::S) := ES rfl
theorem w106_45 : Zw6 lw 106 45 := W_rz rfl rfl
end LPc
section X2
variable {H : AH} {p a : Nat} {s s' s0 s1 s2 : St} {Q : Option Value → AH → Prop} {k n it x0 : Nat} {o1 o2 o3 o4 o5 o6 a1 a2 b1 b2 c1 c2 g1 g2 : Int64} {nn q1 q2 q3 q4 q5 i up ok e f tv ea eb we x y z w u v R R0 c j q1' q2' q3' q4' : Int32} {g3 : Int64}
theorem s103 (hm : ¬ y = 0) : Cl (pj lw) 103 [.int x, .int y] H Q ↔ Q (some (.int (if x % y < 0 then x % y + y else x % y))) H := by
  rw [c103]
  by_cases h : x % y < 0
  · simp +decide only [w103_0, w103_1, w103_2, w103_3, w103_4, w103_5, w103_8, w103_9, w103_10, w103_11, w103_15, true_and, not_false_eq_true, ↓reduceIte, hm, h]
  · simp +decide only [w103_0, w103_1, w103_2, w103_3, w103_4, w103_5, w103_14, w103_15, true_and, not_false_eq_true, ↓reduceIte, hm, h]
def wgt (x : Int32) : Int32 := if (if x % 40 < 0 then x % 40 + 40 else x % 40) = 38 then 3000000 else if (if x % 40 < 0 then x % 40 + 40 else x % 40) = 39 then -3000000 else (if x % 9 < 0 then x % 9 + 9 else x % 9) - 4
theorem s104 : Cl (pj lw) 104 [.int x] H Q ↔ Q (some (.int (wgt x))) H := by
  have q1 := fun H Q => s103 (x := x) (y := 40) (H := H) (Q := Q) (by decide)
  have q2 := fun H Q => s103 (x := x) (y := 9) (H := H) (Q := Q) (by decide)
  rw [c104]; unfold wgt
  by_cases h1 : (if x % 40 < 0 then x % 40 + 40 else x % 40) = 38
  · simp +decide only [w104_0, w104_1, w104_3, Option.toList_some, List.cons_append, List.nil_append, true_and, q1]
    generalize (if x % 40 < 0 then x % 40 + 40 else x % 40) = r at *
    simp +decide only [w104_6, w104_7, w104_8, w104_10, w104_13, w104_15, ↓reduceIte, h1]
  · by_cases h2 : (if x % 40 < 0 then x % 40 + 40 else x % 40) = 39
    · simp +decide only [w104_0, w104_1, w104_3, Option.toList_some, List.cons_append, List.nil_append, true_and, q1]
      generalize (if x % 40 < 0 then x % 40 + 40 else x % 40) = r at *
      simp +decide only [w104_6, w104_7, w104_8, w104_10, w104_16, w104_17, w104_19, w104_22, w104_24, ↓reduceIte, h2]
    · simp +decide only [w104_0, w104_1, w104_3, Option.toList_some, List.cons_append, List.nil_append, true_and, q1]
      generalize (if x % 40 < 0 then x % 40 + 40 else x % 40) = r at *
      simp +decide only [w104_6, w104_7, w104_8, w104_10, w104_16, w104_17, w104_19, w104_25, w104_26, w104_28, w104_31, w104_32, w104_33, Option.toList_some, List.cons_append, List.nil_append, true_and, ↓reduceIte, h1, h2, q2]
def prc (w1 x w2 y : Int32) : Bool := decide (w1 < w2 ∨ (w1 = w2 ∧ x < y))
theorem s105 : Cl (pj lw) 105 [.int w, .int x, .int z, .int y] H Q ↔ Q (some (.int (bz (prc w x z y)))) H := by
  rw [c105]; unfold prc
  by_cases h1 : w < z
  · simp +decide only [w105_0, w105_1, w105_2, w105_15, w105_16, w105_20, true_and, true_or, ↓reduceIte, h1, bz, decide_true]
  · by_cases h2 : w = z
    · by_cases h3 : x < y
      · simp +decide only [w105_0, w105_1, w105_2, w105_5, w105_6, w105_7, w105_10, w105_11, w105_12, w105_15, w105_16, w105_20, true_and, and_true, or_true, ↓reduceIte, h1, eq_true h2, h3, bz, decide_true]
      · simp +decide only [w105_0, w105_1, w105_2, w105_5, w105_6, w105_7, w105_10, w105_11, w105_12, w105_19, w105_20, true_and, and_false, or_false, ↓reduceIte, h1, eq_true h2, h3, bz, decide_false]
    · simp +decide only [w105_0, w105_1, w105_2, w105_5, w105_6, w105_7, w105_19, w105_20, true_and, false_and, or_false, ↓reduceIte, h1, h2, bz, decide_false]
theorem s106 (h : 0 ≤ x.toInt ∧ x.toInt < 128) : Cl (pj lw) 106 [.long a1, .long a2, .int x] H Q ↔ Q (some (.int (bz (B2 a1 a2 x.toNatClampNeg)))) H := by
  rw [c106]; unfold B2
  by_cases e1 : x < 64
  · have e1' := e1; rw [lt32] at e1'; simp only [Int32.reduceToInt] at e1'
    have g := and1 (P := a1) (k := x) (by omega)
    rw [if_pos (by rw [cln]; omega)]
    by_cases e2 : Jvm.Free.XT.ushrL a1 x &&& 1 = 0
    · have g2 := g.1 e2
      rw [cln, g2]
      simp +decide only [w106_0, w106_2, w106_4, w106_7, w106_8, w106_10, w106_11, w106_12, w106_13, w106_14, w106_15, w106_22, w106_23, w106_45, true_and, ↓reduceIte, e1, e2, bz]
    · have g2 : a1.toBitVec.getLsbD x.toInt.toNat = true := by
        cases q : a1.toBitVec.getLsbD x.toInt.toNat with
        | true => rfl
        | false => exact absurd (g.2 q) e2
      rw [cln, g2]
      simp +decide only [w106_0, w106_2, w106_4, w106_7, w106_8, w106_10, w106_11, w106_12, w106_13, w106_14, w106_15, w106_18, w106_19, w106_45, cmpL_eq, true_and, ↓reduceIte, e1, e2, bz]
  · have e1' := e1; rw [lt32] at e1'; simp only [Int32.reduceToInt] at e1'
    have h6 : (x - 64).toInt = x.toInt - 64 := isb (by simp only [Int32.reduceToInt]; omega) (by simp only [Int32.reduceToInt]; omega)
    have g := and1 (P := a2) (k := x - 64) (by omega)
    rw [if_neg (by rw [cln]; omega), cln, show x.toInt.toNat - 64 = (x - 64).toInt.toNat by omega]
    by_cases e2 : Jvm.Free.XT.ushrL a2 (x - 64) &&& 1 = 0
    · have g2 := g.1 e2
      rw [g2]
      simp +decide only [w106_0, w106_2, w106_4, w106_26, w106_27, w106_29, w106_31, w106_32, w106_33, w106_34, w106_35, w106_36, w106_37, w106_44, w106_45, true_and, ↓reduceIte, e1, e2, bz]
    · have g2 : a2.toBitVec.getLsbD (x - 64).toInt.toNat = true := by
        cases q : a2.toBitVec.getLsbD (x - 64).toInt.toNat with
        | true => rfl
        | false => exact absurd (g.2 q) e2
      rw [g2]
      simp +decide only [w106_0, w106_2, w106_4, w106_26, w106_27, w106_29, w106_31, w106_32, w106_33, w106_34, w106_35, w106_36, w106_37, w106_40, w106_41, w106_45, cmpL_eq, true_and, ↓reduceIte, e1, e2, bz]
def m1 (e : Int32) (lo : Int64) : Int64 := if e < 64 then lo ||| (1 : Int64) <<< (e.toInt64 &&& 63) else lo
def m2 (e : Int32) (hi : Int64) : Int64 := if e < 64 then hi else hi ||| (1 : Int64) <<< ((e - 64).toInt64 &&& 63)
theorem B2_m {j : Nat} (h : 0 ≤ e.toInt ∧ e.toInt < 128) : B2 (m1 e a1) (m2 e a2) j = (B2 a1 a2 j || decide (j = e.toNatClampNeg)) := by
  unfold m1 m2
  by_cases q : e < 64
  · rw [if_pos q, if_pos q]; rw [lt32] at q; simp only [Int32.reduceToInt] at q; exact B2_or1 (by omega)
  · rw [if_neg q, if_neg q]; rw [lt32] at q; simp only [Int32.reduceToInt] at q; exact B2_or2 (by omega)
def d1 (e : Int32) (lo : Int64) : Int64 := if e < 64 then lo &&& ((1 : Int64) <<< (e.toInt64 &&& 63) ^^^ (-1)) else lo
def d2 (e : Int32) (hi : Int64) : Int64 := if e < 64 then hi else hi &&& ((1 : Int64) <<< ((e - 64).toInt64 &&& 63) ^^^ (-1))
theorem B2_d {j : Nat} (h : 0 ≤ e.toInt ∧ e.toInt < 128) (hj : j < 128) : B2 (d1 e a1) (d2 e a2) j = (B2 a1 a2 j && !decide (j = e.toNatClampNeg)) := by
  unfold d1 d2
  by_cases q : e < 64
  · rw [if_pos q, if_pos q]; rw [lt32] at q; simp only [Int32.reduceToInt] at q; exact B2_an1 (by omega)
  · rw [if_neg q, if_neg q]; rw [lt32] at q; simp only [Int32.reduceToInt] at q; exact (B2_an2 (by omega)).resolve_right (by omega)
set_option maxRecDepth 100000 in
theorem bA (h : W (pj lw) 100 426 [.val (.ref a), .val (.int nn), .val (.ref p), .val (.long o1), .second, .val (.long o2), .second, .val (.long o3), .second, .val (.long o4), .second, .val (.long o5), .second, .val (.long o6), .second, .val (.int q1), .val (.int q2), .val (.int q3), .val (.int q4), .val (.int q5), .val (.int i), .val (.int up), .val (.int ok), .val (.long (m1 e a1)), .second, .val (.long (m2 e a2)), .second, .val (.long b1), .second, .val (.long b2), .second, .val (.long c1), .second, .val (.long c2), .second, .val (.long g1), .second, .val (.long g2), .second, .val (.int e), .val (.int 1), .unset, .unset, .unset, .unset, .unset, .unset, .unset, .unset, .unset, .unset, .unset] [] k n H Q) :
    W (pj lw) 100 395 [.val (.ref a), .val (.int nn), .val (.ref p), .val (.long o1), .second, .val (.long o2), .second, .val (.long o3), .second, .val (.long o4), .second, .val (.long o5), .second, .val (.long o6), .second, .val (.int q1), .val (.int q2), .val (.int q3), .val (.int q4), .val (.int q5), .val (.int i), .val (.int up), .val (.int ok), .val (.long a1), .second, .val (.long a2), .second, .val (.long b1), .second, .val (.long b2), .second, .val (.long c1), .second, .val (.long c2), .second, .val (.long g1), .second, .val (.long g2), .second, .val (.int e), .val (.int 1), .unset, .unset, .unset, .unset, .unset, .unset, .unset, .unset, .unset, .unset, .unset] [] k n H Q := by
  unfold m1 m2 at h
  by_cases q : e < 64
  · rw [if_pos q, if_pos q] at h; simp +decide only [w100_395, w100_397, w100_399, w100_402, w100_404, w100_405, w100_407, w100_408, w100_409j, w100_411, ↓reduceIte, q]; exact h
  · rw [if_neg q, if_neg q] at h; simp +decide only [w100_395, w100_397, w100_399, w100_414, w100_416, w100_417, w100_419, w100_421, w100_422, w100_423, w100_424j, ↓reduceIte, q]; exact h
set_option maxRecDepth 100000 in
theorem bB (h : W (pj lw) 100 469 [.val (.ref a), .val (.int nn), .val (.ref p), .val (.long o1), .second, .val (.long o2), .second, .val (.long o3), .second, .val (.long o4), .second, .val (.long o5), .second, .val (.long o6), .second, .val (.int q1), .val (.int q2), .val (.int q3), .val (.int q4), .val (.int q5), .val (.int i), .val (.int up), .val (.int ok), .val (.long a1), .second, .val (.long a2), .second, .val (.long (m1 e b1)), .second, .val (.long (m2 e b2)), .second, .val (.long c1), .second, .val (.long c2), .second, .val (.long g1), .second, .val (.long g2), .second, .val (.int e), .val (.int tv), .unset, .unset, .unset, .unset, .unset, .unset, .unset, .unset, .unset, .unset, .unset] [] k n H Q) :
    W (pj lw) 100 438 [.val (.ref a), .val (.int nn), .val (.ref p), .val (.long o1), .second, .val (.long o2), .second, .val (.long o3), .second, .val (.long o4), .second, .val (.long o5), .second, .val (.long o6), .second, .val (.int q1), .val (.int q2), .val (.int q3), .val (.int q4), .val (.int q5), .val (.int i), .val (.int up), .val (.int ok), .val (.long a1), .second, .val (.long a2), .second, .val (.long b1), .second, .val (.long b2), .second, .val (.long c1), .second, .val (.long c2), .second, .val (.long g1), .second, .val (.long g2), .second, .val (.int e), .val (.int tv), .unset, .unset, .unset, .unset, .unset, .unset, .unset, .unset, .unset, .unset, .unset] [] k n H Q := by
  unfold m1 m2 at h
  by_cases q : e < 64
  · rw [if_pos q, if_pos q] at h; simp +decide only [w100_438, w100_440, w100_442, w100_445, w100_447, w100_448, w100_450, w100_451, w100_452j, w100_454, ↓reduceIte, q]; exact h
  · rw [if_neg q, if_neg q] at h; simp +decide only [w100_438, w100_440, w100_442, w100_457, w100_459, w100_460, w100_462, w100_464, w100_465, w100_466, w100_467j, ↓reduceIte, q]; exact h
set_option maxRecDepth 100000 in
theorem bC (h : W (pj lw) 100 746 [.val (.ref a), .val (.int nn), .val (.ref p), .val (.long o1), .second, .val (.long o2), .second, .val (.long o3), .second, .val (.long o4), .second, .val (.long o5), .second, .val (.long o6), .second, .val (.int q1), .val (.int q2), .val (.int q3), .val (.int q4), .val (.int q5), .val (.int i), .val (.int up), .val (.int ok), .val (.long a1), .second, .val (.long a2), .second, .val (.long b1), .second, .val (.long b2), .second, .val (.long (m1 e c1)), .second, .val (.long (m2 e c2)), .second, .val (.long g1), .second, .val (.long (g2 + we.toInt64)), .second, .val (.int e), .val (.int tv), .val (.int ea), .val (.int eb), .val (.int we), .val (.int R), .unset, .unset, .unset, .unset, .unset, .unset, .unset] [] k n H Q) :
    W (pj lw) 100 707 [.val (.ref a), .val (.int nn), .val (.ref p), .val (.long o1), .second, .val (.long o2), .second, .val (.long o3), .second, .val (.long o4), .second, .val (.long o5), .second, .val (.long o6), .second, .val (.int q1), .val (.int q2), .val (.int q3), .val (.int q4), .val (.int q5), .val (.int i), .val (.int up), .val (.int ok), .val (.long a1), .second, .val (.long a2), .second, .val (.long b1), .second, .val (.long b2), .second, .val (.long c1), .second, .val (.long c2), .second, .val (.long g1), .second, .val (.long g2), .second, .val (.int e), .val (.int tv), .val (.int ea), .val (.int eb), .val (.int we), .val (.int R), .unset, .unset, .unset, .unset, .unset, .unset, .unset] [] k n H Q := by
  unfold m1 m2 at h
  by_cases q : e < 64
  · rw [if_pos q, if_pos q] at h; simp +decide only [w100_707, w100_709, w100_711, w100_714, w100_716, w100_717, w100_719, w100_720, w100_721j, w100_723, w100_738, w100_740, w100_742, w100_743, w100_744j, ↓reduceIte, q]; exact h
  · rw [if_neg q, if_neg q] at h; simp +decide only [w100_707, w100_709, w100_711, w100_726, w100_728, w100_729, w100_731, w100_733, w100_734, w100_735, w100_736j, w100_738, w100_740, w100_742, w100_743, w100_744j, ↓reduceIte, q]; exact h
theorem prc_iff {e f : Int32} (he : 0 ≤ e.toInt ∧ e.toInt < 128) (hf : 0 ≤ f.toInt ∧ f.toInt < 128) : prc (sA s 3 f.toNatClampNeg) f (sA s 3 e.toNatClampNeg) e = decide (gR s f.toNatClampNeg < gR s e.toNatClampNeg) := by
  unfold prc gR; refine decide_eq_decide.mpr ?_
  rw [lt32, lt32, eq32, cln, cln]
  have := Int32.le_toInt (sA s 3 f.toInt.toNat)
  have := Int32.le_toInt (sA s 3 e.toInt.toNat)
  omega
theorem prv (h : 0 ≤ f.toInt ∧ f.toInt < 128) : pr s f = decide (sA s 4 f.toNatClampNeg ≠ 0) := by unfold pr; rw [vi_t h, Bool.true_and]
theorem gAB (hI : Iv s) {j : Nat} (hj : j < 128) : (0 ≤ (sA s 1 j).toInt ∧ (sA s 1 j).toInt < 32) ∧ (0 ≤ (sA s 2 j).toInt ∧ (sA s 2 j).toInt < 32) := by
  have := hI.2.1 j hj
  have := hI.2.2.1.2
  omega
set_option maxRecDepth 100000 in
theorem l561 (hI : Iv s) (he : 0 ≤ e.toInt ∧ e.toInt < 128) (hw : we = sA s 3 e.toNatClampNeg)
    (K : ∀ R' c', Rc (gA s) (gB s) (Bl (gU s) (gR s) (gR s e.toNatClampNeg)) x0 R0 R' c' 128 → W (pj lw) 100 691 [.val (.ref a), .val (.int nn), .val (.ref p), .val (.long o1), .second, .val (.long o2), .second, .val (.long o3), .second, .val (.long o4), .second, .val (.long o5), .second, .val (.long o6), .second, .val (.int q1), .val (.int q2), .val (.int q3), .val (.int q4), .val (.int q5), .val (.int i), .val (.int up), .val (.int ok), .val (.long a1), .second, .val (.long a2), .second, .val (.long b1), .second, .val (.long b2), .second, .val (.long c1), .second, .val (.long c2), .second, .val (.long g1), .second, .val (.long g2), .second, .val (.int e), .val (.int tv), .val (.int ea), .val (.int eb), .val (.int we), .val (.int R'), .val (.int c'), .val (.int j), .unset, .unset, .unset, .unset, .unset] [] k n (ob H p s) Q) (m : Nat) :
    ∀ (f R c : Int32), f.toInt = 128 - m → m ≤ 128 → Rc (gA s) (gB s) (Bl (gU s) (gR s) (gR s e.toNatClampNeg)) x0 R0 R c f.toNatClampNeg →
    W (pj lw) 100 561 [.val (.ref a), .val (.int nn), .val (.ref p), .val (.long o1), .second, .val (.long o2), .second, .val (.long o3), .second, .val (.long o4), .second, .val (.long o5), .second, .val (.long o6), .second, .val (.int q1), .val (.int q2), .val (.int q3), .val (.int q4), .val (.int q5), .val (.int i), .val (.int up), .val (.int ok), .val (.long a1), .second, .val (.long a2), .second, .val (.long b1), .second, .val (.long b2), .second, .val (.long c1), .second, .val (.long c2), .second, .val (.long g1), .second, .val (.long g2), .second, .val (.int e), .val (.int tv), .val (.int ea), .val (.int eb), .val (.int we), .val (.int R), .val (.int c), .val (.int j), .val (.int f), .unset, .unset, .unset, .unset] [] k n (ob H p s) Q := by
  subst hw
  induction m with
  | zero =>
    intro f R c hf hm hR
    have h1 : ¬ f < 128 := by rw [lt32]; simp only [Int32.reduceToInt]; omega
    rw [w100_561]; simp +decide only [w100_563, w100_566, ↓reduceIte, h1]
    refine W_fa 47 rfl ?_
    refine K R c ?_
    rw [show (128 : Nat) = f.toNatClampNeg by rw [cln]; omega]; exact hR
  | succ m ih =>
    intro f R c hf hm hR
    have h1 : f < 128 := by rw [lt32]; simp only [Int32.reduceToInt]; omega
    have h2 : (f + 1).toInt = f.toInt + 1 := ia (by simp only [Int32.reduceToInt]; omega) (by simp only [Int32.reduceToInt]; omega)
    have h3 : (f + 1).toNatClampNeg = f.toNatClampNeg + 1 := by rw [cln, cln]; omega
    have hf' : 0 ≤ f.toInt ∧ f.toInt < 128 := by omega
    have f7 : f.toNatClampNeg < 128 := by rw [cln]; omega
    have nx : ∀ R' c' y1 y2 y3 y4, Rc (gA s) (gB s) (Bl (gU s) (gR s) (gR s e.toNatClampNeg)) x0 R0 R' c' (f.toNatClampNeg + 1) → okf 48 [.val (.ref a), .val (.int nn), .val (.ref p), .val (.long o1), .second, .val (.long o2), .second, .val (.long o3), .second, .val (.long o4), .second, .val (.long o5), .second, .val (.long o6), .second, .val (.int q1), .val (.int q2), .val (.int q3), .val (.int q4), .val (.int q5), .val (.int i), .val (.int up), .val (.int ok), .val (.long a1), .second, .val (.long a2), .second, .val (.long b1), .second, .val (.long b2), .second, .val (.long c1), .second, .val (.long c2), .second, .val (.long g1), .second, .val (.long g2), .second, .val (.int e), .val (.int tv), .val (.int ea), .val (.int eb), .val (.int (sA s 3 e.toNatClampNeg)), .val (.int R'), .val (.int c'), .val (.int j), .val (.int f), y1, y2, y3, y4] = true →
        W (pj lw) 100 685 [.val (.ref a), .val (.int nn), .val (.ref p), .val (.long o1), .second, .val (.long o2), .second, .val (.long o3), .second, .val (.long o4), .second, .val (.long o5), .second, .val (.long o6), .second, .val (.int q1), .val (.int q2), .val (.int q3), .val (.int q4), .val (.int q5), .val (.int i), .val (.int up), .val (.int ok), .val (.long a1), .second, .val (.long a2), .second, .val (.long b1), .second, .val (.long b2), .second, .val (.long c1), .second, .val (.long c2), .second, .val (.long g1), .second, .val (.long g2), .second, .val (.int e), .val (.int tv), .val (.int ea), .val (.int eb), .val (.int (sA s 3 e.toNatClampNeg)), .val (.int R'), .val (.int c'), .val (.int j), .val (.int f), y1, y2, y3, y4] [] k n (ob H p s) Q := fun R' c' y1 y2 y3 y4 hR' hok => by
      refine W_fa 48 hok ?_
      show W (pj lw) 100 685 [.val (.ref a), .val (.int nn), .val (.ref p), .val (.long o1), .second, .val (.long o2), .second, .val (.long o3), .second, .val (.long o4), .second, .val (.long o5), .second, .val (.long o6), .second, .val (.int q1), .val (.int q2), .val (.int q3), .val (.int q4), .val (.int q5), .val (.int i), .val (.int up), .val (.int ok), .val (.long a1), .second, .val (.long a2), .second, .val (.long b1), .second, .val (.long b2), .second, .val (.long c1), .second, .val (.long c2), .second, .val (.long g1), .second, .val (.long g2), .second, .val (.int e), .val (.int tv), .val (.int ea), .val (.int eb), .val (.int (sA s 3 e.toNatClampNeg)), .val (.int R'), .val (.int c'), .val (.int j), .val (.int f), .unset, .unset, .unset, .unset] [] k n (ob H p s) Q
      simp +decide only [w100_685, w100_688]
      exact ih (f + 1) R' c' (by omega) (by omega) (by rw [h3]; exact hR')
    rw [w100_561]
    by_cases w1 : f = e
    · have w1' := eq_true w1
      simp +decide only [w100_563, w100_566, w100_569, w100_571, w100_573, ↓reduceIte, h1, w1']
      exact nx R c _ _ _ _ (hR.skip fun w => by have := w.2; rw [w1] at this; omega) rfl
    have hp := prv (s := s) hf'
    by_cases w2 : sA s 4 f.toNatClampNeg = 0
    · rw [decide_eq_false (fun w => w w2)] at hp
      simp +decide only [w100_563, w100_566, w100_569, w100_571, w100_573, w100_576, w100_577, w100_579, w100_582, w100_585, isO_put, Option.toList_some, List.cons_append, List.nil_append, true_and, and_true, ↓reduceIte, h1, w1, t5, hp, bz]
      exact nx R c _ _ _ _ (hR.skip fun w => absurd w2 w.1.2) rfl
    rw [decide_eq_true w2] at hp
    have ef : ew s f = sA s 3 f.toNatClampNeg := if_pos hp
    have pi := prc_iff (s := s) he hf'
    by_cases w3 : gR s f.toNatClampNeg < gR s e.toNatClampNeg
    rotate_left
    · rw [decide_eq_false w3] at pi
      simp +decide only [w100_563, w100_566, w100_569, w100_571, w100_573, w100_576, w100_577, w100_579, w100_582, w100_588, w100_589, w100_591, w100_594, w100_596, w100_598, w100_600, w100_603, w100_606, isO_put, Option.toList_some, List.cons_append, List.nil_append, true_and, and_true, ↓reduceIte, h1, w1, t5, hp, bz, t8, ef, s105, pi]
      exact nx R c _ _ _ _ (hR.skip fun w => absurd w.2 w3) rfl
    rw [decide_eq_true w3] at pi
    obtain ⟨ra, rb⟩ := gAB hI f7
    have ba := ush_bt (R := R) ra
    have bb := ush_bt (R := R) rb
    by_cases x1 : Jvm.Free.XT.ushr R (sA s 1 f.toNatClampNeg) &&& 1 = 0
    · by_cases x2 : Jvm.Free.XT.ushr R (sA s 2 f.toNatClampNeg) &&& 1 = 0
      · simp +decide only [w100_563, w100_566, w100_569, w100_571, w100_573, w100_576, w100_577, w100_579, w100_582, w100_588, w100_589, w100_591, w100_594, w100_596, w100_598, w100_600, w100_603, w100_609, w100_610, w100_612, w100_613, w100_616, w100_618, w100_619, w100_621, w100_622, w100_625, w100_627, w100_629, w100_631, w100_632, w100_633, w100_634, w100_641, w100_642, w100_644, w100_646, w100_648, w100_649, w100_650, w100_651, w100_658, w100_659, w100_661, w100_663, w100_665, isO_put, Option.toList_some, List.cons_append, List.nil_append, true_and, and_true, ↓reduceIte, h1, w1, t5, hp, bz, t8, ef, s105, pi, t7a, t7b, x1, x2]
        exact nx R c _ _ _ _ (hR.skip fun w => (ba.1 x1).trans (bb.1 x2).symm) rfl
      · simp +decide only [w100_563, w100_566, w100_569, w100_571, w100_573, w100_576, w100_577, w100_579, w100_582, w100_588, w100_589, w100_591, w100_594, w100_596, w100_598, w100_600, w100_603, w100_609, w100_610, w100_612, w100_613, w100_616, w100_618, w100_619, w100_621, w100_622, w100_625, w100_627, w100_629, w100_631, w100_632, w100_633, w100_634, w100_641, w100_642, w100_644, w100_646, w100_648, w100_649, w100_650, w100_651, w100_654, w100_655, w100_659, w100_661, w100_663, w100_665, w100_668, w100_670, w100_671, w100_673, w100_674, w100_675, w100_677, w100_678, w100_679, w100_680i, w100_682, w100_683i, isO_put, Option.toList_some, List.cons_append, List.nil_append, true_and, and_true, ↓reduceIte, h1, w1, t5, hp, bz, t8, ef, s105, pi, t7a, t7b, x1, x2]
        exact nx _ 1 _ _ _ _ (hR.set ⟨⟨f7, w2⟩, w3⟩ ra rb rfl rfl (fun w => x2 (bb.2 (w.symm.trans (ba.1 x1))))) rfl
    · by_cases x2 : Jvm.Free.XT.ushr R (sA s 2 f.toNatClampNeg) &&& 1 = 0
      · simp +decide only [w100_563, w100_566, w100_569, w100_571, w100_573, w100_576, w100_577, w100_579, w100_582, w100_588, w100_589, w100_591, w100_594, w100_596, w100_598, w100_600, w100_603, w100_609, w100_610, w100_612, w100_613, w100_616, w100_618, w100_619, w100_621, w100_622, w100_625, w100_627, w100_629, w100_631, w100_632, w100_633, w100_634, w100_637, w100_638, w100_642, w100_644, w100_646, w100_648, w100_649, w100_650, w100_651, w100_658, w100_659, w100_661, w100_663, w100_665, w100_668, w100_670, w100_671, w100_673, w100_674, w100_675, w100_677, w100_678, w100_679, w100_680i, w100_682, w100_683i, isO_put, Option.toList_some, List.cons_append, List.nil_append, true_and, and_true, ↓reduceIte, h1, w1, t5, hp, bz, t8, ef, s105, pi, t7a, t7b, x1, x2]
        exact nx _ 1 _ _ _ _ (hR.set ⟨⟨f7, w2⟩, w3⟩ ra rb rfl rfl (fun w => x1 (ba.2 (w.trans (bb.1 x2))))) rfl
      · simp +decide only [w100_563, w100_566, w100_569, w100_571, w100_573, w100_576, w100_577, w100_579, w100_582, w100_588, w100_589, w100_591, w100_594, w100_596, w100_598, w100_600, w100_603, w100_609, w100_610, w100_612, w100_613, w100_616, w100_618, w100_619, w100_621, w100_622, w100_625, w100_627, w100_629, w100_631, w100_632, w100_633, w100_634, w100_637, w100_638, w100_642, w100_644, w100_646, w100_648, w100_649, w100_650, w100_651, w100_654, w100_655, w100_659, w100_661, w100_663, w100_665, isO_put, Option.toList_some, List.cons_append, List.nil_append, true_and, and_true, ↓reduceIte, h1, w1, t5, hp, bz, t8, ef, s105, pi, t7a, t7b, x1, x2]
        refine nx R c _ _ _ _ (hR.skip fun w => ?_) rfl
        have y1 : bt R (sA s 1 f.toNatClampNeg).toNatClampNeg = true := by cases q : bt R (sA s 1 f.toNatClampNeg).toNatClampNeg with | true => rfl | false => exact absurd (ba.2 q) x1
        have y2 : bt R (sA s 2 f.toNatClampNeg).toNatClampNeg = true := by cases q : bt R (sA s 2 f.toNatClampNeg).toNatClampNeg with | true => rfl | false => exact absurd (bb.2 q) x2
        exact y1.trans y2.symm
set_option maxRecDepth 100000 in
theorem l543 (hI : Iv s) (he : 0 ≤ e.toInt ∧ e.toInt < 128) (hw : we = sA s 3 e.toNatClampNeg)
    (K : ∀ R', (∀ X, bt R' X = true ↔ Cn (gA s) (gB s) (Bl (gU s) (gR s) (gR s e.toNatClampNeg)) x0 X) → W (pj lw) 100 697 [.val (.ref a), .val (.int nn), .val (.ref p), .val (.long o1), .second, .val (.long o2), .second, .val (.long o3), .second, .val (.long o4), .second, .val (.long o5), .second, .val (.long o6), .second, .val (.int q1), .val (.int q2), .val (.int q3), .val (.int q4), .val (.int q5), .val (.int i), .val (.int up), .val (.int ok), .val (.long a1), .second, .val (.long a2), .second, .val (.long b1), .second, .val (.long b2), .second, .val (.long c1), .second, .val (.long c2), .second, .val (.long g1), .second, .val (.long g2), .second, .val (.int e), .val (.int tv), .val (.int ea), .val (.int eb), .val (.int we), .val (.int R'), .unset, .unset, .unset, .unset, .unset, .unset, .unset] [] k n (ob H p s) Q) (m : Nat) :
    ∀ (j R c : Int32), j.toInt = 40 - m → m ≤ 40 → Ro (gA s) (gB s) (Bl (gU s) (gR s) (gR s e.toNatClampNeg)) x0 R c j.toNatClampNeg →
    W (pj lw) 100 543 [.val (.ref a), .val (.int nn), .val (.ref p), .val (.long o1), .second, .val (.long o2), .second, .val (.long o3), .second, .val (.long o4), .second, .val (.long o5), .second, .val (.long o6), .second, .val (.int q1), .val (.int q2), .val (.int q3), .val (.int q4), .val (.int q5), .val (.int i), .val (.int up), .val (.int ok), .val (.long a1), .second, .val (.long a2), .second, .val (.long b1), .second, .val (.long b2), .second, .val (.long c1), .second, .val (.long c2), .second, .val (.long g1), .second, .val (.long g2), .second, .val (.int e), .val (.int tv), .val (.int ea), .val (.int eb), .val (.int we), .val (.int R), .val (.int c), .val (.int j), .unset, .unset, .unset, .unset, .unset] [] k n (ob H p s) Q := by
  have hE : ∀ g, Bl (gU s) (gR s) (gR s e.toNatClampNeg) g → g < 128 := fun g hg => hg.1.1
  induction m with
  | zero =>
    intro j R c hj hm hR
    have h1 : ¬ j < 40 := by rw [lt32]; simp only [Int32.reduceToInt]; omega
    rw [w100_543]; simp +decide only [w100_545, w100_547, ↓reduceIte, h1]
    refine W_fa 45 rfl ?_
    exact K R (hR.fin hE (Or.inr (by rw [cln]; omega)))
  | succ m ih =>
    intro j R c hj hm hR
    have h1 : j < 40 := by rw [lt32]; simp only [Int32.reduceToInt]; omega
    have h2 : (j + 1).toInt = j.toInt + 1 := ia (by simp only [Int32.reduceToInt]; omega) (by simp only [Int32.reduceToInt]; omega)
    have h3 : (j + 1).toNatClampNeg = j.toNatClampNeg + 1 := by rw [cln, cln]; omega
    rw [w100_543]
    by_cases q : c = 0
    · have q' := eq_true q
      simp +decide only [w100_545, w100_547, w100_550, w100_552, ↓reduceIte, h1, q']
      refine W_fa 45 rfl ?_
      exact K R (hR.fin hE (Or.inl q))
    · have cc : c = 1 ∧ j.toNatClampNeg < cnt (bt R) 0 32 := hR.2.2.resolve_right fun w => q w.1
      simp +decide only [w100_545, w100_547, w100_550, w100_552, w100_555, w100_556i, w100_558, w100_559, ↓reduceIte, h1, q]
      refine l561 (x0 := x0) (R0 := R) hI he hw (fun R' c' hR' => ?_) 128 0 R 0 (by decide) (by decide) hR.rc
      simp +decide only [w100_691, w100_694]
      exact ih (j + 1) R' c' (by omega) (by omega) (by rw [h3]; exact hR'.ro cc.2)
set_option maxRecDepth 100000 in
theorem l930 (hI : Iv s)
    (K : ∀ R' c', Rc (gA s) (gB s) (gU s) x0 R0 R' c' 128 → W (pj lw) 100 1032 [.val (.ref a), .val (.int nn), .val (.ref p), .val (.long o1), .second, .val (.long o2), .second, .val (.long o3), .second, .val (.long o4), .second, .val (.long o5), .second, .val (.long o6), .second, .val (.int q1), .val (.int q2), .val (.int q3), .val (.int q4), .val (.int q5), .val (.int i), .val (.int up), .val (.int ok), .val (.long a1), .second, .val (.long a2), .second, .val (.long b1), .second, .val (.long b2), .second, .val (.long c1), .second, .val (.long c2), .second, .val (.long g1), .second, .val (.long g2), .second, .val (.int v), .val (.int R'), .val (.int c'), .val (.int j), .unset, .unset, .unset, .unset, .unset, .unset, .unset, .unset, .unset] [] k n (ob H p s) Q) (m : Nat) :
    ∀ (f R c : Int32), f.toInt = 128 - m → m ≤ 128 → Rc (gA s) (gB s) (gU s) x0 R0 R c f.toNatClampNeg →
    W (pj lw) 100 930 [.val (.ref a), .val (.int nn), .val (.ref p), .val (.long o1), .second, .val (.long o2), .second, .val (.long o3), .second, .val (.long o4), .second, .val (.long o5), .second, .val (.long o6), .second, .val (.int q1), .val (.int q2), .val (.int q3), .val (.int q4), .val (.int q5), .val (.int i), .val (.int up), .val (.int ok), .val (.long a1), .second, .val (.long a2), .second, .val (.long b1), .second, .val (.long b2), .second, .val (.long c1), .second, .val (.long c2), .second, .val (.long g1), .second, .val (.long g2), .second, .val (.int v), .val (.int R), .val (.int c), .val (.int j), .val (.int f), .unset, .unset, .unset, .unset, .unset, .unset, .unset, .unset] [] k n (ob H p s) Q := by
  induction m with
  | zero =>
    intro f R c hf hm hR
    have h1 : ¬ f < 128 := by rw [lt32]; simp only [Int32.reduceToInt]; omega
    rw [w100_930]; simp +decide only [w100_932, w100_935, ↓reduceIte, h1]
    refine W_fa 43 rfl ?_
    refine K R c ?_
    rw [show (128 : Nat) = f.toNatClampNeg by rw [cln]; omega]; exact hR
  | succ m ih =>
    intro f R c hf hm hR
    have h1 : f < 128 := by rw [lt32]; simp only [Int32.reduceToInt]; omega
    have h2 : (f + 1).toInt = f.toInt + 1 := ia (by simp only [Int32.reduceToInt]; omega) (by simp only [Int32.reduceToInt]; omega)
    have h3 : (f + 1).toNatClampNeg = f.toNatClampNeg + 1 := by rw [cln, cln]; omega
    have hf' : 0 ≤ f.toInt ∧ f.toInt < 128 := by omega
    have f7 : f.toNatClampNeg < 128 := by rw [cln]; omega
    have nx : ∀ R' c' y1 y2 y3 y4, Rc (gA s) (gB s) (gU s) x0 R0 R' c' (f.toNatClampNeg + 1) → okf 44 [.val (.ref a), .val (.int nn), .val (.ref p), .val (.long o1), .second, .val (.long o2), .second, .val (.long o3), .second, .val (.long o4), .second, .val (.long o5), .second, .val (.long o6), .second, .val (.int q1), .val (.int q2), .val (.int q3), .val (.int q4), .val (.int q5), .val (.int i), .val (.int up), .val (.int ok), .val (.long a1), .second, .val (.long a2), .second, .val (.long b1), .second, .val (.long b2), .second, .val (.long c1), .second, .val (.long c2), .second, .val (.long g1), .second, .val (.long g2), .second, .val (.int v), .val (.int R'), .val (.int c'), .val (.int j), .val (.int f), y1, y2, y3, y4, .unset, .unset, .unset, .unset] = true →
        W (pj lw) 100 1026 [.val (.ref a), .val (.int nn), .val (.ref p), .val (.long o1), .second, .val (.long o2), .second, .val (.long o3), .second, .val (.long o4), .second, .val (.long o5), .second, .val (.long o6), .second, .val (.int q1), .val (.int q2), .val (.int q3), .val (.int q4), .val (.int q5), .val (.int i), .val (.int up), .val (.int ok), .val (.long a1), .second, .val (.long a2), .second, .val (.long b1), .second, .val (.long b2), .second, .val (.long c1), .second, .val (.long c2), .second, .val (.long g1), .second, .val (.long g2), .second, .val (.int v), .val (.int R'), .val (.int c'), .val (.int j), .val (.int f), y1, y2, y3, y4, .unset, .unset, .unset, .unset] [] k n (ob H p s) Q := fun R' c' y1 y2 y3 y4 hR' hok => by
      refine W_fa 44 hok ?_
      show W (pj lw) 100 1026 [.val (.ref a), .val (.int nn), .val (.ref p), .val (.long o1), .second, .val (.long o2), .second, .val (.long o3), .second, .val (.long o4), .second, .val (.long o5), .second, .val (.long o6), .second, .val (.int q1), .val (.int q2), .val (.int q3), .val (.int q4), .val (.int q5), .val (.int i), .val (.int up), .val (.int ok), .val (.long a1), .second, .val (.long a2), .second, .val (.long b1), .second, .val (.long b2), .second, .val (.long c1), .second, .val (.long c2), .second, .val (.long g1), .second, .val (.long g2), .second, .val (.int v), .val (.int R'), .val (.int c'), .val (.int j), .val (.int f), .unset, .unset, .unset, .unset, .unset, .unset, .unset, .unset] [] k n (ob H p s) Q
      simp +decide only [w100_1026, w100_1029]
      exact ih (f + 1) R' c' (by omega) (by omega) (by rw [h3]; exact hR')
    rw [w100_930]
    have hp := prv (s := s) hf'
    by_cases w2 : sA s 4 f.toNatClampNeg = 0
    · rw [decide_eq_false (fun w => w w2)] at hp
      simp +decide only [w100_932, w100_935, w100_938, w100_939, w100_941, w100_944, w100_947, isO_put, Option.toList_some, List.cons_append, List.nil_append, true_and, and_true, ↓reduceIte, h1, t5, hp, bz]
      exact nx R c _ _ _ _ (hR.skip fun w => absurd w2 w.2) rfl
    rw [decide_eq_true w2] at hp
    obtain ⟨ra, rb⟩ := gAB hI f7
    have ba := ush_bt (R := R) ra
    have bb := ush_bt (R := R) rb
    by_cases x1 : Jvm.Free.XT.ushr R (sA s 1 f.toNatClampNeg) &&& 1 = 0
    · by_cases x2 : Jvm.Free.XT.ushr R (sA s 2 f.toNatClampNeg) &&& 1 = 0
      · simp +decide only [w100_932, w100_935, w100_938, w100_939, w100_941, w100_944, w100_950, w100_951, w100_953, w100_954, w100_957, w100_959, w100_960, w100_962, w100_963, w100_966, w100_968, w100_970, w100_972, w100_973, w100_974, w100_975, w100_982, w100_983, w100_985, w100_987, w100_989, w100_990, w100_991, w100_992, w100_999, w100_1000, w100_1002, w100_1004, w100_1006, isO_put, Option.toList_some, List.cons_append, List.nil_append, true_and, and_true, ↓reduceIte, h1, t5, hp, bz, t7a, t7b, x1, x2]
        exact nx R c _ _ _ _ (hR.skip fun w => (ba.1 x1).trans (bb.1 x2).symm) rfl
      · simp +decide only [w100_932, w100_935, w100_938, w100_939, w100_941, w100_944, w100_950, w100_951, w100_953, w100_954, w100_957, w100_959, w100_960, w100_962, w100_963, w100_966, w100_968, w100_970, w100_972, w100_973, w100_974, w100_975, w100_982, w100_983, w100_985, w100_987, w100_989, w100_990, w100_991, w100_992, w100_995, w100_996, w100_1000, w100_1002, w100_1004, w100_1006, w100_1009, w100_1011, w100_1012, w100_1014, w100_1015, w100_1016, w100_1018, w100_1019, w100_1020, w100_1021i, w100_1023, w100_1024i, isO_put, Option.toList_some, List.cons_append, List.nil_append, true_and, and_true, ↓reduceIte, h1, t5, hp, bz, t7a, t7b, x1, x2]
        exact nx _ 1 _ _ _ _ (hR.set ⟨f7, w2⟩ ra rb rfl rfl (fun w => x2 (bb.2 (w.symm.trans (ba.1 x1))))) rfl
    · by_cases x2 : Jvm.Free.XT.ushr R (sA s 2 f.toNatClampNeg) &&& 1 = 0
      · simp +decide only [w100_932, w100_935, w100_938, w100_939, w100_941, w100_944, w100_950, w100_951, w100_953, w100_954, w100_957, w100_959, w100_960, w100_962, w100_963, w100_966, w100_968, w100_970, w100_972, w100_973, w100_974, w100_975, w100_978, w100_979, w100_983, w100_985, w100_987, w100_989, w100_990, w100_991, w100_992, w100_999, w100_1000, w100_1002, w100_1004, w100_1006, w100_1009, w100_1011, w100_1012, w100_1014, w100_1015, w100_1016, w100_1018, w100_1019, w100_1020, w100_1021i, w100_1023, w100_1024i, isO_put, Option.toList_some, List.cons_append, List.nil_append, true_and, and_true, ↓reduceIte, h1, t5, hp, bz, t7a, t7b, x1, x2]
        exact nx _ 1 _ _ _ _ (hR.set ⟨f7, w2⟩ ra rb rfl rfl (fun w => x1 (ba.2 (w.trans (bb.1 x2))))) rfl
      · simp +decide only [w100_932, w100_935, w100_938, w100_939, w100_941, w100_944, w100_950, w100_951, w100_953, w100_954, w100_957, w100_959, w100_960, w100_962, w100_963, w100_966, w100_968, w100_970, w100_972, w100_973, w100_974, w100_975, w100_978, w100_979, w100_983, w100_985, w100_987, w100_989, w100_990, w100_991, w100_992, w100_995, w100_996, w100_1000, w100_1002, w100_1004, w100_1006, isO_put, Option.toList_some, List.cons_append, List.nil_append, true_and, and_true, ↓reduceIte, h1, t5, hp, bz, t7a, t7b, x1, x2]
        refine nx R c _ _ _ _ (hR.skip fun w => ?_) rfl
        have y1 : bt R (sA s 1 f.toNatClampNeg).toNatClampNeg = true := by cases q : bt R (sA s 1 f.toNatClampNeg).toNatClampNeg with | true => rfl | false => exact absurd (ba.2 q) x1
        have y2 : bt R (sA s 2 f.toNatClampNeg).toNatClampNeg = true := by cases q : bt R (sA s 2 f.toNatClampNeg).toNatClampNeg with | true => rfl | false => exact absurd (bb.2 q) x2
        exact y1.trans y2.symm
set_option maxRecDepth 100000 in
theorem l912 (hI : Iv s)
    (K : ∀ R', (∀ X, bt R' X = true ↔ Cn (gA s) (gB s) (gU s) x0 X) → W (pj lw) 100 1038 [.val (.ref a), .val (.int nn), .val (.ref p), .val (.long o1), .second, .val (.long o2), .second, .val (.long o3), .second, .val (.long o4), .second, .val (.long o5), .second, .val (.long o6), .second, .val (.int q1), .val (.int q2), .val (.int q3), .val (.int q4), .val (.int q5), .val (.int i), .val (.int up), .val (.int ok), .val (.long a1), .second, .val (.long a2), .second, .val (.long b1), .second, .val (.long b2), .second, .val (.long c1), .second, .val (.long c2), .second, .val (.long g1), .second, .val (.long g2), .second, .val (.int v), .val (.int R'), .unset, .unset, .unset, .unset, .unset, .unset, .unset, .unset, .unset, .unset, .unset] [] k n (ob H p s) Q) (m : Nat) :
    ∀ (j R c : Int32), j.toInt = 40 - m → m ≤ 40 → Ro (gA s) (gB s) (gU s) x0 R c j.toNatClampNeg →
    W (pj lw) 100 912 [.val (.ref a), .val (.int nn), .val (.ref p), .val (.long o1), .second, .val (.long o2), .second, .val (.long o3), .second, .val (.long o4), .second, .val (.long o5), .second, .val (.long o6), .second, .val (.int q1), .val (.int q2), .val (.int q3), .val (.int q4), .val (.int q5), .val (.int i), .val (.int up), .val (.int ok), .val (.long a1), .second, .val (.long a2), .second, .val (.long b1), .second, .val (.long b2), .second, .val (.long c1), .second, .val (.long c2), .second, .val (.long g1), .second, .val (.long g2), .second, .val (.int v), .val (.int R), .val (.int c), .val (.int j), .unset, .unset, .unset, .unset, .unset, .unset, .unset, .unset, .unset] [] k n (ob H p s) Q := by
  have hE : ∀ g, gU s g → g < 128 := fun g hg => hg.1
  induction m with
  | zero =>
    intro j R c hj hm hR
    have h1 : ¬ j < 40 := by rw [lt32]; simp only [Int32.reduceToInt]; omega
    rw [w100_912]; simp +decide only [w100_914, w100_916, ↓reduceIte, h1]
    refine W_fa 41 rfl ?_
    exact K R (hR.fin hE (Or.inr (by rw [cln]; omega)))
  | succ m ih =>
    intro j R c hj hm hR
    have h1 : j < 40 := by rw [lt32]; simp only [Int32.reduceToInt]; omega
    have h2 : (j + 1).toInt = j.toInt + 1 := ia (by simp only [Int32.reduceToInt]; omega) (by simp only [Int32.reduceToInt]; omega)
    have h3 : (j + 1).toNatClampNeg = j.toNatClampNeg + 1 := by rw [cln, cln]; omega
    rw [w100_912]
    by_cases q : c = 0
    · have q' := eq_true q
      simp +decide only [w100_914, w100_916, w100_919, w100_921, ↓reduceIte, h1, q']
      refine W_fa 41 rfl ?_
      exact K R (hR.fin hE (Or.inl q))
    · have cc : c = 1 ∧ j.toNatClampNeg < cnt (bt R) 0 32 := hR.2.2.resolve_right fun w => q w.1
      simp +decide only [w100_914, w100_916, w100_919, w100_921, w100_924, w100_925i, w100_927, w100_928, ↓reduceIte, h1, q]
      refine l930 (x0 := x0) (R0 := R) hI (fun R' c' hR' => ?_) 128 0 R 0 (by decide) (by decide) hR.rc
      simp +decide only [w100_1032, w100_1035]
      exact ih (j + 1) R' c' (by omega) (by omega) (by rw [h3]; exact hR'.ro cc.2)
theorem cmn (hS : Sr s s1) (hJ : Jv s) (hx : 0 ≤ x.toInt ∧ x.toInt < (sI s 0).toInt) :
    ∃ μ : Nat, (μ : Int) < (sI s 0).toInt ∧ gC s (gT s) x.toNatClampNeg μ ∧ (∀ i, i < μ → ¬ gC s (gT s) x.toNatClampNeg i) ∧
    ∀ {H : AH} {p : Nat} {Q : Option Value → AH → Prop}, (∀ s2, Sr s s2 → Q (some (.int (Int32.ofNat μ))) (ob H p s2)) → Cl (pj lw) 13 [.ref p, .int x] (ob H p s1) Q := by
  have nn := hJ.1.2.2.1.2
  have rx : 0 ≤ x.toInt ∧ x.toInt < 32 := by omega
  have sx0 := fun X hX => sn_eq (x := x) hS hJ rx (X := X) hX
  obtain ⟨μ, k1, k2, k3⟩ := low (g := fun j => sA (exq s1 x (-1)).1 8 j ≠ 0) (T := x.toNatClampNeg) ((sx0 _ (by rw [cln]; omega)).2 Cn.refl)
  have k4 : (μ : Int) < (sI s 0).toInt := by rw [cln] at k1; omega
  refine ⟨μ, k4, (sx0 _ (by omega)).1 k2, fun i hi w => k3 i hi ((sx0 _ (by omega)).2 w), fun {H p Q} hq => ?_⟩
  exact t13 (μ := μ) (hS.Iv hJ.1).1 (vv_t (by rw [hS.1]; exact hx) (by rw [hS.1]; omega)) (by rw [hS.1]; omega) (by rw [hS.1]; exact k4) k2 (fun i hi => Decidable.byContradiction (k3 i hi)) (hq _ (hS.trans exq_Sr))
set_option maxRecDepth 100000 in
theorem l1041 (hJ : Jv s) (h0 : sI s 0 = nn) (hv : 0 ≤ v.toInt ∧ v.toInt < nn.toInt) (hR : ∀ X, bt R X = true ↔ Cn (gA s) (gB s) (gU s) v.toNatClampNeg X)
    (K : ∀ s2, Sr s s2 → W (pj lw) 100 1093 [.val (.ref a), .val (.int nn), .val (.ref p), .val (.long o1), .second, .val (.long o2), .second, .val (.long o3), .second, .val (.long o4), .second, .val (.long o5), .second, .val (.long o6), .second, .val (.int q1), .val (.int q2), .val (.int q3), .val (.int q4), .val (.int q5), .val (.int i), .val (.int up), .val (.int ok), .val (.long a1), .second, .val (.long a2), .second, .val (.long b1), .second, .val (.long b2), .second, .val (.long c1), .second, .val (.long c2), .second, .val (.long g1), .second, .val (.long g2), .second, .val (.int v), .unset, .unset, .unset, .unset, .unset, .unset, .unset, .unset, .unset, .unset, .unset, .unset] [] k n (ob H p s2) Q) (m : Nat) :
    ∀ (j : Int32) (s1 : St), Sr s s1 → j.toInt = nn.toInt - m → 0 ≤ j.toInt →
    W (pj lw) 100 1041 [.val (.ref a), .val (.int nn), .val (.ref p), .val (.long o1), .second, .val (.long o2), .second, .val (.long o3), .second, .val (.long o4), .second, .val (.long o5), .second, .val (.long o6), .second, .val (.int q1), .val (.int q2), .val (.int q3), .val (.int q4), .val (.int q5), .val (.int i), .val (.int up), .val (.int ok), .val (.long a1), .second, .val (.long a2), .second, .val (.long b1), .second, .val (.long b2), .second, .val (.long c1), .second, .val (.long c2), .second, .val (.long g1), .second, .val (.long g2), .second, .val (.int v), .val (.int R), .unset, .val (.int j), .unset, .unset, .unset, .unset, .unset, .unset, .unset, .unset, .unset] [] k n (ob H p s1) Q := by
  have nb := hJ.1.2.2.1.2
  rw [h0] at nb
  induction m with
  | zero =>
    intro j s1 hS hj hj0
    have h1 : ¬ j < nn := by rw [lt32]; omega
    rw [w100_1041]; simp +decide only [w100_1043, w100_1044, ↓reduceIte, h1]
    refine W_fa 40 rfl ?_
    exact K s1 hS
  | succ m ih =>
    intro j s1 hS hj hj0
    have h1 : j < nn := by rw [lt32]; omega
    have h2 : (j + 1).toInt = j.toInt + 1 := ia (by simp only [Int32.reduceToInt]; omega) (by simp only [Int32.reduceToInt]; omega)
    rw [w100_1041]; simp +decide only [w100_1043, w100_1044, w100_1047, w100_1048, w100_1050, isO_put, true_and, and_true, ↓reduceIte, h1]
    obtain ⟨μ, k1, k2, k3, k4⟩ := cmn (x := v) hS hJ (by rw [h0]; exact hv)
    refine k4 fun s2 hS2 => ?_
    simp +decide only [w100_1053, w100_1054, w100_1056, isO_put, cs_nil, cs_int, Option.toList_some, List.cons_append, List.nil_append, true_and, and_true, Nat.reduceAdd, Nat.reduceLeDiff, Int32.reduceAdd, Int64.reduceAdd, Nat.add_zero]
    obtain ⟨ν, l1, l2, l3, l4⟩ := cmn (x := j) hS2 hJ (by rw [h0]; omega)
    refine l4 fun s3 hS3 => ?_
    have nx := ih (j + 1) s3 hS3 (by omega) (by omega)
    have bj := ush_bt (R := R) (k := j) (by omega)
    have key : μ = ν ↔ bt R j.toNatClampNeg = true := by
      rw [hR]
      have ua : Cn (gA s) (gB s) (gU s) v.toNatClampNeg j.toNatClampNeg ↔ gC s (gT s) v.toNatClampNeg j.toNatClampNeg := hJ.2.2.all
      rw [ua]
      constructor
      · intro w; rw [← w] at l2; exact k2.trans l2.symm
      · intro w
        rcases Nat.lt_trichotomy μ ν with q | q | q
        · exact absurd (w.symm.trans k2) (l3 μ q)
        · exact q
        · exact absurd (w.trans l2) (k3 ν q)
    rw [h0] at k1 l1
    by_cases q : μ = ν
    · have b1 : ¬ Jvm.Free.XT.ushr R j &&& 1 = 0 := fun w => by have := bj.1 w; rw [key.1 q] at this; exact absurd this (by decide)
      subst q
      simp +decide only [w100_1059, w100_1062, w100_1063, w100_1067, w100_1069, w100_1071, w100_1072, w100_1073, w100_1074, w100_1077, w100_1078, w100_1082, w100_1087, w100_1090, Option.toList_some, List.cons_append, List.nil_append, ↓reduceIte, b1]
      exact nx
    · have b1 : Jvm.Free.XT.ushr R j &&& 1 = 0 := bj.2 (by cases w : bt R j.toNatClampNeg with | false => rfl | true => exact absurd (key.2 w) q)
      have e1 := (ofi (i := μ) (by omega)).1
      have e2 := (ofi (i := ν) (by omega)).1
      have q' : ¬ Int32.ofNat μ = Int32.ofNat ν := by rw [eq32]; omega
      simp +decide only [w100_1059, w100_1066, w100_1067, w100_1069, w100_1071, w100_1072, w100_1073, w100_1074, w100_1081, w100_1082, w100_1087, w100_1090, Option.toList_some, List.cons_append, List.nil_append, ↓reduceIte, b1, q']
      exact nx
set_option maxRecDepth 100000 in
theorem l894 (hJ : Jv s) (h0 : sI s 0 = nn)
    (K : ∀ s2, Sr s s2 → W (pj lw) 100 1099 [.val (.ref a), .val (.int nn), .val (.ref p), .val (.long o1), .second, .val (.long o2), .second, .val (.long o3), .second, .val (.long o4), .second, .val (.long o5), .second, .val (.long o6), .second, .val (.int q1), .val (.int q2), .val (.int q3), .val (.int q4), .val (.int q5), .val (.int i), .val (.int up), .val (.int ok), .val (.long a1), .second, .val (.long a2), .second, .val (.long b1), .second, .val (.long b2), .second, .val (.long c1), .second, .val (.long c2), .second, .val (.long g1), .second, .val (.long g2), .second, .unset, .unset, .unset, .unset, .unset, .unset, .unset, .unset, .unset, .unset, .unset, .unset, .unset] [] k n (ob H p s2) Q) (m : Nat) :
    ∀ (v : Int32) (s1 : St), Sr s s1 → v.toInt = nn.toInt - m → 0 ≤ v.toInt →
    W (pj lw) 100 894 [.val (.ref a), .val (.int nn), .val (.ref p), .val (.long o1), .second, .val (.long o2), .second, .val (.long o3), .second, .val (.long o4), .second, .val (.long o5), .second, .val (.long o6), .second, .val (.int q1), .val (.int q2), .val (.int q3), .val (.int q4), .val (.int q5), .val (.int i), .val (.int up), .val (.int ok), .val (.long a1), .second, .val (.long a2), .second, .val (.long b1), .second, .val (.long b2), .second, .val (.long c1), .second, .val (.long c2), .second, .val (.long g1), .second, .val (.long g2), .second, .val (.int v), .unset, .unset, .unset, .unset, .unset, .unset, .unset, .unset, .unset, .unset, .unset, .unset] [] k n (ob H p s1) Q := by
  have nb := hJ.1.2.2.1.2
  rw [h0] at nb
  induction m with
  | zero =>
    intro v s1 hS hj hj0
    have h1 : ¬ v < nn := by rw [lt32]; omega
    rw [w100_894]; simp +decide only [w100_896, w100_897, ↓reduceIte, h1]
    refine W_fa 39 rfl ?_
    exact K s1 hS
  | succ m ih =>
    intro v s1 hS hj hj0
    have h1 : v < nn := by rw [lt32]; omega
    have h2 : (v + 1).toInt = v.toInt + 1 := ia (by simp only [Int32.reduceToInt]; omega) (by simp only [Int32.reduceToInt]; omega)
    have hJ1 := hS.Jv hJ
    rw [w100_894]; simp +decide only [w100_896, w100_897, w100_900, w100_901, w100_903, w100_904, w100_906, w100_907, w100_909, w100_910, ↓reduceIte, h1]
    refine l912 (x0 := v.toNatClampNeg) hJ1.1 (fun R' hR' => ?_) 40 0 _ 1 (by decide) (by decide) (Ro_0 (by omega))
    simp +decide only [w100_1038, w100_1039]
    refine l1041 hJ1 (by rw [hS.1]; exact h0) (by omega) hR' (fun s2 hS2 => ?_) nn.toInt.toNat 0 s1 Sr.refl (by simp only [Int32.reduceToInt]; omega) (by decide)
    simp +decide only [w100_1093, w100_1096]
    exact ih (v + 1) s2 (hS.trans hS2) (by omega) (by omega)
def MI (s : St) (j : Nat) (a1 a2 b1 b2 c1 c2 g1 g2 : Int64) : Prop :=
  (∀ i, i < 128 → B2 a1 a2 i = (decide (sA s 5 i ≠ 0) && decide (i < j))) ∧ (∀ i, i < 128 → B2 b1 b2 i = (decide (sA s 4 i ≠ 0) && decide (i < j))) ∧ (∀ i, i < 128 → B2 c1 c2 i = (decide (sA s 5 i ≠ 0) && decide (i < j))) ∧ g1 = fpS s j ∧ g2 = wsm (uB8 s 5) (wJ s) 0 j
theorem mi_n {t j : Nat} (h : ∀ i, i < 128 → B2 a1 a2 i = (decide (sA s t i ≠ 0) && decide (i < j))) (hn : sA s t j = 0) : ∀ i, i < 128 → B2 a1 a2 i = (decide (sA s t i ≠ 0) && decide (i < j + 1)) := fun i hi => by
  rw [h i hi]
  by_cases q : i = j
  · subst q; rw [decide_eq_false (fun w => w hn)]; rfl
  · congr 1; exact decide_eq_decide.mpr (by omega)
theorem mi_s {t j : Nat} (h : ∀ i, i < 128 → B2 a1 a2 i = (decide (sA s t i ≠ 0) && decide (i < j))) (he : 0 ≤ e.toInt ∧ e.toInt < 128) (hj : e.toNatClampNeg = j) (hn : sA s t j ≠ 0) : ∀ i, i < 128 → B2 (m1 e a1) (m2 e a2) i = (decide (sA s t i ≠ 0) && decide (i < j + 1)) := fun i hi => by
  rw [B2_m he, h i hi, hj]
  by_cases q : i = j
  · subst q; rw [decide_eq_true hn]; simp
  · rw [decide_eq_false q, Bool.or_false]; congr 1; exact decide_eq_decide.mpr (by omega)
theorem mi_0 : MI s 0 0 0 0 0 0 0 0 0 := by
  refine ⟨fun i _ => ?_, fun i _ => ?_, fun i _ => ?_, rfl, rfl⟩ <;> rw [B2_0, decide_eq_false (show ¬ i < 0 by omega), Bool.and_false]
theorem trv (h : 0 ≤ f.toInt ∧ f.toInt < 128) (hb : sA s 5 f.toNatClampNeg ≠ 0 → sA s 4 f.toNatClampNeg ≠ 0) : tr s f = decide (sA s 5 f.toNatClampNeg ≠ 0) := by
  unfold tr; rw [vi_t h, Bool.true_and]
  by_cases q : sA s 5 f.toNatClampNeg = 0
  · rw [decide_eq_false (p := sA s 5 f.toNatClampNeg ≠ 0) (fun w => w q), Bool.and_false]
  · rw [decide_eq_true q, decide_eq_true (hb q)]; rfl
set_option maxRecDepth 100000 in
set_option maxHeartbeats 2000000 in
theorem l374 (hJ : Jv s)
    (K : ∀ s2 a1 a2 b1 b2 c1 c2 g1 g2, Sr s s2 → MI s 128 a1 a2 b1 b2 c1 c2 g1 g2 → W (pj lw) 100 848 [.val (.ref a), .val (.int nn), .val (.ref p), .val (.long o1), .second, .val (.long o2), .second, .val (.long o3), .second, .val (.long o4), .second, .val (.long o5), .second, .val (.long o6), .second, .val (.int q1), .val (.int q2), .val (.int q3), .val (.int q4), .val (.int q5), .val (.int i), .val (.int up), .val (.int ok), .val (.long a1), .second, .val (.long a2), .second, .val (.long b1), .second, .val (.long b2), .second, .val (.long c1), .second, .val (.long c2), .second, .val (.long g1), .second, .val (.long g2), .second, .unset, .unset, .unset, .unset, .unset, .unset, .unset, .unset, .unset, .unset, .unset, .unset, .unset] [] k n (ob H p s2) Q) (m : Nat) :
    ∀ (e : Int32) (s1 : St) (a1 a2 b1 b2 c1 c2 g1 g2 : Int64), Sr s s1 → MI s e.toNatClampNeg a1 a2 b1 b2 c1 c2 g1 g2 → e.toInt = 128 - m → 0 ≤ e.toInt →
    W (pj lw) 100 374 [.val (.ref a), .val (.int nn), .val (.ref p), .val (.long o1), .second, .val (.long o2), .second, .val (.long o3), .second, .val (.long o4), .second, .val (.long o5), .second, .val (.long o6), .second, .val (.int q1), .val (.int q2), .val (.int q3), .val (.int q4), .val (.int q5), .val (.int i), .val (.int up), .val (.int ok), .val (.long a1), .second, .val (.long a2), .second, .val (.long b1), .second, .val (.long b2), .second, .val (.long c1), .second, .val (.long c2), .second, .val (.long g1), .second, .val (.long g2), .second, .val (.int e), .unset, .unset, .unset, .unset, .unset, .unset, .unset, .unset, .unset, .unset, .unset, .unset] [] k n (ob H p s1) Q := by
  induction m with
  | zero =>
    intro e s1 a1 a2 b1 b2 c1 c2 g1 g2 hS hM he he0
    have h1 : ¬ e < 128 := by rw [lt32]; simp only [Int32.reduceToInt]; omega
    rw [w100_374]; simp +decide only [w100_376, w100_379, ↓reduceIte, h1]
    refine W_fa 39 rfl ?_
    refine K s1 a1 a2 b1 b2 c1 c2 g1 g2 hS ?_
    rw [show (128 : Nat) = e.toNatClampNeg by rw [cln]; omega]; exact hM
  | succ m ih =>
    intro e s1 a1 a2 b1 b2 c1 c2 g1 g2 hS hM he he0
    have h1 : e < 128 := by rw [lt32]; simp only [Int32.reduceToInt]; omega
    have h2 : (e + 1).toInt = e.toInt + 1 := ia (by simp only [Int32.reduceToInt]; omega) (by simp only [Int32.reduceToInt]; omega)
    have h3 : (e + 1).toNatClampNeg = e.toNatClampNeg + 1 := by rw [cln, cln]; omega
    have r : 0 ≤ e.toInt ∧ e.toInt < 128 := by omega
    have hv : vi e = true := vi_t r
    have e7 : e.toNatClampNeg < 128 := by rw [cln]; omega
    have nx : ∀ s2 a1 a2 b1 b2 c1 c2 g1 g2 y0 y1 y2 y3 y4 y5 y6 y7 y8 y9 y10 y11, Sr s s2 → MI s (e.toNatClampNeg + 1) a1 a2 b1 b2 c1 c2 g1 g2 → okf 40 [.val (.ref a), .val (.int nn), .val (.ref p), .val (.long o1), .second, .val (.long o2), .second, .val (.long o3), .second, .val (.long o4), .second, .val (.long o5), .second, .val (.long o6), .second, .val (.int q1), .val (.int q2), .val (.int q3), .val (.int q4), .val (.int q5), .val (.int i), .val (.int up), .val (.int ok), .val (.long a1), .second, .val (.long a2), .second, .val (.long b1), .second, .val (.long b2), .second, .val (.long c1), .second, .val (.long c2), .second, .val (.long g1), .second, .val (.long g2), .second, .val (.int e), y0, y1, y2, y3, y4, y5, y6, y7, y8, y9, y10, y11] = true →
        W (pj lw) 100 842 [.val (.ref a), .val (.int nn), .val (.ref p), .val (.long o1), .second, .val (.long o2), .second, .val (.long o3), .second, .val (.long o4), .second, .val (.long o5), .second, .val (.long o6), .second, .val (.int q1), .val (.int q2), .val (.int q3), .val (.int q4), .val (.int q5), .val (.int i), .val (.int up), .val (.int ok), .val (.long a1), .second, .val (.long a2), .second, .val (.long b1), .second, .val (.long b2), .second, .val (.long c1), .second, .val (.long c2), .second, .val (.long g1), .second, .val (.long g2), .second, .val (.int e), y0, y1, y2, y3, y4, y5, y6, y7, y8, y9, y10, y11] [] k n (ob H p s2) Q := fun s2 a1 a2 b1 b2 c1 c2 g1 g2 y0 y1 y2 y3 y4 y5 y6 y7 y8 y9 y10 y11 hS2 hM2 hok => by
      refine W_fa 40 hok ?_
      show W (pj lw) 100 842 [.val (.ref a), .val (.int nn), .val (.ref p), .val (.long o1), .second, .val (.long o2), .second, .val (.long o3), .second, .val (.long o4), .second, .val (.long o5), .second, .val (.long o6), .second, .val (.int q1), .val (.int q2), .val (.int q3), .val (.int q4), .val (.int q5), .val (.int i), .val (.int up), .val (.int ok), .val (.long a1), .second, .val (.long a2), .second, .val (.long b1), .second, .val (.long b2), .second, .val (.long c1), .second, .val (.long c2), .second, .val (.long g1), .second, .val (.long g2), .second, .val (.int e), .unset, .unset, .unset, .unset, .unset, .unset, .unset, .unset, .unset, .unset, .unset, .unset] [] k n (ob H p s2) Q
      simp +decide only [w100_842, w100_845]
      exact ih (e + 1) s2 a1 a2 b1 b2 c1 c2 g1 g2 hS2 (by rw [h3]; exact hM2) (by omega) (by omega)
    have hJ1 := hS.Jv hJ
    have bo := hJ.1.2.2.2.1 _ e7
    have pe : pr s1 e = decide (sA s 4 e.toNatClampNeg ≠ 0) := by rw [prv r, hS.ar (by decide)]
    have te : tr s1 e = decide (sA s 5 e.toNatClampNeg ≠ 0) := by rw [trv r (hJ1.1.2.2.2.1 _ e7).1, hS.ar (by decide)]
    obtain ⟨M1, M2, M3, M4, M5⟩ := hM
    have w6 := wsm_sn (f := uB8 s 5) (w := wJ s) e.toNatClampNeg 0
    rw [Nat.zero_add] at w6
    rw [w100_374]
    by_cases U : sA s 4 e.toNatClampNeg = 0
    · have T : sA s 5 e.toNatClampNeg = 0 := Classical.byContradiction fun w => bo.1 w U
      rw [decide_eq_false (fun w => w U)] at pe
      rw [decide_eq_false (fun w => w T)] at te
      simp +decide only [w100_376, w100_379, w100_382, w100_383, w100_385, w100_388, w100_390, w100_392, w100_426, w100_427, w100_429, w100_432, w100_435, isO_put, Option.toList_some, List.cons_append, List.nil_append, true_and, and_true, ↓reduceIte, h1, t6, t5, pe, te, bz]
      refine nx s1 a1 a2 b1 b2 c1 c2 g1 g2 _ _ _ _ _ _ _ _ _ _ _ _ hS ⟨mi_n M1 T, mi_n M2 U, mi_n M3 T, ?_, ?_⟩ rfl
      · rw [fpS, if_pos U]; exact M4
      · rw [w6, if_neg (by unfold uB8; simp [T]), Int64.add_zero]; exact M5
    have eo := ofv hv
    have fp1 : g1 * 1000003 + ((e.toInt64 * 64 + (sA s 1 e.toNatClampNeg).toInt64) * 64 + (sA s 2 e.toNatClampNeg).toInt64) * 4194304 + (sA s 3 e.toNatClampNeg).toInt64 = fpS s (e.toNatClampNeg + 1) := by
      rw [fpS, if_neg U, eo, M4]
    rw [decide_eq_true U] at pe
    have ee : ew s1 e = sA s 3 e.toNatClampNeg := by unfold ew; rw [if_pos pe, hS.ar (by decide)]
    have A1 : sA s1 1 = sA s 1 := hS.ar (by decide)
    have A2 : sA s1 2 = sA s 2 := hS.ar (by decide)
    have A3 : sA s1 3 = sA s 3 := hS.ar (by decide)
    obtain ⟨ra, rb⟩ := gAB hJ.1 e7
    have eU : gU s1 = gU s := gU_of (hS.ar (by decide))
    have eT : gT s1 = gT s := gT_of (hS.ar (by decide))
    have eR : gR s1 = gR s := gR_of (hS.ar (by decide))
    have eA : gA s1 = gA s := gA_of (hS.ar (by decide))
    have eB : gB s1 = gB s := gB_of (hS.ar (by decide))
    have uE : gU s e.toNatClampNeg := ⟨e7, U⟩
    have kr := hJ.2.2.2 _ uE
    by_cases T : sA s 5 e.toNatClampNeg = 0
    · rw [decide_eq_false (fun w => w T)] at te
      have nT : ¬ gT s e.toNatClampNeg := fun w => w.2 T
      simp +decide only [w100_376, w100_379, w100_382, w100_383, w100_385, w100_388, w100_390, w100_392, w100_426, w100_427, w100_429, w100_432, isO_put, Option.toList_some, List.cons_append, List.nil_append, true_and, and_true, ↓reduceIte, h1, t6, t5, pe, te, bz]
      refine bB ?_
      simp +decide only [w100_469, w100_470, w100_472, w100_473, w100_476, w100_478, w100_479, w100_481, w100_482, w100_485, w100_487, w100_488, w100_490, w100_493, w100_495, w100_497, w100_500, w100_501, w100_503, w100_504, w100_507, w100_508, w100_510, w100_511, w100_512, w100_515, w100_516, w100_518, w100_519, w100_520, w100_523, w100_524, w100_525, w100_527, w100_528, w100_529j, w100_531, w100_532, w100_534, w100_535, w100_537, w100_538, w100_540, w100_541, isO_put, Option.toList_some, List.cons_append, List.nil_append, true_and, and_true, ↓reduceIte, t7a, t7b, t8, pe, ee, A1, A2, fp1]
      refine l543 (x0 := (sA s 1 e.toNatClampNeg).toNatClampNeg) hJ1.1 r (by rw [A3]) (fun R' hR' => ?_) 40 0 _ 1 (by decide) (by decide) (Ro_0 ra)
      rw [eA, eB, eU, eR] at hR'
      have bit : bt R' (sA s 2 e.toNatClampNeg).toNatClampNeg = true := (hR' _).2 (Classical.byContradiction fun w => nT (kr.2 w))
      have bx : ¬ Jvm.Free.XT.ushr R' (sA s 2 e.toNatClampNeg) &&& 1 = 0 := fun w => by have := (ush_bt rb).1 w; rw [bit] at this; exact absurd this (by decide)
      simp +decide only [w100_697, w100_699, w100_701, w100_702, w100_703, w100_704, w100_746, w100_748, w100_751, w100_752, w100_754, w100_756, isO_put, true_and, and_true, ↓reduceIte, bx]
      have va : vv s1 (sA s 1 e.toNatClampNeg) = true := by have := hJ1.1.2.1 _ e7; rw [A1] at this; exact vv_t this.1 hJ1.1.2.2.1.2
      have vb : vv s1 (sA s 2 e.toNatClampNeg) = true := by have := hJ1.1.2.1 _ e7; rw [A2] at this; exact vv_t this.2 hJ1.1.2.2.1.2
      refine t14 hJ1.1.1 va vb (bo.2 U) ?_
      have pm := pm_ok hJ1 (by rw [eU]; exact uE) hv (by rw [eT]; exact nT)
      rw [A1, A2, eU, eR] at pm
      have hS2 : Sr s (exq s1 (sA s 1 e.toNatClampNeg) (-1)).1 := hS.trans exq_Sr
      generalize (exq s1 (sA s 1 e.toNatClampNeg) (-1)).1 = s2 at *
      generalize pmx s1 (sA s 1 e.toNatClampNeg) (sA s 2 e.toNatClampNeg) = q at *
      obtain ⟨p1, p2, p3⟩ := pm
      have qr := vi_rg p1
      have pq : pr s2 q = true := by rw [prv qr, hS2.ar (by decide)]; exact decide_eq_true p2.2
      have eq : ew s2 q = sA s 3 q.toNatClampNeg := by unfold ew; rw [if_pos pq, hS2.ar (by decide)]
      have pc1 := prc_iff (s := s) r qr
      rw [decide_eq_true p3] at pc1
      have qm := m1_vi p1
      simp +decide only [w100_759, w100_761, w100_763, w100_764, w100_767, w100_768, w100_770, w100_773, w100_775, w100_777, w100_779, w100_782, w100_787, isO_put, Option.toList_some, List.cons_append, List.nil_append, true_and, and_true, ↓reduceIte, qm, t8, eq, s105, pc1, bz]
      refine nx s2 a1 a2 _ _ c1 c2 _ g2 _ _ _ _ _ _ _ _ _ _ _ _ hS2 ⟨mi_n M1 T, mi_s M2 r rfl U, mi_n M3 T, rfl, ?_⟩ rfl
      rw [w6, if_neg (by unfold uB8; simp [T]), Int64.add_zero]; exact M5
    · rw [decide_eq_true T] at te
      have yT : gT s e.toNatClampNeg := ⟨e7, T⟩
      simp +decide only [w100_376, w100_379, w100_382, w100_383, w100_385, w100_388, w100_390, w100_392, isO_put, Option.toList_some, List.cons_append, List.nil_append, true_and, and_true, ↓reduceIte, h1, t6, te, bz]
      refine bA ?_
      simp +decide only [w100_426, w100_427, w100_429, w100_432, isO_put, Option.toList_some, List.cons_append, List.nil_append, true_and, and_true, ↓reduceIte, t5, pe, bz]
      refine bB ?_
      simp +decide only [w100_469, w100_470, w100_472, w100_473, w100_476, w100_478, w100_479, w100_481, w100_482, w100_485, w100_487, w100_488, w100_490, w100_493, w100_495, w100_497, w100_500, w100_501, w100_503, w100_504, w100_507, w100_508, w100_510, w100_511, w100_512, w100_515, w100_516, w100_518, w100_519, w100_520, w100_523, w100_524, w100_525, w100_527, w100_528, w100_529j, w100_531, w100_532, w100_534, w100_535, w100_537, w100_538, w100_540, w100_541, isO_put, Option.toList_some, List.cons_append, List.nil_append, true_and, and_true, ↓reduceIte, t7a, t7b, t8, pe, ee, A1, A2, fp1]
      refine l543 (x0 := (sA s 1 e.toNatClampNeg).toNatClampNeg) hJ1.1 r (by rw [A3]) (fun R' hR' => ?_) 40 0 _ 1 (by decide) (by decide) (Ro_0 ra)
      rw [eA, eB, eU, eR] at hR'
      have bit : bt R' (sA s 2 e.toNatClampNeg).toNatClampNeg = false := by
        cases q : bt R' (sA s 2 e.toNatClampNeg).toNatClampNeg with
        | false => rfl
        | true => exact absurd ((hR' _).1 q) (kr.1 yT)
      have bx : Jvm.Free.XT.ushr R' (sA s 2 e.toNatClampNeg) &&& 1 = 0 := (ush_bt rb).2 bit
      simp +decide only [w100_697, w100_699, w100_701, w100_702, w100_703, w100_704, ↓reduceIte, bx]
      refine bC ?_
      simp +decide only [w100_746, w100_748, w100_790, w100_791, w100_793, isO_put, true_and, and_true, ↓reduceIte]
      refine t15 hJ1.1.1 hJ1.1.2.1 hJ1.1.2.2.1 ?_
      have rp := rp_ok hJ1 (by rw [eT]; exact yT) hv
      rw [eU, eR, eT] at rp
      have hS2 : Sr s (rplS s1 e) := by
        unfold rplS; rw [if_pos te]; exact hS.trans exq_Sr
      have hM2 : MI s (e.toNatClampNeg + 1) (m1 e a1) (m2 e a2) (m1 e b1) (m2 e b2) (m1 e c1) (m2 e c2) (fpS s (e.toNatClampNeg + 1)) (g2 + (sA s 3 e.toNatClampNeg).toInt64) := by
        refine ⟨mi_s M1 r rfl T, mi_s M2 r rfl U, mi_s M3 r rfl T, rfl, ?_⟩
        rw [w6, if_pos (by unfold uB8; simp [T]), M5]; rfl
      generalize rplS s1 e = s2 at *
      generalize rpl s1 e = q at *
      rcases rp with q0 | ⟨p1, p2, p3, p4⟩
      · have q0' := eq_true q0
        simp +decide only [w100_796, w100_798, w100_800, w100_801, Option.toList_some, List.cons_append, List.nil_append, ↓reduceIte, q0']
        exact nx s2 _ _ _ _ _ _ _ _ _ _ _ _ _ _ _ _ _ _ _ _ hS2 hM2 rfl
      · have qr := vi_rg p1
        have pq : pr s2 q = true := by rw [prv qr, hS2.ar (by decide)]; exact decide_eq_true p2.2
        have tq : tr s2 q = false := tr_f (by rw [hS2.ar (by decide)]; exact Classical.byContradiction fun w => p3 ⟨vi_cl p1, w⟩)
        have eq : ew s2 q = sA s 3 q.toNatClampNeg := by unfold ew; rw [if_pos pq, hS2.ar (by decide)]
        have pc1 := prc_iff (s := s) r qr
        rw [decide_eq_false (by omega)] at pc1
        have qm := m1_vi p1
        simp +decide only [w100_796, w100_798, w100_800, w100_801, w100_804, w100_805, w100_807, w100_810, w100_813, w100_814, w100_816, w100_819, w100_822, w100_823, w100_825, w100_828, w100_830, w100_832, w100_834, w100_837, isO_put, Option.toList_some, List.cons_append, List.nil_append, true_and, and_true, ↓reduceIte, qm, t5, t6, pq, tq, t8, eq, s105, pc1, bz]
        exact nx s2 _ _ _ _ _ _ _ _ _ _ _ _ _ _ _ _ _ _ _ _ hS2 hM2 rfl
theorem k16 : Cl (pj lw) 16 [.ref p] (ob H p s) Q ↔ Q (some (.int (sI s 15))) (ob H p s) := by rw [c16]; simp +decide only [w16_0, w16_1, w16_4, isO_put, true_and, g15]
theorem k17 : Cl (pj lw) 17 [.ref p] (ob H p s) Q ↔ Q (some (.int (sI s 16))) (ob H p s) := by rw [c17]; simp +decide only [w17_0, w17_1, w17_4, isO_put, true_and, g16]
def PV (s : St) (a1 a2 b1 b2 g1 : Int64) : Prop := (∀ i, i < 128 → B2 a1 a2 i = decide (sA s 5 i ≠ 0)) ∧ (∀ i, i < 128 → B2 b1 b2 i = decide (sA s 4 i ≠ 0)) ∧ g1 = fpS s 128
theorem sub2 : y - (y - x) = x := by
  have h : x + (y - x) = y := by rw [Int32.add_comm, Int32.sub_add_cancel]
  have g := Int32.add_sub_cancel x (y - x)
  rw [h] at g; exact g
set_option maxRecDepth 100000 in
set_option maxHeartbeats 2000000 in
theorem chk (hJ : Jv s) (hC : CW s) (h0 : sI s 0 = nn)
    (K : ∀ s2 a1 a2 b1 b2 c1 c2 g1 g2, Sr s s2 → PV s a1 a2 b1 b2 g1 → W (pj lw) 100 1135 [.val (.ref a), .val (.int nn), .val (.ref p), .val (.long o1), .second, .val (.long o2), .second, .val (.long o3), .second, .val (.long o4), .second, .val (.long o5), .second, .val (.long o6), .second, .val (.int q1), .val (.int q2), .val (.int q3), .val (.int q4), .val (.int q5), .val (.int i), .val (.int up), .val (.int ok), .val (.long a1), .second, .val (.long a2), .second, .val (.long b1), .second, .val (.long b2), .second, .val (.long c1), .second, .val (.long c2), .second, .val (.long g1), .second, .val (.long g2), .second, .val (.int (sI s 12)), .val (.int (nn - sI s 13)), .val (.int (sI s 13)), .val (.int (sI s 15)), .val (.int (sI s 16)), .val (.long (sJ s 14)), .second, .unset, .unset, .unset, .unset, .unset, .unset] [] k n (ob H p s2) Q) :
    W (pj lw) 100 347 [.val (.ref a), .val (.int nn), .val (.ref p), .val (.long o1), .second, .val (.long o2), .second, .val (.long o3), .second, .val (.long o4), .second, .val (.long o5), .second, .val (.long o6), .second, .val (.int q1), .val (.int q2), .val (.int q3), .val (.int q4), .val (.int q5), .val (.int i), .val (.int up), .val (.int ok), .unset, .unset, .unset, .unset, .unset, .unset, .unset, .unset, .unset, .unset, .unset, .unset, .unset, .unset, .unset, .unset, .unset, .unset, .unset, .unset, .unset, .unset, .unset, .unset, .unset, .unset, .unset, .unset, .unset] [] k n (ob H p s) Q := by
  have nb := hJ.1.2.2.1
  unfold nOk at nb
  rw [h0] at nb
  simp +decide only [w100_347, w100_348uu, w100_350, w100_351uu, w100_353, w100_354uu, w100_356, w100_357uu, w100_359, w100_360uu, w100_362, w100_363uu, w100_365, w100_366uu, w100_368, w100_369uu, w100_371, w100_372]
  refine l374 hJ (fun s2 a1 a2 b1 b2 c1 c2 g1 g2 hS hM => ?_) 128 0 s 0 0 0 0 0 0 0 0 Sr.refl mi_0 (by decide) (by decide)
  obtain ⟨M1, M2, M3, M4, M5⟩ := hM
  have ac := B2_ext (lo := a1) (hi := a2) (l1 := c1) (l2 := c2) fun i hi => by rw [M1 i hi, M3 i hi]
  have gw : sJ s2 14 = g2 := by rw [hS.2.1, hC.2.2, M5]
  have i0 : sI s2 0 = nn := by rw [hS.1, h0]
  have s13 : nn - (nn - sI s2 13) = sI s2 13 := sub2
  obtain ⟨ac1, ac2⟩ := ac
  subst ac1 ac2
  simp +decide only [w100_848, w100_850, w100_852, w100_853, w100_856, w100_858, w100_860, w100_861, w100_864, w100_865, w100_868, w100_870, w100_871, w100_876, w100_877, w100_880, w100_881, w100_882, w100_885, w100_886, w100_891, w100_892, isO_put, cs_nil, cs_int, cmpL_eq, Option.toList_some, List.cons_append, List.nil_append, true_and, and_true, ↓reduceIte, Nat.reduceAdd, Nat.reduceLeDiff, Int32.reduceAdd, Int64.reduceAdd, Nat.add_zero, t10, t11, t12, gw, i0, s13]
  have hP : PV s a1 a2 b1 b2 g1 := by
    refine ⟨fun i hi => ?_, fun i hi => ?_, M4⟩
    · rw [M1 i hi, decide_eq_true hi, Bool.and_true]
    · rw [M2 i hi, decide_eq_true hi, Bool.and_true]
  refine l894 hJ h0 (fun s3 hS3 => ?_) nn.toInt.toNat 0 s2 hS (by simp only [Int32.reduceToInt]; omega) (by decide)
  have K' := K s3 a1 a2 b1 b2 a1 a2 g1 g2 hS3 hP
  rw [← hS3.1 12, ← hS3.1 13, ← hS3.1 15, ← hS3.1 16, ← hS3.2.1 14] at K'
  have i03 : sI s3 0 = nn := by rw [hS3.1, h0]
  simp +decide only [w100_1099, w100_1100, w100_1103, w100_1105, w100_1106, w100_1109, w100_1111, w100_1112, w100_1115, w100_1117, w100_1118, w100_1121, w100_1123, w100_1124, w100_1127, w100_1129, w100_1130, w100_1133uu, isO_put, Option.toList_some, List.cons_append, List.nil_append, true_and, and_true, k16, k17, t9, t10, t11, t12, i03]
  exact K'
set_option maxRecDepth 100000 in
theorem k1394 (N : W (pj lw) 100 58 [.val (.ref a), .val (.int nn), .val (.ref p), .val (.long a1), .second, .val (.long a2), .second, .val (.long b1), .second, .val (.long b2), .second, .val (.long g1), .second, .val (.long (sJ s 14)), .second, .val (.int (sI s 12)), .val (.int (nn - sI s 13)), .val (.int (sI s 13)), .val (.int (sI s 15)), .val (.int (sI s 16)), .val (.int (i + 4)), .unset, .unset, .unset, .unset, .unset, .unset, .unset, .unset, .unset, .unset, .unset, .unset, .unset, .unset, .unset, .unset, .unset, .unset, .unset, .unset, .unset, .unset, .unset, .unset, .unset, .unset, .unset, .unset, .unset, .unset, .unset] [] k n H Q) :
    W (pj lw) 100 1394 [.val (.ref a), .val (.int nn), .val (.ref p), .val (.long o1), .second, .val (.long o2), .second, .val (.long o3), .second, .val (.long o4), .second, .val (.long o5), .second, .val (.long o6), .second, .val (.int q1), .val (.int q2), .val (.int q3), .val (.int q4), .val (.int q5), .val (.int i), .val (.int up), .val (.int ok), .val (.long a1), .second, .val (.long a2), .second, .val (.long b1), .second, .val (.long b2), .second, .val (.long c1), .second, .val (.long c2), .second, .val (.long g1), .second, .val (.long g2), .second, .val (.int (sI s 12)), .val (.int (nn - sI s 13)), .val (.int (sI s 13)), .val (.int (sI s 15)), .val (.int (sI s 16)), .val (.long (sJ s 14)), .second, .unset, .unset, .unset, .unset, .unset, .unset] [] k n H Q := by
  simp +decide only [w100_1394, w100_1396j, w100_1397, w100_1399j, w100_1401, w100_1403j, w100_1405, w100_1407j, w100_1409, w100_1411j, w100_1413, w100_1415j, w100_1417, w100_1419i, w100_1421, w100_1423i, w100_1425, w100_1427i, w100_1429, w100_1431i, w100_1433, w100_1435i, w100_1437, w100_1440]
  refine W_fa 21 rfl ?_
  exact N
set_option maxRecDepth 100000 in
theorem pD {x1 x2 : Int64} (h : W (pj lw) 100 1222 [.val (.ref a), .val (.int nn), .val (.ref p), .val (.long o1), .second, .val (.long o2), .second, .val (.long o3), .second, .val (.long o4), .second, .val (.long o5), .second, .val (.long o6), .second, .val (.int q1), .val (.int q2), .val (.int q3), .val (.int q4), .val (.int q5), .val (.int i), .val (.int up), .val (.int ok), .val (.long a1), .second, .val (.long a2), .second, .val (.long b1), .second, .val (.long b2), .second, .val (.long c1), .second, .val (.long c2), .second, .val (.long g1), .second, .val (.long g2), .second, .val (.int q1'), .val (.int q2'), .val (.int q3'), .val (.int q4'), .val (.int z), .val (.long g3), .second, .val (.long (d1 z x1)), .second, .val (.long (d2 z x2)), .second, .unset, .unset] [] k n H Q) :
    W (pj lw) 100 1183 [.val (.ref a), .val (.int nn), .val (.ref p), .val (.long o1), .second, .val (.long o2), .second, .val (.long o3), .second, .val (.long o4), .second, .val (.long o5), .second, .val (.long o6), .second, .val (.int q1), .val (.int q2), .val (.int q3), .val (.int q4), .val (.int q5), .val (.int i), .val (.int up), .val (.int ok), .val (.long a1), .second, .val (.long a2), .second, .val (.long b1), .second, .val (.long b2), .second, .val (.long c1), .second, .val (.long c2), .second, .val (.long g1), .second, .val (.long g2), .second, .val (.int q1'), .val (.int q2'), .val (.int q3'), .val (.int q4'), .val (.int z), .val (.long g3), .second, .val (.long x1), .second, .val (.long x2), .second, .unset, .unset] [] k n H Q := by
  unfold d1 d2 at h
  by_cases q : z < 64
  · rw [if_pos q, if_pos q] at h; simp +decide only [w100_1183, w100_1185, w100_1187, w100_1190, w100_1192, w100_1193, w100_1195, w100_1196, w100_1199, w100_1200, w100_1201j, w100_1203, ↓reduceIte, q]; exact h
  · rw [if_neg q, if_neg q] at h; simp +decide only [w100_1183, w100_1185, w100_1187, w100_1206, w100_1208, w100_1209, w100_1211, w100_1213, w100_1214, w100_1215, w100_1218, w100_1219, w100_1220j, ↓reduceIte, q]; exact h
set_option maxRecDepth 100000 in
theorem pE {x1 x2 : Int64} (h : W (pj lw) 100 1284 [.val (.ref a), .val (.int nn), .val (.ref p), .val (.long o1), .second, .val (.long o2), .second, .val (.long o3), .second, .val (.long o4), .second, .val (.long o5), .second, .val (.long o6), .second, .val (.int q1), .val (.int q2), .val (.int q3), .val (.int q4), .val (.int q5), .val (.int i), .val (.int up), .val (.int ok), .val (.long a1), .second, .val (.long a2), .second, .val (.long b1), .second, .val (.long b2), .second, .val (.long c1), .second, .val (.long c2), .second, .val (.long g1), .second, .val (.long g2), .second, .val (.int q1'), .val (.int q2'), .val (.int q3'), .val (.int z), .val (.int q4'), .val (.long g3), .second, .val (.long (m1 z x1)), .second, .val (.long (m2 z x2)), .second, .unset, .unset] [] k n H Q) :
    W (pj lw) 100 1253 [.val (.ref a), .val (.int nn), .val (.ref p), .val (.long o1), .second, .val (.long o2), .second, .val (.long o3), .second, .val (.long o4), .second, .val (.long o5), .second, .val (.long o6), .second, .val (.int q1), .val (.int q2), .val (.int q3), .val (.int q4), .val (.int q5), .val (.int i), .val (.int up), .val (.int ok), .val (.long a1), .second, .val (.long a2), .second, .val (.long b1), .second, .val (.long b2), .second, .val (.long c1), .second, .val (.long c2), .second, .val (.long g1), .second, .val (.long g2), .second, .val (.int q1'), .val (.int q2'), .val (.int q3'), .val (.int z), .val (.int q4'), .val (.long g3), .second, .val (.long x1), .second, .val (.long x2), .second, .unset, .unset] [] k n H Q := by
  unfold m1 m2 at h
  by_cases q : z < 64
  · rw [if_pos q, if_pos q] at h; simp +decide only [w100_1253, w100_1255, w100_1257, w100_1260, w100_1262, w100_1263, w100_1265, w100_1266, w100_1267j, w100_1269, ↓reduceIte, q]; exact h
  · rw [if_neg q, if_neg q] at h; simp +decide only [w100_1253, w100_1255, w100_1257, w100_1272, w100_1274, w100_1275, w100_1277, w100_1279, w100_1280, w100_1281, w100_1282j, ↓reduceIte, q]; exact h
set_option maxRecDepth 100000 in
set_option maxHeartbeats 2000000 in
theorem fin1 (hX : TX s0 s) (hO : ∀ i, i < 128 → B2 o1 o2 i = decide (sA s0 5 i ≠ 0)) (hP : PV s a1 a2 b1 b2 g1)
    (N : W (pj lw) 100 58 [.val (.ref a), .val (.int nn), .val (.ref p), .val (.long a1), .second, .val (.long a2), .second, .val (.long b1), .second, .val (.long b2), .second, .val (.long g1), .second, .val (.long (sJ s 14)), .second, .val (.int (sI s 12)), .val (.int (nn - sI s 13)), .val (.int (sI s 13)), .val (.int (sI s 15)), .val (.int (sI s 16)), .val (.int (i + 4)), .unset, .unset, .unset, .unset, .unset, .unset, .unset, .unset, .unset, .unset, .unset, .unset, .unset, .unset, .unset, .unset, .unset, .unset, .unset, .unset, .unset, .unset, .unset, .unset, .unset, .unset, .unset, .unset, .unset, .unset, .unset] [] k n H Q) :
    W (pj lw) 100 1135 [.val (.ref a), .val (.int nn), .val (.ref p), .val (.long o1), .second, .val (.long o2), .second, .val (.long o3), .second, .val (.long o4), .second, .val (.long o5), .second, .val (.long o6), .second, .val (.int q1), .val (.int q2), .val (.int q3), .val (.int q4), .val (.int q5), .val (.int i), .val (.int 1), .val (.int 1), .val (.long a1), .second, .val (.long a2), .second, .val (.long b1), .second, .val (.long b2), .second, .val (.long c1), .second, .val (.long c2), .second, .val (.long g1), .second, .val (.long g2), .second, .val (.int (sI s 12)), .val (.int (nn - sI s 13)), .val (.int (sI s 13)), .val (.int (sI s 15)), .val (.int (sI s 16)), .val (.long (sJ s 14)), .second, .unset, .unset, .unset, .unset, .unset, .unset] [] k n H Q := by
  obtain ⟨X1, X2, X3⟩ := hX
  simp +decide only [w100_1135, w100_1137, w100_1140, w100_1142, w100_1145, w100_1146uu, w100_1148, w100_1150uu, ↓reduceIte]
  have J3 : ∀ (x1 x2 : Int64), (∀ j, j < 128 → B2 x1 x2 j = decide (sA s 5 j ≠ 0)) → W (pj lw) 100 1284 [.val (.ref a), .val (.int nn), .val (.ref p), .val (.long o1), .second, .val (.long o2), .second, .val (.long o3), .second, .val (.long o4), .second, .val (.long o5), .second, .val (.long o6), .second, .val (.int q1), .val (.int q2), .val (.int q3), .val (.int q4), .val (.int q5), .val (.int i), .val (.int 1), .val (.int 1), .val (.long a1), .second, .val (.long a2), .second, .val (.long b1), .second, .val (.long b2), .second, .val (.long c1), .second, .val (.long c2), .second, .val (.long g1), .second, .val (.long g2), .second, .val (.int (sI s 12)), .val (.int (nn - sI s 13)), .val (.int (sI s 13)), .val (.int (sI s 15)), .val (.int (sI s 16)), .val (.long (sJ s 14)), .second, .val (.long x1), .second, .val (.long x2), .second, .unset, .unset] [] k n H Q := fun x1 x2 hx => by
    obtain ⟨u1, u2⟩ := B2_ext (lo := x1) (hi := x2) (l1 := a1) (l2 := a2) fun j hj => by rw [hx j hj, hP.1 j hj]
    subst u1 u2
    simp +decide only [w100_1284, w100_1286, w100_1288, w100_1289, w100_1292, w100_1294, w100_1296, w100_1297, w100_1302, cmpL_eq, ↓reduceIte]
    refine W_fa 46 rfl ?_
    exact k1394 N
  have J2 : ∀ (x1 x2 : Int64), (∀ j, j < 128 → B2 x1 x2 j = decide (sA s0 5 j ≠ 0 ∧ ¬ (vi (sI s 16) = true ∧ j = (sI s 16).toNatClampNeg))) → W (pj lw) 100 1222 [.val (.ref a), .val (.int nn), .val (.ref p), .val (.long o1), .second, .val (.long o2), .second, .val (.long o3), .second, .val (.long o4), .second, .val (.long o5), .second, .val (.long o6), .second, .val (.int q1), .val (.int q2), .val (.int q3), .val (.int q4), .val (.int q5), .val (.int i), .val (.int 1), .val (.int 1), .val (.long a1), .second, .val (.long a2), .second, .val (.long b1), .second, .val (.long b2), .second, .val (.long c1), .second, .val (.long c2), .second, .val (.long g1), .second, .val (.long g2), .second, .val (.int (sI s 12)), .val (.int (nn - sI s 13)), .val (.int (sI s 13)), .val (.int (sI s 15)), .val (.int (sI s 16)), .val (.long (sJ s 14)), .second, .val (.long x1), .second, .val (.long x2), .second, .unset, .unset] [] k n H Q := fun x1 x2 hx => by
    by_cases e1 : sI s 15 = -1
    · have e1' := eq_true e1
      simp +decide only [w100_1222, w100_1224, w100_1225, ↓reduceIte, e1']
      refine J3 x1 x2 fun j hj => ?_
      rw [hx j hj]; refine decide_eq_decide.mpr ?_
      rw [X3 j hj, e1, vm1]; simp
    · obtain ⟨v1, v2⟩ := X2.resolve_left e1
      have rg := vi_rg v1
      have c1' : ¬ sI s 15 < 0 := by rw [lt32]; simp only [Int32.reduceToInt]; omega
      have c2' : ¬ 127 < sI s 15 := by rw [lt32]; simp only [Int32.reduceToInt]; omega
      have q6 := fun H Q => s106 (a1 := o1) (a2 := o2) (x := sI s 15) (H := H) (Q := Q) rg
      have hb : B2 o1 o2 (sI s 15).toNatClampNeg = false := by rw [hO _ (vi_cl v1), decide_eq_false (fun w => w v2)]
      simp +decide only [w100_1222, w100_1224, w100_1225, w100_1228, w100_1230, w100_1233, w100_1235, w100_1237, w100_1240, w100_1241, w100_1243, w100_1245, w100_1248, Option.toList_some, List.cons_append, List.nil_append, true_and, ↓reduceIte, e1, c1', c2', q6, hb, bz]
      refine pE (J3 _ _ fun j hj => ?_)
      rw [B2_m rg, hx j hj, ← Bool.decide_or]
      refine decide_eq_decide.mpr ?_
      rw [X3 j hj, v1]; simp
  by_cases e1 : sI s 16 = -1
  · have e1' := eq_true e1
    simp +decide only [w100_1152, w100_1154, w100_1155, ↓reduceIte, e1']
    refine J2 o1 o2 fun j hj => ?_
    rw [hO j hj]; refine decide_eq_decide.mpr ?_
    rw [e1, vm1]; simp
  · obtain ⟨v1, v2⟩ := X1.resolve_left e1
    have rg := vi_rg v1
    have c1' : ¬ sI s 16 < 0 := by rw [lt32]; simp only [Int32.reduceToInt]; omega
    have c2' : ¬ 127 < sI s 16 := by rw [lt32]; simp only [Int32.reduceToInt]; omega
    have q6 := fun H Q => s106 (a1 := o1) (a2 := o2) (x := sI s 16) (H := H) (Q := Q) rg
    have hb : B2 o1 o2 (sI s 16).toNatClampNeg = true := by rw [hO _ (vi_cl v1), decide_eq_true v2]
    simp +decide only [w100_1152, w100_1154, w100_1155, w100_1158, w100_1160, w100_1163, w100_1165, w100_1167, w100_1170, w100_1171, w100_1173, w100_1175, w100_1178, Option.toList_some, List.cons_append, List.nil_append, true_and, ↓reduceIte, e1, c1', c2', q6, hb, bz]
    refine pD (J2 _ _ fun j hj => ?_)
    rw [B2_d rg hj, hO j hj, v1, ← decide_not, ← Bool.decide_and]
    refine decide_eq_decide.mpr ?_
    simp
set_option maxRecDepth 100000 in
set_option maxHeartbeats 2000000 in
theorem fin2 (hO : PV s o1 o2 o3 o4 o5) (hP : PV s a1 a2 b1 b2 g1) (e6 : o6 = sJ s 14) (e1 : q1 = sI s 12) (e2 : q2 = nn - sI s 13) (e3 : q3 = sI s 13) (e4 : q4 = sI s 15) (e5 : q5 = sI s 16)
    (N : W (pj lw) 100 58 [.val (.ref a), .val (.int nn), .val (.ref p), .val (.long a1), .second, .val (.long a2), .second, .val (.long b1), .second, .val (.long b2), .second, .val (.long g1), .second, .val (.long (sJ s 14)), .second, .val (.int (sI s 12)), .val (.int (nn - sI s 13)), .val (.int (sI s 13)), .val (.int (sI s 15)), .val (.int (sI s 16)), .val (.int (i + 4)), .unset, .unset, .unset, .unset, .unset, .unset, .unset, .unset, .unset, .unset, .unset, .unset, .unset, .unset, .unset, .unset, .unset, .unset, .unset, .unset, .unset, .unset, .unset, .unset, .unset, .unset, .unset, .unset, .unset, .unset, .unset] [] k n H Q) :
    W (pj lw) 100 1135 [.val (.ref a), .val (.int nn), .val (.ref p), .val (.long o1), .second, .val (.long o2), .second, .val (.long o3), .second, .val (.long o4), .second, .val (.long o5), .second, .val (.long o6), .second, .val (.int q1), .val (.int q2), .val (.int q3), .val (.int q4), .val (.int q5), .val (.int i), .val (.int 1), .val (.int 0), .val (.long a1), .second, .val (.long a2), .second, .val (.long b1), .second, .val (.long b2), .second, .val (.long c1), .second, .val (.long c2), .second, .val (.long g1), .second, .val (.long g2), .second, .val (.int (sI s 12)), .val (.int (nn - sI s 13)), .val (.int (sI s 13)), .val (.int (sI s 15)), .val (.int (sI s 16)), .val (.long (sJ s 14)), .second, .unset, .unset, .unset, .unset, .unset, .unset] [] k n H Q := by
  obtain ⟨u1, u2⟩ := B2_ext (lo := a1) (hi := a2) (l1 := o1) (l2 := o2) fun j hj => by rw [hP.1 j hj, hO.1 j hj]
  obtain ⟨u3, u4⟩ := B2_ext (lo := b1) (hi := b2) (l1 := o3) (l2 := o4) fun j hj => by rw [hP.2.1 j hj, hO.2.1 j hj]
  have u5 : g1 = o5 := hP.2.2.trans hO.2.2.symm
  subst u1 u2 u3 u4 u5 e6 e1 e2 e3 e4 e5
  simp +decide only [w100_1135, w100_1137, w100_1140, w100_1142, w100_1305, w100_1307, w100_1310, w100_1312, w100_1313, w100_1314, w100_1317, w100_1319, w100_1321, w100_1322, w100_1325, w100_1327, w100_1329, w100_1330, w100_1333, w100_1335, w100_1337, w100_1338, w100_1341, w100_1343, w100_1345, w100_1346, w100_1349, w100_1351, w100_1353, w100_1354, w100_1357, w100_1359, w100_1361, w100_1364, w100_1366, w100_1368, w100_1371, w100_1373, w100_1375, w100_1378, w100_1380, w100_1382, w100_1385, w100_1387, w100_1389, cmpL_eq, ↓reduceIte]
  exact k1394 N
set_option maxRecDepth 100000 in
theorem fin0 (N : W (pj lw) 100 58 [.val (.ref a), .val (.int nn), .val (.ref p), .val (.long a1), .second, .val (.long a2), .second, .val (.long b1), .second, .val (.long b2), .second, .val (.long g1), .second, .val (.long (sJ s 14)), .second, .val (.int (sI s 12)), .val (.int (nn - sI s 13)), .val (.int (sI s 13)), .val (.int (sI s 15)), .val (.int (sI s 16)), .val (.int (i + 4)), .unset, .unset, .unset, .unset, .unset, .unset, .unset, .unset, .unset, .unset, .unset, .unset, .unset, .unset, .unset, .unset, .unset, .unset, .unset, .unset, .unset, .unset, .unset, .unset, .unset, .unset, .unset, .unset, .unset, .unset, .unset] [] k n H Q) :
    W (pj lw) 100 1135 [.val (.ref a), .val (.int nn), .val (.ref p), .val (.long o1), .second, .val (.long o2), .second, .val (.long o3), .second, .val (.long o4), .second, .val (.long o5), .second, .val (.long o6), .second, .val (.int q1), .val (.int q2), .val (.int q3), .val (.int q4), .val (.int q5), .val (.int i), .val (.int 0), .val (.int 1), .val (.long a1), .second, .val (.long a2), .second, .val (.long b1), .second, .val (.long b2), .second, .val (.long c1), .second, .val (.long c2), .second, .val (.long g1), .second, .val (.long g2), .second, .val (.int (sI s 12)), .val (.int (nn - sI s 13)), .val (.int (sI s 13)), .val (.int (sI s 15)), .val (.int (sI s 16)), .val (.long (sJ s 14)), .second, .unset, .unset, .unset, .unset, .unset, .unset] [] k n H Q := by
  simp +decide only [w100_1135, w100_1137, w100_1305, w100_1307, ↓reduceIte]
  exact k1394 N
def LI (nn : Int32) (T : Nat) (s : St) : Prop := (Jv s ∧ CW s ∧ sI s 0 = nn) ∧ ∀ j, T ≤ j → sA s 4 j = 0
theorem LI.mono {T : Nat} (h : LI nn T s) : LI nn (T + 1) s := ⟨h.1, fun j hj => h.2 j (by omega)⟩
theorem LI.sr {T : Nat} (h : LI nn T s) (g : Sr s s') : LI nn T s' := ⟨⟨g.Jv h.1.1, g.CW h.1.2.1, by rw [g.1]; exact h.1.2.2⟩, fun j hj => by rw [g.ar (by decide)]; exact h.2 j hj⟩
theorem LI.rm {T : Nat} (h : LI nn T s) : LI nn (T + 1) (rmS s e) := by
  obtain ⟨v1, v2, v3, v4, v5⟩ := rm_v (e := e) h.1.1.1
  refine ⟨⟨rm_J h.1.1, rm_CW h.1.2.1, by rw [v5]; exact h.1.2.2⟩, fun j hj => ?_⟩
  rw [v4]; split
  · rfl
  · exact h.2 j (by omega)
theorem LI.sw {T : Nat} (h : LI nn T s) : LI nn (T + 1) (swS s e x) := by
  obtain ⟨v1, v2, v3, v4, v5⟩ := sw_v (e := e) (w := x) h.1.1.1
  exact ⟨⟨sw_J h.1.1, sw_CW h.1.2.1, by rw [v5]; exact h.1.2.2⟩, fun j hj => by rw [v4]; exact h.2 j (by omega)⟩
theorem LI.ad {T f : Nat} {u v w : Int32} (h : LI nn T s) (hf : f ≤ T) (hT : T < 100) (h4 : sA s 4 f = 0) (hu : vv s u = true) (hv : vv s v = true) (hne : u ≠ v) : LI nn (T + 1) (adS s f u v w) := by
  have f7 : f < 128 := by omega
  obtain ⟨v1, v2, v3, v4, v5⟩ := ad_v (w := w) h.1.1.1 f7 h4 (vv_rg hu).1 (vv_rg hv).1 hne
  refine ⟨⟨ad_J h.1.1 f7 h4 (vv_rg hu).1 (vv_rg hv).1 hne, ad_CW h.1.2.1 h.1.1.1 f7 h4, by rw [v5]; exact h.1.2.2⟩, fun j hj => ?_⟩
  rw [v4, if_neg (by omega)]; exact h.2 j (by omega)
set_option maxRecDepth 100000 in
theorem l274 (K : ∀ z : Int32, W (pj lw) 100 317 [.val (.ref a), .val (.int nn), .val (.ref p), .val (.long o1), .second, .val (.long o2), .second, .val (.long o3), .second, .val (.long o4), .second, .val (.long o5), .second, .val (.long o6), .second, .val (.int q1), .val (.int q2), .val (.int q3), .val (.int q4), .val (.int q5), .val (.int i), .val (.int up), .val (.int ok), .val (.int x), .val (.int y), .val (.int u), .val (.int v), .val (.int w), .val (.int z), .unset, .unset, .unset, .unset, .unset, .unset, .unset, .unset, .unset, .unset, .unset, .unset, .unset, .unset, .unset, .unset, .unset, .unset, .unset, .unset, .unset, .unset, .unset] [] k n (ob H p s) Q) (m : Nat) :
    ∀ (z c j : Int32), j.toInt = 128 - m → 0 ≤ j.toInt → W (pj lw) 100 274 [.val (.ref a), .val (.int nn), .val (.ref p), .val (.long o1), .second, .val (.long o2), .second, .val (.long o3), .second, .val (.long o4), .second, .val (.long o5), .second, .val (.long o6), .second, .val (.int q1), .val (.int q2), .val (.int q3), .val (.int q4), .val (.int q5), .val (.int i), .val (.int up), .val (.int ok), .val (.int x), .val (.int y), .val (.int u), .val (.int v), .val (.int w), .val (.int z), .val (.int c), .val (.int j), .unset, .unset, .unset, .unset, .unset, .unset, .unset, .unset, .unset, .unset, .unset, .unset, .unset, .unset, .unset, .unset, .unset, .unset, .unset, .unset, .unset] [] k n (ob H p s) Q := by
  induction m with
  | zero =>
    intro z c j hj h0
    have h1 : ¬ j < 128 := by rw [lt32]; simp only [Int32.reduceToInt]; omega
    rw [w100_274]; simp +decide only [w100_276, w100_279, ↓reduceIte, h1]
    refine W_fa 29 rfl ?_
    exact K z
  | succ m ih =>
    intro z c j hj h0
    have h1 : j < 128 := by rw [lt32]; simp only [Int32.reduceToInt]; omega
    have h2 : (j + 1).toInt = j.toInt + 1 := ia (by simp only [Int32.reduceToInt]; omega) (by simp only [Int32.reduceToInt]; omega)
    rw [w100_274]
    by_cases q : z < 0
    rotate_left
    · simp +decide only [w100_276, w100_279, w100_282, w100_284, ↓reduceIte, h1, q]
      refine W_fa 29 rfl ?_
      exact K z
    cases ep : pr s j with
    | false =>
      simp +decide only [w100_276, w100_279, w100_282, w100_284, w100_287, w100_288, w100_290, w100_293, w100_311, w100_314, isO_put, Option.toList_some, List.cons_append, List.nil_append, true_and, and_true, ↓reduceIte, h1, q, t5, ep, bz]
      exact ih z c (j + 1) (by omega) (by omega)
    | true =>
      by_cases q2 : c = 0
      · have q2' := eq_true q2
        simp +decide only [w100_276, w100_279, w100_282, w100_284, w100_287, w100_288, w100_290, w100_293, w100_296, w100_298, w100_301, w100_303i, w100_305, w100_311, w100_314, isO_put, Option.toList_some, List.cons_append, List.nil_append, true_and, and_true, ↓reduceIte, h1, q, t5, ep, bz, q2']
        exact ih j c (j + 1) (by omega) (by omega)
      · simp +decide only [w100_276, w100_279, w100_282, w100_284, w100_287, w100_288, w100_290, w100_293, w100_296, w100_298, w100_308, w100_311, w100_314, isO_put, Option.toList_some, List.cons_append, List.nil_append, true_and, and_true, ↓reduceIte, h1, q, t5, ep, bz, q2]
        exact ih z _ (j + 1) (by omega) (by omega)
theorem md3 (hy : 0 < y.toInt ∧ y.toInt ≤ 1000) : 0 ≤ (if x % y < 0 then x % y + y else x % y).toInt ∧ (if x % y < 0 then x % y + y else x % y).toInt < y.toInt := by
  have e : (x % y).toInt = x.toInt.tmod y.toInt := Int32.toInt_mod ..
  have h1 : x.toInt.tmod y.toInt < y.toInt := Int.tmod_lt_of_pos _ hy.1
  have h2 : -y.toInt < x.toInt.tmod y.toInt := by
    have := Int.lt_tmod_of_pos x.toInt hy.1
    omega
  split
  · rename_i q; rw [lt32] at q; simp only [Int32.reduceToInt] at q
    rw [ia (by omega) (by omega)]; omega
  · rename_i q; rw [lt32] at q; simp only [Int32.reduceToInt] at q; omega
theorem s102 {G : AH} {len : Nat} {f : Nat → Int32} (y1 : (isA G a = true) = True) (y2 : alen G a = len) (y3 : ∀ i, (inA G a .int i = true) = (0 ≤ i.toInt ∧ i.toInt < len)) (y4 : ∀ i, elt G a i = .int (f i.toNatClampNeg)) (hl : len ≤ 260) (hk : 0 ≤ x.toInt)
    (hq : ∀ z, Q (some (.int z)) G) : Cl (pj lw) 102 [.ref a, .int x] G Q := by
  have hlen : (len.toInt32).toInt = len := len32 (by omega)
  rw [c102]
  by_cases h : x < len.toInt32
  · have h' := h; rw [lt32, hlen] at h'
    have b : 0 ≤ x.toInt ∧ x.toInt < len := ⟨hk, h'⟩
    simp +decide only [w102_0, w102_1, w102_2, w102_3, w102_6, w102_7, w102_8, w102_9, w102_13, true_and, and_true, ↓reduceIte, y1, y2, y3, y4, h, b]; exact hq _
  · simp +decide only [w102_0, w102_1, w102_2, w102_3, w102_12, w102_13, true_and, ↓reduceIte, y1, y2, h]; exact hq _
set_option maxRecDepth 100000 in
set_option maxHeartbeats 2000000 in
theorem opr {T : Nat} (hL : LI nn T s) (hn : 2 ≤ nn.toInt ∧ nn.toInt ≤ 9) (hT : T < 100)
    (K : ∀ s' okv, ((okv = 1 ∧ TX s s' ∧ LI nn (T + 1) s') ∨ (okv = 0 ∧ s' = s)) → W (pj lw) 100 347 [.val (.ref a), .val (.int nn), .val (.ref p), .val (.long o1), .second, .val (.long o2), .second, .val (.long o3), .second, .val (.long o4), .second, .val (.long o5), .second, .val (.long o6), .second, .val (.int q1), .val (.int q2), .val (.int q3), .val (.int q4), .val (.int q5), .val (.int i), .val (.int 1), .val (.int okv), .unset, .unset, .unset, .unset, .unset, .unset, .unset, .unset, .unset, .unset, .unset, .unset, .unset, .unset, .unset, .unset, .unset, .unset, .unset, .unset, .unset, .unset, .unset, .unset, .unset, .unset, .unset, .unset, .unset] [] k n (ob H p s') Q) :
    W (pj lw) 100 129 [.val (.ref a), .val (.int nn), .val (.ref p), .val (.long o1), .second, .val (.long o2), .second, .val (.long o3), .second, .val (.long o4), .second, .val (.long o5), .second, .val (.long o6), .second, .val (.int q1), .val (.int q2), .val (.int q3), .val (.int q4), .val (.int q5), .val (.int i), .val (.int 1), .val (.int 1), .val (.int x), .val (.int y), .val (.int u), .val (.int v), .unset, .unset, .unset, .unset, .unset, .unset, .unset, .unset, .unset, .unset, .unset, .unset, .unset, .unset, .unset, .unset, .unset, .unset, .unset, .unset, .unset, .unset, .unset, .unset, .unset] [] k n (ob H p s) Q := by
  have hI := hL.1.1.1
  have n0 : ¬ nn = 0 := by rw [eq32]; simp only [Int32.reduceToInt]; omega
  have q3n := fun x H Q => s103 (x := x) (y := nn) (H := H) (Q := Q) n0
  have q32 := fun x H Q => s103 (x := x) (y := 2) (H := H) (Q := Q) (by decide)
  have q33 := fun x H Q => s103 (x := x) (y := 3) (H := H) (Q := Q) (by decide)
  have q35 := fun x H Q => s103 (x := x) (y := 5) (H := H) (Q := Q) (by decide)
  have q36 := fun x H Q => s103 (x := x) (y := 136) (H := H) (Q := Q) (by decide)
  have nn' : (sI s 0).toInt = nn.toInt := by rw [hL.1.2.2]
  by_cases c1 : 2 < x
  rotate_left
  · simp +decide only [w100_129, w100_131, w100_132, w100_135, w100_136, w100_138, w100_139, w100_142, w100_144, w100_145, w100_148, w100_150, w100_153, isO_put, cs_nil, cs_int, cs_ref, Option.toList_some, List.cons_append, List.nil_append, true_and, and_true, ↓reduceIte, Nat.reduceAdd, Nat.reduceLeDiff, Int32.reduceAdd, Int64.reduceAdd, Nat.add_zero, c1, q3n, s104]
    have r1 := md3 (x := y) (y := nn) (by omega)
    have r2 := md3 (x := u) (y := nn) (by omega)
    generalize (if y % nn < 0 then y % nn + nn else y % nn) = y' at *
    generalize (if u % nn < 0 then u % nn + nn else u % nn) = u' at *
    have vy : vv s y' = true := vv_t (by rw [nn']; exact r1) (by rw [nn']; omega)
    have vu : vv s u' = true := vv_t (by rw [nn']; exact r2) (by rw [nn']; omega)
    by_cases e3 : y' = u'
    · subst e3
      refine t2l vy ?_
      simp +decide only [w100_156, w100_163, w100_164i, w100_166, Option.toList_some, List.cons_append, List.nil_append, ↓reduceIte]
      refine W_fa 23 rfl ?_
      exact K s 0 (Or.inr ⟨rfl, rfl⟩)
    · obtain ⟨f, hf, f1, f2⟩ := low (g := fun j => sA s 4 j = 0) (T := T) (hL.2 T (Nat.le_refl _))
      have f7 : f < 128 := by omega
      refine t2 f7 f1 f2 vy vu e3 hI.1 hI.2.1 hI.2.2.1 ?_
      have hF : (Int32.ofNat f).toInt = f := Int32.toInt_ofNat_of_lt (by omega)
      have c2' : ¬ Int32.ofNat f < 0 := by rw [lt32, hF]; simp only [Int32.reduceToInt]; omega
      simp +decide only [w100_156, w100_159, w100_160, w100_164i, w100_166, Option.toList_some, List.cons_append, List.nil_append, ↓reduceIte, c2']
      refine W_fa 23 rfl ?_
      exact K _ 1 (Or.inl ⟨rfl, ad_TX hI f7 f1 (vv_rg vy).1 (vv_rg vu).1 e3, hL.ad hf hT f1 vy vu e3⟩)
  by_cases c2 : x = 3
  · have c2' := eq_true c2
    by_cases c3 : (if y % 2 < 0 then y % 2 + 2 else y % 2) = 0
    · simp +decide only [w100_129, w100_131, w100_132, w100_169, w100_171, w100_172, w100_175, w100_176, w100_178, w100_179, cs_nil, cs_ref, Option.toList_some, List.cons_append, List.nil_append, true_and, ↓reduceIte, Nat.reduceAdd, Nat.reduceLeDiff, Int32.reduceAdd, Int64.reduceAdd, Nat.add_zero, c1, c2', q32]
      generalize (if y % 2 < 0 then y % 2 + 2 else y % 2) = y2 at *
      have c3' := eq_true c3
      simp +decide only [w100_182, w100_185, w100_186, w100_197, w100_199, w100_200, w100_203, w100_205, w100_208, isO_put, cs_nil, cs_int, cs_ref, Option.toList_some, List.cons_append, List.nil_append, true_and, and_true, ↓reduceIte, Nat.reduceAdd, Nat.reduceLeDiff, Int32.reduceAdd, Int64.reduceAdd, Nat.add_zero, c3', q3n, s104]
      refine t2n (Or.inl (by unfold vv; simp)) ?_
      simp +decide only [w100_211, w100_218, w100_219i, w100_221, Option.toList_some, List.cons_append, List.nil_append, ↓reduceIte]
      refine W_fa 23 rfl ?_
      exact K s 0 (Or.inr ⟨rfl, rfl⟩)
    · simp +decide only [w100_129, w100_131, w100_132, w100_169, w100_171, w100_172, w100_175, w100_176, w100_178, w100_179, cs_nil, cs_ref, Option.toList_some, List.cons_append, List.nil_append, true_and, ↓reduceIte, Nat.reduceAdd, Nat.reduceLeDiff, Int32.reduceAdd, Int64.reduceAdd, Nat.add_zero, c1, c2', q32]
      generalize (if y % 2 < 0 then y % 2 + 2 else y % 2) = y2 at *
      simp +decide only [w100_182, w100_189, w100_190, w100_192, w100_193, w100_196, w100_197, w100_199, w100_200, w100_203, w100_205, w100_208, isO_put, cs_nil, cs_int, cs_ref, Option.toList_some, List.cons_append, List.nil_append, true_and, and_true, ↓reduceIte, Nat.reduceAdd, Nat.reduceLeDiff, Int32.reduceAdd, Int64.reduceAdd, Nat.add_zero, c3, q3n, q33, s104]
      have r1 := md3 (x := y) (y := 3) (by decide)
      generalize (if y % 3 < 0 then y % 3 + 3 else y % 3) = y' at *
      simp only [Int32.reduceToInt] at r1
      have e4 : (nn + y').toInt = nn.toInt + y'.toInt := ia (by omega) (by omega)
      refine t2n (Or.inl ?_) ?_
      · cases q : vv s (nn + y') with
        | false => rfl
        | true => have := (vv_rg q).1; omega
      simp +decide only [w100_211, w100_218, w100_219i, w100_221, Option.toList_some, List.cons_append, List.nil_append, ↓reduceIte]
      refine W_fa 23 rfl ?_
      exact K s 0 (Or.inr ⟨rfl, rfl⟩)
  simp +decide only [w100_129, w100_131, w100_132, w100_169, w100_171, w100_172, w100_224, w100_225, w100_228, w100_230, w100_231, isO_put, Option.toList_some, List.cons_append, List.nil_append, true_and, and_true, ↓reduceIte, c1, c2, t9]
  have KK : ∀ z : Int32, W (pj lw) 100 317 [.val (.ref a), .val (.int nn), .val (.ref p), .val (.long o1), .second, .val (.long o2), .second, .val (.long o3), .second, .val (.long o4), .second, .val (.long o5), .second, .val (.long o6), .second, .val (.int q1), .val (.int q2), .val (.int q3), .val (.int q4), .val (.int q5), .val (.int i), .val (.int 1), .val (.int 1), .val (.int x), .val (.int y), .val (.int u), .val (.int v), .val (.int (sI s 12)), .val (.int z), .unset, .unset, .unset, .unset, .unset, .unset, .unset, .unset, .unset, .unset, .unset, .unset, .unset, .unset, .unset, .unset, .unset, .unset, .unset, .unset, .unset, .unset, .unset] [] k n (ob H p s) Q := fun z => by
    by_cases c4 : 5 < x
    · simp +decide only [w100_317, w100_319, w100_320, w100_334, w100_335, w100_337, w100_339, w100_342, isO_put, cs_nil, cs_int, cs_ref, Option.toList_some, List.cons_append, List.nil_append, true_and, and_true, ↓reduceIte, Nat.reduceAdd, Nat.reduceLeDiff, Int32.reduceAdd, Int64.reduceAdd, Nat.add_zero, c4, s104]
      refine t4 hI.1 hI.2.1 hI.2.2.1 ?_
      simp +decide only [w100_345i, Option.toList_some, List.cons_append, List.nil_append]
      refine W_fa 23 rfl ?_
      cases ep : pr s z with
      | false =>
        have e : swS s z (wgt v) = s := by unfold swS; rw [ep]; rfl
        rw [e]; exact K s 0 (Or.inr ⟨rfl, rfl⟩)
      | true => exact K _ 1 (Or.inl ⟨rfl, sw_TX hI ep, hL.sw⟩)
    · simp +decide only [w100_317, w100_319, w100_320, w100_323, w100_324, w100_326, isO_put, true_and, and_true, ↓reduceIte, c4]
      refine t3 hI.1 hI.2.1 hI.2.2.1 ?_
      simp +decide only [w100_329i, w100_331, Option.toList_some, List.cons_append, List.nil_append]
      refine W_fa 23 rfl ?_
      cases ep : pr s z with
      | false =>
        have e : rmS s z = s := by unfold rmS; rw [ep]; rfl
        rw [e]; exact K s 0 (Or.inr ⟨rfl, rfl⟩)
      | true => exact K _ 1 (Or.inl ⟨rfl, rm_TX hI ep, hL.rm⟩)
  by_cases c5 : 0 < sI s 12
  · by_cases c6 : (if u % 5 < 0 then u % 5 + 5 else u % 5) = 0
    · simp +decide only [w100_233, w100_235, w100_238, w100_240, w100_241, Option.toList_some, List.cons_append, List.nil_append, true_and, ↓reduceIte, c5, q35]
      generalize (if u % 5 < 0 then u % 5 + 5 else u % 5) = y2 at *
      have c6' := eq_true c6
      simp +decide only [w100_244, w100_247, w100_249, w100_252, w100_255, w100_256, w100_257i, w100_259, Option.toList_some, List.cons_append, List.nil_append, true_and, ↓reduceIte, c6', q36]
      exact KK _
    · simp +decide only [w100_233, w100_235, w100_238, w100_240, w100_241, Option.toList_some, List.cons_append, List.nil_append, true_and, ↓reduceIte, c5, q35]
      generalize (if u % 5 < 0 then u % 5 + 5 else u % 5) = y2 at *
      have c0 : ¬ sI s 12 = 0 := fun w => by rw [w] at c5; exact absurd c5 (by decide)
      have q3c := fun x H Q => s103 (x := x) (y := sI s 12) (H := H) (Q := Q) c0
      simp +decide only [w100_244, w100_262, w100_264, w100_266, w100_269, w100_271, w100_272, Option.toList_some, List.cons_append, List.nil_append, true_and, ↓reduceIte, c6, q3c]
      exact l274 KK 128 (-1) _ 0 (by decide) (by decide)
  · simp +decide only [w100_233, w100_235, w100_247, w100_249, w100_252, w100_255, w100_256, w100_257i, w100_259, Option.toList_some, List.cons_append, List.nil_append, true_and, ↓reduceIte, c5, q36]
    exact KK _
set_option maxRecDepth 100000 in
set_option maxHeartbeats 2000000 in
theorem lp {len : Nat} {f : Nat → Int32} (y1 : ∀ s, (isA (ob H p s) a = true) = True) (y2 : ∀ s, alen (ob H p s) a = len) (y3 : ∀ s i, (inA (ob H p s) a .int i = true) = (0 ≤ i.toInt ∧ i.toInt < len)) (y4 : ∀ s i, elt (ob H p s) a i = .int (f i.toNatClampNeg)) (hl : len ≤ 260) (hn : 2 ≤ nn.toInt ∧ nn.toInt ≤ 9) (m : Nat) :
    ∀ (T : Nat) (i : Int32) (s : St) (o1 o2 o3 o4 o5 o6 : Int64) (q1 q2 q3 q4 q5 : Int32), LI nn T s → i.toInt = 4 * (T : Int) - 3 →
    (T = 0 ∨ (PV s o1 o2 o3 o4 o5 ∧ o6 = sJ s 14 ∧ q1 = sI s 12 ∧ q2 = nn - sI s 13 ∧ q3 = sI s 13 ∧ q4 = sI s 15 ∧ q5 = sI s 16)) → len ≤ i.toInt + m → 4 * T ≤ 270 →
    W (pj lw) 100 58 [.val (.ref a), .val (.int nn), .val (.ref p), .val (.long o1), .second, .val (.long o2), .second, .val (.long o3), .second, .val (.long o4), .second, .val (.long o5), .second, .val (.long o6), .second, .val (.int q1), .val (.int q2), .val (.int q3), .val (.int q4), .val (.int q5), .val (.int i), .unset, .unset, .unset, .unset, .unset, .unset, .unset, .unset, .unset, .unset, .unset, .unset, .unset, .unset, .unset, .unset, .unset, .unset, .unset, .unset, .unset, .unset, .unset, .unset, .unset, .unset, .unset, .unset, .unset, .unset, .unset] [] k n (ob H p s) (fun v _ => v = some (.int 1)) := by
  have hlen : (len.toInt32).toInt = len := len32 (by omega)
  induction m with
  | zero =>
    intro T i s o1 o2 o3 o4 o5 o6 q1 q2 q3 q4 q5 hL hi hO hm hT
    have h1 : ¬ i < len.toInt32 := by rw [lt32, hlen]; omega
    rw [w100_58]; simp +decide only [w100_60, w100_61, w100_62, w100_1443, w100_1444, and_true, ↓reduceIte, y1, y2, h1]
  | succ m ih =>
    intro T i s o1 o2 o3 o4 o5 o6 q1 q2 q3 q4 q5 hL hi hO hm hT
    by_cases h1 : i < len.toInt32
    rotate_left
    · rw [w100_58]; simp +decide only [w100_60, w100_61, w100_62, w100_1443, w100_1444, and_true, ↓reduceIte, y1, y2, h1]
    have h1' := h1
    rw [lt32, hlen] at h1'
    have h4 : (i + 4).toInt = i.toInt + 4 := ia (by simp only [Int32.reduceToInt]; omega) (by simp only [Int32.reduceToInt]; omega)
    rw [w100_58]
    have N : ∀ s' s2 a1 a2 b1 b2 g1, LI nn (T + 1) s' → Sr s' s2 → PV s' a1 a2 b1 b2 g1 → W (pj lw) 100 58 [.val (.ref a), .val (.int nn), .val (.ref p), .val (.long a1), .second, .val (.long a2), .second, .val (.long b1), .second, .val (.long b2), .second, .val (.long g1), .second, .val (.long (sJ s' 14)), .second, .val (.int (sI s' 12)), .val (.int (nn - sI s' 13)), .val (.int (sI s' 13)), .val (.int (sI s' 15)), .val (.int (sI s' 16)), .val (.int (i + 4)), .unset, .unset, .unset, .unset, .unset, .unset, .unset, .unset, .unset, .unset, .unset, .unset, .unset, .unset, .unset, .unset, .unset, .unset, .unset, .unset, .unset, .unset, .unset, .unset, .unset, .unset, .unset, .unset, .unset, .unset, .unset] [] k n (ob H p s2) (fun v _ => v = some (.int 1)) := fun s' s2 a1 a2 b1 b2 g1 hL' hS hP => by
      refine ih (T + 1) (i + 4) s2 a1 a2 b1 b2 g1 _ _ _ _ _ _ (hL'.sr hS) (by omega) (Or.inr ⟨⟨fun j hj => ?_, fun j hj => ?_, ?_⟩, ?_, ?_, ?_, ?_, ?_, ?_⟩) (by omega) (by omega)
      · rw [hS.ar (by decide)]; exact hP.1 j hj
      · rw [hS.ar (by decide)]; exact hP.2.1 j hj
      · rw [hS.fp]; exact hP.2.2
      · rw [hS.2.1]
      · rw [hS.1]
      · rw [hS.1]
      · rw [hS.1]
      · rw [hS.1]
      · rw [hS.1]
    by_cases c : i < 1
    · simp +decide only [w100_60, w100_61, w100_62, w100_65, w100_67, w100_68, w100_75, w100_76, w100_78, w100_79, w100_81, w100_83, true_and, ↓reduceIte, y1, y2, h1, c]
      refine chk hL.1.1 hL.1.2.1 hL.1.2.2 fun s2 a1 a2 b1 b2 c1 c2 g1 g2 hS hP => ?_
      exact fin0 (N s s2 a1 a2 b1 b2 g1 hL.mono hS hP)
    · have c' := c
      rw [lt32] at c'; simp only [Int32.reduceToInt] at c'
      have hO' := hO.resolve_left (by omega)
      have r1 : (i + 1).toInt = i.toInt + 1 := ia (by simp only [Int32.reduceToInt]; omega) (by simp only [Int32.reduceToInt]; omega)
      have r2 : (i + 2).toInt = i.toInt + 2 := ia (by simp only [Int32.reduceToInt]; omega) (by simp only [Int32.reduceToInt]; omega)
      have r3 : (i + 3).toInt = i.toInt + 3 := ia (by simp only [Int32.reduceToInt]; omega) (by simp only [Int32.reduceToInt]; omega)
      have q38 := fun x H Q => s103 (x := x) (y := 8) (H := H) (Q := Q) (by decide)
      simp +decide only [w100_60, w100_61, w100_62, w100_65, w100_67, w100_68, w100_71, w100_72, w100_76, w100_78, w100_79, w100_81, w100_83, w100_86, w100_87, w100_89, true_and, ↓reduceIte, y1, y2, h1, c]
      refine s102 (y1 s) (y2 s) (y3 s) (y4 s) hl (by omega) fun x => ?_
      simp +decide only [w100_92, w100_94, w100_97, w100_99, w100_100, w100_102, w100_103, w100_104, Option.toList_some, List.cons_append, List.nil_append, true_and, q38]
      refine s102 (y1 s) (y2 s) (y3 s) (y4 s) hl (by omega) fun y => ?_
      simp +decide only [w100_107, w100_109, w100_110, w100_112, w100_113, w100_114, Option.toList_some, List.cons_append, List.nil_append, true_and]
      refine s102 (y1 s) (y2 s) (y3 s) (y4 s) hl (by omega) fun u => ?_
      simp +decide only [w100_117, w100_119, w100_120, w100_122, w100_123, w100_124, Option.toList_some, List.cons_append, List.nil_append, true_and]
      refine s102 (y1 s) (y2 s) (y3 s) (y4 s) hl (by omega) fun v => ?_
      simp +decide only [w100_127, Option.toList_some, List.cons_append, List.nil_append]
      refine opr hL hn (by omega) fun s' okv hk => ?_
      rcases hk with ⟨rfl, hX, hL'⟩ | ⟨rfl, rfl⟩
      · refine chk hL'.1.1 hL'.1.2.1 hL'.1.2.2 fun s2 a1 a2 b1 b2 c1 c2 g1 g2 hS hP => ?_
        exact fin1 hX hO'.1.1 hP (N s' s2 a1 a2 b1 b2 g1 hL' hS hP)
      · refine chk hL.1.1 hL.1.2.1 hL.1.2.2 fun s2 a1 a2 b1 b2 c1 c2 g1 g2 hS hP => ?_
        exact fin2 hO'.1 hP hO'.2.1 hO'.2.2.1 hO'.2.2.2.1 hO'.2.2.2.2.1 hO'.2.2.2.2.2.1 hO'.2.2.2.2.2.2 (N _ s2 a1 a2 b1 b2 g1 hL.mono hS hP)
set_option maxRecDepth 100000 in
set_option maxHeartbeats 2000000 in
theorem law_ok (N a len : Nat) (f : Nat → Int32) (ha : a < N) (hl : len ≤ 260) : Cl (pj lw) 100 [.ref a] (H1 N a len f) (fun v _ => v = some (.int 1)) := by
  have e1 : (H1 N a len f).1 = N := rfl
  have z1 : (isA (H1 N a len f) a = true) = True := eq_true isA_H1
  rw [c100]
  simp +decide only [w100_0, w100_1, w100_2, w100_3, true_and]
  refine s102 z1 alen_H1 (fun i => propext inA_H1) (fun i => elt_H1) hl (by decide) fun x => ?_
  have q38 := fun H Q => s103 (x := x) (y := 8) (H := H) (Q := Q) (by decide)
  have r := md3 (x := x) (y := 8) (by decide)
  simp +decide only [w100_6, w100_8, Option.toList_some, List.cons_append, List.nil_append, true_and, q38]
  generalize (if x % 8 < 0 then x % 8 + 8 else x % 8) = z at *
  simp only [Int32.reduceToInt] at r
  have hz : (2 + z).toInt = 2 + z.toInt := ia (by simp only [Int32.reduceToInt]; omega) (by simp only [Int32.reduceToInt]; omega)
  have hn : 2 ≤ (2 + z).toInt ∧ (2 + z).toInt ≤ 9 := by omega
  have cz : cl 2 32 (2 + z) = 2 + z := by
    unfold cl; rw [if_neg (by rw [lt32]; simp only [Int32.reduceToInt]; omega), if_neg (by rw [lt32]; simp only [Int32.reduceToInt]; omega)]
  obtain ⟨I1, a4, a3, a5, i0, i12, i13, j14, i15, i16⟩ := Iv_ini (a := 2 + z) (by rw [cz]; omega)
  rw [cz] at i0
  have hL : LI (2 + z) 0 (ini0 (2 + z)) := ⟨⟨ini_J, ini_CW, i0⟩, fun j _ => a4 j⟩
  have y1 : ∀ s, (isA (ob (H1 (N + 12) a len f) N s) a = true) = True := fun s => (sc1 ha).1
  have y2 : ∀ s, alen (ob (H1 (N + 12) a len f) N s) a = len := fun s => (sc1 ha).2.1
  have y3 : ∀ s i, (inA (ob (H1 (N + 12) a len f) N s) a .int i = true) = (0 ≤ i.toInt ∧ i.toInt < len) := fun s => (sc1 ha).2.2.1
  have y4 : ∀ s i, elt (ob (H1 (N + 12) a len f) N s) a i = .int (f i.toNatClampNeg) := fun s => (sc1 ha).2.2.2
  have L := fun k n => lp (k := k) (n := n) y1 y2 y3 y4 hl hn (len + 3) 0 (-3) (ini0 (2 + z)) 0 0 0 0 0 0 0 0 0 0 0 hL (by decide) (Or.inl rfl) (by simp only [Int32.reduceToInt]; omega) (by decide)
  simp +decide only [w100_11, w100_12, w100_13, w100_16, w100_17, w100_18, w100_21, w100_22, w100_23uu, w100_24, w100_25uu, w100_27, w100_28uu, w100_30, w100_31uu, w100_33, w100_34uu, w100_36, w100_37uu, w100_39, w100_40, w100_42, w100_43, w100_45, w100_46, w100_48, w100_49, w100_51, w100_52, w100_54, w100_56, isO_put, cs_nil, cs_ref, Option.toList_none, List.nil_append, true_and, and_true, Nat.reduceAdd, Nat.reduceLeDiff, Int32.reduceAdd, Int64.reduceAdd, Nat.add_zero, Nat.zero_add, mkO_ob, e1, t1]
  simp only [H1_c]
  exact L _ _
end X2

end Jvm.JX.Lw
namespace Jvm.Pilot.@@N@@
open Jvm Jvm.ClassFile Sem Op Lib Jvm.Free Jvm.Stand Jvm.LawKit Jvm.RoadKit Bundle Jvm.Pilot.@@N@@.Jvm.D Jvm.JX Jvm.JX.Pj Jvm.JX.Lw
def nmL : List (Nat × MethodName) := [(1, ⟨"DynamicMinForest", "<init>", "(I)V"⟩), (2, ⟨"DynamicMinForest", "addEdge", "(III)I"⟩), (3, ⟨"DynamicMinForest", "removeEdge", "(I)Z"⟩), (4, ⟨"DynamicMinForest", "setWeight", "(II)Z"⟩), (5, ⟨"DynamicMinForest", "isPresent", "(I)Z"⟩), (6, ⟨"DynamicMinForest", "isTreeEdge", "(I)Z"⟩), (7, ⟨"DynamicMinForest", "edgeEnd", "(II)I"⟩), (8, ⟨"DynamicMinForest", "edgeWeight", "(I)I"⟩), (9, ⟨"DynamicMinForest", "edgeCount", "()I"⟩), (10, ⟨"DynamicMinForest", "forestWeight", "()J"⟩), (11, ⟨"DynamicMinForest", "forestEdgeCount", "()I"⟩), (12, ⟨"DynamicMinForest", "componentCount", "()I"⟩), (13, ⟨"DynamicMinForest", "componentMin", "(I)I"⟩), (14, ⟨"DynamicMinForest", "pathMaxEdge", "(II)I"⟩), (15, ⟨"DynamicMinForest", "replacementFor", "(I)I"⟩), (16, ⟨"DynamicMinForest", "lastEntered", "()I"⟩), (17, ⟨"DynamicMinForest", "lastLeft", "()I"⟩), (18, ⟨"DynamicMinForest", "insertUpdate", "(I)V"⟩), (19, ⟨"DynamicMinForest", "cutTreeEdge", "(I)V"⟩), (20, ⟨"DynamicMinForest", "reweightTreeEdge", "(II)V"⟩), (21, ⟨"DynamicMinForest", "setLast", "(II)V"⟩), (22, ⟨"DynamicMinForest", "lowestFreeSlot", "()I"⟩), (23, ⟨"DynamicMinForest", "storeEdge", "(IIII)V"⟩), (24, ⟨"DynamicMinForest", "freeSlot", "(I)V"⟩), (25, ⟨"DynamicMinForest", "joinTree", "(I)V"⟩), (26, ⟨"DynamicMinForest", "leaveTree", "(I)V"⟩), (27, ⟨"DynamicMinForest", "addAdjacent", "(II)V"⟩), (28, ⟨"DynamicMinForest", "removeAdjacent", "(II)V"⟩), (29, ⟨"DynamicMinForest", "resetSearch", "()V"⟩), (30, ⟨"DynamicMinForest", "explore", "(II)I"⟩), (31, ⟨"DynamicMinForest", "visitNeighbours", "(III)I"⟩), (32, ⟨"DynamicMinForest", "heaviestOnPathTo", "(I)I"⟩), (33, ⟨"DynamicMinForest", "lightestCrossing", "()I"⟩), (34, ⟨"DynamicMinForest", "crosses", "(I)Z"⟩), (35, ⟨"DynamicMinForest", "otherEnd", "(II)I"⟩), (36, ⟨"DynamicMinForest", "precedes", "(II)Z"⟩), (37, ⟨"DynamicMinForest", "lighter", "(II)I"⟩), (38, ⟨"DynamicMinForest", "heavier", "(II)I"⟩), (39, ⟨"DynamicMinForest", "validVertex", "(I)Z"⟩), (40, ⟨"DynamicMinForest", "validId", "(I)Z"⟩), (41, ⟨"DynamicMinForest", "clampWeight", "(I)I"⟩), (100, ⟨"DynamicMinForestOwnLaw", "law", "([I)Z"⟩), (102, ⟨"DynamicMinForestOwnLaw", "cell", "([II)I"⟩), (103, ⟨"DynamicMinForestOwnLaw", "mod", "(II)I"⟩), (104, ⟨"DynamicMinForestOwnLaw", "weight", "(I)I"⟩), (105, ⟨"DynamicMinForestOwnLaw", "precedes", "(IIII)Z"⟩), (106, ⟨"DynamicMinForestOwnLaw", "has", "(JJI)Z"⟩)]
def nm (m : Nat) : MethodName := (nmL.lookup m).getD ⟨"", "", ""⟩
def btL : List (Nat × ByteArray) := [(1, prog_1_method_1_code), (2, prog_1_method_2_code), (3, prog_1_method_3_code), (4, prog_1_method_4_code), (5, prog_1_method_5_code), (6, prog_1_method_6_code), (7, prog_1_method_7_code), (8, prog_1_method_8_code), (9, prog_1_method_9_code), (10, prog_1_method_10_code), (11, prog_1_method_11_code), (12, prog_1_method_12_code), (13, prog_1_method_13_code), (14, prog_1_method_14_code), (15, prog_1_method_15_code), (16, prog_1_method_16_code), (17, prog_1_method_17_code), (18, prog_1_method_18_code), (19, prog_1_method_19_code), (20, prog_1_method_20_code), (21, prog_1_method_21_code), (22, prog_1_method_22_code), (23, prog_1_method_23_code), (24, prog_1_method_24_code), (25, prog_1_method_25_code), (26, prog_1_method_26_code), (27, prog_1_method_27_code), (28, prog_1_method_28_code), (29, prog_1_method_29_code), (30, prog_1_method_30_code), (31, prog_1_method_31_code), (32, prog_1_method_32_code), (33, prog_1_method_33_code), (34, prog_1_method_34_code), (35, prog_1_method_35_code), (36, prog_1_method_36_code), (37, prog_1_method_37_code), (38, prog_1_method_38_code), (39, prog_1_method_39_code), (40, prog_1_method_40_code), (41, prog_1_method_41_code), (100, code), (102, method_2_code), (103, method_3_code), (104, method_4_code), (105, method_5_code), (106, method_6_code)]
def bt (m : Nat) : ByteArray := (btL.lookup m).getD ⟨#[]⟩
def fnL : List (String × String) := [("n", "I"), ("endA", "[I"), ("endB", "[I"), ("weight", "[I"), ("used", "[Z"), ("inTree", "[Z"), ("adj", "[I"), ("deg", "[I"), ("seen", "[Z"), ("parentEdge", "[I"), ("parentVertex", "[I"), ("queue", "[I"), ("presentCount", "I"), ("treeCount", "I"), ("treeWeight", "J"), ("entered", "I"), ("left", "I")]
def fn (k : Nat) : String × String := fnL.getD k ("", "")
def RL : List Nat := [1, 2, 3, 4, 5, 6, 7, 8, 9, 10, 11, 12, 13, 14, 15, 16, 17, 18, 19, 20, 21, 22, 23, 24, 25, 26, 27, 28, 29, 30, 31, 32, 33, 34, 35, 36, 37, 38, 39, 40, 41, 100, 102, 103, 104, 105, 106]
def FS : List Nat := [0, 1, 2, 3, 4, 5, 6, 7, 8, 9, 10, 11, 12, 13, 14, 15, 16]
def WF : List Nat := [0, 1, 2, 3, 4, 5, 6, 7, 8, 9, 10, 11, 12, 13, 14, 15, 16]
def FL : List (Nat × Nat × Nat) := [(0, 7, 1), (0, 13, 2), (0, 16, 3), (0, 19, 4), (0, 23, 5), (0, 26, 6), (0, 29, 7), (0, 32, 8), (0, 35, 9), (0, 38, 10), (0, 41, 11), (0, 44, 0), (0, 48, 12), (0, 51, 13), (0, 54, 14), (0, 58, 15), (0, 61, 16)]
def ML : List (Nat × Nat × Nat) := [(0, 64, 29), (0, 67, 39), (0, 71, 22), (0, 75, 41), (0, 79, 23), (0, 83, 18), (0, 87, 5), (0, 90, 24), (0, 93, 21), (0, 97, 19), (0, 100, 20), (0, 103, 40), (0, 106, 30), (0, 110, 32), (0, 113, 6), (0, 116, 33), (0, 119, 25), (0, 122, 36), (0, 126, 26), (0, 129, 27), (0, 132, 28), (0, 135, 31), (0, 139, 35), (0, 142, 38), (0, 145, 34), (0, 148, 37), (1, 15, 102), (1, 7, 103), (1, 21, 1), (1, 24, 104), (1, 28, 2), (1, 32, 9), (1, 36, 5), (1, 40, 3), (1, 43, 4), (1, 47, 6), (1, 50, 7), (1, 53, 8), (1, 62, 105), (1, 66, 14), (1, 69, 15), (1, 72, 10), (1, 76, 11), (1, 79, 12), (1, 82, 13), (1, 85, 16), (1, 88, 17), (1, 91, 106)]
def KI : List (Nat × Nat × Int) := [(0, 151, -1000000), (0, 152, 1000000), (1, 13, 3000000), (1, 14, -3000000)]
def KJ : List (Nat × Nat × Int) := [(1, 56, 1000003), (1, 58, 64), (1, 60, 4194304), (1, 95, -1)]
def ATL : List FieldType := [.boolean, .int]
def cn (j : Nat) : String := if j = 0 then "DynamicMinForest" else "DynamicMinForestOwnLaw"
def own (m : Nat) : Nat := if m < 100 then 0 else 1
def ini (m : Nat) : Bool := m == 1
def rowsOf (m : Nat) : List Jvm.JX.Row := if m < 100 then prows.getD m [] else lrows.getD (m - 100) []
theorem hFL : ∀ t ∈ FL, t.2.2 ∈ FS ∧ Jvm.Cond.fieldLink (cn t.1) t.2.1 "DynamicMinForest" (fn t.2.2).1 (fn t.2.2).2 ∈ tables_1 := (faS ⟨by decide, (List.mem_of_getElem? (i := 17) rfl)⟩ (faS ⟨by decide, (List.mem_of_getElem? (i := 19) rfl)⟩ (faS ⟨by decide, (List.mem_of_getElem? (i := 21) rfl)⟩ (faS ⟨by decide, (List.mem_of_getElem? (i := 24) rfl)⟩ (faS ⟨by decide, (List.mem_of_getElem? (i := 26) rfl)⟩ (faS ⟨by decide, (List.mem_of_getElem? (i := 28) rfl)⟩ (faS ⟨by decide, (List.mem_of_getElem? (i := 30) rfl)⟩ (faS ⟨by decide, (List.mem_of_getElem? (i := 32) rfl)⟩ (faS ⟨by decide, (List.mem_of_getElem? (i := 34) rfl)⟩ (faS ⟨by decide, (List.mem_of_getElem? (i := 36) rfl)⟩ (faS ⟨by decide, (List.mem_of_getElem? (i := 38) rfl)⟩ (faS ⟨by decide, (List.mem_of_getElem? (i := 40) rfl)⟩ (faS ⟨by decide, (List.mem_of_getElem? (i := 42) rfl)⟩ (faS ⟨by decide, (List.mem_of_getElem? (i := 44) rfl)⟩ (faS ⟨by decide, (List.mem_of_getElem? (i := 46) rfl)⟩ (faS ⟨by decide, (List.mem_of_getElem? (i := 48) rfl)⟩ (faS ⟨by decide, (List.mem_of_getElem? (i := 50) rfl)⟩ fa0)))))))))))))))))
theorem hWF : ∀ k ∈ WF, Jvm.Cond.lays "DynamicMinForest" "DynamicMinForest" (fn k).1 (fn k).2 ∈ tables_1 := (faS (List.mem_of_getElem? (i := 41) rfl) (faS (List.mem_of_getElem? (i := 18) rfl) (faS (List.mem_of_getElem? (i := 20) rfl) (faS (List.mem_of_getElem? (i := 22) rfl) (faS (List.mem_of_getElem? (i := 25) rfl) (faS (List.mem_of_getElem? (i := 27) rfl) (faS (List.mem_of_getElem? (i := 29) rfl) (faS (List.mem_of_getElem? (i := 31) rfl) (faS (List.mem_of_getElem? (i := 33) rfl) (faS (List.mem_of_getElem? (i := 35) rfl) (faS (List.mem_of_getElem? (i := 37) rfl) (faS (List.mem_of_getElem? (i := 39) rfl) (faS (List.mem_of_getElem? (i := 43) rfl) (faS (List.mem_of_getElem? (i := 45) rfl) (faS (List.mem_of_getElem? (i := 47) rfl) (faS (List.mem_of_getElem? (i := 49) rfl) (faS (List.mem_of_getElem? (i := 51) rfl) fa0)))))))))))))))))
theorem hML : ∀ t ∈ ML, t.2.2 ∈ RL ∧ Jvm.Cond.methodLink (cn t.1) t.2.1 (nm t.2.2) ∈ tables_1 := (faS ⟨by decide, (List.mem_of_getElem? (i := 52) rfl)⟩ (faS ⟨by decide, (List.mem_of_getElem? (i := 90) rfl)⟩ (faS ⟨by decide, (List.mem_of_getElem? (i := 125) rfl)⟩ (faS ⟨by decide, (List.mem_of_getElem? (i := 129) rfl)⟩ (faS ⟨by decide, (List.mem_of_getElem? (i := 135) rfl)⟩ (faS ⟨by decide, (List.mem_of_getElem? (i := 139) rfl)⟩ (faS ⟨by decide, (List.mem_of_getElem? (i := 160) rfl)⟩ (faS ⟨by decide, (List.mem_of_getElem? (i := 241) rfl)⟩ (faS ⟨by decide, (List.mem_of_getElem? (i := 151) rfl)⟩ (faS ⟨by decide, (List.mem_of_getElem? (i := 237) rfl)⟩ (faS ⟨by decide, (List.mem_of_getElem? (i := 233) rfl)⟩ (faS ⟨by decide, (List.mem_of_getElem? (i := 61) rfl)⟩ (faS ⟨by decide, (List.mem_of_getElem? (i := 94) rfl)⟩ (faS ⟨by decide, (List.mem_of_getElem? (i := 189) rfl)⟩ (faS ⟨by decide, (List.mem_of_getElem? (i := 174) rfl)⟩ (faS ⟨by decide, (List.mem_of_getElem? (i := 175) rfl)⟩ (faS ⟨by decide, (List.mem_of_getElem? (i := 143) rfl)⟩ (faS ⟨by decide, (List.mem_of_getElem? (i := 197) rfl)⟩ (faS ⟨by decide, (List.mem_of_getElem? (i := 201) rfl)⟩ (faS ⟨by decide, (List.mem_of_getElem? (i := 147) rfl)⟩ (faS ⟨by decide, (List.mem_of_getElem? (i := 205) rfl)⟩ (faS ⟨by decide, (List.mem_of_getElem? (i := 98) rfl)⟩ (faS ⟨by decide, (List.mem_of_getElem? (i := 179) rfl)⟩ (faS ⟨by decide, (List.mem_of_getElem? (i := 193) rfl)⟩ (faS ⟨by decide, (List.mem_of_getElem? (i := 214) rfl)⟩ (faS ⟨by decide, (List.mem_of_getElem? (i := 218) rfl)⟩ (faS ⟨by decide, (List.mem_of_getElem? (i := 0) rfl)⟩ (faS ⟨by decide, (List.mem_of_getElem? (i := 4) rfl)⟩ (faS ⟨by decide, (List.mem_of_getElem? (i := 10) rfl)⟩ (faS ⟨by decide, (List.mem_of_getElem? (i := 117) rfl)⟩ (faS ⟨by decide, (List.mem_of_getElem? (i := 120) rfl)⟩ (faS ⟨by decide, (List.mem_of_getElem? (i := 102) rfl)⟩ (faS ⟨by decide, (List.mem_of_getElem? (i := 65) rfl)⟩ (faS ⟨by decide, (List.mem_of_getElem? (i := 223) rfl)⟩ (faS ⟨by decide, (List.mem_of_getElem? (i := 228) rfl)⟩ (faS ⟨by decide, (List.mem_of_getElem? (i := 56) rfl)⟩ (faS ⟨by decide, (List.mem_of_getElem? (i := 155) rfl)⟩ (faS ⟨by decide, (List.mem_of_getElem? (i := 161) rfl)⟩ (faS ⟨by decide, (List.mem_of_getElem? (i := 186) rfl)⟩ (faS ⟨by decide, (List.mem_of_getElem? (i := 209) rfl)⟩ (faS ⟨by decide, (List.mem_of_getElem? (i := 169) rfl)⟩ (faS ⟨by decide, (List.mem_of_getElem? (i := 70) rfl)⟩ (faS ⟨by decide, (List.mem_of_getElem? (i := 75) rfl)⟩ (faS ⟨by decide, (List.mem_of_getElem? (i := 80) rfl)⟩ (faS ⟨by decide, (List.mem_of_getElem? (i := 85) rfl)⟩ (faS ⟨by decide, (List.mem_of_getElem? (i := 107) rfl)⟩ (faS ⟨by decide, (List.mem_of_getElem? (i := 112) rfl)⟩ (faS ⟨by decide, (List.mem_of_getElem? (i := 183) rfl)⟩ fa0))))))))))))))))))))))))))))))))))))))))))))))))
theorem hKI : ∀ t ∈ KI, Jvm.Cond.constant (cn t.1) t.2.1 (Int32.ofInt t.2.2) ∈ tables_1 := (faS (List.mem_of_getElem? (i := 133) rfl) (faS (List.mem_of_getElem? (i := 134) rfl) (faS (List.mem_of_getElem? (i := 245) rfl) (faS (List.mem_of_getElem? (i := 246) rfl) fa0))))
theorem hKJ : ∀ t ∈ KJ, Jvm.Cond.constantLong (cn t.1) t.2.1 (Int64.ofInt t.2.2) ∈ tables_1 := (faS (List.mem_of_getElem? (i := 166) rfl) (faS (List.mem_of_getElem? (i := 167) rfl) (faS (List.mem_of_getElem? (i := 168) rfl) (faS (List.mem_of_getElem? (i := 222) rfl) fa0))))
theorem hAT : ∀ t ∈ ATL, Jvm.Cond.arrayClass t ∈ tables_1 := (faS (List.mem_of_getElem? (i := 23) rfl) (faS (List.mem_of_getElem? (i := 16) rfl) fa0))
theorem hr1x0 : ((rowsOf 1).take 40).all (rowOne FL ML KI KJ ATL WF 17 19 bt own ini 1) = true := by decide +kernel
theorem hr1x1 : (((rowsOf 1).drop 40).take 40).all (rowOne FL ML KI KJ ATL WF 17 19 bt own ini 1) = true := by decide +kernel
theorem hr1x2 : (((rowsOf 1).drop 40).drop 40).all (rowOne FL ML KI KJ ATL WF 17 19 bt own ini 1) = true := by decide +kernel
theorem hr1 : (rowsOf 1).all (rowOne FL ML KI KJ ATL WF 17 19 bt own ini 1) = true := (all_td 40 hr1x0 (all_td 40 hr1x1 hr1x2))
theorem hr2 : (rowsOf 2).all (rowOne FL ML KI KJ ATL WF 17 19 bt own ini 2) = true := by decide +kernel
theorem hr3 : (rowsOf 3).all (rowOne FL ML KI KJ ATL WF 17 19 bt own ini 3) = true := by decide +kernel
theorem hr4 : (rowsOf 4).all (rowOne FL ML KI KJ ATL WF 17 19 bt own ini 4) = true := by decide +kernel
theorem hr5 : (rowsOf 5).all (rowOne FL ML KI KJ ATL WF 17 19 bt own ini 5) = true := by decide +kernel
theorem hr6 : (rowsOf 6).all (rowOne FL ML KI KJ ATL WF 17 19 bt own ini 6) = true := by decide +kernel
theorem hr7 : (rowsOf 7).all (rowOne FL ML KI KJ ATL WF 17 19 bt own ini 7) = true := by decide +kernel
theorem hr8 : (rowsOf 8).all (rowOne FL ML KI KJ ATL WF 17 19 bt own ini 8) = true := by decide +kernel
theorem hr9 : (rowsOf 9).all (rowOne FL ML KI KJ ATL WF 17 19 bt own ini 9) = true := by decide +kernel
theorem hr10 : (rowsOf 10).all (rowOne FL ML KI KJ ATL WF 17 19 bt own ini 10) = true := by decide +kernel
theorem hr11 : (rowsOf 11).all (rowOne FL ML KI KJ ATL WF 17 19 bt own ini 11) = true := by decide +kernel
theorem hr12 : (rowsOf 12).all (rowOne FL ML KI KJ ATL WF 17 19 bt own ini 12) = true := by decide +kernel
theorem hr13 : (rowsOf 13).all (rowOne FL ML KI KJ ATL WF 17 19 bt own ini 13) = true := by decide +kernel
theorem hr14 : (rowsOf 14).all (rowOne FL ML KI KJ ATL WF 17 19 bt own ini 14) = true := by decide +kernel
theorem hr15 : (rowsOf 15).all (rowOne FL ML KI KJ ATL WF 17 19 bt own ini 15) = true := by decide +kernel
theorem hr16 : (rowsOf 16).all (rowOne FL ML KI KJ ATL WF 17 19 bt own ini 16) = true := by decide +kernel
theorem hr17 : (rowsOf 17).all (rowOne FL ML KI KJ ATL WF 17 19 bt own ini 17) = true := by decide +kernel
theorem hr18 : (rowsOf 18).all (rowOne FL ML KI KJ ATL WF 17 19 bt own ini 18) = true := by decide +kernel
theorem hr19 : (rowsOf 19).all (rowOne FL ML KI KJ ATL WF 17 19 bt own ini 19) = true := by decide +kernel
theorem hr20 : (rowsOf 20).all (rowOne FL ML KI KJ ATL WF 17 19 bt own ini 20) = true := by decide +kernel
theorem hr21 : (rowsOf 21).all (rowOne FL ML KI KJ ATL WF 17 19 bt own ini 21) = true := by decide +kernel
theorem hr22 : (rowsOf 22).all (rowOne FL ML KI KJ ATL WF 17 19 bt own ini 22) = true := by decide +kernel
theorem hr23 : (rowsOf 23).all (rowOne FL ML KI KJ ATL WF 17 19 bt own ini 23) = true := by decide +kernel
theorem hr24 : (rowsOf 24).all (rowOne FL ML KI KJ ATL WF 17 19 bt own ini 24) = true := by decide +kernel
theorem hr25 : (rowsOf 25).all (rowOne FL ML KI KJ ATL WF 17 19 bt own ini 25) = true := by decide +kernel
theorem hr26 : (rowsOf 26).all (rowOne FL ML KI KJ ATL WF 17 19 bt own ini 26) = true := by decide +kernel
theorem hr27 : (rowsOf 27).all (rowOne FL ML KI KJ ATL WF 17 19 bt own ini 27) = true := by decide +kernel
theorem hr28 : (rowsOf 28).all (rowOne FL ML KI KJ ATL WF 17 19 bt own ini 28) = true := by decide +kernel
theorem hr29 : (rowsOf 29).all (rowOne FL ML KI KJ ATL WF 17 19 bt own ini 29) = true := by decide +kernel
theorem hr30 : (rowsOf 30).all (rowOne FL ML KI KJ ATL WF 17 19 bt own ini 30) = true := by decide +kernel
theorem hr31x0 : ((rowsOf 31).take 40).all (rowOne FL ML KI KJ ATL WF 17 19 bt own ini 31) = true := by decide +kernel
theorem hr31x1 : (((rowsOf 31).drop 40).take 40).all (rowOne FL ML KI KJ ATL WF 17 19 bt own ini 31) = true := by decide +kernel
theorem hr31x2 : (((rowsOf 31).drop 40).drop 40).all (rowOne FL ML KI KJ ATL WF 17 19 bt own ini 31) = true := by decide +kernel
theorem hr31 : (rowsOf 31).all (rowOne FL ML KI KJ ATL WF 17 19 bt own ini 31) = true := (all_td 40 hr31x0 (all_td 40 hr31x1 hr31x2))
theorem hr32 : (rowsOf 32).all (rowOne FL ML KI KJ ATL WF 17 19 bt own ini 32) = true := by decide +kernel
theorem hr33 : (rowsOf 33).all (rowOne FL ML KI KJ ATL WF 17 19 bt own ini 33) = true := by decide +kernel
theorem hr34 : (rowsOf 34).all (rowOne FL ML KI KJ ATL WF 17 19 bt own ini 34) = true := by decide +kernel
theorem hr35 : (rowsOf 35).all (rowOne FL ML KI KJ ATL WF 17 19 bt own ini 35) = true := by decide +kernel
theorem hr36 : (rowsOf 36).all (rowOne FL ML KI KJ ATL WF 17 19 bt own ini 36) = true := by decide +kernel
theorem hr37 : (rowsOf 37).all (rowOne FL ML KI KJ ATL WF 17 19 bt own ini 37) = true := by decide +kernel
theorem hr38 : (rowsOf 38).all (rowOne FL ML KI KJ ATL WF 17 19 bt own ini 38) = true := by decide +kernel
theorem hr39 : (rowsOf 39).all (rowOne FL ML KI KJ ATL WF 17 19 bt own ini 39) = true := by decide +kernel
theorem hr40 : (rowsOf 40).all (rowOne FL ML KI KJ ATL WF 17 19 bt own ini 40) = true := by decide +kernel
theorem hr41 : (rowsOf 41).all (rowOne FL ML KI KJ ATL WF 17 19 bt own ini 41) = true := by decide +kernel
theorem hr100x0 : ((rowsOf 100).take 40).all (rowOne FL ML KI KJ ATL WF 17 19 bt own ini 100) = true := by decide +kernel
theorem hr100x1 : (((rowsOf 100).drop 40).take 40).all (rowOne FL ML KI KJ ATL WF 17 19 bt own ini 100) = true := by decide +kernel
theorem hr100x2 : ((((rowsOf 100).drop 40).drop 40).take 40).all (rowOne FL ML KI KJ ATL WF 17 19 bt own ini 100) = true := by decide +kernel
theorem hr100x3 : (((((rowsOf 100).drop 40).drop 40).drop 40).take 40).all (rowOne FL ML KI KJ ATL WF 17 19 bt own ini 100) = true := by decide +kernel
theorem hr100x4 : ((((((rowsOf 100).drop 40).drop 40).drop 40).drop 40).take 40).all (rowOne FL ML KI KJ ATL WF 17 19 bt own ini 100) = true := by decide +kernel
theorem hr100x5 : (((((((rowsOf 100).drop 40).drop 40).drop 40).drop 40).drop 40).take 40).all (rowOne FL ML KI KJ ATL WF 17 19 bt own ini 100) = true := by decide +kernel
theorem hr100x6 : ((((((((rowsOf 100).drop 40).drop 40).drop 40).drop 40).drop 40).drop 40).take 40).all (rowOne FL ML KI KJ ATL WF 17 19 bt own ini 100) = true := by decide +kernel
theorem hr100x7 : (((((((((rowsOf 100).drop 40).drop 40).drop 40).drop 40).drop 40).drop 40).drop 40).take 40).all (rowOne FL ML KI KJ ATL WF 17 19 bt own ini 100) = true := by decide +kernel
theorem hr100x8 : ((((((((((rowsOf 100).drop 40).drop 40).drop 40).drop 40).drop 40).drop 40).drop 40).drop 40).take 40).all (rowOne FL ML KI KJ ATL WF 17 19 bt own ini 100) = true := by decide +kernel
theorem hr100x9 : (((((((((((rowsOf 100).drop 40).drop 40).drop 40).drop 40).drop 40).drop 40).drop 40).drop 40).drop 40).take 40).all (rowOne FL ML KI KJ ATL WF 17 19 bt own ini 100) = true := by decide +kernel
theorem hr100x10 : ((((((((((((rowsOf 100).drop 40).drop 40).drop 40).drop 40).drop 40).drop 40).drop 40).drop 40).drop 40).drop 40).take 40).all (rowOne FL ML KI KJ ATL WF 17 19 bt own ini 100) = true := by decide +kernel
theorem hr100x11 : (((((((((((((rowsOf 100).drop 40).drop 40).drop 40).drop 40).drop 40).drop 40).drop 40).drop 40).drop 40).drop 40).drop 40).take 40).all (rowOne FL ML KI KJ ATL WF 17 19 bt own ini 100) = true := by decide +kernel
theorem hr100x12 : ((((((((((((((rowsOf 100).drop 40).drop 40).drop 40).drop 40).drop 40).drop 40).drop 40).drop 40).drop 40).drop 40).drop 40).drop 40).take 40).all (rowOne FL ML KI KJ ATL WF 17 19 bt own ini 100) = true := by decide +kernel
theorem hr100x13 : (((((((((((((((rowsOf 100).drop 40).drop 40).drop 40).drop 40).drop 40).drop 40).drop 40).drop 40).drop 40).drop 40).drop 40).drop 40).drop 40).take 40).all (rowOne FL ML KI KJ ATL WF 17 19 bt own ini 100) = true := by decide +kernel
theorem hr100x14 : ((((((((((((((((rowsOf 100).drop 40).drop 40).drop 40).drop 40).drop 40).drop 40).drop 40).drop 40).drop 40).drop 40).drop 40).drop 40).drop 40).drop 40).take 40).all (rowOne FL ML KI KJ ATL WF 17 19 bt own ini 100) = true := by decide +kernel
theorem hr100x15 : (((((((((((((((((rowsOf 100).drop 40).drop 40).drop 40).drop 40).drop 40).drop 40).drop 40).drop 40).drop 40).drop 40).drop 40).drop 40).drop 40).drop 40).drop 40).take 40).all (rowOne FL ML KI KJ ATL WF 17 19 bt own ini 100) = true := by decide +kernel
theorem hr100x16 : ((((((((((((((((((rowsOf 100).drop 40).drop 40).drop 40).drop 40).drop 40).drop 40).drop 40).drop 40).drop 40).drop 40).drop 40).drop 40).drop 40).drop 40).drop 40).drop 40).take 40).all (rowOne FL ML KI KJ ATL WF 17 19 bt own ini 100) = true := by decide +kernel
theorem hr100x17 : (((((((((((((((((((rowsOf 100).drop 40).drop 40).drop 40).drop 40).drop 40).drop 40).drop 40).drop 40).drop 40).drop 40).drop 40).drop 40).drop 40).drop 40).drop 40).drop 40).drop 40).take 40).all (rowOne FL ML KI KJ ATL WF 17 19 bt own ini 100) = true := by decide +kernel
theorem hr100x18 : (((((((((((((((((((rowsOf 100).drop 40).drop 40).drop 40).drop 40).drop 40).drop 40).drop 40).drop 40).drop 40).drop 40).drop 40).drop 40).drop 40).drop 40).drop 40).drop 40).drop 40).drop 40).all (rowOne FL ML KI KJ ATL WF 17 19 bt own ini 100) = true := by decide +kernel
theorem hr100 : (rowsOf 100).all (rowOne FL ML KI KJ ATL WF 17 19 bt own ini 100) = true := (all_td 40 hr100x0 (all_td 40 hr100x1 (all_td 40 hr100x2 (all_td 40 hr100x3 (all_td 40 hr100x4 (all_td 40 hr100x5 (all_td 40 hr100x6 (all_td 40 hr100x7 (all_td 40 hr100x8 (all_td 40 hr100x9 (all_td 40 hr100x10 (all_td 40 hr100x11 (all_td 40 hr100x12 (all_td 40 hr100x13 (all_td 40 hr100x14 (all_td 40 hr100x15 (all_td 40 hr100x16 (all_td 40 hr100x17 hr100x18))))))))))))))))))
theorem hr102 : (rowsOf 102).all (rowOne FL ML KI KJ ATL WF 17 19 bt own ini 102) = true := by decide +kernel
theorem hr103 : (rowsOf 103).all (rowOne FL ML KI KJ ATL WF 17 19 bt own ini 103) = true := by decide +kernel
theorem hr104 : (rowsOf 104).all (rowOne FL ML KI KJ ATL WF 17 19 bt own ini 104) = true := by decide +kernel
theorem hr105 : (rowsOf 105).all (rowOne FL ML KI KJ ATL WF 17 19 bt own ini 105) = true := by decide +kernel
theorem hr106 : (rowsOf 106).all (rowOne FL ML KI KJ ATL WF 17 19 bt own ini 106) = true := by decide +kernel
theorem hrows : RL.all (fun m => (rowsOf m).all (rowOne FL ML KI KJ ATL WF 17 19 bt own ini m)) = true := (all_c hr1 (all_c hr2 (all_c hr3 (all_c hr4 (all_c hr5 (all_c hr6 (all_c hr7 (all_c hr8 (all_c hr9 (all_c hr10 (all_c hr11 (all_c hr12 (all_c hr13 (all_c hr14 (all_c hr15 (all_c hr16 (all_c hr17 (all_c hr18 (all_c hr19 (all_c hr20 (all_c hr21 (all_c hr22 (all_c hr23 (all_c hr24 (all_c hr25 (all_c hr26 (all_c hr27 (all_c hr28 (all_c hr29 (all_c hr30 (all_c hr31 (all_c hr32 (all_c hr33 (all_c hr34 (all_c hr35 (all_c hr36 (all_c hr37 (all_c hr38 (all_c hr39 (all_c hr40 (all_c hr41 (all_c hr100 (all_c hr102 (all_c hr103 (all_c hr104 (all_c hr105 (all_c hr106 all_n)))))))))))))))))))))))))))))))))))))))))))))))
theorem cal1 : CalOk (pj lw) tables_1 "DynamicMinForest" nm bt 1 := ⟨(List.mem_of_getElem? (i := 12) rfl), (List.mem_of_getElem? (i := 9) rfl), ⟨[.int], none, by decide +kernel, rfl⟩, fun h => absurd h (by decide), fun _ => ⟨rfl, (List.mem_of_getElem? (i := 11) rfl)⟩, fun h => absurd h (by decide), fun h => absurd h (by decide), fun _ => ⟨rfl, rfl⟩⟩
theorem cal2 : CalOk (pj lw) tables_1 "DynamicMinForest" nm bt 2 := ⟨(List.mem_of_getElem? (i := 124) rfl), (List.mem_of_getElem? (i := 9) rfl), ⟨[.int, .int, .int], some .int, by decide +kernel, rfl⟩, fun h => absurd h (by decide), fun _ => ⟨rfl, (List.mem_of_getElem? (i := 122) rfl)⟩, fun _ => ⟨(List.mem_of_getElem? (i := 121) rfl), (List.mem_of_getElem? (i := 123) rfl)⟩, fun h => absurd h (by decide), fun h => absurd h (by decide)⟩
theorem cal3 : CalOk (pj lw) tables_1 "DynamicMinForest" nm bt 3 := ⟨(List.mem_of_getElem? (i := 227) rfl), (List.mem_of_getElem? (i := 9) rfl), ⟨[.int], some .boolean, by decide +kernel, rfl⟩, fun h => absurd h (by decide), fun _ => ⟨rfl, (List.mem_of_getElem? (i := 225) rfl)⟩, fun _ => ⟨(List.mem_of_getElem? (i := 224) rfl), (List.mem_of_getElem? (i := 226) rfl)⟩, fun h => absurd h (by decide), fun h => absurd h (by decide)⟩
theorem cal4 : CalOk (pj lw) tables_1 "DynamicMinForest" nm bt 4 := ⟨(List.mem_of_getElem? (i := 232) rfl), (List.mem_of_getElem? (i := 9) rfl), ⟨[.int, .int], some .boolean, by decide +kernel, rfl⟩, fun h => absurd h (by decide), fun _ => ⟨rfl, (List.mem_of_getElem? (i := 230) rfl)⟩, fun _ => ⟨(List.mem_of_getElem? (i := 229) rfl), (List.mem_of_getElem? (i := 231) rfl)⟩, fun h => absurd h (by decide), fun h => absurd h (by decide)⟩
theorem cal5 : CalOk (pj lw) tables_1 "DynamicMinForest" nm bt 5 := ⟨(List.mem_of_getElem? (i := 69) rfl), (List.mem_of_getElem? (i := 9) rfl), ⟨[.int], some .boolean, by decide +kernel, rfl⟩, fun h => absurd h (by decide), fun _ => ⟨rfl, (List.mem_of_getElem? (i := 67) rfl)⟩, fun _ => ⟨(List.mem_of_getElem? (i := 66) rfl), (List.mem_of_getElem? (i := 68) rfl)⟩, fun h => absurd h (by decide), fun h => absurd h (by decide)⟩
theorem cal6 : CalOk (pj lw) tables_1 "DynamicMinForest" nm bt 6 := ⟨(List.mem_of_getElem? (i := 60) rfl), (List.mem_of_getElem? (i := 9) rfl), ⟨[.int], some .boolean, by decide +kernel, rfl⟩, fun h => absurd h (by decide), fun _ => ⟨rfl, (List.mem_of_getElem? (i := 58) rfl)⟩, fun _ => ⟨(List.mem_of_getElem? (i := 57) rfl), (List.mem_of_getElem? (i := 59) rfl)⟩, fun h => absurd h (by decide), fun h => absurd h (by decide)⟩
theorem cal7 : CalOk (pj lw) tables_1 "DynamicMinForest" nm bt 7 := ⟨(List.mem_of_getElem? (i := 159) rfl), (List.mem_of_getElem? (i := 9) rfl), ⟨[.int, .int], some .int, by decide +kernel, rfl⟩, fun h => absurd h (by decide), fun _ => ⟨rfl, (List.mem_of_getElem? (i := 157) rfl)⟩, fun _ => ⟨(List.mem_of_getElem? (i := 156) rfl), (List.mem_of_getElem? (i := 158) rfl)⟩, fun h => absurd h (by decide), fun h => absurd h (by decide)⟩
theorem cal8 : CalOk (pj lw) tables_1 "DynamicMinForest" nm bt 8 := ⟨(List.mem_of_getElem? (i := 165) rfl), (List.mem_of_getElem? (i := 9) rfl), ⟨[.int], some .int, by decide +kernel, rfl⟩, fun h => absurd h (by decide), fun _ => ⟨rfl, (List.mem_of_getElem? (i := 163) rfl)⟩, fun _ => ⟨(List.mem_of_getElem? (i := 162) rfl), (List.mem_of_getElem? (i := 164) rfl)⟩, fun h => absurd h (by decide), fun h => absurd h (by decide)⟩
theorem cal9 : CalOk (pj lw) tables_1 "DynamicMinForest" nm bt 9 := ⟨(List.mem_of_getElem? (i := 106) rfl), (List.mem_of_getElem? (i := 9) rfl), ⟨[], some .int, by decide +kernel, rfl⟩, fun h => absurd h (by decide), fun _ => ⟨rfl, (List.mem_of_getElem? (i := 104) rfl)⟩, fun _ => ⟨(List.mem_of_getElem? (i := 103) rfl), (List.mem_of_getElem? (i := 105) rfl)⟩, fun h => absurd h (by decide), fun h => absurd h (by decide)⟩
theorem cal10 : CalOk (pj lw) tables_1 "DynamicMinForest" nm bt 10 := ⟨(List.mem_of_getElem? (i := 74) rfl), (List.mem_of_getElem? (i := 9) rfl), ⟨[], some .long, by decide +kernel, rfl⟩, fun h => absurd h (by decide), fun _ => ⟨rfl, (List.mem_of_getElem? (i := 72) rfl)⟩, fun _ => ⟨(List.mem_of_getElem? (i := 71) rfl), (List.mem_of_getElem? (i := 73) rfl)⟩, fun h => absurd h (by decide), fun h => absurd h (by decide)⟩
theorem cal11 : CalOk (pj lw) tables_1 "DynamicMinForest" nm bt 11 := ⟨(List.mem_of_getElem? (i := 79) rfl), (List.mem_of_getElem? (i := 9) rfl), ⟨[], some .int, by decide +kernel, rfl⟩, fun h => absurd h (by decide), fun _ => ⟨rfl, (List.mem_of_getElem? (i := 77) rfl)⟩, fun _ => ⟨(List.mem_of_getElem? (i := 76) rfl), (List.mem_of_getElem? (i := 78) rfl)⟩, fun h => absurd h (by decide), fun h => absurd h (by decide)⟩
theorem cal12 : CalOk (pj lw) tables_1 "DynamicMinForest" nm bt 12 := ⟨(List.mem_of_getElem? (i := 84) rfl), (List.mem_of_getElem? (i := 9) rfl), ⟨[], some .int, by decide +kernel, rfl⟩, fun h => absurd h (by decide), fun _ => ⟨rfl, (List.mem_of_getElem? (i := 82) rfl)⟩, fun _ => ⟨(List.mem_of_getElem? (i := 81) rfl), (List.mem_of_getElem? (i := 83) rfl)⟩, fun h => absurd h (by decide), fun h => absurd h (by decide)⟩
theorem cal13 : CalOk (pj lw) tables_1 "DynamicMinForest" nm bt 13 := ⟨(List.mem_of_getElem? (i := 89) rfl), (List.mem_of_getElem? (i := 9) rfl), ⟨[.int], some .int, by decide +kernel, rfl⟩, fun h => absurd h (by decide), fun _ => ⟨rfl, (List.mem_of_getElem? (i := 87) rfl)⟩, fun _ => ⟨(List.mem_of_getElem? (i := 86) rfl), (List.mem_of_getElem? (i := 88) rfl)⟩, fun h => absurd h (by decide), fun h => absurd h (by decide)⟩
theorem cal14 : CalOk (pj lw) tables_1 "DynamicMinForest" nm bt 14 := ⟨(List.mem_of_getElem? (i := 213) rfl), (List.mem_of_getElem? (i := 9) rfl), ⟨[.int, .int], some .int, by decide +kernel, rfl⟩, fun h => absurd h (by decide), fun _ => ⟨rfl, (List.mem_of_getElem? (i := 211) rfl)⟩, fun _ => ⟨(List.mem_of_getElem? (i := 210) rfl), (List.mem_of_getElem? (i := 212) rfl)⟩, fun h => absurd h (by decide), fun h => absurd h (by decide)⟩
theorem cal15 : CalOk (pj lw) tables_1 "DynamicMinForest" nm bt 15 := ⟨(List.mem_of_getElem? (i := 173) rfl), (List.mem_of_getElem? (i := 9) rfl), ⟨[.int], some .int, by decide +kernel, rfl⟩, fun h => absurd h (by decide), fun _ => ⟨rfl, (List.mem_of_getElem? (i := 171) rfl)⟩, fun _ => ⟨(List.mem_of_getElem? (i := 170) rfl), (List.mem_of_getElem? (i := 172) rfl)⟩, fun h => absurd h (by decide), fun h => absurd h (by decide)⟩
theorem cal16 : CalOk (pj lw) tables_1 "DynamicMinForest" nm bt 16 := ⟨(List.mem_of_getElem? (i := 111) rfl), (List.mem_of_getElem? (i := 9) rfl), ⟨[], some .int, by decide +kernel, rfl⟩, fun h => absurd h (by decide), fun _ => ⟨rfl, (List.mem_of_getElem? (i := 109) rfl)⟩, fun _ => ⟨(List.mem_of_getElem? (i := 108) rfl), (List.mem_of_getElem? (i := 110) rfl)⟩, fun h => absurd h (by decide), fun h => absurd h (by decide)⟩
theorem cal17 : CalOk (pj lw) tables_1 "DynamicMinForest" nm bt 17 := ⟨(List.mem_of_getElem? (i := 116) rfl), (List.mem_of_getElem? (i := 9) rfl), ⟨[], some .int, by decide +kernel, rfl⟩, fun h => absurd h (by decide), fun _ => ⟨rfl, (List.mem_of_getElem? (i := 114) rfl)⟩, fun _ => ⟨(List.mem_of_getElem? (i := 113) rfl), (List.mem_of_getElem? (i := 115) rfl)⟩, fun h => absurd h (by decide), fun h => absurd h (by decide)⟩
theorem cal18 : CalOk (pj lw) tables_1 "DynamicMinForest" nm bt 18 := ⟨(List.mem_of_getElem? (i := 142) rfl), (List.mem_of_getElem? (i := 9) rfl), ⟨[.int], none, by decide +kernel, rfl⟩, fun h => absurd h (by decide), fun _ => ⟨rfl, (List.mem_of_getElem? (i := 140) rfl)⟩, fun h => absurd h (by decide), fun _ => (List.mem_of_getElem? (i := 141) rfl), fun h => absurd h (by decide)⟩
theorem cal19 : CalOk (pj lw) tables_1 "DynamicMinForest" nm bt 19 := ⟨(List.mem_of_getElem? (i := 240) rfl), (List.mem_of_getElem? (i := 9) rfl), ⟨[.int], none, by decide +kernel, rfl⟩, fun h => absurd h (by decide), fun _ => ⟨rfl, (List.mem_of_getElem? (i := 238) rfl)⟩, fun h => absurd h (by decide), fun _ => (List.mem_of_getElem? (i := 239) rfl), fun h => absurd h (by decide)⟩
theorem cal20 : CalOk (pj lw) tables_1 "DynamicMinForest" nm bt 20 := ⟨(List.mem_of_getElem? (i := 236) rfl), (List.mem_of_getElem? (i := 9) rfl), ⟨[.int, .int], none, by decide +kernel, rfl⟩, fun h => absurd h (by decide), fun _ => ⟨rfl, (List.mem_of_getElem? (i := 234) rfl)⟩, fun h => absurd h (by decide), fun _ => (List.mem_of_getElem? (i := 235) rfl), fun h => absurd h (by decide)⟩
theorem cal21 : CalOk (pj lw) tables_1 "DynamicMinForest" nm bt 21 := ⟨(List.mem_of_getElem? (i := 154) rfl), (List.mem_of_getElem? (i := 9) rfl), ⟨[.int, .int], none, by decide +kernel, rfl⟩, fun h => absurd h (by decide), fun _ => ⟨rfl, (List.mem_of_getElem? (i := 152) rfl)⟩, fun h => absurd h (by decide), fun _ => (List.mem_of_getElem? (i := 153) rfl), fun h => absurd h (by decide)⟩
theorem cal22 : CalOk (pj lw) tables_1 "DynamicMinForest" nm bt 22 := ⟨(List.mem_of_getElem? (i := 128) rfl), (List.mem_of_getElem? (i := 9) rfl), ⟨[], some .int, by decide +kernel, rfl⟩, fun h => absurd h (by decide), fun _ => ⟨rfl, (List.mem_of_getElem? (i := 126) rfl)⟩, fun h => absurd h (by decide), fun _ => (List.mem_of_getElem? (i := 127) rfl), fun h => absurd h (by decide)⟩
theorem cal23 : CalOk (pj lw) tables_1 "DynamicMinForest" nm bt 23 := ⟨(List.mem_of_getElem? (i := 138) rfl), (List.mem_of_getElem? (i := 9) rfl), ⟨[.int, .int, .int, .int], none, by decide +kernel, rfl⟩, fun h => absurd h (by decide), fun _ => ⟨rfl, (List.mem_of_getElem? (i := 136) rfl)⟩, fun h => absurd h (by decide), fun _ => (List.mem_of_getElem? (i := 137) rfl), fun h => absurd h (by decide)⟩
theorem cal24 : CalOk (pj lw) tables_1 "DynamicMinForest" nm bt 24 := ⟨(List.mem_of_getElem? (i := 244) rfl), (List.mem_of_getElem? (i := 9) rfl), ⟨[.int], none, by decide +kernel, rfl⟩, fun h => absurd h (by decide), fun _ => ⟨rfl, (List.mem_of_getElem? (i := 242) rfl)⟩, fun h => absurd h (by decide), fun _ => (List.mem_of_getElem? (i := 243) rfl), fun h => absurd h (by decide)⟩
theorem cal25 : CalOk (pj lw) tables_1 "DynamicMinForest" nm bt 25 := ⟨(List.mem_of_getElem? (i := 146) rfl), (List.mem_of_getElem? (i := 9) rfl), ⟨[.int], none, by decide +kernel, rfl⟩, fun h => absurd h (by decide), fun _ => ⟨rfl, (List.mem_of_getElem? (i := 144) rfl)⟩, fun h => absurd h (by decide), fun _ => (List.mem_of_getElem? (i := 145) rfl), fun h => absurd h (by decide)⟩
theorem cal26 : CalOk (pj lw) tables_1 "DynamicMinForest" nm bt 26 := ⟨(List.mem_of_getElem? (i := 204) rfl), (List.mem_of_getElem? (i := 9) rfl), ⟨[.int], none, by decide +kernel, rfl⟩, fun h => absurd h (by decide), fun _ => ⟨rfl, (List.mem_of_getElem? (i := 202) rfl)⟩, fun h => absurd h (by decide), fun _ => (List.mem_of_getElem? (i := 203) rfl), fun h => absurd h (by decide)⟩
theorem cal27 : CalOk (pj lw) tables_1 "DynamicMinForest" nm bt 27 := ⟨(List.mem_of_getElem? (i := 150) rfl), (List.mem_of_getElem? (i := 9) rfl), ⟨[.int, .int], none, by decide +kernel, rfl⟩, fun h => absurd h (by decide), fun _ => ⟨rfl, (List.mem_of_getElem? (i := 148) rfl)⟩, fun h => absurd h (by decide), fun _ => (List.mem_of_getElem? (i := 149) rfl), fun h => absurd h (by decide)⟩
theorem cal28 : CalOk (pj lw) tables_1 "DynamicMinForest" nm bt 28 := ⟨(List.mem_of_getElem? (i := 208) rfl), (List.mem_of_getElem? (i := 9) rfl), ⟨[.int, .int], none, by decide +kernel, rfl⟩, fun h => absurd h (by decide), fun _ => ⟨rfl, (List.mem_of_getElem? (i := 206) rfl)⟩, fun h => absurd h (by decide), fun _ => (List.mem_of_getElem? (i := 207) rfl), fun h => absurd h (by decide)⟩
theorem cal29 : CalOk (pj lw) tables_1 "DynamicMinForest" nm bt 29 := ⟨(List.mem_of_getElem? (i := 55) rfl), (List.mem_of_getElem? (i := 9) rfl), ⟨[], none, by decide +kernel, rfl⟩, fun h => absurd h (by decide), fun _ => ⟨rfl, (List.mem_of_getElem? (i := 53) rfl)⟩, fun h => absurd h (by decide), fun _ => (List.mem_of_getElem? (i := 54) rfl), fun h => absurd h (by decide)⟩
theorem cal30 : CalOk (pj lw) tables_1 "DynamicMinForest" nm bt 30 := ⟨(List.mem_of_getElem? (i := 97) rfl), (List.mem_of_getElem? (i := 9) rfl), ⟨[.int, .int], some .int, by decide +kernel, rfl⟩, fun h => absurd h (by decide), fun _ => ⟨rfl, (List.mem_of_getElem? (i := 95) rfl)⟩, fun h => absurd h (by decide), fun _ => (List.mem_of_getElem? (i := 96) rfl), fun h => absurd h (by decide)⟩
theorem cal31 : CalOk (pj lw) tables_1 "DynamicMinForest" nm bt 31 := ⟨(List.mem_of_getElem? (i := 101) rfl), (List.mem_of_getElem? (i := 9) rfl), ⟨[.int, .int, .int], some .int, by decide +kernel, rfl⟩, fun h => absurd h (by decide), fun _ => ⟨rfl, (List.mem_of_getElem? (i := 99) rfl)⟩, fun h => absurd h (by decide), fun _ => (List.mem_of_getElem? (i := 100) rfl), fun h => absurd h (by decide)⟩
theorem cal32 : CalOk (pj lw) tables_1 "DynamicMinForest" nm bt 32 := ⟨(List.mem_of_getElem? (i := 192) rfl), (List.mem_of_getElem? (i := 9) rfl), ⟨[.int], some .int, by decide +kernel, rfl⟩, fun h => absurd h (by decide), fun _ => ⟨rfl, (List.mem_of_getElem? (i := 190) rfl)⟩, fun h => absurd h (by decide), fun _ => (List.mem_of_getElem? (i := 191) rfl), fun h => absurd h (by decide)⟩
theorem cal33 : CalOk (pj lw) tables_1 "DynamicMinForest" nm bt 33 := ⟨(List.mem_of_getElem? (i := 178) rfl), (List.mem_of_getElem? (i := 9) rfl), ⟨[], some .int, by decide +kernel, rfl⟩, fun h => absurd h (by decide), fun _ => ⟨rfl, (List.mem_of_getElem? (i := 176) rfl)⟩, fun h => absurd h (by decide), fun _ => (List.mem_of_getElem? (i := 177) rfl), fun h => absurd h (by decide)⟩
theorem cal34 : CalOk (pj lw) tables_1 "DynamicMinForest" nm bt 34 := ⟨(List.mem_of_getElem? (i := 217) rfl), (List.mem_of_getElem? (i := 9) rfl), ⟨[.int], some .boolean, by decide +kernel, rfl⟩, fun h => absurd h (by decide), fun _ => ⟨rfl, (List.mem_of_getElem? (i := 215) rfl)⟩, fun h => absurd h (by decide), fun _ => (List.mem_of_getElem? (i := 216) rfl), fun h => absurd h (by decide)⟩
theorem cal35 : CalOk (pj lw) tables_1 "DynamicMinForest" nm bt 35 := ⟨(List.mem_of_getElem? (i := 182) rfl), (List.mem_of_getElem? (i := 9) rfl), ⟨[.int, .int], some .int, by decide +kernel, rfl⟩, fun h => absurd h (by decide), fun _ => ⟨rfl, (List.mem_of_getElem? (i := 180) rfl)⟩, fun h => absurd h (by decide), fun _ => (List.mem_of_getElem? (i := 181) rfl), fun h => absurd h (by decide)⟩
theorem cal36 : CalOk (pj lw) tables_1 "DynamicMinForest" nm bt 36 := ⟨(List.mem_of_getElem? (i := 200) rfl), (List.mem_of_getElem? (i := 9) rfl), ⟨[.int, .int], some .boolean, by decide +kernel, rfl⟩, fun h => absurd h (by decide), fun _ => ⟨rfl, (List.mem_of_getElem? (i := 198) rfl)⟩, fun h => absurd h (by decide), fun _ => (List.mem_of_getElem? (i := 199) rfl), fun h => absurd h (by decide)⟩
theorem cal37 : CalOk (pj lw) tables_1 "DynamicMinForest" nm bt 37 := ⟨(List.mem_of_getElem? (i := 221) rfl), (List.mem_of_getElem? (i := 9) rfl), ⟨[.int, .int], some .int, by decide +kernel, rfl⟩, fun h => absurd h (by decide), fun _ => ⟨rfl, (List.mem_of_getElem? (i := 219) rfl)⟩, fun h => absurd h (by decide), fun _ => (List.mem_of_getElem? (i := 220) rfl), fun h => absurd h (by decide)⟩
theorem cal38 : CalOk (pj lw) tables_1 "DynamicMinForest" nm bt 38 := ⟨(List.mem_of_getElem? (i := 196) rfl), (List.mem_of_getElem? (i := 9) rfl), ⟨[.int, .int], some .int, by decide +kernel, rfl⟩, fun h => absurd h (by decide), fun _ => ⟨rfl, (List.mem_of_getElem? (i := 194) rfl)⟩, fun h => absurd h (by decide), fun _ => (List.mem_of_getElem? (i := 195) rfl), fun h => absurd h (by decide)⟩
theorem cal39 : CalOk (pj lw) tables_1 "DynamicMinForest" nm bt 39 := ⟨(List.mem_of_getElem? (i := 93) rfl), (List.mem_of_getElem? (i := 9) rfl), ⟨[.int], some .boolean, by decide +kernel, rfl⟩, fun h => absurd h (by decide), fun _ => ⟨rfl, (List.mem_of_getElem? (i := 91) rfl)⟩, fun h => absurd h (by decide), fun _ => (List.mem_of_getElem? (i := 92) rfl), fun h => absurd h (by decide)⟩
theorem cal40 : CalOk (pj lw) tables_1 "DynamicMinForest" nm bt 40 := ⟨(List.mem_of_getElem? (i := 64) rfl), (List.mem_of_getElem? (i := 9) rfl), ⟨[.int], some .boolean, by decide +kernel, rfl⟩, fun h => absurd h (by decide), fun _ => ⟨rfl, (List.mem_of_getElem? (i := 62) rfl)⟩, fun h => absurd h (by decide), fun _ => (List.mem_of_getElem? (i := 63) rfl), fun h => absurd h (by decide)⟩
theorem cal41 : CalOk (pj lw) tables_1 "DynamicMinForest" nm bt 41 := ⟨(List.mem_of_getElem? (i := 132) rfl), (List.mem_of_getElem? (i := 9) rfl), ⟨[.int], some .int, by decide +kernel, rfl⟩, fun h => absurd h (by decide), fun _ => ⟨rfl, (List.mem_of_getElem? (i := 130) rfl)⟩, fun h => absurd h (by decide), fun _ => (List.mem_of_getElem? (i := 131) rfl), fun h => absurd h (by decide)⟩
theorem cal102 : CalOk (pj lw) tables_1 "DynamicMinForest" nm bt 102 := ⟨(List.mem_of_getElem? (i := 3) rfl), (List.mem_of_getElem? (i := 2) rfl), ⟨[.array .int, .int], some .int, by decide +kernel, rfl⟩, fun _ => (List.mem_of_getElem? (i := 1) rfl), fun h => absurd rfl h, fun h => absurd h (by decide), fun h => absurd h (by decide), fun h => absurd h (by decide)⟩
theorem cal103 : CalOk (pj lw) tables_1 "DynamicMinForest" nm bt 103 := ⟨(List.mem_of_getElem? (i := 6) rfl), (List.mem_of_getElem? (i := 2) rfl), ⟨[.int, .int], some .int, by decide +kernel, rfl⟩, fun _ => (List.mem_of_getElem? (i := 5) rfl), fun h => absurd rfl h, fun h => absurd h (by decide), fun h => absurd h (by decide), fun h => absurd h (by decide)⟩
theorem cal104 : CalOk (pj lw) tables_1 "DynamicMinForest" nm bt 104 := ⟨(List.mem_of_getElem? (i := 119) rfl), (List.mem_of_getElem? (i := 2) rfl), ⟨[.int], some .int, by decide +kernel, rfl⟩, fun _ => (List.mem_of_getElem? (i := 118) rfl), fun h => absurd rfl h, fun h => absurd h (by decide), fun h => absurd h (by decide), fun h => absurd h (by decide)⟩
theorem cal105 : CalOk (pj lw) tables_1 "DynamicMinForest" nm bt 105 := ⟨(List.mem_of_getElem? (i := 188) rfl), (List.mem_of_getElem? (i := 2) rfl), ⟨[.int, .int, .int, .int], some .boolean, by decide +kernel, rfl⟩, fun _ => (List.mem_of_getElem? (i := 187) rfl), fun h => absurd rfl h, fun h => absurd h (by decide), fun h => absurd h (by decide), fun h => absurd h (by decide)⟩
theorem cal106 : CalOk (pj lw) tables_1 "DynamicMinForest" nm bt 106 := ⟨(List.mem_of_getElem? (i := 185) rfl), (List.mem_of_getElem? (i := 2) rfl), ⟨[.long, .long, .int], some .boolean, by decide +kernel, rfl⟩, fun _ => (List.mem_of_getElem? (i := 184) rfl), fun h => absurd rfl h, fun h => absurd h (by decide), fun h => absurd h (by decide), fun h => absurd h (by decide)⟩
theorem hcal : ∀ m ∈ RL, m ≠ 100 → CalOk (pj lw) tables_1 "DynamicMinForest" nm bt m := (faS (fun _ => cal1) (faS (fun _ => cal2) (faS (fun _ => cal3) (faS (fun _ => cal4) (faS (fun _ => cal5) (faS (fun _ => cal6) (faS (fun _ => cal7) (faS (fun _ => cal8) (faS (fun _ => cal9) (faS (fun _ => cal10) (faS (fun _ => cal11) (faS (fun _ => cal12) (faS (fun _ => cal13) (faS (fun _ => cal14) (faS (fun _ => cal15) (faS (fun _ => cal16) (faS (fun _ => cal17) (faS (fun _ => cal18) (faS (fun _ => cal19) (faS (fun _ => cal20) (faS (fun _ => cal21) (faS (fun _ => cal22) (faS (fun _ => cal23) (faS (fun _ => cal24) (faS (fun _ => cal25) (faS (fun _ => cal26) (faS (fun _ => cal27) (faS (fun _ => cal28) (faS (fun _ => cal29) (faS (fun _ => cal30) (faS (fun _ => cal31) (faS (fun _ => cal32) (faS (fun _ => cal33) (faS (fun _ => cal34) (faS (fun _ => cal35) (faS (fun _ => cal36) (faS (fun _ => cal37) (faS (fun _ => cal38) (faS (fun _ => cal39) (faS (fun _ => cal40) (faS (fun _ => cal41) (faS (fun h => absurd rfl h) (faS (fun _ => cal102) (faS (fun _ => cal103) (faS (fun _ => cal104) (faS (fun _ => cal105) (faS (fun _ => cal106) fa0)))))))))))))))))))))))))))))))))))))))))))))))
theorem hfld : ∀ k ∈ FS, parseFieldDescriptor (fn k).2 = some ((pj lw).2.2.1 k) ∧ (Jvm.Cond.lays "DynamicMinForest" "DynamicMinForest" (fn k).1 (fn k).2 ∈ tables_1 ∨ Jvm.Cond.laysFinal "DynamicMinForest" "DynamicMinForest" (fn k).1 (fn k).2 ∈ tables_1) := (faS ⟨by decide +kernel, Or.inl (List.mem_of_getElem? (i := 41) rfl)⟩ (faS ⟨by decide +kernel, Or.inl (List.mem_of_getElem? (i := 18) rfl)⟩ (faS ⟨by decide +kernel, Or.inl (List.mem_of_getElem? (i := 20) rfl)⟩ (faS ⟨by decide +kernel, Or.inl (List.mem_of_getElem? (i := 22) rfl)⟩ (faS ⟨by decide +kernel, Or.inl (List.mem_of_getElem? (i := 25) rfl)⟩ (faS ⟨by decide +kernel, Or.inl (List.mem_of_getElem? (i := 27) rfl)⟩ (faS ⟨by decide +kernel, Or.inl (List.mem_of_getElem? (i := 29) rfl)⟩ (faS ⟨by decide +kernel, Or.inl (List.mem_of_getElem? (i := 31) rfl)⟩ (faS ⟨by decide +kernel, Or.inl (List.mem_of_getElem? (i := 33) rfl)⟩ (faS ⟨by decide +kernel, Or.inl (List.mem_of_getElem? (i := 35) rfl)⟩ (faS ⟨by decide +kernel, Or.inl (List.mem_of_getElem? (i := 37) rfl)⟩ (faS ⟨by decide +kernel, Or.inl (List.mem_of_getElem? (i := 39) rfl)⟩ (faS ⟨by decide +kernel, Or.inl (List.mem_of_getElem? (i := 43) rfl)⟩ (faS ⟨by decide +kernel, Or.inl (List.mem_of_getElem? (i := 45) rfl)⟩ (faS ⟨by decide +kernel, Or.inl (List.mem_of_getElem? (i := 47) rfl)⟩ (faS ⟨by decide +kernel, Or.inl (List.mem_of_getElem? (i := 49) rfl)⟩ (faS ⟨by decide +kernel, Or.inl (List.mem_of_getElem? (i := 51) rfl)⟩ fa0)))))))))))))))))
theorem good : Good (pj lw) tables_1 "DynamicMinForest" fn FS 17 nm bt RL 100 := by
  refine ⟨(List.mem_of_getElem? (i := 8) rfl), (List.mem_of_getElem? (i := 9) rfl), hfld, by decide +kernel, fun m hm => ?_, hcal, fun m _ pc ins len aux _ _ => by cases ins <;> rfl⟩
  have hpl : plainName "DynamicMinForest" = true ∧ plainName "DynamicMinForestOwnLaw" = true := ⟨by first | (simp [plainName, overriddenIn]; done) | decide +kernel, by first | (simp [plainName, overriddenIn]; done) | decide +kernel⟩
  have hcn : ∀ m ∈ RL, (nm m).cls = cn (own m) := by decide +kernel
  have hin : ∀ m ∈ RL, ini m = true → (nm m).cls = "DynamicMinForest" ∧ (nm m).name = "<init>" := by decide +kernel
  have hor : (nm m).cls = "DynamicMinForest" ∨ (nm m).cls = "DynamicMinForestOwnLaw" := by rw [hcn m hm]; unfold cn; split <;> simp
  refine ⟨by rcases hor with h | h <;> rw [h] <;> simp [hpl], by rcases hor with h | h <;> rw [h] <;> decide, fun pc ins len aux h => ?_⟩
  have hmem : (pc, ins, len, aux) ∈ rowsOf m := by
    unfold rowsOf
    by_cases g : m < 100
    · rw [if_pos g]; exact lookup_mem (by simpa [pj, g] using h)
    · rw [if_neg g]; exact lookup_mem (by simpa [pj, lw, g] using h)
  have hrow := List.all_eq_true.mp (List.all_eq_true.mp hrows m hm) _ hmem
  simp only [rowOne, Bool.and_eq_true, decide_eq_true_eq] at hrow
  exact ⟨hrow.1.1, hrow.1.2, row_ok (hcn m hm) (hin m hm) hFL hWF hML hKI hKJ hAT (List.mem_of_getElem? (i := 7) rfl) ⟨(List.mem_of_getElem? (i := 13) rfl), (List.mem_of_getElem? (i := 14) rfl), (List.mem_of_getElem? (i := 15) rfl)⟩ hrow.2⟩
set_option maxRecDepth 65536 in
set_option maxHeartbeats 40000000 in
theorem comes_1 {Post : Tables → Env → Array Value → State → Outcome → State → Prop} (hpost : ∀ tb e args s v u, (limb_1_1.after args s (.returned v) u = true ∧ limb_1_2.after args s (.returned v) u = true ∧ True) → FrameEnd s (.returned v) u (Jvm.fieldLocs frame_1_writes args s ++ Jvm.arrayLocs frame_1_arrays args s ++ Jvm.staticLocs frame_1_statics s) 32 3776 → Post tb e args s (.returned v) u) :
    ArmFor flags0 classFile x code maxLocals ret World_1 tables_1 room_1 Calls_1 rest_1 Pre_1 Post := by
  intro l hfl _ _ p e ha hc hk s m args below hf hA hF happ hP
  obtain ⟨hcalls, hrest, hpre⟩ := hP
  obtain ⟨-, -, -, hnamed, -, -, -, hat⟩ := (Spec.applies_iff hf).mp happ
  obtain ⟨hg, hn⟩ := and_e (Cond.before_iff.mp (show (Jvm.Cond.and given_1 narrow_1).before args s = true from hpre))
  have hw := fun d (hd : d ∈ tables_1) => atoms_spec (ws := Jvm.Cond.code x code maxLocals ret :: tables_1) hat d (List.mem_cons_of_mem _ hd)
  obtain ⟨g0, r0⟩ := and_e hg
  obtain ⟨w0, rfl⟩ : ∃ w0 : Value, args = #[w0] := by
    have hs : args.size = 1 := by simpa [Cond.value, given_1] using g0
    obtain ⟨L⟩ := args
    match L, hs with
    | [w0], _ => exact ⟨w0, rfl⟩
  have hfit : Fit s := fun {y c} hc i hi => by
    obtain ⟨ha, rfl⟩ := Array.getElem?_eq_some_iff.mp hc
    have q := List.all_eq_true.mp ((Array.all_eq_true_iff_forall_mem.mp hF) _ (Array.getElem_mem ha)) i (List.mem_range.mpr hi)
    simpa [Array.getElem?_eq_getElem hi] using q
  obtain ⟨n1, n2⟩ := and_e (show (Jvm.Cond.and (Jvm.Cond.arrayOf (Jvm.Term.arg 0) .int) (Jvm.Cond.le (Jvm.Term.length (Jvm.Term.arg 0)) (Jvm.Term.int 260))).value #[w0] s none s [] = some true from hn)
  obtain ⟨a, ea⟩ := arr_v n1
  obtain rfl : w0 = .ref a := Option.some.inj ea
  obtain ⟨cl, A⟩ := Arr.start ea n1
  have hlen : cl.slots.size < 2 ^ 31 ∧ cl.slots.size ≤ 260 := by
    obtain ⟨x, y, h1, h2, -, -⟩ := cmp_v (Or.inr (Or.inr n2))
    have hA0 := A.fin (Vm.Alike.refl _)
    by_cases hs : cl.slots.size < 2 ^ 31
    · refine ⟨hs, ?_⟩
      have e1 := len_f (args := #[.ref a]) (first := s) (o := none) (idx := []) ea hA0 hs
      have e2 : (Term.int (260 : Int32)).eval #[.ref a] s none [] s = some (.int 260) := rfl
      simp only [Cond.value, e1, e2] at n2
      have n3 : cl.slots.size.toInt32 ≤ (260 : Int32) := by simpa using n2
      rw [Int32.le_iff_toInt_le, len_toInt hs] at n3
      have : ((260 : Int32)).toInt = 260 := by decide
      omega
    · exfalso; simp [Term.eval, hA0, hs, ea] at h1
  obtain ⟨f, hR⟩ := rel_H1 (C := "DynamicMinForest") (fn := fn) (F := FS) hfit A hlen.1
  obtain ⟨n, o, h1, h2, h3, _, L, rfl, ⟨N, H2, rfl⟩, hq⟩ := law_met (l := l) (Z := s) (a0 := _) (n0 := s.heap.size) good hw (as := [.ref a]) (h := s.heap) tables_1 (by decide) (by simp [Sym.laidSlots, Value.category]; decide) hR (law_ok s.heap.size a cl.slots.size f A.lt hlen.2) p e ha hc hk s m _ below hf ((Spec.applies_iff_loose hf).mp happ).1 ⟨rfl, State.Warmed39.refl s, rfl⟩ trivial
  exact ⟨n, _, h1, h2, h3, hpost _ _ _ _ _ _ ⟨Cond.after_iff.mpr rfl, Cond.after_iff.mpr (eq_i res_at (Term.int_eval (1)) rfl), trivial⟩ ⟨hq.1, hq.2.1, (hq.2.2.sift fun y hy => Or.inr (N y hy)).mono (by decide) (by decide)⟩⟩
theorem main_1_1 : Claimed_1_1 := comes_1 fun _ _ _ _ _ _ h hF => ⟨h.1, hF⟩
theorem main_1_2 : Claimed_1_2 := comes_1 fun _ _ _ _ _ _ h hF => ⟨h.2.1, hF⟩
end Jvm.Pilot.@@N@@
namespace Jvm.Pilot.@@N@@
open Jvm Jvm.ClassFile Sem Op Lib Jvm.Free Jvm.Stand Jvm.Pilot.@@N@@.Jvm.D
/-! MADE BY PROGRAM (witnessworld.py) out of the Statement's table words and the real class files: 11 classes; the members and pool entries that the words name. The judged class is class 1, her method 6. -/
namespace start1
open Jvm.ClassFile
def u (s : String) : CpInfo := .utf8 (stringToUtf16 s)
/-- a pool by its gaps: so many unusable entries, then the entry; so many at the end -/
def gap : Nat → List CpInfo → List CpInfo
  | 0, r => r
  | n + 1, r => .unusable :: gap n r
def poolList (es : List (Nat × CpInfo)) (last : Nat) : List CpInfo := es.foldr (fun e r => gap e.1 (e.2 :: r)) (gap last [])
def pool (es : List (Nat × CpInfo)) (last : Nat) : Array CpInfo := ⟨poolList es last⟩
def fileOf (pool : Array CpInfo) (this : Nat) (attrs : Array Attribute := #[]) (ms : Array MethodInfo := #[]) (fl : Nat := 33) (sup : Nat := 0) (ifs : Array Nat := #[]) (fds : Array FieldInfo := #[]) : ClassFile where
  minorVersion := 0
  majorVersion := 65
  constantPool := pool
  accessFlags := fl
  thisClass := this
  superClass := sup
  interfaces := ifs
  fields := fds
  methods := ms
  attributes := attrs
def plain (name : String) (sup : Option ClassId) : Class where
  name := name
  kind := .ordinary
  loader := none
  accessFlags := 33
  super := sup
  interfaces := #[]
  cf := none
  fields := #[]
  methods := #[]
  instanceTypes := #[]
  staticTypes := #[]
  resolved := #[]
  callSites := []
  init := .initialized
  statics := none
  mirror := none

def pool0 : Array CpInfo := pool [(5, u "<init>"), (0, u "()V"), (1, .class_ 10), (1, u "java/lang/Object")] 113

def k0c0 : Code := { maxStack := 0, maxLocals := 1, code := object_method_1_code, exceptionTable := #[], attributes := #[] }
def k0m0 : Method := { name := "<init>", desc := "()V", sig := { parameters := [], returnType := none }, accessFlags := 1, code := some k0c0 }
/-- java/lang/Object -/
def k0 : Class := { plain "java/lang/Object" none with
  accessFlags := 33
  interfaces := #[]
  cf := some (fileOf pool0 8 #[] #[{ accessFlags := 1, nameIndex := 5, descriptorIndex := 6, attributes := #[] }] 33 0 #[] #[])
  fields := #[]
  methods := #[k0m0]
  instanceTypes := #[]
  staticTypes := #[]
  resolved := Array.replicate 124 none
  statics := none }

def pool1 : Array CpInfo := pool [(2, .class_ 4), (1, u "java/lang/Object"), (0, u "<init>"), (0, u "()V"), (0, .methodref 8 9), (0, .class_ 10), (0, .nameAndType 11 12), (0, u "DynamicMinForestOwnLaw"), (0, u "mod"), (0, u "(II)I"), (0, .integer 3000000), (0, .integer 4291967296), (0, .methodref 8 16), (0, .nameAndType 17 18), (0, u "cell"), (0, u "([II)I"), (0, .class_ 20), (0, u "DynamicMinForest"), (0, .methodref 19 22), (0, .nameAndType 5 23), (0, u "(I)V"), (0, .methodref 8 25), (0, .nameAndType 26 27), (0, u "weight"), (0, u "(I)I"), (0, .methodref 19 29), (0, .nameAndType 30 31), (0, u "addEdge"), (0, u "(III)I"), (0, .methodref 19 33), (0, .nameAndType 34 35), (0, u "edgeCount"), (0, u "()I"), (0, .methodref 19 37), (0, .nameAndType 38 39), (0, u "isPresent"), (0, u "(I)Z"), (0, .methodref 19 41), (0, .nameAndType 42 39), (0, u "removeEdge"), (0, .methodref 19 44), (0, .nameAndType 45 46), (0, u "setWeight"), (0, u "(II)Z"), (0, .methodref 19 48), (0, .nameAndType 49 39), (0, u "isTreeEdge"), (0, .methodref 19 51), (0, .nameAndType 52 12), (0, u "edgeEnd"), (0, .methodref 19 54), (0, .nameAndType 55 27), (0, u "edgeWeight"), (0, .long 1000003), (1, .long 64), (1, .long 4194304), (1, .methodref 8 63), (0, .nameAndType 64 65), (0, u "precedes"), (0, u "(IIII)Z"), (0, .methodref 19 67), (0, .nameAndType 68 12), (0, u "pathMaxEdge"), (0, .methodref 19 70), (0, .nameAndType 71 27), (0, u "replacementFor"), (0, .methodref 19 73), (0, .nameAndType 74 75), (0, u "forestWeight"), (0, u "()J"), (0, .methodref 19 77), (0, .nameAndType 78 35), (0, u "forestEdgeCount"), (0, .methodref 19 80), (0, .nameAndType 81 35), (0, u "componentCount"), (0, .methodref 19 83), (0, .nameAndType 84 27), (0, u "componentMin"), (0, .methodref 19 86), (0, .nameAndType 87 35), (0, u "lastEntered"), (0, .methodref 19 89), (0, .nameAndType 90 35), (0, u "lastLeft"), (0, .methodref 8 92), (0, .nameAndType 93 94), (0, u "has"), (0, u "(JJI)Z"), (0, .long 18446744073709551615), (4, u "law"), (0, u "([I)Z")] 4

def k1m0 : Method := { name := "<init>", desc := "()V", sig := { parameters := [], returnType := none }, accessFlags := 1, code := none }
def k1c1 : Code := { maxStack := 2, maxLocals := 2, code := method_2_code, exceptionTable := #[], attributes := #[] }
def k1m1 : Method := { name := "cell", desc := "([II)I", sig := { parameters := [(.array .int), .int], returnType := some .int }, accessFlags := 10, code := some k1c1 }
def k1c2 : Code := { maxStack := 2, maxLocals := 3, code := method_3_code, exceptionTable := #[], attributes := #[] }
def k1m2 : Method := { name := "mod", desc := "(II)I", sig := { parameters := [.int, .int], returnType := some .int }, accessFlags := 10, code := some k1c2 }
def k1c3 : Code := { maxStack := 2, maxLocals := 2, code := method_4_code, exceptionTable := #[], attributes := #[] }
def k1m3 : Method := { name := "weight", desc := "(I)I", sig := { parameters := [.int], returnType := some .int }, accessFlags := 10, code := some k1c3 }
def k1c4 : Code := { maxStack := 2, maxLocals := 4, code := method_5_code, exceptionTable := #[], attributes := #[] }
def k1m4 : Method := { name := "precedes", desc := "(IIII)Z", sig := { parameters := [.int, .int, .int, .int], returnType := some .boolean }, accessFlags := 10, code := some k1c4 }
def k1c5 : Code := { maxStack := 4, maxLocals := 5, code := method_6_code, exceptionTable := #[], attributes := #[] }
def k1m5 : Method := { name := "has", desc := "(JJI)Z", sig := { parameters := [.long, .long, .int], returnType := some .boolean }, accessFlags := 10, code := some k1c5 }
def k1c6 : Code := { maxStack := 6, maxLocals := 52, code := code, exceptionTable := #[], attributes := #[] }
def k1m6 : Method := { name := "law", desc := "([I)Z", sig := { parameters := [(.array .int)], returnType := some .boolean }, accessFlags := 9, code := some k1c6 }
/-- DynamicMinForestOwnLaw -/
def k1 : Class := { plain "DynamicMinForestOwnLaw" (some 0) with
  accessFlags := 49
  interfaces := #[]
  cf := some (fileOf pool1 8 #[] #[{ accessFlags := 1, nameIndex := 5, descriptorIndex := 6, attributes := #[] }, { accessFlags := 10, nameIndex := 17, descriptorIndex := 18, attributes := #[] }, { accessFlags := 10, nameIndex := 11, descriptorIndex := 12, attributes := #[] }, { accessFlags := 10, nameIndex := 26, descriptorIndex := 27, attributes := #[] }, { accessFlags := 10, nameIndex := 64, descriptorIndex := 65, attributes := #[] }, { accessFlags := 10, nameIndex := 93, descriptorIndex := 94, attributes := #[] }, { accessFlags := 9, nameIndex := 100, descriptorIndex := 101, attributes := #[] }] 49 2 #[] #[])
  fields := #[]
  methods := #[k1m0, k1m1, k1m2, k1m3, k1m4, k1m5, k1m6]
  instanceTypes := #[]
  staticTypes := #[]
  resolved := Array.replicate 106 none
  statics := none }

def pool2 : Array CpInfo := pool [(1, .methodref 2 3), (0, .class_ 4), (0, .nameAndType 5 6), (0, u "java/lang/Object"), (0, u "<init>"), (0, u "()V"), (0, .fieldref 8 9), (0, .class_ 10), (0, .nameAndType 11 12), (0, u "DynamicMinForest"), (0, u "endA"), (0, u "[I"), (0, .fieldref 8 14), (0, .nameAndType 15 12), (0, u "endB"), (0, .fieldref 8 17), (0, .nameAndType 18 12), (0, u "weight"), (0, .fieldref 8 20), (0, .nameAndType 21 22), (0, u "used"), (0, u "[Z"), (0, .fieldref 8 24), (0, .nameAndType 25 22), (0, u "inTree"), (0, .fieldref 8 27), (0, .nameAndType 28 12), (0, u "adj"), (0, .fieldref 8 30), (0, .nameAndType 31 12), (0, u "deg"), (0, .fieldref 8 33), (0, .nameAndType 34 22), (0, u "seen"), (0, .fieldref 8 36), (0, .nameAndType 37 12), (0, u "parentEdge"), (0, .fieldref 8 39), (0, .nameAndType 40 12), (0, u "parentVertex"), (0, .fieldref 8 42), (0, .nameAndType 43 12), (0, u "queue"), (0, .fieldref 8 45), (0, .nameAndType 46 47), (0, u "n"), (0, u "I"), (0, .fieldref 8 49), (0, .nameAndType 50 47), (0, u "presentCount"), (0, .fieldref 8 52), (0, .nameAndType 53 47), (0, u "treeCount"), (0, .fieldref 8 55), (0, .nameAndType 56 57), (0, u "treeWeight"), (0, u "J"), (0, .fieldref 8 59), (0, .nameAndType 60 47), (0, u "entered"), (0, .fieldref 8 62), (0, .nameAndType 63 47), (0, u "left"), (0, .methodref 8 65), (0, .nameAndType 66 6), (0, u "resetSearch"), (0, .methodref 8 68), (0, .nameAndType 69 70), (0, u "validVertex"), (0, u "(I)Z"), (0, .methodref 8 72), (0, .nameAndType 73 74), (0, u "lowestFreeSlot"), (0, u "()I"), (0, .methodref 8 76), (0, .nameAndType 77 78), (0, u "clampWeight"), (0, u "(I)I"), (0, .methodref 8 80), (0, .nameAndType 81 82), (0, u "storeEdge"), (0, u "(IIII)V"), (0, .methodref 8 84), (0, .nameAndType 85 86), (0, u "insertUpdate"), (0, u "(I)V"), (0, .methodref 8 88), (0, .nameAndType 89 70), (0, u "isPresent"), (0, .methodref 8 91), (0, .nameAndType 92 86), (0, u "freeSlot"), (0, .methodref 8 94), (0, .nameAndType 95 96), (0, u "setLast"), (0, u "(II)V"), (0, .methodref 8 98), (0, .nameAndType 99 86), (0, u "cutTreeEdge"), (0, .methodref 8 101), (0, .nameAndType 102 96), (0, u "reweightTreeEdge"), (0, .methodref 8 104), (0, .nameAndType 105 70), (0, u "validId"), (0, .methodref 8 107), (0, .nameAndType 108 109), (0, u "explore"), (0, u "(II)I"), (0, .methodref 8 111), (0, .nameAndType 112 78), (0, u "heaviestOnPathTo"), (0, .methodref 8 114), (0, .nameAndType 115 70), (0, u "isTreeEdge"), (0, .methodref 8 117), (0, .nameAndType 118 74), (0, u "lightestCrossing"), (0, .methodref 8 120), (0, .nameAndType 121 86), (0, u "joinTree"), (0, .methodref 8 123), (0, .nameAndType 124 125), (0, u "precedes"), (0, u "(II)Z"), (0, .methodref 8 127), (0, .nameAndType 128 86), (0, u "leaveTree"), (0, .methodref 8 130), (0, .nameAndType 131 96), (0, u "addAdjacent"), (0, .methodref 8 133), (0, .nameAndType 134 96), (0, u "removeAdjacent"), (0, .methodref 8 136), (0, .nameAndType 137 138), (0, u "visitNeighbours"), (0, u "(III)I"), (0, .methodref 8 140), (0, .nameAndType 141 109), (0, u "otherEnd"), (0, .methodref 8 143), (0, .nameAndType 144 109), (0, u "heavier"), (0, .methodref 8 146), (0, .nameAndType 147 70), (0, u "crosses"), (0, .methodref 8 149), (0, .nameAndType 150 109), (0, u "lighter"), (0, .integer 4293967296), (0, .integer 1000000), (0, u "MIN_VERTICES"), (2, u "MAX_VERTICES"), (1, u "MAX_EDGES"), (1, u "MIN_WEIGHT"), (0, u "MAX_WEIGHT"), (0, u "NONE"), (1, u "ERR_VERTEX"), (1, u "ERR_LOOP"), (1, u "ERR_FULL"), (4, u "addEdge"), (0, u "removeEdge"), (0, u "setWeight"), (0, u "edgeEnd"), (0, u "edgeWeight"), (0, u "edgeCount"), (0, u "forestWeight"), (0, u "()J"), (0, u "forestEdgeCount"), (0, u "componentCount"), (0, u "componentMin"), (0, u "pathMaxEdge"), (0, u "replacementFor"), (0, u "lastEntered"), (0, u "lastLeft")] 2

def k2c0 : Code := { maxStack := 3, maxLocals := 4, code := prog_1_method_1_code, exceptionTable := #[], attributes := #[] }
def k2m0 : Method := { name := "<init>", desc := "(I)V", sig := { parameters := [.int], returnType := none }, accessFlags := 1, code := some k2c0 }
def k2c1 : Code := { maxStack := 5, maxLocals := 6, code := prog_1_method_2_code, exceptionTable := #[], attributes := #[] }
def k2m1 : Method := { name := "addEdge", desc := "(III)I", sig := { parameters := [.int, .int, .int], returnType := some .int }, accessFlags := 1, code := some k2c1 }
def k2c2 : Code := { maxStack := 3, maxLocals := 2, code := prog_1_method_3_code, exceptionTable := #[], attributes := #[] }
def k2m2 : Method := { name := "removeEdge", desc := "(I)Z", sig := { parameters := [.int], returnType := some .boolean }, accessFlags := 1, code := some k2c2 }
def k2c3 : Code := { maxStack := 3, maxLocals := 4, code := prog_1_method_4_code, exceptionTable := #[], attributes := #[] }
def k2m3 : Method := { name := "setWeight", desc := "(II)Z", sig := { parameters := [.int, .int], returnType := some .boolean }, accessFlags := 1, code := some k2c3 }
def k2c4 : Code := { maxStack := 2, maxLocals := 2, code := prog_1_method_5_code, exceptionTable := #[], attributes := #[] }
def k2m4 : Method := { name := "isPresent", desc := "(I)Z", sig := { parameters := [.int], returnType := some .boolean }, accessFlags := 1, code := some k2c4 }
def k2c5 : Code := { maxStack := 2, maxLocals := 2, code := prog_1_method_6_code, exceptionTable := #[], attributes := #[] }
def k2m5 : Method := { name := "isTreeEdge", desc := "(I)Z", sig := { parameters := [.int], returnType := some .boolean }, accessFlags := 1, code := some k2c5 }
def k2c6 : Code := { maxStack := 2, maxLocals := 3, code := prog_1_method_7_code, exceptionTable := #[], attributes := #[] }
def k2m6 : Method := { name := "edgeEnd", desc := "(II)I", sig := { parameters := [.int, .int], returnType := some .int }, accessFlags := 1, code := some k2c6 }
def k2c7 : Code := { maxStack := 2, maxLocals := 2, code := prog_1_method_8_code, exceptionTable := #[], attributes := #[] }
def k2m7 : Method := { name := "edgeWeight", desc := "(I)I", sig := { parameters := [.int], returnType := some .int }, accessFlags := 1, code := some k2c7 }
def k2c8 : Code := { maxStack := 1, maxLocals := 1, code := prog_1_method_9_code, exceptionTable := #[], attributes := #[] }
def k2m8 : Method := { name := "edgeCount", desc := "()I", sig := { parameters := [], returnType := some .int }, accessFlags := 1, code := some k2c8 }
def k2c9 : Code := { maxStack := 2, maxLocals := 1, code := prog_1_method_10_code, exceptionTable := #[], attributes := #[] }
def k2m9 : Method := { name := "forestWeight", desc := "()J", sig := { parameters := [], returnType := some .long }, accessFlags := 1, code := some k2c9 }
def k2c10 : Code := { maxStack := 1, maxLocals := 1, code := prog_1_method_11_code, exceptionTable := #[], attributes := #[] }
def k2m10 : Method := { name := "forestEdgeCount", desc := "()I", sig := { parameters := [], returnType := some .int }, accessFlags := 1, code := some k2c10 }
def k2c11 : Code := { maxStack := 2, maxLocals := 1, code := prog_1_method_12_code, exceptionTable := #[], attributes := #[] }
def k2m11 : Method := { name := "componentCount", desc := "()I", sig := { parameters := [], returnType := some .int }, accessFlags := 1, code := some k2c11 }
def k2c12 : Code := { maxStack := 3, maxLocals := 3, code := prog_1_method_13_code, exceptionTable := #[], attributes := #[] }
def k2m12 : Method := { name := "componentMin", desc := "(I)I", sig := { parameters := [.int], returnType := some .int }, accessFlags := 1, code := some k2c12 }
def k2c13 : Code := { maxStack := 3, maxLocals := 3, code := prog_1_method_14_code, exceptionTable := #[], attributes := #[] }
def k2m13 : Method := { name := "pathMaxEdge", desc := "(II)I", sig := { parameters := [.int, .int], returnType := some .int }, accessFlags := 1, code := some k2c13 }
def k2c14 : Code := { maxStack := 3, maxLocals := 2, code := prog_1_method_15_code, exceptionTable := #[], attributes := #[] }
def k2m14 : Method := { name := "replacementFor", desc := "(I)I", sig := { parameters := [.int], returnType := some .int }, accessFlags := 1, code := some k2c14 }
def k2c15 : Code := { maxStack := 1, maxLocals := 1, code := prog_1_method_16_code, exceptionTable := #[], attributes := #[] }
def k2m15 : Method := { name := "lastEntered", desc := "()I", sig := { parameters := [], returnType := some .int }, accessFlags := 1, code := some k2c15 }
def k2c16 : Code := { maxStack := 1, maxLocals := 1, code := prog_1_method_17_code, exceptionTable := #[], attributes := #[] }
def k2m16 : Method := { name := "lastLeft", desc := "()I", sig := { parameters := [], returnType := some .int }, accessFlags := 1, code := some k2c16 }
def k2c17 : Code := { maxStack := 3, maxLocals := 4, code := prog_1_method_18_code, exceptionTable := #[], attributes := #[] }
def k2m17 : Method := { name := "insertUpdate", desc := "(I)V", sig := { parameters := [.int], returnType := none }, accessFlags := 2, code := some k2c17 }
def k2c18 : Code := { maxStack := 3, maxLocals := 3, code := prog_1_method_19_code, exceptionTable := #[], attributes := #[] }
def k2m18 : Method := { name := "cutTreeEdge", desc := "(I)V", sig := { parameters := [.int], returnType := none }, accessFlags := 2, code := some k2c18 }
def k2c19 : Code := { maxStack := 3, maxLocals := 4, code := prog_1_method_20_code, exceptionTable := #[], attributes := #[] }
def k2m19 : Method := { name := "reweightTreeEdge", desc := "(II)V", sig := { parameters := [.int, .int], returnType := none }, accessFlags := 2, code := some k2c19 }
def k2c20 : Code := { maxStack := 2, maxLocals := 3, code := prog_1_method_21_code, exceptionTable := #[], attributes := #[] }
def k2m20 : Method := { name := "setLast", desc := "(II)V", sig := { parameters := [.int, .int], returnType := none }, accessFlags := 2, code := some k2c20 }
def k2c21 : Code := { maxStack := 2, maxLocals := 2, code := prog_1_method_22_code, exceptionTable := #[], attributes := #[] }
def k2m21 : Method := { name := "lowestFreeSlot", desc := "()I", sig := { parameters := [], returnType := some .int }, accessFlags := 2, code := some k2c21 }
def k2c22 : Code := { maxStack := 3, maxLocals := 5, code := prog_1_method_23_code, exceptionTable := #[], attributes := #[] }
def k2m22 : Method := { name := "storeEdge", desc := "(IIII)V", sig := { parameters := [.int, .int, .int, .int], returnType := none }, accessFlags := 2, code := some k2c22 }
def k2c23 : Code := { maxStack := 3, maxLocals := 2, code := prog_1_method_24_code, exceptionTable := #[], attributes := #[] }
def k2m23 : Method := { name := "freeSlot", desc := "(I)V", sig := { parameters := [.int], returnType := none }, accessFlags := 2, code := some k2c23 }
def k2c24 : Code := { maxStack := 5, maxLocals := 2, code := prog_1_method_25_code, exceptionTable := #[], attributes := #[] }
def k2m24 : Method := { name := "joinTree", desc := "(I)V", sig := { parameters := [.int], returnType := none }, accessFlags := 2, code := some k2c24 }
def k2c25 : Code := { maxStack := 5, maxLocals := 2, code := prog_1_method_26_code, exceptionTable := #[], attributes := #[] }
def k2m25 : Method := { name := "leaveTree", desc := "(I)V", sig := { parameters := [.int], returnType := none }, accessFlags := 2, code := some k2c25 }
def k2c26 : Code := { maxStack := 4, maxLocals := 3, code := prog_1_method_27_code, exceptionTable := #[], attributes := #[] }
def k2m26 : Method := { name := "addAdjacent", desc := "(II)V", sig := { parameters := [.int, .int], returnType := none }, accessFlags := 2, code := some k2c26 }
def k2c27 : Code := { maxStack := 6, maxLocals := 5, code := prog_1_method_28_code, exceptionTable := #[], attributes := #[] }
def k2m27 : Method := { name := "removeAdjacent", desc := "(II)V", sig := { parameters := [.int, .int], returnType := none }, accessFlags := 2, code := some k2c27 }
def k2c28 : Code := { maxStack := 3, maxLocals := 2, code := prog_1_method_29_code, exceptionTable := #[], attributes := #[] }
def k2m28 : Method := { name := "resetSearch", desc := "()V", sig := { parameters := [], returnType := none }, accessFlags := 2, code := some k2c28 }
def k2c29 : Code := { maxStack := 4, maxLocals := 5, code := prog_1_method_30_code, exceptionTable := #[], attributes := #[] }
def k2m29 : Method := { name := "explore", desc := "(II)I", sig := { parameters := [.int, .int], returnType := some .int }, accessFlags := 2, code := some k2c29 }
def k2c30 : Code := { maxStack := 3, maxLocals := 9, code := prog_1_method_31_code, exceptionTable := #[], attributes := #[] }
def k2m30 : Method := { name := "visitNeighbours", desc := "(III)I", sig := { parameters := [.int, .int, .int], returnType := some .int }, accessFlags := 2, code := some k2c30 }
def k2c31 : Code := { maxStack := 3, maxLocals := 6, code := prog_1_method_32_code, exceptionTable := #[], attributes := #[] }
def k2m31 : Method := { name := "heaviestOnPathTo", desc := "(I)I", sig := { parameters := [.int], returnType := some .int }, accessFlags := 2, code := some k2c31 }
def k2c32 : Code := { maxStack := 3, maxLocals := 3, code := prog_1_method_33_code, exceptionTable := #[], attributes := #[] }
def k2m32 : Method := { name := "lightestCrossing", desc := "()I", sig := { parameters := [], returnType := some .int }, accessFlags := 2, code := some k2c32 }
def k2c33 : Code := { maxStack := 3, maxLocals := 4, code := prog_1_method_34_code, exceptionTable := #[], attributes := #[] }
def k2m33 : Method := { name := "crosses", desc := "(I)Z", sig := { parameters := [.int], returnType := some .boolean }, accessFlags := 2, code := some k2c33 }
def k2c34 : Code := { maxStack := 2, maxLocals := 3, code := prog_1_method_35_code, exceptionTable := #[], attributes := #[] }
def k2m34 : Method := { name := "otherEnd", desc := "(II)I", sig := { parameters := [.int, .int], returnType := some .int }, accessFlags := 2, code := some k2c34 }
def k2c35 : Code := { maxStack := 3, maxLocals := 3, code := prog_1_method_36_code, exceptionTable := #[], attributes := #[] }
def k2m35 : Method := { name := "precedes", desc := "(II)Z", sig := { parameters := [.int, .int], returnType := some .boolean }, accessFlags := 2, code := some k2c35 }
def k2c36 : Code := { maxStack := 3, maxLocals := 3, code := prog_1_method_37_code, exceptionTable := #[], attributes := #[] }
def k2m36 : Method := { name := "lighter", desc := "(II)I", sig := { parameters := [.int, .int], returnType := some .int }, accessFlags := 2, code := some k2c36 }
def k2c37 : Code := { maxStack := 3, maxLocals := 3, code := prog_1_method_38_code, exceptionTable := #[], attributes := #[] }
def k2m37 : Method := { name := "heavier", desc := "(II)I", sig := { parameters := [.int, .int], returnType := some .int }, accessFlags := 2, code := some k2c37 }
def k2c38 : Code := { maxStack := 2, maxLocals := 2, code := prog_1_method_39_code, exceptionTable := #[], attributes := #[] }
def k2m38 : Method := { name := "validVertex", desc := "(I)Z", sig := { parameters := [.int], returnType := some .boolean }, accessFlags := 2, code := some k2c38 }
def k2c39 : Code := { maxStack := 2, maxLocals := 2, code := prog_1_method_40_code, exceptionTable := #[], attributes := #[] }
def k2m39 : Method := { name := "validId", desc := "(I)Z", sig := { parameters := [.int], returnType := some .boolean }, accessFlags := 2, code := some k2c39 }
def k2c40 : Code := { maxStack := 2, maxLocals := 2, code := prog_1_method_41_code, exceptionTable := #[], attributes := #[] }
def k2m40 : Method := { name := "clampWeight", desc := "(I)I", sig := { parameters := [.int], returnType := some .int }, accessFlags := 2, code := some k2c40 }
/-- DynamicMinForest -/
def k2 : Class := { plain "DynamicMinForest" (some 0) with
  accessFlags := 49
  interfaces := #[]
  cf := some (fileOf pool2 8 #[] #[{ accessFlags := 1, nameIndex := 5, descriptorIndex := 86, attributes := #[] }, { accessFlags := 1, nameIndex := 173, descriptorIndex := 138, attributes := #[] }, { accessFlags := 1, nameIndex := 174, descriptorIndex := 70, attributes := #[] }, { accessFlags := 1, nameIndex := 175, descriptorIndex := 125, attributes := #[] }, { accessFlags := 1, nameIndex := 89, descriptorIndex := 70, attributes := #[] }, { accessFlags := 1, nameIndex := 115, descriptorIndex := 70, attributes := #[] }, { accessFlags := 1, nameIndex := 176, descriptorIndex := 109, attributes := #[] }, { accessFlags := 1, nameIndex := 177, descriptorIndex := 78, attributes := #[] }, { accessFlags := 1, nameIndex := 178, descriptorIndex := 74, attributes := #[] }, { accessFlags := 1, nameIndex := 179, descriptorIndex := 180, attributes := #[] }, { accessFlags := 1, nameIndex := 181, descriptorIndex := 74, attributes := #[] }, { accessFlags := 1, nameIndex := 182, descriptorIndex := 74, attributes := #[] }, { accessFlags := 1, nameIndex := 183, descriptorIndex := 78, attributes := #[] }, { accessFlags := 1, nameIndex := 184, descriptorIndex := 109, attributes := #[] }, { accessFlags := 1, nameIndex := 185, descriptorIndex := 78, attributes := #[] }, { accessFlags := 1, nameIndex := 186, descriptorIndex := 74, attributes := #[] }, { accessFlags := 1, nameIndex := 187, descriptorIndex := 74, attributes := #[] }, { accessFlags := 2, nameIndex := 85, descriptorIndex := 86, attributes := #[] }, { accessFlags := 2, nameIndex := 99, descriptorIndex := 86, attributes := #[] }, { accessFlags := 2, nameIndex := 102, descriptorIndex := 96, attributes := #[] }, { accessFlags := 2, nameIndex := 95, descriptorIndex := 96, attributes := #[] }, { accessFlags := 2, nameIndex := 73, descriptorIndex := 74, attributes := #[] }, { accessFlags := 2, nameIndex := 81, descriptorIndex := 82, attributes := #[] }, { accessFlags := 2, nameIndex := 92, descriptorIndex := 86, attributes := #[] }, { accessFlags := 2, nameIndex := 121, descriptorIndex := 86, attributes := #[] }, { accessFlags := 2, nameIndex := 128, descriptorIndex := 86, attributes := #[] }, { accessFlags := 2, nameIndex := 131, descriptorIndex := 96, attributes := #[] }, { accessFlags := 2, nameIndex := 134, descriptorIndex := 96, attributes := #[] }, { accessFlags := 2, nameIndex := 66, descriptorIndex := 6, attributes := #[] }, { accessFlags := 2, nameIndex := 108, descriptorIndex := 109, attributes := #[] }, { accessFlags := 2, nameIndex := 137, descriptorIndex := 138, attributes := #[] }, { accessFlags := 2, nameIndex := 112, descriptorIndex := 78, attributes := #[] }, { accessFlags := 2, nameIndex := 118, descriptorIndex := 74, attributes := #[] }, { accessFlags := 2, nameIndex := 147, descriptorIndex := 70, attributes := #[] }, { accessFlags := 2, nameIndex := 141, descriptorIndex := 109, attributes := #[] }, { accessFlags := 2, nameIndex := 124, descriptorIndex := 125, attributes := #[] }, { accessFlags := 2, nameIndex := 150, descriptorIndex := 109, attributes := #[] }, { accessFlags := 2, nameIndex := 144, descriptorIndex := 109, attributes := #[] }, { accessFlags := 2, nameIndex := 69, descriptorIndex := 70, attributes := #[] }, { accessFlags := 2, nameIndex := 105, descriptorIndex := 70, attributes := #[] }, { accessFlags := 2, nameIndex := 77, descriptorIndex := 78, attributes := #[] }] 49 2 #[] #[{ accessFlags := 25, nameIndex := 153, descriptorIndex := 47, attributes := #[] }, { accessFlags := 25, nameIndex := 156, descriptorIndex := 47, attributes := #[] }, { accessFlags := 25, nameIndex := 158, descriptorIndex := 47, attributes := #[] }, { accessFlags := 25, nameIndex := 160, descriptorIndex := 47, attributes := #[] }, { accessFlags := 25, nameIndex := 161, descriptorIndex := 47, attributes := #[] }, { accessFlags := 25, nameIndex := 162, descriptorIndex := 47, attributes := #[] }, { accessFlags := 25, nameIndex := 164, descriptorIndex := 47, attributes := #[] }, { accessFlags := 25, nameIndex := 166, descriptorIndex := 47, attributes := #[] }, { accessFlags := 25, nameIndex := 168, descriptorIndex := 47, attributes := #[] }, { accessFlags := 2, nameIndex := 46, descriptorIndex := 47, attributes := #[] }, { accessFlags := 2, nameIndex := 11, descriptorIndex := 12, attributes := #[] }, { accessFlags := 2, nameIndex := 15, descriptorIndex := 12, attributes := #[] }, { accessFlags := 2, nameIndex := 18, descriptorIndex := 12, attributes := #[] }, { accessFlags := 2, nameIndex := 21, descriptorIndex := 22, attributes := #[] }, { accessFlags := 2, nameIndex := 25, descriptorIndex := 22, attributes := #[] }, { accessFlags := 2, nameIndex := 28, descriptorIndex := 12, attributes := #[] }, { accessFlags := 2, nameIndex := 31, descriptorIndex := 12, attributes := #[] }, { accessFlags := 2, nameIndex := 34, descriptorIndex := 22, attributes := #[] }, { accessFlags := 2, nameIndex := 37, descriptorIndex := 12, attributes := #[] }, { accessFlags := 2, nameIndex := 40, descriptorIndex := 12, attributes := #[] }, { accessFlags := 2, nameIndex := 43, descriptorIndex := 12, attributes := #[] }, { accessFlags := 2, nameIndex := 50, descriptorIndex := 47, attributes := #[] }, { accessFlags := 2, nameIndex := 53, descriptorIndex := 47, attributes := #[] }, { accessFlags := 2, nameIndex := 56, descriptorIndex := 57, attributes := #[] }, { accessFlags := 2, nameIndex := 60, descriptorIndex := 47, attributes := #[] }, { accessFlags := 2, nameIndex := 63, descriptorIndex := 47, attributes := #[] }])
  fields := #[{ name := "MIN_VERTICES", type := .int, accessFlags := 25, slot := 0, constantValue := 0 }, { name := "MAX_VERTICES", type := .int, accessFlags := 25, slot := 1, constantValue := 0 }, { name := "MAX_EDGES", type := .int, accessFlags := 25, slot := 2, constantValue := 0 }, { name := "MIN_WEIGHT", type := .int, accessFlags := 25, slot := 3, constantValue := 0 }, { name := "MAX_WEIGHT", type := .int, accessFlags := 25, slot := 4, constantValue := 0 }, { name := "NONE", type := .int, accessFlags := 25, slot := 5, constantValue := 0 }, { name := "ERR_VERTEX", type := .int, accessFlags := 25, slot := 6, constantValue := 0 }, { name := "ERR_LOOP", type := .int, accessFlags := 25, slot := 7, constantValue := 0 }, { name := "ERR_FULL", type := .int, accessFlags := 25, slot := 8, constantValue := 0 }, { name := "n", type := .int, accessFlags := 2, slot := 0, constantValue := 0 }, { name := "endA", type := (.array .int), accessFlags := 2, slot := 1, constantValue := 0 }, { name := "endB", type := (.array .int), accessFlags := 2, slot := 2, constantValue := 0 }, { name := "weight", type := (.array .int), accessFlags := 2, slot := 3, constantValue := 0 }, { name := "used", type := (.array .boolean), accessFlags := 2, slot := 4, constantValue := 0 }, { name := "inTree", type := (.array .boolean), accessFlags := 2, slot := 5, constantValue := 0 }, { name := "adj", type := (.array .int), accessFlags := 2, slot := 6, constantValue := 0 }, { name := "deg", type := (.array .int), accessFlags := 2, slot := 7, constantValue := 0 }, { name := "seen", type := (.array .boolean), accessFlags := 2, slot := 8, constantValue := 0 }, { name := "parentEdge", type := (.array .int), accessFlags := 2, slot := 9, constantValue := 0 }, { name := "parentVertex", type := (.array .int), accessFlags := 2, slot := 10, constantValue := 0 }, { name := "queue", type := (.array .int), accessFlags := 2, slot := 11, constantValue := 0 }, { name := "presentCount", type := .int, accessFlags := 2, slot := 12, constantValue := 0 }, { name := "treeCount", type := .int, accessFlags := 2, slot := 13, constantValue := 0 }, { name := "treeWeight", type := .long, accessFlags := 2, slot := 14, constantValue := 0 }, { name := "entered", type := .int, accessFlags := 2, slot := 15, constantValue := 0 }, { name := "left", type := .int, accessFlags := 2, slot := 16, constantValue := 0 }]
  methods := #[k2m0, k2m1, k2m2, k2m3, k2m4, k2m5, k2m6, k2m7, k2m8, k2m9, k2m10, k2m11, k2m12, k2m13, k2m14, k2m15, k2m16, k2m17, k2m18, k2m19, k2m20, k2m21, k2m22, k2m23, k2m24, k2m25, k2m26, k2m27, k2m28, k2m29, k2m30, k2m31, k2m32, k2m33, k2m34, k2m35, k2m36, k2m37, k2m38, k2m39, k2m40]
  instanceTypes := #[.int, (.array .int), (.array .int), (.array .int), (.array .boolean), (.array .boolean), (.array .int), (.array .int), (.array .boolean), (.array .int), (.array .int), (.array .int), .int, .int, .long, .int, .int]
  staticTypes := #[.int, .int, .int, .int, .int, .int, .int, .int, .int]
  resolved := Array.replicate 190 none
  statics := none }

def pool3 : Array CpInfo := pool [(1, u "java/lang/Cloneable"), (0, .class_ 1), (0, u "java/lang/Object"), (0, .class_ 3)] 3

/-- java/lang/Cloneable -/
def k3 : Class := { plain "java/lang/Cloneable" (some 0) with
  accessFlags := 1537
  interfaces := #[]
  cf := some (fileOf pool3 2 #[] #[] 1537 4 #[] #[])
  fields := #[]
  methods := #[]
  instanceTypes := #[]
  staticTypes := #[]
  resolved := Array.replicate 8 none
  statics := none }

def pool4 : Array CpInfo := pool [(1, u "java/io/Serializable"), (0, .class_ 1), (0, u "java/lang/Object"), (0, .class_ 3)] 3

/-- java/io/Serializable -/
def k4 : Class := { plain "java/io/Serializable" (some 0) with
  accessFlags := 1537
  interfaces := #[]
  cf := some (fileOf pool4 2 #[] #[] 1537 4 #[] #[])
  fields := #[]
  methods := #[]
  instanceTypes := #[]
  staticTypes := #[]
  resolved := Array.replicate 8 none
  statics := none }

/-- the primitive boolean -/
def k5 : Class := { plain "boolean" none with kind := .primitive 'Z', accessFlags := 0x411 }
/-- [Z -/
def k6 : Class := { plain "[Z" (some 0) with kind := .array 5 .boolean, interfaces := #[3, 4], accessFlags := 1041 }

/-- the primitive byte -/
def k7 : Class := { plain "byte" none with kind := .primitive 'B', accessFlags := 0x411 }
/-- [B -/
def k8 : Class := { plain "[B" (some 0) with kind := .array 7 .byte, interfaces := #[3, 4], accessFlags := 1041 }

/-- the primitive int -/
def k9 : Class := { plain "int" none with kind := .primitive 'I', accessFlags := 0x411 }
/-- [I -/
def k10 : Class := { plain "[I" (some 0) with kind := .array 9 .int, interfaces := #[3, 4], accessFlags := 1041 }

def heap : Heap := #[{ cls := 10, slots := #[.int 0, .int 3, .int 5, .int 1], vm := .none }]
def classes : Array Class := #[k0, k1, k2, k3, k4, k5, k6, k7, k8, k9, k10]
def interned : List (Array UInt16 × Addr) := []
def slotsUsed : Nat := 4
def theMethod : MethodId := ⟨1, 6⟩
def args0 : Array Value := #[.ref 0]
def aboutOver (below : List Frame) : State where
  vm := { classes := classes, interned := interned.toArray }
  heap := heap
  slotsUsed := slotsUsed
  threads := #[{ frames := .invoking theMethod args0 :: below }]
def below0 : List Frame := [.native { method := ⟨0, 0⟩, args := #[] }]
def about1 : State := aboutOver below0
def p0 : Program := .bare "" "" ""
def e0 : Env := launch0.env 0 0 0
theorem w_frames : about1.frames = Frame.invoking theMethod args0 :: below0 := rfl
set_option maxRecDepth 65536 in
theorem w_args : argsFit about1.vm theMethod args0 = true := by decide +kernel
set_option maxRecDepth 65536 in
theorem w_heap : heapFits about1 = true := by decide +kernel
set_option maxRecDepth 65536 in
theorem w_runnable : about1.curStatus? = some .runnable := by decide +kernel
set_option maxRecDepth 65536 in
theorem w_alone : about1.alone = true := by decide +kernel
set_option maxRecDepth 65536 in
theorem w_named : about1.methodNamed? x = some theMethod := by decide +kernel
set_option maxRecDepth 65536 in
theorem w_hears : about1.hears theMethod below0 = true := by decide +kernel
set_option maxRecDepth 65536 in
theorem w_ripe : about1.ripe theMethod args0 below0 = true := by decide +kernel
theorem w_running : about1.status = .running := rfl
set_option maxRecDepth 65536 in
theorem w_room : about1.hasRoom e0.platform room_1 = true :=
  launch0.hasRoom_least _ room_1 (by decide +kernel) (by decide +kernel) (by decide +kernel) (by decide +kernel) (by decide +kernel) (by decide +kernel)
theorem allAtoms_all (ts : List Jvm.Cond) (a : Array Jvm.Value) (st : Jvm.State) : (allAtoms ts).before a st = ts.all (fun c => c.before a st) := by
  induction ts with
  | nil => rfl
  | cons c t ih =>
    show (Jvm.Cond.and c (allAtoms t)).before a st = _
    rw [Jvm.Cond.before_and, ih, List.all_cons]
def words1 : List Jvm.Cond := Jvm.Cond.code x code maxLocals ret :: tables_1
/-- a 'code' word, met by the world's own term for the bytes: nothing is compared byte by byte -/
theorem code_word {y : MethodName} {bytes : ByteArray} {mx : Nat} {rt : Option FieldType} {a : Array Value} {s : State} {m : MethodId} {meth : Method} {c : Code} (h1 : s.methodNamed? y = some m) (h2 : s.vm.method? m = some meth) (h3 : meth.code = some c) (h4 : c.code = bytes)
    (h5 : (c.maxLocals == mx && c.exceptionTable.isEmpty && decide (c.maxStack ≤ mostOperands) && decide (meth.sig.returnType = rt) && !meth.locks && decide (parseMethodDescriptor y.desc = some meth.sig)) = true) : (Jvm.Cond.code y bytes mx rt).before a s = true := by
  simp only [Bool.and_eq_true, beq_iff_eq, Bool.not_eq_true', decide_eq_true_eq] at h5
  obtain ⟨⟨⟨⟨⟨g1, g2⟩, g3⟩, g4⟩, g5⟩, g6⟩ := h5
  simp [Cond.before, Cond.holds, Cond.value, h1, h2, h3, h4, g1, g2, g3, g4, g5, g6]
def isCode : Jvm.Cond → Bool
  | .code _ _ _ _ => true
  | _ => false
theorem all_split {L : List Jvm.Cond} {P : Jvm.Cond → Bool} (h1 : L.all (fun c => isCode c || P c) = true) (h2 : ∀ c ∈ L.filter isCode, P c = true) : L.all P = true := by
  refine List.all_eq_true.mpr fun c hc => ?_
  have h := List.all_eq_true.mp h1 c hc
  rcases Bool.eq_false_or_eq_true (isCode c) with hi | hi
  · exact h2 c (List.mem_filter.mpr ⟨hc, hi⟩)
  · simpa [hi] using h
set_option maxRecDepth 65536 in
theorem w_c0 : (Jvm.Cond.code x code maxLocals ret).before args0 about1 = true := code_word (m := ⟨1, 6⟩) (meth := k1m6) (c := k1c6) (by decide +kernel) rfl rfl rfl (by decide +kernel)
set_option maxRecDepth 65536 in
theorem w_c1 : (Jvm.Cond.code ({ cls := "DynamicMinForestOwnLaw", name := "cell", desc := "([II)I" } : Jvm.MethodName) method_2_code (2 : Nat) (Option.some Jvm.ClassFile.FieldType.int)).before args0 about1 = true := code_word (m := ⟨1, 1⟩) (meth := k1m1) (c := k1c1) (by decide +kernel) rfl rfl rfl (by decide +kernel)
set_option maxRecDepth 65536 in
theorem w_c2 : (Jvm.Cond.code ({ cls := "DynamicMinForestOwnLaw", name := "mod", desc := "(II)I" } : Jvm.MethodName) method_3_code (3 : Nat) (Option.some Jvm.ClassFile.FieldType.int)).before args0 about1 = true := code_word (m := ⟨1, 2⟩) (meth := k1m2) (c := k1c2) (by decide +kernel) rfl rfl rfl (by decide +kernel)
set_option maxRecDepth 65536 in
theorem w_c3 : (Jvm.Cond.code ({ cls := "DynamicMinForest", name := "<init>", desc := "(I)V" } : Jvm.MethodName) prog_1_method_1_code (4 : Nat) (Option.none : Option Jvm.ClassFile.FieldType)).before args0 about1 = true := code_word (m := ⟨2, 0⟩) (meth := k2m0) (c := k2c0) (by decide +kernel) rfl rfl rfl (by decide +kernel)
set_option maxRecDepth 65536 in
theorem w_c4 : (Jvm.Cond.code ({ cls := "java/lang/Object", name := "<init>", desc := "()V" } : Jvm.MethodName) object_method_1_code (1 : Nat) (Option.none : Option Jvm.ClassFile.FieldType)).before args0 about1 = true := code_word (m := ⟨0, 0⟩) (meth := k0m0) (c := k0c0) (by decide +kernel) rfl rfl rfl (by decide +kernel)
set_option maxRecDepth 65536 in
theorem w_c5 : (Jvm.Cond.code ({ cls := "DynamicMinForest", name := "resetSearch", desc := "()V" } : Jvm.MethodName) prog_1_method_29_code (2 : Nat) (Option.none : Option Jvm.ClassFile.FieldType)).before args0 about1 = true := code_word (m := ⟨2, 28⟩) (meth := k2m28) (c := k2c28) (by decide +kernel) rfl rfl rfl (by decide +kernel)
set_option maxRecDepth 65536 in
theorem w_c6 : (Jvm.Cond.code ({ cls := "DynamicMinForest", name := "isTreeEdge", desc := "(I)Z" } : Jvm.MethodName) prog_1_method_6_code (2 : Nat) (Option.some Jvm.ClassFile.FieldType.boolean)).before args0 about1 = true := code_word (m := ⟨2, 5⟩) (meth := k2m5) (c := k2c5) (by decide +kernel) rfl rfl rfl (by decide +kernel)
set_option maxRecDepth 65536 in
theorem w_c7 : (Jvm.Cond.code ({ cls := "DynamicMinForest", name := "validId", desc := "(I)Z" } : Jvm.MethodName) prog_1_method_40_code (2 : Nat) (Option.some Jvm.ClassFile.FieldType.boolean)).before args0 about1 = true := code_word (m := ⟨2, 39⟩) (meth := k2m39) (c := k2c39) (by decide +kernel) rfl rfl rfl (by decide +kernel)
set_option maxRecDepth 65536 in
theorem w_c8 : (Jvm.Cond.code ({ cls := "DynamicMinForest", name := "isPresent", desc := "(I)Z" } : Jvm.MethodName) prog_1_method_5_code (2 : Nat) (Option.some Jvm.ClassFile.FieldType.boolean)).before args0 about1 = true := code_word (m := ⟨2, 4⟩) (meth := k2m4) (c := k2c4) (by decide +kernel) rfl rfl rfl (by decide +kernel)
set_option maxRecDepth 65536 in
theorem w_c9 : (Jvm.Cond.code ({ cls := "DynamicMinForest", name := "forestWeight", desc := "()J" } : Jvm.MethodName) prog_1_method_10_code (1 : Nat) (Option.some Jvm.ClassFile.FieldType.long)).before args0 about1 = true := code_word (m := ⟨2, 9⟩) (meth := k2m9) (c := k2c9) (by decide +kernel) rfl rfl rfl (by decide +kernel)
set_option maxRecDepth 65536 in
theorem w_c10 : (Jvm.Cond.code ({ cls := "DynamicMinForest", name := "forestEdgeCount", desc := "()I" } : Jvm.MethodName) prog_1_method_11_code (1 : Nat) (Option.some Jvm.ClassFile.FieldType.int)).before args0 about1 = true := code_word (m := ⟨2, 10⟩) (meth := k2m10) (c := k2c10) (by decide +kernel) rfl rfl rfl (by decide +kernel)
set_option maxRecDepth 65536 in
theorem w_c11 : (Jvm.Cond.code ({ cls := "DynamicMinForest", name := "componentCount", desc := "()I" } : Jvm.MethodName) prog_1_method_12_code (1 : Nat) (Option.some Jvm.ClassFile.FieldType.int)).before args0 about1 = true := code_word (m := ⟨2, 11⟩) (meth := k2m11) (c := k2c11) (by decide +kernel) rfl rfl rfl (by decide +kernel)
set_option maxRecDepth 65536 in
theorem w_c12 : (Jvm.Cond.code ({ cls := "DynamicMinForest", name := "componentMin", desc := "(I)I" } : Jvm.MethodName) prog_1_method_13_code (3 : Nat) (Option.some Jvm.ClassFile.FieldType.int)).before args0 about1 = true := code_word (m := ⟨2, 12⟩) (meth := k2m12) (c := k2c12) (by decide +kernel) rfl rfl rfl (by decide +kernel)
set_option maxRecDepth 65536 in
theorem w_c13 : (Jvm.Cond.code ({ cls := "DynamicMinForest", name := "validVertex", desc := "(I)Z" } : Jvm.MethodName) prog_1_method_39_code (2 : Nat) (Option.some Jvm.ClassFile.FieldType.boolean)).before args0 about1 = true := code_word (m := ⟨2, 38⟩) (meth := k2m38) (c := k2c38) (by decide +kernel) rfl rfl rfl (by decide +kernel)
set_option maxRecDepth 65536 in
theorem w_c14 : (Jvm.Cond.code ({ cls := "DynamicMinForest", name := "explore", desc := "(II)I" } : Jvm.MethodName) prog_1_method_30_code (5 : Nat) (Option.some Jvm.ClassFile.FieldType.int)).before args0 about1 = true := code_word (m := ⟨2, 29⟩) (meth := k2m29) (c := k2c29) (by decide +kernel) rfl rfl rfl (by decide +kernel)
set_option maxRecDepth 65536 in
theorem w_c15 : (Jvm.Cond.code ({ cls := "DynamicMinForest", name := "visitNeighbours", desc := "(III)I" } : Jvm.MethodName) prog_1_method_31_code (9 : Nat) (Option.some Jvm.ClassFile.FieldType.int)).before args0 about1 = true := code_word (m := ⟨2, 30⟩) (meth := k2m30) (c := k2c30) (by decide +kernel) rfl rfl rfl (by decide +kernel)
set_option maxRecDepth 65536 in
theorem w_c16 : (Jvm.Cond.code ({ cls := "DynamicMinForest", name := "edgeCount", desc := "()I" } : Jvm.MethodName) prog_1_method_9_code (1 : Nat) (Option.some Jvm.ClassFile.FieldType.int)).before args0 about1 = true := code_word (m := ⟨2, 8⟩) (meth := k2m8) (c := k2c8) (by decide +kernel) rfl rfl rfl (by decide +kernel)
set_option maxRecDepth 65536 in
theorem w_c17 : (Jvm.Cond.code ({ cls := "DynamicMinForest", name := "lastEntered", desc := "()I" } : Jvm.MethodName) prog_1_method_16_code (1 : Nat) (Option.some Jvm.ClassFile.FieldType.int)).before args0 about1 = true := code_word (m := ⟨2, 15⟩) (meth := k2m15) (c := k2c15) (by decide +kernel) rfl rfl rfl (by decide +kernel)
set_option maxRecDepth 65536 in
theorem w_c18 : (Jvm.Cond.code ({ cls := "DynamicMinForest", name := "lastLeft", desc := "()I" } : Jvm.MethodName) prog_1_method_17_code (1 : Nat) (Option.some Jvm.ClassFile.FieldType.int)).before args0 about1 = true := code_word (m := ⟨2, 16⟩) (meth := k2m16) (c := k2c16) (by decide +kernel) rfl rfl rfl (by decide +kernel)
set_option maxRecDepth 65536 in
theorem w_c19 : (Jvm.Cond.code ({ cls := "DynamicMinForestOwnLaw", name := "weight", desc := "(I)I" } : Jvm.MethodName) method_4_code (2 : Nat) (Option.some Jvm.ClassFile.FieldType.int)).before args0 about1 = true := code_word (m := ⟨1, 3⟩) (meth := k1m3) (c := k1c3) (by decide +kernel) rfl rfl rfl (by decide +kernel)
set_option maxRecDepth 65536 in
theorem w_c20 : (Jvm.Cond.code ({ cls := "DynamicMinForest", name := "addEdge", desc := "(III)I" } : Jvm.MethodName) prog_1_method_2_code (6 : Nat) (Option.some Jvm.ClassFile.FieldType.int)).before args0 about1 = true := code_word (m := ⟨2, 1⟩) (meth := k2m1) (c := k2c1) (by decide +kernel) rfl rfl rfl (by decide +kernel)
set_option maxRecDepth 65536 in
theorem w_c21 : (Jvm.Cond.code ({ cls := "DynamicMinForest", name := "lowestFreeSlot", desc := "()I" } : Jvm.MethodName) prog_1_method_22_code (2 : Nat) (Option.some Jvm.ClassFile.FieldType.int)).before args0 about1 = true := code_word (m := ⟨2, 21⟩) (meth := k2m21) (c := k2c21) (by decide +kernel) rfl rfl rfl (by decide +kernel)
set_option maxRecDepth 65536 in
theorem w_c22 : (Jvm.Cond.code ({ cls := "DynamicMinForest", name := "clampWeight", desc := "(I)I" } : Jvm.MethodName) prog_1_method_41_code (2 : Nat) (Option.some Jvm.ClassFile.FieldType.int)).before args0 about1 = true := code_word (m := ⟨2, 40⟩) (meth := k2m40) (c := k2c40) (by decide +kernel) rfl rfl rfl (by decide +kernel)
set_option maxRecDepth 65536 in
theorem w_c23 : (Jvm.Cond.code ({ cls := "DynamicMinForest", name := "storeEdge", desc := "(IIII)V" } : Jvm.MethodName) prog_1_method_23_code (5 : Nat) (Option.none : Option Jvm.ClassFile.FieldType)).before args0 about1 = true := code_word (m := ⟨2, 22⟩) (meth := k2m22) (c := k2c22) (by decide +kernel) rfl rfl rfl (by decide +kernel)
set_option maxRecDepth 65536 in
theorem w_c24 : (Jvm.Cond.code ({ cls := "DynamicMinForest", name := "insertUpdate", desc := "(I)V" } : Jvm.MethodName) prog_1_method_18_code (4 : Nat) (Option.none : Option Jvm.ClassFile.FieldType)).before args0 about1 = true := code_word (m := ⟨2, 17⟩) (meth := k2m17) (c := k2c17) (by decide +kernel) rfl rfl rfl (by decide +kernel)
set_option maxRecDepth 65536 in
theorem w_c25 : (Jvm.Cond.code ({ cls := "DynamicMinForest", name := "joinTree", desc := "(I)V" } : Jvm.MethodName) prog_1_method_25_code (2 : Nat) (Option.none : Option Jvm.ClassFile.FieldType)).before args0 about1 = true := code_word (m := ⟨2, 24⟩) (meth := k2m24) (c := k2c24) (by decide +kernel) rfl rfl rfl (by decide +kernel)
set_option maxRecDepth 65536 in
theorem w_c26 : (Jvm.Cond.code ({ cls := "DynamicMinForest", name := "addAdjacent", desc := "(II)V" } : Jvm.MethodName) prog_1_method_27_code (3 : Nat) (Option.none : Option Jvm.ClassFile.FieldType)).before args0 about1 = true := code_word (m := ⟨2, 26⟩) (meth := k2m26) (c := k2c26) (by decide +kernel) rfl rfl rfl (by decide +kernel)
set_option maxRecDepth 65536 in
theorem w_c27 : (Jvm.Cond.code ({ cls := "DynamicMinForest", name := "setLast", desc := "(II)V" } : Jvm.MethodName) prog_1_method_21_code (3 : Nat) (Option.none : Option Jvm.ClassFile.FieldType)).before args0 about1 = true := code_word (m := ⟨2, 20⟩) (meth := k2m20) (c := k2c20) (by decide +kernel) rfl rfl rfl (by decide +kernel)
set_option maxRecDepth 65536 in
theorem w_c28 : (Jvm.Cond.code ({ cls := "DynamicMinForest", name := "edgeEnd", desc := "(II)I" } : Jvm.MethodName) prog_1_method_7_code (3 : Nat) (Option.some Jvm.ClassFile.FieldType.int)).before args0 about1 = true := code_word (m := ⟨2, 6⟩) (meth := k2m6) (c := k2c6) (by decide +kernel) rfl rfl rfl (by decide +kernel)
set_option maxRecDepth 65536 in
theorem w_c29 : (Jvm.Cond.code ({ cls := "DynamicMinForest", name := "edgeWeight", desc := "(I)I" } : Jvm.MethodName) prog_1_method_8_code (2 : Nat) (Option.some Jvm.ClassFile.FieldType.int)).before args0 about1 = true := code_word (m := ⟨2, 7⟩) (meth := k2m7) (c := k2c7) (by decide +kernel) rfl rfl rfl (by decide +kernel)
set_option maxRecDepth 65536 in
theorem w_c30 : (Jvm.Cond.code ({ cls := "DynamicMinForest", name := "replacementFor", desc := "(I)I" } : Jvm.MethodName) prog_1_method_15_code (2 : Nat) (Option.some Jvm.ClassFile.FieldType.int)).before args0 about1 = true := code_word (m := ⟨2, 14⟩) (meth := k2m14) (c := k2c14) (by decide +kernel) rfl rfl rfl (by decide +kernel)
set_option maxRecDepth 65536 in
theorem w_c31 : (Jvm.Cond.code ({ cls := "DynamicMinForest", name := "lightestCrossing", desc := "()I" } : Jvm.MethodName) prog_1_method_33_code (3 : Nat) (Option.some Jvm.ClassFile.FieldType.int)).before args0 about1 = true := code_word (m := ⟨2, 32⟩) (meth := k2m32) (c := k2c32) (by decide +kernel) rfl rfl rfl (by decide +kernel)
set_option maxRecDepth 65536 in
theorem w_c32 : (Jvm.Cond.code ({ cls := "DynamicMinForest", name := "otherEnd", desc := "(II)I" } : Jvm.MethodName) prog_1_method_35_code (3 : Nat) (Option.some Jvm.ClassFile.FieldType.int)).before args0 about1 = true := code_word (m := ⟨2, 34⟩) (meth := k2m34) (c := k2c34) (by decide +kernel) rfl rfl rfl (by decide +kernel)
set_option maxRecDepth 65536 in
theorem w_c33 : (Jvm.Cond.code ({ cls := "DynamicMinForestOwnLaw", name := "has", desc := "(JJI)Z" } : Jvm.MethodName) method_6_code (5 : Nat) (Option.some Jvm.ClassFile.FieldType.boolean)).before args0 about1 = true := code_word (m := ⟨1, 5⟩) (meth := k1m5) (c := k1c5) (by decide +kernel) rfl rfl rfl (by decide +kernel)
set_option maxRecDepth 65536 in
theorem w_c34 : (Jvm.Cond.code ({ cls := "DynamicMinForestOwnLaw", name := "precedes", desc := "(IIII)Z" } : Jvm.MethodName) method_5_code (4 : Nat) (Option.some Jvm.ClassFile.FieldType.boolean)).before args0 about1 = true := code_word (m := ⟨1, 4⟩) (meth := k1m4) (c := k1c4) (by decide +kernel) rfl rfl rfl (by decide +kernel)
set_option maxRecDepth 65536 in
theorem w_c35 : (Jvm.Cond.code ({ cls := "DynamicMinForest", name := "heaviestOnPathTo", desc := "(I)I" } : Jvm.MethodName) prog_1_method_32_code (6 : Nat) (Option.some Jvm.ClassFile.FieldType.int)).before args0 about1 = true := code_word (m := ⟨2, 31⟩) (meth := k2m31) (c := k2c31) (by decide +kernel) rfl rfl rfl (by decide +kernel)
set_option maxRecDepth 65536 in
theorem w_c36 : (Jvm.Cond.code ({ cls := "DynamicMinForest", name := "heavier", desc := "(II)I" } : Jvm.MethodName) prog_1_method_38_code (3 : Nat) (Option.some Jvm.ClassFile.FieldType.int)).before args0 about1 = true := code_word (m := ⟨2, 37⟩) (meth := k2m37) (c := k2c37) (by decide +kernel) rfl rfl rfl (by decide +kernel)
set_option maxRecDepth 65536 in
theorem w_c37 : (Jvm.Cond.code ({ cls := "DynamicMinForest", name := "precedes", desc := "(II)Z" } : Jvm.MethodName) prog_1_method_36_code (3 : Nat) (Option.some Jvm.ClassFile.FieldType.boolean)).before args0 about1 = true := code_word (m := ⟨2, 35⟩) (meth := k2m35) (c := k2c35) (by decide +kernel) rfl rfl rfl (by decide +kernel)
set_option maxRecDepth 65536 in
theorem w_c38 : (Jvm.Cond.code ({ cls := "DynamicMinForest", name := "leaveTree", desc := "(I)V" } : Jvm.MethodName) prog_1_method_26_code (2 : Nat) (Option.none : Option Jvm.ClassFile.FieldType)).before args0 about1 = true := code_word (m := ⟨2, 25⟩) (meth := k2m25) (c := k2c25) (by decide +kernel) rfl rfl rfl (by decide +kernel)
set_option maxRecDepth 65536 in
theorem w_c39 : (Jvm.Cond.code ({ cls := "DynamicMinForest", name := "removeAdjacent", desc := "(II)V" } : Jvm.MethodName) prog_1_method_28_code (5 : Nat) (Option.none : Option Jvm.ClassFile.FieldType)).before args0 about1 = true := code_word (m := ⟨2, 27⟩) (meth := k2m27) (c := k2c27) (by decide +kernel) rfl rfl rfl (by decide +kernel)
set_option maxRecDepth 65536 in
theorem w_c40 : (Jvm.Cond.code ({ cls := "DynamicMinForest", name := "pathMaxEdge", desc := "(II)I" } : Jvm.MethodName) prog_1_method_14_code (3 : Nat) (Option.some Jvm.ClassFile.FieldType.int)).before args0 about1 = true := code_word (m := ⟨2, 13⟩) (meth := k2m13) (c := k2c13) (by decide +kernel) rfl rfl rfl (by decide +kernel)
set_option maxRecDepth 65536 in
theorem w_c41 : (Jvm.Cond.code ({ cls := "DynamicMinForest", name := "crosses", desc := "(I)Z" } : Jvm.MethodName) prog_1_method_34_code (4 : Nat) (Option.some Jvm.ClassFile.FieldType.boolean)).before args0 about1 = true := code_word (m := ⟨2, 33⟩) (meth := k2m33) (c := k2c33) (by decide +kernel) rfl rfl rfl (by decide +kernel)
set_option maxRecDepth 65536 in
theorem w_c42 : (Jvm.Cond.code ({ cls := "DynamicMinForest", name := "lighter", desc := "(II)I" } : Jvm.MethodName) prog_1_method_37_code (3 : Nat) (Option.some Jvm.ClassFile.FieldType.int)).before args0 about1 = true := code_word (m := ⟨2, 36⟩) (meth := k2m36) (c := k2c36) (by decide +kernel) rfl rfl rfl (by decide +kernel)
set_option maxRecDepth 65536 in
theorem w_c43 : (Jvm.Cond.code ({ cls := "DynamicMinForest", name := "removeEdge", desc := "(I)Z" } : Jvm.MethodName) prog_1_method_3_code (2 : Nat) (Option.some Jvm.ClassFile.FieldType.boolean)).before args0 about1 = true := code_word (m := ⟨2, 2⟩) (meth := k2m2) (c := k2c2) (by decide +kernel) rfl rfl rfl (by decide +kernel)
set_option maxRecDepth 65536 in
theorem w_c44 : (Jvm.Cond.code ({ cls := "DynamicMinForest", name := "setWeight", desc := "(II)Z" } : Jvm.MethodName) prog_1_method_4_code (4 : Nat) (Option.some Jvm.ClassFile.FieldType.boolean)).before args0 about1 = true := code_word (m := ⟨2, 3⟩) (meth := k2m3) (c := k2c3) (by decide +kernel) rfl rfl rfl (by decide +kernel)
set_option maxRecDepth 65536 in
theorem w_c45 : (Jvm.Cond.code ({ cls := "DynamicMinForest", name := "reweightTreeEdge", desc := "(II)V" } : Jvm.MethodName) prog_1_method_20_code (4 : Nat) (Option.none : Option Jvm.ClassFile.FieldType)).before args0 about1 = true := code_word (m := ⟨2, 19⟩) (meth := k2m19) (c := k2c19) (by decide +kernel) rfl rfl rfl (by decide +kernel)
set_option maxRecDepth 65536 in
theorem w_c46 : (Jvm.Cond.code ({ cls := "DynamicMinForest", name := "cutTreeEdge", desc := "(I)V" } : Jvm.MethodName) prog_1_method_19_code (3 : Nat) (Option.none : Option Jvm.ClassFile.FieldType)).before args0 about1 = true := code_word (m := ⟨2, 18⟩) (meth := k2m18) (c := k2c18) (by decide +kernel) rfl rfl rfl (by decide +kernel)
set_option maxRecDepth 65536 in
theorem w_c47 : (Jvm.Cond.code ({ cls := "DynamicMinForest", name := "freeSlot", desc := "(I)V" } : Jvm.MethodName) prog_1_method_24_code (2 : Nat) (Option.none : Option Jvm.ClassFile.FieldType)).before args0 about1 = true := code_word (m := ⟨2, 23⟩) (meth := k2m23) (c := k2c23) (by decide +kernel) rfl rfl rfl (by decide +kernel)
def codes1 : List Jvm.Cond := [Jvm.Cond.code x code maxLocals ret, Jvm.Cond.code ({ cls := "DynamicMinForestOwnLaw", name := "cell", desc := "([II)I" } : Jvm.MethodName) method_2_code (2 : Nat) (Option.some Jvm.ClassFile.FieldType.int), Jvm.Cond.code ({ cls := "DynamicMinForestOwnLaw", name := "mod", desc := "(II)I" } : Jvm.MethodName) method_3_code (3 : Nat) (Option.some Jvm.ClassFile.FieldType.int), Jvm.Cond.code ({ cls := "DynamicMinForest", name := "<init>", desc := "(I)V" } : Jvm.MethodName) prog_1_method_1_code (4 : Nat) (Option.none : Option Jvm.ClassFile.FieldType), Jvm.Cond.code ({ cls := "java/lang/Object", name := "<init>", desc := "()V" } : Jvm.MethodName) object_method_1_code (1 : Nat) (Option.none : Option Jvm.ClassFile.FieldType), Jvm.Cond.code ({ cls := "DynamicMinForest", name := "resetSearch", desc := "()V" } : Jvm.MethodName) prog_1_method_29_code (2 : Nat) (Option.none : Option Jvm.ClassFile.FieldType), Jvm.Cond.code ({ cls := "DynamicMinForest", name := "isTreeEdge", desc := "(I)Z" } : Jvm.MethodName) prog_1_method_6_code (2 : Nat) (Option.some Jvm.ClassFile.FieldType.boolean), Jvm.Cond.code ({ cls := "DynamicMinForest", name := "validId", desc := "(I)Z" } : Jvm.MethodName) prog_1_method_40_code (2 : Nat) (Option.some Jvm.ClassFile.FieldType.boolean), Jvm.Cond.code ({ cls := "DynamicMinForest", name := "isPresent", desc := "(I)Z" } : Jvm.MethodName) prog_1_method_5_code (2 : Nat) (Option.some Jvm.ClassFile.FieldType.boolean), Jvm.Cond.code ({ cls := "DynamicMinForest", name := "forestWeight", desc := "()J" } : Jvm.MethodName) prog_1_method_10_code (1 : Nat) (Option.some Jvm.ClassFile.FieldType.long), Jvm.Cond.code ({ cls := "DynamicMinForest", name := "forestEdgeCount", desc := "()I" } : Jvm.MethodName) prog_1_method_11_code (1 : Nat) (Option.some Jvm.ClassFile.FieldType.int), Jvm.Cond.code ({ cls := "DynamicMinForest", name := "componentCount", desc := "()I" } : Jvm.MethodName) prog_1_method_12_code (1 : Nat) (Option.some Jvm.ClassFile.FieldType.int), Jvm.Cond.code ({ cls := "DynamicMinForest", name := "componentMin", desc := "(I)I" } : Jvm.MethodName) prog_1_method_13_code (3 : Nat) (Option.some Jvm.ClassFile.FieldType.int), Jvm.Cond.code ({ cls := "DynamicMinForest", name := "validVertex", desc := "(I)Z" } : Jvm.MethodName) prog_1_method_39_code (2 : Nat) (Option.some Jvm.ClassFile.FieldType.boolean), Jvm.Cond.code ({ cls := "DynamicMinForest", name := "explore", desc := "(II)I" } : Jvm.MethodName) prog_1_method_30_code (5 : Nat) (Option.some Jvm.ClassFile.FieldType.int), Jvm.Cond.code ({ cls := "DynamicMinForest", name := "visitNeighbours", desc := "(III)I" } : Jvm.MethodName) prog_1_method_31_code (9 : Nat) (Option.some Jvm.ClassFile.FieldType.int), Jvm.Cond.code ({ cls := "DynamicMinForest", name := "edgeCount", desc := "()I" } : Jvm.MethodName) prog_1_method_9_code (1 : Nat) (Option.some Jvm.ClassFile.FieldType.int), Jvm.Cond.code ({ cls := "DynamicMinForest", name := "lastEntered", desc := "()I" } : Jvm.MethodName) prog_1_method_16_code (1 : Nat) (Option.some Jvm.ClassFile.FieldType.int), Jvm.Cond.code ({ cls := "DynamicMinForest", name := "lastLeft", desc := "()I" } : Jvm.MethodName) prog_1_method_17_code (1 : Nat) (Option.some Jvm.ClassFile.FieldType.int), Jvm.Cond.code ({ cls := "DynamicMinForestOwnLaw", name := "weight", desc := "(I)I" } : Jvm.MethodName) method_4_code (2 : Nat) (Option.some Jvm.ClassFile.FieldType.int), Jvm.Cond.code ({ cls := "DynamicMinForest", name := "addEdge", desc := "(III)I" } : Jvm.MethodName) prog_1_method_2_code (6 : Nat) (Option.some Jvm.ClassFile.FieldType.int), Jvm.Cond.code ({ cls := "DynamicMinForest", name := "lowestFreeSlot", desc := "()I" } : Jvm.MethodName) prog_1_method_22_code (2 : Nat) (Option.some Jvm.ClassFile.FieldType.int), Jvm.Cond.code ({ cls := "DynamicMinForest", name := "clampWeight", desc := "(I)I" } : Jvm.MethodName) prog_1_method_41_code (2 : Nat) (Option.some Jvm.ClassFile.FieldType.int), Jvm.Cond.code ({ cls := "DynamicMinForest", name := "storeEdge", desc := "(IIII)V" } : Jvm.MethodName) prog_1_method_23_code (5 : Nat) (Option.none : Option Jvm.ClassFile.FieldType), Jvm.Cond.code ({ cls := "DynamicMinForest", name := "insertUpdate", desc := "(I)V" } : Jvm.MethodName) prog_1_method_18_code (4 : Nat) (Option.none : Option Jvm.ClassFile.FieldType), Jvm.Cond.code ({ cls := "DynamicMinForest", name := "joinTree", desc := "(I)V" } : Jvm.MethodName) prog_1_method_25_code (2 : Nat) (Option.none : Option Jvm.ClassFile.FieldType), Jvm.Cond.code ({ cls := "DynamicMinForest", name := "addAdjacent", desc := "(II)V" } : Jvm.MethodName) prog_1_method_27_code (3 : Nat) (Option.none : Option Jvm.ClassFile.FieldType), Jvm.Cond.code ({ cls := "DynamicMinForest", name := "setLast", desc := "(II)V" } : Jvm.MethodName) prog_1_method_21_code (3 : Nat) (Option.none : Option Jvm.ClassFile.FieldType), Jvm.Cond.code ({ cls := "DynamicMinForest", name := "edgeEnd", desc := "(II)I" } : Jvm.MethodName) prog_1_method_7_code (3 : Nat) (Option.some Jvm.ClassFile.FieldType.int), Jvm.Cond.code ({ cls := "DynamicMinForest", name := "edgeWeight", desc := "(I)I" } : Jvm.MethodName) prog_1_method_8_code (2 : Nat) (Option.some Jvm.ClassFile.FieldType.int), Jvm.Cond.code ({ cls := "DynamicMinForest", name := "replacementFor", desc := "(I)I" } : Jvm.MethodName) prog_1_method_15_code (2 : Nat) (Option.some Jvm.ClassFile.FieldType.int), Jvm.Cond.code ({ cls := "DynamicMinForest", name := "lightestCrossing", desc := "()I" } : Jvm.MethodName) prog_1_method_33_code (3 : Nat) (Option.some Jvm.ClassFile.FieldType.int), Jvm.Cond.code ({ cls := "DynamicMinForest", name := "otherEnd", desc := "(II)I" } : Jvm.MethodName) prog_1_method_35_code (3 : Nat) (Option.some Jvm.ClassFile.FieldType.int), Jvm.Cond.code ({ cls := "DynamicMinForestOwnLaw", name := "has", desc := "(JJI)Z" } : Jvm.MethodName) method_6_code (5 : Nat) (Option.some Jvm.ClassFile.FieldType.boolean), Jvm.Cond.code ({ cls := "DynamicMinForestOwnLaw", name := "precedes", desc := "(IIII)Z" } : Jvm.MethodName) method_5_code (4 : Nat) (Option.some Jvm.ClassFile.FieldType.boolean), Jvm.Cond.code ({ cls := "DynamicMinForest", name := "heaviestOnPathTo", desc := "(I)I" } : Jvm.MethodName) prog_1_method_32_code (6 : Nat) (Option.some Jvm.ClassFile.FieldType.int), Jvm.Cond.code ({ cls := "DynamicMinForest", name := "heavier", desc := "(II)I" } : Jvm.MethodName) prog_1_method_38_code (3 : Nat) (Option.some Jvm.ClassFile.FieldType.int), Jvm.Cond.code ({ cls := "DynamicMinForest", name := "precedes", desc := "(II)Z" } : Jvm.MethodName) prog_1_method_36_code (3 : Nat) (Option.some Jvm.ClassFile.FieldType.boolean), Jvm.Cond.code ({ cls := "DynamicMinForest", name := "leaveTree", desc := "(I)V" } : Jvm.MethodName) prog_1_method_26_code (2 : Nat) (Option.none : Option Jvm.ClassFile.FieldType), Jvm.Cond.code ({ cls := "DynamicMinForest", name := "removeAdjacent", desc := "(II)V" } : Jvm.MethodName) prog_1_method_28_code (5 : Nat) (Option.none : Option Jvm.ClassFile.FieldType), Jvm.Cond.code ({ cls := "DynamicMinForest", name := "pathMaxEdge", desc := "(II)I" } : Jvm.MethodName) prog_1_method_14_code (3 : Nat) (Option.some Jvm.ClassFile.FieldType.int), Jvm.Cond.code ({ cls := "DynamicMinForest", name := "crosses", desc := "(I)Z" } : Jvm.MethodName) prog_1_method_34_code (4 : Nat) (Option.some Jvm.ClassFile.FieldType.boolean), Jvm.Cond.code ({ cls := "DynamicMinForest", name := "lighter", desc := "(II)I" } : Jvm.MethodName) prog_1_method_37_code (3 : Nat) (Option.some Jvm.ClassFile.FieldType.int), Jvm.Cond.code ({ cls := "DynamicMinForest", name := "removeEdge", desc := "(I)Z" } : Jvm.MethodName) prog_1_method_3_code (2 : Nat) (Option.some Jvm.ClassFile.FieldType.boolean), Jvm.Cond.code ({ cls := "DynamicMinForest", name := "setWeight", desc := "(II)Z" } : Jvm.MethodName) prog_1_method_4_code (4 : Nat) (Option.some Jvm.ClassFile.FieldType.boolean), Jvm.Cond.code ({ cls := "DynamicMinForest", name := "reweightTreeEdge", desc := "(II)V" } : Jvm.MethodName) prog_1_method_20_code (4 : Nat) (Option.none : Option Jvm.ClassFile.FieldType), Jvm.Cond.code ({ cls := "DynamicMinForest", name := "cutTreeEdge", desc := "(I)V" } : Jvm.MethodName) prog_1_method_19_code (3 : Nat) (Option.none : Option Jvm.ClassFile.FieldType), Jvm.Cond.code ({ cls := "DynamicMinForest", name := "freeSlot", desc := "(I)V" } : Jvm.MethodName) prog_1_method_24_code (2 : Nat) (Option.none : Option Jvm.ClassFile.FieldType)]
set_option maxRecDepth 65536 in
theorem codes_eq : words1.filter isCode = codes1 := rfl
theorem w_codes : ∀ c ∈ words1.filter isCode, c.before args0 about1 = true := by
  rw [codes_eq]
  intro c hc
  simp only [codes1, List.mem_cons, List.not_mem_nil, or_false] at hc
  rcases hc with rfl | rfl | rfl | rfl | rfl | rfl | rfl | rfl | rfl | rfl | rfl | rfl | rfl | rfl | rfl | rfl | rfl | rfl | rfl | rfl | rfl | rfl | rfl | rfl | rfl | rfl | rfl | rfl | rfl | rfl | rfl | rfl | rfl | rfl | rfl | rfl | rfl | rfl | rfl | rfl | rfl | rfl | rfl | rfl | rfl | rfl | rfl | rfl
  · exact w_c0
  · exact w_c1
  · exact w_c2
  · exact w_c3
  · exact w_c4
  · exact w_c5
  · exact w_c6
  · exact w_c7
  · exact w_c8
  · exact w_c9
  · exact w_c10
  · exact w_c11
  · exact w_c12
  · exact w_c13
  · exact w_c14
  · exact w_c15
  · exact w_c16
  · exact w_c17
  · exact w_c18
  · exact w_c19
  · exact w_c20
  · exact w_c21
  · exact w_c22
  · exact w_c23
  · exact w_c24
  · exact w_c25
  · exact w_c26
  · exact w_c27
  · exact w_c28
  · exact w_c29
  · exact w_c30
  · exact w_c31
  · exact w_c32
  · exact w_c33
  · exact w_c34
  · exact w_c35
  · exact w_c36
  · exact w_c37
  · exact w_c38
  · exact w_c39
  · exact w_c40
  · exact w_c41
  · exact w_c42
  · exact w_c43
  · exact w_c44
  · exact w_c45
  · exact w_c46
  · exact w_c47
set_option maxRecDepth 65536 in
theorem w_t1 : (words1.take 24).all (fun c => isCode c || c.before args0 about1) = true := by decide +kernel
set_option maxRecDepth 65536 in
theorem w_t2 : ((words1.drop 24).take 24).all (fun c => isCode c || c.before args0 about1) = true := by decide +kernel
set_option maxRecDepth 65536 in
theorem w_t3 : (((words1.drop 24).drop 24).take 24).all (fun c => isCode c || c.before args0 about1) = true := by decide +kernel
set_option maxRecDepth 65536 in
theorem w_t4 : ((((words1.drop 24).drop 24).drop 24).take 24).all (fun c => isCode c || c.before args0 about1) = true := by decide +kernel
set_option maxRecDepth 65536 in
theorem w_t5 : (((((words1.drop 24).drop 24).drop 24).drop 24).take 24).all (fun c => isCode c || c.before args0 about1) = true := by decide +kernel
set_option maxRecDepth 65536 in
theorem w_t6 : ((((((words1.drop 24).drop 24).drop 24).drop 24).drop 24).take 24).all (fun c => isCode c || c.before args0 about1) = true := by decide +kernel
set_option maxRecDepth 65536 in
theorem w_t7 : (((((((words1.drop 24).drop 24).drop 24).drop 24).drop 24).drop 24).take 24).all (fun c => isCode c || c.before args0 about1) = true := by decide +kernel
set_option maxRecDepth 65536 in
theorem w_t8 : ((((((((words1.drop 24).drop 24).drop 24).drop 24).drop 24).drop 24).drop 24).take 24).all (fun c => isCode c || c.before args0 about1) = true := by decide +kernel
set_option maxRecDepth 65536 in
theorem w_t9 : (((((((((words1.drop 24).drop 24).drop 24).drop 24).drop 24).drop 24).drop 24).drop 24).take 24).all (fun c => isCode c || c.before args0 about1) = true := by decide +kernel
set_option maxRecDepth 65536 in
theorem w_t10 : ((((((((((words1.drop 24).drop 24).drop 24).drop 24).drop 24).drop 24).drop 24).drop 24).drop 24).take 24).all (fun c => isCode c || c.before args0 about1) = true := by decide +kernel
set_option maxRecDepth 65536 in
theorem w_t11 : ((((((((((words1.drop 24).drop 24).drop 24).drop 24).drop 24).drop 24).drop 24).drop 24).drop 24).drop 24).all (fun c => isCode c || c.before args0 about1) = true := by decide +kernel
theorem w_tables : (allAtoms (Jvm.Cond.code x code maxLocals ret :: tables_1)).before args0 about1 = true := by
  rw [allAtoms_all]
  show words1.all (fun c => c.before args0 about1) = true
  refine all_split ?_ w_codes
  rw [← List.take_append_drop 24 words1, List.all_append, w_t1, ← List.take_append_drop 24 (words1.drop 24), List.all_append, w_t2, ← List.take_append_drop 24 ((words1.drop 24).drop 24), List.all_append, w_t3, ← List.take_append_drop 24 (((words1.drop 24).drop 24).drop 24), List.all_append, w_t4, ← List.take_append_drop 24 ((((words1.drop 24).drop 24).drop 24).drop 24), List.all_append, w_t5, ← List.take_append_drop 24 (((((words1.drop 24).drop 24).drop 24).drop 24).drop 24), List.all_append, w_t6, ← List.take_append_drop 24 ((((((words1.drop 24).drop 24).drop 24).drop 24).drop 24).drop 24), List.all_append, w_t7, ← List.take_append_drop 24 (((((((words1.drop 24).drop 24).drop 24).drop 24).drop 24).drop 24).drop 24), List.all_append, w_t8, ← List.take_append_drop 24 ((((((((words1.drop 24).drop 24).drop 24).drop 24).drop 24).drop 24).drop 24).drop 24), List.all_append, w_t9, ← List.take_append_drop 24 (((((((((words1.drop 24).drop 24).drop 24).drop 24).drop 24).drop 24).drop 24).drop 24).drop 24), List.all_append, w_t10, w_t11]
  rfl
set_option maxRecDepth 65536 in
theorem w_rest : rest_1_c.before args0 about1 = true := by decide +kernel
set_option maxRecDepth 65536 in
theorem w_case : (Jvm.Cond.and given_1 narrow_1).before args0 about1 = true := by decide +kernel
theorem w_applies : (headSpec (Jvm.Cond.code x code maxLocals ret :: tables_1) room_1).applies x e0.platform about1 = true :=
  (Spec.applies_iff w_frames).mpr ⟨w_running, w_runnable, w_alone, w_named, w_hears, w_ripe, w_room, w_tables⟩
theorem atStart : AtStart classFile x code maxLocals ret World_1 tables_1 room_1 Calls_1 rest_1 Pre_1 launch0 p0 e0 about1 theMethod args0 below0 :=
  ⟨lists_1, trivial, launch0.admits_env _ _ _, launch0.least_env, fairChoices_fair.cas, fairChoices_fair.clock, w_frames, w_args, w_heap, w_applies, trivial, w_rest, w_case⟩
end start1
theorem witness_1 : WitnessClaimed_1 := ⟨start1.p0, start1.e0, start1.about1, start1.theMethod, start1.args0, start1.below0, start1.atStart⟩
end Jvm.Pilot.@@N@@
