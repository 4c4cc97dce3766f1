import JvmDerived
import JvmDerived.Pilot.@@N@@Statement
import JvmDerived.Pilot.@@N@@Code
set_option linter.unusedVariables false
set_option linter.unusedSimpArgs false
set_option maxRecDepth 20000
namespace Jvm.JX
open Sem ClassFile Op Lib
abbrev Cel : Type := FieldType × Nat × Bool × (Nat → Value)
abbrev AH : Type := Nat × (Nat → Cel)
abbrev MInfo : Type := Nat × Nat × Nat × Option FieldType × Jvm.Room
abbrev Prog : Type := (Nat → Nat → Option (Instr × Nat × Int)) × (Nat → MInfo) × (Nat → FieldType) × Nat
abbrev Fm : Type := Nat × List Slot × List Value × Nat × Nat × AH
def na (P : Prog) (m : Nat) : Nat := (P.2.1 m).1
def ml (P : Prog) (m : Nat) : Nat := (P.2.1 m).2.1
def kd (P : Prog) (m : Nat) : Nat := (P.2.1 m).2.2.1
def rt (P : Prog) (m : Nat) : Option FieldType := (P.2.1 m).2.2.2.1
def rm (P : Prog) (m : Nat) : Jvm.Room := (P.2.1 m).2.2.2.2
def isO (H : AH) (a : Nat) : Bool := match (H.2 a).1 with | .object _ => true | _ => false
def isOw (H : AH) (a : Nat) : Bool := isO H a && (H.2 a).2.2.1
def inA (H : AH) (a : Nat) (t : FieldType) (i : Int32) : Bool := decide ((H.2 a).1 = .array t) && !decide (i < 0) && decide (i.toNatClampNeg < (H.2 a).2.1)
def inAw (H : AH) (a : Nat) (t : FieldType) (i : Int32) : Bool := inA H a t i && (H.2 a).2.2.1
def isA (H : AH) (a : Nat) : Bool := match (H.2 a).1 with | .array _ => true | _ => false
def elt (H : AH) (a : Nat) (i : Int32) : Value := (H.2 a).2.2.2 i.toNatClampNeg
def fld (H : AH) (a k : Nat) : Value := (H.2 a).2.2.2 k
def alen (H : AH) (a : Nat) : Nat := (H.2 a).2.1
def wr (H : AH) (a j : Nat) (v : Value) : AH := (H.1, fun b => if b = a then ((H.2 a).1, (H.2 a).2.1, (H.2 a).2.2.1, fun i => if i = j then v else (H.2 a).2.2.2 i) else H.2 b)
def okv : FieldType → Value → Bool
  | .int, .int _ => true
  | .boolean, .int z => z == 0 || z == 1
  | .byte, .int z => z.toInt8.toInt32 == z
  | .long, .long _ => true
  | .array _, .ref _ => true
  | _, _ => false
def mkO (P : Prog) (H : AH) : AH := (H.1 + 1, fun b => if b = H.1 then (.object "", P.2.2.2, true, fun k => defaultValue (P.2.2.1 k)) else H.2 b)
def mkA (t : FieldType) (n : Nat) (H : AH) : AH := (H.1 + 1, fun b => if b = H.1 then (.array t, n, true, fun _ => defaultValue t) else H.2 b)
def cat1 : Slot → Bool | .unset => true | .val v => v.category == 1 | .second => false
def cs (S : List Value) : Nat := (S.map fun v => v.category).sum
def stl (L : List Slot) (i : Nat) (v : Value) : Option (List Slot) :=
  match L[i]? with
  | some .unset => some (L.set i (.val v))
  | some (.val w) => if w.category = 1 then some (L.set i (.val v)) else if i + 1 < L.length then some ((L.set (i + 1) .unset).set i (.val v)) else none
  | some .second => if 1 ≤ i then some ((L.set (i - 1) .unset).set i (.val v)) else none
  | none => none
def lng : Slot → Bool | .val v => v.category == 2 | _ => false
def stL (L : List Slot) (i : Nat) (v : Value) : Option (List Slot) :=
  match L[i]?, L[i + 1]? with
  | some (.val w), some o2 => if w.category = 2 then some ((L.set i (.val v)).set (i + 1) .second) else if cat1 o2 = true then some ((L.set i (.val v)).set (i + 1) .second) else if lng o2 = true ∧ i + 2 < L.length then some (((L.set i (.val v)).set (i + 2) .unset).set (i + 1) .second) else none
  | some .unset, some o2 => if cat1 o2 = true then some ((L.set i (.val v)).set (i + 1) .second) else if lng o2 = true ∧ i + 2 < L.length then some (((L.set i (.val v)).set (i + 2) .unset).set (i + 1) .second) else none
  | some .second, some o2 => if 1 ≤ i then (if cat1 o2 = true then some (((L.set (i - 1) .unset).set i (.val v)).set (i + 1) .second) else if lng o2 = true ∧ i + 2 < L.length then some ((((L.set (i - 1) .unset).set i (.val v)).set (i + 2) .unset).set (i + 1) .second) else none) else none
  | _, _ => none
def ent (P : Prog) (m : Nat) (a : List Value) : List Slot := Sym.laidSlots a ++ List.replicate (ml P m - (Sym.laidSlots a).length) .unset
def ilen : Instr → Nat
  | .bipush _ | .iload _ | .istore _ | .aload _ | .astore _ | .lload _ | .lstore _ | .newarray _ | .ldc _ => 2
  | .sipush _ | .getfield _ | .putfield _ | .new _ | .invokevirtual _ | .invokestatic _ | .invokespecial _ | .ldc2_w _ | .goto _ | .ifCond _ _ | .if_icmp _ _ | .iinc _ _ => 3
  | _ => 1
def ldI (L : List Slot) (i : Nat) : Option Value := match L[i]? with | some (.val (.int x)) => some (.int x) | _ => none
def ldJ (L : List Slot) (i : Nat) : Option Value := match L[i]? with | some (.val (.long x)) => some (.long x) | _ => none
def ldR (L : List Slot) (i : Nat) : Option Value := match L[i]? with | some (.val (.ref x)) => some (.ref x) | _ => none
def jmp (pc : Nat) (o : Int) : Option Nat := if 0 ≤ (pc : Int) + o then some ((pc : Int) + o).toNat else none
def ret (P : Prog) (m : Nat) (ins : Instr) (S : List Value) : Option (Option Value) :=
  match ins with
  | .return_ => if rt P m = none ∧ S = [] then some none else none
  | .ireturn => match S, rt P m with
    | .int z :: _, some .int => some (some (.int z))
    | .int z :: _, some .boolean => if z = 0 ∨ z = 1 then some (some (.int z)) else none
    | _, _ => none
  | .lreturn => match S, rt P m with
    | .long z :: _, some .long => some (some (.long z))
    | _, _ => none
  | _ => none
def rcv (H : AH) : List Value → Bool | .ref a :: _ => isO H a | _ => false
def may (P : Prog) (m m' : Nat) (a r : List Value) (k n : Nat) (H : AH) : Bool :=
  decide ((Sym.laidSlots a).length ≤ ml P m') && decide (a.length = na P m') && decide ((rm P m').frames + 1 ≤ (rm P m).frames) && decide (cs r + (ml P m' + 11) + (rm P m').locals ≤ (rm P m).locals)
    && (decide ((rm P m').cells = 0 ∧ (rm P m').slots = 0) || decide (k + (rm P m').cells ≤ (rm P m).cells ∧ n + (rm P m').slots ≤ (rm P m).slots))
    && (decide (kd P m' = 0) || rcv H a)
def kindOk : Instr → Nat → Bool
  | .invokevirtual _, k => k == 1 || k == 2
  | .invokestatic _, k => k == 0
  | .invokespecial _, k => k == 3
  | _, _ => false
def cal1 (P : Prog) (m : Nat) (ins : Instr) (aux : Int) (S : List Value) (k n : Nat) (H : AH) : Option (Nat × List Value × List Value) :=
  if 0 ≤ aux ∧ kindOk ins (kd P aux.toNat) = true ∧ may P m aux.toNat (S.take (na P aux.toNat)).reverse (S.drop (na P aux.toNat)) k n H = true
  then some (aux.toNat, (S.take (na P aux.toNat)).reverse, S.drop (na P aux.toNat)) else none
def cal (P : Prog) (m : Nat) (ins : Instr) (aux : Int) (S : List Value) (k n : Nat) (H : AH) : Option (Nat × List Value × List Value) :=
  match ins with
  | .invokevirtual _ | .invokestatic _ | .invokespecial _ => cal1 P m ins aux S k n H
  | _ => none
def opI : Instr → Option (Int32 → Int32 → Int32)
  | .iadd => some fun x y => x + y
  | .isub => some fun x y => x - y
  | .imul => some fun x y => x * y
  | .iand => some fun x y => x &&& y
  | .ior => some fun x y => x ||| y
  | .ixor => some fun x y => x ^^^ y
  | .ishl => some fun x y => x <<< (y &&& 31)
  | .ishr => some fun x y => x >>> (y &&& 31)
  | .iushr => some Jvm.Free.XT.ushr
  | _ => none
def opJ : Instr → Option (Int64 → Int64 → Int64)
  | .ladd => some fun x y => x + y
  | .lsub => some fun x y => x - y
  | .lmul => some fun x y => x * y
  | .land => some fun x y => x &&& y
  | .lor => some fun x y => x ||| y
  | .lxor => some fun x y => x ^^^ y
  | _ => none
def opS : Instr → Option (Int64 → Int32 → Int64)
  | .lshl => some fun x y => x <<< (y.toInt64 &&& 63)
  | .lshr => some fun x y => x >>> (y.toInt64 &&& 63)
  | .lushr => some Jvm.Free.XT.ushrL
  | _ => none
def stp (P : Prog) (m : Nat) (ins : Instr) (len : Nat) (aux : Int) (pc : Nat) (L : List Slot) (S : List Value) (k n : Nat) (H : AH) : Option Fm :=
  match ins with
  | .iconst i => some (pc + len, L, .int (Int32.ofInt i) :: S, k, n, H)
  | .bipush i => some (pc + len, L, .int (Int8.ofInt i).toInt32 :: S, k, n, H)
  | .sipush i => some (pc + len, L, .int (Int16.ofInt i).toInt32 :: S, k, n, H)
  | .lconst i => some (pc + len, L, .long (Int64.ofNat i) :: S, k, n, H)
  | .ldc _ => some (pc + len, L, .int (Int32.ofInt aux) :: S, k, n, H)
  | .ldc2_w _ => some (pc + len, L, .long (Int64.ofInt aux) :: S, k, n, H)
  | .iload i => (ldI L i).map fun v => (pc + len, L, v :: S, k, n, H)
  | .iload_n i => (ldI L i.val).map fun v => (pc + len, L, v :: S, k, n, H)
  | .lload i => (ldJ L i).map fun v => (pc + len, L, v :: S, k, n, H)
  | .lload_n i => (ldJ L i.val).map fun v => (pc + len, L, v :: S, k, n, H)
  | .aload i => (ldR L i).map fun v => (pc + len, L, v :: S, k, n, H)
  | .aload_n i => (ldR L i.val).map fun v => (pc + len, L, v :: S, k, n, H)
  | .istore i => match S with | .int x :: S => (stl L i (.int x)).map fun L => (pc + len, L, S, k, n, H) | _ => none
  | .istore_n i => match S with | .int x :: S => (stl L i.val (.int x)).map fun L => (pc + len, L, S, k, n, H) | _ => none
  | .astore i => match S with | .ref x :: S => (stl L i (.ref x)).map fun L => (pc + len, L, S, k, n, H) | _ => none
  | .astore_n i => match S with | .ref x :: S => (stl L i.val (.ref x)).map fun L => (pc + len, L, S, k, n, H) | _ => none
  | .lstore i => match S with | .long x :: S => (stL L i (.long x)).map fun L => (pc + len, L, S, k, n, H) | _ => none
  | .lstore_n i => match S with | .long x :: S => (stL L i.val (.long x)).map fun L => (pc + len, L, S, k, n, H) | _ => none
  | .iinc i c => match L[i]? with | some (.val (.int x)) => some (pc + len, L.set i (.val (.int (x + Int32.ofInt c))), S, k, n, H) | _ => none
  | .iadd | .isub | .imul | .iand | .ior | .ixor | .ishl | .ishr | .iushr => match S with | .int y :: .int x :: S => (opI ins).map fun f => (pc + len, L, .int (f x y) :: S, k, n, H) | _ => none
  | .ladd | .lsub | .lmul | .land | .lor | .lxor => match S with | .long y :: .long x :: S => (opJ ins).map fun f => (pc + len, L, .long (f x y) :: S, k, n, H) | _ => none
  | .lshl | .lshr | .lushr => match S with | .int y :: .long x :: S => (opS ins).map fun f => (pc + len, L, .long (f x y) :: S, k, n, H) | _ => none
  | .idiv => match S with | .int y :: .int x :: S => if y = 0 then none else some (pc + len, L, .int (x / y) :: S, k, n, H) | _ => none
  | .irem => match S with | .int y :: .int x :: S => if y = 0 then none else some (pc + len, L, .int (x % y) :: S, k, n, H) | _ => none
  | .ldiv => match S with | .long y :: .long x :: S => if y = 0 then none else some (pc + len, L, .long (x / y) :: S, k, n, H) | _ => none
  | .lrem => match S with | .long y :: .long x :: S => if y = 0 then none else some (pc + len, L, .long (x % y) :: S, k, n, H) | _ => none
  | .ineg => match S with | .int x :: S => some (pc + len, L, .int (-x) :: S, k, n, H) | _ => none
  | .lneg => match S with | .long x :: S => some (pc + len, L, .long (-x) :: S, k, n, H) | _ => none
  | .i2l => match S with | .int x :: S => some (pc + len, L, .long x.toInt64 :: S, k, n, H) | _ => none
  | .l2i => match S with | .long x :: S => some (pc + len, L, .int x.toInt32 :: S, k, n, H) | _ => none
  | .i2b => match S with | .int x :: S => some (pc + len, L, .int x.toInt8.toInt32 :: S, k, n, H) | _ => none
  | .lcmp => match S with | .long y :: .long x :: S => some (pc + len, L, .int (Jvm.Free.XT.cmpL x y) :: S, k, n, H) | _ => none
  | .dup => match S with | v :: S => if v.category = 1 then some (pc + len, L, v :: v :: S, k, n, H) else none | _ => none
  | .dup2 => match S with
    | .long x :: S => some (pc + len, L, .long x :: .long x :: S, k, n, H)
    | v :: w :: S => if v.category = 1 ∧ w.category = 1 then some (pc + len, L, v :: w :: v :: w :: S, k, n, H) else none
    | _ => none
  | .pop => match S with | v :: S => if v.category = 1 then some (pc + len, L, S, k, n, H) else none | _ => none
  | .goto o => (jmp pc o).map fun q => (q, L, S, k, n, H)
  | .ifCond c o => match S with | .int x :: S => if ifCond.holds c x = true then (jmp pc o).map fun q => (q, L, S, k, n, H) else some (pc + len, L, S, k, n, H) | _ => none
  | .if_icmp c o => match S with | .int y :: .int x :: S => if if_icmp.holds c x y = true then (jmp pc o).map fun q => (q, L, S, k, n, H) else some (pc + len, L, S, k, n, H) | _ => none
  | .tableswitch d lo hi os => match S with
    | .int x :: S => if x.toInt < lo ∨ x.toInt > hi then (jmp pc d).map fun q => (q, L, S, k, n, H) else (os[(x.toInt - lo).toNat]?).bind fun o => (jmp pc o).map fun q => (q, L, S, k, n, H)
    | _ => none
  | .getfield _ => match S with | .ref a :: S => if isO H a = true then some (pc + len, L, fld H a aux.toNat :: S, k, n, H) else none | _ => none
  | .putfield _ => match S with | v :: .ref a :: S => if isOw H a = true ∧ okv (P.2.2.1 aux.toNat) v = true then some (pc + len, L, S, k, n, wr H a aux.toNat v) else none | _ => none
  | .iaload => match S with | .int i :: .ref a :: S => if inA H a .int i = true then some (pc + len, L, elt H a i :: S, k, n, H) else none | _ => none
  | .laload => match S with | .int i :: .ref a :: S => if inA H a .long i = true then some (pc + len, L, elt H a i :: S, k, n, H) else none | _ => none
  | .baload => match S with | .int i :: .ref a :: S => if inA H a .byte i = true ∨ inA H a .boolean i = true then some (pc + len, L, elt H a i :: S, k, n, H) else none | _ => none
  | .iastore => match S with | .int x :: .int i :: .ref a :: S => if inAw H a .int i = true then some (pc + len, L, S, k, n, wr H a i.toNatClampNeg (.int x)) else none | _ => none
  | .lastore => match S with | .long x :: .int i :: .ref a :: S => if inAw H a .long i = true then some (pc + len, L, S, k, n, wr H a i.toNatClampNeg (.long x)) else none | _ => none
  | .bastore => match S with
    | .int x :: .int i :: .ref a :: S => if (inAw H a .byte i = true ∧ okv .byte (.int x) = true) ∨ (inAw H a .boolean i = true ∧ okv .boolean (.int x) = true) then some (pc + len, L, S, k, n, wr H a i.toNatClampNeg (.int x)) else none
    | _ => none
  | .arraylength => match S with | .ref a :: S => if isA H a = true then some (pc + len, L, .int (alen H a).toInt32 :: S, k, n, H) else none | _ => none
  | .newarray t => match S with | .int c :: S => if ¬ c < 0 ∧ c.toNatClampNeg * 8 ≤ 536870912 ∧ k + 1 ≤ (rm P m).cells ∧ n + c.toNatClampNeg ≤ (rm P m).slots then some (pc + len, L, .ref H.1 :: S, k + 1, n + c.toNatClampNeg, mkA (newarray.typeOf t) c.toNatClampNeg H) else none | _ => none
  | .new _ => if 0 ≤ aux ∧ k + 1 ≤ (rm P m).cells ∧ n + aux.toNat ≤ (rm P m).slots then some (pc + len, L, .ref H.1 :: S, k + 1, n + aux.toNat, mkO P H) else none
  | .invokespecial _ => match S with | .ref a :: S => if aux = -1 ∧ 1 ≤ (rm P m).frames ∧ cs S + 12 ≤ (rm P m).locals then some (pc + len, L, S, k, n, H) else none | _ => none
  | _ => none
def run (P : Prog) : Nat → Nat → Nat → List Slot → List Value → Nat → Nat → AH → Option (Option Value × AH)
  | 0, _, _, _, _, _, _, _ => none
  | f + 1, m, pc, L, S, k, n, H =>
    match P.1 m pc with
    | none => none
    | some d =>
      match ret P m d.1 S with
      | some v => some (v, H)
      | none => match cal P m d.1 d.2.2 S k n H with
        | some c => match run P f c.1 0 (ent P c.1 c.2.1) [] 0 0 H with
          | none => none
          | some r => run P f m (pc + d.2.1) L (r.1.toList ++ c.2.2) (k + (rm P c.1).cells) (n + (rm P c.1).slots) r.2
        | none => match stp P m d.1 d.2.1 d.2.2 pc L S k n H with
          | none => none
          | some q => run P f m q.1 q.2.1 q.2.2.1 q.2.2.2.1 q.2.2.2.2.1 q.2.2.2.2.2
end Jvm.JX

namespace Jvm.JX
open Sem ClassFile Op Lib
section
variable {P : Prog}
theorem run_succ (f m pc : Nat) (L : List Slot) (S : List Value) (k n : Nat) (H : AH) : run P (f + 1) m pc L S k n H =
    match P.1 m pc with
    | none => none
    | some d =>
      match ret P m d.1 S with
      | some v => some (v, H)
      | none => match cal P m d.1 d.2.2 S k n H with
        | some c => match run P f c.1 0 (ent P c.1 c.2.1) [] 0 0 H with
          | none => none
          | some r => run P f m (pc + d.2.1) L (r.1.toList ++ c.2.2) (k + (rm P c.1).cells) (n + (rm P c.1).slots) r.2
        | none => match stp P m d.1 d.2.1 d.2.2 pc L S k n H with
          | none => none
          | some q => run P f m q.1 q.2.1 q.2.2.1 q.2.2.2.1 q.2.2.2.2.1 q.2.2.2.2.2 := rfl
theorem run_mono : ∀ (f m pc : Nat) (L : List Slot) (S : List Value) (k n : Nat) (H : AH) (r : Option Value × AH), run P f m pc L S k n H = some r → run P (f + 1) m pc L S k n H = some r := by
  intro f
  induction f with
  | zero => intro m pc L S k n H r h; cases h
  | succ f ih =>
    intro m pc L S k n H r h
    rw [run_succ] at h ⊢
    cases hd : P.1 m pc with
    | none => rw [hd] at h; cases h
    | some d =>
      rw [hd] at h
      simp only at h ⊢
      cases hr : ret P m d.1 S with
      | some v => rw [hr] at h; exact h
      | none =>
        rw [hr] at h
        simp only at h ⊢
        cases hc : cal P m d.1 d.2.2 S k n H with
        | some c =>
          rw [hc] at h
          simp only at h ⊢
          cases hq : run P f c.1 0 (ent P c.1 c.2.1) [] 0 0 H with
          | none => rw [hq] at h; cases h
          | some q =>
            rw [hq] at h
            rw [ih _ _ _ _ _ _ _ _ hq]
            exact ih _ _ _ _ _ _ _ _ h
        | none =>
          rw [hc] at h
          simp only at h ⊢
          cases hs : stp P m d.1 d.2.1 d.2.2 pc L S k n H with
          | none => rw [hs] at h; cases h
          | some q => rw [hs] at h; exact ih _ _ _ _ _ _ _ _ h
theorem run_le {f g : Nat} (hfg : f ≤ g) {m pc : Nat} {L : List Slot} {S : List Value} {k n : Nat} {H : AH} {r : Option Value × AH} (h : run P f m pc L S k n H = some r) : run P g m pc L S k n H = some r := by
  induction hfg with
  | refl => exact h
  | step _ ih => exact run_mono _ _ _ _ _ _ _ _ _ ih
end
def W (P : Prog) (m pc : Nat) (L : List Slot) (S : List Value) (k n : Nat) (H : AH) (Q : Option Value → AH → Prop) : Prop := ∃ f v H', run P f m pc L S k n H = some (v, H') ∧ Q v H'
def Cl (P : Prog) (m : Nat) (a : List Value) (H : AH) (Q : Option Value → AH → Prop) : Prop := W P m 0 (ent P m a) [] 0 0 H Q
section Rules
variable {P : Prog} {m pc : Nat} {L : List Slot} {S : List Value} {k n : Nat} {H : AH} {Q : Option Value → AH → Prop} {ins : Instr} {len : Nat} {aux : Int}
theorem W_r {v : Option Value} (hd : P.1 m pc = some (ins, len, aux)) (hr : ret P m ins S = some v) : W P m pc L S k n H Q ↔ Q v H := by
  constructor
  · rintro ⟨f, v', H', h1, h2⟩
    cases f with
    | zero => cases h1
    | succ f => rw [run_succ, hd] at h1; simp only [hr] at h1; cases h1; exact h2
  · intro h
    refine ⟨1, v, H, ?_, h⟩
    rw [run_succ, hd]; simp only [hr]
theorem W_c {m' : Nat} {a r : List Value} (hd : P.1 m pc = some (ins, len, aux)) (hr : ret P m ins S = none) (hc : cal P m ins aux S k n H = some (m', a, r)) :
    W P m pc L S k n H Q ↔ Cl P m' a H (fun v H' => W P m (pc + len) L (v.toList ++ r) (k + (rm P m').cells) (n + (rm P m').slots) H' Q) := by
  constructor
  · rintro ⟨f, v', H', h1, h2⟩
    cases f with
    | zero => cases h1
    | succ f =>
      rw [run_succ, hd] at h1; simp only [hr, hc] at h1
      cases hq : run P f m' 0 (ent P m' a) [] 0 0 H with
      | none => rw [hq] at h1; cases h1
      | some q => rw [hq] at h1; exact ⟨f, q.1, q.2, hq, f, v', H', h1, h2⟩
  · rintro ⟨f, v, H', h1, g, v', H'', h2, h3⟩
    refine ⟨max f g + 1, v', H'', ?_, h3⟩
    rw [run_succ, hd]; simp only [hr, hc]
    rw [run_le (Nat.le_max_left f g) h1]
    exact run_le (Nat.le_max_right f g) h2
theorem W_q (hd : P.1 m pc = some (ins, len, aux)) (hr : ret P m ins S = none) (hc : cal P m ins aux S k n H = none) :
    W P m pc L S k n H Q ↔ ∃ q, stp P m ins len aux pc L S k n H = some q ∧ W P m q.1 q.2.1 q.2.2.1 q.2.2.2.1 q.2.2.2.2.1 q.2.2.2.2.2 Q := by
  constructor
  · rintro ⟨f, v', H', h1, h2⟩
    cases f with
    | zero => cases h1
    | succ f =>
      rw [run_succ, hd] at h1; simp only [hr, hc] at h1
      cases hq : stp P m ins len aux pc L S k n H with
      | none => rw [hq] at h1; cases h1
      | some q => rw [hq] at h1; exact ⟨q, rfl, f, v', H', h1, h2⟩
  · rintro ⟨q, hq, f, v', H', h1, h2⟩
    refine ⟨f + 1, v', H', ?_, h2⟩
    rw [run_succ, hd]; simp only [hr, hc, hq]; exact h1
theorem W_s {pc' : Nat} {L' : List Slot} {S' : List Value} {k' n' : Nat} {H' : AH} (hd : P.1 m pc = some (ins, len, aux)) (hr : ret P m ins S = none) (hc : cal P m ins aux S k n H = none)
    (hs : stp P m ins len aux pc L S k n H = some (pc', L', S', k', n', H')) : W P m pc L S k n H Q ↔ W P m pc' L' S' k' n' H' Q := by
  rw [W_q hd hr hc, hs]
  exact ⟨fun ⟨q, e, h⟩ => by cases e; exact h, fun h => ⟨_, rfl, h⟩⟩
theorem W_g {G : Prop} [Decidable G] {pc' : Nat} {L' : List Slot} {S' : List Value} {k' n' : Nat} {H' : AH} (hd : P.1 m pc = some (ins, len, aux)) (hr : ret P m ins S = none) (hc : cal P m ins aux S k n H = none)
    (hs : stp P m ins len aux pc L S k n H = if G then some (pc', L', S', k', n', H') else none) : W P m pc L S k n H Q ↔ (G ∧ W P m pc' L' S' k' n' H' Q) := by
  rw [W_q hd hr hc, hs]
  by_cases g : G
  · rw [if_pos g]; exact ⟨fun ⟨q, e, h⟩ => by cases e; exact ⟨g, h⟩, fun h => ⟨_, rfl, h.2⟩⟩
  · rw [if_neg g]; exact ⟨fun ⟨q, e, h⟩ => (by cases e), fun h => absurd h.1 g⟩
theorem W_f {G : Prop} [Decidable G] {q1 q2 : Fm} (hd : P.1 m pc = some (ins, len, aux)) (hr : ret P m ins S = none) (hc : cal P m ins aux S k n H = none)
    (hs : stp P m ins len aux pc L S k n H = if G then some q1 else some q2) : W P m pc L S k n H Q ↔ (if G then W P m q1.1 q1.2.1 q1.2.2.1 q1.2.2.2.1 q1.2.2.2.2.1 q1.2.2.2.2.2 Q else W P m q2.1 q2.2.1 q2.2.2.1 q2.2.2.2.1 q2.2.2.2.2.1 q2.2.2.2.2.2 Q) := by
  rw [W_q hd hr hc, hs]
  by_cases g : G
  · rw [if_pos g, if_pos g]; exact ⟨fun ⟨q, e, h⟩ => by cases e; exact h, fun h => ⟨_, rfl, h⟩⟩
  · rw [if_neg g, if_neg g]; exact ⟨fun ⟨q, e, h⟩ => by cases e; exact h, fun h => ⟨_, rfl, h⟩⟩
section Cmp
variable {x y : Int32} {o : Int} {q : Nat}
theorem W_icmp_eq (hd : P.1 m pc = some (.if_icmp .eq o, len, aux)) (hj : jmp pc o = some q) : W P m pc L (.int y :: .int x :: S) k n H Q ↔ (if x = y then W P m q L S k n H Q else W P m (pc + len) L S k n H Q) :=
  W_f (G := x = y) (q1 := (q, L, S, k, n, H)) (q2 := (pc + len, L, S, k, n, H)) hd rfl rfl (by simp only [stp, hj, if_icmp.holds]; by_cases h : x = y <;> simp [h])
theorem W_icmp_ne (hd : P.1 m pc = some (.if_icmp .ne o, len, aux)) (hj : jmp pc o = some q) : W P m pc L (.int y :: .int x :: S) k n H Q ↔ (if x = y then W P m (pc + len) L S k n H Q else W P m q L S k n H Q) :=
  W_f (G := x = y) (q1 := (pc + len, L, S, k, n, H)) (q2 := (q, L, S, k, n, H)) hd rfl rfl (by simp only [stp, hj, if_icmp.holds]; by_cases h : x = y <;> simp [h])
theorem W_icmp_lt (hd : P.1 m pc = some (.if_icmp .lt o, len, aux)) (hj : jmp pc o = some q) : W P m pc L (.int y :: .int x :: S) k n H Q ↔ (if x < y then W P m q L S k n H Q else W P m (pc + len) L S k n H Q) :=
  W_f (G := x < y) (q1 := (q, L, S, k, n, H)) (q2 := (pc + len, L, S, k, n, H)) hd rfl rfl (by
    by_cases h : x < y
    · simp [stp, hj, Jvm.Free.XT.ii_lt_t h, h]
    · simp [stp, hj, Jvm.Free.XT.ii_lt_f h, h])
theorem W_icmp_ge (hd : P.1 m pc = some (.if_icmp .ge o, len, aux)) (hj : jmp pc o = some q) : W P m pc L (.int y :: .int x :: S) k n H Q ↔ (if x < y then W P m (pc + len) L S k n H Q else W P m q L S k n H Q) :=
  W_f (G := x < y) (q1 := (pc + len, L, S, k, n, H)) (q2 := (q, L, S, k, n, H)) hd rfl rfl (by
    by_cases h : x < y
    · simp [stp, hj, Jvm.Free.XT.ii_ge_f h, h]
    · simp [stp, hj, Jvm.Free.XT.ii_ge_t h, h])
theorem W_icmp_le (hd : P.1 m pc = some (.if_icmp .le o, len, aux)) (hj : jmp pc o = some q) : W P m pc L (.int y :: .int x :: S) k n H Q ↔ (if y < x then W P m (pc + len) L S k n H Q else W P m q L S k n H Q) :=
  W_f (G := y < x) (q1 := (pc + len, L, S, k, n, H)) (q2 := (q, L, S, k, n, H)) hd rfl rfl (by
    by_cases h : y < x
    · simp [stp, hj, Jvm.Free.XT.ii_le_f h, h]
    · simp [stp, hj, Jvm.Free.XT.ii_le_t h, h])
theorem W_if_eq (hd : P.1 m pc = some (.ifCond .eq o, len, aux)) (hj : jmp pc o = some q) : W P m pc L (.int x :: S) k n H Q ↔ (if x = 0 then W P m q L S k n H Q else W P m (pc + len) L S k n H Q) :=
  W_f (G := x = 0) (q1 := (q, L, S, k, n, H)) (q2 := (pc + len, L, S, k, n, H)) hd rfl rfl (by
    by_cases h : x = 0
    · have e := Jvm.Free.XT.i0_eq_t h; simp only [stp, hj, e, if_pos h, if_true, Option.map_some]
    · simp [stp, hj, Jvm.Free.XT.i0_eq_f h, h])
theorem W_if_ne (hd : P.1 m pc = some (.ifCond .ne o, len, aux)) (hj : jmp pc o = some q) : W P m pc L (.int x :: S) k n H Q ↔ (if x = 0 then W P m (pc + len) L S k n H Q else W P m q L S k n H Q) :=
  W_f (G := x = 0) (q1 := (pc + len, L, S, k, n, H)) (q2 := (q, L, S, k, n, H)) hd rfl rfl (by
    by_cases h : x = 0
    · have e := Jvm.Free.XT.i0_ne_f h; simp only [stp, hj, e, if_pos h, Bool.false_eq_true, if_false]
    · simp [stp, hj, Jvm.Free.XT.i0_ne_t h, h])
theorem W_if_lt (hd : P.1 m pc = some (.ifCond .lt o, len, aux)) (hj : jmp pc o = some q) : W P m pc L (.int x :: S) k n H Q ↔ (if x < 0 then W P m q L S k n H Q else W P m (pc + len) L S k n H Q) :=
  W_f (G := x < 0) (q1 := (q, L, S, k, n, H)) (q2 := (pc + len, L, S, k, n, H)) hd rfl rfl (by
    by_cases h : x < 0
    · simp [stp, hj, Jvm.Free.XT.i0_lt_t h, h]
    · simp [stp, hj, Jvm.Free.XT.i0_lt_f h, h])
theorem W_goto (hd : P.1 m pc = some (.goto o, len, aux)) (hj : jmp pc o = some q) : W P m pc L S k n H Q ↔ W P m q L S k n H Q := W_s hd rfl rfl (by simp [stp, hj])
end Cmp
section Sto
variable {i : Nat} {o o2 : Slot} {x y : Int32} {v : Value} {l : Int64} {a : Nat}
theorem stl_plain (h : L[i]? = some o) (ho : cat1 o = true) : stl L i v = some (L.set i (.val v)) := by
  unfold stl
  rw [h]
  cases o with
  | unset => rfl
  | second => cases ho
  | val w => simp only [cat1, beq_iff_eq] at ho; simp [ho]
theorem stL_plain (h : L[i]? = some o) (h2 : L[i + 1]? = some o2) (ho : cat1 o = true) (ho2 : cat1 o2 = true) : stL L i v = some ((L.set i (.val v)).set (i + 1) .second) := by
  unfold stL
  rw [h, h2]
  cases o with
  | unset => simp [ho2]
  | second => cases ho
  | val w => simp only [cat1, beq_iff_eq] at ho; simp [ho, ho2]
theorem W_ist (hd : P.1 m pc = some (.istore i, len, aux)) (h : L[i]? = some o) (ho : cat1 o = true) : W P m pc L (.int x :: S) k n H Q ↔ W P m (pc + len) (L.set i (.val (.int x))) S k n H Q := W_s hd rfl rfl (by simp [stp, stl_plain h ho])
theorem W_istn {i : Fin 4} (hd : P.1 m pc = some (.istore_n i, len, aux)) (h : L[i.val]? = some o) (ho : cat1 o = true) : W P m pc L (.int x :: S) k n H Q ↔ W P m (pc + len) (L.set i.val (.val (.int x))) S k n H Q := W_s hd rfl rfl (by simp [stp, stl_plain h ho])
theorem W_astn {i : Fin 4} (hd : P.1 m pc = some (.astore_n i, len, aux)) (h : L[i.val]? = some o) (ho : cat1 o = true) : W P m pc L (.ref a :: S) k n H Q ↔ W P m (pc + len) (L.set i.val (.val (.ref a))) S k n H Q := W_s hd rfl rfl (by simp [stp, stl_plain h ho])
theorem W_lst (hd : P.1 m pc = some (.lstore i, len, aux)) (h : L[i]? = some o) (h2 : L[i + 1]? = some o2) (ho : cat1 o = true) (ho2 : cat1 o2 = true) : W P m pc L (.long l :: S) k n H Q ↔ W P m (pc + len) ((L.set i (.val (.long l))).set (i + 1) .second) S k n H Q := W_s hd rfl rfl (by simp [stp, stL_plain h h2 ho ho2])
theorem cs_nil : cs [] = 0 := by simp [cs]
theorem cs_ref : cs (.ref a :: S) = 1 + cs S := by simp [cs, Value.category]
end Sto
section Heap
variable {a j : Nat} {i x c : Int32} {v : Value} {l : Int64}
theorem W_getf {ix : Nat} (hd : P.1 m pc = some (.getfield ix, len, aux)) : W P m pc L (.ref a :: S) k n H Q ↔ (isO H a = true ∧ W P m (pc + len) L (fld H a aux.toNat :: S) k n H Q) := W_g hd rfl rfl rfl
theorem W_putf {ix : Nat} (hd : P.1 m pc = some (.putfield ix, len, aux)) : W P m pc L (v :: .ref a :: S) k n H Q ↔ ((isOw H a = true ∧ okv (P.2.2.1 aux.toNat) v = true) ∧ W P m (pc + len) L S k n (wr H a aux.toNat v) Q) := W_g hd rfl rfl rfl
theorem W_iaload (hd : P.1 m pc = some (.iaload, len, aux)) : W P m pc L (.int i :: .ref a :: S) k n H Q ↔ (inA H a .int i = true ∧ W P m (pc + len) L (elt H a i :: S) k n H Q) := W_g hd rfl rfl rfl
theorem W_baload (hd : P.1 m pc = some (.baload, len, aux)) : W P m pc L (.int i :: .ref a :: S) k n H Q ↔ ((inA H a .byte i = true ∨ inA H a .boolean i = true) ∧ W P m (pc + len) L (elt H a i :: S) k n H Q) := W_g hd rfl rfl rfl
theorem W_iastore (hd : P.1 m pc = some (.iastore, len, aux)) : W P m pc L (.int x :: .int i :: .ref a :: S) k n H Q ↔ (inAw H a .int i = true ∧ W P m (pc + len) L S k n (wr H a i.toNatClampNeg (.int x)) Q) := W_g hd rfl rfl rfl
theorem W_bastore (hd : P.1 m pc = some (.bastore, len, aux)) : W P m pc L (.int x :: .int i :: .ref a :: S) k n H Q ↔ (((inAw H a .byte i = true ∧ okv .byte (.int x) = true) ∨ (inAw H a .boolean i = true ∧ okv .boolean (.int x) = true)) ∧ W P m (pc + len) L S k n (wr H a i.toNatClampNeg (.int x)) Q) := W_g hd rfl rfl rfl
theorem W_newarr {t : ArrayType} (hd : P.1 m pc = some (.newarray t, len, aux)) : W P m pc L (.int c :: S) k n H Q ↔ ((¬ c < 0 ∧ c.toNatClampNeg * 8 ≤ 536870912 ∧ k + 1 ≤ (rm P m).cells ∧ n + c.toNatClampNeg ≤ (rm P m).slots) ∧ W P m (pc + len) L (.ref H.1 :: S) (k + 1) (n + c.toNatClampNeg) (mkA (newarray.typeOf t) c.toNatClampNeg H) Q) := W_g hd rfl rfl rfl
theorem W_new {ix : Nat} (hd : P.1 m pc = some (.new ix, len, aux)) : W P m pc L S k n H Q ↔ ((0 ≤ aux ∧ k + 1 ≤ (rm P m).cells ∧ n + aux.toNat ≤ (rm P m).slots) ∧ W P m (pc + len) L (.ref H.1 :: S) (k + 1) (n + aux.toNat) (mkO P H) Q) := W_g hd rfl rfl rfl
theorem W_oinit {ix : Nat} (hd : P.1 m pc = some (.invokespecial ix, len, -1)) : W P m pc L (.ref a :: S) k n H Q ↔ ((1 ≤ (rm P m).frames ∧ cs S + 12 ≤ (rm P m).locals) ∧ W P m (pc + len) L S k n H Q) :=
  W_g (G := 1 ≤ (rm P m).frames ∧ cs S + 12 ≤ (rm P m).locals) hd rfl (by simp [cal, cal1]) (by simp [stp])
end Heap
section Call
variable {m' : Nat} {a r : List Value} {b : Nat}
theorem cal_eq (hk : kindOk ins (kd P m') = true) (hl : a.length = na P m') : cal P m ins (m' : Int) (a.reverse ++ r) k n H = if may P m m' a r k n H = true then some (m', a, r) else none := by
  have e1 : (a.reverse ++ r).take (na P m') = a.reverse := by rw [← hl, ← List.length_reverse (as := a)]; exact List.take_left ..
  have e2 : (a.reverse ++ r).drop (na P m') = r := by rw [← hl, ← List.length_reverse (as := a)]; exact List.drop_left ..
  have key : cal1 P m ins (m' : Int) (a.reverse ++ r) k n H = if may P m m' a r k n H = true then some (m', a, r) else none := by
    unfold cal1
    rw [Int.toNat_natCast, e1, e2, List.reverse_reverse]
    simp [hk]
  cases ins <;> first | exact key | (cases hk)
theorem W_call (hd : P.1 m pc = some (ins, len, (m' : Int))) (hr : ret P m ins S = none) (hk : kindOk ins (kd P m') = true) (hl : a.length = na P m') (hS : S = a.reverse ++ r) (hns : stp P m ins len (m' : Int) pc L S k n H = none) :
    W P m pc L S k n H Q ↔ (may P m m' a r k n H = true ∧ Cl P m' a H (fun v H' => W P m (pc + len) L (v.toList ++ r) (k + (rm P m').cells) (n + (rm P m').slots) H' Q)) := by
  have hc : cal P m ins (m' : Int) S k n H = if may P m m' a r k n H = true then some (m', a, r) else none := by rw [hS]; exact cal_eq hk hl
  by_cases g : may P m m' a r k n H = true
  · rw [if_pos g] at hc
    rw [W_c hd hr hc]; simp [g]
  · rw [if_neg g] at hc
    rw [W_q hd hr hc, hns]
    exact ⟨fun ⟨q, e, h⟩ => (by cases e), fun h => absurd h.1 g⟩
theorem W_inst {ix : Nat} {as : List Value} (hd : P.1 m pc = some (.invokevirtual ix, len, (m' : Int))) (hk : kindOk (.invokevirtual ix) (kd P m') = true) (hl : as.length + 1 = na P m') (hS : S = as.reverse ++ .ref b :: r)
    (h1 : (Sym.laidSlots (.ref b :: as)).length ≤ ml P m') (h2 : (rm P m').frames + 1 ≤ (rm P m).frames) (h3 : (rm P m').cells = 0 ∧ (rm P m').slots = 0) :
    W P m pc L S k n H Q ↔ ((isO H b = true ∧ cs r + (ml P m' + 11) + (rm P m').locals ≤ (rm P m).locals) ∧ Cl P m' (.ref b :: as) H (fun v H' => W P m (pc + len) L (v.toList ++ r) k n H' Q)) := by
  rw [W_call (a := .ref b :: as) (r := r) hd rfl hk hl (by rw [hS]; simp) rfl]
  have e : may P m m' (.ref b :: as) r k n H = true ↔ (isO H b = true ∧ cs r + (ml P m' + 11) + (rm P m').locals ≤ (rm P m).locals) := by
    have hk0 : kd P m' ≠ 0 := by intro h; rw [h] at hk; cases hk
    simp [may, rcv, h1, h2, h3, ← hl, hk0]; exact And.comm
  rw [e, h3.1, h3.2]; rfl
theorem W_stat {ix : Nat} (hd : P.1 m pc = some (.invokestatic ix, len, (m' : Int))) (hk : kindOk (.invokestatic ix) (kd P m') = true) (hl : a.length = na P m') (hS : S = a.reverse ++ r)
    (h1 : (Sym.laidSlots a).length ≤ ml P m') (h2 : (rm P m').frames + 1 ≤ (rm P m).frames) (h3 : (rm P m').cells = 0 ∧ (rm P m').slots = 0) :
    W P m pc L S k n H Q ↔ ((cs r + (ml P m' + 11) + (rm P m').locals ≤ (rm P m).locals) ∧ Cl P m' a H (fun v H' => W P m (pc + len) L (v.toList ++ r) k n H' Q)) := by
  rw [W_call (a := a) (r := r) hd rfl hk hl hS rfl]
  have e : may P m m' a r k n H = true ↔ (cs r + (ml P m' + 11) + (rm P m').locals ≤ (rm P m).locals) := by
    have hk0 : kd P m' = 0 := by simpa [kindOk] using hk
    simp [may, h1, h2, h3, hl, hk0]
  rw [e, h3.1, h3.2]; rfl
theorem W_init {ix : Nat} {as : List Value} (hd : P.1 m pc = some (.invokespecial ix, len, (m' : Int))) (hk : kindOk (.invokespecial ix) (kd P m') = true) (hl : as.length + 1 = na P m') (hS : S = as.reverse ++ .ref b :: r)
    (h1 : (Sym.laidSlots (.ref b :: as)).length ≤ ml P m') (h2 : (rm P m').frames + 1 ≤ (rm P m).frames) (h3 : ¬ ((rm P m').cells = 0 ∧ (rm P m').slots = 0)) :
    W P m pc L S k n H Q ↔ ((isO H b = true ∧ cs r + (ml P m' + 11) + (rm P m').locals ≤ (rm P m).locals ∧ k + (rm P m').cells ≤ (rm P m).cells ∧ n + (rm P m').slots ≤ (rm P m).slots) ∧ Cl P m' (.ref b :: as) H (fun v H' => W P m (pc + len) L (v.toList ++ r) (k + (rm P m').cells) (n + (rm P m').slots) H' Q)) := by
  have hns : stp P m (.invokespecial ix) len (m' : Int) pc L S k n H = none := by
    dsimp only [stp]
    split
    · rw [if_neg]; omega
    · rfl
  rw [W_call (a := .ref b :: as) (r := r) hd rfl hk hl (by rw [hS]; simp) hns]
  have e : may P m m' (.ref b :: as) r k n H = true ↔ (isO H b = true ∧ cs r + (ml P m' + 11) + (rm P m').locals ≤ (rm P m).locals ∧ k + (rm P m').cells ≤ (rm P m).cells ∧ n + (rm P m').slots ≤ (rm P m).slots) := by
    have hk0 : kd P m' ≠ 0 := by intro h; rw [h] at hk; cases hk
    simp only [may, rcv, h1, h2, h3, ← hl, hk0, List.length_cons, decide_true, decide_false, Bool.true_and, Bool.false_or, Bool.and_eq_true, decide_eq_true_eq]
    constructor
    · rintro ⟨⟨q1, q2⟩, q3⟩; exact ⟨q3, q1, q2⟩
    · rintro ⟨q3, q1, q2⟩; exact ⟨⟨q1, q2⟩, q3⟩
  rw [e]
end Call
section Last
theorem W_rz {x : Int32} (hd : P.1 m pc = some (.ireturn, len, aux)) (hr : rt P m = some .boolean) : W P m pc L (.int x :: S) k n H Q ↔ ((x = 0 ∨ x = 1) ∧ Q (some (.int x)) H) := by
  by_cases g : x = 0 ∨ x = 1
  · rw [W_r hd (by simp only [ret, hr]; rw [if_pos g])]; simp [g]
  · rw [W_q hd (by simp only [ret, hr]; rw [if_neg g]) rfl]
    constructor
    · rintro ⟨q, e, -⟩; cases e
    · intro h; exact absurd h.1 g
theorem W_newarr' {t : ArrayType} {c : Int32} {N : Nat} (hd : P.1 m pc = some (.newarray t, len, aux)) (hN : c.toNatClampNeg = N) (h1 : ¬ c < 0) (h2 : N * 8 ≤ 536870912) :
    W P m pc L (.int c :: S) k n H Q ↔ ((k + 1 ≤ (rm P m).cells ∧ n + N ≤ (rm P m).slots) ∧ W P m (pc + len) L (.ref H.1 :: S) (k + 1) (n + N) (mkA (newarray.typeOf t) N H) Q) := by
  rw [W_newarr hd, hN]; simp [h1, h2]
theorem W_new' {ix : Nat} (hd : P.1 m pc = some (.new ix, len, aux)) (h0 : 0 ≤ aux) : W P m pc L S k n H Q ↔ ((k + 1 ≤ (rm P m).cells ∧ n + aux.toNat ≤ (rm P m).slots) ∧ W P m (pc + len) L (.ref H.1 :: S) (k + 1) (n + aux.toNat) (mkO P H) Q) := by
  rw [W_new hd]; simp [h0]
theorem cmpL_eq {x y : Int64} : Jvm.Free.XT.cmpL x y = 0 ↔ x = y := by
  unfold Jvm.Free.XT.cmpL
  by_cases h1 : y < x
  · rw [if_pos h1]; exact ⟨fun h => absurd h (by decide), fun h => by subst h; rw [Int64.lt_iff_toInt_lt] at h1; omega⟩
  · rw [if_neg h1]
    by_cases h2 : x = y
    · rw [if_pos h2]; exact ⟨fun _ => h2, fun _ => rfl⟩
    · rw [if_neg h2]; exact ⟨fun h => absurd h (by decide), fun h => absurd h h2⟩
end Last
end Rules
abbrev LW : Type := (Nat → Nat → Option (Instr × Nat × Int)) × (Nat → MInfo)
abbrev Row : Type := Nat × Instr × Nat × Int
end Jvm.JX

namespace Jvm.JX
open Sem ClassFile Op Lib
abbrev St : Type := (Nat → Int32) × (Nat → Int64) × (Nat → Nat → Int32) × (Nat → Nat → Int64)
abbrev Lay : Type := List (FieldType × Nat) × List (FieldType × Nat)
def sI (s : St) (k : Nat) : Int32 := s.1 k
def sJ (s : St) (k : Nat) : Int64 := s.2.1 k
def sA (s : St) (t i : Nat) : Int32 := s.2.2.1 t i
def sB (s : St) (t i : Nat) : Int64 := s.2.2.2 t i
def uI (s : St) (k : Nat) (v : Int32) : St := (fun j => if j = k then v else s.1 j, s.2.1, s.2.2.1, s.2.2.2)
def uJ (s : St) (k : Nat) (v : Int64) : St := (s.1, fun j => if j = k then v else s.2.1 j, s.2.2.1, s.2.2.2)
def uA (s : St) (t i : Nat) (v : Int32) : St := (s.1, s.2.1, fun t' i' => if t' = t ∧ i' = i then v else s.2.2.1 t' i', s.2.2.2)
def uB (s : St) (t i : Nat) (v : Int64) : St := (s.1, s.2.1, s.2.2.1, fun t' i' => if t' = t ∧ i' = i then v else s.2.2.2 t' i')
def z0 : St := (fun _ => 0, fun _ => 0, fun _ _ => 0, fun _ _ => 0)
section St
variable {s : St} {k j t i t' i' : Nat} {v : Int32} {w : Int64}
theorem sI_uI : sI (uI s k v) j = if j = k then v else sI s j := by simp [sI, sJ, sA, sB, uI, uJ, uA, uB, z0]
theorem sI_uJ : sI (uJ s k w) j = sI s j := by simp [sI, sJ, sA, sB, uI, uJ, uA, uB, z0]
theorem sI_uA : sI (uA s t i v) j = sI s j := by simp [sI, sJ, sA, sB, uI, uJ, uA, uB, z0]
theorem sJ_uI : sJ (uI s k v) j = sJ s j := by simp [sI, sJ, sA, sB, uI, uJ, uA, uB, z0]
theorem sJ_uJ : sJ (uJ s k w) j = if j = k then w else sJ s j := by simp [sI, sJ, sA, sB, uI, uJ, uA, uB, z0]
theorem sJ_uA : sJ (uA s t i v) j = sJ s j := by simp [sI, sJ, sA, sB, uI, uJ, uA, uB, z0]
theorem sA_uI : sA (uI s k v) t' i' = sA s t' i' := by simp [sI, sJ, sA, sB, uI, uJ, uA, uB, z0]
theorem sA_uJ : sA (uJ s k w) t' i' = sA s t' i' := by simp [sI, sJ, sA, sB, uI, uJ, uA, uB, z0]
theorem sA_uA : sA (uA s t i v) t' i' = if t' = t ∧ i' = i then v else sA s t' i' := by simp [sI, sJ, sA, sB, uI, uJ, uA, uB, z0]
theorem sB_uI : sB (uI s k v) t' i' = sB s t' i' := by simp [sI, sJ, sA, sB, uI, uJ, uA, uB, z0]
theorem sB_uJ : sB (uJ s k w) t' i' = sB s t' i' := by simp [sI, sJ, sA, sB, uI, uJ, uA, uB, z0]
theorem sB_uA : sB (uA s t i v) t' i' = sB s t' i' := by simp [sI, sJ, sA, sB, uI, uJ, uA, uB, z0]
theorem sA_z0 : sA z0 t i = 0 := by simp [sI, sJ, sA, sB, uI, uJ, uA, uB, z0]
theorem sB_z0 : sB z0 t i = 0 := by simp [sI, sJ, sA, sB, uI, uJ, uA, uB, z0]
theorem St_ext {s s' : St} (h1 : ∀ k, sI s k = sI s' k) (h2 : ∀ k, sJ s k = sJ s' k) (h3 : ∀ t i, sA s t i = sA s' t i) (h4 : ∀ t i, sB s t i = sB s' t i) : s = s' :=
  Prod.ext (funext h1) (Prod.ext (funext h2) (Prod.ext (funext fun t => funext (h3 t)) (funext fun t => funext (h4 t))))
end St
def zr (s : St) (t : Nat) : Prop := (∀ i, sA s t i = 0) ∧ ∀ i, sB s t i = 0
theorem zr_z0 {t : Nat} : zr z0 t = True := by simp [zr, sA_z0, sB_z0]
def fvl (y : Lay) (j p : Nat) (s : St) (k : Nat) : Value := match y.1[k]? with
  | some (.long, _) => .long (sJ s k)
  | some (.array _, t) => if t ≤ j then .ref (p + t) else .null
  | _ => .int (sI s k)
def blk (y : Lay) (j p : Nat) (s : St) : Nat → Cel
  | 0 => (.object "", y.1.length, true, fvl y j p s)
  | t + 1 => match y.2[t]? with
    | some (.long, n) => (.array .long, n, true, fun i => .long (sB s (t + 1) i))
    | some (ty, n) => (.array ty, n, true, fun i => .int (sA s (t + 1) i))
    | none => (.char, 0, false, fun _ => .null)
def put (y : Lay) (j : Nat) (H : AH) (p : Nat) (s : St) : AH := (H.1, fun a => if p ≤ a ∧ a ≤ p + j then blk y j p s (a - p) else H.2 a)
section Put
variable {y : Lay} {j : Nat} {H : AH} {p : Nat} {s : St} {k t n : Nat} {ty : FieldType} {i : Int32}
theorem put_0 : (put y j H p s).2 p = (.object "", y.1.length, true, fvl y j p s) := by simp [put, blk]
theorem put_t (ht : t ≤ j) : (put y j H p s).2 (p + t) = blk y j p s t := by simp [put, ht]
theorem isO_put : isO (put y j H p s) p = true := by simp [isO, put_0]
theorem isOw_put : isOw (put y j H p s) p = true := by simp [isOw, isO_put, put_0]
theorem fld_I (h : y.1[k]? = some (ty, t)) (hl : ty ≠ .long) (ha : ∀ e, ty ≠ .array e) : fld (put y j H p s) p k = .int (sI s k) := by
  simp only [fld, put_0, fvl, h]; cases ty <;> first | rfl | exact absurd rfl hl | exact absurd rfl (ha _)
theorem fld_J (h : y.1[k]? = some (.long, t)) : fld (put y j H p s) p k = .long (sJ s k) := by simp only [fld, put_0, fvl, h]
theorem fld_R (h : y.1[k]? = some (.array ty, t)) (ht : t ≤ j) : fld (put y j H p s) p k = .ref (p + t) := by simp only [fld, put_0, fvl, h, ht, if_true]
theorem blk_I (h : y.2[t]? = some (ty, n)) (hl : ty ≠ .long) : blk y j p s (t + 1) = (.array ty, n, true, fun i => .int (sA s (t + 1) i)) := by
  simp only [blk, h]
theorem clamp_lt {i : Int32} {n : Nat} : (¬ i < 0 ∧ i.toNatClampNeg < n) ↔ (0 ≤ i.toInt ∧ i.toInt < n) := by
  simp only [Int32.lt_iff_toInt_lt, Int32.toNatClampNeg, Int32.reduceToInt]; omega
theorem inA_I (h : y.2[t]? = some (ty, n)) (hl : ty ≠ .long) (ht : t + 1 ≤ j) : inA (put y j H p s) (p + (t + 1)) ty i = true ↔ (0 ≤ i.toInt ∧ i.toInt < n) := by
  rw [← clamp_lt]; simp [inA, put_t ht, blk_I h hl]
theorem inA_no {ty' : FieldType} (h : y.2[t]? = some (ty, n)) (hl : ty ≠ .long) (ht : t + 1 ≤ j) (hne : ty ≠ ty') : inA (put y j H p s) (p + (t + 1)) ty' i = true ↔ False := by
  simp [inA, put_t ht, blk_I h hl, hne]
theorem inAw_I (h : y.2[t]? = some (ty, n)) (hl : ty ≠ .long) (ht : t + 1 ≤ j) : inAw (put y j H p s) (p + (t + 1)) ty i = true ↔ (0 ≤ i.toInt ∧ i.toInt < n) := by
  rw [← inA_I (H := H) (p := p) (s := s) h hl ht]; simp [inAw, put_t ht, blk_I h hl]
theorem inAw_no {ty' : FieldType} (h : y.2[t]? = some (ty, n)) (hl : ty ≠ .long) (ht : t + 1 ≤ j) (hne : ty ≠ ty') : inAw (put y j H p s) (p + (t + 1)) ty' i = true ↔ False := by
  simp [inAw, inA, put_t ht, blk_I h hl, hne]
theorem elt_I (h : y.2[t]? = some (ty, n)) (hl : ty ≠ .long) (ht : t + 1 ≤ j) : elt (put y j H p s) (p + (t + 1)) i = .int (sA s (t + 1) i.toNatClampNeg) := by
  simp only [elt, put_t ht, blk_I h hl]
theorem put_wr {s' : St} {t q : Nat} {v : Value} (ht : t ≤ j) (hb : ∀ t', blk y j p s' t' = if t' = t then ((blk y j p s t).1, (blk y j p s t).2.1, (blk y j p s t).2.2.1, fun i => if i = q then v else (blk y j p s t).2.2.2 i) else blk y j p s t') :
    wr (put y j H p s) (p + t) q v = put y j H p s' := by
  refine Prod.ext rfl (funext fun a => ?_)
  simp only [wr, put_t ht]
  by_cases e : a = p + t
  · subst e; simp [put, ht, hb]
  · simp only [e, if_false, put]
    by_cases g : p ≤ a ∧ a ≤ p + j
    · have : a - p ≠ t := by omega
      simp [g, hb, this]
    · simp [g]
theorem fvl_uI {v : Int32} (h : y.1[k]? = some (ty, t)) (hl : ty ≠ .long) (ha : ∀ e, ty ≠ .array e) (i : Nat) : fvl y j p (uI s k v) i = if i = k then .int v else fvl y j p s i := by
  by_cases e : i = k
  · subst e; simp only [fvl, h, if_true]; cases ty <;> first | (simp [sI_uI]; done) | exact absurd rfl hl | exact absurd rfl (ha _)
  · simp only [fvl, e, if_false, sI_uI, sJ_uI]
theorem fvl_uJ {v : Int64} (h : y.1[k]? = some (.long, t)) (i : Nat) : fvl y j p (uJ s k v) i = if i = k then .long v else fvl y j p s i := by
  by_cases e : i = k
  · subst e; simp only [fvl, h, if_true, sJ_uJ]
  · simp only [fvl, e, if_false, sI_uJ, sJ_uJ]
theorem wr_I {v : Int32} (h : y.1[k]? = some (ty, t)) (hl : ty ≠ .long) (ha : ∀ e, ty ≠ .array e) : wr (put y j H p s) p k (.int v) = put y j H p (uI s k v) := by
  refine put_wr (t := 0) (Nat.zero_le _) fun t' => ?_
  cases t' with
  | zero => simp only [blk, if_true]; exact congrArg (fun f => (_, _, _, f)) (funext fun i => fvl_uI h hl ha i)
  | succ t' => simp [blk, sA_uI, sB_uI]
theorem wr_J {v : Int64} (h : y.1[k]? = some (.long, t)) : wr (put y j H p s) p k (.long v) = put y j H p (uJ s k v) := by
  refine put_wr (t := 0) (Nat.zero_le _) fun t' => ?_
  cases t' with
  | zero => simp only [blk, if_true]; exact congrArg (fun f => (_, _, _, f)) (funext fun i => fvl_uJ h i)
  | succ t' => simp [blk, sA_uJ, sB_uJ]
theorem wr_A {v : Int32} {q : Nat} (h : y.2[t]? = some (ty, n)) (hl : ty ≠ .long) (ht : t + 1 ≤ j) : wr (put y j H p s) (p + (t + 1)) q (.int v) = put y j H p (uA s (t + 1) q v) := by
  refine put_wr ht fun t' => ?_
  by_cases e : t' = t + 1
  · subst e
    simp only [blk_I h hl, if_true, sA_uA, true_and]
    exact congrArg (fun f => (_, _, _, f)) (funext fun i => by split <;> rfl)
  · simp only [e, if_false]
    cases t' with
    | zero => rfl
    | succ t' => have : ¬ t' = t := fun q => e (by rw [q]); simp [blk, sA_uA, sB_uA, this]
theorem mkO_put {P : Prog} (hn : P.2.2.2 = y.1.length) (hf : ∀ k, defaultValue (P.2.2.1 k) = fvl y 0 H.1 z0 k) : mkO P H = put y 0 (H.1 + 1, H.2) H.1 z0 := by
  refine Prod.ext rfl (funext fun a => ?_)
  by_cases e : a = H.1
  · subst e; simp only [mkO, if_true, put_0, hn]; exact congrArg (fun f => (_, _, _, f)) (funext fun k => hf k)
  · have : ¬ (H.1 ≤ a ∧ a ≤ H.1 + 0) := by omega
    simp only [mkO, put, e, if_false, if_neg this]
theorem mkA_put {h : Nat → Cel} (h1 : y.1[k]? = some (.array ty, j + 1)) (h2 : y.2[j]? = some (ty, n)) (hu : (List.range y.1.length).all (fun k' => decide (k' = k) || ((y.1.getD k' (.int, 0)).2 != j + 1)) = true) (hz : ∀ i, sA s (j + 1) i = 0) (hz' : ∀ i, sB s (j + 1) i = 0) (hty : ty = .int ∨ ty = .long ∨ ty = .byte ∨ ty = .boolean) :
    wr (mkA ty n (put y j (p + (j + 1), h) p s)) p k (.ref (p + (j + 1))) = put y (j + 1) (p + (j + 1) + 1, h) p s := by
  refine Prod.ext rfl (funext fun a => ?_)
  have hp : ¬ p = p + (j + 1) := by omega
  have hN : (put y j (p + (j + 1), h) p s).1 = p + (j + 1) := rfl
  by_cases e : a = p
  · subst e
    simp only [wr, mkA, hN, if_true, hp, if_false, put_0]
    refine congrArg (fun f => (_, _, _, f)) (funext fun i => ?_)
    by_cases e2 : i = k
    · subst e2; simp [fvl, h1]
    · simp only [e2, if_false, fvl]
      cases hq : y.1[i]? with
      | none => rfl
      | some x =>
        obtain ⟨x1, x2⟩ := x
        cases x1 <;> try rfl
        rename_i el
        have : x2 ≠ j + 1 := fun q => by
          have hlt : i < y.1.length := (List.getElem?_eq_some_iff.mp hq).1
          have u := List.all_eq_true.mp hu i (List.mem_range.mpr hlt)
          simp [e2, hq, q] at u
        have : (x2 ≤ j + 1) = (x2 ≤ j) := propext ⟨fun _ => by omega, fun _ => by omega⟩
        simp [this]
  · simp only [wr, mkA, hN, e, if_false]
    by_cases e2 : a = p + (j + 1)
    · subst e2
      simp only [if_true, put_t (Nat.le_refl (j + 1))]
      rcases hty with rfl | rfl | rfl | rfl
      · simp only [blk, h2, hz]; rfl
      · simp only [blk, h2, hz']; rfl
      · simp only [blk, h2, hz]; rfl
      · simp only [blk, h2, hz]; rfl
    · simp only [e2, if_false, put]
      by_cases g : p ≤ a ∧ a ≤ p + j
      · have g2 : p ≤ a ∧ a ≤ p + (j + 1) := by omega
        simp only [g, g2, and_self, if_true]
        obtain ⟨t, ht⟩ : ∃ t, a - p = t + 1 := ⟨a - p - 1, by omega⟩
        rw [ht]; rfl
      · have g2 : ¬ (p ≤ a ∧ a ≤ p + (j + 1)) := by omega
        simp only [g, g2, if_false]
theorem isOw_mk {h : Nat → Cel} {c : Nat} : isOw (mkA ty n (put y j (p + (c + 1), h) p s)) p = true := by
  have : ¬ p = p + (c + 1) := by omega
  have hN : (put y j (p + (c + 1), h) p s).1 = p + (c + 1) := rfl
  simp [isOw, isO, mkA, hN, this, put_0]
theorem put_fst : (put y j H p s).1 = H.1 := by simp [put]
theorem cl_unf {P : Prog} {m : Nat} {a : List Value} {L : List Slot} {Q : Option Value → AH → Prop} (h : ent P m a = L) : Cl P m a H Q ↔ W P m 0 L [] 0 0 H Q := by unfold Cl; rw [h]
end Put
def noc : Cel := (.char, 0, false, fun _ => .null)
def H0 (n : Nat) : AH := (n, fun _ => noc)
def H1 (n a len : Nat) (f : Nat → Int32) : AH := (n, fun b => if b = a then (.array .int, len, false, fun i => .int (f i)) else noc)
def cl (lo hi v : Int32) : Int32 := if v < lo then lo else if hi < v then hi else v
theorem cl3 {lo hi : Int32} (v : Int32) (h : ¬ hi < lo) : (v < lo ∧ ¬ hi < v) ∨ (¬ v < lo ∧ hi < v) ∨ (¬ v < lo ∧ ¬ hi < v) := by
  by_cases h1 : v < lo
  · exact Or.inl ⟨h1, fun h2 => h (by rw [Int32.lt_iff_toInt_lt] at *; omega)⟩
  · by_cases h2 : hi < v
    · exact Or.inr (Or.inl ⟨h1, h2⟩)
    · exact Or.inr (Or.inr ⟨h1, h2⟩)
section Okv
variable {x : Int32} {l : Int64} {a : Nat} {t : FieldType}
theorem okv_int : (okv .int (.int x) = true) = True := by simp [okv]
theorem okv_long : (okv .long (.long l) = true) = True := by simp [okv]
theorem okv_ref : (okv (.array t) (.ref a) = true) = True := by simp [okv]
end Okv
end Jvm.JX

namespace Jvm.JX
open Sem ClassFile Op Lib
section Num
theorem ia {x y : Int32} (h1 : -2147483648 ≤ x.toInt + y.toInt) (h2 : x.toInt + y.toInt ≤ 2147483647) : (x + y).toInt = x.toInt + y.toInt := by
  rw [Int32.toInt_add]; exact Int.bmod_eq_of_le (by omega) (by omega)
theorem isb {x y : Int32} (h1 : -2147483648 ≤ x.toInt - y.toInt) (h2 : x.toInt - y.toInt ≤ 2147483647) : (x - y).toInt = x.toInt - y.toInt := by
  rw [Int32.toInt_sub]; exact Int.bmod_eq_of_le (by omega) (by omega)
theorem im {x y : Int32} (h1 : -2147483648 ≤ x.toInt * y.toInt) (h2 : x.toInt * y.toInt ≤ 2147483647) : (x * y).toInt = x.toInt * y.toInt := by
  rw [Int32.toInt_mul]; exact Int.bmod_eq_of_le (by omega) (by omega)
theorem lt32 {x y : Int32} : x < y ↔ x.toInt < y.toInt := Int32.lt_iff_toInt_lt
theorem eq32 {x y : Int32} : x = y ↔ x.toInt = y.toInt := Int32.toInt_inj.symm
theorem rg32 (x : Int32) : -2147483648 ≤ x.toInt ∧ x.toInt ≤ 2147483647 := ⟨Int32.le_toInt x, by have := Int32.toInt_lt x; omega⟩
theorem cln {i : Int32} : i.toNatClampNeg = i.toInt.toNat := rfl
theorem cl_rg {lo hi : Int32} (v : Int32) (h : lo.toInt ≤ hi.toInt) : lo.toInt ≤ (cl lo hi v).toInt ∧ (cl lo hi v).toInt ≤ hi.toInt := by
  unfold cl
  by_cases h1 : v < lo
  · rw [if_pos h1]; omega
  · rw [if_neg h1]
    by_cases h2 : hi < v
    · rw [if_pos h2]; omega
    · rw [if_neg h2]; rw [lt32] at h1 h2; omega
end Num
section Fill
def fA (s : St) (t lo hi : Nat) (v : Int32) : St := (s.1, s.2.1, fun t' i => if t' = t ∧ lo ≤ i ∧ i < hi then v else s.2.2.1 t' i, s.2.2.2)
variable {s : St} {t lo hi k i t' : Nat} {v : Int32}
theorem sI_fA : sI (fA s t lo hi v) k = sI s k := by simp [sI, fA]
theorem sJ_fA : sJ (fA s t lo hi v) k = sJ s k := by simp [sJ, fA]
theorem sA_fA : sA (fA s t lo hi v) t' i = if t' = t ∧ lo ≤ i ∧ i < hi then v else sA s t' i := by simp [sA, fA]
theorem sB_fA : sB (fA s t lo hi v) t' i = sB s t' i := by simp [sB, fA]
theorem fA_nil (h : hi ≤ lo) : fA s t lo hi v = s := by
  refine St_ext (fun k => sI_fA) (fun k => sJ_fA) (fun t' i => ?_) (fun t' i => sB_fA)
  rw [sA_fA, if_neg (by omega)]
theorem fA_step (h : lo < hi) : fA (uA s t lo v) t (lo + 1) hi v = fA s t lo hi v := by
  refine St_ext (fun k => by simp only [sI_fA, sI_uA]) (fun k => by simp only [sJ_fA, sJ_uA]) (fun t' i => ?_) (fun t' i => by simp only [sB_fA, sB_uA])
  simp only [sA_fA, sA_uA]
  by_cases h1 : t' = t ∧ lo + 1 ≤ i ∧ i < hi
  · rw [if_pos h1, if_pos (by omega)]
  · rw [if_neg h1]
    by_cases h2 : t' = t ∧ i = lo
    · rw [if_pos h2, if_pos (by omega)]
    · rw [if_neg h2, if_neg (by omega)]
end Fill
section Cnt
def cnt (f : Nat → Bool) : Nat → Nat → Nat
  | _, 0 => 0
  | j, k + 1 => (if f j = true then 1 else 0) + cnt f (j + 1) k
theorem cnt_none {f : Nat → Bool} : ∀ (k j : Nat), (∀ i, j ≤ i → i < j + k → f i = false) → cnt f j k = 0
  | 0, _, _ => rfl
  | k + 1, j, h => by
    have h1 := h j (Nat.le_refl _) (by omega)
    simp only [cnt, h1]
    rw [cnt_none k (j + 1) fun i a b => h i (by omega) (by omega)]; rfl
theorem cnt_congr {f g : Nat → Bool} : ∀ (k j : Nat), (∀ i, j ≤ i → i < j + k → f i = g i) → cnt f j k = cnt g j k
  | 0, _, _ => rfl
  | k + 1, j, h => by simp only [cnt]; rw [h j (Nat.le_refl _) (by omega), cnt_congr k (j + 1) fun i a b => h i (by omega) (by omega)]
end Cnt
section Ite
variable {P : Prog} {m pc : Nat} {L : List Slot} {S : List Value} {k n : Nat} {H : AH} {Q : Option Value → AH → Prop} {c : Prop} [Decidable c]
end Ite
end Jvm.JX

namespace Jvm.JX
open Sem ClassFile Op Lib
section Forget
variable {P : Prog} {m pc len k n i : Nat} {aux : Int} {ins : Instr} {L L' M : List Slot} {S : List Value} {H : AH} {v : Value} {Q : Option Value → AH → Prop}
def lel (L L' : List Slot) : Prop := ∀ i : Nat, L[i]? = L'[i]? ∨ (L[i]? = some .unset ∧ ∃ o, L'[i]? = some o ∧ cat1 o = true)
theorem lel_refl : lel L L := fun _ => Or.inl rfl
theorem lel_cons {a : Slot} (h : lel L L') : lel (a :: L) (a :: L') := fun i => by cases i with
  | zero => exact Or.inl rfl
  | succ i => simpa using h i
theorem lel_un {o : Slot} (ho : cat1 o = true) (h : lel L L') : lel (.unset :: L) (o :: L') := fun i => by cases i with
  | zero => exact Or.inr ⟨rfl, o, rfl, ho⟩
  | succ i => simpa using h i
theorem lel_len (h : lel L L') : L.length = L'.length := by
  rcases Nat.lt_trichotomy L.length L'.length with g | g | g
  · have h1 : L[L.length]? = none := List.getElem?_eq_none (Nat.le_refl _)
    rcases h L.length with e | ⟨e, -⟩
    · rw [h1] at e; have := List.getElem?_eq_none_iff.mp e.symm; omega
    · rw [h1] at e; cases e
  · exact g
  · have h1 : L'[L'.length]? = none := List.getElem?_eq_none (Nat.le_refl _)
    rcases h L'.length with e | ⟨-, o, e, -⟩
    · rw [h1] at e; have := List.getElem?_eq_none_iff.mp e; omega
    · rw [h1] at e; cases e
theorem lel_set {a : Slot} (h : lel L L') : lel (L.set i a) (L'.set i a) := fun j => by
  rw [List.getElem?_set, List.getElem?_set, lel_len h]
  by_cases e : i = j
  · rw [if_pos e, if_pos e]; exact Or.inl rfl
  · rw [if_neg e, if_neg e]; exact h j
theorem ldI_le (h : lel L L') (e : ldI L i = some v) : ldI L' i = some v := by
  unfold ldI at *; rcases h i with g | ⟨g, -⟩
  · rw [← g]; exact e
  · rw [g] at e; cases e
theorem ldJ_le (h : lel L L') (e : ldJ L i = some v) : ldJ L' i = some v := by
  unfold ldJ at *; rcases h i with g | ⟨g, -⟩
  · rw [← g]; exact e
  · rw [g] at e; cases e
theorem ldR_le (h : lel L L') (e : ldR L i = some v) : ldR L' i = some v := by
  unfold ldR at *; rcases h i with g | ⟨g, -⟩
  · rw [← g]; exact e
  · rw [g] at e; cases e
theorem stl_le (h : lel L L') (e : stl L i v = some M) : ∃ M', stl L' i v = some M' ∧ lel M M' := by
  unfold stl at *
  rcases h i with g | ⟨g, o, g', ho⟩
  · rw [← g, ← lel_len h]
    revert e; generalize L[i]? = x; intro e
    match x, e with
    | some .unset, e => cases e; exact ⟨_, rfl, lel_set h⟩
    | some (.val w), e =>
      simp only at e ⊢
      by_cases c : w.category = 1
      · simp only [c, if_true] at e ⊢; cases e; exact ⟨_, rfl, lel_set h⟩
      · simp only [c, if_false] at e ⊢
        by_cases d : i + 1 < L.length
        · simp only [d, if_true] at e ⊢; cases e; exact ⟨_, rfl, lel_set (lel_set h)⟩
        · simp only [d, if_false] at e; cases e
    | some .second, e =>
      simp only at e ⊢
      by_cases d : 1 ≤ i
      · simp only [d, if_true] at e ⊢; cases e; exact ⟨_, rfl, lel_set (lel_set h)⟩
      · simp only [d, if_false] at e; cases e
    | none, e => cases e
  · rw [g] at e; cases e; rw [g']
    match o, ho with
    | .unset, _ => exact ⟨_, rfl, lel_set h⟩
    | .val w, ho =>
      have c : w.category = 1 := by simpa [cat1] using ho
      simp only [c, if_true]; exact ⟨_, rfl, lel_set h⟩
theorem stL_le (h : lel L L') (e : stL L i v = some M) : ∃ M', stL L' i v = some M' ∧ lel M M' := by
  have key : ∀ o2, L[i + 1]? = some o2 → ∃ o3, L'[i + 1]? = some o3 ∧ (cat1 o2 = true → cat1 o3 = true) ∧ (cat1 o2 = false → o3 = o2) := by
    intro o2 e2
    rcases h (i + 1) with g | ⟨g, o, g', ho⟩
    · exact ⟨o2, by rw [← g]; exact e2, id, fun _ => rfl⟩
    · exact ⟨o, g', fun _ => ho, fun z => by rw [e2] at g; cases g; cases z⟩
  unfold stL at *
  have hs : lel ((L.set i (.val v)).set (i + 1) .second) ((L'.set i (.val v)).set (i + 1) .second) := lel_set (lel_set h)
  have hs3 : lel (((L.set i (.val v)).set (i + 2) .unset).set (i + 1) .second) (((L'.set i (.val v)).set (i + 2) .unset).set (i + 1) .second) := lel_set (lel_set (lel_set h))
  cases e2 : L[i + 1]? with
  | none => rw [e2] at e; revert e; cases L[i]? with
    | none => intro e; cases e
    | some o => intro e; cases o <;> cases e
  | some o2 =>
    obtain ⟨o3, g3, c3, c4⟩ := key o2 e2
    rw [e2] at e; rw [g3, ← lel_len h]
    rcases h i with g | ⟨g, o, g', ho⟩
    · rw [← g]
      revert e; generalize L[i]? = x; intro e
      match x, e with
      | some .unset, e =>
        simp only at e ⊢
        by_cases c : cat1 o2 = true
        · simp only [c, if_true] at e; cases e; simp only [c3 c, if_true]; exact ⟨_, rfl, hs⟩
        · rw [if_neg c] at e
          have c' : cat1 o2 = false := by simpa using c
          rw [c4 c', if_neg c]
          by_cases l3 : lng o2 = true ∧ i + 2 < L.length
          · rw [if_pos l3] at e; cases e; rw [if_pos l3]; exact ⟨_, rfl, hs3⟩
          · rw [if_neg l3] at e; cases e
      | some (.val w), e =>
        simp only at e ⊢
        by_cases d : w.category = 2
        · simp only [d, if_true] at e ⊢; cases e; exact ⟨_, rfl, hs⟩
        · rw [if_neg d] at e ⊢
          by_cases c : cat1 o2 = true
          · simp only [c, if_true] at e; cases e; simp only [c3 c, if_true]; exact ⟨_, rfl, hs⟩
          · rw [if_neg c] at e
            have c' : cat1 o2 = false := by simpa using c
            rw [c4 c', if_neg c]
            by_cases l3 : lng o2 = true ∧ i + 2 < L.length
            · rw [if_pos l3] at e; cases e; rw [if_pos l3]; exact ⟨_, rfl, hs3⟩
            · rw [if_neg l3] at e; cases e
      | some .second, e =>
        simp only at e ⊢
        by_cases d : 1 ≤ i
        · rw [if_pos d] at e ⊢
          by_cases c : cat1 o2 = true
          · rw [if_pos c] at e; cases e; rw [if_pos (c3 c)]; exact ⟨_, rfl, lel_set (lel_set (lel_set h))⟩
          · rw [if_neg c] at e
            have c' : cat1 o2 = false := by simpa using c
            rw [c4 c', if_neg c]
            by_cases l3 : lng o2 = true ∧ i + 2 < L.length
            · rw [if_pos l3] at e; cases e; rw [if_pos l3]; exact ⟨_, rfl, lel_set (lel_set (lel_set (lel_set h)))⟩
            · rw [if_neg l3] at e; cases e
        · rw [if_neg d] at e; cases e
      | none, e => cases e
    · rw [g] at e; rw [g']
      simp only at e
      by_cases c : cat1 o2 = true
      · simp only [c, if_true] at e; cases e
        match o, ho with
        | .unset, _ => simp only [c3 c, if_true]; exact ⟨_, rfl, hs⟩
        | .val w, ho =>
          by_cases d : w.category = 2
          · simp only [d, if_true]; exact ⟨_, rfl, hs⟩
          · simp only [d, if_false, c3 c, if_true]; exact ⟨_, rfl, hs⟩
      · rw [if_neg c] at e
        have c' : cat1 o2 = false := by simpa using c
        rw [c4 c']
        by_cases l3 : lng o2 = true ∧ i + 2 < L.length
        · rw [if_pos l3] at e; cases e
          match o, ho with
          | .unset, _ => simp only [if_neg c, if_pos l3]; exact ⟨_, rfl, hs3⟩
          | .val w, ho =>
            have d : ¬ w.category = 2 := by simp only [cat1, beq_iff_eq] at ho; omega
            simp only [if_neg d, if_neg c, if_pos l3]; exact ⟨_, rfl, hs3⟩
        · rw [if_neg l3] at e; cases e
def loc : Instr → Bool
  | .iload _ | .iload_n _ | .lload _ | .lload_n _ | .aload _ | .aload_n _ | .istore _ | .istore_n _ | .astore _ | .astore_n _ | .lstore _ | .lstore_n _ | .iinc _ _ => true
  | _ => false
theorem stp_fr {q : Fm} (hl : loc ins = false) (e : stp P m ins len aux pc L S k n H = some q) : q.2.1 = L ∧ stp P m ins len aux pc L' S k n H = some (q.1, L', q.2.2) := by
  cases ins <;> first
    | (cases hl; done)
    | (simp only [stp] at e ⊢; cases e; done)
    | (simp only [stp] at e ⊢; cases e; exact ⟨rfl, rfl⟩)
    | (simp only [stp, Option.map_eq_some_iff] at e ⊢; (repeat' split at e) <;> first
        | (cases e; done)
        | (cases e; exact ⟨rfl, rfl⟩)
        | (obtain ⟨w, h1, h2⟩ := e; subst h2; exact ⟨rfl, w, h1, rfl⟩)
        | (simp_all; done)
        | (simp_all; subst e; simp; done)
        | (simp_all; obtain ⟨e1, e2, e3⟩ := e; subst e3; simp_all; done)
        | (simp only [Option.bind_eq_some_iff, Option.map_eq_some_iff] at e; obtain ⟨w, h1, u, h2, h3⟩ := e; subst h3; simp_all; done)
        | (simp only [Option.bind_eq_some_iff, Option.map_eq_some_iff] at e; obtain ⟨w, h1, u, h2, h3⟩ := e; subst h3; simp_all; omega))
theorem stp_le {q : Fm} (h : lel L L') (e : stp P m ins len aux pc L S k n H = some q) : ∃ M, stp P m ins len aux pc L' S k n H = some (q.1, M, q.2.2) ∧ lel q.2.1 M := by
  cases hl : loc ins with
  | false =>
    obtain ⟨h1, h2⟩ := stp_fr (L' := L') hl e
    exact ⟨L', h2, by rw [h1]; exact h⟩
  | true =>
    cases ins <;> first
      | (cases hl; done)
      | (simp only [stp, Option.map_eq_some_iff] at e ⊢; obtain ⟨w, h1, h2⟩ := e; subst h2; first
          | exact ⟨L', ⟨w, ldI_le h h1, rfl⟩, h⟩
          | exact ⟨L', ⟨w, ldJ_le h h1, rfl⟩, h⟩
          | exact ⟨L', ⟨w, ldR_le h h1, rfl⟩, h⟩)
      | (simp only [stp] at e ⊢; split at e
         · simp only [Option.map_eq_some_iff] at e ⊢
           obtain ⟨w, h1, h2⟩ := e; subst h2
           first
            | (obtain ⟨M, g1, g2⟩ := stl_le h h1; exact ⟨M, ⟨M, g1, rfl⟩, g2⟩)
            | (obtain ⟨M, g1, g2⟩ := stL_le h h1; exact ⟨M, ⟨M, g1, rfl⟩, g2⟩)
         · cases e)
      | (simp only [stp] at e ⊢; rename_i i c; rcases h i with g | ⟨g, -⟩
         · rw [← g]; revert e; generalize L[i]? = x; intro e
           split at e
           · cases e; exact ⟨_, rfl, lel_set h⟩
           · cases e
         · rw [g] at e; cases e)
theorem run_fg : ∀ (f m pc : Nat) (L L' : List Slot) (S : List Value) (k n : Nat) (H : AH) (r : Option Value × AH), lel L L' → run P f m pc L S k n H = some r → run P f m pc L' S k n H = some r
  | 0, _, _, _, _, _, _, _, _, _, _, e => by cases e
  | f + 1, m, pc, L, L', S, k, n, H, r, h, e => by
    unfold run at e ⊢
    cases hd : P.1 m pc with
    | none => rw [hd] at e; cases e
    | some d =>
      rw [hd] at e; simp only at e ⊢
      cases hr : ret P m d.1 S with
      | some v => rw [hr] at e; exact e
      | none =>
        rw [hr] at e; simp only at e ⊢
        cases hc : cal P m d.1 d.2.2 S k n H with
        | some c =>
          rw [hc] at e; simp only at e ⊢
          cases hx : run P f c.1 0 (ent P c.1 c.2.1) [] 0 0 H with
          | none => rw [hx] at e; cases e
          | some y => rw [hx] at e; simp only at e ⊢; exact run_fg f _ _ _ _ _ _ _ _ _ h e
        | none =>
          rw [hc] at e; simp only at e ⊢
          cases hs : stp P m d.1 d.2.1 d.2.2 pc L S k n H with
          | none => rw [hs] at e; cases e
          | some q =>
            rw [hs] at e; simp only at e
            obtain ⟨M, g1, g2⟩ := stp_le h hs
            rw [g1]; exact run_fg f _ _ _ _ _ _ _ _ _ g2 e
theorem W_fg (h : lel L L') (w : W P m pc L S k n H Q) : W P m pc L' S k n H Q := by
  obtain ⟨f, v, H', e, q⟩ := w
  exact ⟨f, v, H', run_fg f m pc L L' S k n H _ h e, q⟩
end Forget
section ForgetL
variable {P : Prog} {m pc len k n i j : Nat} {aux : Int} {ins : Instr} {L M N : List Slot} {S : List Value} {H : AH} {v : Value} {a : Slot} {Q : Option Value → AH → Prop}
def ff (j : Nat) (M : List Slot) : List Slot := (M.set j .unset).set (j + 1) .unset
def Gl (j : Nat) (M : List Slot) : Prop := (∃ w : Value, M[j]? = some (.val w) ∧ w.category = 2) ∧ M[j + 1]? = some .second ∧ (∀ i o, i + 1 = j → M[i]? = some o → lng o = false) ∧ M[j + 2]? ≠ some .second
def lfr (j : Nat) (L M : List Slot) : Prop := L = M ∨ (L = ff j M ∧ Gl j M)
theorem ff_set (h1 : i ≠ j) (h2 : i ≠ j + 1) : (ff j M).set i a = ff j (M.set i a) := by
  unfold ff; rw [List.set_comm _ _ (Ne.symm h2), List.set_comm _ _ (Ne.symm h1)]
theorem ff_get (h1 : i ≠ j) (h2 : i ≠ j + 1) : (ff j M)[i]? = M[i]? := by
  unfold ff; rw [List.getElem?_set_ne (Ne.symm h2), List.getElem?_set_ne (Ne.symm h1)]
theorem ff_len : (ff j M).length = M.length := by simp [ff]
theorem Gl_set (h : Gl j M) (h1 : i ≠ j) (h2 : i ≠ j + 1) (h3 : i + 1 = j → lng a = false) (h4 : i = j + 2 → a ≠ .second) : Gl j (M.set i a) := by
  obtain ⟨⟨w, g1, g2⟩, g3, g4, g5⟩ := h
  refine ⟨⟨w, ?_, g2⟩, ?_, ?_, ?_⟩
  · rw [List.getElem?_set_ne h1]; exact g1
  · rw [List.getElem?_set_ne h2]; exact g3
  · intro i' o e h
    by_cases c : i = i'
    · subst c
      rw [List.getElem?_set] at h
      simp only [if_true] at h
      split at h
      · cases h; exact h3 e
      · cases h
    · rw [List.getElem?_set_ne c] at h; exact g4 i' o e h
  · by_cases c : i = j + 2
    · rw [List.getElem?_set]; simp only [c, if_true]
      split
      · intro e; cases e; exact h4 c rfl
      · intro e; cases e
    · rw [List.getElem?_set_ne c]; exact g5
theorem Gl_lt (h : Gl j M) : j + 1 < M.length := (List.getElem?_eq_some_iff.mp h.2.1).1
theorem ff_j (h : Gl j M) : (ff j M)[j]? = some .unset ∧ (ff j M)[j + 1]? = some .unset := by
  have := Gl_lt h
  unfold ff; constructor
  · rw [List.getElem?_set_ne (by omega), List.getElem?_set]; simp only [if_true]; rw [if_pos (by omega)]
  · rw [List.getElem?_set]; simp only [if_true, List.length_set]; rw [if_pos (by omega)]
theorem ff_0 {b : Slot} : (ff j M).set j b = (M.set (j + 1) .unset).set j b := by
  unfold ff; rw [List.set_comm _ _ (by omega : j ≠ j + 1), List.set_set]
theorem ff_1 {b : Slot} : (ff j M).set (j + 1) b = (M.set j .unset).set (j + 1) b := by
  unfold ff; rw [List.set_set]
theorem stl_fr (hv : v.category = 1) (h : lfr j L M) (e : stl L i v = some N) : ∃ N', stl M i v = some N' ∧ lfr j N N' := by
  rcases h with rfl | ⟨rfl, h⟩
  · exact ⟨N, e, Or.inl rfl⟩
  have lv : lng (.val v) = false := by simp [lng, hv]
  obtain ⟨⟨w, g1, g2⟩, g3, g4, g5⟩ := id h
  have hl := Gl_lt h
  unfold stl at e ⊢
  by_cases c1 : i = j
  · subst c1
    rw [(ff_j h).1] at e; cases e
    rw [g1]; simp only [g2, hl, if_true]
    exact ⟨_, rfl, Or.inl ff_0⟩
  by_cases c2 : i = j + 1
  · subst c2
    rw [(ff_j h).2] at e; cases e
    rw [g3]; simp only [Nat.le_add_left, if_true]
    exact ⟨_, rfl, Or.inl ff_1⟩
  rw [ff_get c1 c2, ff_len] at e
  revert e; cases hx : M[i]? with
  | none => intro e; cases e
  | some o =>
    intro e
    have s1 : ∀ {M}, Gl j M → Gl j (M.set i (.val v)) := fun h => Gl_set h c1 c2 (fun _ => lv) (fun _ => by intro z; cases z)
    cases o with
    | unset => cases e; exact ⟨_, rfl, Or.inr ⟨ff_set c1 c2, s1 h⟩⟩
    | second =>
      simp only at e ⊢
      by_cases d : 1 ≤ i
      · rw [if_pos d] at e ⊢; cases e
        have c3 : i - 1 ≠ j := by omega
        have c4 : i - 1 ≠ j + 1 := by intro z; exact g5 (by rw [← hx]; congr 1; omega)
        exact ⟨_, rfl, Or.inr ⟨by rw [ff_set c3 c4, ff_set c1 c2], s1 (Gl_set h c3 c4 (fun _ => rfl) (fun _ => by intro z; cases z))⟩⟩
      · rw [if_neg d] at e; cases e
    | val x =>
      simp only at e ⊢
      by_cases d : x.category = 1
      · rw [if_pos d] at e ⊢; cases e; exact ⟨_, rfl, Or.inr ⟨ff_set c1 c2, s1 h⟩⟩
      · rw [if_neg d] at e ⊢
        by_cases d2 : i + 1 < M.length
        · rw [if_pos d2] at e ⊢; cases e
          have d3 : x.category = 2 := by cases x <;> simp [Value.category] at d ⊢
          have c3 : i + 1 ≠ j := by intro z; have := g4 i _ z hx; simp [lng, d3] at this
          exact ⟨_, rfl, Or.inr ⟨by rw [ff_set c3 (by omega), ff_set c1 c2], s1 (Gl_set h c3 (by omega) (fun _ => rfl) (fun _ => by intro z; cases z))⟩⟩
        · rw [if_neg d2] at e; cases e
theorem stL_fr (h : lfr j L M) (e : stL L i v = some N) : ∃ N', stL M i v = some N' ∧ lfr j N N' := by
  rcases h with rfl | ⟨rfl, h⟩
  · exact ⟨N, e, Or.inl rfl⟩
  obtain ⟨⟨w, g1, g2⟩, g3, g4, g5⟩ := id h
  have hl := Gl_lt h
  unfold stL at e ⊢
  by_cases c1 : i = j
  · subst c1
    rw [(ff_j h).1, (ff_j h).2] at e; simp only [cat1, if_true] at e; cases e
    rw [g1, g3]; simp only [g2, if_true]
    exact ⟨_, rfl, Or.inl (by rw [ff_0, List.set_comm _ _ (by omega : i + 1 ≠ i), List.set_set])⟩
  by_cases c2 : i = j + 1
  · subst c2
    rw [(ff_j h).2, ff_get (i := j + 1 + 1) (by omega) (by omega), ff_len, ff_1] at e
    rw [g3]
    revert e; cases hy : M[j + 1 + 1]? with
    | none => intro e; cases e
    | some o2 =>
      intro e; simp only [Nat.le_add_left, if_true, Nat.add_sub_cancel] at e ⊢
      exact ⟨N, e, Or.inl rfl⟩
  by_cases c3 : i + 1 = j
  · subst c3
    rw [ff_get c1 c2, (ff_j h).1] at e
    rw [g1]
    have w1 : ¬ cat1 (.val w) = true := by simp [cat1, g2]
    have w2 : lng (.val w) = true ∧ i + 2 < M.length := ⟨by simp [lng, g2], hl⟩
    have en : ∀ b : Slot, ((ff (i + 1) M).set i b).set (i + 1) .second = ((M.set i b).set (i + 2) .unset).set (i + 1) .second := fun b => by
      rw [ff_set (by omega) (by omega), ff_0]
    revert e; cases hx : M[i]? with
    | none => intro e; cases e
    | some o =>
      intro e
      have lo := g4 i o rfl hx
      cases o with
      | unset => simp only [cat1, if_true] at e; cases e; simp only [if_neg w1, if_pos w2]; exact ⟨_, rfl, Or.inl (en _)⟩
      | val x =>
        have x2 : ¬ x.category = 2 := by simpa [lng] using lo
        simp only [cat1, if_true, if_neg x2] at e; cases e; simp only [if_neg w1, if_pos w2, if_neg x2]; exact ⟨_, rfl, Or.inl (en _)⟩
      | second =>
        simp only [cat1, if_true] at e
        by_cases d : 1 ≤ i
        · simp only [if_pos d, if_neg w1, if_pos w2] at e ⊢; cases e
          exact ⟨_, rfl, Or.inl (by rw [ff_set (by omega) (by omega), ff_set (by omega) (by omega), ff_0])⟩
        · rw [if_neg d] at e; cases e
  rw [ff_get c1 c2, ff_get (i := i + 1) c3 (by omega), ff_len] at e
  revert e; cases hx : M[i]? with
  | none => intro e; cases e
  | some o =>
    cases hy : M[i + 1]? with
    | none => intro e; cases o <;> cases e
    | some o2 =>
      intro e
      have s1 : ∀ {M}, Gl j M → Gl j (M.set i (.val v)) := fun h => Gl_set h c1 c2 (fun z => absurd z c3) (fun _ => by intro z; cases z)
      have s2 : ∀ {M}, Gl j M → Gl j (M.set (i + 1) .second) := fun h => Gl_set h c3 (by omega) (fun _ => rfl) (fun z => absurd z (by omega))
      have f1 : ∀ {M : List Slot}, (ff j M).set i (.val v) = ff j (M.set i (.val v)) := ff_set c1 c2
      have f2 : ∀ {M : List Slot}, (ff j M).set (i + 1) .second = ff j (M.set (i + 1) .second) := ff_set c3 (by omega)
      have t3 : lng o2 = true → i + 2 ≠ j := fun l z => by have := g4 (i + 1) o2 (by omega) hy; rw [l] at this; cases this
      have s3 : lng o2 = true → ∀ {M}, Gl j M → Gl j (M.set (i + 2) .unset) := fun l _ h => Gl_set h (t3 l) (by omega) (fun _ => rfl) (fun _ => by intro z; cases z)
      have f3 : lng o2 = true → ∀ {M : List Slot}, (ff j M).set (i + 2) .unset = ff j (M.set (i + 2) .unset) := fun l _ => ff_set (t3 l) (by omega)
      cases o with
      | unset =>
        simp only at e ⊢
        by_cases c : cat1 o2 = true
        · rw [if_pos c] at e ⊢; cases e; exact ⟨_, rfl, Or.inr ⟨by rw [f1, f2], s2 (s1 h)⟩⟩
        · rw [if_neg c] at e ⊢
          by_cases l : lng o2 = true ∧ i + 2 < M.length
          · rw [if_pos l] at e ⊢; cases e; exact ⟨_, rfl, Or.inr ⟨by rw [f1, f3 l.1, f2], s2 (s3 l.1 (s1 h))⟩⟩
          · rw [if_neg l] at e; cases e
      | val x =>
        simp only at e ⊢
        by_cases d : x.category = 2
        · rw [if_pos d] at e ⊢; cases e; exact ⟨_, rfl, Or.inr ⟨by rw [f1, f2], s2 (s1 h)⟩⟩
        rw [if_neg d] at e ⊢
        by_cases c : cat1 o2 = true
        · rw [if_pos c] at e ⊢; cases e; exact ⟨_, rfl, Or.inr ⟨by rw [f1, f2], s2 (s1 h)⟩⟩
        · rw [if_neg c] at e ⊢
          by_cases l : lng o2 = true ∧ i + 2 < M.length
          · rw [if_pos l] at e ⊢; cases e; exact ⟨_, rfl, Or.inr ⟨by rw [f1, f3 l.1, f2], s2 (s3 l.1 (s1 h))⟩⟩
          · rw [if_neg l] at e; cases e
      | second =>
        simp only at e ⊢
        by_cases d : 1 ≤ i
        · rw [if_pos d] at e ⊢
          have t0 : i - 1 ≠ j := by omega
          have t1 : i - 1 ≠ j + 1 := by intro z; exact g5 (by rw [← hx]; congr 1; omega)
          have f0 : (ff j M).set (i - 1) .unset = ff j (M.set (i - 1) .unset) := ff_set t0 t1
          have s0 : Gl j (M.set (i - 1) .unset) := Gl_set h t0 t1 (fun _ => rfl) (fun _ => by intro z; cases z)
          by_cases c : cat1 o2 = true
          · rw [if_pos c] at e ⊢; cases e; exact ⟨_, rfl, Or.inr ⟨by rw [f0, f1, f2], s2 (s1 s0)⟩⟩
          · rw [if_neg c] at e ⊢
            by_cases l : lng o2 = true ∧ i + 2 < M.length
            · rw [if_pos l] at e ⊢; cases e; exact ⟨_, rfl, Or.inr ⟨by rw [f0, f1, f3 l.1, f2], s2 (s3 l.1 (s1 s0))⟩⟩
            · rw [if_neg l] at e; cases e
        · rw [if_neg d] at e; cases e
theorem get_fr {o : Slot} (h : lfr j L M) (e : L[i]? = some o) (ho : o ≠ .unset) : M[i]? = some o := by
  rcases h with rfl | ⟨rfl, h⟩
  · exact e
  by_cases c1 : i = j
  · subst c1; rw [(ff_j h).1] at e; cases e; exact absurd rfl ho
  by_cases c2 : i = j + 1
  · subst c2; rw [(ff_j h).2] at e; cases e; exact absurd rfl ho
  rw [ff_get c1 c2] at e; exact e
theorem ldI_fr (h : lfr j L M) (e : ldI L i = some v) : ldI M i = some v := by
  unfold ldI at *
  split at e
  · rename_i g; rw [get_fr h g (by intro z; cases z)]; exact e
  · cases e
theorem ldJ_fr (h : lfr j L M) (e : ldJ L i = some v) : ldJ M i = some v := by
  unfold ldJ at *
  split at e
  · rename_i g; rw [get_fr h g (by intro z; cases z)]; exact e
  · cases e
theorem ldR_fr (h : lfr j L M) (e : ldR L i = some v) : ldR M i = some v := by
  unfold ldR at *
  split at e
  · rename_i g; rw [get_fr h g (by intro z; cases z)]; exact e
  · cases e
theorem inc_fr {x : Int32} {b : Value} (hb : b.category = 1) (h : lfr j L M) (e : L[i]? = some (.val (.int x))) : lfr j (L.set i (.val b)) (M.set i (.val b)) := by
  have e' := get_fr h e (by intro z; cases z)
  rcases h with rfl | ⟨rfl, h⟩
  · exact Or.inl rfl
  have c1 : i ≠ j := by intro z; subst z; rw [(ff_j h).1] at e; cases e
  have c2 : i ≠ j + 1 := by intro z; subst z; rw [(ff_j h).2] at e; cases e
  exact Or.inr ⟨ff_set c1 c2, Gl_set h c1 c2 (fun _ => by simp [lng, hb]) (fun _ => by intro z; cases z)⟩
theorem stp_fl {q : Fm} (h : lfr j L M) (e : stp P m ins len aux pc L S k n H = some q) : ∃ M', stp P m ins len aux pc M S k n H = some (q.1, M', q.2.2) ∧ lfr j q.2.1 M' := by
  cases hl : loc ins with
  | false =>
    obtain ⟨h1, h2⟩ := stp_fr (L' := M) hl e
    exact ⟨M, h2, by rw [h1]; exact h⟩
  | true =>
    cases ins <;> first
      | (cases hl; done)
      | (simp only [stp, Option.map_eq_some_iff] at e ⊢; obtain ⟨w, h1, h2⟩ := e; subst h2; first
          | exact ⟨M, ⟨w, ldI_fr h h1, rfl⟩, h⟩
          | exact ⟨M, ⟨w, ldJ_fr h h1, rfl⟩, h⟩
          | exact ⟨M, ⟨w, ldR_fr h h1, rfl⟩, h⟩)
      | (simp only [stp] at e ⊢; split at e
         · simp only [Option.map_eq_some_iff] at e ⊢
           obtain ⟨w, h1, h2⟩ := e; subst h2
           first
            | (obtain ⟨M, g1, g2⟩ := stl_fr rfl h h1; exact ⟨M, ⟨M, g1, rfl⟩, g2⟩)
            | (obtain ⟨M, g1, g2⟩ := stL_fr h h1; exact ⟨M, ⟨M, g1, rfl⟩, g2⟩)
         · cases e)
      | (simp only [stp] at e ⊢; rename_i i c
         revert e; cases hx : L[i]? with
         | none => intro e; cases e
         | some o =>
           intro e
           split at e
           · rename_i x g; cases g
             rw [get_fr h hx (by intro z; cases z)]
             cases e; exact ⟨_, rfl, inc_fr rfl h hx⟩
           · cases e)
theorem run_fl : ∀ (f m pc : Nat) (L L' : List Slot) (S : List Value) (k n : Nat) (H : AH) (r : Option Value × AH), lfr j L L' → run P f m pc L S k n H = some r → run P f m pc L' S k n H = some r
  | 0, _, _, _, _, _, _, _, _, _, _, e => by cases e
  | f + 1, m, pc, L, L', S, k, n, H, r, h, e => by
    unfold run at e ⊢
    cases hd : P.1 m pc with
    | none => rw [hd] at e; cases e
    | some d =>
      rw [hd] at e; simp only at e ⊢
      cases hr : ret P m d.1 S with
      | some v => rw [hr] at e; exact e
      | none =>
        rw [hr] at e; simp only at e ⊢
        cases hc : cal P m d.1 d.2.2 S k n H with
        | some c =>
          rw [hc] at e; simp only at e ⊢
          cases hx : run P f c.1 0 (ent P c.1 c.2.1) [] 0 0 H with
          | none => rw [hx] at e; cases e
          | some y => rw [hx] at e; simp only at e ⊢; exact run_fl f _ _ _ _ _ _ _ _ _ h e
        | none =>
          rw [hc] at e; simp only at e ⊢
          cases hs : stp P m d.1 d.2.1 d.2.2 pc L S k n H with
          | none => rw [hs] at e; cases e
          | some q =>
            rw [hs] at e; simp only at e
            obtain ⟨M, g1, g2⟩ := stp_fl h hs
            rw [g1]; exact run_fl f _ _ _ _ _ _ _ _ _ g2 e
theorem W_fl (j : Nat) (h : Gl j L) (w : W P m pc (ff j L) S k n H Q) : W P m pc L S k n H Q := by
  obtain ⟨f, v, H', e, q⟩ := w
  exact ⟨f, v, H', run_fl f m pc _ L S k n H _ (Or.inr ⟨rfl, h⟩) e, q⟩
def wfb : List Slot → Bool
  | [] => true
  | .second :: _ => false
  | .unset :: L => wfb L
  | .val v :: L => if v.category = 2 then (match L with | .second :: L => wfb L | _ => false) else if v.category = 1 then wfb L else false
theorem lel_app : ∀ (A : List Slot) {C D : List Slot}, lel C D → lel (A ++ C) (A ++ D)
  | [], _, _, h => h
  | a :: A, _, _, h => lel_cons (lel_app A h)
theorem ff_app {A B : List Slot} {x y : Slot} : ff A.length (A ++ x :: y :: B) = A ++ .unset :: .unset :: B := by
  unfold ff
  rw [List.set_append_right _ _ (Nat.le_refl _), List.set_append_right _ _ (by omega)]
  simp
theorem wfb_hd {B : List Slot} (h : wfb B = true) : B[0]? ≠ some .second := by
  cases B with
  | nil => intro e; cases e
  | cons b B => intro e; cases b <;> cases e; cases h
theorem W_fB : ∀ (c : Nat) (A B : List Slot), B.length ≤ c → wfb B = true → (∀ i o, i + 1 = A.length → A[i]? = some o → lng o = false) → W P m pc (A ++ B.map fun _ => .unset) S k n H Q → W P m pc (A ++ B) S k n H Q
  | 0, A, B, hc, hw, ha, w => by
    have : B = [] := List.eq_nil_of_length_eq_zero (by omega)
    subst this; exact w
  | c + 1, A, [], hc, hw, ha, w => w
  | c + 1, A, .second :: B, hc, hw, ha, w => by cases hw
  | c + 1, A, .unset :: B, hc, hw, ha, w => by
    have := W_fB c (A ++ [.unset]) B (by simpa using hc) hw (fun i o e h => by
      rw [List.length_append, List.length_singleton] at e
      have : i = A.length := by omega
      subst this; rw [List.getElem?_concat_length] at h; cases h; rfl) (by simpa using w)
    simpa using this
  | c + 1, A, .val v :: B, hc, hw, ha, w => by
    by_cases d : v.category = 2
    · unfold wfb at hw; rw [if_pos d] at hw
      cases B with
      | nil => cases hw
      | cons b B =>
        cases b with
        | unset => cases hw
        | val u => cases hw
        | second =>
          simp only at hw
          refine W_fl A.length ⟨⟨v, by simp, d⟩, by simp, fun i o e h => ?_, ?_⟩ ?_
          · rw [List.getElem?_append_left (by omega)] at h; exact ha i o e h
          · have := wfb_hd hw
            rw [List.getElem?_append_right (by omega)]; simpa using this
          · rw [ff_app]
            have := W_fB c (A ++ [.unset, .unset]) B (by simp only [List.length_cons] at hc; omega) hw (fun i o e h => by
              rw [List.length_append] at e; simp only [List.length_cons, List.length_nil] at e
              have : i = A.length + 1 := by omega
              subst this; rw [List.getElem?_append_right (by omega)] at h; simp at h; subst h; rfl) (by simpa using w)
            simpa using this
    · have d1 : v.category = 1 := by cases v <;> simp [Value.category] at d ⊢
      unfold wfb at hw; rw [if_neg d, if_pos d1] at hw
      have := W_fB c (A ++ [.val v]) B (by simpa using hc) (by simpa using hw) (fun i o e h => by
        rw [List.length_append, List.length_singleton] at e
        have : i = A.length := by omega
        subst this; rw [List.getElem?_concat_length] at h; cases h; simp [lng, d1]) (by
          rw [List.append_assoc]
          refine W_fg (lel_app A ?_) w
          exact lel_un (by simp [cat1, d1]) lel_refl)
      simpa using this
def okf (c : Nat) (L : List Slot) : Bool := decide (c ≤ L.length) && (wfb (L.drop c) && (match c with | 0 => true | c + 1 => match L[c]? with | some o => !lng o | none => true))
theorem W_fa (c : Nat) (h : okf c L = true) (w : W P m pc (L.take c ++ (L.drop c).map fun _ => .unset) S k n H Q) : W P m pc L S k n H Q := by
  unfold okf at h; rw [Bool.and_eq_true, Bool.and_eq_true, decide_eq_true_eq] at h
  have := W_fB _ (L.take c) (L.drop c) (Nat.le_refl _) h.2.1 (fun i o e h' => by
    rw [List.length_take, Nat.min_eq_left h.1] at e; subst e
    rw [List.getElem?_take_of_lt (by omega)] at h'
    have h2 := h.2.2; simp only [h'] at h2; simpa using h2) w
  rwa [List.take_append_drop] at this
end ForgetL
section Ist
variable {P : Prog} {m pc len k n i : Nat} {aux : Int} {L : List Slot} {S : List Value} {H : AH} {Q : Option Value → AH → Prop} {x : Int32} {l : Int64}
end Ist
section Num2
end Num2
end Jvm.JX

namespace Jvm.JX
open Sem ClassFile Op Lib
def G2 (P : Int64) (j : Int32) : Int64 := Jvm.Free.XT.ushrL P (2 * j) &&& 3
end Jvm.JX

namespace Jvm.JX
open Sem ClassFile Op Lib Jvm.Stand Jvm.Free Jvm.LawKit Jvm.RoadKit
def CRel (C : String) (fn : Nat → String × String) (F : List Nat) (Z : State) (n0 : Nat) (h : Heap) (a : Nat) (c : Cel) : Prop :=
  (c.2.2.1 = true → n0 ≤ a) ∧
  match c.1 with
  | .object _ => Exa Z h a C ∧ ∀ k ∈ F, Fld Z h a C (fn k).1 (fn k).2 (c.2.2.2 k)
  | .array t => c.2.1 < 2 ^ 31 ∧ ∃ cl : Cell, Arr Z h a cl t ∧ cl.slots.size = c.2.1 ∧ ∀ i, i < c.2.1 → cl.slots[i]? = some (c.2.2.2 i)
  | _ => True
def RelH (C : String) (fn : Nat → String × String) (F : List Nat) (Z : State) (n0 : Nat) (h : Heap) (H : AH) : Prop := h.size = H.1 ∧ n0 ≤ H.1 ∧ ∀ a, CRel C fn F Z n0 h a (H.2 a)
def ilen2 : Instr → Nat → Nat
  | .tableswitch _ _ _ _, l => l
  | i, _ => ilen i
def RowOk (P : Prog) (tb : List Jvm.Cond) (C : String) (fn : Nat → String × String) (F : List Nat) (nsl : Nat) (nm : Nat → MethodName) (R : List Nat) (m : Nat) (ins : Instr) (aux : Int) : Prop :=
  match ins with
  | .getfield i => aux.toNat ∈ F ∧ Jvm.Cond.fieldLink (nm m).cls i C (fn aux.toNat).1 (fn aux.toNat).2 ∈ tb
  | .putfield i => aux.toNat ∈ F ∧ Jvm.Cond.fieldLink (nm m).cls i C (fn aux.toNat).1 (fn aux.toNat).2 ∈ tb ∧ (Jvm.Cond.lays C C (fn aux.toNat).1 (fn aux.toNat).2 ∈ tb ∨ (nm m).cls = C ∧ (nm m).name = "<init>")
  | .new i => aux.toNat = nsl ∧ Jvm.Cond.classLink (nm m).cls i C ∈ tb
  | .newarray t => Jvm.Cond.arrayClass (newarray.typeOf t) ∈ tb
  | .ldc i => Jvm.Cond.constant (nm m).cls i (Int32.ofInt aux) ∈ tb
  | .ldc2_w i => Jvm.Cond.constantLong (nm m).cls i (Int64.ofInt aux) ∈ tb
  | .invokevirtual i => aux.toNat ∈ R ∧ Jvm.Cond.methodLink (nm m).cls i (nm aux.toNat) ∈ tb
  | .invokestatic i => aux.toNat ∈ R ∧ Jvm.Cond.methodLink (nm m).cls i (nm aux.toNat) ∈ tb
  | .invokespecial i => (aux = -1 → Jvm.Cond.methodLink (nm m).cls i Lib.objectInit ∈ tb ∧ Jvm.Cond.instanceMethod Lib.objectInit ∈ tb ∧ Jvm.Cond.code Lib.objectInit ⟨#[0xb1]⟩ 1 none ∈ tb) ∧ (0 ≤ aux → aux.toNat ∈ R ∧ Jvm.Cond.methodLink (nm m).cls i (nm aux.toNat) ∈ tb)
  | _ => True
def CalOk (P : Prog) (tb : List Jvm.Cond) (C : String) (nm : Nat → MethodName) (bt : Nat → ByteArray) (m : Nat) : Prop :=
  Jvm.Cond.code (nm m) (bt m) (ml P m) (rt P m) ∈ tb ∧ Jvm.Cond.initialized (nm m).cls ∈ tb ∧ (∃ ps r, parseMethodDescriptor (nm m).desc = some ⟨ps, r⟩ ∧ ps.length + (if kd P m = 0 then 0 else 1) = na P m) ∧
  (kd P m = 0 → Jvm.Cond.static (nm m) ∈ tb) ∧
  (kd P m ≠ 0 → (nm m).cls = C ∧ Jvm.Cond.instanceMethod (nm m) ∈ tb) ∧
  (kd P m = 1 → Jvm.Cond.declares (nm m) ∈ tb ∧ Jvm.Cond.selects C (nm m) (nm m) ∈ tb) ∧
  (kd P m = 2 → Jvm.Cond.privateMethod (nm m) ∈ tb) ∧
  (kd P m = 3 → (nm m).name = "<init>" ∧ rt P m = none)
def Good (P : Prog) (tb : List Jvm.Cond) (C : String) (fn : Nat → String × String) (F : List Nat) (nsl : Nat) (nm : Nat → MethodName) (bt : Nat → ByteArray) (R : List Nat) (top : Nat) : Prop :=
  Jvm.Cond.instantiable C nsl ∈ tb ∧ Jvm.Cond.initialized C ∈ tb ∧
  (∀ k ∈ F, parseFieldDescriptor (fn k).2 = some (P.2.2.1 k) ∧ (Jvm.Cond.lays C C (fn k).1 (fn k).2 ∈ tb ∨ Jvm.Cond.laysFinal C C (fn k).1 (fn k).2 ∈ tb)) ∧
  (∀ j ∈ F, ∀ k ∈ F, (fn j).1 = (fn k).1 → j = k) ∧
  (∀ m ∈ R, plainName (nm m).cls = true ∧ ((nm m).cls ≠ "java/lang/invoke/MethodHandle" ∧ (nm m).cls ≠ "java/lang/invoke/VarHandle") ∧
    ∀ pc ins len aux, P.1 m pc = some (ins, len, aux) → decode (bt m) pc = .ok (ins, len) ∧ len = ilen2 ins len ∧ RowOk P tb C fn F nsl nm R m ins aux) ∧
  (∀ m ∈ R, m ≠ top → CalOk P tb C nm bt m) ∧
  (∀ m ∈ R, ∀ pc ins len aux, P.1 m pc = some (ins, len, aux) → aux = (top : Int) → kindOk ins (kd P top) = false)
section Rel
variable {C : String} {fn : Nat → String × String} {F : List Nat} {Z : State} {n0 : Nat} {h h' : Heap} {H : AH}
theorem RelH.obj (r : RelH C fn F Z n0 h H) {a : Nat} (ha : isO H a = true) : Exa Z h a C ∧ ∀ k ∈ F, Fld Z h a C (fn k).1 (fn k).2 (fld H a k) := by
  have q := (r.2.2 a).2
  unfold isO at ha
  cases hk : (H.2 a).1 <;> rw [hk] at ha <;> first | (cases ha; done) | (simp only [hk] at q; exact q)
theorem RelH.own (r : RelH C fn F Z n0 h H) {a : Nat} (ha : (H.2 a).2.2.1 = true) : n0 ≤ a := (r.2.2 a).1 ha
theorem RelH.arr (r : RelH C fn F Z n0 h H) {a : Nat} {t : FieldType} (ha : (H.2 a).1 = .array t) : (H.2 a).2.1 < 2 ^ 31 ∧ ∃ cl : Cell, Arr Z h a cl t ∧ cl.slots.size = (H.2 a).2.1 ∧ ∀ i, i < (H.2 a).2.1 → cl.slots[i]? = some ((H.2 a).2.2.2 i) := by
  have q := (r.2.2 a).2
  simp only [ha] at q; exact q
theorem RelH.ext (r : RelH C fn F Z n0 h H) (E : Ext h h') {c : Cel} (hs : h'.size = h.size + 1) (hc : CRel C fn F Z n0 h' h.size c) : RelH C fn F Z n0 h' (H.1 + 1, fun b => if b = H.1 then c else H.2 b) := by
  refine ⟨by rw [hs, r.1], Nat.le_succ_of_le r.2.1, fun a => ?_⟩
  by_cases e : a = H.1
  · subst e; simp only [if_true]; rw [← r.1]; exact hc
  · simp only [e, if_false]
    obtain ⟨q1, q2⟩ := r.2.2 a
    refine ⟨q1, ?_⟩
    cases hk : (H.2 a).1 <;> simp only [hk] at q2 ⊢
    · exact ⟨q2.1.ext E, fun k hk => (q2.2 k hk).ext E⟩
    · obtain ⟨q3, cl, q4, q5⟩ := q2; exact ⟨q3, cl, q4.ext E, q5⟩
end Rel
def Go (C : String) (fn : Nat → String × String) (F : List Nat) (Z : State) (n0 : Nat) (p : Program) (l : Launch) (e : Env) (R : Jvm.Room) (s : State) (mid : MethodId) (args : Array Value) (below : List Frame) (meth : Method) (c : Code) (start : State) (nl : Nat) (q : Fm) : Prop :=
  ∃ T' locs', Stand p l e R s mid args below meth c T' locs' q.2.2.2.1 q.2.2.2.2.1 ∧ RelH C fn F Z n0 T'.heap q.2.2.2.2.2 ∧ Fr n0 locs' ∧ q.2.2.2.1 ≤ R.cells ∧ q.2.2.2.2.1 ≤ R.slots ∧ q.2.1.length = nl ∧
    ∀ target, Steps p.tables e below (T'.setTop (mkF mid q.1 q.2.1.toArray q.2.2.1)) target → Steps p.tables e below start target
theorem lrem_mod (x y : Int64) : x - (x / y) * y = x % y := by
  apply Int64.toInt_inj.mp
  have h1 := Int64.le_toInt (x % y)
  have h2 := Int64.toInt_lt (x % y)
  rw [Int64.toInt_sub, Int64.toInt_mul, Int64.toInt_div, Int.bmod_mul_bmod, Int.sub_bmod_bmod, Int.mul_comm (x.toInt.tdiv y.toInt), ← Int.tmod_def, ← Int64.toInt_mod]
  exact Int.bmod_eq_of_le_mul_two (by omega) (by omega)
theorem arr_get {L : List Slot} {i : Nat} {o : Slot} (h : L[i]? = some o) : L.toArray[i]? = some o := by simpa using h
theorem stl_ok {L L' : List Slot} {i : Nat} {v : Value} (hv : v.category = 1) (h : stl L i v = some L') : storeLocals L.toArray i v = some L'.toArray ∧ L'.length = L.length := by
  unfold stl at h
  unfold storeLocals
  cases hi : L[i]? with
  | none => rw [hi] at h; cases h
  | some o =>
    have hlt : i < L.length := (List.getElem?_eq_some_iff.mp hi).1
    rw [hi] at h
    rw [arr_get hi]
    cases o with
    | unset => cases h; simp [storeSelf, setAt, hlt, hv]
    | second =>
      simp only at h
      split at h
      · cases h; simp [storeSelf, setAt, hv, hlt, Nat.lt_of_le_of_lt (Nat.sub_le i 1) hlt]
      · cases h
    | val w =>
      simp only at h
      split at h
      · rename_i hw; cases h; simp [storeSelf, setAt, hv, hlt, hw]
      · rename_i hw
        split at h
        · rename_i h1
          have hw2 : w.category = 2 := by cases w <;> simp [Value.category] at hw ⊢
          cases h; simp [storeSelf, setAt, hv, hlt, hw2, h1]
        · cases h
theorem stL_ok {L L' : List Slot} {i : Nat} {v : Value} (hv : v.category = 2) (h : stL L i v = some L') : storeLocals L.toArray i v = some L'.toArray ∧ L'.length = L.length := by
  unfold stL at h
  unfold storeLocals
  cases hi : L[i]? with
  | none => rw [hi] at h; cases h
  | some o =>
    cases hi2 : L[i + 1]? with
    | none => rw [hi, hi2] at h; cases o <;> cases h
    | some o2 =>
      have hlt : i < L.length := (List.getElem?_eq_some_iff.mp hi).1
      have hlt2 : i + 1 < L.length := (List.getElem?_eq_some_iff.mp hi2).1
      rw [hi, hi2] at h
      rw [arr_get hi]
      have g2 : (L.set i (.val v))[i + 1]? = some o2 := by rw [List.getElem?_set_ne (by omega)]; exact hi2
      have g4 : L[i + 1] = o2 := (List.getElem?_eq_some_iff.mp hi2).2
      cases o with
      | second =>
        simp only at h
        have h0 : i - 1 < L.length := by omega
        split at h
        · rename_i h1
          have g2' : ((L.set (i - 1) .unset).set i (.val v))[i + 1]? = some o2 := by rw [List.getElem?_set_ne (by omega), List.getElem?_set_ne (by omega)]; exact hi2
          have g4' : ((L.set (i - 1) .unset).set i (.val v))[i + 1]'(by simpa using hlt2) = o2 := (List.getElem?_eq_some_iff.mp g2').2
          split at h
          · rename_i hc
            cases h
            cases o2 with
            | second => cases hc
            | unset => simp [storeSelf, setAt, hv, hlt, hlt2, h0, g4']
            | val w => simp only [cat1, beq_iff_eq] at hc; simp [storeSelf, setAt, hv, hlt, hlt2, h0, g4', hc]
          · split at h
            · rename_i hc
              cases h
              obtain ⟨hc, hlt3⟩ := hc
              cases o2 with
              | second => cases hc
              | unset => cases hc
              | val w => simp only [lng, beq_iff_eq] at hc; simp [storeSelf, setAt, hv, hlt, hlt2, hlt3, h0, g4', hc]
            · cases h
        · cases h
      | unset =>
        simp only at h
        split at h
        · rename_i hc
          cases h
          cases o2 with
          | second => cases hc
          | unset => simp [storeSelf, setAt, hv, hlt, hlt2, g2, g4]
          | val w => simp only [cat1, beq_iff_eq] at hc; simp [storeSelf, setAt, hv, hlt, hlt2, g2, g4, hc]
        · split at h
          · rename_i hc
            cases h
            obtain ⟨hc, hlt3⟩ := hc
            cases o2 with
            | second => cases hc
            | unset => cases hc
            | val w => simp only [lng, beq_iff_eq] at hc; simp [storeSelf, setAt, hv, hlt, hlt2, hlt3, g2, g4, hc]
          · cases h
      | val w =>
        simp only at h
        split at h
        · rename_i hw
          cases h
          have g3 : ((L.set (i + 1) .unset).set i (.val v))[i + 1]? = some .unset := by rw [List.getElem?_set_ne (by omega)]; simp [hlt2]
          simp [storeSelf, setAt, hv, hlt, hlt2, hw, g3]
          rw [List.set_comm _ _ (by omega), List.set_set, List.set_comm _ _ (by omega)]
        · rename_i hw
          have hw1 : ¬ w.category = 2 := hw
          split at h
          · rename_i hc
            cases h
            cases o2 with
            | second => cases hc
            | unset => simp [storeSelf, setAt, hv, hlt, hlt2, g2, g4, hw1]
            | val w => simp only [cat1, beq_iff_eq] at hc; simp [storeSelf, setAt, hv, hlt, hlt2, g2, g4, hw1, hc]
          · split at h
            · rename_i hc
              cases h
              obtain ⟨hc, hlt3⟩ := hc
              cases o2 with
              | second => cases hc
              | unset => cases hc
              | val w2 => simp only [lng, beq_iff_eq] at hc; simp [storeSelf, setAt, hv, hlt, hlt2, hlt3, g2, g4, hw1, hc]
            · cases h
theorem jmp_ok {pc q : Nat} {o : Int} (h : jmp pc o = some q) : 0 ≤ (pc : Int) + o ∧ ((pc : Int) + o).toNat = q := by
  unfold jmp at h
  split at h
  · rename_i g; cases h; exact ⟨g, rfl⟩
  · cases h
theorem ldI_ok {L : List Slot} {i : Nat} {v : Value} (h : ldI L i = some v) : ∃ x, v = .int x ∧ L.toArray[i]? = some (.val (.int x)) := by
  unfold ldI at h
  split at h
  · rename_i x e; cases h; exact ⟨x, rfl, arr_get e⟩
  · cases h
theorem ldJ_ok {L : List Slot} {i : Nat} {v : Value} (h : ldJ L i = some v) : ∃ x, v = .long x ∧ L.toArray[i]? = some (.val (.long x)) := by
  unfold ldJ at h
  split at h
  · rename_i x e; cases h; exact ⟨x, rfl, arr_get e⟩
  · cases h
theorem ldR_ok {L : List Slot} {i : Nat} {v : Value} (h : ldR L i = some v) : ∃ x, v = .ref x ∧ L.toArray[i]? = some (.val (.ref x)) := by
  unfold ldR at h
  split at h
  · rename_i x e; cases h; exact ⟨x, rfl, arr_get e⟩
  · cases h
theorem okv_ok {t : FieldType} {v : Value} (h : okv t v = true) : narrow t v = v ∧ fits t v = true := by
  unfold okv at h
  split at h
  · exact ⟨rfl, rfl⟩
  · rename_i z
    simp only [Bool.or_eq_true, beq_iff_eq] at h
    rcases h with rfl | rfl <;> exact ⟨rfl, rfl⟩
  · rename_i z
    simp only [beq_iff_eq] at h
    have q := fits_nar_byte z
    rw [h] at q
    exact ⟨by show Value.int _ = _; rw [h], q⟩
  · exact ⟨rfl, rfl⟩
  · exact ⟨rfl, rfl⟩
  · cases h
end Jvm.JX

namespace Jvm.JX
open Sem ClassFile Op Lib Jvm.Stand Jvm.Free Jvm.LawKit Jvm.RoadKit
section Step
variable {P : Prog} {tb : List Jvm.Cond} {C : String} {fn : Nat → String × String} {F : List Nat} {nsl : Nat} {nm : Nat → MethodName} {bt : Nat → ByteArray} {R : List Nat} {top : Nat}
variable {l : Launch} {Z : State} {a0 : Array Value} {n0 : Nat} {m pc len k n : Nat} {aux : Int} {L : List Slot} {S : List Value} {H : AH} {ins : Instr} {q : Fm}
variable {p : Program} {e : Env} {s : State} {mid : MethodId} {args : Array Value} {below : List Frame} {meth : Method} {c : Code} {T : State} {locs : List Loc} {Rm : Jvm.Room}
theorem go_same {start : State} {nl pc' : Nat} {L' : List Slot} {S' : List Value} (X : Stand p l e Rm s mid args below meth c T locs k n) (r : RelH C fn F Z n0 T.heap H) (N : Fr n0 locs) (hk : k ≤ Rm.cells) (hn : n ≤ Rm.slots) (hL : L'.length = nl)
    (st : ∀ target, Steps p.tables e below (T.setTop (mkF mid pc' L'.toArray S')) target → Steps p.tables e below start target) : Go C fn F Z n0 p l e Rm s mid args below meth c start nl (pc', L', S', k, n, H) := ⟨T, locs, X, r, N, hk, hn, hL, st⟩
theorem go_heap {start : State} {nl pc' : Nat} {L' : List Slot} {S' : List Value} {T' : State} (X : Stand p l e Rm s mid args below meth c T' locs k n) (r : RelH C fn F Z n0 T.heap H) (hh : T'.heap = T.heap) (N : Fr n0 locs) (hk : k ≤ Rm.cells) (hn : n ≤ Rm.slots) (hL : L'.length = nl)
    (st : ∀ target, Steps p.tables e below (T'.setTop (mkF mid pc' L'.toArray S')) target → Steps p.tables e below start target) : Go C fn F Z n0 p l e Rm s mid args below meth c start nl (pc', L', S', k, n, H) := ⟨T', locs, X, by rw [hh]; exact r, N, hk, hn, hL, st⟩
theorem idx_not {i : Int32} {n : Nat} (h1 : ¬ i < 0) (h2 : i.toNatClampNeg < n) : ¬ (i < 0 ∨ n ≤ i.toNatClampNeg) := fun h => h.elim h1 (Nat.not_le.mpr h2)
theorem inA_ok {a : Nat} {t : FieldType} {i : Int32} (h : inA H a t i = true) : (H.2 a).1 = .array t ∧ ¬ i < 0 ∧ i.toNatClampNeg < (H.2 a).2.1 := by
  simpa [inA, and_assoc] using h
theorem inAw_ok {a : Nat} {t : FieldType} {i : Int32} (h : inAw H a t i = true) : inA H a t i = true ∧ (H.2 a).2.2.1 = true := by
  simpa [inAw] using h
theorem isOw_ok {a : Nat} (h : isOw H a = true) : isO H a = true ∧ (H.2 a).2.2.1 = true := by simpa [isOw] using h
theorem RelH.wrF {h h' : Heap} {a j : Nat} {v : Value} (hG : Good P tb C fn F nsl nm bt R top) (hw : ∀ d ∈ tb, d.before a0 Z = true) (r : RelH C fn F Z n0 h H) (ha : isO H a = true) (hj : j ∈ F) (Wt : Wr h h' a (Jvm.RoadKit.slotOf Z C (fn j).1 (fn j).2) v) : RelH C fn F Z n0 h' (wr H a j v) := by
  refine ⟨by rw [Wt.size]; exact r.1, r.2.1, fun b => ?_⟩
  by_cases e : b = a
  · subst e
    obtain ⟨q1, q2⟩ := r.2.2 b
    obtain ⟨E, Fs⟩ := r.obj ha
    simp only [wr, if_true]
    refine ⟨q1, ?_⟩
    unfold isO at ha
    cases hk : (H.2 b).1 <;> rw [hk] at ha <;> try (cases ha; done)
    simp only
    refine ⟨E.wr Wt, fun i hi => ?_⟩
    by_cases e2 : i = j
    · subst e2; simp only [if_true]; exact (Fs i hi).same Wt
    · simp only [e2, if_false]
      refine (Fs i hi).other Wt (Or.inr ?_)
      have lw : ∀ k ∈ F, Laid Z a0 C C (fn k).1 (fn k).2 := fun k hk => ((hG.2.2.1 k hk).2).imp (hw _) (hw _)
      exact slot_ne (lw i hi) (lw j hj) (fun q => e2 (hG.2.2.2.1 i hi j hj q)) (hG.2.2.1 i hi).1 (hG.2.2.1 j hj).1
  · simp only [wr, e, if_false]
    obtain ⟨q1, q2⟩ := r.2.2 b
    refine ⟨q1, ?_⟩
    cases hk : (H.2 b).1 <;> simp only [hk] at q2 ⊢
    · exact ⟨q2.1.wr Wt, fun k hk => (q2.2 k hk).other Wt (Or.inl e)⟩
    · obtain ⟨q3, cl, q4, q5⟩ := q2; exact ⟨q3, cl, q4.other Wt e, q5⟩
theorem RelH.wrA {h h' : Heap} {a j : Nat} {t : FieldType} {v : Value} (r : RelH C fn F Z n0 h H) (ha : (H.2 a).1 = .array t) (hj : j < (H.2 a).2.1) (Wt : Wr h h' a j v) : RelH C fn F Z n0 h' (wr H a j v) := by
  refine ⟨by rw [Wt.size]; exact r.1, r.2.1, fun b => ?_⟩
  by_cases e : b = a
  · subst e
    obtain ⟨q1, q2⟩ := r.2.2 b
    obtain ⟨g1, cl, g2, g3, g4⟩ := r.arr ha
    simp only [wr, if_true]
    refine ⟨q1, ?_⟩
    simp only [ha]
    refine ⟨g1, cl.setSlot j v, g2.same Wt, by rw [sz_set]; exact g3, fun i hi => ?_⟩
    by_cases e2 : i = j
    · subst e2; simp [Cell.setSlot, g3, hj]
    · simp only [e2, if_false]; rw [← g4 i hi]; exact Array.getElem?_setIfInBounds_ne (Ne.symm e2)
  · simp only [wr, e, if_false]
    obtain ⟨q1, q2⟩ := r.2.2 b
    refine ⟨q1, ?_⟩
    cases hk : (H.2 b).1 <;> simp only [hk] at q2 ⊢
    · exact ⟨q2.1.wr Wt, fun k hk => (q2.2 k hk).other Wt (Or.inl e)⟩
    · obtain ⟨q3, cl, q4, q5⟩ := q2; exact ⟨q3, cl, q4.other Wt e, q5⟩
theorem ext_push (h : Heap) (x : Cell) : Ext h (h.push x) := ⟨by simp, fun a c q => by rw [Array.getElem?_push_lt (Array.getElem?_eq_some_iff.mp q).1]; exact (Array.getElem?_eq_getElem _).symm.trans q⟩
theorem made_obj {h : Heap} {cC : ClassId} {kC : Class} (hZ : Z.Warmed39 s.vm) (h1 : s.vm.findClass C = some cC) (h2 : s.vm.classes[cC]? = some kC) :
    Exa Z (h.push { cls := cC, slots := kC.instanceTypes.map defaultValue, vm := .none }) h.size C ∧ ∀ {nm d : String} {ty : FieldType}, Laid Z a0 C C nm d → parseFieldDescriptor d = some ty → Fld Z (h.push { cls := cC, slots := kC.instanceTypes.map defaultValue, vm := .none }) h.size C nm d (defaultValue ty) := by
  rw [hZ.alike.findClass] at h1
  obtain ⟨kZ, z1, -⟩ := Vm.findClass_spec h1
  obtain ⟨k', z2, z3⟩ := hZ.alike.2.2 _ _ z1
  cases h2.symm.trans z2
  have ei : kC.instanceTypes = kZ.instanceTypes := by rw [z3]
  have hN : ∀ x : Cell, (h.push x)[h.size]? = some x := fun x => by simp
  refine ⟨⟨_, kZ, hN _, h1, z1, rfl, fun _ => by simp [ei]⟩, fun {nm d ty} lw ht => ?_⟩
  obtain ⟨c1, k1, cf, kf, i, f, a1, a2, a3, a4, a5, a6, -⟩ := lw.spec
  cases h1.symm.trans a1
  cases z1.symm.trans a2
  exact ⟨_, cf, kf, i, f, hN _, a3, a4, by simp, rfl, a5, by simp [ei, a6, (State.fieldFound?_type a3 ht).2]⟩
theorem made_arr {h : Heap} {t : FieldType} {cA comp : ClassId} {kA : Class} {xs : Array Value} (hZ : Z.Warmed39 s.vm) (h1 : s.vm.findClass ("[" ++ t.toString) = some cA) (h2 : s.vm.classes[cA]? = some kA) (h3 : kA.kind = .array comp t) : Arr Z (h.push { cls := cA, slots := xs, vm := .none }) h.size { cls := cA, slots := xs, vm := .none } t := by
  rw [hZ.alike.findClass] at h1
  obtain ⟨kZ, z1, -⟩ := Vm.findClass_spec h1
  obtain ⟨k', z2, z3⟩ := hZ.alike.2.2 _ _ z1
  cases h2.symm.trans z2
  exact ⟨by simp, ⟨by simp, kZ, z1, comp, by rw [← h3, z3]⟩, by simp⟩
set_option maxHeartbeats 4000000 in
theorem stp_go (hG : Good P tb C fn F nsl nm bt R top) (hw : ∀ d ∈ tb, d.before a0 Z = true) (hm : m ∈ R) (hrow : P.1 m pc = some (ins, len, aux)) (h : stp P m ins len aux pc L S k n H = some q) (X : Stand p l e (rm P m) s mid args below meth c T locs k n) (hx : p.tables.exec = Jvm.exec) (hZ : Z.Warmed39 s.vm)
    (hby : c.code = bt m) (hml : c.maxLocals = ml P m) (hown : s.vm.findClass (nm m).cls = some mid.cls) (hnm : meth.name = (nm m).name) (hL : L.length = ml P m) (r : RelH C fn F Z n0 T.heap H) (N : Fr n0 locs) (hk : k ≤ (rm P m).cells) (hn : n ≤ (rm P m).slots) :
    Go C fn F Z n0 p l e (rm P m) s mid args below meth c (T.setTop (mkF mid pc L.toArray S)) (ml P m) q := by
  obtain ⟨hd, hl, ho⟩ := (hG.2.2.2.2.1 m hm).2.2 pc ins len aux hrow
  replace hd := hb hby hd
  cases ins with
  | iconst i =>
    have hl : len = 1 := hl; subst hl
    obtain rfl := Option.some.inj h
    exact go_same X r N hk hn hL fun t g => XS.iconst X.here hx rfl hd g
  | bipush i =>
    have hl : len = 2 := hl; subst hl
    obtain rfl := Option.some.inj h
    exact go_same X r N hk hn hL fun t g => XS.bipush X.here hx rfl hd g
  | sipush i =>
    have hl : len = 3 := hl; subst hl
    obtain rfl := Option.some.inj h
    exact go_same X r N hk hn hL fun t g => XS.sipush X.here hx rfl hd g
  | lconst i =>
    have hl : len = 1 := hl; subst hl
    obtain rfl := Option.some.inj h
    exact go_same X r N hk hn hL fun t g => XT.lconst X.here hx rfl hd g
  | ldc i =>
    have hl : len = 2 := hl; subst hl
    obtain rfl := Option.some.inj h
    exact go_same X r N hk hn hL fun t g => X.ldcI hx hown (mv hZ (hw _ ho)) rfl hd g
  | ldc2_w i =>
    have hl : len = 3 := hl; subst hl
    obtain rfl := Option.some.inj h
    exact go_same X r N hk hn hL fun t g => X.ldc2J hx hown (mv hZ (hw _ ho)) rfl hd g
  | iload i =>
    have hl : len = 2 := hl; subst hl
    obtain ⟨v, hv, rfl⟩ := Option.map_eq_some_iff.mp h
    obtain ⟨x, rfl, hg⟩ := ldI_ok hv
    exact go_same X r N hk hn hL fun t g => XS.iload X.here hx rfl hd hg g
  | iload_n i =>
    have hl : len = 1 := hl; subst hl
    obtain ⟨v, hv, rfl⟩ := Option.map_eq_some_iff.mp h
    obtain ⟨x, rfl, hg⟩ := ldI_ok hv
    exact go_same X r N hk hn hL fun t g => XS.iloadN X.here hx rfl hd hg g
  | lload i =>
    have hl : len = 2 := hl; subst hl
    obtain ⟨v, hv, rfl⟩ := Option.map_eq_some_iff.mp h
    obtain ⟨x, rfl, hg⟩ := ldJ_ok hv
    exact go_same X r N hk hn hL fun t g => XT.lload X.here hx rfl hd hg g
  | lload_n i =>
    have hl : len = 1 := hl; subst hl
    obtain ⟨v, hv, rfl⟩ := Option.map_eq_some_iff.mp h
    obtain ⟨x, rfl, hg⟩ := ldJ_ok hv
    exact go_same X r N hk hn hL fun t g => XT.lloadN X.here hx rfl hd hg g
  | aload i =>
    have hl : len = 2 := hl; subst hl
    obtain ⟨v, hv, rfl⟩ := Option.map_eq_some_iff.mp h
    obtain ⟨x, rfl, hg⟩ := ldR_ok hv
    exact go_same X r N hk hn hL fun t g => XS.aload X.here hx rfl hd hg rfl g
  | aload_n i =>
    have hl : len = 1 := hl; subst hl
    obtain ⟨v, hv, rfl⟩ := Option.map_eq_some_iff.mp h
    obtain ⟨x, rfl, hg⟩ := ldR_ok hv
    exact go_same X r N hk hn hL fun t g => XS.aloadN X.here hx rfl hd hg rfl g
  | istore i =>
    have hl : len = 2 := hl; subst hl
    dsimp only [stp] at h
    split at h
    · rename_i x S'
      obtain ⟨L', hv, rfl⟩ := Option.map_eq_some_iff.mp h
      obtain ⟨g1, g2⟩ := stl_ok rfl hv
      exact go_same X r N hk hn (g2.trans hL) fun t g => XS.istore X.here hx rfl hd rfl g1 g
    · cases h
  | istore_n i =>
    have hl : len = 1 := hl; subst hl
    dsimp only [stp] at h
    split at h
    · rename_i x S'
      obtain ⟨L', hv, rfl⟩ := Option.map_eq_some_iff.mp h
      obtain ⟨g1, g2⟩ := stl_ok rfl hv
      exact go_same X r N hk hn (g2.trans hL) fun t g => XS.istoreN X.here hx rfl hd rfl g1 g
    · cases h
  | astore i =>
    have hl : len = 2 := hl; subst hl
    dsimp only [stp] at h
    split at h
    · rename_i x S'
      obtain ⟨L', hv, rfl⟩ := Option.map_eq_some_iff.mp h
      obtain ⟨g1, g2⟩ := stl_ok rfl hv
      exact go_same X r N hk hn (g2.trans hL) fun t g => XS.astore X.here hx rfl hd rfl rfl g1 g
    · cases h
  | astore_n i =>
    have hl : len = 1 := hl; subst hl
    dsimp only [stp] at h
    split at h
    · rename_i x S'
      obtain ⟨L', hv, rfl⟩ := Option.map_eq_some_iff.mp h
      obtain ⟨g1, g2⟩ := stl_ok rfl hv
      exact go_same X r N hk hn (g2.trans hL) fun t g => XS.astoreN X.here hx rfl hd rfl rfl g1 g
    · cases h
  | lstore i =>
    have hl : len = 2 := hl; subst hl
    dsimp only [stp] at h
    split at h
    · rename_i x S'
      obtain ⟨L', hv, rfl⟩ := Option.map_eq_some_iff.mp h
      obtain ⟨g1, g2⟩ := stL_ok rfl hv
      exact go_same X r N hk hn (g2.trans hL) fun t g => XT.lstore X.here hx rfl hd rfl g1 g
    · cases h
  | lstore_n i =>
    have hl : len = 1 := hl; subst hl
    dsimp only [stp] at h
    split at h
    · rename_i x S'
      obtain ⟨L', hv, rfl⟩ := Option.map_eq_some_iff.mp h
      obtain ⟨g1, g2⟩ := stL_ok rfl hv
      exact go_same X r N hk hn (g2.trans hL) fun t g => XT.lstoreN X.here hx rfl hd rfl g1 g
    · cases h
  | iinc i cst =>
    have hl : len = 3 := hl; subst hl
    dsimp only [stp] at h
    split at h
    · rename_i x hx1
      obtain rfl := Option.some.inj h
      have g1 : storeLocals L.toArray i (.int (x + Int32.ofInt cst)) = some (L.set i (.val (.int (x + Int32.ofInt cst)))).toArray := (stl_ok rfl (stl_plain hx1 rfl)).1
      exact go_same X r N hk hn (by simpa using hL) fun t g => XS.iinc X.here hx rfl hd (arr_get hx1) g1 g
    · cases h
  | iadd =>
    have hl : len = 1 := hl; subst hl
    dsimp only [stp] at h
    split at h
    · rename_i y x S'
      obtain rfl := Option.some.inj h
      exact go_same X r N hk hn hL fun t g => XS.iadd X.here hx rfl hd rfl g
    · cases h
  | isub =>
    have hl : len = 1 := hl; subst hl
    dsimp only [stp] at h
    split at h
    · rename_i y x S'
      obtain rfl := Option.some.inj h
      exact go_same X r N hk hn hL fun t g => XS.isub X.here hx rfl hd rfl g
    · cases h
  | imul =>
    have hl : len = 1 := hl; subst hl
    dsimp only [stp] at h
    split at h
    · rename_i y x S'
      obtain rfl := Option.some.inj h
      exact go_same X r N hk hn hL fun t g => XS.imul X.here hx rfl hd rfl g
    · cases h
  | iand =>
    have hl : len = 1 := hl; subst hl
    dsimp only [stp] at h
    split at h
    · rename_i y x S'
      obtain rfl := Option.some.inj h
      exact go_same X r N hk hn hL fun t g => XS.iand X.here hx rfl hd rfl g
    · cases h
  | ior =>
    have hl : len = 1 := hl; subst hl
    dsimp only [stp] at h
    split at h
    · rename_i y x S'
      obtain rfl := Option.some.inj h
      exact go_same X r N hk hn hL fun t g => XT.ior X.here hx rfl hd rfl g
    · cases h
  | ixor =>
    have hl : len = 1 := hl; subst hl
    dsimp only [stp] at h
    split at h
    · rename_i y x S'
      obtain rfl := Option.some.inj h
      exact go_same X r N hk hn hL fun t g => XT.ixor X.here hx rfl hd rfl g
    · cases h
  | ishl =>
    have hl : len = 1 := hl; subst hl
    dsimp only [stp] at h
    split at h
    · rename_i y x S'
      obtain rfl := Option.some.inj h
      exact go_same X r N hk hn hL fun t g => XT.ishl X.here hx rfl hd rfl g
    · cases h
  | ishr =>
    have hl : len = 1 := hl; subst hl
    dsimp only [stp] at h
    split at h
    · rename_i y x S'
      obtain rfl := Option.some.inj h
      exact go_same X r N hk hn hL fun t g => XT.ishr X.here hx rfl hd rfl g
    · cases h
  | iushr =>
    have hl : len = 1 := hl; subst hl
    dsimp only [stp] at h
    split at h
    · rename_i y x S'
      obtain rfl := Option.some.inj h
      exact go_same X r N hk hn hL fun t g => XT.iushr X.here hx rfl hd rfl g
    · cases h
  | ladd =>
    have hl : len = 1 := hl; subst hl
    dsimp only [stp] at h
    split at h
    · rename_i y x S'
      obtain rfl := Option.some.inj h
      exact go_same X r N hk hn hL fun t g => XT.ladd X.here hx rfl hd rfl g
    · cases h
  | lsub =>
    have hl : len = 1 := hl; subst hl
    dsimp only [stp] at h
    split at h
    · rename_i y x S'
      obtain rfl := Option.some.inj h
      exact go_same X r N hk hn hL fun t g => XT.lsub X.here hx rfl hd rfl g
    · cases h
  | lmul =>
    have hl : len = 1 := hl; subst hl
    dsimp only [stp] at h
    split at h
    · rename_i y x S'
      obtain rfl := Option.some.inj h
      exact go_same X r N hk hn hL fun t g => XT.lmul X.here hx rfl hd rfl g
    · cases h
  | land =>
    have hl : len = 1 := hl; subst hl
    dsimp only [stp] at h
    split at h
    · rename_i y x S'
      obtain rfl := Option.some.inj h
      exact go_same X r N hk hn hL fun t g => XT.land X.here hx rfl hd rfl g
    · cases h
  | lor =>
    have hl : len = 1 := hl; subst hl
    dsimp only [stp] at h
    split at h
    · rename_i y x S'
      obtain rfl := Option.some.inj h
      exact go_same X r N hk hn hL fun t g => XT.lor X.here hx rfl hd rfl g
    · cases h
  | lxor =>
    have hl : len = 1 := hl; subst hl
    dsimp only [stp] at h
    split at h
    · rename_i y x S'
      obtain rfl := Option.some.inj h
      exact go_same X r N hk hn hL fun t g => XT.lxor X.here hx rfl hd rfl g
    · cases h
  | lshl =>
    have hl : len = 1 := hl; subst hl
    dsimp only [stp] at h
    split at h
    · rename_i y x S'
      obtain rfl := Option.some.inj h
      exact go_same X r N hk hn hL fun t g => XT.lshl X.here hx rfl hd rfl g
    · cases h
  | lshr =>
    have hl : len = 1 := hl; subst hl
    dsimp only [stp] at h
    split at h
    · rename_i y x S'
      obtain rfl := Option.some.inj h
      exact go_same X r N hk hn hL fun t g => XT.lshr X.here hx rfl hd rfl g
    · cases h
  | lushr =>
    have hl : len = 1 := hl; subst hl
    dsimp only [stp] at h
    split at h
    · rename_i y x S'
      obtain rfl := Option.some.inj h
      exact go_same X r N hk hn hL fun t g => XT.lushr X.here hx rfl hd rfl g
    · cases h
  | idiv =>
    have hl : len = 1 := hl; subst hl
    dsimp only [stp] at h
    split at h
    · rename_i y x S'
      split at h
      · cases h
      · rename_i g0
        obtain rfl := Option.some.inj h
        exact go_same X r N hk hn hL fun t g => XS.idiv X.here hx rfl hd rfl g0 g
    · cases h
  | irem =>
    have hl : len = 1 := hl; subst hl
    dsimp only [stp] at h
    split at h
    · rename_i y x S'
      split at h
      · cases h
      · rename_i g0
        obtain rfl := Option.some.inj h
        exact go_same X r N hk hn hL fun t g => iremM X hx rfl hd rfl g0 g
    · cases h
  | ldiv =>
    have hl : len = 1 := hl; subst hl
    dsimp only [stp] at h
    split at h
    · rename_i y x S'
      split at h
      · cases h
      · rename_i g0
        obtain rfl := Option.some.inj h
        exact go_same X r N hk hn hL fun t g => XT.ldiv X.here hx rfl hd rfl g0 g
    · cases h
  | lrem =>
    have hl : len = 1 := hl; subst hl
    dsimp only [stp] at h
    split at h
    · rename_i y x S'
      split at h
      · cases h
      · rename_i g0
        obtain rfl := Option.some.inj h
        exact go_same X r N hk hn hL fun t g => XT.lrem X.here hx rfl hd rfl g0 (by rw [lrem_mod]; exact g)
    · cases h
  | ineg =>
    have hl : len = 1 := hl; subst hl
    dsimp only [stp] at h
    split at h
    · rename_i x S'
      obtain rfl := Option.some.inj h
      exact go_same X r N hk hn hL fun t g => XS.ineg X.here hx rfl hd rfl g
    · cases h
  | lneg =>
    have hl : len = 1 := hl; subst hl
    dsimp only [stp] at h
    split at h
    · rename_i x S'
      obtain rfl := Option.some.inj h
      exact go_same X r N hk hn hL fun t g => XT.lneg X.here hx rfl hd rfl g
    · cases h
  | i2l =>
    have hl : len = 1 := hl; subst hl
    dsimp only [stp] at h
    split at h
    · rename_i x S'
      obtain rfl := Option.some.inj h
      exact go_same X r N hk hn hL fun t g => XT.i2l X.here hx rfl hd rfl g
    · cases h
  | l2i =>
    have hl : len = 1 := hl; subst hl
    dsimp only [stp] at h
    split at h
    · rename_i x S'
      obtain rfl := Option.some.inj h
      exact go_same X r N hk hn hL fun t g => XT.l2i X.here hx rfl hd rfl g
    · cases h
  | i2b =>
    have hl : len = 1 := hl; subst hl
    dsimp only [stp] at h
    split at h
    · rename_i x S'
      obtain rfl := Option.some.inj h
      exact go_same X r N hk hn hL fun t g => XT.i2b X.here hx rfl hd rfl g
    · cases h
  | lcmp =>
    have hl : len = 1 := hl; subst hl
    dsimp only [stp] at h
    split at h
    · rename_i y x S'
      obtain rfl := Option.some.inj h
      exact go_same X r N hk hn hL fun t g => XT.lcmp X.here hx rfl hd rfl g
    · cases h
  | dup =>
    have hl : len = 1 := hl; subst hl
    dsimp only [stp] at h
    split at h
    · rename_i v S'
      split at h
      · rename_i g0
        obtain rfl := Option.some.inj h
        exact go_same X r N hk hn hL fun t g => XS.dup X.here hx rfl hd rfl g0 g
      · cases h
    · cases h
  | pop =>
    have hl : len = 1 := hl; subst hl
    dsimp only [stp] at h
    split at h
    · rename_i v S'
      split at h
      · rename_i g0
        obtain rfl := Option.some.inj h
        exact go_same X r N hk hn hL fun t g => XT.pop X.here hx rfl hd rfl g0 g
      · cases h
    · cases h
  | dup2 =>
    have hl : len = 1 := hl; subst hl
    dsimp only [stp] at h
    split at h
    · rename_i x S'
      obtain rfl := Option.some.inj h
      exact go_same X r N hk hn hL fun t g => XT.dup2L X.here hx rfl hd rfl g
    · rename_i v w S' _
      split at h
      · rename_i g0
        obtain rfl := Option.some.inj h
        exact go_same X r N hk hn hL fun t g => XT.dup2 X.here hx rfl hd rfl g0.1 g0.2 g
      · cases h
    · cases h
  | goto o =>
    have hl : len = 3 := hl; subst hl
    obtain ⟨v, hv, rfl⟩ := Option.map_eq_some_iff.mp h
    obtain ⟨g1, g2⟩ := jmp_ok hv
    exact go_same X r N hk hn hL fun t g => XS.goto X.here hx rfl rfl hd g1 g2 g
  | ifCond cd o =>
    have hl : len = 3 := hl; subst hl
    dsimp only [stp] at h
    split at h
    · rename_i x S'
      split at h
      · rename_i g0
        obtain ⟨v, hv, rfl⟩ := Option.map_eq_some_iff.mp h
        obtain ⟨g1, g2⟩ := jmp_ok hv
        exact go_same X r N hk hn hL fun t g => XS.ifYes X.here hx rfl rfl hd rfl g0 g1 g2 g
      · rename_i g0
        obtain rfl := Option.some.inj h
        exact go_same X r N hk hn hL fun t g => XS.ifNo X.here hx rfl hd rfl (by simpa using g0) g
    · cases h
  | if_icmp cd o =>
    have hl : len = 3 := hl; subst hl
    dsimp only [stp] at h
    split at h
    · rename_i y x S'
      split at h
      · rename_i g0
        obtain ⟨v, hv, rfl⟩ := Option.map_eq_some_iff.mp h
        obtain ⟨g1, g2⟩ := jmp_ok hv
        exact go_same X r N hk hn hL fun t g => XS.icmpYes X.here hx rfl rfl hd rfl g0 g1 g2 g
      · rename_i g0
        obtain rfl := Option.some.inj h
        exact go_same X r N hk hn hL fun t g => XS.icmpNo X.here hx rfl hd rfl (by simpa using g0) g
    · cases h
  | tableswitch d lo hi os =>
    dsimp only [stp] at h
    split at h
    · rename_i x S'
      split at h
      · rename_i g0
        obtain ⟨v, hv, rfl⟩ := Option.map_eq_some_iff.mp h
        obtain ⟨g1, g2⟩ := jmp_ok hv
        exact go_same X r N hk hn hL fun t g => XS.tswOut X.here hx rfl rfl hd rfl g0 g1 g2 g
      · rename_i g0
        obtain ⟨o, ho1, h⟩ := Option.bind_eq_some_iff.mp h
        obtain ⟨v, hv, rfl⟩ := Option.map_eq_some_iff.mp h
        obtain ⟨g1, g2⟩ := jmp_ok hv
        exact go_same X r N hk hn hL fun t g => XS.tswIn X.here hx rfl rfl hd rfl g0 ho1 g1 g2 g
    · cases h
  | getfield i =>
    have hl : len = 3 := hl; subst hl
    dsimp only [stp] at h
    split at h
    · rename_i a S'
      split at h
      · rename_i g0
        obtain rfl := Option.some.inj h
        obtain ⟨T1, X1, e1, st1⟩ := getF X hx hZ hown (host := "") (Or.inl (hw _ ho.2)) Via.refl rfl ((r.obj g0).2 _ ho.1) (g := mkF mid pc L.toArray (.ref a :: S')) rfl rfl hd
        exact go_heap X1 r e1 N hk hn hL fun t g => st1 t g
      · cases h
    · cases h
  | putfield i =>
    have hl : len = 3 := hl; subst hl
    dsimp only [stp] at h
    split at h
    · rename_i v a S'
      split at h
      · rename_i g0
        obtain rfl := Option.some.inj h
        obtain ⟨o1, o2, o3⟩ := ho
        obtain ⟨w1, w2⟩ := isOw_ok g0.1
        obtain ⟨n1, n2⟩ := okv_ok g0.2
        have hlay : (Jvm.Cond.lays C C (fn aux.toNat).1 (fn aux.toNat).2).before a0 Z = true ∨ ((Jvm.Cond.laysFinal C C (fn aux.toNat).1 (fn aux.toNat).2).before a0 Z = true ∧ (nm m).cls = C ∧ meth.name = "<init>") := by
          rcases o3 with q | ⟨q1, q2⟩
          · exact Or.inl (hw _ q)
          · rcases (hG.2.2.1 _ o1).2 with q | q
            · exact Or.inl (hw _ q)
            · exact Or.inr ⟨hw _ q, q1, hnm.trans q2⟩
        obtain ⟨T1, h1, X1, e1, W1, st1⟩ := putF X hx hZ hown (host := "") (Or.inl (hw _ o2)) Via.refl rfl ((r.obj w1).2 _ o1) (r.obj w1).1 hlay (hw _ hG.1) (hG.2.2.1 _ o1).1 n1 n2 (g := mkF mid pc L.toArray (v :: .ref a :: S')) rfl rfl hd
        exact ⟨T1, _, X1, by rw [e1]; exact r.wrF hG hw w1 o1 W1, Fr.snoc X1 N (r.own w2), hk, hn, hL, st1⟩
      · cases h
    · cases h
  | iaload =>
    have hl : len = 1 := hl; subst hl
    dsimp only [stp] at h
    split at h
    · rename_i i a S'
      split at h
      · rename_i g0
        obtain rfl := Option.some.inj h
        obtain ⟨w1, w2, w3⟩ := inA_ok g0
        obtain ⟨b1, cl, b2, b3, b4⟩ := r.arr w1
        exact go_same X r N hk hn hL fun t g => X.iaload hx (g := mkF mid pc L.toArray (.int i :: .ref a :: S')) b2.1 (State.isArrayOf_alike hZ.alike b2.2.1) b2.2.2 (by rw [b3]; exact idx_not w2 w3) (b4 _ w3) rfl rfl hd t g
      · cases h
    · cases h
  | laload =>
    have hl : len = 1 := hl; subst hl
    dsimp only [stp] at h
    split at h
    · rename_i i a S'
      split at h
      · rename_i g0
        obtain rfl := Option.some.inj h
        obtain ⟨w1, w2, w3⟩ := inA_ok g0
        obtain ⟨b1, cl, b2, b3, b4⟩ := r.arr w1
        exact go_same X r N hk hn hL fun t g => X.laload hx (g := mkF mid pc L.toArray (.int i :: .ref a :: S')) b2.1 (State.isArrayOf_alike hZ.alike b2.2.1) b2.2.2 (by rw [b3]; exact idx_not w2 w3) (b4 _ w3) rfl rfl hd t g
      · cases h
    · cases h
  | baload =>
    have hl : len = 1 := hl; subst hl
    dsimp only [stp] at h
    split at h
    · rename_i i a S'
      split at h
      · rename_i g0
        obtain rfl := Option.some.inj h
        rcases g0 with g0 | g0
        · obtain ⟨w1, w2, w3⟩ := inA_ok g0
          obtain ⟨b1, cl, b2, b3, b4⟩ := r.arr w1
          exact go_same X r N hk hn hL fun t g => X.baloadBytes hx (g := mkF mid pc L.toArray (.int i :: .ref a :: S')) b2.1 (State.isArrayOf_alike hZ.alike b2.2.1) b2.2.2 (by rw [b3]; exact idx_not w2 w3) (b4 _ w3) rfl rfl hd t g
        · obtain ⟨w1, w2, w3⟩ := inA_ok g0
          obtain ⟨b1, cl, b2, b3, b4⟩ := r.arr w1
          exact go_same X r N hk hn hL fun t g => X.baloadBooleans hx (g := mkF mid pc L.toArray (.int i :: .ref a :: S')) b2.1 (State.isArrayOf_alike hZ.alike b2.2.1) b2.2.2 (by rw [b3]; exact idx_not w2 w3) (b4 _ w3) rfl rfl hd t g
      · cases h
    · cases h
  | iastore =>
    have hl : len = 1 := hl; subst hl
    dsimp only [stp] at h
    split at h
    · rename_i x i a S'
      split at h
      · rename_i g0
        obtain rfl := Option.some.inj h
        obtain ⟨g1, g2⟩ := inAw_ok g0
        obtain ⟨w1, w2, w3⟩ := inA_ok g1
        obtain ⟨b1, cl, b2, b3, b4⟩ := r.arr w1
        obtain ⟨T1, h1, X1, e1, W1, st1⟩ := stI X hx hZ rfl b2 (j := i) (x := x) (by rw [b3]; exact idx_not w2 w3) (g := mkF mid pc L.toArray (.int x :: .int i :: .ref a :: S')) rfl rfl hd
        exact ⟨T1, _, X1, by rw [e1]; exact r.wrA w1 w3 W1, Fr.snoc X1 N (r.own g2), hk, hn, hL, st1⟩
      · cases h
    · cases h
  | lastore =>
    have hl : len = 1 := hl; subst hl
    dsimp only [stp] at h
    split at h
    · rename_i x i a S'
      split at h
      · rename_i g0
        obtain rfl := Option.some.inj h
        obtain ⟨g1, g2⟩ := inAw_ok g0
        obtain ⟨w1, w2, w3⟩ := inA_ok g1
        obtain ⟨b1, cl, b2, b3, b4⟩ := r.arr w1
        obtain ⟨T1, h1, X1, e1, W1, st1⟩ := stJ X hx hZ rfl b2 (j := i) (x := x) (by rw [b3]; exact idx_not w2 w3) (g := mkF mid pc L.toArray (.long x :: .int i :: .ref a :: S')) rfl rfl hd
        exact ⟨T1, _, X1, by rw [e1]; exact r.wrA w1 w3 W1, Fr.snoc X1 N (r.own g2), hk, hn, hL, st1⟩
      · cases h
    · cases h
  | bastore =>
    have hl : len = 1 := hl; subst hl
    dsimp only [stp] at h
    split at h
    · rename_i x i a S'
      split at h
      · rename_i g0
        obtain rfl := Option.some.inj h
        rcases g0 with ⟨g0, gx⟩ | ⟨g0, gx⟩
        · obtain ⟨g1, g2⟩ := inAw_ok g0
          obtain ⟨w1, w2, w3⟩ := inA_ok g1
          obtain ⟨b1, cl, b2, b3, b4⟩ := r.arr w1
          have hx2 : nar .byte x = x := Value.int.inj (okv_ok gx).1
          obtain ⟨T1, h1, X1, e1, W1, st1⟩ := stB X hx hZ rfl b2 (j := i) (x := x) (by rw [b3]; exact idx_not w2 w3) (g := mkF mid pc L.toArray (.int x :: .int i :: .ref a :: S')) rfl rfl hd
          rw [hx2] at W1
          exact ⟨T1, _, X1, by rw [e1]; exact r.wrA w1 w3 W1, Fr.snoc X1 N (r.own g2), hk, hn, hL, st1⟩
        · obtain ⟨g1, g2⟩ := inAw_ok g0
          obtain ⟨w1, w2, w3⟩ := inA_ok g1
          obtain ⟨b1, cl, b2, b3, b4⟩ := r.arr w1
          have hx2 : nar .boolean x = x := Value.int.inj (okv_ok gx).1
          obtain ⟨T1, h1, X1, e1, W1, st1⟩ := stZ X hx hZ rfl b2 (j := i) (x := x) (by rw [b3]; exact idx_not w2 w3) (g := mkF mid pc L.toArray (.int x :: .int i :: .ref a :: S')) rfl rfl hd
          rw [hx2] at W1
          exact ⟨T1, _, X1, by rw [e1]; exact r.wrA w1 w3 W1, Fr.snoc X1 N (r.own g2), hk, hn, hL, st1⟩
      · cases h
    · cases h
  | arraylength =>
    have hl : len = 1 := hl; subst hl
    dsimp only [stp] at h
    split at h
    · rename_i a S'
      split at h
      · rename_i g0
        obtain rfl := Option.some.inj h
        obtain ⟨t0, w1⟩ : ∃ t0, (H.2 a).1 = .array t0 := by unfold isA at g0; cases hq : (H.2 a).1 <;> rw [hq] at g0 <;> first | (cases g0; done) | exact ⟨_, rfl⟩
        obtain ⟨b1, cl, b2, b3, b4⟩ := r.arr w1
        refine go_same X r N hk hn hL fun t g => X.arraylength hx (g := mkF mid pc L.toArray (.ref a :: S')) b2.1 (State.isArrayOf_alike hZ.alike b2.2.1) rfl rfl hd t ?_
        rw [b3]; exact g
      · cases h
    · cases h
  | newarray t =>
    have hl : len = 2 := hl; subst hl
    dsimp only [stp] at h
    split at h
    · rename_i cnt S'
      split at h
      · rename_i g0
        obtain rfl := Option.some.inj h
        obtain ⟨z1, z2, z3, z4⟩ := g0
        have hcb : componentBytes (newarray.typeOf t) ≤ 8 := by cases t <;> decide
        obtain ⟨cA, kA, comp, h1, h2, h3, X1, st1⟩ := X.newarrayPrim hx (mvA hZ (hw _ ho)) (g := mkF mid pc L.toArray (.int cnt :: S')) rfl hd rfl z1 (Nat.le_trans (Nat.mul_le_mul_left _ hcb) z2) z3 z4
        refine ⟨_, locs, X1, ?_, N, z3, z4, hL, fun t g => st1 t (by rw [r.1]; exact g)⟩
        exact r.ext (ext_push _ _) (by show (T.heap.push _).size = _; simp) ⟨fun _ => by rw [r.1]; exact r.2.1, (back32 z1).2, _, made_arr hZ h1 h2 h3, by simp, fun i hi => by simp [hi]⟩
      · cases h
    · cases h
  | new i =>
    have hl : len = 3 := hl; subst hl
    dsimp only [stp] at h
    split at h
    · rename_i g0
      obtain rfl := Option.some.inj h
      obtain ⟨z1, z2, z3⟩ := g0
      rw [ho.1] at z3 ⊢
      obtain ⟨vm1, cC, kC, h1, h2, h3, h4, X1, st1⟩ := X.newCold hx hown (mv hZ (hw _ ho.2)) (mv hZ (hw _ hG.1)) (mv hZ (hw _ hG.2.1)) (g := mkF mid pc L.toArray S) rfl hd z2 z3
      obtain ⟨A1, D1⟩ := made_obj (h := T.heap) (a0 := a0) hZ h1 h2
      refine ⟨_, locs, X1, ?_, N, z2, z3, hL, fun t g => st1 t (by rw [r.1]; exact g)⟩
      exact r.ext (ext_push _ _) (by show (T.heap.push _).size = _; simp) ⟨fun _ => by rw [r.1]; exact r.2.1, A1, fun j hj => D1 (((hG.2.2.1 j hj).2).imp (hw _) (hw _)) (hG.2.2.1 j hj).1⟩
    · cases h
  | invokespecial i =>
    have hl : len = 3 := hl; subst hl
    dsimp only [stp] at h
    split at h
    · rename_i a S'
      split at h
      · rename_i g0
        obtain rfl := Option.some.inj h
        obtain ⟨rfl, z2, z3⟩ := g0
        obtain ⟨o1, o2, o3⟩ := ho.1 rfl
        obtain ⟨T1, X1, e1, st1⟩ := initO X hx hZ hown (hw _ o1) (hw _ o2) (hw _ o3) rfl (g := mkF mid pc L.toArray (.ref a :: S')) rfl (by rw [hml, ← hL]; simp) rfl hd z2 (W := cs S') (by show 2 * 0 + _ ≤ _; exact Nat.le_of_eq (Nat.zero_add _)) z3
        exact go_heap X1 r e1 N hk hn hL fun t g => st1 t g
      · cases h
    · cases h
  | _ => exact absurd (show (none : Option Fm) = some q from h) (by simp)
end Step
end Jvm.JX

namespace Jvm.JX
open Sem ClassFile Op Lib Jvm.Stand Jvm.Free Jvm.LawKit Jvm.RoadKit
section Sound
variable {P : Prog} {tb : List Jvm.Cond} {C : String} {fn : Nat → String × String} {F : List Nat} {nsl : Nat} {nm : Nat → MethodName} {bt : Nat → ByteArray} {R : List Nat} {top : Nat}
variable {l : Launch} {Z : State} {a0 : Array Value} {n0 : Nat}
def Endd (C : String) (fn : Nat → String × String) (F : List Nat) (Z : State) (n0 : Nat) (p : Program) (l : Launch) (e : Env) (Rm : Jvm.Room) (s : State) (mid : MethodId) (args : Array Value) (below : List Frame) (meth : Method) (c : Code) (rt0 : Option FieldType) (start : State) (v : Option Value) (H' : AH) : Prop :=
  ∃ T' locs' k' n', Stand p l e Rm s mid args below meth c T' locs' k' n' ∧ RelH C fn F Z n0 T'.heap H' ∧ Fr n0 locs' ∧ k' ≤ Rm.cells ∧ n' ≤ Rm.slots ∧ (rt0 = none → v = none) ∧
    ∀ fs, (∀ (f : JFrame) (acts : List Action), f.method = mid → f.locked = none → f.entered = [] → (doReturn e (T'.setTop f) acts v).1 = T'.setFrames fs) → Steps p.tables e below start (T'.setFrames fs)
def Says (P : Prog) (C : String) (fn : Nat → String × String) (F : List Nat) (nm : Nat → MethodName) (bt : Nat → ByteArray) (l : Launch) (Z : State) (n0 m pc : Nat) (L : List Slot) (S : List Value) (k n : Nat) (H : AH) (v : Option Value) (H' : AH) : Prop :=
  ∀ (p : Program) (e : Env) (s : State) (mid : MethodId) (args : Array Value) (below : List Frame) (meth : Method) (c : Code) (T : State) (locs : List Loc), Stand p l e (rm P m) s mid args below meth c T locs k n → p.tables.exec = Jvm.exec → Z.Warmed39 s.vm → c.code = bt m → c.maxLocals = ml P m →
    s.vm.findClass (nm m).cls = some mid.cls → meth.name = (nm m).name → meth.sig.returnType = rt P m → L.length = ml P m → RelH C fn F Z n0 T.heap H → Fr n0 locs → k ≤ (rm P m).cells → n ≤ (rm P m).slots →
    Endd C fn F Z n0 p l e (rm P m) s mid args below meth c (rt P m) (T.setTop (mkF mid pc L.toArray S)) v H'
theorem Endd.back {p : Program} {e : Env} {Rm : Jvm.Room} {s : State} {mid : MethodId} {args : Array Value} {below : List Frame} {meth : Method} {c : Code} {rt0 : Option FieldType} {start start' : State} {v : Option Value} {H' : AH}
    (h : Endd C fn F Z n0 p l e Rm s mid args below meth c rt0 start' v H') (st : ∀ t, Steps p.tables e below start' t → Steps p.tables e below start t) : Endd C fn F Z n0 p l e Rm s mid args below meth c rt0 start v H' := by
  obtain ⟨T', locs', k', n', h1, h2, h3, h4, h5, h6, h7⟩ := h
  exact ⟨T', locs', k', n', h1, h2, h3, h4, h5, h6, fun fs g => st _ (h7 fs g)⟩
theorem met_of {m : Nat} {as : List Value} {H H' : AH} {v : Option Value} {h : Heap} (ws : List Jvm.Cond) (hp : plainName (nm m).cls = true) (hl : (Sym.laidSlots as).length ≤ ml P m) (r : RelH C fn F Z n0 h H)
    (hS : Says P C fn F nm bt l Z n0 m 0 (ent P m as) [] 0 0 H v H') :
    MetFree l (nm m) (head1 (Jvm.Cond.code (nm m) (bt m) (ml P m) (rt P m) :: ws) (rm P m)) (fun a U => a = as.toArray ∧ Z.Warmed39 U.vm ∧ U.heap = h) (fun _ _ _ _ _ => True)
      (fun _ U o U' => ∃ v' L, o = .returned v' ∧ (v' = v ∧ Fr n0 L ∧ RelH C fn F Z n0 U'.heap H') ∧ FrameEnd U o U' L (rm P m).cells (rm P m).slots) := by
  refine MetFree.of_bodySF (plainFor_of_name hp) hisR ?_
  intro p e s mid args below meth c s₁ Bd hml0 hP hK
  obtain ⟨rfl, hZ, hh⟩ := hP
  have X0 : Stand p l e (rm P m) s mid as.toArray below meth c s₁ [] 0 0 := Stand.of_body Bd
  have e0 : s₁.heap = h := by rw [← hh, Bd.state]; rfl
  have hle : (ent P m as).length = ml P m := by simp [ent]; omega
  obtain ⟨T', locs', k', n', X1, r1, N1, hk1, hn1, hv1, st1⟩ := hS p e s mid as.toArray below meth c s₁ [] X0 Bd.exec hZ Bd.bytes hml0 (findClass_of_methodNamed Bd.named) (name_of_methodNamed Bd.named Bd.method).1 Bd.returns hle (by rw [e0]; exact r) (Fr.nil n0) (Nat.zero_le _) (Nat.zero_le _)
  obtain ⟨fs, hr, hrun, hended, hW, hsame⟩ := X1.leave (v := v) (fun q => hv1 (Bd.returns.symm.trans q))
  refine ⟨_, _, (Jvm.Free.XT.entry (Ls := (ent P m as).toArray) (by simp [ent])).trans (st1 fs hr), hrun, hended, v, locs', rfl, ⟨rfl, N1, r1⟩, ⟨_, rfl⟩, hW, hsame.mono hk1 hn1⟩
theorem ret_ok {m : Nat} {ins : Instr} {S : List Value} {v : Option Value} (h : ret P m ins S = some v) : (rt P m = none ∧ v = none ∧ ins = .return_ ∧ S = []) ∨ ∃ t w rest, rt P m = some t ∧ v = some w ∧ S = w :: rest ∧ narrow t w = w ∧
    ((ins = .ireturn ∧ (t = .int ∨ t = .boolean ∨ t = .byte ∨ t = .char ∨ t = .short) ∧ ∃ z, w = .int z) ∨ (ins = .lreturn ∧ t = .long ∧ ∃ z, w = .long z)) := by
  unfold ret at h
  split at h
  · split at h
    · rename_i g; cases h; exact Or.inl ⟨g.1, rfl, rfl, g.2⟩
    · cases h
  · split at h
    · rename_i z rest g; cases h; exact Or.inr ⟨.int, _, rest, g, rfl, rfl, rfl, Or.inl ⟨rfl, Or.inl rfl, z, rfl⟩⟩
    · rename_i z rest g
      split at h
      · rename_i g0
        cases h
        refine Or.inr ⟨.boolean, _, rest, g, rfl, rfl, ?_, Or.inl ⟨rfl, Or.inr (Or.inl rfl), z, rfl⟩⟩
        rcases g0 with rfl | rfl <;> rfl
      · cases h
    · cases h
  · split at h
    · rename_i z rest g; cases h; exact Or.inr ⟨.long, _, rest, g, rfl, rfl, rfl, Or.inr ⟨rfl, rfl, z, rfl⟩⟩
    · cases h
  · cases h
theorem cal_ok {m m' k n : Nat} {ins : Instr} {aux : Int} {S a r : List Value} {H : AH} (h : cal P m ins aux S k n H = some (m', a, r)) : aux = (m' : Int) ∧ kindOk ins (kd P m') = true ∧ may P m m' a r k n H = true ∧ S = a.reverse ++ r := by
  have h1 : cal1 P m ins aux S k n H = some (m', a, r) := by
    unfold cal at h
    split at h <;> first | exact h | (cases h)
  unfold cal1 at h1
  split at h1
  · rename_i g
    cases h1
    exact ⟨by omega, g.2.1, g.2.2, by rw [List.reverse_reverse]; exact (List.take_append_drop ..).symm⟩
  · cases h1
end Sound
end Jvm.JX

namespace Jvm.JX
open Sem ClassFile Op Lib Jvm.Stand Jvm.Free Jvm.LawKit Jvm.RoadKit
section Sound
variable {P : Prog} {tb : List Jvm.Cond} {C : String} {fn : Nat → String × String} {F : List Nat} {nsl : Nat} {nm : Nat → MethodName} {bt : Nat → ByteArray} {R : List Nat} {top : Nat}
variable {l : Launch} {Z : State} {a0 : Array Value} {n0 : Nat}
theorem may_ok {m m' k n : Nat} {a r : List Value} {H : AH} (h : may P m m' a r k n H = true) : (Sym.laidSlots a).length ≤ ml P m' ∧ a.length = na P m' ∧ (rm P m').frames + 1 ≤ (rm P m).frames ∧ cs r + (ml P m' + 11) + (rm P m').locals ≤ (rm P m).locals ∧
    (((rm P m').cells = 0 ∧ (rm P m').slots = 0) ∨ (k + (rm P m').cells ≤ (rm P m).cells ∧ n + (rm P m').slots ≤ (rm P m).slots)) ∧ (kd P m' = 0 ∨ rcv H a = true) := by
  simpa [may, and_assoc] using h
theorem rcv_ok {H : AH} {a : List Value} (h : rcv H a = true) : ∃ b as, a = .ref b :: as ∧ isO H b = true := by
  unfold rcv at h
  split at h
  · exact ⟨_, _, rfl, h⟩
  · cases h
set_option maxHeartbeats 1000000 in
theorem call_go {m pc len k n m' : Nat} {aux : Int} {L : List Slot} {S a r : List Value} {H H1 : AH} {ins : Instr} {v1 : Option Value} {p : Program} {e : Env} {s : State} {mid : MethodId} {args : Array Value} {below : List Frame} {meth : Method} {c : Code} {T : State} {locs : List Loc}
    (hG : Good P tb C fn F nsl nm bt R top) (hw : ∀ d ∈ tb, d.before a0 Z = true) (hm : m ∈ R) (hrow : P.1 m pc = some (ins, len, aux)) (hc : cal P m ins aux S k n H = some (m', a, r)) (hS : m' ∈ R → Says P C fn F nm bt l Z n0 m' 0 (ent P m' a) [] 0 0 H v1 H1)
    (X : Stand p l e (rm P m) s mid args below meth c T locs k n) (hx : p.tables.exec = Jvm.exec) (hZ : Z.Warmed39 s.vm)
    (hby : c.code = bt m) (hml : c.maxLocals = ml P m) (hown : s.vm.findClass (nm m).cls = some mid.cls) (hL : L.length = ml P m) (rr : RelH C fn F Z n0 T.heap H) (N : Fr n0 locs) (hk : k ≤ (rm P m).cells) (hn : n ≤ (rm P m).slots) :
    Go C fn F Z n0 p l e (rm P m) s mid args below meth c (T.setTop (mkF mid pc L.toArray S)) (ml P m) (pc + len, L, v1.toList ++ r, k + (rm P m').cells, n + (rm P m').slots, H1) := by
  obtain ⟨hd, hl, ho⟩ := (hG.2.2.2.2.1 m hm).2.2 pc ins len aux hrow
  replace hd := hb hby hd
  obtain ⟨e1, e2, e3, e4⟩ := cal_ok hc
  obtain ⟨y1, y2, y3, y4, y5, y6⟩ := may_ok e3
  have hnt : m' ≠ top := fun q => by
    have := hG.2.2.2.2.2.2 m hm pc ins len aux hrow (by rw [e1, q])
    rw [q, this] at e2; cases e2
  have y5' : k + (rm P m').cells ≤ (rm P m).cells ∧ n + (rm P m').slots ≤ (rm P m).slots := by rcases y5 with ⟨q1, q2⟩ | q <;> omega
  have hsize : (mkF mid pc L.toArray S).locals.size = c.maxLocals := by rw [hml, ← hL]; simp
  have hcs : 2 * (mkF mid pc L.toArray S).monitorRoom + (r.map fun v => v.category).sum ≤ cs r := by show 2 * 0 + _ ≤ _; exact Nat.le_of_eq (Nat.zero_add _)
  subst e1
  cases ins with
  | invokevirtual ix =>
    have hl : len = 3 := hl
    subst hl
    obtain ⟨mR, lnk⟩ := ho
    rw [Int.toNat_natCast] at mR lnk
    obtain ⟨c1, c2, ⟨ps, rr0, c3, c4⟩, c5, c6, c7, c8, c9⟩ := hG.2.2.2.2.2.1 m' mR hnt
    have hk0 : kd P m' ≠ 0 := fun q => by rw [q] at e2; cases e2
    obtain ⟨hcls, hinst⟩ := c6 hk0
    obtain ⟨b, as, rfl, hb⟩ := rcv_ok (y6.resolve_left hk0)
    obtain ⟨Eb, -⟩ := rr.obj hb
    have hlen : as.length = ps.length := by rw [if_neg hk0] at c4; simp only [List.length_cons] at y2; omega
    have eS : S = as.reverse ++ .ref b :: r := by rw [e4]; simp
    subst eS
    obtain ⟨pn, hy, -⟩ := hG.2.2.2.2.1 m' mR
    have BK := backOf (Q := fun v' h' L' => v' = v1 ∧ Fr n0 L' ∧ RelH C fn F Z n0 h' H1) (R := rm P m) (W := cs r) (p := p) (e := e) (below := below) (s := s) (args := args) (len := 3) (met_of [] pn y1 rr (hS mR)) hZ (hw _ c1) (hw _ c2) y3 y4
    have hkk : kd P m' = 1 ∨ kd P m' = 2 := by simpa [kindOk] using e2
    rcases hkk with hkk | hkk
    · obtain ⟨d1, d2⟩ := c7 hkk
      obtain ⟨cB, kB, q1, q2, q3⟩ := isOf (T := T) hZ rfl Eb
      obtain ⟨v, vm1, ⟨T1, L1, k1, n1⟩, -, X1, ⟨Lc, hQ, l1, z1, z2⟩, st⟩ := X.virtualBack hx (y := nm m') (z := nm m') hown (mvT hZ (hw _ lnk)) (mvT hZ (hw _ d1)) (notFace_of_selects (args := #[]) (mvT hZ (hw _ d2))) (mvT hZ (hw _ d2)) (mvT hZ (hw _ hinst)) hy BK q1 q3 (g := mkF mid pc L.toArray (as.reverse ++ .ref b :: r)) rfl hsize (Steps.refl _) (argsL := as) (rest := r) (lenOf c3 hlen) rfl hcs hd (fun _ _ => ⟨rfl, rfl, y5'.1, y5'.2⟩)
      dsimp only [Pt.U, Pt.locs, Pt.cells, Pt.slots] at X1 l1 z1 z2 st hQ
      subst l1 z1 z2
      obtain ⟨rfl, N1, r1⟩ := hQ
      exact ⟨T1, _, X1, r1, Fr.app N N1, y5'.1, y5'.2, hL, fun t g => st.trans g⟩
    · obtain ⟨ci, ki, i1, i2, i3, i4, -⟩ := Cond.instantiable_spec (show (Jvm.Cond.instantiable C nsl).before args s = true from mv hZ (hw _ hG.1))
      have hni : ki.isInterface = false := (Bool.or_eq_false_iff.mp i4).1
      have hpriv := Cond.privateMethod_at (mvP hZ (hw _ (c8 hkk)) (args := #[]))
      have hsel : (Jvm.Cond.selects (nm m').cls (nm m') (nm m')).before args s = true := selects_self_of_private (by rw [hcls]; exact i1) i2 hni hpriv (mvT hZ (hw _ hinst)) hy
      obtain ⟨cl, hcl, hcl'⟩ := Eb.cell
      obtain ⟨v, vm1, ⟨T1, L1, k1, n1⟩, -, X1, ⟨Lc, hQ, l1, z1, z2⟩, st⟩ := X.privateBack hx (y := nm m') hown (mvT hZ (hw _ lnk)) (mvT hZ (hw _ hinst)) hsel hpriv (mvT hZ (hw _ c1)) hy BK (g := mkF mid pc L.toArray (as.reverse ++ .ref b :: r)) rfl hsize (Steps.refl _) (a := b) hcl hcl' (argsL := as) (rest := r) (lenOf c3 hlen) rfl hcs hd (fun _ _ => ⟨rfl, rfl, y5'.1, y5'.2⟩)
      dsimp only [Pt.U, Pt.locs, Pt.cells, Pt.slots] at X1 l1 z1 z2 st hQ
      subst l1 z1 z2
      obtain ⟨rfl, N1, r1⟩ := hQ
      exact ⟨T1, _, X1, r1, Fr.app N N1, y5'.1, y5'.2, hL, fun t g => st.trans g⟩
  | invokestatic ix =>
    have hl : len = 3 := hl
    subst hl
    obtain ⟨mR, lnk⟩ := ho
    rw [Int.toNat_natCast] at mR lnk
    obtain ⟨c1, c2, ⟨ps, rr0, c3, c4⟩, c5, c6, c7, c8, c9⟩ := hG.2.2.2.2.2.1 m' mR hnt
    have hk0 : kd P m' = 0 := by simpa [kindOk] using e2
    have hlen : a.length = ps.length := by rw [if_pos hk0] at c4; omega
    subst e4
    obtain ⟨pn, hy, -⟩ := hG.2.2.2.2.1 m' mR
    have BK := backOf (Q := fun v' h' L' => v' = v1 ∧ Fr n0 L' ∧ RelH C fn F Z n0 h' H1) (R := rm P m) (W := cs r) (p := p) (e := e) (below := below) (s := s) (args := args) (len := 3) (met_of [] pn y1 rr (hS mR)) hZ (hw _ c1) (hw _ c2) y3 y4
    obtain ⟨v, vm1, ⟨T1, L1, k1, n1⟩, -, X1, ⟨Lc, hQ, l1, z1, z2⟩, st⟩ := Jvm.LawKit.callS X hx (y := nm m') hown (mvT hZ (hw _ lnk)) (mvT hZ (hw _ (c5 hk0))) (mvT hZ (hw _ c2)) (mvT hZ (hw _ c1)) hy BK (g := mkF mid pc L.toArray (a.reverse ++ r)) rfl hsize (argsL := a) (rest := r) (lenOf c3 hlen) rfl hcs hd (fun _ _ => ⟨rfl, rfl, y5'.1, y5'.2⟩)
    dsimp only [Pt.U, Pt.locs, Pt.cells, Pt.slots] at X1 l1 z1 z2 st hQ
    subst l1 z1 z2
    obtain ⟨rfl, N1, r1⟩ := hQ
    exact ⟨T1, _, X1, r1, Fr.app N N1, y5'.1, y5'.2, hL, fun t g => st t g⟩
  | invokespecial ix =>
    have hl : len = 3 := hl
    subst hl
    obtain ⟨mR, lnk⟩ := ho.2 (by omega)
    rw [Int.toNat_natCast] at mR lnk
    obtain ⟨c1, c2, ⟨ps, rr0, c3, c4⟩, c5, c6, c7, c8, c9⟩ := hG.2.2.2.2.2.1 m' mR hnt
    have hk3 : kd P m' = 3 := by simpa [kindOk] using e2
    have hk0 : kd P m' ≠ 0 := by omega
    obtain ⟨hcls, hinst⟩ := c6 hk0
    obtain ⟨hn3, hr3⟩ := c9 hk3
    obtain ⟨b, as, rfl, hb⟩ := rcv_ok (y6.resolve_left hk0)
    have hlen : as.length = ps.length := by rw [if_neg hk0] at c4; simp only [List.length_cons] at y2; omega
    have eS : S = as.reverse ++ .ref b :: r := by rw [e4]; simp
    subst eS
    obtain ⟨pn, hy, -⟩ := hG.2.2.2.2.1 m' mR
    have BK := backOf (Q := fun v' h' L' => v' = v1 ∧ Fr n0 L' ∧ RelH C fn F Z n0 h' H1) (R := rm P m) (W := cs r) (p := p) (e := e) (below := below) (s := s) (args := args) (len := 3) (met_of [] pn y1 rr (hS mR)) hZ (hw _ c1) (hw _ c2) y3 y4
    rw [hr3] at c1
    obtain ⟨v, vm1, ⟨T1, L1, k1, n1⟩, -, X1, ⟨Lc, hQ, l1, z1, z2⟩, st⟩ := X.specialBack hx (y := nm m') hn3 hown (mvT hZ (hw _ lnk)) (mvT hZ (hw _ hinst)) (mvT hZ (hw _ c1)) hy BK (g := mkF mid pc L.toArray (as.reverse ++ .ref b :: r)) rfl hsize (Steps.refl _) (a := b) (argsL := as) (rest := r) (lenOf c3 hlen) rfl hcs hd (fun _ _ => ⟨rfl, rfl, y5'.1, y5'.2⟩)
    dsimp only [Pt.U, Pt.locs, Pt.cells, Pt.slots] at X1 l1 z1 z2 st hQ
    subst l1 z1 z2
    obtain ⟨rfl, N1, r1⟩ := hQ
    exact ⟨T1, _, X1, r1, Fr.app N N1, y5'.1, y5'.2, hL, fun t g => st.trans g⟩
  | _ => cases e2
theorem sound (hG : Good P tb C fn F nsl nm bt R top) (hw : ∀ d ∈ tb, d.before a0 Z = true) : ∀ (f m : Nat), m ∈ R → ∀ (pc : Nat) (L : List Slot) (S : List Value) (k n : Nat) (H : AH) (v : Option Value) (H' : AH), run P f m pc L S k n H = some (v, H') → Says P C fn F nm bt l Z n0 m pc L S k n H v H' := by
  intro f
  induction f with
  | zero => intro m _ pc L S k n H v H' h; cases h
  | succ f ih =>
    intro m hm pc L S k n H v H' h p e s mid args below meth c T locs X hx hZ hby hml hown hnm hret hL r N hk hn
    rw [run_succ] at h
    cases hd : P.1 m pc with
    | none => rw [hd] at h; cases h
    | some d =>
      obtain ⟨ins, len, aux⟩ := d
      rw [hd] at h
      simp only at h
      cases hr : ret P m ins S with
      | some v1 =>
        rw [hr] at h
        cases h
        obtain ⟨hdec, hl, -⟩ := (hG.2.2.2.2.1 m hm).2.2 pc ins len aux hd
        replace hdec := hb hby hdec
        rcases ret_ok hr with ⟨q1, rfl, rfl, q0⟩ | ⟨t, w, rest, q1, rfl, rfl, q4, q5⟩
        · have hl : len = 1 := hl
          subst hl
          exact ⟨T, locs, k, n, X, r, N, hk, hn, fun _ => rfl, fun fs g => by subst q0; exact X.returnOut hx (hret.trans q1) hdec g⟩
        · refine ⟨T, locs, k, n, X, r, N, hk, hn, fun q => absurd (q1.symm.trans q) (by simp), fun fs g => ?_⟩
          have hl1 : len = 1 := by
            rcases q5 with ⟨rfl, -⟩ | ⟨rfl, -⟩ <;> exact hl
          subst hl1
          exact retOut X hx (hret.trans q1) q4 (q5.elim (fun u => Or.inl u) (fun u => Or.inr (Or.inl u))) hdec g
      | none =>
        rw [hr] at h
        simp only at h
        cases hc : cal P m ins aux S k n H with
        | some cc =>
          obtain ⟨m', a, rs⟩ := cc
          rw [hc] at h
          simp only at h
          cases hq : run P f m' 0 (ent P m' a) [] 0 0 H with
          | none => rw [hq] at h; cases h
          | some q =>
            obtain ⟨v1, H1⟩ := q
            rw [hq] at h
            obtain ⟨T1, locs1, X1, r1, N1, hk1, hn1, hL1, st⟩ := call_go hG hw hm hd hc (fun mR => ih m' mR _ _ _ _ _ _ _ _ hq) X hx hZ hby hml hown hL r N hk hn
            exact (ih m hm _ _ _ _ _ _ _ _ h p e s mid args below meth c T1 locs1 X1 hx hZ hby hml hown hnm hret hL1 r1 N1 hk1 hn1).back st
        | none =>
          rw [hc] at h
          simp only at h
          cases hs : stp P m ins len aux pc L S k n H with
          | none => rw [hs] at h; cases h
          | some q =>
            rw [hs] at h
            obtain ⟨T1, locs1, X1, r1, N1, hk1, hn1, hL1, st⟩ := stp_go hG hw hm hd hs X hx hZ hby hml hown hnm hL r N hk hn
            exact (ih m hm _ _ _ _ _ _ _ _ h p e s mid args below meth c T1 locs1 X1 hx hZ hby hml hown hnm hret hL1 r1 N1 hk1 hn1).back st
theorem law_met (hG : Good P tb C fn F nsl nm bt R top) (hw : ∀ d ∈ tb, d.before a0 Z = true) {as : List Value} {H : AH} {h : Heap} {Q : Option Value → AH → Prop} (ws : List Jvm.Cond) (ht : top ∈ R) (hl : (Sym.laidSlots as).length ≤ ml P top) (r : RelH C fn F Z n0 h H) (hC : Cl P top as H Q) :
    MetFree l (nm top) (head1 (Jvm.Cond.code (nm top) (bt top) (ml P top) (rt P top) :: ws) (rm P top)) (fun a U => a = as.toArray ∧ Z.Warmed39 U.vm ∧ U.heap = h) (fun _ _ _ _ _ => True)
      (fun _ U o U' => ∃ v' L, o = .returned v' ∧ (Fr n0 L ∧ ∃ H', Q v' H') ∧ FrameEnd U o U' L (rm P top).cells (rm P top).slots) := by
  obtain ⟨f, v, H', h1, h2⟩ := hC
  have hM := met_of (l := l) (h := h) ws (hG.2.2.2.2.1 top ht).1 hl r (sound hG hw f top ht _ _ _ _ _ _ _ _ h1)
  intro p e ha hc hk s m args below hf happ hP hK
  obtain ⟨n, o, q1, q2, q3, v', L, q4, ⟨q5, q6, q7⟩, q8⟩ := hM p e ha hc hk s m args below hf happ hP hK
  exact ⟨n, o, q1, q2, q3, v', L, q4, ⟨q6, H', by rw [q5]; exact h2⟩, q8⟩
end Sound
end Jvm.JX
namespace Jvm.JX
open Sem ClassFile Op Lib Jvm.Stand Jvm.Free Jvm.LawKit Jvm.RoadKit
theorem fa0 {α : Type} {p : α → Prop} : ∀ x ∈ ([] : List α), p x := fun _ q => nomatch q
theorem faS {α : Type} {p : α → Prop} {y : α} {L : List α} (q : p y) (r : ∀ x ∈ L, p x) : ∀ x ∈ y :: L, p x := fun x z => (List.mem_cons.mp z).elim (fun u => u ▸ q) (r x)
def rowChk (FL ML : List (Nat × Nat × Nat)) (KI KJ : List (Nat × Nat × Int)) (AT : List FieldType) (WF : List Nat) (nsl nw : Nat) (own : Nat) (ini : Bool) (ins : Instr) (aux : Int) : Bool :=
  match ins with
  | .getfield i => FL.contains (own, i, aux.toNat)
  | .putfield i => FL.contains (own, i, aux.toNat) && (WF.contains aux.toNat || ini)
  | .new i => decide (aux.toNat = nsl) && decide (own = 1) && decide (i = nw)
  | .newarray t => decide (newarray.typeOf t ∈ AT)
  | .ldc i => KI.contains (own, i, aux)
  | .ldc2_w i => KJ.contains (own, i, aux)
  | .invokevirtual i => ML.contains (own, i, aux.toNat)
  | .invokestatic i => ML.contains (own, i, aux.toNat)
  | .invokespecial i => if aux = -1 then decide (own = 0) && decide (i = 1) else ML.contains (own, i, aux.toNat)
  | _ => true
def rowOne (FL ML : List (Nat × Nat × Nat)) (KI KJ : List (Nat × Nat × Int)) (AT : List FieldType) (WF : List Nat) (nsl nw : Nat) (bt : Nat → ByteArray) (own : Nat → Nat) (ini : Nat → Bool) (m : Nat) (r : Row) : Bool :=
  decide (decode (bt m) r.1 = .ok (r.2.1, r.2.2.1)) && decide (r.2.2.1 = ilen2 r.2.1 r.2.2.1) && rowChk FL ML KI KJ AT WF nsl nw (own m) (ini m) r.2.1 r.2.2.2
theorem all_td {α : Type} {p : α → Bool} {l : List α} (c : Nat) (h1 : (l.take c).all p = true) (h2 : (l.drop c).all p = true) : l.all p = true := by
  rw [← List.take_append_drop c l, List.all_append, h1, h2]; rfl
theorem all_c {α : Type} {p : α → Bool} {l : List α} {a : α} (h1 : p a = true) (h2 : l.all p = true) : (a :: l).all p = true := by
  rw [List.all_cons, h1, h2]; rfl
theorem all_n {α : Type} {p : α → Bool} : ([] : List α).all p = true := rfl
theorem lookup_mem {L : List Row} {pc : Nat} {d : Instr × Nat × Int} (h : L.lookup pc = some d) : (pc, d) ∈ L := by
  induction L with
  | nil => cases h
  | cons x L ih =>
    obtain ⟨k, v⟩ := x
    rw [List.lookup_cons] at h
    by_cases e : pc = k
    · subst e; simp at h; subst h; exact List.mem_cons_self ..
    · have : (pc == k) = false := by simpa using e
      rw [this] at h; exact List.mem_cons_of_mem _ (ih h)
theorem row_ok {P : Prog} {tb : List Jvm.Cond} {C : String} {fn : Nat → String × String} {F : List Nat} {nsl nw : Nat} {nm : Nat → MethodName} {R : List Nat} {cn : Nat → String} {own : Nat → Nat} {ini : Nat → Bool}
    {FL ML : List (Nat × Nat × Nat)} {KI KJ : List (Nat × Nat × Int)} {AT : List FieldType} {WF : List Nat} {m : Nat} {ins : Instr} {aux : Int}
    (hown : (nm m).cls = cn (own m)) (hini : ini m = true → (nm m).cls = C ∧ (nm m).name = "<init>")
    (hFL : ∀ t ∈ FL, t.2.2 ∈ F ∧ Jvm.Cond.fieldLink (cn t.1) t.2.1 C (fn t.2.2).1 (fn t.2.2).2 ∈ tb) (hWF : ∀ k ∈ WF, Jvm.Cond.lays C C (fn k).1 (fn k).2 ∈ tb)
    (hML : ∀ t ∈ ML, t.2.2 ∈ R ∧ Jvm.Cond.methodLink (cn t.1) t.2.1 (nm t.2.2) ∈ tb) (hKI : ∀ t ∈ KI, Jvm.Cond.constant (cn t.1) t.2.1 (Int32.ofInt t.2.2) ∈ tb) (hKJ : ∀ t ∈ KJ, Jvm.Cond.constantLong (cn t.1) t.2.1 (Int64.ofInt t.2.2) ∈ tb)
    (hAT : ∀ t ∈ AT, Jvm.Cond.arrayClass t ∈ tb) (hN : Jvm.Cond.classLink (cn 1) nw C ∈ tb)
    (hO : Jvm.Cond.methodLink (cn 0) 1 Lib.objectInit ∈ tb ∧ Jvm.Cond.instanceMethod Lib.objectInit ∈ tb ∧ Jvm.Cond.code Lib.objectInit ⟨#[0xb1]⟩ 1 none ∈ tb)
    (h : rowChk FL ML KI KJ AT WF nsl nw (own m) (ini m) ins aux = true) : RowOk P tb C fn F nsl nm R m ins aux := by
  cases ins <;> first | trivial | skip
  case getfield i => have q := hFL _ (List.contains_iff_mem.mp h); exact ⟨q.1, by rw [hown]; exact q.2⟩
  case putfield i =>
    simp only [rowChk, Bool.and_eq_true, Bool.or_eq_true] at h
    have q := hFL _ (List.contains_iff_mem.mp h.1)
    exact ⟨q.1, by rw [hown]; exact q.2, h.2.imp (fun u => hWF _ (List.contains_iff_mem.mp u)) hini⟩
  case new i =>
    simp only [rowChk, Bool.and_eq_true, decide_eq_true_eq] at h
    obtain ⟨⟨h1, h2⟩, h3⟩ := h
    exact ⟨h1, by rw [hown, h2, h3]; exact hN⟩
  case newarray t => exact hAT _ (of_decide_eq_true h)
  case ldc i => have q := hKI _ (List.contains_iff_mem.mp h); show _ ∈ tb; rw [hown]; exact q
  case ldc2_w i => have q := hKJ _ (List.contains_iff_mem.mp h); show _ ∈ tb; rw [hown]; exact q
  case invokevirtual i => have q := hML _ (List.contains_iff_mem.mp h); exact ⟨q.1, by rw [hown]; exact q.2⟩
  case invokestatic i => have q := hML _ (List.contains_iff_mem.mp h); exact ⟨q.1, by rw [hown]; exact q.2⟩
  case invokespecial i =>
    simp only [rowChk] at h
    refine ⟨fun e => ?_, fun e => ?_⟩
    · rw [if_pos e] at h
      simp only [Bool.and_eq_true, decide_eq_true_eq] at h
      rw [hown, h.1, h.2]; exact hO
    · rw [if_neg (by omega)] at h
      have q := hML _ (List.contains_iff_mem.mp h)
      exact ⟨q.1, by rw [hown]; exact q.2⟩
theorem rel_H0 {C : String} {fn : Nat → String × String} {F : List Nat} {Z : State} (h : Heap) : RelH C fn F Z h.size h (H0 h.size) := ⟨rfl, Nat.le_refl _, fun a => ⟨fun q => (by cases q), trivial⟩⟩
end Jvm.JX

namespace Jvm.JX.Pj
open Jvm Jvm.ClassFile Sem Op Lib Jvm.JX
def r1 : List Row := [(0, .aload_n 0, 1, 0), (1, .invokespecial 1, 3, (-1)), (4, .aload_n 0, 1, 0), (5, .sipush 128, 3, 0), (8, .newarray .int, 2, 0), (10, .putfield 7, 3, 1), (13, .aload_n 0, 1, 0), (14, .sipush 128, 3, 0), (17, .newarray .int, 2, 0), (19, .putfield 13, 3, 2), (22, .aload_n 0, 1, 0), (23, .sipush 128, 3, 0), (26, .newarray .int, 2, 0), (28, .putfield 16, 3, 3), (31, .aload_n 0, 1, 0), (32, .sipush 128, 3, 0), (35, .newarray .boolean, 2, 0), (37, .putfield 19, 3, 4), (40, .aload_n 0, 1, 0), (41, .sipush 128, 3, 0), (44, .newarray .boolean, 2, 0), (46, .putfield 23, 3, 5), (49, .aload_n 0, 1, 0), (50, .sipush 1024, 3, 0), (53, .newarray .int, 2, 0), (55, .putfield 26, 3, 6), (58, .aload_n 0, 1, 0), (59, .bipush 32, 2, 0), (61, .newarray .int, 2, 0), (63, .putfield 29, 3, 7), (66, .aload_n 0, 1, 0), (67, .bipush 32, 2, 0), (69, .newarray .boolean, 2, 0), (71, .putfield 32, 3, 8), (74, .aload_n 0, 1, 0), (75, .bipush 32, 2, 0), (77, .newarray .int, 2, 0), (79, .putfield 35, 3, 9), (82, .aload_n 0, 1, 0), (83, .bipush 32, 2, 0), (85, .newarray .int, 2, 0), (87, .putfield 38, 3, 10), (90, .aload_n 0, 1, 0), (91, .bipush 32, 2, 0), (93, .newarray .int, 2, 0), (95, .putfield 41, 3, 11), (98, .iload_n 1, 1, 0), (99, .istore_n 2, 1, 0), (100, .iload_n 2, 1, 0), (101, .iconst 2, 1, 0), (102, .if_icmp .ge 5, 3, 0), (105, .iconst 2, 1, 0), (106, .istore_n 2, 1, 0), (107, .iload_n 2, 1, 0), (108, .bipush 32, 2, 0), (110, .if_icmp .le 6, 3, 0), (113, .bipush 32, 2, 0), (115, .istore_n 2, 1, 0), (116, .aload_n 0, 1, 0), (117, .iload_n 2, 1, 0), (118, .putfield 44, 3, 0), (121, .aload_n 0, 1, 0), (122, .iconst 0, 1, 0), (123, .putfield 48, 3, 12), (126, .aload_n 0, 1, 0), (127, .iconst 0, 1, 0), (128, .putfield 51, 3, 13), (131, .aload_n 0, 1, 0), (132, .lconst 0, 1, 0), (133, .putfield 54, 3, 14), (136, .aload_n 0, 1, 0), (137, .iconst (-1), 1, 0), (138, .putfield 58, 3, 15), (141, .aload_n 0, 1, 0), (142, .iconst (-1), 1, 0), (143, .putfield 61, 3, 16), (146, .iconst 0, 1, 0), (147, .istore_n 3, 1, 0), (148, .iload_n 3, 1, 0), (149, .bipush 32, 2, 0), (151, .if_icmp .ge 16, 3, 0), (154, .aload_n 0, 1, 0), (155, .getfield 29, 3, 7), (158, .iload_n 3, 1, 0), (159, .iconst 0, 1, 0), (160, .iastore, 1, 0), (161, .iinc 3 1, 3, 0), (164, .goto (-16), 3, 0), (167, .aload_n 0, 1, 0), (168, .invokevirtual 64, 3, 29), (171, .return_, 1, 0)]
def r2 : List Row := [(0, .aload_n 0, 1, 0), (1, .iload_n 1, 1, 0), (2, .invokevirtual 67, 3, 39), (5, .ifCond .eq 11, 3, 0), (8, .aload_n 0, 1, 0), (9, .iload_n 2, 1, 0), (10, .invokevirtual 67, 3, 39), (13, .ifCond .ne 6, 3, 0), (16, .bipush (-2), 2, 0), (18, .ireturn, 1, 0), (19, .iload_n 1, 1, 0), (20, .iload_n 2, 1, 0), (21, .if_icmp .ne 6, 3, 0), (24, .bipush (-3), 2, 0), (26, .ireturn, 1, 0), (27, .aload_n 0, 1, 0), (28, .invokevirtual 71, 3, 22), (31, .istore 4, 2, 0), (33, .iload 4, 2, 0), (35, .iconst (-1), 1, 0), (36, .if_icmp .ne 6, 3, 0), (39, .bipush (-4), 2, 0), (41, .ireturn, 1, 0), (42, .aload_n 0, 1, 0), (43, .iload_n 3, 1, 0), (44, .invokevirtual 75, 3, 41), (47, .istore 5, 2, 0), (49, .aload_n 0, 1, 0), (50, .iload 4, 2, 0), (52, .iload_n 1, 1, 0), (53, .iload_n 2, 1, 0), (54, .iload 5, 2, 0), (56, .invokevirtual 79, 3, 23), (59, .aload_n 0, 1, 0), (60, .iload 4, 2, 0), (62, .invokevirtual 83, 3, 18), (65, .iload 4, 2, 0), (67, .ireturn, 1, 0)]
def r3 : List Row := [(0, .aload_n 0, 1, 0), (1, .iload_n 1, 1, 0), (2, .invokevirtual 87, 3, 5), (5, .ifCond .ne 5, 3, 0), (8, .iconst 0, 1, 0), (9, .ireturn, 1, 0), (10, .aload_n 0, 1, 0), (11, .getfield 23, 3, 5), (14, .iload_n 1, 1, 0), (15, .baload, 1, 0), (16, .ifCond .ne 16, 3, 0), (19, .aload_n 0, 1, 0), (20, .iload_n 1, 1, 0), (21, .invokevirtual 90, 3, 24), (24, .aload_n 0, 1, 0), (25, .iconst (-1), 1, 0), (26, .iconst (-1), 1, 0), (27, .invokevirtual 93, 3, 21), (30, .iconst 1, 1, 0), (31, .ireturn, 1, 0), (32, .aload_n 0, 1, 0), (33, .iload_n 1, 1, 0), (34, .invokevirtual 97, 3, 19), (37, .iconst 1, 1, 0), (38, .ireturn, 1, 0)]
def r5 : List Row := [(0, .aload_n 0, 1, 0), (1, .iload_n 1, 1, 0), (2, .invokevirtual 103, 3, 40), (5, .ifCond .eq 16, 3, 0), (8, .aload_n 0, 1, 0), (9, .getfield 19, 3, 4), (12, .iload_n 1, 1, 0), (13, .baload, 1, 0), (14, .ifCond .eq 7, 3, 0), (17, .iconst 1, 1, 0), (18, .goto 4, 3, 0), (21, .iconst 0, 1, 0), (22, .ireturn, 1, 0)]
def r6 : List Row := [(0, .aload_n 0, 1, 0), (1, .iload_n 1, 1, 0), (2, .invokevirtual 103, 3, 40), (5, .ifCond .eq 25, 3, 0), (8, .aload_n 0, 1, 0), (9, .getfield 19, 3, 4), (12, .iload_n 1, 1, 0), (13, .baload, 1, 0), (14, .ifCond .eq 16, 3, 0), (17, .aload_n 0, 1, 0), (18, .getfield 23, 3, 5), (21, .iload_n 1, 1, 0), (22, .baload, 1, 0), (23, .ifCond .eq 7, 3, 0), (26, .iconst 1, 1, 0), (27, .goto 4, 3, 0), (30, .iconst 0, 1, 0), (31, .ireturn, 1, 0)]
def r10 : List Row := [(0, .aload_n 0, 1, 0), (1, .getfield 54, 3, 14), (4, .lreturn, 1, 0)]
def r12 : List Row := [(0, .aload_n 0, 1, 0), (1, .getfield 44, 3, 0), (4, .aload_n 0, 1, 0), (5, .getfield 51, 3, 13), (8, .isub, 1, 0), (9, .ireturn, 1, 0)]
def r14 : List Row := [(0, .aload_n 0, 1, 0), (1, .iload_n 1, 1, 0), (2, .invokevirtual 67, 3, 39), (5, .ifCond .eq 11, 3, 0), (8, .aload_n 0, 1, 0), (9, .iload_n 2, 1, 0), (10, .invokevirtual 67, 3, 39), (13, .ifCond .ne 5, 3, 0), (16, .iconst (-1), 1, 0), (17, .ireturn, 1, 0), (18, .iload_n 1, 1, 0), (19, .iload_n 2, 1, 0), (20, .if_icmp .ne 5, 3, 0), (23, .iconst (-1), 1, 0), (24, .ireturn, 1, 0), (25, .aload_n 0, 1, 0), (26, .iload_n 1, 1, 0), (27, .iconst (-1), 1, 0), (28, .invokevirtual 106, 3, 30), (31, .pop, 1, 0), (32, .aload_n 0, 1, 0), (33, .getfield 32, 3, 8), (36, .iload_n 2, 1, 0), (37, .baload, 1, 0), (38, .ifCond .ne 5, 3, 0), (41, .iconst (-1), 1, 0), (42, .ireturn, 1, 0), (43, .aload_n 0, 1, 0), (44, .iload_n 2, 1, 0), (45, .invokevirtual 110, 3, 32), (48, .ireturn, 1, 0)]
def r15 : List Row := [(0, .aload_n 0, 1, 0), (1, .iload_n 1, 1, 0), (2, .invokevirtual 113, 3, 6), (5, .ifCond .ne 5, 3, 0), (8, .iconst (-1), 1, 0), (9, .ireturn, 1, 0), (10, .aload_n 0, 1, 0), (11, .aload_n 0, 1, 0), (12, .getfield 7, 3, 1), (15, .iload_n 1, 1, 0), (16, .iaload, 1, 0), (17, .iload_n 1, 1, 0), (18, .invokevirtual 106, 3, 30), (21, .pop, 1, 0), (22, .aload_n 0, 1, 0), (23, .invokevirtual 116, 3, 33), (26, .ireturn, 1, 0)]
def r16 : List Row := [(0, .aload_n 0, 1, 0), (1, .getfield 58, 3, 15), (4, .ireturn, 1, 0)]
def r17 : List Row := [(0, .aload_n 0, 1, 0), (1, .getfield 61, 3, 16), (4, .ireturn, 1, 0)]
def r18 : List Row := [(0, .aload_n 0, 1, 0), (1, .aload_n 0, 1, 0), (2, .getfield 7, 3, 1), (5, .iload_n 1, 1, 0), (6, .iaload, 1, 0), (7, .iconst (-1), 1, 0), (8, .invokevirtual 106, 3, 30), (11, .pop, 1, 0), (12, .aload_n 0, 1, 0), (13, .getfield 13, 3, 2), (16, .iload_n 1, 1, 0), (17, .iaload, 1, 0), (18, .istore_n 2, 1, 0), (19, .aload_n 0, 1, 0), (20, .iload_n 2, 1, 0), (21, .invokevirtual 67, 3, 39), (24, .ifCond .eq 12, 3, 0), (27, .aload_n 0, 1, 0), (28, .getfield 32, 3, 8), (31, .iload_n 2, 1, 0), (32, .baload, 1, 0), (33, .ifCond .ne 15, 3, 0), (36, .aload_n 0, 1, 0), (37, .iload_n 1, 1, 0), (38, .invokevirtual 119, 3, 25), (41, .aload_n 0, 1, 0), (42, .iload_n 1, 1, 0), (43, .iconst (-1), 1, 0), (44, .invokevirtual 93, 3, 21), (47, .return_, 1, 0), (48, .aload_n 0, 1, 0), (49, .iload_n 2, 1, 0), (50, .invokevirtual 110, 3, 32), (53, .istore_n 3, 1, 0), (54, .iload_n 3, 1, 0), (55, .iconst (-1), 1, 0), (56, .if_icmp .eq 29, 3, 0), (59, .aload_n 0, 1, 0), (60, .iload_n 1, 1, 0), (61, .iload_n 3, 1, 0), (62, .invokevirtual 122, 3, 36), (65, .ifCond .eq 20, 3, 0), (68, .aload_n 0, 1, 0), (69, .iload_n 3, 1, 0), (70, .invokevirtual 126, 3, 26), (73, .aload_n 0, 1, 0), (74, .iload_n 1, 1, 0), (75, .invokevirtual 119, 3, 25), (78, .aload_n 0, 1, 0), (79, .iload_n 1, 1, 0), (80, .iload_n 3, 1, 0), (81, .invokevirtual 93, 3, 21), (84, .return_, 1, 0), (85, .aload_n 0, 1, 0), (86, .iconst (-1), 1, 0), (87, .iconst (-1), 1, 0), (88, .invokevirtual 93, 3, 21), (91, .return_, 1, 0)]
def r19 : List Row := [(0, .aload_n 0, 1, 0), (1, .iload_n 1, 1, 0), (2, .invokevirtual 126, 3, 26), (5, .aload_n 0, 1, 0), (6, .iload_n 1, 1, 0), (7, .invokevirtual 90, 3, 24), (10, .aload_n 0, 1, 0), (11, .aload_n 0, 1, 0), (12, .getfield 7, 3, 1), (15, .iload_n 1, 1, 0), (16, .iaload, 1, 0), (17, .iconst (-1), 1, 0), (18, .invokevirtual 106, 3, 30), (21, .pop, 1, 0), (22, .aload_n 0, 1, 0), (23, .invokevirtual 116, 3, 33), (26, .istore_n 2, 1, 0), (27, .iload_n 2, 1, 0), (28, .iconst (-1), 1, 0), (29, .if_icmp .eq 8, 3, 0), (32, .aload_n 0, 1, 0), (33, .iload_n 2, 1, 0), (34, .invokevirtual 119, 3, 25), (37, .aload_n 0, 1, 0), (38, .iload_n 2, 1, 0), (39, .iload_n 1, 1, 0), (40, .invokevirtual 93, 3, 21), (43, .return_, 1, 0)]
def r21 : List Row := [(0, .aload_n 0, 1, 0), (1, .iload_n 1, 1, 0), (2, .putfield 58, 3, 15), (5, .aload_n 0, 1, 0), (6, .iload_n 2, 1, 0), (7, .putfield 61, 3, 16), (10, .return_, 1, 0)]
def r22 : List Row := [(0, .iconst 0, 1, 0), (1, .istore_n 1, 1, 0), (2, .iload_n 1, 1, 0), (3, .sipush 128, 3, 0), (6, .if_icmp .ge 20, 3, 0), (9, .aload_n 0, 1, 0), (10, .getfield 19, 3, 4), (13, .iload_n 1, 1, 0), (14, .baload, 1, 0), (15, .ifCond .ne 5, 3, 0), (18, .iload_n 1, 1, 0), (19, .ireturn, 1, 0), (20, .iinc 1 1, 3, 0), (23, .goto (-21), 3, 0), (26, .iconst (-1), 1, 0), (27, .ireturn, 1, 0)]
def r23 : List Row := [(0, .aload_n 0, 1, 0), (1, .getfield 7, 3, 1), (4, .iload_n 1, 1, 0), (5, .iload_n 2, 1, 0), (6, .iastore, 1, 0), (7, .aload_n 0, 1, 0), (8, .getfield 13, 3, 2), (11, .iload_n 1, 1, 0), (12, .iload_n 3, 1, 0), (13, .iastore, 1, 0), (14, .aload_n 0, 1, 0), (15, .getfield 16, 3, 3), (18, .iload_n 1, 1, 0), (19, .iload 4, 2, 0), (21, .iastore, 1, 0), (22, .aload_n 0, 1, 0), (23, .getfield 19, 3, 4), (26, .iload_n 1, 1, 0), (27, .iconst 1, 1, 0), (28, .bastore, 1, 0), (29, .aload_n 0, 1, 0), (30, .getfield 23, 3, 5), (33, .iload_n 1, 1, 0), (34, .iconst 0, 1, 0), (35, .bastore, 1, 0), (36, .aload_n 0, 1, 0), (37, .dup, 1, 0), (38, .getfield 48, 3, 12), (41, .iconst 1, 1, 0), (42, .iadd, 1, 0), (43, .putfield 48, 3, 12), (46, .return_, 1, 0)]
def r24 : List Row := [(0, .aload_n 0, 1, 0), (1, .getfield 19, 3, 4), (4, .iload_n 1, 1, 0), (5, .iconst 0, 1, 0), (6, .bastore, 1, 0), (7, .aload_n 0, 1, 0), (8, .getfield 23, 3, 5), (11, .iload_n 1, 1, 0), (12, .iconst 0, 1, 0), (13, .bastore, 1, 0), (14, .aload_n 0, 1, 0), (15, .dup, 1, 0), (16, .getfield 48, 3, 12), (19, .iconst 1, 1, 0), (20, .isub, 1, 0), (21, .putfield 48, 3, 12), (24, .return_, 1, 0)]
def r25 : List Row := [(0, .aload_n 0, 1, 0), (1, .iload_n 1, 1, 0), (2, .invokevirtual 103, 3, 40), (5, .ifCond .eq 12, 3, 0), (8, .aload_n 0, 1, 0), (9, .getfield 23, 3, 5), (12, .iload_n 1, 1, 0), (13, .baload, 1, 0), (14, .ifCond .eq 4, 3, 0), (17, .return_, 1, 0), (18, .aload_n 0, 1, 0), (19, .getfield 23, 3, 5), (22, .iload_n 1, 1, 0), (23, .iconst 1, 1, 0), (24, .bastore, 1, 0), (25, .aload_n 0, 1, 0), (26, .dup, 1, 0), (27, .getfield 51, 3, 13), (30, .iconst 1, 1, 0), (31, .iadd, 1, 0), (32, .putfield 51, 3, 13), (35, .aload_n 0, 1, 0), (36, .dup, 1, 0), (37, .getfield 54, 3, 14), (40, .aload_n 0, 1, 0), (41, .getfield 16, 3, 3), (44, .iload_n 1, 1, 0), (45, .iaload, 1, 0), (46, .i2l, 1, 0), (47, .ladd, 1, 0), (48, .putfield 54, 3, 14), (51, .aload_n 0, 1, 0), (52, .aload_n 0, 1, 0), (53, .getfield 7, 3, 1), (56, .iload_n 1, 1, 0), (57, .iaload, 1, 0), (58, .iload_n 1, 1, 0), (59, .invokevirtual 129, 3, 27), (62, .aload_n 0, 1, 0), (63, .aload_n 0, 1, 0), (64, .getfield 13, 3, 2), (67, .iload_n 1, 1, 0), (68, .iaload, 1, 0), (69, .iload_n 1, 1, 0), (70, .invokevirtual 129, 3, 27), (73, .return_, 1, 0)]
def r26 : List Row := [(0, .aload_n 0, 1, 0), (1, .iload_n 1, 1, 0), (2, .invokevirtual 103, 3, 40), (5, .ifCond .eq 12, 3, 0), (8, .aload_n 0, 1, 0), (9, .getfield 23, 3, 5), (12, .iload_n 1, 1, 0), (13, .baload, 1, 0), (14, .ifCond .ne 4, 3, 0), (17, .return_, 1, 0), (18, .aload_n 0, 1, 0), (19, .getfield 23, 3, 5), (22, .iload_n 1, 1, 0), (23, .iconst 0, 1, 0), (24, .bastore, 1, 0), (25, .aload_n 0, 1, 0), (26, .dup, 1, 0), (27, .getfield 51, 3, 13), (30, .iconst 1, 1, 0), (31, .isub, 1, 0), (32, .putfield 51, 3, 13), (35, .aload_n 0, 1, 0), (36, .dup, 1, 0), (37, .getfield 54, 3, 14), (40, .aload_n 0, 1, 0), (41, .getfield 16, 3, 3), (44, .iload_n 1, 1, 0), (45, .iaload, 1, 0), (46, .i2l, 1, 0), (47, .lsub, 1, 0), (48, .putfield 54, 3, 14), (51, .aload_n 0, 1, 0), (52, .aload_n 0, 1, 0), (53, .getfield 7, 3, 1), (56, .iload_n 1, 1, 0), (57, .iaload, 1, 0), (58, .iload_n 1, 1, 0), (59, .invokevirtual 132, 3, 28), (62, .aload_n 0, 1, 0), (63, .aload_n 0, 1, 0), (64, .getfield 13, 3, 2), (67, .iload_n 1, 1, 0), (68, .iaload, 1, 0), (69, .iload_n 1, 1, 0), (70, .invokevirtual 132, 3, 28), (73, .return_, 1, 0)]
def r27 : List Row := [(0, .iload_n 1, 1, 0), (1, .ifCond .lt 9, 3, 0), (4, .iload_n 1, 1, 0), (5, .bipush 32, 2, 0), (7, .if_icmp .lt 4, 3, 0), (10, .return_, 1, 0), (11, .aload_n 0, 1, 0), (12, .getfield 29, 3, 7), (15, .iload_n 1, 1, 0), (16, .iaload, 1, 0), (17, .ifCond .lt 14, 3, 0), (20, .aload_n 0, 1, 0), (21, .getfield 29, 3, 7), (24, .iload_n 1, 1, 0), (25, .iaload, 1, 0), (26, .bipush 32, 2, 0), (28, .if_icmp .lt 4, 3, 0), (31, .return_, 1, 0), (32, .aload_n 0, 1, 0), (33, .getfield 26, 3, 6), (36, .iload_n 1, 1, 0), (37, .bipush 32, 2, 0), (39, .imul, 1, 0), (40, .aload_n 0, 1, 0), (41, .getfield 29, 3, 7), (44, .iload_n 1, 1, 0), (45, .iaload, 1, 0), (46, .iadd, 1, 0), (47, .iload_n 2, 1, 0), (48, .iastore, 1, 0), (49, .aload_n 0, 1, 0), (50, .getfield 29, 3, 7), (53, .iload_n 1, 1, 0), (54, .dup2, 1, 0), (55, .iaload, 1, 0), (56, .iconst 1, 1, 0), (57, .iadd, 1, 0), (58, .iastore, 1, 0), (59, .return_, 1, 0)]
def r28 : List Row := [(0, .iload_n 1, 1, 0), (1, .ifCond .lt 9, 3, 0), (4, .iload_n 1, 1, 0), (5, .bipush 32, 2, 0), (7, .if_icmp .lt 4, 3, 0), (10, .return_, 1, 0), (11, .iload_n 1, 1, 0), (12, .bipush 32, 2, 0), (14, .imul, 1, 0), (15, .istore_n 3, 1, 0), (16, .iconst 0, 1, 0), (17, .istore 4, 2, 0), (19, .iload 4, 2, 0), (21, .aload_n 0, 1, 0), (22, .getfield 29, 3, 7), (25, .iload_n 1, 1, 0), (26, .iaload, 1, 0), (27, .if_icmp .ge 62, 3, 0), (30, .iload 4, 2, 0), (32, .bipush 32, 2, 0), (34, .if_icmp .ge 55, 3, 0), (37, .aload_n 0, 1, 0), (38, .getfield 26, 3, 6), (41, .iload_n 3, 1, 0), (42, .iload 4, 2, 0), (44, .iadd, 1, 0), (45, .iaload, 1, 0), (46, .iload_n 2, 1, 0), (47, .if_icmp .ne 36, 3, 0), (50, .aload_n 0, 1, 0), (51, .getfield 29, 3, 7), (54, .iload_n 1, 1, 0), (55, .dup2, 1, 0), (56, .iaload, 1, 0), (57, .iconst 1, 1, 0), (58, .isub, 1, 0), (59, .iastore, 1, 0), (60, .aload_n 0, 1, 0), (61, .getfield 26, 3, 6), (64, .iload_n 3, 1, 0), (65, .iload 4, 2, 0), (67, .iadd, 1, 0), (68, .aload_n 0, 1, 0), (69, .getfield 26, 3, 6), (72, .iload_n 3, 1, 0), (73, .aload_n 0, 1, 0), (74, .getfield 29, 3, 7), (77, .iload_n 1, 1, 0), (78, .iaload, 1, 0), (79, .iadd, 1, 0), (80, .iaload, 1, 0), (81, .iastore, 1, 0), (82, .return_, 1, 0), (83, .iinc 4 1, 3, 0), (86, .goto (-67), 3, 0), (89, .return_, 1, 0)]
def r29 : List Row := [(0, .iconst 0, 1, 0), (1, .istore_n 1, 1, 0), (2, .iload_n 1, 1, 0), (3, .bipush 32, 2, 0), (5, .if_icmp .ge 37, 3, 0), (8, .aload_n 0, 1, 0), (9, .getfield 32, 3, 8), (12, .iload_n 1, 1, 0), (13, .iconst 0, 1, 0), (14, .bastore, 1, 0), (15, .aload_n 0, 1, 0), (16, .getfield 35, 3, 9), (19, .iload_n 1, 1, 0), (20, .iconst (-1), 1, 0), (21, .iastore, 1, 0), (22, .aload_n 0, 1, 0), (23, .getfield 38, 3, 10), (26, .iload_n 1, 1, 0), (27, .iconst (-1), 1, 0), (28, .iastore, 1, 0), (29, .aload_n 0, 1, 0), (30, .getfield 41, 3, 11), (33, .iload_n 1, 1, 0), (34, .iconst 0, 1, 0), (35, .iastore, 1, 0), (36, .iinc 1 1, 3, 0), (39, .goto (-37), 3, 0), (42, .return_, 1, 0)]
def r30 : List Row := [(0, .aload_n 0, 1, 0), (1, .invokevirtual 64, 3, 29), (4, .aload_n 0, 1, 0), (5, .iload_n 1, 1, 0), (6, .invokevirtual 67, 3, 39), (9, .ifCond .ne 5, 3, 0), (12, .iconst 0, 1, 0), (13, .ireturn, 1, 0), (14, .aload_n 0, 1, 0), (15, .getfield 32, 3, 8), (18, .iload_n 1, 1, 0), (19, .iconst 1, 1, 0), (20, .bastore, 1, 0), (21, .aload_n 0, 1, 0), (22, .getfield 41, 3, 11), (25, .iconst 0, 1, 0), (26, .iload_n 1, 1, 0), (27, .iastore, 1, 0), (28, .iconst 1, 1, 0), (29, .istore_n 3, 1, 0), (30, .iconst 0, 1, 0), (31, .istore 4, 2, 0), (33, .iload 4, 2, 0), (35, .iload_n 3, 1, 0), (36, .if_icmp .ge 30, 3, 0), (39, .iload 4, 2, 0), (41, .bipush 32, 2, 0), (43, .if_icmp .ge 23, 3, 0), (46, .aload_n 0, 1, 0), (47, .aload_n 0, 1, 0), (48, .getfield 41, 3, 11), (51, .iload 4, 2, 0), (53, .iaload, 1, 0), (54, .iload_n 2, 1, 0), (55, .iload_n 3, 1, 0), (56, .invokevirtual 135, 3, 31), (59, .istore_n 3, 1, 0), (60, .iinc 4 1, 3, 0), (63, .goto (-30), 3, 0), (66, .iload_n 3, 1, 0), (67, .ireturn, 1, 0)]
def r31 : List Row := [(0, .iload_n 3, 1, 0), (1, .istore 4, 2, 0), (3, .iload_n 1, 1, 0), (4, .ifCond .lt 9, 3, 0), (7, .iload_n 1, 1, 0), (8, .bipush 32, 2, 0), (10, .if_icmp .lt 6, 3, 0), (13, .iload 4, 2, 0), (15, .ireturn, 1, 0), (16, .iload_n 1, 1, 0), (17, .bipush 32, 2, 0), (19, .imul, 1, 0), (20, .istore 5, 2, 0), (22, .iconst 0, 1, 0), (23, .istore 6, 2, 0), (25, .iload 6, 2, 0), (27, .aload_n 0, 1, 0), (28, .getfield 29, 3, 7), (31, .iload_n 1, 1, 0), (32, .iaload, 1, 0), (33, .if_icmp .ge 124, 3, 0), (36, .iload 6, 2, 0), (38, .bipush 32, 2, 0), (40, .if_icmp .ge 117, 3, 0), (43, .aload_n 0, 1, 0), (44, .getfield 26, 3, 6), (47, .iload 5, 2, 0), (49, .iload 6, 2, 0), (51, .iadd, 1, 0), (52, .iaload, 1, 0), (53, .istore 7, 2, 0), (55, .iload 7, 2, 0), (57, .iload_n 2, 1, 0), (58, .if_icmp .eq 93, 3, 0), (61, .aload_n 0, 1, 0), (62, .iload 7, 2, 0), (64, .invokevirtual 103, 3, 40), (67, .ifCond .ne 6, 3, 0), (70, .goto 81, 3, 0), (73, .aload_n 0, 1, 0), (74, .iload 7, 2, 0), (76, .iload_n 1, 1, 0), (77, .invokevirtual 139, 3, 35), (80, .istore 8, 2, 0), (82, .iload 8, 2, 0), (84, .ifCond .lt 67, 3, 0), (87, .iload 8, 2, 0), (89, .bipush 32, 2, 0), (91, .if_icmp .ge 60, 3, 0), (94, .aload_n 0, 1, 0), (95, .getfield 32, 3, 8), (98, .iload 8, 2, 0), (100, .baload, 1, 0), (101, .ifCond .ne 50, 3, 0), (104, .iload 4, 2, 0), (106, .bipush 32, 2, 0), (108, .if_icmp .lt 6, 3, 0), (111, .goto 40, 3, 0), (114, .aload_n 0, 1, 0), (115, .getfield 32, 3, 8), (118, .iload 8, 2, 0), (120, .iconst 1, 1, 0), (121, .bastore, 1, 0), (122, .aload_n 0, 1, 0), (123, .getfield 35, 3, 9), (126, .iload 8, 2, 0), (128, .iload 7, 2, 0), (130, .iastore, 1, 0), (131, .aload_n 0, 1, 0), (132, .getfield 38, 3, 10), (135, .iload 8, 2, 0), (137, .iload_n 1, 1, 0), (138, .iastore, 1, 0), (139, .aload_n 0, 1, 0), (140, .getfield 41, 3, 11), (143, .iload 4, 2, 0), (145, .iload 8, 2, 0), (147, .iastore, 1, 0), (148, .iinc 4 1, 3, 0), (151, .iinc 6 1, 3, 0), (154, .goto (-129), 3, 0), (157, .iload 4, 2, 0), (159, .ireturn, 1, 0)]
def r32 : List Row := [(0, .iconst (-1), 1, 0), (1, .istore_n 2, 1, 0), (2, .iload_n 1, 1, 0), (3, .istore_n 3, 1, 0), (4, .iconst 0, 1, 0), (5, .istore 4, 2, 0), (7, .iload 4, 2, 0), (9, .bipush 32, 2, 0), (11, .if_icmp .ge 54, 3, 0), (14, .iload_n 3, 1, 0), (15, .ifCond .lt 50, 3, 0), (18, .iload_n 3, 1, 0), (19, .bipush 32, 2, 0), (21, .if_icmp .lt 6, 3, 0), (24, .goto 41, 3, 0), (27, .aload_n 0, 1, 0), (28, .getfield 35, 3, 9), (31, .iload_n 3, 1, 0), (32, .iaload, 1, 0), (33, .istore 5, 2, 0), (35, .iload 5, 2, 0), (37, .iconst (-1), 1, 0), (38, .if_icmp .ne 6, 3, 0), (41, .goto 24, 3, 0), (44, .aload_n 0, 1, 0), (45, .iload_n 2, 1, 0), (46, .iload 5, 2, 0), (48, .invokevirtual 142, 3, 38), (51, .istore_n 2, 1, 0), (52, .aload_n 0, 1, 0), (53, .getfield 38, 3, 10), (56, .iload_n 3, 1, 0), (57, .iaload, 1, 0), (58, .istore_n 3, 1, 0), (59, .iinc 4 1, 3, 0), (62, .goto (-55), 3, 0), (65, .iload_n 2, 1, 0), (66, .ireturn, 1, 0)]
def r33 : List Row := [(0, .iconst (-1), 1, 0), (1, .istore_n 1, 1, 0), (2, .iconst 0, 1, 0), (3, .istore_n 2, 1, 0), (4, .iload_n 2, 1, 0), (5, .sipush 128, 3, 0), (8, .if_icmp .ge 42, 3, 0), (11, .aload_n 0, 1, 0), (12, .getfield 19, 3, 4), (15, .iload_n 2, 1, 0), (16, .baload, 1, 0), (17, .ifCond .eq 27, 3, 0), (20, .aload_n 0, 1, 0), (21, .getfield 23, 3, 5), (24, .iload_n 2, 1, 0), (25, .baload, 1, 0), (26, .ifCond .ne 18, 3, 0), (29, .aload_n 0, 1, 0), (30, .iload_n 2, 1, 0), (31, .invokevirtual 145, 3, 34), (34, .ifCond .eq 10, 3, 0), (37, .aload_n 0, 1, 0), (38, .iload_n 1, 1, 0), (39, .iload_n 2, 1, 0), (40, .invokevirtual 148, 3, 37), (43, .istore_n 1, 1, 0), (44, .iinc 2 1, 3, 0), (47, .goto (-43), 3, 0), (50, .iload_n 1, 1, 0), (51, .ireturn, 1, 0)]
def r34 : List Row := [(0, .aload_n 0, 1, 0), (1, .getfield 7, 3, 1), (4, .iload_n 1, 1, 0), (5, .iaload, 1, 0), (6, .istore_n 2, 1, 0), (7, .aload_n 0, 1, 0), (8, .getfield 13, 3, 2), (11, .iload_n 1, 1, 0), (12, .iaload, 1, 0), (13, .istore_n 3, 1, 0), (14, .iload_n 2, 1, 0), (15, .ifCond .lt 19, 3, 0), (18, .iload_n 2, 1, 0), (19, .bipush 32, 2, 0), (21, .if_icmp .ge 13, 3, 0), (24, .iload_n 3, 1, 0), (25, .ifCond .lt 9, 3, 0), (28, .iload_n 3, 1, 0), (29, .bipush 32, 2, 0), (31, .if_icmp .lt 5, 3, 0), (34, .iconst 0, 1, 0), (35, .ireturn, 1, 0), (36, .aload_n 0, 1, 0), (37, .getfield 32, 3, 8), (40, .iload_n 2, 1, 0), (41, .baload, 1, 0), (42, .aload_n 0, 1, 0), (43, .getfield 32, 3, 8), (46, .iload_n 3, 1, 0), (47, .baload, 1, 0), (48, .if_icmp .eq 7, 3, 0), (51, .iconst 1, 1, 0), (52, .goto 4, 3, 0), (55, .iconst 0, 1, 0), (56, .ireturn, 1, 0)]
def r35 : List Row := [(0, .aload_n 0, 1, 0), (1, .getfield 7, 3, 1), (4, .iload_n 1, 1, 0), (5, .iaload, 1, 0), (6, .iload_n 2, 1, 0), (7, .if_icmp .ne 10, 3, 0), (10, .aload_n 0, 1, 0), (11, .getfield 13, 3, 2), (14, .iload_n 1, 1, 0), (15, .iaload, 1, 0), (16, .ireturn, 1, 0), (17, .aload_n 0, 1, 0), (18, .getfield 13, 3, 2), (21, .iload_n 1, 1, 0), (22, .iaload, 1, 0), (23, .iload_n 2, 1, 0), (24, .if_icmp .ne 10, 3, 0), (27, .aload_n 0, 1, 0), (28, .getfield 7, 3, 1), (31, .iload_n 1, 1, 0), (32, .iaload, 1, 0), (33, .ireturn, 1, 0), (34, .iconst (-1), 1, 0), (35, .ireturn, 1, 0)]
def r36 : List Row := [(0, .aload_n 0, 1, 0), (1, .getfield 16, 3, 3), (4, .iload_n 1, 1, 0), (5, .iaload, 1, 0), (6, .aload_n 0, 1, 0), (7, .getfield 16, 3, 3), (10, .iload_n 2, 1, 0), (11, .iaload, 1, 0), (12, .if_icmp .eq 24, 3, 0), (15, .aload_n 0, 1, 0), (16, .getfield 16, 3, 3), (19, .iload_n 1, 1, 0), (20, .iaload, 1, 0), (21, .aload_n 0, 1, 0), (22, .getfield 16, 3, 3), (25, .iload_n 2, 1, 0), (26, .iaload, 1, 0), (27, .if_icmp .ge 7, 3, 0), (30, .iconst 1, 1, 0), (31, .goto 4, 3, 0), (34, .iconst 0, 1, 0), (35, .ireturn, 1, 0), (36, .iload_n 1, 1, 0), (37, .iload_n 2, 1, 0), (38, .if_icmp .ge 7, 3, 0), (41, .iconst 1, 1, 0), (42, .goto 4, 3, 0), (45, .iconst 0, 1, 0), (46, .ireturn, 1, 0)]
def r37 : List Row := [(0, .iload_n 1, 1, 0), (1, .iconst (-1), 1, 0), (2, .if_icmp .ne 5, 3, 0), (5, .iload_n 2, 1, 0), (6, .ireturn, 1, 0), (7, .iload_n 2, 1, 0), (8, .iconst (-1), 1, 0), (9, .if_icmp .ne 5, 3, 0), (12, .iload_n 1, 1, 0), (13, .ireturn, 1, 0), (14, .aload_n 0, 1, 0), (15, .iload_n 1, 1, 0), (16, .iload_n 2, 1, 0), (17, .invokevirtual 122, 3, 36), (20, .ifCond .eq 5, 3, 0), (23, .iload_n 1, 1, 0), (24, .ireturn, 1, 0), (25, .iload_n 2, 1, 0), (26, .ireturn, 1, 0)]
def r38 : List Row := [(0, .iload_n 1, 1, 0), (1, .iconst (-1), 1, 0), (2, .if_icmp .ne 5, 3, 0), (5, .iload_n 2, 1, 0), (6, .ireturn, 1, 0), (7, .iload_n 2, 1, 0), (8, .iconst (-1), 1, 0), (9, .if_icmp .ne 5, 3, 0), (12, .iload_n 1, 1, 0), (13, .ireturn, 1, 0), (14, .aload_n 0, 1, 0), (15, .iload_n 1, 1, 0), (16, .iload_n 2, 1, 0), (17, .invokevirtual 122, 3, 36), (20, .ifCond .eq 5, 3, 0), (23, .iload_n 2, 1, 0), (24, .ireturn, 1, 0), (25, .iload_n 1, 1, 0), (26, .ireturn, 1, 0)]
def r39 : List Row := [(0, .iload_n 1, 1, 0), (1, .ifCond .lt 21, 3, 0), (4, .iload_n 1, 1, 0), (5, .aload_n 0, 1, 0), (6, .getfield 44, 3, 0), (9, .if_icmp .ge 13, 3, 0), (12, .iload_n 1, 1, 0), (13, .bipush 32, 2, 0), (15, .if_icmp .ge 7, 3, 0), (18, .iconst 1, 1, 0), (19, .goto 4, 3, 0), (22, .iconst 0, 1, 0), (23, .ireturn, 1, 0)]
def r40 : List Row := [(0, .iload_n 1, 1, 0), (1, .ifCond .lt 14, 3, 0), (4, .iload_n 1, 1, 0), (5, .sipush 128, 3, 0), (8, .if_icmp .ge 7, 3, 0), (11, .iconst 1, 1, 0), (12, .goto 4, 3, 0), (15, .iconst 0, 1, 0), (16, .ireturn, 1, 0)]
def r41 : List Row := [(0, .iload_n 1, 1, 0), (1, .ldc 151, 2, (-1000000)), (3, .if_icmp .ge 6, 3, 0), (6, .ldc 151, 2, (-1000000)), (8, .ireturn, 1, 0), (9, .iload_n 1, 1, 0), (10, .ldc 152, 2, 1000000), (12, .if_icmp .le 6, 3, 0), (15, .ldc 152, 2, 1000000), (17, .ireturn, 1, 0), (18, .iload_n 1, 1, 0), (19, .ireturn, 1, 0)]
def prows : List (List Row) := [[], r1, r2, r3, [], r5, r6, [], [], [], r10, [], r12, [], r14, r15, r16, r17, r18, r19, [], r21, r22, r23, r24, r25, r26, r27, r28, r29, r30, r31, r32, r33, r34, r35, r36, r37, r38, r39, r40, r41]
def pinfo : List MInfo := [(0, 0, 9, none, {}), (2, 4, 3, none, { frames := 1, cells := 11, slots := 1824, locals := 13 }), (4, 6, 1, some .int, { frames := 4, cells := 0, slots := 0, locals := 65 }), (2, 2, 1, some .boolean, { frames := 4, cells := 0, slots := 0, locals := 64 }), (3, 4, 1, some .boolean, { frames := 4, cells := 0, slots := 0, locals := 65 }), (2, 2, 1, some .boolean, { frames := 1, cells := 0, slots := 0, locals := 13 }), (2, 2, 1, some .boolean, { frames := 1, cells := 0, slots := 0, locals := 13 }), (3, 3, 1, some .int, { frames := 2, cells := 0, slots := 0, locals := 26 }), (2, 2, 1, some .int, { frames := 2, cells := 0, slots := 0, locals := 26 }), (1, 1, 1, some .int, { frames := 0, cells := 0, slots := 0, locals := 0 }), (1, 1, 1, some .long, { frames := 0, cells := 0, slots := 0, locals := 0 }), (1, 1, 1, some .int, { frames := 0, cells := 0, slots := 0, locals := 0 }), (1, 1, 1, some .int, { frames := 0, cells := 0, slots := 0, locals := 0 }), (2, 3, 1, some .int, { frames := 3, cells := 0, slots := 0, locals := 50 }), (3, 3, 1, some .int, { frames := 3, cells := 0, slots := 0, locals := 50 }), (2, 2, 1, some .int, { frames := 3, cells := 0, slots := 0, locals := 50 }), (1, 1, 1, some .int, { frames := 0, cells := 0, slots := 0, locals := 0 }), (1, 1, 1, some .int, { frames := 0, cells := 0, slots := 0, locals := 0 }), (2, 4, 2, none, { frames := 3, cells := 0, slots := 0, locals := 50 }), (2, 3, 2, none, { frames := 3, cells := 0, slots := 0, locals := 50 }), (3, 4, 2, none, { frames := 3, cells := 0, slots := 0, locals := 50 }), (3, 3, 2, none, { frames := 0, cells := 0, slots := 0, locals := 0 }), (1, 2, 2, some .int, { frames := 0, cells := 0, slots := 0, locals := 0 }), (5, 5, 2, none, { frames := 0, cells := 0, slots := 0, locals := 0 }), (2, 2, 2, none, { frames := 0, cells := 0, slots := 0, locals := 0 }), (2, 2, 2, none, { frames := 1, cells := 0, slots := 0, locals := 14 }), (2, 2, 2, none, { frames := 1, cells := 0, slots := 0, locals := 16 }), (3, 3, 2, none, { frames := 0, cells := 0, slots := 0, locals := 0 }), (3, 5, 2, none, { frames := 0, cells := 0, slots := 0, locals := 0 }), (1, 2, 2, none, { frames := 0, cells := 0, slots := 0, locals := 0 }), (3, 5, 2, some .int, { frames := 2, cells := 0, slots := 0, locals := 34 }), (4, 9, 2, some .int, { frames := 1, cells := 0, slots := 0, locals := 14 }), (2, 6, 2, some .int, { frames := 2, cells := 0, slots := 0, locals := 28 }), (1, 3, 2, some .int, { frames := 2, cells := 0, slots := 0, locals := 28 }), (2, 4, 2, some .boolean, { frames := 0, cells := 0, slots := 0, locals := 0 }), (3, 3, 2, some .int, { frames := 0, cells := 0, slots := 0, locals := 0 }), (3, 3, 2, some .boolean, { frames := 0, cells := 0, slots := 0, locals := 0 }), (3, 3, 2, some .int, { frames := 1, cells := 0, slots := 0, locals := 14 }), (3, 3, 2, some .int, { frames := 1, cells := 0, slots := 0, locals := 14 }), (2, 2, 2, some .boolean, { frames := 0, cells := 0, slots := 0, locals := 0 }), (2, 2, 2, some .boolean, { frames := 0, cells := 0, slots := 0, locals := 0 }), (2, 2, 2, some .int, { frames := 0, cells := 0, slots := 0, locals := 0 })]
def pft : List FieldType := [.int, .array .int, .array .int, .array .int, .array .boolean, .array .boolean, .array .int, .array .int, .array .boolean, .array .int, .array .int, .array .int, .int, .int, .long, .int, .int]
def pj (lw : LW) : Prog := (fun m pc => if m < 100 then (prows.getD m []).lookup pc else lw.1 (m - 100) pc, fun m => if m < 100 then pinfo.getD m (0, 0, 9, none, {}) else lw.2 (m - 100), fun k => pft.getD k .int, 17)
def lay : Lay := ([(.int, 0), (.array .int, 1), (.array .int, 2), (.array .int, 3), (.array .boolean, 4), (.array .boolean, 5), (.array .int, 6), (.array .int, 7), (.array .boolean, 8), (.array .int, 9), (.array .int, 10), (.array .int, 11), (.int, 0), (.int, 0), (.long, 0), (.int, 0), (.int, 0)], [(.int, 128), (.int, 128), (.int, 128), (.boolean, 128), (.boolean, 128), (.int, 1024), (.int, 32), (.boolean, 32), (.int, 32), (.int, 32), (.int, 32)])
abbrev ob (H : AH) (p : Nat) (s : St) : AH := put lay 11 H p s
section Acc
variable {H : AH} {p : Nat} {s : St} {i : Int32} {j q : Nat} {v : Int32} {w : Int64}
theorem g0 : fld (put lay j H p s) p 0 = .int (sI s 0) := fld_I (ty := .int) rfl (by decide) (by simp)
theorem s0 : wr (put lay j H p s) p 0 (.int v) = put lay j H p (uI s 0 v) := wr_I (ty := .int) rfl (by decide) (by simp)
theorem g1 : fld (ob H p s) p 1 = .ref (p + 1) := fld_R (ty := .int) rfl (by decide)
theorem g2 : fld (ob H p s) p 2 = .ref (p + 2) := fld_R (ty := .int) rfl (by decide)
theorem g3 : fld (ob H p s) p 3 = .ref (p + 3) := fld_R (ty := .int) rfl (by decide)
theorem g4 : fld (ob H p s) p 4 = .ref (p + 4) := fld_R (ty := .boolean) rfl (by decide)
theorem g5 : fld (ob H p s) p 5 = .ref (p + 5) := fld_R (ty := .boolean) rfl (by decide)
theorem g6 : fld (ob H p s) p 6 = .ref (p + 6) := fld_R (ty := .int) rfl (by decide)
theorem g7 : fld (ob H p s) p 7 = .ref (p + 7) := fld_R (ty := .int) rfl (by decide)
theorem g8 : fld (ob H p s) p 8 = .ref (p + 8) := fld_R (ty := .boolean) rfl (by decide)
theorem g9 : fld (ob H p s) p 9 = .ref (p + 9) := fld_R (ty := .int) rfl (by decide)
theorem g10 : fld (ob H p s) p 10 = .ref (p + 10) := fld_R (ty := .int) rfl (by decide)
theorem g11 : fld (ob H p s) p 11 = .ref (p + 11) := fld_R (ty := .int) rfl (by decide)
theorem g12 : fld (put lay j H p s) p 12 = .int (sI s 12) := fld_I (ty := .int) rfl (by decide) (by simp)
theorem s12 : wr (put lay j H p s) p 12 (.int v) = put lay j H p (uI s 12 v) := wr_I (ty := .int) rfl (by decide) (by simp)
theorem g13 : fld (put lay j H p s) p 13 = .int (sI s 13) := fld_I (ty := .int) rfl (by decide) (by simp)
theorem s13 : wr (put lay j H p s) p 13 (.int v) = put lay j H p (uI s 13 v) := wr_I (ty := .int) rfl (by decide) (by simp)
theorem g14 : fld (put lay j H p s) p 14 = .long (sJ s 14) := fld_J rfl
theorem s14 : wr (put lay j H p s) p 14 (.long w) = put lay j H p (uJ s 14 w) := wr_J rfl
theorem g15 : fld (put lay j H p s) p 15 = .int (sI s 15) := fld_I (ty := .int) rfl (by decide) (by simp)
theorem s15 : wr (put lay j H p s) p 15 (.int v) = put lay j H p (uI s 15 v) := wr_I (ty := .int) rfl (by decide) (by simp)
theorem g16 : fld (put lay j H p s) p 16 = .int (sI s 16) := fld_I (ty := .int) rfl (by decide) (by simp)
theorem s16 : wr (put lay j H p s) p 16 (.int v) = put lay j H p (uI s 16 v) := wr_I (ty := .int) rfl (by decide) (by simp)
theorem ai1 : inA (ob H p s) (p + 1) .int i = true ↔ (0 ≤ i.toInt ∧ i.toInt < 128) := inA_I (t := 0) rfl (by decide) (by decide)
theorem aw1 : inAw (ob H p s) (p + 1) .int i = true ↔ (0 ≤ i.toInt ∧ i.toInt < 128) := inAw_I (t := 0) rfl (by decide) (by decide)
theorem ae1 : elt (ob H p s) (p + 1) i = .int (sA s 1 i.toNatClampNeg) := elt_I (t := 0) (ty := .int) rfl (by decide) (by decide)
theorem as1 : wr (ob H p s) (p + 1) q (.int v) = ob H p (uA s 1 q v) := wr_A (t := 0) (ty := .int) rfl (by decide) (by decide)
theorem ai2 : inA (ob H p s) (p + 2) .int i = true ↔ (0 ≤ i.toInt ∧ i.toInt < 128) := inA_I (t := 1) rfl (by decide) (by decide)
theorem aw2 : inAw (ob H p s) (p + 2) .int i = true ↔ (0 ≤ i.toInt ∧ i.toInt < 128) := inAw_I (t := 1) rfl (by decide) (by decide)
theorem ae2 : elt (ob H p s) (p + 2) i = .int (sA s 2 i.toNatClampNeg) := elt_I (t := 1) (ty := .int) rfl (by decide) (by decide)
theorem as2 : wr (ob H p s) (p + 2) q (.int v) = ob H p (uA s 2 q v) := wr_A (t := 1) (ty := .int) rfl (by decide) (by decide)
theorem ai3 : inA (ob H p s) (p + 3) .int i = true ↔ (0 ≤ i.toInt ∧ i.toInt < 128) := inA_I (t := 2) rfl (by decide) (by decide)
theorem aw3 : inAw (ob H p s) (p + 3) .int i = true ↔ (0 ≤ i.toInt ∧ i.toInt < 128) := inAw_I (t := 2) rfl (by decide) (by decide)
theorem ae3 : elt (ob H p s) (p + 3) i = .int (sA s 3 i.toNatClampNeg) := elt_I (t := 2) (ty := .int) rfl (by decide) (by decide)
theorem as3 : wr (ob H p s) (p + 3) q (.int v) = ob H p (uA s 3 q v) := wr_A (t := 2) (ty := .int) rfl (by decide) (by decide)
theorem ai4 : inA (ob H p s) (p + 4) .boolean i = true ↔ (0 ≤ i.toInt ∧ i.toInt < 128) := inA_I (t := 3) rfl (by decide) (by decide)
theorem aw4 : inAw (ob H p s) (p + 4) .boolean i = true ↔ (0 ≤ i.toInt ∧ i.toInt < 128) := inAw_I (t := 3) rfl (by decide) (by decide)
theorem ain4 : inA (ob H p s) (p + 4) .byte i = true ↔ False := inA_no (t := 3) (ty := .boolean) rfl (by decide) (by decide) (by decide)
theorem awn4 : inAw (ob H p s) (p + 4) .byte i = true ↔ False := inAw_no (t := 3) (ty := .boolean) rfl (by decide) (by decide) (by decide)
theorem ae4 : elt (ob H p s) (p + 4) i = .int (sA s 4 i.toNatClampNeg) := elt_I (t := 3) (ty := .boolean) rfl (by decide) (by decide)
theorem as4 : wr (ob H p s) (p + 4) q (.int v) = ob H p (uA s 4 q v) := wr_A (t := 3) (ty := .boolean) rfl (by decide) (by decide)
theorem ai5 : inA (ob H p s) (p + 5) .boolean i = true ↔ (0 ≤ i.toInt ∧ i.toInt < 128) := inA_I (t := 4) rfl (by decide) (by decide)
theorem aw5 : inAw (ob H p s) (p + 5) .boolean i = true ↔ (0 ≤ i.toInt ∧ i.toInt < 128) := inAw_I (t := 4) rfl (by decide) (by decide)
theorem ain5 : inA (ob H p s) (p + 5) .byte i = true ↔ False := inA_no (t := 4) (ty := .boolean) rfl (by decide) (by decide) (by decide)
theorem awn5 : inAw (ob H p s) (p + 5) .byte i = true ↔ False := inAw_no (t := 4) (ty := .boolean) rfl (by decide) (by decide) (by decide)
theorem ae5 : elt (ob H p s) (p + 5) i = .int (sA s 5 i.toNatClampNeg) := elt_I (t := 4) (ty := .boolean) rfl (by decide) (by decide)
theorem as5 : wr (ob H p s) (p + 5) q (.int v) = ob H p (uA s 5 q v) := wr_A (t := 4) (ty := .boolean) rfl (by decide) (by decide)
theorem ai6 : inA (ob H p s) (p + 6) .int i = true ↔ (0 ≤ i.toInt ∧ i.toInt < 1024) := inA_I (t := 5) rfl (by decide) (by decide)
theorem aw6 : inAw (ob H p s) (p + 6) .int i = true ↔ (0 ≤ i.toInt ∧ i.toInt < 1024) := inAw_I (t := 5) rfl (by decide) (by decide)
theorem ae6 : elt (ob H p s) (p + 6) i = .int (sA s 6 i.toNatClampNeg) := elt_I (t := 5) (ty := .int) rfl (by decide) (by decide)
theorem as6 : wr (ob H p s) (p + 6) q (.int v) = ob H p (uA s 6 q v) := wr_A (t := 5) (ty := .int) rfl (by decide) (by decide)
theorem ai7 : inA (ob H p s) (p + 7) .int i = true ↔ (0 ≤ i.toInt ∧ i.toInt < 32) := inA_I (t := 6) rfl (by decide) (by decide)
theorem aw7 : inAw (ob H p s) (p + 7) .int i = true ↔ (0 ≤ i.toInt ∧ i.toInt < 32) := inAw_I (t := 6) rfl (by decide) (by decide)
theorem ae7 : elt (ob H p s) (p + 7) i = .int (sA s 7 i.toNatClampNeg) := elt_I (t := 6) (ty := .int) rfl (by decide) (by decide)
theorem as7 : wr (ob H p s) (p + 7) q (.int v) = ob H p (uA s 7 q v) := wr_A (t := 6) (ty := .int) rfl (by decide) (by decide)
theorem ai8 : inA (ob H p s) (p + 8) .boolean i = true ↔ (0 ≤ i.toInt ∧ i.toInt < 32) := inA_I (t := 7) rfl (by decide) (by decide)
theorem aw8 : inAw (ob H p s) (p + 8) .boolean i = true ↔ (0 ≤ i.toInt ∧ i.toInt < 32) := inAw_I (t := 7) rfl (by decide) (by decide)
theorem ain8 : inA (ob H p s) (p + 8) .byte i = true ↔ False := inA_no (t := 7) (ty := .boolean) rfl (by decide) (by decide) (by decide)
theorem awn8 : inAw (ob H p s) (p + 8) .byte i = true ↔ False := inAw_no (t := 7) (ty := .boolean) rfl (by decide) (by decide) (by decide)
theorem ae8 : elt (ob H p s) (p + 8) i = .int (sA s 8 i.toNatClampNeg) := elt_I (t := 7) (ty := .boolean) rfl (by decide) (by decide)
theorem as8 : wr (ob H p s) (p + 8) q (.int v) = ob H p (uA s 8 q v) := wr_A (t := 7) (ty := .boolean) rfl (by decide) (by decide)
theorem ai9 : inA (ob H p s) (p + 9) .int i = true ↔ (0 ≤ i.toInt ∧ i.toInt < 32) := inA_I (t := 8) rfl (by decide) (by decide)
theorem aw9 : inAw (ob H p s) (p + 9) .int i = true ↔ (0 ≤ i.toInt ∧ i.toInt < 32) := inAw_I (t := 8) rfl (by decide) (by decide)
theorem ae9 : elt (ob H p s) (p + 9) i = .int (sA s 9 i.toNatClampNeg) := elt_I (t := 8) (ty := .int) rfl (by decide) (by decide)
theorem as9 : wr (ob H p s) (p + 9) q (.int v) = ob H p (uA s 9 q v) := wr_A (t := 8) (ty := .int) rfl (by decide) (by decide)
theorem ai10 : inA (ob H p s) (p + 10) .int i = true ↔ (0 ≤ i.toInt ∧ i.toInt < 32) := inA_I (t := 9) rfl (by decide) (by decide)
theorem aw10 : inAw (ob H p s) (p + 10) .int i = true ↔ (0 ≤ i.toInt ∧ i.toInt < 32) := inAw_I (t := 9) rfl (by decide) (by decide)
theorem ae10 : elt (ob H p s) (p + 10) i = .int (sA s 10 i.toNatClampNeg) := elt_I (t := 9) (ty := .int) rfl (by decide) (by decide)
theorem as10 : wr (ob H p s) (p + 10) q (.int v) = ob H p (uA s 10 q v) := wr_A (t := 9) (ty := .int) rfl (by decide) (by decide)
theorem ai11 : inA (ob H p s) (p + 11) .int i = true ↔ (0 ≤ i.toInt ∧ i.toInt < 32) := inA_I (t := 10) rfl (by decide) (by decide)
theorem aw11 : inAw (ob H p s) (p + 11) .int i = true ↔ (0 ≤ i.toInt ∧ i.toInt < 32) := inAw_I (t := 10) rfl (by decide) (by decide)
theorem ae11 : elt (ob H p s) (p + 11) i = .int (sA s 11 i.toNatClampNeg) := elt_I (t := 10) (ty := .int) rfl (by decide) (by decide)
theorem as11 : wr (ob H p s) (p + 11) q (.int v) = ob H p (uA s 11 q v) := wr_A (t := 10) (ty := .int) rfl (by decide) (by decide)
theorem mkO_ob {lw : LW} : mkO (pj lw) H = put lay 0 (H.1 + 1, H.2) H.1 z0 := mkO_put rfl (fun k => match k with | 0 => rfl | 1 => rfl | 2 => rfl | 3 => rfl | 4 => rfl | 5 => rfl | 6 => rfl | 7 => rfl | 8 => rfl | 9 => rfl | 10 => rfl | 11 => rfl | 12 => rfl | 13 => rfl | 14 => rfl | 15 => rfl | 16 => rfl | (_ + 17) => rfl)
theorem mk1 {h : Nat → Cel} (hz : zr s 1) : wr (mkA .int 128 (put lay 0 (p + 1, h) p s)) p 1 (.ref (p + 1)) = put lay 1 (p + 2, h) p s := mkA_put (j := 0) rfl rfl (by decide) hz.1 hz.2 (Or.inl rfl)
theorem io1 {h : Nat → Cel} : isOw (mkA .int 128 (put lay 0 (p + 1, h) p s)) p = true := isOw_mk (c := 0)
theorem mk2 {h : Nat → Cel} (hz : zr s 2) : wr (mkA .int 128 (put lay 1 (p + 2, h) p s)) p 2 (.ref (p + 2)) = put lay 2 (p + 3, h) p s := mkA_put (j := 1) rfl rfl (by decide) hz.1 hz.2 (Or.inl rfl)
theorem io2 {h : Nat → Cel} : isOw (mkA .int 128 (put lay 1 (p + 2, h) p s)) p = true := isOw_mk (c := 1)
theorem mk3 {h : Nat → Cel} (hz : zr s 3) : wr (mkA .int 128 (put lay 2 (p + 3, h) p s)) p 3 (.ref (p + 3)) = put lay 3 (p + 4, h) p s := mkA_put (j := 2) rfl rfl (by decide) hz.1 hz.2 (Or.inl rfl)
theorem io3 {h : Nat → Cel} : isOw (mkA .int 128 (put lay 2 (p + 3, h) p s)) p = true := isOw_mk (c := 2)
theorem mk4 {h : Nat → Cel} (hz : zr s 4) : wr (mkA .boolean 128 (put lay 3 (p + 4, h) p s)) p 4 (.ref (p + 4)) = put lay 4 (p + 5, h) p s := mkA_put (j := 3) rfl rfl (by decide) hz.1 hz.2 (Or.inr (Or.inr (Or.inr rfl)))
theorem io4 {h : Nat → Cel} : isOw (mkA .boolean 128 (put lay 3 (p + 4, h) p s)) p = true := isOw_mk (c := 3)
theorem mk5 {h : Nat → Cel} (hz : zr s 5) : wr (mkA .boolean 128 (put lay 4 (p + 5, h) p s)) p 5 (.ref (p + 5)) = put lay 5 (p + 6, h) p s := mkA_put (j := 4) rfl rfl (by decide) hz.1 hz.2 (Or.inr (Or.inr (Or.inr rfl)))
theorem io5 {h : Nat → Cel} : isOw (mkA .boolean 128 (put lay 4 (p + 5, h) p s)) p = true := isOw_mk (c := 4)
theorem mk6 {h : Nat → Cel} (hz : zr s 6) : wr (mkA .int 1024 (put lay 5 (p + 6, h) p s)) p 6 (.ref (p + 6)) = put lay 6 (p + 7, h) p s := mkA_put (j := 5) rfl rfl (by decide) hz.1 hz.2 (Or.inl rfl)
theorem io6 {h : Nat → Cel} : isOw (mkA .int 1024 (put lay 5 (p + 6, h) p s)) p = true := isOw_mk (c := 5)
theorem mk7 {h : Nat → Cel} (hz : zr s 7) : wr (mkA .int 32 (put lay 6 (p + 7, h) p s)) p 7 (.ref (p + 7)) = put lay 7 (p + 8, h) p s := mkA_put (j := 6) rfl rfl (by decide) hz.1 hz.2 (Or.inl rfl)
theorem io7 {h : Nat → Cel} : isOw (mkA .int 32 (put lay 6 (p + 7, h) p s)) p = true := isOw_mk (c := 6)
theorem mk8 {h : Nat → Cel} (hz : zr s 8) : wr (mkA .boolean 32 (put lay 7 (p + 8, h) p s)) p 8 (.ref (p + 8)) = put lay 8 (p + 9, h) p s := mkA_put (j := 7) rfl rfl (by decide) hz.1 hz.2 (Or.inr (Or.inr (Or.inr rfl)))
theorem io8 {h : Nat → Cel} : isOw (mkA .boolean 32 (put lay 7 (p + 8, h) p s)) p = true := isOw_mk (c := 7)
theorem mk9 {h : Nat → Cel} (hz : zr s 9) : wr (mkA .int 32 (put lay 8 (p + 9, h) p s)) p 9 (.ref (p + 9)) = put lay 9 (p + 10, h) p s := mkA_put (j := 8) rfl rfl (by decide) hz.1 hz.2 (Or.inl rfl)
theorem io9 {h : Nat → Cel} : isOw (mkA .int 32 (put lay 8 (p + 9, h) p s)) p = true := isOw_mk (c := 8)
theorem mk10 {h : Nat → Cel} (hz : zr s 10) : wr (mkA .int 32 (put lay 9 (p + 10, h) p s)) p 10 (.ref (p + 10)) = put lay 10 (p + 11, h) p s := mkA_put (j := 9) rfl rfl (by decide) hz.1 hz.2 (Or.inl rfl)
theorem io10 {h : Nat → Cel} : isOw (mkA .int 32 (put lay 9 (p + 10, h) p s)) p = true := isOw_mk (c := 9)
theorem mk11 {h : Nat → Cel} (hz : zr s 11) : wr (mkA .int 32 (put lay 10 (p + 11, h) p s)) p 11 (.ref (p + 11)) = put lay 11 (p + 12, h) p s := mkA_put (j := 10) rfl rfl (by decide) hz.1 hz.2 (Or.inl rfl)
theorem io11 {h : Nat → Cel} : isOw (mkA .int 32 (put lay 10 (p + 11, h) p s)) p = true := isOw_mk (c := 10)
end Acc
section Pc
variable {lw : LW} {L : List Slot} {S : List Value} {k n : Nat} {H : AH} {Q : Option Value → AH → Prop}
theorem c1 {x0 : Nat} {x1 : Int32} : Cl (pj lw) 1 [.ref x0, .int x1] H Q ↔ W (pj lw) 1 0 [.val (.ref x0), .val (.int x1), .unset, .unset] [] 0 0 H Q := cl_unf rfl
theorem w1_0 {x : Nat} : W (pj lw) 1 0 (.val (.ref x) :: L) S k n H Q ↔ W (pj lw) 1 1 (.val (.ref x) :: L) (.ref x :: S) k n H Q := W_s (rfl : (pj lw).1 1 0 = some (.aload_n 0, 1, 0)) rfl rfl rfl
theorem w1_1 {a : Nat} : W (pj lw) 1 1 L (.ref a :: S) k n H Q ↔ ((1 ≤ 1 ∧ cs S + 12 ≤ 13) ∧ W (pj lw) 1 4 L S k n H Q) := W_oinit (rfl : (pj lw).1 1 1 = some (.invokespecial 1, 3, (-1)))
theorem w1_4 {x : Nat} : W (pj lw) 1 4 (.val (.ref x) :: L) S k n H Q ↔ W (pj lw) 1 5 (.val (.ref x) :: L) (.ref x :: S) k n H Q := W_s (rfl : (pj lw).1 1 4 = some (.aload_n 0, 1, 0)) rfl rfl rfl
theorem w1_5 : W (pj lw) 1 5 L S k n H Q ↔ W (pj lw) 1 8 L (.int 128 :: S) k n H Q := W_s (rfl : (pj lw).1 1 5 = some (.sipush 128, 3, 0)) rfl rfl rfl
theorem w1_8 : W (pj lw) 1 8 L (.int 128 :: S) k n H Q ↔ ((k + 1 ≤ 11 ∧ n + 128 ≤ 1824) ∧ W (pj lw) 1 10 L (.ref H.1 :: S) (k + 1) (n + 128) (mkA .int 128 H) Q) := W_newarr' (rfl : (pj lw).1 1 8 = some (.newarray .int, 2, 0)) rfl (by decide) (by decide)
theorem w1_10 {a : Nat} {v : Value} : W (pj lw) 1 10 L (v :: .ref a :: S) k n H Q ↔ ((isOw H a = true ∧ okv (.array .int) v = true) ∧ W (pj lw) 1 13 L S k n (wr H a 1 v) Q) := W_putf (rfl : (pj lw).1 1 10 = some (.putfield 7, 3, 1))
theorem w1_13 {x : Nat} : W (pj lw) 1 13 (.val (.ref x) :: L) S k n H Q ↔ W (pj lw) 1 14 (.val (.ref x) :: L) (.ref x :: S) k n H Q := W_s (rfl : (pj lw).1 1 13 = some (.aload_n 0, 1, 0)) rfl rfl rfl
theorem w1_14 : W (pj lw) 1 14 L S k n H Q ↔ W (pj lw) 1 17 L (.int 128 :: S) k n H Q := W_s (rfl : (pj lw).1 1 14 = some (.sipush 128, 3, 0)) rfl rfl rfl
theorem w1_17 : W (pj lw) 1 17 L (.int 128 :: S) k n H Q ↔ ((k + 1 ≤ 11 ∧ n + 128 ≤ 1824) ∧ W (pj lw) 1 19 L (.ref H.1 :: S) (k + 1) (n + 128) (mkA .int 128 H) Q) := W_newarr' (rfl : (pj lw).1 1 17 = some (.newarray .int, 2, 0)) rfl (by decide) (by decide)
theorem w1_19 {a : Nat} {v : Value} : W (pj lw) 1 19 L (v :: .ref a :: S) k n H Q ↔ ((isOw H a = true ∧ okv (.array .int) v = true) ∧ W (pj lw) 1 22 L S k n (wr H a 2 v) Q) := W_putf (rfl : (pj lw).1 1 19 = some (.putfield 13, 3, 2))
theorem w1_22 {x : Nat} : W (pj lw) 1 22 (.val (.ref x) :: L) S k n H Q ↔ W (pj lw) 1 23 (.val (.ref x) :: L) (.ref x :: S) k n H Q := W_s (rfl : (pj lw).1 1 22 = some (.aload_n 0, 1, 0)) rfl rfl rfl
theorem w1_23 : W (pj lw) 1 23 L S k n H Q ↔ W (pj lw) 1 26 L (.int 128 :: S) k n H Q := W_s (rfl : (pj lw).1 1 23 = some (.sipush 128, 3, 0)) rfl rfl rfl
theorem w1_26 : W (pj lw) 1 26 L (.int 128 :: S) k n H Q ↔ ((k + 1 ≤ 11 ∧ n + 128 ≤ 1824) ∧ W (pj lw) 1 28 L (.ref H.1 :: S) (k + 1) (n + 128) (mkA .int 128 H) Q) := W_newarr' (rfl : (pj lw).1 1 26 = some (.newarray .int, 2, 0)) rfl (by decide) (by decide)
theorem w1_28 {a : Nat} {v : Value} : W (pj lw) 1 28 L (v :: .ref a :: S) k n H Q ↔ ((isOw H a = true ∧ okv (.array .int) v = true) ∧ W (pj lw) 1 31 L S k n (wr H a 3 v) Q) := W_putf (rfl : (pj lw).1 1 28 = some (.putfield 16, 3, 3))
theorem w1_31 {x : Nat} : W (pj lw) 1 31 (.val (.ref x) :: L) S k n H Q ↔ W (pj lw) 1 32 (.val (.ref x) :: L) (.ref x :: S) k n H Q := W_s (rfl : (pj lw).1 1 31 = some (.aload_n 0, 1, 0)) rfl rfl rfl
theorem w1_32 : W (pj lw) 1 32 L S k n H Q ↔ W (pj lw) 1 35 L (.int 128 :: S) k n H Q := W_s (rfl : (pj lw).1 1 32 = some (.sipush 128, 3, 0)) rfl rfl rfl
theorem w1_35 : W (pj lw) 1 35 L (.int 128 :: S) k n H Q ↔ ((k + 1 ≤ 11 ∧ n + 128 ≤ 1824) ∧ W (pj lw) 1 37 L (.ref H.1 :: S) (k + 1) (n + 128) (mkA .boolean 128 H) Q) := W_newarr' (rfl : (pj lw).1 1 35 = some (.newarray .boolean, 2, 0)) rfl (by decide) (by decide)
theorem w1_37 {a : Nat} {v : Value} : W (pj lw) 1 37 L (v :: .ref a :: S) k n H Q ↔ ((isOw H a = true ∧ okv (.array .boolean) v = true) ∧ W (pj lw) 1 40 L S k n (wr H a 4 v) Q) := W_putf (rfl : (pj lw).1 1 37 = some (.putfield 19, 3, 4))
theorem w1_40 {x : Nat} : W (pj lw) 1 40 (.val (.ref x) :: L) S k n H Q ↔ W (pj lw) 1 41 (.val (.ref x) :: L) (.ref x :: S) k n H Q := W_s (rfl : (pj lw).1 1 40 = some (.aload_n 0, 1, 0)) rfl rfl rfl
theorem w1_41 : W (pj lw) 1 41 L S k n H Q ↔ W (pj lw) 1 44 L (.int 128 :: S) k n H Q := W_s (rfl : (pj lw).1 1 41 = some (.sipush 128, 3, 0)) rfl rfl rfl
theorem w1_44 : W (pj lw) 1 44 L (.int 128 :: S) k n H Q ↔ ((k + 1 ≤ 11 ∧ n + 128 ≤ 1824) ∧ W (pj lw) 1 46 L (.ref H.1 :: S) (k + 1) (n + 128) (mkA .boolean 128 H) Q) := W_newarr' (rfl : (pj lw).1 1 44 = some (.newarray .boolean, 2, 0)) rfl (by decide) (by decide)
theorem w1_46 {a : Nat} {v : Value} : W (pj lw) 1 46 L (v :: .ref a :: S) k n H Q ↔ ((isOw H a = true ∧ okv (.array .boolean) v = true) ∧ W (pj lw) 1 49 L S k n (wr H a 5 v) Q) := W_putf (rfl : (pj lw).1 1 46 = some (.putfield 23, 3, 5))
theorem w1_49 {x : Nat} : W (pj lw) 1 49 (.val (.ref x) :: L) S k n H Q ↔ W (pj lw) 1 50 (.val (.ref x) :: L) (.ref x :: S) k n H Q := W_s (rfl : (pj lw).1 1 49 = some (.aload_n 0, 1, 0)) rfl rfl rfl
theorem w1_50 : W (pj lw) 1 50 L S k n H Q ↔ W (pj lw) 1 53 L (.int 1024 :: S) k n H Q := W_s (rfl : (pj lw).1 1 50 = some (.sipush 1024, 3, 0)) rfl rfl rfl
theorem w1_53 : W (pj lw) 1 53 L (.int 1024 :: S) k n H Q ↔ ((k + 1 ≤ 11 ∧ n + 1024 ≤ 1824) ∧ W (pj lw) 1 55 L (.ref H.1 :: S) (k + 1) (n + 1024) (mkA .int 1024 H) Q) := W_newarr' (rfl : (pj lw).1 1 53 = some (.newarray .int, 2, 0)) rfl (by decide) (by decide)
theorem w1_55 {a : Nat} {v : Value} : W (pj lw) 1 55 L (v :: .ref a :: S) k n H Q ↔ ((isOw H a = true ∧ okv (.array .int) v = true) ∧ W (pj lw) 1 58 L S k n (wr H a 6 v) Q) := W_putf (rfl : (pj lw).1 1 55 = some (.putfield 26, 3, 6))
theorem w1_58 {x : Nat} : W (pj lw) 1 58 (.val (.ref x) :: L) S k n H Q ↔ W (pj lw) 1 59 (.val (.ref x) :: L) (.ref x :: S) k n H Q := W_s (rfl : (pj lw).1 1 58 = some (.aload_n 0, 1, 0)) rfl rfl rfl
theorem w1_59 : W (pj lw) 1 59 L S k n H Q ↔ W (pj lw) 1 61 L (.int 32 :: S) k n H Q := W_s (rfl : (pj lw).1 1 59 = some (.bipush 32, 2, 0)) rfl rfl rfl
theorem w1_61 : W (pj lw) 1 61 L (.int 32 :: S) k n H Q ↔ ((k + 1 ≤ 11 ∧ n + 32 ≤ 1824) ∧ W (pj lw) 1 63 L (.ref H.1 :: S) (k + 1) (n + 32) (mkA .int 32 H) Q) := W_newarr' (rfl : (pj lw).1 1 61 = some (.newarray .int, 2, 0)) rfl (by decide) (by decide)
theorem w1_63 {a : Nat} {v : Value} : W (pj lw) 1 63 L (v :: .ref a :: S) k n H Q ↔ ((isOw H a = true ∧ okv (.array .int) v = true) ∧ W (pj lw) 1 66 L S k n (wr H a 7 v) Q) := W_putf (rfl : (pj lw).1 1 63 = some (.putfield 29, 3, 7))
theorem w1_66 {x : Nat} : W (pj lw) 1 66 (.val (.ref x) :: L) S k n H Q ↔ W (pj lw) 1 67 (.val (.ref x) :: L) (.ref x :: S) k n H Q := W_s (rfl : (pj lw).1 1 66 = some (.aload_n 0, 1, 0)) rfl rfl rfl
theorem w1_67 : W (pj lw) 1 67 L S k n H Q ↔ W (pj lw) 1 69 L (.int 32 :: S) k n H Q := W_s (rfl : (pj lw).1 1 67 = some (.bipush 32, 2, 0)) rfl rfl rfl
theorem w1_69 : W (pj lw) 1 69 L (.int 32 :: S) k n H Q ↔ ((k + 1 ≤ 11 ∧ n + 32 ≤ 1824) ∧ W (pj lw) 1 71 L (.ref H.1 :: S) (k + 1) (n + 32) (mkA .boolean 32 H) Q) := W_newarr' (rfl : (pj lw).1 1 69 = some (.newarray .boolean, 2, 0)) rfl (by decide) (by decide)
theorem w1_71 {a : Nat} {v : Value} : W (pj lw) 1 71 L (v :: .ref a :: S) k n H Q ↔ ((isOw H a = true ∧ okv (.array .boolean) v = true) ∧ W (pj lw) 1 74 L S k n (wr H a 8 v) Q) := W_putf (rfl : (pj lw).1 1 71 = some (.putfield 32, 3, 8))
theorem w1_74 {x : Nat} : W (pj lw) 1 74 (.val (.ref x) :: L) S k n H Q ↔ W (pj lw) 1 75 (.val (.ref x) :: L) (.ref x :: S) k n H Q := W_s (rfl : (pj lw).1 1 74 = some (.aload_n 0, 1, 0)) rfl rfl rfl
theorem w1_75 : W (pj lw) 1 75 L S k n H Q ↔ W (pj lw) 1 77 L (.int 32 :: S) k n H Q := W_s (rfl : (pj lw).1 1 75 = some (.bipush 32, 2, 0)) rfl rfl rfl
theorem w1_77 : W (pj lw) 1 77 L (.int 32 :: S) k n H Q ↔ ((k + 1 ≤ 11 ∧ n + 32 ≤ 1824) ∧ W (pj lw) 1 79 L (.ref H.1 :: S) (k + 1) (n + 32) (mkA .int 32 H) Q) := W_newarr' (rfl : (pj lw).1 1 77 = some (.newarray .int, 2, 0)) rfl (by decide) (by decide)
theorem w1_79 {a : Nat} {v : Value} : W (pj lw) 1 79 L (v :: .ref a :: S) k n H Q ↔ ((isOw H a = true ∧ okv (.array .int) v = true) ∧ W (pj lw) 1 82 L S k n (wr H a 9 v) Q) := W_putf (rfl : (pj lw).1 1 79 = some (.putfield 35, 3, 9))
theorem w1_82 {x : Nat} : W (pj lw) 1 82 (.val (.ref x) :: L) S k n H Q ↔ W (pj lw) 1 83 (.val (.ref x) :: L) (.ref x :: S) k n H Q := W_s (rfl : (pj lw).1 1 82 = some (.aload_n 0, 1, 0)) rfl rfl rfl
theorem w1_83 : W (pj lw) 1 83 L S k n H Q ↔ W (pj lw) 1 85 L (.int 32 :: S) k n H Q := W_s (rfl : (pj lw).1 1 83 = some (.bipush 32, 2, 0)) rfl rfl rfl
theorem w1_85 : W (pj lw) 1 85 L (.int 32 :: S) k n H Q ↔ ((k + 1 ≤ 11 ∧ n + 32 ≤ 1824) ∧ W (pj lw) 1 87 L (.ref H.1 :: S) (k + 1) (n + 32) (mkA .int 32 H) Q) := W_newarr' (rfl : (pj lw).1 1 85 = some (.newarray .int, 2, 0)) rfl (by decide) (by decide)
theorem w1_87 {a : Nat} {v : Value} : W (pj lw) 1 87 L (v :: .ref a :: S) k n H Q ↔ ((isOw H a = true ∧ okv (.array .int) v = true) ∧ W (pj lw) 1 90 L S k n (wr H a 10 v) Q) := W_putf (rfl : (pj lw).1 1 87 = some (.putfield 38, 3, 10))
theorem w1_90 {x : Nat} : W (pj lw) 1 90 (.val (.ref x) :: L) S k n H Q ↔ W (pj lw) 1 91 (.val (.ref x) :: L) (.ref x :: S) k n H Q := W_s (rfl : (pj lw).1 1 90 = some (.aload_n 0, 1, 0)) rfl rfl rfl
theorem w1_91 : W (pj lw) 1 91 L S k n H Q ↔ W (pj lw) 1 93 L (.int 32 :: S) k n H Q := W_s (rfl : (pj lw).1 1 91 = some (.bipush 32, 2, 0)) rfl rfl rfl
theorem w1_93 : W (pj lw) 1 93 L (.int 32 :: S) k n H Q ↔ ((k + 1 ≤ 11 ∧ n + 32 ≤ 1824) ∧ W (pj lw) 1 95 L (.ref H.1 :: S) (k + 1) (n + 32) (mkA .int 32 H) Q) := W_newarr' (rfl : (pj lw).1 1 93 = some (.newarray .int, 2, 0)) rfl (by decide) (by decide)
theorem w1_95 {a : Nat} {v : Value} : W (pj lw) 1 95 L (v :: .ref a :: S) k n H Q ↔ ((isOw H a = true ∧ okv (.array .int) v = true) ∧ W (pj lw) 1 98 L S k n (wr H a 11 v) Q) := W_putf (rfl : (pj lw).1 1 95 = some (.putfield 41, 3, 11))
theorem w1_98 {x : Int32} {l0 : Slot} : W (pj lw) 1 98 (l0 :: .val (.int x) :: L) S k n H Q ↔ W (pj lw) 1 99 (l0 :: .val (.int x) :: L) (.int x :: S) k n H Q := W_s (rfl : (pj lw).1 1 98 = some (.iload_n 1, 1, 0)) rfl rfl rfl
theorem w1_99 {x : Int32} {l0 l1 : Slot} : W (pj lw) 1 99 (l0 :: l1 :: .unset :: L) (.int x :: S) k n H Q ↔ W (pj lw) 1 100 (l0 :: l1 :: .val (.int x) :: L) S k n H Q := W_istn (rfl : (pj lw).1 1 99 = some (.istore_n 2, 1, 0)) rfl rfl
theorem w1_100 {x : Int32} {l0 l1 : Slot} : W (pj lw) 1 100 (l0 :: l1 :: .val (.int x) :: L) S k n H Q ↔ W (pj lw) 1 101 (l0 :: l1 :: .val (.int x) :: L) (.int x :: S) k n H Q := W_s (rfl : (pj lw).1 1 100 = some (.iload_n 2, 1, 0)) rfl rfl rfl
theorem w1_101 : W (pj lw) 1 101 L S k n H Q ↔ W (pj lw) 1 102 L (.int 2 :: S) k n H Q := W_s (rfl : (pj lw).1 1 101 = some (.iconst 2, 1, 0)) rfl rfl rfl
theorem w1_102 {x y : Int32} : W (pj lw) 1 102 L (.int y :: .int x :: S) k n H Q ↔ (if x < y then W (pj lw) 1 105 L S k n H Q else W (pj lw) 1 107 L S k n H Q) := W_icmp_ge (rfl : (pj lw).1 1 102 = some (.if_icmp .ge 5, 3, 0)) rfl
theorem w1_105 : W (pj lw) 1 105 L S k n H Q ↔ W (pj lw) 1 106 L (.int 2 :: S) k n H Q := W_s (rfl : (pj lw).1 1 105 = some (.iconst 2, 1, 0)) rfl rfl rfl
theorem w1_106i {y : Int32} {x : Int32} {l0 l1 : Slot} : W (pj lw) 1 106 (l0 :: l1 :: .val (.int y) :: L) (.int x :: S) k n H Q ↔ W (pj lw) 1 107 (l0 :: l1 :: .val (.int x) :: L) S k n H Q := W_istn (rfl : (pj lw).1 1 106 = some (.istore_n 2, 1, 0)) rfl rfl
theorem w1_107 {x : Int32} {l0 l1 : Slot} : W (pj lw) 1 107 (l0 :: l1 :: .val (.int x) :: L) S k n H Q ↔ W (pj lw) 1 108 (l0 :: l1 :: .val (.int x) :: L) (.int x :: S) k n H Q := W_s (rfl : (pj lw).1 1 107 = some (.iload_n 2, 1, 0)) rfl rfl rfl
theorem w1_108 : W (pj lw) 1 108 L S k n H Q ↔ W (pj lw) 1 110 L (.int 32 :: S) k n H Q := W_s (rfl : (pj lw).1 1 108 = some (.bipush 32, 2, 0)) rfl rfl rfl
theorem w1_110 {x y : Int32} : W (pj lw) 1 110 L (.int y :: .int x :: S) k n H Q ↔ (if y < x then W (pj lw) 1 113 L S k n H Q else W (pj lw) 1 116 L S k n H Q) := W_icmp_le (rfl : (pj lw).1 1 110 = some (.if_icmp .le 6, 3, 0)) rfl
theorem w1_113 : W (pj lw) 1 113 L S k n H Q ↔ W (pj lw) 1 115 L (.int 32 :: S) k n H Q := W_s (rfl : (pj lw).1 1 113 = some (.bipush 32, 2, 0)) rfl rfl rfl
theorem w1_115i {y : Int32} {x : Int32} {l0 l1 : Slot} : W (pj lw) 1 115 (l0 :: l1 :: .val (.int y) :: L) (.int x :: S) k n H Q ↔ W (pj lw) 1 116 (l0 :: l1 :: .val (.int x) :: L) S k n H Q := W_istn (rfl : (pj lw).1 1 115 = some (.istore_n 2, 1, 0)) rfl rfl
theorem w1_116 {x : Nat} : W (pj lw) 1 116 (.val (.ref x) :: L) S k n H Q ↔ W (pj lw) 1 117 (.val (.ref x) :: L) (.ref x :: S) k n H Q := W_s (rfl : (pj lw).1 1 116 = some (.aload_n 0, 1, 0)) rfl rfl rfl
theorem w1_117 {x : Int32} {l0 l1 : Slot} : W (pj lw) 1 117 (l0 :: l1 :: .val (.int x) :: L) S k n H Q ↔ W (pj lw) 1 118 (l0 :: l1 :: .val (.int x) :: L) (.int x :: S) k n H Q := W_s (rfl : (pj lw).1 1 117 = some (.iload_n 2, 1, 0)) rfl rfl rfl
theorem w1_118 {a : Nat} {v : Value} : W (pj lw) 1 118 L (v :: .ref a :: S) k n H Q ↔ ((isOw H a = true ∧ okv (.int) v = true) ∧ W (pj lw) 1 121 L S k n (wr H a 0 v) Q) := W_putf (rfl : (pj lw).1 1 118 = some (.putfield 44, 3, 0))
theorem w1_121 {x : Nat} : W (pj lw) 1 121 (.val (.ref x) :: L) S k n H Q ↔ W (pj lw) 1 122 (.val (.ref x) :: L) (.ref x :: S) k n H Q := W_s (rfl : (pj lw).1 1 121 = some (.aload_n 0, 1, 0)) rfl rfl rfl
theorem w1_122 : W (pj lw) 1 122 L S k n H Q ↔ W (pj lw) 1 123 L (.int 0 :: S) k n H Q := W_s (rfl : (pj lw).1 1 122 = some (.iconst 0, 1, 0)) rfl rfl rfl
theorem w1_123 {a : Nat} {v : Value} : W (pj lw) 1 123 L (v :: .ref a :: S) k n H Q ↔ ((isOw H a = true ∧ okv (.int) v = true) ∧ W (pj lw) 1 126 L S k n (wr H a 12 v) Q) := W_putf (rfl : (pj lw).1 1 123 = some (.putfield 48, 3, 12))
theorem w1_126 {x : Nat} : W (pj lw) 1 126 (.val (.ref x) :: L) S k n H Q ↔ W (pj lw) 1 127 (.val (.ref x) :: L) (.ref x :: S) k n H Q := W_s (rfl : (pj lw).1 1 126 = some (.aload_n 0, 1, 0)) rfl rfl rfl
theorem w1_127 : W (pj lw) 1 127 L S k n H Q ↔ W (pj lw) 1 128 L (.int 0 :: S) k n H Q := W_s (rfl : (pj lw).1 1 127 = some (.iconst 0, 1, 0)) rfl rfl rfl
theorem w1_128 {a : Nat} {v : Value} : W (pj lw) 1 128 L (v :: .ref a :: S) k n H Q ↔ ((isOw H a = true ∧ okv (.int) v = true) ∧ W (pj lw) 1 131 L S k n (wr H a 13 v) Q) := W_putf (rfl : (pj lw).1 1 128 = some (.putfield 51, 3, 13))
theorem w1_131 {x : Nat} : W (pj lw) 1 131 (.val (.ref x) :: L) S k n H Q ↔ W (pj lw) 1 132 (.val (.ref x) :: L) (.ref x :: S) k n H Q := W_s (rfl : (pj lw).1 1 131 = some (.aload_n 0, 1, 0)) rfl rfl rfl
theorem w1_132 : W (pj lw) 1 132 L S k n H Q ↔ W (pj lw) 1 133 L (.long 0 :: S) k n H Q := W_s (rfl : (pj lw).1 1 132 = some (.lconst 0, 1, 0)) rfl rfl rfl
theorem w1_133 {a : Nat} {v : Value} : W (pj lw) 1 133 L (v :: .ref a :: S) k n H Q ↔ ((isOw H a = true ∧ okv (.long) v = true) ∧ W (pj lw) 1 136 L S k n (wr H a 14 v) Q) := W_putf (rfl : (pj lw).1 1 133 = some (.putfield 54, 3, 14))
theorem w1_136 {x : Nat} : W (pj lw) 1 136 (.val (.ref x) :: L) S k n H Q ↔ W (pj lw) 1 137 (.val (.ref x) :: L) (.ref x :: S) k n H Q := W_s (rfl : (pj lw).1 1 136 = some (.aload_n 0, 1, 0)) rfl rfl rfl
theorem w1_137 : W (pj lw) 1 137 L S k n H Q ↔ W (pj lw) 1 138 L (.int (-1) :: S) k n H Q := W_s (rfl : (pj lw).1 1 137 = some (.iconst (-1), 1, 0)) rfl rfl rfl
theorem w1_138 {a : Nat} {v : Value} : W (pj lw) 1 138 L (v :: .ref a :: S) k n H Q ↔ ((isOw H a = true ∧ okv (.int) v = true) ∧ W (pj lw) 1 141 L S k n (wr H a 15 v) Q) := W_putf (rfl : (pj lw).1 1 138 = some (.putfield 58, 3, 15))
theorem w1_141 {x : Nat} : W (pj lw) 1 141 (.val (.ref x) :: L) S k n H Q ↔ W (pj lw) 1 142 (.val (.ref x) :: L) (.ref x :: S) k n H Q := W_s (rfl : (pj lw).1 1 141 = some (.aload_n 0, 1, 0)) rfl rfl rfl
theorem w1_142 : W (pj lw) 1 142 L S k n H Q ↔ W (pj lw) 1 143 L (.int (-1) :: S) k n H Q := W_s (rfl : (pj lw).1 1 142 = some (.iconst (-1), 1, 0)) rfl rfl rfl
theorem w1_143 {a : Nat} {v : Value} : W (pj lw) 1 143 L (v :: .ref a :: S) k n H Q ↔ ((isOw H a = true ∧ okv (.int) v = true) ∧ W (pj lw) 1 146 L S k n (wr H a 16 v) Q) := W_putf (rfl : (pj lw).1 1 143 = some (.putfield 61, 3, 16))
theorem w1_146 : W (pj lw) 1 146 L S k n H Q ↔ W (pj lw) 1 147 L (.int 0 :: S) k n H Q := W_s (rfl : (pj lw).1 1 146 = some (.iconst 0, 1, 0)) rfl rfl rfl
theorem w1_147 {x : Int32} {l0 l1 l2 : Slot} : W (pj lw) 1 147 (l0 :: l1 :: l2 :: .unset :: L) (.int x :: S) k n H Q ↔ W (pj lw) 1 148 (l0 :: l1 :: l2 :: .val (.int x) :: L) S k n H Q := W_istn (rfl : (pj lw).1 1 147 = some (.istore_n 3, 1, 0)) rfl rfl
theorem w1_148 {x : Int32} {l0 l1 l2 : Slot} : W (pj lw) 1 148 (l0 :: l1 :: l2 :: .val (.int x) :: L) S k n H Q ↔ W (pj lw) 1 149 (l0 :: l1 :: l2 :: .val (.int x) :: L) (.int x :: S) k n H Q := W_s (rfl : (pj lw).1 1 148 = some (.iload_n 3, 1, 0)) rfl rfl rfl
theorem w1_149 : W (pj lw) 1 149 L S k n H Q ↔ W (pj lw) 1 151 L (.int 32 :: S) k n H Q := W_s (rfl : (pj lw).1 1 149 = some (.bipush 32, 2, 0)) rfl rfl rfl
theorem w1_151 {x y : Int32} : W (pj lw) 1 151 L (.int y :: .int x :: S) k n H Q ↔ (if x < y then W (pj lw) 1 154 L S k n H Q else W (pj lw) 1 167 L S k n H Q) := W_icmp_ge (rfl : (pj lw).1 1 151 = some (.if_icmp .ge 16, 3, 0)) rfl
theorem w1_154 {x : Nat} : W (pj lw) 1 154 (.val (.ref x) :: L) S k n H Q ↔ W (pj lw) 1 155 (.val (.ref x) :: L) (.ref x :: S) k n H Q := W_s (rfl : (pj lw).1 1 154 = some (.aload_n 0, 1, 0)) rfl rfl rfl
theorem w1_155 {a : Nat} : W (pj lw) 1 155 L (.ref a :: S) k n H Q ↔ (isO H a = true ∧ W (pj lw) 1 158 L (fld H a 7 :: S) k n H Q) := W_getf (rfl : (pj lw).1 1 155 = some (.getfield 29, 3, 7))
theorem w1_158 {x : Int32} {l0 l1 l2 : Slot} : W (pj lw) 1 158 (l0 :: l1 :: l2 :: .val (.int x) :: L) S k n H Q ↔ W (pj lw) 1 159 (l0 :: l1 :: l2 :: .val (.int x) :: L) (.int x :: S) k n H Q := W_s (rfl : (pj lw).1 1 158 = some (.iload_n 3, 1, 0)) rfl rfl rfl
theorem w1_159 : W (pj lw) 1 159 L S k n H Q ↔ W (pj lw) 1 160 L (.int 0 :: S) k n H Q := W_s (rfl : (pj lw).1 1 159 = some (.iconst 0, 1, 0)) rfl rfl rfl
theorem w1_160 {x i : Int32} {a : Nat} : W (pj lw) 1 160 L (.int x :: .int i :: .ref a :: S) k n H Q ↔ (inAw H a .int i = true ∧ W (pj lw) 1 161 L S k n (wr H a i.toNatClampNeg (.int x)) Q) := W_iastore (rfl : (pj lw).1 1 160 = some (.iastore, 1, 0))
theorem w1_161 {x : Int32} {l0 l1 l2 : Slot} : W (pj lw) 1 161 (l0 :: l1 :: l2 :: .val (.int x) :: L) S k n H Q ↔ W (pj lw) 1 164 (l0 :: l1 :: l2 :: .val (.int (x + 1)) :: L) S k n H Q := W_s (rfl : (pj lw).1 1 161 = some (.iinc 3 1, 3, 0)) rfl rfl rfl
theorem w1_164 : W (pj lw) 1 164 L S k n H Q ↔ W (pj lw) 1 148 L S k n H Q := W_goto (rfl : (pj lw).1 1 164 = some (.goto (-16), 3, 0)) rfl
theorem w1_167 {x : Nat} : W (pj lw) 1 167 (.val (.ref x) :: L) S k n H Q ↔ W (pj lw) 1 168 (.val (.ref x) :: L) (.ref x :: S) k n H Q := W_s (rfl : (pj lw).1 1 167 = some (.aload_n 0, 1, 0)) rfl rfl rfl
theorem w1_168 {a : Nat} : W (pj lw) 1 168 L (.ref a :: S) k n H Q ↔ ((isO H a = true ∧ cs S + (2 + 11) + 0 ≤ 13) ∧ Cl (pj lw) 29 [.ref a] H (fun v H => W (pj lw) 1 171 L (v.toList ++ S) k n H Q)) := W_inst (as := []) (rfl : (pj lw).1 1 168 = some (.invokevirtual 64, 3, 29)) rfl rfl rfl (Nat.le_of_ble_eq_true rfl) (Nat.le_of_ble_eq_true rfl) ⟨rfl, rfl⟩
theorem w1_171 : W (pj lw) 1 171 L [] k n H Q ↔ Q none H := W_r (rfl : (pj lw).1 1 171 = some (.return_, 1, 0)) rfl
theorem c2 {x0 : Nat} {x1 : Int32} {x2 : Int32} {x3 : Int32} : Cl (pj lw) 2 [.ref x0, .int x1, .int x2, .int x3] H Q ↔ W (pj lw) 2 0 [.val (.ref x0), .val (.int x1), .val (.int x2), .val (.int x3), .unset, .unset] [] 0 0 H Q := cl_unf rfl
theorem w2_0 {x : Nat} : W (pj lw) 2 0 (.val (.ref x) :: L) S k n H Q ↔ W (pj lw) 2 1 (.val (.ref x) :: L) (.ref x :: S) k n H Q := W_s (rfl : (pj lw).1 2 0 = some (.aload_n 0, 1, 0)) rfl rfl rfl
theorem w2_1 {x : Int32} {l0 : Slot} : W (pj lw) 2 1 (l0 :: .val (.int x) :: L) S k n H Q ↔ W (pj lw) 2 2 (l0 :: .val (.int x) :: L) (.int x :: S) k n H Q := W_s (rfl : (pj lw).1 2 1 = some (.iload_n 1, 1, 0)) rfl rfl rfl
theorem w2_2 {a : Nat} {x0 : Int32} : W (pj lw) 2 2 L (.int x0 :: .ref a :: S) k n H Q ↔ ((isO H a = true ∧ cs S + (2 + 11) + 0 ≤ 65) ∧ Cl (pj lw) 39 [.ref a, .int x0] H (fun v H => W (pj lw) 2 5 L (v.toList ++ S) k n H Q)) := W_inst (as := [.int x0]) (rfl : (pj lw).1 2 2 = some (.invokevirtual 67, 3, 39)) rfl rfl rfl (Nat.le_of_ble_eq_true rfl) (Nat.le_of_ble_eq_true rfl) ⟨rfl, rfl⟩
theorem w2_5 {x : Int32} : W (pj lw) 2 5 L (.int x :: S) k n H Q ↔ (if x = 0 then W (pj lw) 2 16 L S k n H Q else W (pj lw) 2 8 L S k n H Q) := W_if_eq (rfl : (pj lw).1 2 5 = some (.ifCond .eq 11, 3, 0)) rfl
theorem w2_8 {x : Nat} : W (pj lw) 2 8 (.val (.ref x) :: L) S k n H Q ↔ W (pj lw) 2 9 (.val (.ref x) :: L) (.ref x :: S) k n H Q := W_s (rfl : (pj lw).1 2 8 = some (.aload_n 0, 1, 0)) rfl rfl rfl
theorem w2_9 {x : Int32} {l0 l1 : Slot} : W (pj lw) 2 9 (l0 :: l1 :: .val (.int x) :: L) S k n H Q ↔ W (pj lw) 2 10 (l0 :: l1 :: .val (.int x) :: L) (.int x :: S) k n H Q := W_s (rfl : (pj lw).1 2 9 = some (.iload_n 2, 1, 0)) rfl rfl rfl
theorem w2_10 {a : Nat} {x0 : Int32} : W (pj lw) 2 10 L (.int x0 :: .ref a :: S) k n H Q ↔ ((isO H a = true ∧ cs S + (2 + 11) + 0 ≤ 65) ∧ Cl (pj lw) 39 [.ref a, .int x0] H (fun v H => W (pj lw) 2 13 L (v.toList ++ S) k n H Q)) := W_inst (as := [.int x0]) (rfl : (pj lw).1 2 10 = some (.invokevirtual 67, 3, 39)) rfl rfl rfl (Nat.le_of_ble_eq_true rfl) (Nat.le_of_ble_eq_true rfl) ⟨rfl, rfl⟩
theorem w2_13 {x : Int32} : W (pj lw) 2 13 L (.int x :: S) k n H Q ↔ (if x = 0 then W (pj lw) 2 16 L S k n H Q else W (pj lw) 2 19 L S k n H Q) := W_if_ne (rfl : (pj lw).1 2 13 = some (.ifCond .ne 6, 3, 0)) rfl
theorem w2_19 {x : Int32} {l0 : Slot} : W (pj lw) 2 19 (l0 :: .val (.int x) :: L) S k n H Q ↔ W (pj lw) 2 20 (l0 :: .val (.int x) :: L) (.int x :: S) k n H Q := W_s (rfl : (pj lw).1 2 19 = some (.iload_n 1, 1, 0)) rfl rfl rfl
theorem w2_20 {x : Int32} {l0 l1 : Slot} : W (pj lw) 2 20 (l0 :: l1 :: .val (.int x) :: L) S k n H Q ↔ W (pj lw) 2 21 (l0 :: l1 :: .val (.int x) :: L) (.int x :: S) k n H Q := W_s (rfl : (pj lw).1 2 20 = some (.iload_n 2, 1, 0)) rfl rfl rfl
theorem w2_21 {x y : Int32} : W (pj lw) 2 21 L (.int y :: .int x :: S) k n H Q ↔ (if x = y then W (pj lw) 2 24 L S k n H Q else W (pj lw) 2 27 L S k n H Q) := W_icmp_ne (rfl : (pj lw).1 2 21 = some (.if_icmp .ne 6, 3, 0)) rfl
theorem w2_27 {x : Nat} : W (pj lw) 2 27 (.val (.ref x) :: L) S k n H Q ↔ W (pj lw) 2 28 (.val (.ref x) :: L) (.ref x :: S) k n H Q := W_s (rfl : (pj lw).1 2 27 = some (.aload_n 0, 1, 0)) rfl rfl rfl
theorem w2_28 {a : Nat} : W (pj lw) 2 28 L (.ref a :: S) k n H Q ↔ ((isO H a = true ∧ cs S + (2 + 11) + 0 ≤ 65) ∧ Cl (pj lw) 22 [.ref a] H (fun v H => W (pj lw) 2 31 L (v.toList ++ S) k n H Q)) := W_inst (as := []) (rfl : (pj lw).1 2 28 = some (.invokevirtual 71, 3, 22)) rfl rfl rfl (Nat.le_of_ble_eq_true rfl) (Nat.le_of_ble_eq_true rfl) ⟨rfl, rfl⟩
theorem w2_31 {x : Int32} {l0 l1 l2 l3 : Slot} : W (pj lw) 2 31 (l0 :: l1 :: l2 :: l3 :: .unset :: L) (.int x :: S) k n H Q ↔ W (pj lw) 2 33 (l0 :: l1 :: l2 :: l3 :: .val (.int x) :: L) S k n H Q := W_ist (rfl : (pj lw).1 2 31 = some (.istore 4, 2, 0)) rfl rfl
theorem w2_33 {x : Int32} {l0 l1 l2 l3 : Slot} : W (pj lw) 2 33 (l0 :: l1 :: l2 :: l3 :: .val (.int x) :: L) S k n H Q ↔ W (pj lw) 2 35 (l0 :: l1 :: l2 :: l3 :: .val (.int x) :: L) (.int x :: S) k n H Q := W_s (rfl : (pj lw).1 2 33 = some (.iload 4, 2, 0)) rfl rfl rfl
theorem w2_35 : W (pj lw) 2 35 L S k n H Q ↔ W (pj lw) 2 36 L (.int (-1) :: S) k n H Q := W_s (rfl : (pj lw).1 2 35 = some (.iconst (-1), 1, 0)) rfl rfl rfl
theorem w2_36 {x y : Int32} : W (pj lw) 2 36 L (.int y :: .int x :: S) k n H Q ↔ (if x = y then W (pj lw) 2 39 L S k n H Q else W (pj lw) 2 42 L S k n H Q) := W_icmp_ne (rfl : (pj lw).1 2 36 = some (.if_icmp .ne 6, 3, 0)) rfl
theorem w2_42 {x : Nat} : W (pj lw) 2 42 (.val (.ref x) :: L) S k n H Q ↔ W (pj lw) 2 43 (.val (.ref x) :: L) (.ref x :: S) k n H Q := W_s (rfl : (pj lw).1 2 42 = some (.aload_n 0, 1, 0)) rfl rfl rfl
theorem w2_43 {x : Int32} {l0 l1 l2 : Slot} : W (pj lw) 2 43 (l0 :: l1 :: l2 :: .val (.int x) :: L) S k n H Q ↔ W (pj lw) 2 44 (l0 :: l1 :: l2 :: .val (.int x) :: L) (.int x :: S) k n H Q := W_s (rfl : (pj lw).1 2 43 = some (.iload_n 3, 1, 0)) rfl rfl rfl
theorem w2_44 {a : Nat} {x0 : Int32} : W (pj lw) 2 44 L (.int x0 :: .ref a :: S) k n H Q ↔ ((isO H a = true ∧ cs S + (2 + 11) + 0 ≤ 65) ∧ Cl (pj lw) 41 [.ref a, .int x0] H (fun v H => W (pj lw) 2 47 L (v.toList ++ S) k n H Q)) := W_inst (as := [.int x0]) (rfl : (pj lw).1 2 44 = some (.invokevirtual 75, 3, 41)) rfl rfl rfl (Nat.le_of_ble_eq_true rfl) (Nat.le_of_ble_eq_true rfl) ⟨rfl, rfl⟩
theorem w2_47 {x : Int32} {l0 l1 l2 l3 l4 : Slot} : W (pj lw) 2 47 (l0 :: l1 :: l2 :: l3 :: l4 :: .unset :: L) (.int x :: S) k n H Q ↔ W (pj lw) 2 49 (l0 :: l1 :: l2 :: l3 :: l4 :: .val (.int x) :: L) S k n H Q := W_ist (rfl : (pj lw).1 2 47 = some (.istore 5, 2, 0)) rfl rfl
theorem w2_49 {x : Nat} : W (pj lw) 2 49 (.val (.ref x) :: L) S k n H Q ↔ W (pj lw) 2 50 (.val (.ref x) :: L) (.ref x :: S) k n H Q := W_s (rfl : (pj lw).1 2 49 = some (.aload_n 0, 1, 0)) rfl rfl rfl
theorem w2_50 {x : Int32} {l0 l1 l2 l3 : Slot} : W (pj lw) 2 50 (l0 :: l1 :: l2 :: l3 :: .val (.int x) :: L) S k n H Q ↔ W (pj lw) 2 52 (l0 :: l1 :: l2 :: l3 :: .val (.int x) :: L) (.int x :: S) k n H Q := W_s (rfl : (pj lw).1 2 50 = some (.iload 4, 2, 0)) rfl rfl rfl
theorem w2_52 {x : Int32} {l0 : Slot} : W (pj lw) 2 52 (l0 :: .val (.int x) :: L) S k n H Q ↔ W (pj lw) 2 53 (l0 :: .val (.int x) :: L) (.int x :: S) k n H Q := W_s (rfl : (pj lw).1 2 52 = some (.iload_n 1, 1, 0)) rfl rfl rfl
theorem w2_53 {x : Int32} {l0 l1 : Slot} : W (pj lw) 2 53 (l0 :: l1 :: .val (.int x) :: L) S k n H Q ↔ W (pj lw) 2 54 (l0 :: l1 :: .val (.int x) :: L) (.int x :: S) k n H Q := W_s (rfl : (pj lw).1 2 53 = some (.iload_n 2, 1, 0)) rfl rfl rfl
theorem w2_54 {x : Int32} {l0 l1 l2 l3 l4 : Slot} : W (pj lw) 2 54 (l0 :: l1 :: l2 :: l3 :: l4 :: .val (.int x) :: L) S k n H Q ↔ W (pj lw) 2 56 (l0 :: l1 :: l2 :: l3 :: l4 :: .val (.int x) :: L) (.int x :: S) k n H Q := W_s (rfl : (pj lw).1 2 54 = some (.iload 5, 2, 0)) rfl rfl rfl
theorem w2_56 {a : Nat} {x0 : Int32} {x1 : Int32} {x2 : Int32} {x3 : Int32} : W (pj lw) 2 56 L (.int x3 :: .int x2 :: .int x1 :: .int x0 :: .ref a :: S) k n H Q ↔ ((isO H a = true ∧ cs S + (5 + 11) + 0 ≤ 65) ∧ Cl (pj lw) 23 [.ref a, .int x0, .int x1, .int x2, .int x3] H (fun v H => W (pj lw) 2 59 L (v.toList ++ S) k n H Q)) := W_inst (as := [.int x0, .int x1, .int x2, .int x3]) (rfl : (pj lw).1 2 56 = some (.invokevirtual 79, 3, 23)) rfl rfl rfl (Nat.le_of_ble_eq_true rfl) (Nat.le_of_ble_eq_true rfl) ⟨rfl, rfl⟩
theorem w2_59 {x : Nat} : W (pj lw) 2 59 (.val (.ref x) :: L) S k n H Q ↔ W (pj lw) 2 60 (.val (.ref x) :: L) (.ref x :: S) k n H Q := W_s (rfl : (pj lw).1 2 59 = some (.aload_n 0, 1, 0)) rfl rfl rfl
theorem w2_60 {x : Int32} {l0 l1 l2 l3 : Slot} : W (pj lw) 2 60 (l0 :: l1 :: l2 :: l3 :: .val (.int x) :: L) S k n H Q ↔ W (pj lw) 2 62 (l0 :: l1 :: l2 :: l3 :: .val (.int x) :: L) (.int x :: S) k n H Q := W_s (rfl : (pj lw).1 2 60 = some (.iload 4, 2, 0)) rfl rfl rfl
theorem w2_62 {a : Nat} {x0 : Int32} : W (pj lw) 2 62 L (.int x0 :: .ref a :: S) k n H Q ↔ ((isO H a = true ∧ cs S + (4 + 11) + 50 ≤ 65) ∧ Cl (pj lw) 18 [.ref a, .int x0] H (fun v H => W (pj lw) 2 65 L (v.toList ++ S) k n H Q)) := W_inst (as := [.int x0]) (rfl : (pj lw).1 2 62 = some (.invokevirtual 83, 3, 18)) rfl rfl rfl (Nat.le_of_ble_eq_true rfl) (Nat.le_of_ble_eq_true rfl) ⟨rfl, rfl⟩
theorem w2_65 {x : Int32} {l0 l1 l2 l3 : Slot} : W (pj lw) 2 65 (l0 :: l1 :: l2 :: l3 :: .val (.int x) :: L) S k n H Q ↔ W (pj lw) 2 67 (l0 :: l1 :: l2 :: l3 :: .val (.int x) :: L) (.int x :: S) k n H Q := W_s (rfl : (pj lw).1 2 65 = some (.iload 4, 2, 0)) rfl rfl rfl
theorem w2_67 {x : Int32} : W (pj lw) 2 67 L (.int x :: S) k n H Q ↔ Q (some (.int x)) H := W_r (rfl : (pj lw).1 2 67 = some (.ireturn, 1, 0)) rfl
theorem c3 {x0 : Nat} {x1 : Int32} : Cl (pj lw) 3 [.ref x0, .int x1] H Q ↔ W (pj lw) 3 0 [.val (.ref x0), .val (.int x1)] [] 0 0 H Q := cl_unf rfl
theorem w3_0 {x : Nat} : W (pj lw) 3 0 (.val (.ref x) :: L) S k n H Q ↔ W (pj lw) 3 1 (.val (.ref x) :: L) (.ref x :: S) k n H Q := W_s (rfl : (pj lw).1 3 0 = some (.aload_n 0, 1, 0)) rfl rfl rfl
theorem w3_1 {x : Int32} {l0 : Slot} : W (pj lw) 3 1 (l0 :: .val (.int x) :: L) S k n H Q ↔ W (pj lw) 3 2 (l0 :: .val (.int x) :: L) (.int x :: S) k n H Q := W_s (rfl : (pj lw).1 3 1 = some (.iload_n 1, 1, 0)) rfl rfl rfl
theorem w3_2 {a : Nat} {x0 : Int32} : W (pj lw) 3 2 L (.int x0 :: .ref a :: S) k n H Q ↔ ((isO H a = true ∧ cs S + (2 + 11) + 13 ≤ 64) ∧ Cl (pj lw) 5 [.ref a, .int x0] H (fun v H => W (pj lw) 3 5 L (v.toList ++ S) k n H Q)) := W_inst (as := [.int x0]) (rfl : (pj lw).1 3 2 = some (.invokevirtual 87, 3, 5)) rfl rfl rfl (Nat.le_of_ble_eq_true rfl) (Nat.le_of_ble_eq_true rfl) ⟨rfl, rfl⟩
theorem w3_5 {x : Int32} : W (pj lw) 3 5 L (.int x :: S) k n H Q ↔ (if x = 0 then W (pj lw) 3 8 L S k n H Q else W (pj lw) 3 10 L S k n H Q) := W_if_ne (rfl : (pj lw).1 3 5 = some (.ifCond .ne 5, 3, 0)) rfl
theorem w3_8 : W (pj lw) 3 8 L S k n H Q ↔ W (pj lw) 3 9 L (.int 0 :: S) k n H Q := W_s (rfl : (pj lw).1 3 8 = some (.iconst 0, 1, 0)) rfl rfl rfl
theorem w3_9 {x : Int32} : W (pj lw) 3 9 L (.int x :: S) k n H Q ↔ ((x = 0 ∨ x = 1) ∧ Q (some (.int x)) H) := W_rz (rfl : (pj lw).1 3 9 = some (.ireturn, 1, 0)) rfl
theorem w3_10 {x : Nat} : W (pj lw) 3 10 (.val (.ref x) :: L) S k n H Q ↔ W (pj lw) 3 11 (.val (.ref x) :: L) (.ref x :: S) k n H Q := W_s (rfl : (pj lw).1 3 10 = some (.aload_n 0, 1, 0)) rfl rfl rfl
theorem w3_11 {a : Nat} : W (pj lw) 3 11 L (.ref a :: S) k n H Q ↔ (isO H a = true ∧ W (pj lw) 3 14 L (fld H a 5 :: S) k n H Q) := W_getf (rfl : (pj lw).1 3 11 = some (.getfield 23, 3, 5))
theorem w3_14 {x : Int32} {l0 : Slot} : W (pj lw) 3 14 (l0 :: .val (.int x) :: L) S k n H Q ↔ W (pj lw) 3 15 (l0 :: .val (.int x) :: L) (.int x :: S) k n H Q := W_s (rfl : (pj lw).1 3 14 = some (.iload_n 1, 1, 0)) rfl rfl rfl
theorem w3_15 {i : Int32} {a : Nat} : W (pj lw) 3 15 L (.int i :: .ref a :: S) k n H Q ↔ ((inA H a .byte i = true ∨ inA H a .boolean i = true) ∧ W (pj lw) 3 16 L (elt H a i :: S) k n H Q) := W_baload (rfl : (pj lw).1 3 15 = some (.baload, 1, 0))
theorem w3_16 {x : Int32} : W (pj lw) 3 16 L (.int x :: S) k n H Q ↔ (if x = 0 then W (pj lw) 3 19 L S k n H Q else W (pj lw) 3 32 L S k n H Q) := W_if_ne (rfl : (pj lw).1 3 16 = some (.ifCond .ne 16, 3, 0)) rfl
theorem w3_19 {x : Nat} : W (pj lw) 3 19 (.val (.ref x) :: L) S k n H Q ↔ W (pj lw) 3 20 (.val (.ref x) :: L) (.ref x :: S) k n H Q := W_s (rfl : (pj lw).1 3 19 = some (.aload_n 0, 1, 0)) rfl rfl rfl
theorem w3_20 {x : Int32} {l0 : Slot} : W (pj lw) 3 20 (l0 :: .val (.int x) :: L) S k n H Q ↔ W (pj lw) 3 21 (l0 :: .val (.int x) :: L) (.int x :: S) k n H Q := W_s (rfl : (pj lw).1 3 20 = some (.iload_n 1, 1, 0)) rfl rfl rfl
theorem w3_21 {a : Nat} {x0 : Int32} : W (pj lw) 3 21 L (.int x0 :: .ref a :: S) k n H Q ↔ ((isO H a = true ∧ cs S + (2 + 11) + 0 ≤ 64) ∧ Cl (pj lw) 24 [.ref a, .int x0] H (fun v H => W (pj lw) 3 24 L (v.toList ++ S) k n H Q)) := W_inst (as := [.int x0]) (rfl : (pj lw).1 3 21 = some (.invokevirtual 90, 3, 24)) rfl rfl rfl (Nat.le_of_ble_eq_true rfl) (Nat.le_of_ble_eq_true rfl) ⟨rfl, rfl⟩
theorem w3_24 {x : Nat} : W (pj lw) 3 24 (.val (.ref x) :: L) S k n H Q ↔ W (pj lw) 3 25 (.val (.ref x) :: L) (.ref x :: S) k n H Q := W_s (rfl : (pj lw).1 3 24 = some (.aload_n 0, 1, 0)) rfl rfl rfl
theorem w3_25 : W (pj lw) 3 25 L S k n H Q ↔ W (pj lw) 3 26 L (.int (-1) :: S) k n H Q := W_s (rfl : (pj lw).1 3 25 = some (.iconst (-1), 1, 0)) rfl rfl rfl
theorem w3_26 : W (pj lw) 3 26 L S k n H Q ↔ W (pj lw) 3 27 L (.int (-1) :: S) k n H Q := W_s (rfl : (pj lw).1 3 26 = some (.iconst (-1), 1, 0)) rfl rfl rfl
theorem w3_27 {a : Nat} {x0 : Int32} {x1 : Int32} : W (pj lw) 3 27 L (.int x1 :: .int x0 :: .ref a :: S) k n H Q ↔ ((isO H a = true ∧ cs S + (3 + 11) + 0 ≤ 64) ∧ Cl (pj lw) 21 [.ref a, .int x0, .int x1] H (fun v H => W (pj lw) 3 30 L (v.toList ++ S) k n H Q)) := W_inst (as := [.int x0, .int x1]) (rfl : (pj lw).1 3 27 = some (.invokevirtual 93, 3, 21)) rfl rfl rfl (Nat.le_of_ble_eq_true rfl) (Nat.le_of_ble_eq_true rfl) ⟨rfl, rfl⟩
theorem w3_30 : W (pj lw) 3 30 L S k n H Q ↔ W (pj lw) 3 31 L (.int 1 :: S) k n H Q := W_s (rfl : (pj lw).1 3 30 = some (.iconst 1, 1, 0)) rfl rfl rfl
theorem w3_31 {x : Int32} : W (pj lw) 3 31 L (.int x :: S) k n H Q ↔ ((x = 0 ∨ x = 1) ∧ Q (some (.int x)) H) := W_rz (rfl : (pj lw).1 3 31 = some (.ireturn, 1, 0)) rfl
theorem w3_32 {x : Nat} : W (pj lw) 3 32 (.val (.ref x) :: L) S k n H Q ↔ W (pj lw) 3 33 (.val (.ref x) :: L) (.ref x :: S) k n H Q := W_s (rfl : (pj lw).1 3 32 = some (.aload_n 0, 1, 0)) rfl rfl rfl
theorem w3_33 {x : Int32} {l0 : Slot} : W (pj lw) 3 33 (l0 :: .val (.int x) :: L) S k n H Q ↔ W (pj lw) 3 34 (l0 :: .val (.int x) :: L) (.int x :: S) k n H Q := W_s (rfl : (pj lw).1 3 33 = some (.iload_n 1, 1, 0)) rfl rfl rfl
theorem w3_34 {a : Nat} {x0 : Int32} : W (pj lw) 3 34 L (.int x0 :: .ref a :: S) k n H Q ↔ ((isO H a = true ∧ cs S + (3 + 11) + 50 ≤ 64) ∧ Cl (pj lw) 19 [.ref a, .int x0] H (fun v H => W (pj lw) 3 37 L (v.toList ++ S) k n H Q)) := W_inst (as := [.int x0]) (rfl : (pj lw).1 3 34 = some (.invokevirtual 97, 3, 19)) rfl rfl rfl (Nat.le_of_ble_eq_true rfl) (Nat.le_of_ble_eq_true rfl) ⟨rfl, rfl⟩
theorem w3_37 : W (pj lw) 3 37 L S k n H Q ↔ W (pj lw) 3 38 L (.int 1 :: S) k n H Q := W_s (rfl : (pj lw).1 3 37 = some (.iconst 1, 1, 0)) rfl rfl rfl
theorem w3_38 {x : Int32} : W (pj lw) 3 38 L (.int x :: S) k n H Q ↔ ((x = 0 ∨ x = 1) ∧ Q (some (.int x)) H) := W_rz (rfl : (pj lw).1 3 38 = some (.ireturn, 1, 0)) rfl
theorem c5 {x0 : Nat} {x1 : Int32} : Cl (pj lw) 5 [.ref x0, .int x1] H Q ↔ W (pj lw) 5 0 [.val (.ref x0), .val (.int x1)] [] 0 0 H Q := cl_unf rfl
theorem w5_0 {x : Nat} : W (pj lw) 5 0 (.val (.ref x) :: L) S k n H Q ↔ W (pj lw) 5 1 (.val (.ref x) :: L) (.ref x :: S) k n H Q := W_s (rfl : (pj lw).1 5 0 = some (.aload_n 0, 1, 0)) rfl rfl rfl
theorem w5_1 {x : Int32} {l0 : Slot} : W (pj lw) 5 1 (l0 :: .val (.int x) :: L) S k n H Q ↔ W (pj lw) 5 2 (l0 :: .val (.int x) :: L) (.int x :: S) k n H Q := W_s (rfl : (pj lw).1 5 1 = some (.iload_n 1, 1, 0)) rfl rfl rfl
theorem w5_2 {a : Nat} {x0 : Int32} : W (pj lw) 5 2 L (.int x0 :: .ref a :: S) k n H Q ↔ ((isO H a = true ∧ cs S + (2 + 11) + 0 ≤ 13) ∧ Cl (pj lw) 40 [.ref a, .int x0] H (fun v H => W (pj lw) 5 5 L (v.toList ++ S) k n H Q)) := W_inst (as := [.int x0]) (rfl : (pj lw).1 5 2 = some (.invokevirtual 103, 3, 40)) rfl rfl rfl (Nat.le_of_ble_eq_true rfl) (Nat.le_of_ble_eq_true rfl) ⟨rfl, rfl⟩
theorem w5_5 {x : Int32} : W (pj lw) 5 5 L (.int x :: S) k n H Q ↔ (if x = 0 then W (pj lw) 5 21 L S k n H Q else W (pj lw) 5 8 L S k n H Q) := W_if_eq (rfl : (pj lw).1 5 5 = some (.ifCond .eq 16, 3, 0)) rfl
theorem w5_8 {x : Nat} : W (pj lw) 5 8 (.val (.ref x) :: L) S k n H Q ↔ W (pj lw) 5 9 (.val (.ref x) :: L) (.ref x :: S) k n H Q := W_s (rfl : (pj lw).1 5 8 = some (.aload_n 0, 1, 0)) rfl rfl rfl
theorem w5_9 {a : Nat} : W (pj lw) 5 9 L (.ref a :: S) k n H Q ↔ (isO H a = true ∧ W (pj lw) 5 12 L (fld H a 4 :: S) k n H Q) := W_getf (rfl : (pj lw).1 5 9 = some (.getfield 19, 3, 4))
theorem w5_12 {x : Int32} {l0 : Slot} : W (pj lw) 5 12 (l0 :: .val (.int x) :: L) S k n H Q ↔ W (pj lw) 5 13 (l0 :: .val (.int x) :: L) (.int x :: S) k n H Q := W_s (rfl : (pj lw).1 5 12 = some (.iload_n 1, 1, 0)) rfl rfl rfl
theorem w5_13 {i : Int32} {a : Nat} : W (pj lw) 5 13 L (.int i :: .ref a :: S) k n H Q ↔ ((inA H a .byte i = true ∨ inA H a .boolean i = true) ∧ W (pj lw) 5 14 L (elt H a i :: S) k n H Q) := W_baload (rfl : (pj lw).1 5 13 = some (.baload, 1, 0))
theorem w5_14 {x : Int32} : W (pj lw) 5 14 L (.int x :: S) k n H Q ↔ (if x = 0 then W (pj lw) 5 21 L S k n H Q else W (pj lw) 5 17 L S k n H Q) := W_if_eq (rfl : (pj lw).1 5 14 = some (.ifCond .eq 7, 3, 0)) rfl
theorem w5_17 : W (pj lw) 5 17 L S k n H Q ↔ W (pj lw) 5 18 L (.int 1 :: S) k n H Q := W_s (rfl : (pj lw).1 5 17 = some (.iconst 1, 1, 0)) rfl rfl rfl
theorem w5_18 : W (pj lw) 5 18 L S k n H Q ↔ W (pj lw) 5 22 L S k n H Q := W_goto (rfl : (pj lw).1 5 18 = some (.goto 4, 3, 0)) rfl
theorem w5_21 : W (pj lw) 5 21 L S k n H Q ↔ W (pj lw) 5 22 L (.int 0 :: S) k n H Q := W_s (rfl : (pj lw).1 5 21 = some (.iconst 0, 1, 0)) rfl rfl rfl
theorem w5_22 {x : Int32} : W (pj lw) 5 22 L (.int x :: S) k n H Q ↔ ((x = 0 ∨ x = 1) ∧ Q (some (.int x)) H) := W_rz (rfl : (pj lw).1 5 22 = some (.ireturn, 1, 0)) rfl
theorem c6 {x0 : Nat} {x1 : Int32} : Cl (pj lw) 6 [.ref x0, .int x1] H Q ↔ W (pj lw) 6 0 [.val (.ref x0), .val (.int x1)] [] 0 0 H Q := cl_unf rfl
theorem w6_0 {x : Nat} : W (pj lw) 6 0 (.val (.ref x) :: L) S k n H Q ↔ W (pj lw) 6 1 (.val (.ref x) :: L) (.ref x :: S) k n H Q := W_s (rfl : (pj lw).1 6 0 = some (.aload_n 0, 1, 0)) rfl rfl rfl
theorem w6_1 {x : Int32} {l0 : Slot} : W (pj lw) 6 1 (l0 :: .val (.int x) :: L) S k n H Q ↔ W (pj lw) 6 2 (l0 :: .val (.int x) :: L) (.int x :: S) k n H Q := W_s (rfl : (pj lw).1 6 1 = some (.iload_n 1, 1, 0)) rfl rfl rfl
theorem w6_2 {a : Nat} {x0 : Int32} : W (pj lw) 6 2 L (.int x0 :: .ref a :: S) k n H Q ↔ ((isO H a = true ∧ cs S + (2 + 11) + 0 ≤ 13) ∧ Cl (pj lw) 40 [.ref a, .int x0] H (fun v H => W (pj lw) 6 5 L (v.toList ++ S) k n H Q)) := W_inst (as := [.int x0]) (rfl : (pj lw).1 6 2 = some (.invokevirtual 103, 3, 40)) rfl rfl rfl (Nat.le_of_ble_eq_true rfl) (Nat.le_of_ble_eq_true rfl) ⟨rfl, rfl⟩
theorem w6_5 {x : Int32} : W (pj lw) 6 5 L (.int x :: S) k n H Q ↔ (if x = 0 then W (pj lw) 6 30 L S k n H Q else W (pj lw) 6 8 L S k n H Q) := W_if_eq (rfl : (pj lw).1 6 5 = some (.ifCond .eq 25, 3, 0)) rfl
theorem w6_8 {x : Nat} : W (pj lw) 6 8 (.val (.ref x) :: L) S k n H Q ↔ W (pj lw) 6 9 (.val (.ref x) :: L) (.ref x :: S) k n H Q := W_s (rfl : (pj lw).1 6 8 = some (.aload_n 0, 1, 0)) rfl rfl rfl
theorem w6_9 {a : Nat} : W (pj lw) 6 9 L (.ref a :: S) k n H Q ↔ (isO H a = true ∧ W (pj lw) 6 12 L (fld H a 4 :: S) k n H Q) := W_getf (rfl : (pj lw).1 6 9 = some (.getfield 19, 3, 4))
theorem w6_12 {x : Int32} {l0 : Slot} : W (pj lw) 6 12 (l0 :: .val (.int x) :: L) S k n H Q ↔ W (pj lw) 6 13 (l0 :: .val (.int x) :: L) (.int x :: S) k n H Q := W_s (rfl : (pj lw).1 6 12 = some (.iload_n 1, 1, 0)) rfl rfl rfl
theorem w6_13 {i : Int32} {a : Nat} : W (pj lw) 6 13 L (.int i :: .ref a :: S) k n H Q ↔ ((inA H a .byte i = true ∨ inA H a .boolean i = true) ∧ W (pj lw) 6 14 L (elt H a i :: S) k n H Q) := W_baload (rfl : (pj lw).1 6 13 = some (.baload, 1, 0))
theorem w6_14 {x : Int32} : W (pj lw) 6 14 L (.int x :: S) k n H Q ↔ (if x = 0 then W (pj lw) 6 30 L S k n H Q else W (pj lw) 6 17 L S k n H Q) := W_if_eq (rfl : (pj lw).1 6 14 = some (.ifCond .eq 16, 3, 0)) rfl
theorem w6_17 {x : Nat} : W (pj lw) 6 17 (.val (.ref x) :: L) S k n H Q ↔ W (pj lw) 6 18 (.val (.ref x) :: L) (.ref x :: S) k n H Q := W_s (rfl : (pj lw).1 6 17 = some (.aload_n 0, 1, 0)) rfl rfl rfl
theorem w6_18 {a : Nat} : W (pj lw) 6 18 L (.ref a :: S) k n H Q ↔ (isO H a = true ∧ W (pj lw) 6 21 L (fld H a 5 :: S) k n H Q) := W_getf (rfl : (pj lw).1 6 18 = some (.getfield 23, 3, 5))
theorem w6_21 {x : Int32} {l0 : Slot} : W (pj lw) 6 21 (l0 :: .val (.int x) :: L) S k n H Q ↔ W (pj lw) 6 22 (l0 :: .val (.int x) :: L) (.int x :: S) k n H Q := W_s (rfl : (pj lw).1 6 21 = some (.iload_n 1, 1, 0)) rfl rfl rfl
theorem w6_22 {i : Int32} {a : Nat} : W (pj lw) 6 22 L (.int i :: .ref a :: S) k n H Q ↔ ((inA H a .byte i = true ∨ inA H a .boolean i = true) ∧ W (pj lw) 6 23 L (elt H a i :: S) k n H Q) := W_baload (rfl : (pj lw).1 6 22 = some (.baload, 1, 0))
theorem w6_23 {x : Int32} : W (pj lw) 6 23 L (.int x :: S) k n H Q ↔ (if x = 0 then W (pj lw) 6 30 L S k n H Q else W (pj lw) 6 26 L S k n H Q) := W_if_eq (rfl : (pj lw).1 6 23 = some (.ifCond .eq 7, 3, 0)) rfl
theorem w6_26 : W (pj lw) 6 26 L S k n H Q ↔ W (pj lw) 6 27 L (.int 1 :: S) k n H Q := W_s (rfl : (pj lw).1 6 26 = some (.iconst 1, 1, 0)) rfl rfl rfl
theorem w6_27 : W (pj lw) 6 27 L S k n H Q ↔ W (pj lw) 6 31 L S k n H Q := W_goto (rfl : (pj lw).1 6 27 = some (.goto 4, 3, 0)) rfl
theorem w6_30 : W (pj lw) 6 30 L S k n H Q ↔ W (pj lw) 6 31 L (.int 0 :: S) k n H Q := W_s (rfl : (pj lw).1 6 30 = some (.iconst 0, 1, 0)) rfl rfl rfl
theorem w6_31 {x : Int32} : W (pj lw) 6 31 L (.int x :: S) k n H Q ↔ ((x = 0 ∨ x = 1) ∧ Q (some (.int x)) H) := W_rz (rfl : (pj lw).1 6 31 = some (.ireturn, 1, 0)) rfl
theorem c10 {x0 : Nat} : Cl (pj lw) 10 [.ref x0] H Q ↔ W (pj lw) 10 0 [.val (.ref x0)] [] 0 0 H Q := cl_unf rfl
theorem w10_0 {x : Nat} : W (pj lw) 10 0 (.val (.ref x) :: L) S k n H Q ↔ W (pj lw) 10 1 (.val (.ref x) :: L) (.ref x :: S) k n H Q := W_s (rfl : (pj lw).1 10 0 = some (.aload_n 0, 1, 0)) rfl rfl rfl
theorem w10_1 {a : Nat} : W (pj lw) 10 1 L (.ref a :: S) k n H Q ↔ (isO H a = true ∧ W (pj lw) 10 4 L (fld H a 14 :: S) k n H Q) := W_getf (rfl : (pj lw).1 10 1 = some (.getfield 54, 3, 14))
theorem w10_4 {x : Int64} : W (pj lw) 10 4 L (.long x :: S) k n H Q ↔ Q (some (.long x)) H := W_r (rfl : (pj lw).1 10 4 = some (.lreturn, 1, 0)) rfl
theorem c12 {x0 : Nat} : Cl (pj lw) 12 [.ref x0] H Q ↔ W (pj lw) 12 0 [.val (.ref x0)] [] 0 0 H Q := cl_unf rfl
theorem w12_0 {x : Nat} : W (pj lw) 12 0 (.val (.ref x) :: L) S k n H Q ↔ W (pj lw) 12 1 (.val (.ref x) :: L) (.ref x :: S) k n H Q := W_s (rfl : (pj lw).1 12 0 = some (.aload_n 0, 1, 0)) rfl rfl rfl
theorem w12_1 {a : Nat} : W (pj lw) 12 1 L (.ref a :: S) k n H Q ↔ (isO H a = true ∧ W (pj lw) 12 4 L (fld H a 0 :: S) k n H Q) := W_getf (rfl : (pj lw).1 12 1 = some (.getfield 44, 3, 0))
theorem w12_4 {x : Nat} : W (pj lw) 12 4 (.val (.ref x) :: L) S k n H Q ↔ W (pj lw) 12 5 (.val (.ref x) :: L) (.ref x :: S) k n H Q := W_s (rfl : (pj lw).1 12 4 = some (.aload_n 0, 1, 0)) rfl rfl rfl
theorem w12_5 {a : Nat} : W (pj lw) 12 5 L (.ref a :: S) k n H Q ↔ (isO H a = true ∧ W (pj lw) 12 8 L (fld H a 13 :: S) k n H Q) := W_getf (rfl : (pj lw).1 12 5 = some (.getfield 51, 3, 13))
theorem w12_8 {x y : Int32} : W (pj lw) 12 8 L (.int y :: .int x :: S) k n H Q ↔ W (pj lw) 12 9 L (.int (x - y) :: S) k n H Q := W_s (rfl : (pj lw).1 12 8 = some (.isub, 1, 0)) rfl rfl rfl
theorem w12_9 {x : Int32} : W (pj lw) 12 9 L (.int x :: S) k n H Q ↔ Q (some (.int x)) H := W_r (rfl : (pj lw).1 12 9 = some (.ireturn, 1, 0)) rfl
theorem c14 {x0 : Nat} {x1 : Int32} {x2 : Int32} : Cl (pj lw) 14 [.ref x0, .int x1, .int x2] H Q ↔ W (pj lw) 14 0 [.val (.ref x0), .val (.int x1), .val (.int x2)] [] 0 0 H Q := cl_unf rfl
theorem w14_0 {x : Nat} : W (pj lw) 14 0 (.val (.ref x) :: L) S k n H Q ↔ W (pj lw) 14 1 (.val (.ref x) :: L) (.ref x :: S) k n H Q := W_s (rfl : (pj lw).1 14 0 = some (.aload_n 0, 1, 0)) rfl rfl rfl
theorem w14_1 {x : Int32} {l0 : Slot} : W (pj lw) 14 1 (l0 :: .val (.int x) :: L) S k n H Q ↔ W (pj lw) 14 2 (l0 :: .val (.int x) :: L) (.int x :: S) k n H Q := W_s (rfl : (pj lw).1 14 1 = some (.iload_n 1, 1, 0)) rfl rfl rfl
theorem w14_2 {a : Nat} {x0 : Int32} : W (pj lw) 14 2 L (.int x0 :: .ref a :: S) k n H Q ↔ ((isO H a = true ∧ cs S + (2 + 11) + 0 ≤ 50) ∧ Cl (pj lw) 39 [.ref a, .int x0] H (fun v H => W (pj lw) 14 5 L (v.toList ++ S) k n H Q)) := W_inst (as := [.int x0]) (rfl : (pj lw).1 14 2 = some (.invokevirtual 67, 3, 39)) rfl rfl rfl (Nat.le_of_ble_eq_true rfl) (Nat.le_of_ble_eq_true rfl) ⟨rfl, rfl⟩
theorem w14_5 {x : Int32} : W (pj lw) 14 5 L (.int x :: S) k n H Q ↔ (if x = 0 then W (pj lw) 14 16 L S k n H Q else W (pj lw) 14 8 L S k n H Q) := W_if_eq (rfl : (pj lw).1 14 5 = some (.ifCond .eq 11, 3, 0)) rfl
theorem w14_8 {x : Nat} : W (pj lw) 14 8 (.val (.ref x) :: L) S k n H Q ↔ W (pj lw) 14 9 (.val (.ref x) :: L) (.ref x :: S) k n H Q := W_s (rfl : (pj lw).1 14 8 = some (.aload_n 0, 1, 0)) rfl rfl rfl
theorem w14_9 {x : Int32} {l0 l1 : Slot} : W (pj lw) 14 9 (l0 :: l1 :: .val (.int x) :: L) S k n H Q ↔ W (pj lw) 14 10 (l0 :: l1 :: .val (.int x) :: L) (.int x :: S) k n H Q := W_s (rfl : (pj lw).1 14 9 = some (.iload_n 2, 1, 0)) rfl rfl rfl
theorem w14_10 {a : Nat} {x0 : Int32} : W (pj lw) 14 10 L (.int x0 :: .ref a :: S) k n H Q ↔ ((isO H a = true ∧ cs S + (2 + 11) + 0 ≤ 50) ∧ Cl (pj lw) 39 [.ref a, .int x0] H (fun v H => W (pj lw) 14 13 L (v.toList ++ S) k n H Q)) := W_inst (as := [.int x0]) (rfl : (pj lw).1 14 10 = some (.invokevirtual 67, 3, 39)) rfl rfl rfl (Nat.le_of_ble_eq_true rfl) (Nat.le_of_ble_eq_true rfl) ⟨rfl, rfl⟩
theorem w14_13 {x : Int32} : W (pj lw) 14 13 L (.int x :: S) k n H Q ↔ (if x = 0 then W (pj lw) 14 16 L S k n H Q else W (pj lw) 14 18 L S k n H Q) := W_if_ne (rfl : (pj lw).1 14 13 = some (.ifCond .ne 5, 3, 0)) rfl
theorem w14_18 {x : Int32} {l0 : Slot} : W (pj lw) 14 18 (l0 :: .val (.int x) :: L) S k n H Q ↔ W (pj lw) 14 19 (l0 :: .val (.int x) :: L) (.int x :: S) k n H Q := W_s (rfl : (pj lw).1 14 18 = some (.iload_n 1, 1, 0)) rfl rfl rfl
theorem w14_19 {x : Int32} {l0 l1 : Slot} : W (pj lw) 14 19 (l0 :: l1 :: .val (.int x) :: L) S k n H Q ↔ W (pj lw) 14 20 (l0 :: l1 :: .val (.int x) :: L) (.int x :: S) k n H Q := W_s (rfl : (pj lw).1 14 19 = some (.iload_n 2, 1, 0)) rfl rfl rfl
theorem w14_20 {x y : Int32} : W (pj lw) 14 20 L (.int y :: .int x :: S) k n H Q ↔ (if x = y then W (pj lw) 14 23 L S k n H Q else W (pj lw) 14 25 L S k n H Q) := W_icmp_ne (rfl : (pj lw).1 14 20 = some (.if_icmp .ne 5, 3, 0)) rfl
theorem w14_25 {x : Nat} : W (pj lw) 14 25 (.val (.ref x) :: L) S k n H Q ↔ W (pj lw) 14 26 (.val (.ref x) :: L) (.ref x :: S) k n H Q := W_s (rfl : (pj lw).1 14 25 = some (.aload_n 0, 1, 0)) rfl rfl rfl
theorem w14_26 {x : Int32} {l0 : Slot} : W (pj lw) 14 26 (l0 :: .val (.int x) :: L) S k n H Q ↔ W (pj lw) 14 27 (l0 :: .val (.int x) :: L) (.int x :: S) k n H Q := W_s (rfl : (pj lw).1 14 26 = some (.iload_n 1, 1, 0)) rfl rfl rfl
theorem w14_27 : W (pj lw) 14 27 L S k n H Q ↔ W (pj lw) 14 28 L (.int (-1) :: S) k n H Q := W_s (rfl : (pj lw).1 14 27 = some (.iconst (-1), 1, 0)) rfl rfl rfl
theorem w14_28 {a : Nat} {x0 : Int32} {x1 : Int32} : W (pj lw) 14 28 L (.int x1 :: .int x0 :: .ref a :: S) k n H Q ↔ ((isO H a = true ∧ cs S + (5 + 11) + 34 ≤ 50) ∧ Cl (pj lw) 30 [.ref a, .int x0, .int x1] H (fun v H => W (pj lw) 14 31 L (v.toList ++ S) k n H Q)) := W_inst (as := [.int x0, .int x1]) (rfl : (pj lw).1 14 28 = some (.invokevirtual 106, 3, 30)) rfl rfl rfl (Nat.le_of_ble_eq_true rfl) (Nat.le_of_ble_eq_true rfl) ⟨rfl, rfl⟩
theorem w14_31 {x : Int32} : W (pj lw) 14 31 L (.int x :: S) k n H Q ↔ W (pj lw) 14 32 L S k n H Q := W_s (rfl : (pj lw).1 14 31 = some (.pop, 1, 0)) rfl rfl rfl
theorem w14_32 {x : Nat} : W (pj lw) 14 32 (.val (.ref x) :: L) S k n H Q ↔ W (pj lw) 14 33 (.val (.ref x) :: L) (.ref x :: S) k n H Q := W_s (rfl : (pj lw).1 14 32 = some (.aload_n 0, 1, 0)) rfl rfl rfl
theorem w14_33 {a : Nat} : W (pj lw) 14 33 L (.ref a :: S) k n H Q ↔ (isO H a = true ∧ W (pj lw) 14 36 L (fld H a 8 :: S) k n H Q) := W_getf (rfl : (pj lw).1 14 33 = some (.getfield 32, 3, 8))
theorem w14_36 {x : Int32} {l0 l1 : Slot} : W (pj lw) 14 36 (l0 :: l1 :: .val (.int x) :: L) S k n H Q ↔ W (pj lw) 14 37 (l0 :: l1 :: .val (.int x) :: L) (.int x :: S) k n H Q := W_s (rfl : (pj lw).1 14 36 = some (.iload_n 2, 1, 0)) rfl rfl rfl
theorem w14_37 {i : Int32} {a : Nat} : W (pj lw) 14 37 L (.int i :: .ref a :: S) k n H Q ↔ ((inA H a .byte i = true ∨ inA H a .boolean i = true) ∧ W (pj lw) 14 38 L (elt H a i :: S) k n H Q) := W_baload (rfl : (pj lw).1 14 37 = some (.baload, 1, 0))
theorem w14_38 {x : Int32} : W (pj lw) 14 38 L (.int x :: S) k n H Q ↔ (if x = 0 then W (pj lw) 14 41 L S k n H Q else W (pj lw) 14 43 L S k n H Q) := W_if_ne (rfl : (pj lw).1 14 38 = some (.ifCond .ne 5, 3, 0)) rfl
theorem w14_41 : W (pj lw) 14 41 L S k n H Q ↔ W (pj lw) 14 42 L (.int (-1) :: S) k n H Q := W_s (rfl : (pj lw).1 14 41 = some (.iconst (-1), 1, 0)) rfl rfl rfl
theorem w14_42 {x : Int32} : W (pj lw) 14 42 L (.int x :: S) k n H Q ↔ Q (some (.int x)) H := W_r (rfl : (pj lw).1 14 42 = some (.ireturn, 1, 0)) rfl
theorem w14_43 {x : Nat} : W (pj lw) 14 43 (.val (.ref x) :: L) S k n H Q ↔ W (pj lw) 14 44 (.val (.ref x) :: L) (.ref x :: S) k n H Q := W_s (rfl : (pj lw).1 14 43 = some (.aload_n 0, 1, 0)) rfl rfl rfl
theorem w14_44 {x : Int32} {l0 l1 : Slot} : W (pj lw) 14 44 (l0 :: l1 :: .val (.int x) :: L) S k n H Q ↔ W (pj lw) 14 45 (l0 :: l1 :: .val (.int x) :: L) (.int x :: S) k n H Q := W_s (rfl : (pj lw).1 14 44 = some (.iload_n 2, 1, 0)) rfl rfl rfl
theorem w14_45 {a : Nat} {x0 : Int32} : W (pj lw) 14 45 L (.int x0 :: .ref a :: S) k n H Q ↔ ((isO H a = true ∧ cs S + (6 + 11) + 28 ≤ 50) ∧ Cl (pj lw) 32 [.ref a, .int x0] H (fun v H => W (pj lw) 14 48 L (v.toList ++ S) k n H Q)) := W_inst (as := [.int x0]) (rfl : (pj lw).1 14 45 = some (.invokevirtual 110, 3, 32)) rfl rfl rfl (Nat.le_of_ble_eq_true rfl) (Nat.le_of_ble_eq_true rfl) ⟨rfl, rfl⟩
theorem w14_48 {x : Int32} : W (pj lw) 14 48 L (.int x :: S) k n H Q ↔ Q (some (.int x)) H := W_r (rfl : (pj lw).1 14 48 = some (.ireturn, 1, 0)) rfl
theorem c15 {x0 : Nat} {x1 : Int32} : Cl (pj lw) 15 [.ref x0, .int x1] H Q ↔ W (pj lw) 15 0 [.val (.ref x0), .val (.int x1)] [] 0 0 H Q := cl_unf rfl
theorem w15_0 {x : Nat} : W (pj lw) 15 0 (.val (.ref x) :: L) S k n H Q ↔ W (pj lw) 15 1 (.val (.ref x) :: L) (.ref x :: S) k n H Q := W_s (rfl : (pj lw).1 15 0 = some (.aload_n 0, 1, 0)) rfl rfl rfl
theorem w15_1 {x : Int32} {l0 : Slot} : W (pj lw) 15 1 (l0 :: .val (.int x) :: L) S k n H Q ↔ W (pj lw) 15 2 (l0 :: .val (.int x) :: L) (.int x :: S) k n H Q := W_s (rfl : (pj lw).1 15 1 = some (.iload_n 1, 1, 0)) rfl rfl rfl
theorem w15_2 {a : Nat} {x0 : Int32} : W (pj lw) 15 2 L (.int x0 :: .ref a :: S) k n H Q ↔ ((isO H a = true ∧ cs S + (2 + 11) + 13 ≤ 50) ∧ Cl (pj lw) 6 [.ref a, .int x0] H (fun v H => W (pj lw) 15 5 L (v.toList ++ S) k n H Q)) := W_inst (as := [.int x0]) (rfl : (pj lw).1 15 2 = some (.invokevirtual 113, 3, 6)) rfl rfl rfl (Nat.le_of_ble_eq_true rfl) (Nat.le_of_ble_eq_true rfl) ⟨rfl, rfl⟩
theorem w15_5 {x : Int32} : W (pj lw) 15 5 L (.int x :: S) k n H Q ↔ (if x = 0 then W (pj lw) 15 8 L S k n H Q else W (pj lw) 15 10 L S k n H Q) := W_if_ne (rfl : (pj lw).1 15 5 = some (.ifCond .ne 5, 3, 0)) rfl
theorem w15_8 : W (pj lw) 15 8 L S k n H Q ↔ W (pj lw) 15 9 L (.int (-1) :: S) k n H Q := W_s (rfl : (pj lw).1 15 8 = some (.iconst (-1), 1, 0)) rfl rfl rfl
theorem w15_9 {x : Int32} : W (pj lw) 15 9 L (.int x :: S) k n H Q ↔ Q (some (.int x)) H := W_r (rfl : (pj lw).1 15 9 = some (.ireturn, 1, 0)) rfl
theorem w15_10 {x : Nat} : W (pj lw) 15 10 (.val (.ref x) :: L) S k n H Q ↔ W (pj lw) 15 11 (.val (.ref x) :: L) (.ref x :: S) k n H Q := W_s (rfl : (pj lw).1 15 10 = some (.aload_n 0, 1, 0)) rfl rfl rfl
theorem w15_11 {x : Nat} : W (pj lw) 15 11 (.val (.ref x) :: L) S k n H Q ↔ W (pj lw) 15 12 (.val (.ref x) :: L) (.ref x :: S) k n H Q := W_s (rfl : (pj lw).1 15 11 = some (.aload_n 0, 1, 0)) rfl rfl rfl
theorem w15_12 {a : Nat} : W (pj lw) 15 12 L (.ref a :: S) k n H Q ↔ (isO H a = true ∧ W (pj lw) 15 15 L (fld H a 1 :: S) k n H Q) := W_getf (rfl : (pj lw).1 15 12 = some (.getfield 7, 3, 1))
theorem w15_15 {x : Int32} {l0 : Slot} : W (pj lw) 15 15 (l0 :: .val (.int x) :: L) S k n H Q ↔ W (pj lw) 15 16 (l0 :: .val (.int x) :: L) (.int x :: S) k n H Q := W_s (rfl : (pj lw).1 15 15 = some (.iload_n 1, 1, 0)) rfl rfl rfl
theorem w15_16 {i : Int32} {a : Nat} : W (pj lw) 15 16 L (.int i :: .ref a :: S) k n H Q ↔ (inA H a .int i = true ∧ W (pj lw) 15 17 L (elt H a i :: S) k n H Q) := W_iaload (rfl : (pj lw).1 15 16 = some (.iaload, 1, 0))
theorem w15_17 {x : Int32} {l0 : Slot} : W (pj lw) 15 17 (l0 :: .val (.int x) :: L) S k n H Q ↔ W (pj lw) 15 18 (l0 :: .val (.int x) :: L) (.int x :: S) k n H Q := W_s (rfl : (pj lw).1 15 17 = some (.iload_n 1, 1, 0)) rfl rfl rfl
theorem w15_18 {a : Nat} {x0 : Int32} {x1 : Int32} : W (pj lw) 15 18 L (.int x1 :: .int x0 :: .ref a :: S) k n H Q ↔ ((isO H a = true ∧ cs S + (5 + 11) + 34 ≤ 50) ∧ Cl (pj lw) 30 [.ref a, .int x0, .int x1] H (fun v H => W (pj lw) 15 21 L (v.toList ++ S) k n H Q)) := W_inst (as := [.int x0, .int x1]) (rfl : (pj lw).1 15 18 = some (.invokevirtual 106, 3, 30)) rfl rfl rfl (Nat.le_of_ble_eq_true rfl) (Nat.le_of_ble_eq_true rfl) ⟨rfl, rfl⟩
theorem w15_21 {x : Int32} : W (pj lw) 15 21 L (.int x :: S) k n H Q ↔ W (pj lw) 15 22 L S k n H Q := W_s (rfl : (pj lw).1 15 21 = some (.pop, 1, 0)) rfl rfl rfl
theorem w15_22 {x : Nat} : W (pj lw) 15 22 (.val (.ref x) :: L) S k n H Q ↔ W (pj lw) 15 23 (.val (.ref x) :: L) (.ref x :: S) k n H Q := W_s (rfl : (pj lw).1 15 22 = some (.aload_n 0, 1, 0)) rfl rfl rfl
theorem w15_23 {a : Nat} : W (pj lw) 15 23 L (.ref a :: S) k n H Q ↔ ((isO H a = true ∧ cs S + (3 + 11) + 28 ≤ 50) ∧ Cl (pj lw) 33 [.ref a] H (fun v H => W (pj lw) 15 26 L (v.toList ++ S) k n H Q)) := W_inst (as := []) (rfl : (pj lw).1 15 23 = some (.invokevirtual 116, 3, 33)) rfl rfl rfl (Nat.le_of_ble_eq_true rfl) (Nat.le_of_ble_eq_true rfl) ⟨rfl, rfl⟩
theorem w15_26 {x : Int32} : W (pj lw) 15 26 L (.int x :: S) k n H Q ↔ Q (some (.int x)) H := W_r (rfl : (pj lw).1 15 26 = some (.ireturn, 1, 0)) rfl
theorem c16 {x0 : Nat} : Cl (pj lw) 16 [.ref x0] H Q ↔ W (pj lw) 16 0 [.val (.ref x0)] [] 0 0 H Q := cl_unf rfl
theorem w16_0 {x : Nat} : W (pj lw) 16 0 (.val (.ref x) :: L) S k n H Q ↔ W (pj lw) 16 1 (.val (.ref x) :: L) (.ref x :: S) k n H Q := W_s (rfl : (pj lw).1 16 0 = some (.aload_n 0, 1, 0)) rfl rfl rfl
theorem w16_1 {a : Nat} : W (pj lw) 16 1 L (.ref a :: S) k n H Q ↔ (isO H a = true ∧ W (pj lw) 16 4 L (fld H a 15 :: S) k n H Q) := W_getf (rfl : (pj lw).1 16 1 = some (.getfield 58, 3, 15))
theorem w16_4 {x : Int32} : W (pj lw) 16 4 L (.int x :: S) k n H Q ↔ Q (some (.int x)) H := W_r (rfl : (pj lw).1 16 4 = some (.ireturn, 1, 0)) rfl
theorem c17 {x0 : Nat} : Cl (pj lw) 17 [.ref x0] H Q ↔ W (pj lw) 17 0 [.val (.ref x0)] [] 0 0 H Q := cl_unf rfl
theorem w17_0 {x : Nat} : W (pj lw) 17 0 (.val (.ref x) :: L) S k n H Q ↔ W (pj lw) 17 1 (.val (.ref x) :: L) (.ref x :: S) k n H Q := W_s (rfl : (pj lw).1 17 0 = some (.aload_n 0, 1, 0)) rfl rfl rfl
theorem w17_1 {a : Nat} : W (pj lw) 17 1 L (.ref a :: S) k n H Q ↔ (isO H a = true ∧ W (pj lw) 17 4 L (fld H a 16 :: S) k n H Q) := W_getf (rfl : (pj lw).1 17 1 = some (.getfield 61, 3, 16))
theorem w17_4 {x : Int32} : W (pj lw) 17 4 L (.int x :: S) k n H Q ↔ Q (some (.int x)) H := W_r (rfl : (pj lw).1 17 4 = some (.ireturn, 1, 0)) rfl
theorem c18 {x0 : Nat} {x1 : Int32} : Cl (pj lw) 18 [.ref x0, .int x1] H Q ↔ W (pj lw) 18 0 [.val (.ref x0), .val (.int x1), .unset, .unset] [] 0 0 H Q := cl_unf rfl
theorem w18_0 {x : Nat} : W (pj lw) 18 0 (.val (.ref x) :: L) S k n H Q ↔ W (pj lw) 18 1 (.val (.ref x) :: L) (.ref x :: S) k n H Q := W_s (rfl : (pj lw).1 18 0 = some (.aload_n 0, 1, 0)) rfl rfl rfl
theorem w18_1 {x : Nat} : W (pj lw) 18 1 (.val (.ref x) :: L) S k n H Q ↔ W (pj lw) 18 2 (.val (.ref x) :: L) (.ref x :: S) k n H Q := W_s (rfl : (pj lw).1 18 1 = some (.aload_n 0, 1, 0)) rfl rfl rfl
theorem w18_2 {a : Nat} : W (pj lw) 18 2 L (.ref a :: S) k n H Q ↔ (isO H a = true ∧ W (pj lw) 18 5 L (fld H a 1 :: S) k n H Q) := W_getf (rfl : (pj lw).1 18 2 = some (.getfield 7, 3, 1))
theorem w18_5 {x : Int32} {l0 : Slot} : W (pj lw) 18 5 (l0 :: .val (.int x) :: L) S k n H Q ↔ W (pj lw) 18 6 (l0 :: .val (.int x) :: L) (.int x :: S) k n H Q := W_s (rfl : (pj lw).1 18 5 = some (.iload_n 1, 1, 0)) rfl rfl rfl
theorem w18_6 {i : Int32} {a : Nat} : W (pj lw) 18 6 L (.int i :: .ref a :: S) k n H Q ↔ (inA H a .int i = true ∧ W (pj lw) 18 7 L (elt H a i :: S) k n H Q) := W_iaload (rfl : (pj lw).1 18 6 = some (.iaload, 1, 0))
theorem w18_7 : W (pj lw) 18 7 L S k n H Q ↔ W (pj lw) 18 8 L (.int (-1) :: S) k n H Q := W_s (rfl : (pj lw).1 18 7 = some (.iconst (-1), 1, 0)) rfl rfl rfl
theorem w18_8 {a : Nat} {x0 : Int32} {x1 : Int32} : W (pj lw) 18 8 L (.int x1 :: .int x0 :: .ref a :: S) k n H Q ↔ ((isO H a = true ∧ cs S + (5 + 11) + 34 ≤ 50) ∧ Cl (pj lw) 30 [.ref a, .int x0, .int x1] H (fun v H => W (pj lw) 18 11 L (v.toList ++ S) k n H Q)) := W_inst (as := [.int x0, .int x1]) (rfl : (pj lw).1 18 8 = some (.invokevirtual 106, 3, 30)) rfl rfl rfl (Nat.le_of_ble_eq_true rfl) (Nat.le_of_ble_eq_true rfl) ⟨rfl, rfl⟩
theorem w18_11 {x : Int32} : W (pj lw) 18 11 L (.int x :: S) k n H Q ↔ W (pj lw) 18 12 L S k n H Q := W_s (rfl : (pj lw).1 18 11 = some (.pop, 1, 0)) rfl rfl rfl
theorem w18_12 {x : Nat} : W (pj lw) 18 12 (.val (.ref x) :: L) S k n H Q ↔ W (pj lw) 18 13 (.val (.ref x) :: L) (.ref x :: S) k n H Q := W_s (rfl : (pj lw).1 18 12 = some (.aload_n 0, 1, 0)) rfl rfl rfl
theorem w18_13 {a : Nat} : W (pj lw) 18 13 L (.ref a :: S) k n H Q ↔ (isO H a = true ∧ W (pj lw) 18 16 L (fld H a 2 :: S) k n H Q) := W_getf (rfl : (pj lw).1 18 13 = some (.getfield 13, 3, 2))
theorem w18_16 {x : Int32} {l0 : Slot} : W (pj lw) 18 16 (l0 :: .val (.int x) :: L) S k n H Q ↔ W (pj lw) 18 17 (l0 :: .val (.int x) :: L) (.int x :: S) k n H Q := W_s (rfl : (pj lw).1 18 16 = some (.iload_n 1, 1, 0)) rfl rfl rfl
theorem w18_17 {i : Int32} {a : Nat} : W (pj lw) 18 17 L (.int i :: .ref a :: S) k n H Q ↔ (inA H a .int i = true ∧ W (pj lw) 18 18 L (elt H a i :: S) k n H Q) := W_iaload (rfl : (pj lw).1 18 17 = some (.iaload, 1, 0))
theorem w18_18 {x : Int32} {l0 l1 : Slot} : W (pj lw) 18 18 (l0 :: l1 :: .unset :: L) (.int x :: S) k n H Q ↔ W (pj lw) 18 19 (l0 :: l1 :: .val (.int x) :: L) S k n H Q := W_istn (rfl : (pj lw).1 18 18 = some (.istore_n 2, 1, 0)) rfl rfl
theorem w18_19 {x : Nat} : W (pj lw) 18 19 (.val (.ref x) :: L) S k n H Q ↔ W (pj lw) 18 20 (.val (.ref x) :: L) (.ref x :: S) k n H Q := W_s (rfl : (pj lw).1 18 19 = some (.aload_n 0, 1, 0)) rfl rfl rfl
theorem w18_20 {x : Int32} {l0 l1 : Slot} : W (pj lw) 18 20 (l0 :: l1 :: .val (.int x) :: L) S k n H Q ↔ W (pj lw) 18 21 (l0 :: l1 :: .val (.int x) :: L) (.int x :: S) k n H Q := W_s (rfl : (pj lw).1 18 20 = some (.iload_n 2, 1, 0)) rfl rfl rfl
theorem w18_21 {a : Nat} {x0 : Int32} : W (pj lw) 18 21 L (.int x0 :: .ref a :: S) k n H Q ↔ ((isO H a = true ∧ cs S + (2 + 11) + 0 ≤ 50) ∧ Cl (pj lw) 39 [.ref a, .int x0] H (fun v H => W (pj lw) 18 24 L (v.toList ++ S) k n H Q)) := W_inst (as := [.int x0]) (rfl : (pj lw).1 18 21 = some (.invokevirtual 67, 3, 39)) rfl rfl rfl (Nat.le_of_ble_eq_true rfl) (Nat.le_of_ble_eq_true rfl) ⟨rfl, rfl⟩
theorem w18_24 {x : Int32} : W (pj lw) 18 24 L (.int x :: S) k n H Q ↔ (if x = 0 then W (pj lw) 18 36 L S k n H Q else W (pj lw) 18 27 L S k n H Q) := W_if_eq (rfl : (pj lw).1 18 24 = some (.ifCond .eq 12, 3, 0)) rfl
theorem w18_27 {x : Nat} : W (pj lw) 18 27 (.val (.ref x) :: L) S k n H Q ↔ W (pj lw) 18 28 (.val (.ref x) :: L) (.ref x :: S) k n H Q := W_s (rfl : (pj lw).1 18 27 = some (.aload_n 0, 1, 0)) rfl rfl rfl
theorem w18_28 {a : Nat} : W (pj lw) 18 28 L (.ref a :: S) k n H Q ↔ (isO H a = true ∧ W (pj lw) 18 31 L (fld H a 8 :: S) k n H Q) := W_getf (rfl : (pj lw).1 18 28 = some (.getfield 32, 3, 8))
theorem w18_31 {x : Int32} {l0 l1 : Slot} : W (pj lw) 18 31 (l0 :: l1 :: .val (.int x) :: L) S k n H Q ↔ W (pj lw) 18 32 (l0 :: l1 :: .val (.int x) :: L) (.int x :: S) k n H Q := W_s (rfl : (pj lw).1 18 31 = some (.iload_n 2, 1, 0)) rfl rfl rfl
theorem w18_32 {i : Int32} {a : Nat} : W (pj lw) 18 32 L (.int i :: .ref a :: S) k n H Q ↔ ((inA H a .byte i = true ∨ inA H a .boolean i = true) ∧ W (pj lw) 18 33 L (elt H a i :: S) k n H Q) := W_baload (rfl : (pj lw).1 18 32 = some (.baload, 1, 0))
theorem w18_33 {x : Int32} : W (pj lw) 18 33 L (.int x :: S) k n H Q ↔ (if x = 0 then W (pj lw) 18 36 L S k n H Q else W (pj lw) 18 48 L S k n H Q) := W_if_ne (rfl : (pj lw).1 18 33 = some (.ifCond .ne 15, 3, 0)) rfl
theorem w18_36 {x : Nat} : W (pj lw) 18 36 (.val (.ref x) :: L) S k n H Q ↔ W (pj lw) 18 37 (.val (.ref x) :: L) (.ref x :: S) k n H Q := W_s (rfl : (pj lw).1 18 36 = some (.aload_n 0, 1, 0)) rfl rfl rfl
theorem w18_37 {x : Int32} {l0 : Slot} : W (pj lw) 18 37 (l0 :: .val (.int x) :: L) S k n H Q ↔ W (pj lw) 18 38 (l0 :: .val (.int x) :: L) (.int x :: S) k n H Q := W_s (rfl : (pj lw).1 18 37 = some (.iload_n 1, 1, 0)) rfl rfl rfl
theorem w18_38 {a : Nat} {x0 : Int32} : W (pj lw) 18 38 L (.int x0 :: .ref a :: S) k n H Q ↔ ((isO H a = true ∧ cs S + (2 + 11) + 14 ≤ 50) ∧ Cl (pj lw) 25 [.ref a, .int x0] H (fun v H => W (pj lw) 18 41 L (v.toList ++ S) k n H Q)) := W_inst (as := [.int x0]) (rfl : (pj lw).1 18 38 = some (.invokevirtual 119, 3, 25)) rfl rfl rfl (Nat.le_of_ble_eq_true rfl) (Nat.le_of_ble_eq_true rfl) ⟨rfl, rfl⟩
theorem w18_41 {x : Nat} : W (pj lw) 18 41 (.val (.ref x) :: L) S k n H Q ↔ W (pj lw) 18 42 (.val (.ref x) :: L) (.ref x :: S) k n H Q := W_s (rfl : (pj lw).1 18 41 = some (.aload_n 0, 1, 0)) rfl rfl rfl
theorem w18_42 {x : Int32} {l0 : Slot} : W (pj lw) 18 42 (l0 :: .val (.int x) :: L) S k n H Q ↔ W (pj lw) 18 43 (l0 :: .val (.int x) :: L) (.int x :: S) k n H Q := W_s (rfl : (pj lw).1 18 42 = some (.iload_n 1, 1, 0)) rfl rfl rfl
theorem w18_43 : W (pj lw) 18 43 L S k n H Q ↔ W (pj lw) 18 44 L (.int (-1) :: S) k n H Q := W_s (rfl : (pj lw).1 18 43 = some (.iconst (-1), 1, 0)) rfl rfl rfl
theorem w18_44 {a : Nat} {x0 : Int32} {x1 : Int32} : W (pj lw) 18 44 L (.int x1 :: .int x0 :: .ref a :: S) k n H Q ↔ ((isO H a = true ∧ cs S + (3 + 11) + 0 ≤ 50) ∧ Cl (pj lw) 21 [.ref a, .int x0, .int x1] H (fun v H => W (pj lw) 18 47 L (v.toList ++ S) k n H Q)) := W_inst (as := [.int x0, .int x1]) (rfl : (pj lw).1 18 44 = some (.invokevirtual 93, 3, 21)) rfl rfl rfl (Nat.le_of_ble_eq_true rfl) (Nat.le_of_ble_eq_true rfl) ⟨rfl, rfl⟩
theorem w18_47 : W (pj lw) 18 47 L [] k n H Q ↔ Q none H := W_r (rfl : (pj lw).1 18 47 = some (.return_, 1, 0)) rfl
theorem w18_48 {x : Nat} : W (pj lw) 18 48 (.val (.ref x) :: L) S k n H Q ↔ W (pj lw) 18 49 (.val (.ref x) :: L) (.ref x :: S) k n H Q := W_s (rfl : (pj lw).1 18 48 = some (.aload_n 0, 1, 0)) rfl rfl rfl
theorem w18_49 {x : Int32} {l0 l1 : Slot} : W (pj lw) 18 49 (l0 :: l1 :: .val (.int x) :: L) S k n H Q ↔ W (pj lw) 18 50 (l0 :: l1 :: .val (.int x) :: L) (.int x :: S) k n H Q := W_s (rfl : (pj lw).1 18 49 = some (.iload_n 2, 1, 0)) rfl rfl rfl
theorem w18_50 {a : Nat} {x0 : Int32} : W (pj lw) 18 50 L (.int x0 :: .ref a :: S) k n H Q ↔ ((isO H a = true ∧ cs S + (6 + 11) + 28 ≤ 50) ∧ Cl (pj lw) 32 [.ref a, .int x0] H (fun v H => W (pj lw) 18 53 L (v.toList ++ S) k n H Q)) := W_inst (as := [.int x0]) (rfl : (pj lw).1 18 50 = some (.invokevirtual 110, 3, 32)) rfl rfl rfl (Nat.le_of_ble_eq_true rfl) (Nat.le_of_ble_eq_true rfl) ⟨rfl, rfl⟩
theorem w18_53 {x : Int32} {l0 l1 l2 : Slot} : W (pj lw) 18 53 (l0 :: l1 :: l2 :: .unset :: L) (.int x :: S) k n H Q ↔ W (pj lw) 18 54 (l0 :: l1 :: l2 :: .val (.int x) :: L) S k n H Q := W_istn (rfl : (pj lw).1 18 53 = some (.istore_n 3, 1, 0)) rfl rfl
theorem w18_54 {x : Int32} {l0 l1 l2 : Slot} : W (pj lw) 18 54 (l0 :: l1 :: l2 :: .val (.int x) :: L) S k n H Q ↔ W (pj lw) 18 55 (l0 :: l1 :: l2 :: .val (.int x) :: L) (.int x :: S) k n H Q := W_s (rfl : (pj lw).1 18 54 = some (.iload_n 3, 1, 0)) rfl rfl rfl
theorem w18_55 : W (pj lw) 18 55 L S k n H Q ↔ W (pj lw) 18 56 L (.int (-1) :: S) k n H Q := W_s (rfl : (pj lw).1 18 55 = some (.iconst (-1), 1, 0)) rfl rfl rfl
theorem w18_56 {x y : Int32} : W (pj lw) 18 56 L (.int y :: .int x :: S) k n H Q ↔ (if x = y then W (pj lw) 18 85 L S k n H Q else W (pj lw) 18 59 L S k n H Q) := W_icmp_eq (rfl : (pj lw).1 18 56 = some (.if_icmp .eq 29, 3, 0)) rfl
theorem w18_59 {x : Nat} : W (pj lw) 18 59 (.val (.ref x) :: L) S k n H Q ↔ W (pj lw) 18 60 (.val (.ref x) :: L) (.ref x :: S) k n H Q := W_s (rfl : (pj lw).1 18 59 = some (.aload_n 0, 1, 0)) rfl rfl rfl
theorem w18_60 {x : Int32} {l0 : Slot} : W (pj lw) 18 60 (l0 :: .val (.int x) :: L) S k n H Q ↔ W (pj lw) 18 61 (l0 :: .val (.int x) :: L) (.int x :: S) k n H Q := W_s (rfl : (pj lw).1 18 60 = some (.iload_n 1, 1, 0)) rfl rfl rfl
theorem w18_61 {x : Int32} {l0 l1 l2 : Slot} : W (pj lw) 18 61 (l0 :: l1 :: l2 :: .val (.int x) :: L) S k n H Q ↔ W (pj lw) 18 62 (l0 :: l1 :: l2 :: .val (.int x) :: L) (.int x :: S) k n H Q := W_s (rfl : (pj lw).1 18 61 = some (.iload_n 3, 1, 0)) rfl rfl rfl
theorem w18_62 {a : Nat} {x0 : Int32} {x1 : Int32} : W (pj lw) 18 62 L (.int x1 :: .int x0 :: .ref a :: S) k n H Q ↔ ((isO H a = true ∧ cs S + (3 + 11) + 0 ≤ 50) ∧ Cl (pj lw) 36 [.ref a, .int x0, .int x1] H (fun v H => W (pj lw) 18 65 L (v.toList ++ S) k n H Q)) := W_inst (as := [.int x0, .int x1]) (rfl : (pj lw).1 18 62 = some (.invokevirtual 122, 3, 36)) rfl rfl rfl (Nat.le_of_ble_eq_true rfl) (Nat.le_of_ble_eq_true rfl) ⟨rfl, rfl⟩
theorem w18_65 {x : Int32} : W (pj lw) 18 65 L (.int x :: S) k n H Q ↔ (if x = 0 then W (pj lw) 18 85 L S k n H Q else W (pj lw) 18 68 L S k n H Q) := W_if_eq (rfl : (pj lw).1 18 65 = some (.ifCond .eq 20, 3, 0)) rfl
theorem w18_68 {x : Nat} : W (pj lw) 18 68 (.val (.ref x) :: L) S k n H Q ↔ W (pj lw) 18 69 (.val (.ref x) :: L) (.ref x :: S) k n H Q := W_s (rfl : (pj lw).1 18 68 = some (.aload_n 0, 1, 0)) rfl rfl rfl
theorem w18_69 {x : Int32} {l0 l1 l2 : Slot} : W (pj lw) 18 69 (l0 :: l1 :: l2 :: .val (.int x) :: L) S k n H Q ↔ W (pj lw) 18 70 (l0 :: l1 :: l2 :: .val (.int x) :: L) (.int x :: S) k n H Q := W_s (rfl : (pj lw).1 18 69 = some (.iload_n 3, 1, 0)) rfl rfl rfl
theorem w18_70 {a : Nat} {x0 : Int32} : W (pj lw) 18 70 L (.int x0 :: .ref a :: S) k n H Q ↔ ((isO H a = true ∧ cs S + (2 + 11) + 16 ≤ 50) ∧ Cl (pj lw) 26 [.ref a, .int x0] H (fun v H => W (pj lw) 18 73 L (v.toList ++ S) k n H Q)) := W_inst (as := [.int x0]) (rfl : (pj lw).1 18 70 = some (.invokevirtual 126, 3, 26)) rfl rfl rfl (Nat.le_of_ble_eq_true rfl) (Nat.le_of_ble_eq_true rfl) ⟨rfl, rfl⟩
theorem w18_73 {x : Nat} : W (pj lw) 18 73 (.val (.ref x) :: L) S k n H Q ↔ W (pj lw) 18 74 (.val (.ref x) :: L) (.ref x :: S) k n H Q := W_s (rfl : (pj lw).1 18 73 = some (.aload_n 0, 1, 0)) rfl rfl rfl
theorem w18_74 {x : Int32} {l0 : Slot} : W (pj lw) 18 74 (l0 :: .val (.int x) :: L) S k n H Q ↔ W (pj lw) 18 75 (l0 :: .val (.int x) :: L) (.int x :: S) k n H Q := W_s (rfl : (pj lw).1 18 74 = some (.iload_n 1, 1, 0)) rfl rfl rfl
theorem w18_75 {a : Nat} {x0 : Int32} : W (pj lw) 18 75 L (.int x0 :: .ref a :: S) k n H Q ↔ ((isO H a = true ∧ cs S + (2 + 11) + 14 ≤ 50) ∧ Cl (pj lw) 25 [.ref a, .int x0] H (fun v H => W (pj lw) 18 78 L (v.toList ++ S) k n H Q)) := W_inst (as := [.int x0]) (rfl : (pj lw).1 18 75 = some (.invokevirtual 119, 3, 25)) rfl rfl rfl (Nat.le_of_ble_eq_true rfl) (Nat.le_of_ble_eq_true rfl) ⟨rfl, rfl⟩
theorem w18_78 {x : Nat} : W (pj lw) 18 78 (.val (.ref x) :: L) S k n H Q ↔ W (pj lw) 18 79 (.val (.ref x) :: L) (.ref x :: S) k n H Q := W_s (rfl : (pj lw).1 18 78 = some (.aload_n 0, 1, 0)) rfl rfl rfl
theorem w18_79 {x : Int32} {l0 : Slot} : W (pj lw) 18 79 (l0 :: .val (.int x) :: L) S k n H Q ↔ W (pj lw) 18 80 (l0 :: .val (.int x) :: L) (.int x :: S) k n H Q := W_s (rfl : (pj lw).1 18 79 = some (.iload_n 1, 1, 0)) rfl rfl rfl
theorem w18_80 {x : Int32} {l0 l1 l2 : Slot} : W (pj lw) 18 80 (l0 :: l1 :: l2 :: .val (.int x) :: L) S k n H Q ↔ W (pj lw) 18 81 (l0 :: l1 :: l2 :: .val (.int x) :: L) (.int x :: S) k n H Q := W_s (rfl : (pj lw).1 18 80 = some (.iload_n 3, 1, 0)) rfl rfl rfl
theorem w18_81 {a : Nat} {x0 : Int32} {x1 : Int32} : W (pj lw) 18 81 L (.int x1 :: .int x0 :: .ref a :: S) k n H Q ↔ ((isO H a = true ∧ cs S + (3 + 11) + 0 ≤ 50) ∧ Cl (pj lw) 21 [.ref a, .int x0, .int x1] H (fun v H => W (pj lw) 18 84 L (v.toList ++ S) k n H Q)) := W_inst (as := [.int x0, .int x1]) (rfl : (pj lw).1 18 81 = some (.invokevirtual 93, 3, 21)) rfl rfl rfl (Nat.le_of_ble_eq_true rfl) (Nat.le_of_ble_eq_true rfl) ⟨rfl, rfl⟩
theorem w18_84 : W (pj lw) 18 84 L [] k n H Q ↔ Q none H := W_r (rfl : (pj lw).1 18 84 = some (.return_, 1, 0)) rfl
theorem w18_85 {x : Nat} : W (pj lw) 18 85 (.val (.ref x) :: L) S k n H Q ↔ W (pj lw) 18 86 (.val (.ref x) :: L) (.ref x :: S) k n H Q := W_s (rfl : (pj lw).1 18 85 = some (.aload_n 0, 1, 0)) rfl rfl rfl
theorem w18_86 : W (pj lw) 18 86 L S k n H Q ↔ W (pj lw) 18 87 L (.int (-1) :: S) k n H Q := W_s (rfl : (pj lw).1 18 86 = some (.iconst (-1), 1, 0)) rfl rfl rfl
theorem w18_87 : W (pj lw) 18 87 L S k n H Q ↔ W (pj lw) 18 88 L (.int (-1) :: S) k n H Q := W_s (rfl : (pj lw).1 18 87 = some (.iconst (-1), 1, 0)) rfl rfl rfl
theorem w18_88 {a : Nat} {x0 : Int32} {x1 : Int32} : W (pj lw) 18 88 L (.int x1 :: .int x0 :: .ref a :: S) k n H Q ↔ ((isO H a = true ∧ cs S + (3 + 11) + 0 ≤ 50) ∧ Cl (pj lw) 21 [.ref a, .int x0, .int x1] H (fun v H => W (pj lw) 18 91 L (v.toList ++ S) k n H Q)) := W_inst (as := [.int x0, .int x1]) (rfl : (pj lw).1 18 88 = some (.invokevirtual 93, 3, 21)) rfl rfl rfl (Nat.le_of_ble_eq_true rfl) (Nat.le_of_ble_eq_true rfl) ⟨rfl, rfl⟩
theorem w18_91 : W (pj lw) 18 91 L [] k n H Q ↔ Q none H := W_r (rfl : (pj lw).1 18 91 = some (.return_, 1, 0)) rfl
theorem c19 {x0 : Nat} {x1 : Int32} : Cl (pj lw) 19 [.ref x0, .int x1] H Q ↔ W (pj lw) 19 0 [.val (.ref x0), .val (.int x1), .unset] [] 0 0 H Q := cl_unf rfl
theorem w19_0 {x : Nat} : W (pj lw) 19 0 (.val (.ref x) :: L) S k n H Q ↔ W (pj lw) 19 1 (.val (.ref x) :: L) (.ref x :: S) k n H Q := W_s (rfl : (pj lw).1 19 0 = some (.aload_n 0, 1, 0)) rfl rfl rfl
theorem w19_1 {x : Int32} {l0 : Slot} : W (pj lw) 19 1 (l0 :: .val (.int x) :: L) S k n H Q ↔ W (pj lw) 19 2 (l0 :: .val (.int x) :: L) (.int x :: S) k n H Q := W_s (rfl : (pj lw).1 19 1 = some (.iload_n 1, 1, 0)) rfl rfl rfl
theorem w19_2 {a : Nat} {x0 : Int32} : W (pj lw) 19 2 L (.int x0 :: .ref a :: S) k n H Q ↔ ((isO H a = true ∧ cs S + (2 + 11) + 16 ≤ 50) ∧ Cl (pj lw) 26 [.ref a, .int x0] H (fun v H => W (pj lw) 19 5 L (v.toList ++ S) k n H Q)) := W_inst (as := [.int x0]) (rfl : (pj lw).1 19 2 = some (.invokevirtual 126, 3, 26)) rfl rfl rfl (Nat.le_of_ble_eq_true rfl) (Nat.le_of_ble_eq_true rfl) ⟨rfl, rfl⟩
theorem w19_5 {x : Nat} : W (pj lw) 19 5 (.val (.ref x) :: L) S k n H Q ↔ W (pj lw) 19 6 (.val (.ref x) :: L) (.ref x :: S) k n H Q := W_s (rfl : (pj lw).1 19 5 = some (.aload_n 0, 1, 0)) rfl rfl rfl
theorem w19_6 {x : Int32} {l0 : Slot} : W (pj lw) 19 6 (l0 :: .val (.int x) :: L) S k n H Q ↔ W (pj lw) 19 7 (l0 :: .val (.int x) :: L) (.int x :: S) k n H Q := W_s (rfl : (pj lw).1 19 6 = some (.iload_n 1, 1, 0)) rfl rfl rfl
theorem w19_7 {a : Nat} {x0 : Int32} : W (pj lw) 19 7 L (.int x0 :: .ref a :: S) k n H Q ↔ ((isO H a = true ∧ cs S + (2 + 11) + 0 ≤ 50) ∧ Cl (pj lw) 24 [.ref a, .int x0] H (fun v H => W (pj lw) 19 10 L (v.toList ++ S) k n H Q)) := W_inst (as := [.int x0]) (rfl : (pj lw).1 19 7 = some (.invokevirtual 90, 3, 24)) rfl rfl rfl (Nat.le_of_ble_eq_true rfl) (Nat.le_of_ble_eq_true rfl) ⟨rfl, rfl⟩
theorem w19_10 {x : Nat} : W (pj lw) 19 10 (.val (.ref x) :: L) S k n H Q ↔ W (pj lw) 19 11 (.val (.ref x) :: L) (.ref x :: S) k n H Q := W_s (rfl : (pj lw).1 19 10 = some (.aload_n 0, 1, 0)) rfl rfl rfl
theorem w19_11 {x : Nat} : W (pj lw) 19 11 (.val (.ref x) :: L) S k n H Q ↔ W (pj lw) 19 12 (.val (.ref x) :: L) (.ref x :: S) k n H Q := W_s (rfl : (pj lw).1 19 11 = some (.aload_n 0, 1, 0)) rfl rfl rfl
theorem w19_12 {a : Nat} : W (pj lw) 19 12 L (.ref a :: S) k n H Q ↔ (isO H a = true ∧ W (pj lw) 19 15 L (fld H a 1 :: S) k n H Q) := W_getf (rfl : (pj lw).1 19 12 = some (.getfield 7, 3, 1))
theorem w19_15 {x : Int32} {l0 : Slot} : W (pj lw) 19 15 (l0 :: .val (.int x) :: L) S k n H Q ↔ W (pj lw) 19 16 (l0 :: .val (.int x) :: L) (.int x :: S) k n H Q := W_s (rfl : (pj lw).1 19 15 = some (.iload_n 1, 1, 0)) rfl rfl rfl
theorem w19_16 {i : Int32} {a : Nat} : W (pj lw) 19 16 L (.int i :: .ref a :: S) k n H Q ↔ (inA H a .int i = true ∧ W (pj lw) 19 17 L (elt H a i :: S) k n H Q) := W_iaload (rfl : (pj lw).1 19 16 = some (.iaload, 1, 0))
theorem w19_17 : W (pj lw) 19 17 L S k n H Q ↔ W (pj lw) 19 18 L (.int (-1) :: S) k n H Q := W_s (rfl : (pj lw).1 19 17 = some (.iconst (-1), 1, 0)) rfl rfl rfl
theorem w19_18 {a : Nat} {x0 : Int32} {x1 : Int32} : W (pj lw) 19 18 L (.int x1 :: .int x0 :: .ref a :: S) k n H Q ↔ ((isO H a = true ∧ cs S + (5 + 11) + 34 ≤ 50) ∧ Cl (pj lw) 30 [.ref a, .int x0, .int x1] H (fun v H => W (pj lw) 19 21 L (v.toList ++ S) k n H Q)) := W_inst (as := [.int x0, .int x1]) (rfl : (pj lw).1 19 18 = some (.invokevirtual 106, 3, 30)) rfl rfl rfl (Nat.le_of_ble_eq_true rfl) (Nat.le_of_ble_eq_true rfl) ⟨rfl, rfl⟩
theorem w19_21 {x : Int32} : W (pj lw) 19 21 L (.int x :: S) k n H Q ↔ W (pj lw) 19 22 L S k n H Q := W_s (rfl : (pj lw).1 19 21 = some (.pop, 1, 0)) rfl rfl rfl
theorem w19_22 {x : Nat} : W (pj lw) 19 22 (.val (.ref x) :: L) S k n H Q ↔ W (pj lw) 19 23 (.val (.ref x) :: L) (.ref x :: S) k n H Q := W_s (rfl : (pj lw).1 19 22 = some (.aload_n 0, 1, 0)) rfl rfl rfl
theorem w19_23 {a : Nat} : W (pj lw) 19 23 L (.ref a :: S) k n H Q ↔ ((isO H a = true ∧ cs S + (3 + 11) + 28 ≤ 50) ∧ Cl (pj lw) 33 [.ref a] H (fun v H => W (pj lw) 19 26 L (v.toList ++ S) k n H Q)) := W_inst (as := []) (rfl : (pj lw).1 19 23 = some (.invokevirtual 116, 3, 33)) rfl rfl rfl (Nat.le_of_ble_eq_true rfl) (Nat.le_of_ble_eq_true rfl) ⟨rfl, rfl⟩
theorem w19_26 {x : Int32} {l0 l1 : Slot} : W (pj lw) 19 26 (l0 :: l1 :: .unset :: L) (.int x :: S) k n H Q ↔ W (pj lw) 19 27 (l0 :: l1 :: .val (.int x) :: L) S k n H Q := W_istn (rfl : (pj lw).1 19 26 = some (.istore_n 2, 1, 0)) rfl rfl
theorem w19_27 {x : Int32} {l0 l1 : Slot} : W (pj lw) 19 27 (l0 :: l1 :: .val (.int x) :: L) S k n H Q ↔ W (pj lw) 19 28 (l0 :: l1 :: .val (.int x) :: L) (.int x :: S) k n H Q := W_s (rfl : (pj lw).1 19 27 = some (.iload_n 2, 1, 0)) rfl rfl rfl
theorem w19_28 : W (pj lw) 19 28 L S k n H Q ↔ W (pj lw) 19 29 L (.int (-1) :: S) k n H Q := W_s (rfl : (pj lw).1 19 28 = some (.iconst (-1), 1, 0)) rfl rfl rfl
theorem w19_29 {x y : Int32} : W (pj lw) 19 29 L (.int y :: .int x :: S) k n H Q ↔ (if x = y then W (pj lw) 19 37 L S k n H Q else W (pj lw) 19 32 L S k n H Q) := W_icmp_eq (rfl : (pj lw).1 19 29 = some (.if_icmp .eq 8, 3, 0)) rfl
theorem w19_32 {x : Nat} : W (pj lw) 19 32 (.val (.ref x) :: L) S k n H Q ↔ W (pj lw) 19 33 (.val (.ref x) :: L) (.ref x :: S) k n H Q := W_s (rfl : (pj lw).1 19 32 = some (.aload_n 0, 1, 0)) rfl rfl rfl
theorem w19_33 {x : Int32} {l0 l1 : Slot} : W (pj lw) 19 33 (l0 :: l1 :: .val (.int x) :: L) S k n H Q ↔ W (pj lw) 19 34 (l0 :: l1 :: .val (.int x) :: L) (.int x :: S) k n H Q := W_s (rfl : (pj lw).1 19 33 = some (.iload_n 2, 1, 0)) rfl rfl rfl
theorem w19_34 {a : Nat} {x0 : Int32} : W (pj lw) 19 34 L (.int x0 :: .ref a :: S) k n H Q ↔ ((isO H a = true ∧ cs S + (2 + 11) + 14 ≤ 50) ∧ Cl (pj lw) 25 [.ref a, .int x0] H (fun v H => W (pj lw) 19 37 L (v.toList ++ S) k n H Q)) := W_inst (as := [.int x0]) (rfl : (pj lw).1 19 34 = some (.invokevirtual 119, 3, 25)) rfl rfl rfl (Nat.le_of_ble_eq_true rfl) (Nat.le_of_ble_eq_true rfl) ⟨rfl, rfl⟩
theorem w19_37 {x : Nat} : W (pj lw) 19 37 (.val (.ref x) :: L) S k n H Q ↔ W (pj lw) 19 38 (.val (.ref x) :: L) (.ref x :: S) k n H Q := W_s (rfl : (pj lw).1 19 37 = some (.aload_n 0, 1, 0)) rfl rfl rfl
theorem w19_38 {x : Int32} {l0 l1 : Slot} : W (pj lw) 19 38 (l0 :: l1 :: .val (.int x) :: L) S k n H Q ↔ W (pj lw) 19 39 (l0 :: l1 :: .val (.int x) :: L) (.int x :: S) k n H Q := W_s (rfl : (pj lw).1 19 38 = some (.iload_n 2, 1, 0)) rfl rfl rfl
theorem w19_39 {x : Int32} {l0 : Slot} : W (pj lw) 19 39 (l0 :: .val (.int x) :: L) S k n H Q ↔ W (pj lw) 19 40 (l0 :: .val (.int x) :: L) (.int x :: S) k n H Q := W_s (rfl : (pj lw).1 19 39 = some (.iload_n 1, 1, 0)) rfl rfl rfl
theorem w19_40 {a : Nat} {x0 : Int32} {x1 : Int32} : W (pj lw) 19 40 L (.int x1 :: .int x0 :: .ref a :: S) k n H Q ↔ ((isO H a = true ∧ cs S + (3 + 11) + 0 ≤ 50) ∧ Cl (pj lw) 21 [.ref a, .int x0, .int x1] H (fun v H => W (pj lw) 19 43 L (v.toList ++ S) k n H Q)) := W_inst (as := [.int x0, .int x1]) (rfl : (pj lw).1 19 40 = some (.invokevirtual 93, 3, 21)) rfl rfl rfl (Nat.le_of_ble_eq_true rfl) (Nat.le_of_ble_eq_true rfl) ⟨rfl, rfl⟩
theorem w19_43 : W (pj lw) 19 43 L [] k n H Q ↔ Q none H := W_r (rfl : (pj lw).1 19 43 = some (.return_, 1, 0)) rfl
theorem c21 {x0 : Nat} {x1 : Int32} {x2 : Int32} : Cl (pj lw) 21 [.ref x0, .int x1, .int x2] H Q ↔ W (pj lw) 21 0 [.val (.ref x0), .val (.int x1), .val (.int x2)] [] 0 0 H Q := cl_unf rfl
theorem w21_0 {x : Nat} : W (pj lw) 21 0 (.val (.ref x) :: L) S k n H Q ↔ W (pj lw) 21 1 (.val (.ref x) :: L) (.ref x :: S) k n H Q := W_s (rfl : (pj lw).1 21 0 = some (.aload_n 0, 1, 0)) rfl rfl rfl
theorem w21_1 {x : Int32} {l0 : Slot} : W (pj lw) 21 1 (l0 :: .val (.int x) :: L) S k n H Q ↔ W (pj lw) 21 2 (l0 :: .val (.int x) :: L) (.int x :: S) k n H Q := W_s (rfl : (pj lw).1 21 1 = some (.iload_n 1, 1, 0)) rfl rfl rfl
theorem w21_2 {a : Nat} {v : Value} : W (pj lw) 21 2 L (v :: .ref a :: S) k n H Q ↔ ((isOw H a = true ∧ okv (.int) v = true) ∧ W (pj lw) 21 5 L S k n (wr H a 15 v) Q) := W_putf (rfl : (pj lw).1 21 2 = some (.putfield 58, 3, 15))
theorem w21_5 {x : Nat} : W (pj lw) 21 5 (.val (.ref x) :: L) S k n H Q ↔ W (pj lw) 21 6 (.val (.ref x) :: L) (.ref x :: S) k n H Q := W_s (rfl : (pj lw).1 21 5 = some (.aload_n 0, 1, 0)) rfl rfl rfl
theorem w21_6 {x : Int32} {l0 l1 : Slot} : W (pj lw) 21 6 (l0 :: l1 :: .val (.int x) :: L) S k n H Q ↔ W (pj lw) 21 7 (l0 :: l1 :: .val (.int x) :: L) (.int x :: S) k n H Q := W_s (rfl : (pj lw).1 21 6 = some (.iload_n 2, 1, 0)) rfl rfl rfl
theorem w21_7 {a : Nat} {v : Value} : W (pj lw) 21 7 L (v :: .ref a :: S) k n H Q ↔ ((isOw H a = true ∧ okv (.int) v = true) ∧ W (pj lw) 21 10 L S k n (wr H a 16 v) Q) := W_putf (rfl : (pj lw).1 21 7 = some (.putfield 61, 3, 16))
theorem w21_10 : W (pj lw) 21 10 L [] k n H Q ↔ Q none H := W_r (rfl : (pj lw).1 21 10 = some (.return_, 1, 0)) rfl
theorem c22 {x0 : Nat} : Cl (pj lw) 22 [.ref x0] H Q ↔ W (pj lw) 22 0 [.val (.ref x0), .unset] [] 0 0 H Q := cl_unf rfl
theorem w22_0 : W (pj lw) 22 0 L S k n H Q ↔ W (pj lw) 22 1 L (.int 0 :: S) k n H Q := W_s (rfl : (pj lw).1 22 0 = some (.iconst 0, 1, 0)) rfl rfl rfl
theorem w22_1 {x : Int32} {l0 : Slot} : W (pj lw) 22 1 (l0 :: .unset :: L) (.int x :: S) k n H Q ↔ W (pj lw) 22 2 (l0 :: .val (.int x) :: L) S k n H Q := W_istn (rfl : (pj lw).1 22 1 = some (.istore_n 1, 1, 0)) rfl rfl
theorem w22_2 {x : Int32} {l0 : Slot} : W (pj lw) 22 2 (l0 :: .val (.int x) :: L) S k n H Q ↔ W (pj lw) 22 3 (l0 :: .val (.int x) :: L) (.int x :: S) k n H Q := W_s (rfl : (pj lw).1 22 2 = some (.iload_n 1, 1, 0)) rfl rfl rfl
theorem w22_3 : W (pj lw) 22 3 L S k n H Q ↔ W (pj lw) 22 6 L (.int 128 :: S) k n H Q := W_s (rfl : (pj lw).1 22 3 = some (.sipush 128, 3, 0)) rfl rfl rfl
theorem w22_6 {x y : Int32} : W (pj lw) 22 6 L (.int y :: .int x :: S) k n H Q ↔ (if x < y then W (pj lw) 22 9 L S k n H Q else W (pj lw) 22 26 L S k n H Q) := W_icmp_ge (rfl : (pj lw).1 22 6 = some (.if_icmp .ge 20, 3, 0)) rfl
theorem w22_9 {x : Nat} : W (pj lw) 22 9 (.val (.ref x) :: L) S k n H Q ↔ W (pj lw) 22 10 (.val (.ref x) :: L) (.ref x :: S) k n H Q := W_s (rfl : (pj lw).1 22 9 = some (.aload_n 0, 1, 0)) rfl rfl rfl
theorem w22_10 {a : Nat} : W (pj lw) 22 10 L (.ref a :: S) k n H Q ↔ (isO H a = true ∧ W (pj lw) 22 13 L (fld H a 4 :: S) k n H Q) := W_getf (rfl : (pj lw).1 22 10 = some (.getfield 19, 3, 4))
theorem w22_13 {x : Int32} {l0 : Slot} : W (pj lw) 22 13 (l0 :: .val (.int x) :: L) S k n H Q ↔ W (pj lw) 22 14 (l0 :: .val (.int x) :: L) (.int x :: S) k n H Q := W_s (rfl : (pj lw).1 22 13 = some (.iload_n 1, 1, 0)) rfl rfl rfl
theorem w22_14 {i : Int32} {a : Nat} : W (pj lw) 22 14 L (.int i :: .ref a :: S) k n H Q ↔ ((inA H a .byte i = true ∨ inA H a .boolean i = true) ∧ W (pj lw) 22 15 L (elt H a i :: S) k n H Q) := W_baload (rfl : (pj lw).1 22 14 = some (.baload, 1, 0))
theorem w22_15 {x : Int32} : W (pj lw) 22 15 L (.int x :: S) k n H Q ↔ (if x = 0 then W (pj lw) 22 18 L S k n H Q else W (pj lw) 22 20 L S k n H Q) := W_if_ne (rfl : (pj lw).1 22 15 = some (.ifCond .ne 5, 3, 0)) rfl
theorem w22_18 {x : Int32} {l0 : Slot} : W (pj lw) 22 18 (l0 :: .val (.int x) :: L) S k n H Q ↔ W (pj lw) 22 19 (l0 :: .val (.int x) :: L) (.int x :: S) k n H Q := W_s (rfl : (pj lw).1 22 18 = some (.iload_n 1, 1, 0)) rfl rfl rfl
theorem w22_19 {x : Int32} : W (pj lw) 22 19 L (.int x :: S) k n H Q ↔ Q (some (.int x)) H := W_r (rfl : (pj lw).1 22 19 = some (.ireturn, 1, 0)) rfl
theorem w22_20 {x : Int32} {l0 : Slot} : W (pj lw) 22 20 (l0 :: .val (.int x) :: L) S k n H Q ↔ W (pj lw) 22 23 (l0 :: .val (.int (x + 1)) :: L) S k n H Q := W_s (rfl : (pj lw).1 22 20 = some (.iinc 1 1, 3, 0)) rfl rfl rfl
theorem w22_23 : W (pj lw) 22 23 L S k n H Q ↔ W (pj lw) 22 2 L S k n H Q := W_goto (rfl : (pj lw).1 22 23 = some (.goto (-21), 3, 0)) rfl
theorem c23 {x0 : Nat} {x1 : Int32} {x2 : Int32} {x3 : Int32} {x4 : Int32} : Cl (pj lw) 23 [.ref x0, .int x1, .int x2, .int x3, .int x4] H Q ↔ W (pj lw) 23 0 [.val (.ref x0), .val (.int x1), .val (.int x2), .val (.int x3), .val (.int x4)] [] 0 0 H Q := cl_unf rfl
theorem w23_0 {x : Nat} : W (pj lw) 23 0 (.val (.ref x) :: L) S k n H Q ↔ W (pj lw) 23 1 (.val (.ref x) :: L) (.ref x :: S) k n H Q := W_s (rfl : (pj lw).1 23 0 = some (.aload_n 0, 1, 0)) rfl rfl rfl
theorem w23_1 {a : Nat} : W (pj lw) 23 1 L (.ref a :: S) k n H Q ↔ (isO H a = true ∧ W (pj lw) 23 4 L (fld H a 1 :: S) k n H Q) := W_getf (rfl : (pj lw).1 23 1 = some (.getfield 7, 3, 1))
theorem w23_4 {x : Int32} {l0 : Slot} : W (pj lw) 23 4 (l0 :: .val (.int x) :: L) S k n H Q ↔ W (pj lw) 23 5 (l0 :: .val (.int x) :: L) (.int x :: S) k n H Q := W_s (rfl : (pj lw).1 23 4 = some (.iload_n 1, 1, 0)) rfl rfl rfl
theorem w23_5 {x : Int32} {l0 l1 : Slot} : W (pj lw) 23 5 (l0 :: l1 :: .val (.int x) :: L) S k n H Q ↔ W (pj lw) 23 6 (l0 :: l1 :: .val (.int x) :: L) (.int x :: S) k n H Q := W_s (rfl : (pj lw).1 23 5 = some (.iload_n 2, 1, 0)) rfl rfl rfl
theorem w23_6 {x i : Int32} {a : Nat} : W (pj lw) 23 6 L (.int x :: .int i :: .ref a :: S) k n H Q ↔ (inAw H a .int i = true ∧ W (pj lw) 23 7 L S k n (wr H a i.toNatClampNeg (.int x)) Q) := W_iastore (rfl : (pj lw).1 23 6 = some (.iastore, 1, 0))
theorem w23_7 {x : Nat} : W (pj lw) 23 7 (.val (.ref x) :: L) S k n H Q ↔ W (pj lw) 23 8 (.val (.ref x) :: L) (.ref x :: S) k n H Q := W_s (rfl : (pj lw).1 23 7 = some (.aload_n 0, 1, 0)) rfl rfl rfl
theorem w23_8 {a : Nat} : W (pj lw) 23 8 L (.ref a :: S) k n H Q ↔ (isO H a = true ∧ W (pj lw) 23 11 L (fld H a 2 :: S) k n H Q) := W_getf (rfl : (pj lw).1 23 8 = some (.getfield 13, 3, 2))
theorem w23_11 {x : Int32} {l0 : Slot} : W (pj lw) 23 11 (l0 :: .val (.int x) :: L) S k n H Q ↔ W (pj lw) 23 12 (l0 :: .val (.int x) :: L) (.int x :: S) k n H Q := W_s (rfl : (pj lw).1 23 11 = some (.iload_n 1, 1, 0)) rfl rfl rfl
theorem w23_12 {x : Int32} {l0 l1 l2 : Slot} : W (pj lw) 23 12 (l0 :: l1 :: l2 :: .val (.int x) :: L) S k n H Q ↔ W (pj lw) 23 13 (l0 :: l1 :: l2 :: .val (.int x) :: L) (.int x :: S) k n H Q := W_s (rfl : (pj lw).1 23 12 = some (.iload_n 3, 1, 0)) rfl rfl rfl
theorem w23_13 {x i : Int32} {a : Nat} : W (pj lw) 23 13 L (.int x :: .int i :: .ref a :: S) k n H Q ↔ (inAw H a .int i = true ∧ W (pj lw) 23 14 L S k n (wr H a i.toNatClampNeg (.int x)) Q) := W_iastore (rfl : (pj lw).1 23 13 = some (.iastore, 1, 0))
theorem w23_14 {x : Nat} : W (pj lw) 23 14 (.val (.ref x) :: L) S k n H Q ↔ W (pj lw) 23 15 (.val (.ref x) :: L) (.ref x :: S) k n H Q := W_s (rfl : (pj lw).1 23 14 = some (.aload_n 0, 1, 0)) rfl rfl rfl
theorem w23_15 {a : Nat} : W (pj lw) 23 15 L (.ref a :: S) k n H Q ↔ (isO H a = true ∧ W (pj lw) 23 18 L (fld H a 3 :: S) k n H Q) := W_getf (rfl : (pj lw).1 23 15 = some (.getfield 16, 3, 3))
theorem w23_18 {x : Int32} {l0 : Slot} : W (pj lw) 23 18 (l0 :: .val (.int x) :: L) S k n H Q ↔ W (pj lw) 23 19 (l0 :: .val (.int x) :: L) (.int x :: S) k n H Q := W_s (rfl : (pj lw).1 23 18 = some (.iload_n 1, 1, 0)) rfl rfl rfl
theorem w23_19 {x : Int32} {l0 l1 l2 l3 : Slot} : W (pj lw) 23 19 (l0 :: l1 :: l2 :: l3 :: .val (.int x) :: L) S k n H Q ↔ W (pj lw) 23 21 (l0 :: l1 :: l2 :: l3 :: .val (.int x) :: L) (.int x :: S) k n H Q := W_s (rfl : (pj lw).1 23 19 = some (.iload 4, 2, 0)) rfl rfl rfl
theorem w23_21 {x i : Int32} {a : Nat} : W (pj lw) 23 21 L (.int x :: .int i :: .ref a :: S) k n H Q ↔ (inAw H a .int i = true ∧ W (pj lw) 23 22 L S k n (wr H a i.toNatClampNeg (.int x)) Q) := W_iastore (rfl : (pj lw).1 23 21 = some (.iastore, 1, 0))
theorem w23_22 {x : Nat} : W (pj lw) 23 22 (.val (.ref x) :: L) S k n H Q ↔ W (pj lw) 23 23 (.val (.ref x) :: L) (.ref x :: S) k n H Q := W_s (rfl : (pj lw).1 23 22 = some (.aload_n 0, 1, 0)) rfl rfl rfl
theorem w23_23 {a : Nat} : W (pj lw) 23 23 L (.ref a :: S) k n H Q ↔ (isO H a = true ∧ W (pj lw) 23 26 L (fld H a 4 :: S) k n H Q) := W_getf (rfl : (pj lw).1 23 23 = some (.getfield 19, 3, 4))
theorem w23_26 {x : Int32} {l0 : Slot} : W (pj lw) 23 26 (l0 :: .val (.int x) :: L) S k n H Q ↔ W (pj lw) 23 27 (l0 :: .val (.int x) :: L) (.int x :: S) k n H Q := W_s (rfl : (pj lw).1 23 26 = some (.iload_n 1, 1, 0)) rfl rfl rfl
theorem w23_27 : W (pj lw) 23 27 L S k n H Q ↔ W (pj lw) 23 28 L (.int 1 :: S) k n H Q := W_s (rfl : (pj lw).1 23 27 = some (.iconst 1, 1, 0)) rfl rfl rfl
theorem w23_28 {x i : Int32} {a : Nat} : W (pj lw) 23 28 L (.int x :: .int i :: .ref a :: S) k n H Q ↔ (((inAw H a .byte i = true ∧ okv .byte (.int x) = true) ∨ (inAw H a .boolean i = true ∧ okv .boolean (.int x) = true)) ∧ W (pj lw) 23 29 L S k n (wr H a i.toNatClampNeg (.int x)) Q) := W_bastore (rfl : (pj lw).1 23 28 = some (.bastore, 1, 0))
theorem w23_29 {x : Nat} : W (pj lw) 23 29 (.val (.ref x) :: L) S k n H Q ↔ W (pj lw) 23 30 (.val (.ref x) :: L) (.ref x :: S) k n H Q := W_s (rfl : (pj lw).1 23 29 = some (.aload_n 0, 1, 0)) rfl rfl rfl
theorem w23_30 {a : Nat} : W (pj lw) 23 30 L (.ref a :: S) k n H Q ↔ (isO H a = true ∧ W (pj lw) 23 33 L (fld H a 5 :: S) k n H Q) := W_getf (rfl : (pj lw).1 23 30 = some (.getfield 23, 3, 5))
theorem w23_33 {x : Int32} {l0 : Slot} : W (pj lw) 23 33 (l0 :: .val (.int x) :: L) S k n H Q ↔ W (pj lw) 23 34 (l0 :: .val (.int x) :: L) (.int x :: S) k n H Q := W_s (rfl : (pj lw).1 23 33 = some (.iload_n 1, 1, 0)) rfl rfl rfl
theorem w23_34 : W (pj lw) 23 34 L S k n H Q ↔ W (pj lw) 23 35 L (.int 0 :: S) k n H Q := W_s (rfl : (pj lw).1 23 34 = some (.iconst 0, 1, 0)) rfl rfl rfl
theorem w23_35 {x i : Int32} {a : Nat} : W (pj lw) 23 35 L (.int x :: .int i :: .ref a :: S) k n H Q ↔ (((inAw H a .byte i = true ∧ okv .byte (.int x) = true) ∨ (inAw H a .boolean i = true ∧ okv .boolean (.int x) = true)) ∧ W (pj lw) 23 36 L S k n (wr H a i.toNatClampNeg (.int x)) Q) := W_bastore (rfl : (pj lw).1 23 35 = some (.bastore, 1, 0))
theorem w23_36 {x : Nat} : W (pj lw) 23 36 (.val (.ref x) :: L) S k n H Q ↔ W (pj lw) 23 37 (.val (.ref x) :: L) (.ref x :: S) k n H Q := W_s (rfl : (pj lw).1 23 36 = some (.aload_n 0, 1, 0)) rfl rfl rfl
theorem w23_37 {x : Nat} : W (pj lw) 23 37 L (.ref x :: S) k n H Q ↔ W (pj lw) 23 38 L (.ref x :: .ref x :: S) k n H Q := W_s (rfl : (pj lw).1 23 37 = some (.dup, 1, 0)) rfl rfl rfl
theorem w23_38 {a : Nat} : W (pj lw) 23 38 L (.ref a :: S) k n H Q ↔ (isO H a = true ∧ W (pj lw) 23 41 L (fld H a 12 :: S) k n H Q) := W_getf (rfl : (pj lw).1 23 38 = some (.getfield 48, 3, 12))
theorem w23_41 : W (pj lw) 23 41 L S k n H Q ↔ W (pj lw) 23 42 L (.int 1 :: S) k n H Q := W_s (rfl : (pj lw).1 23 41 = some (.iconst 1, 1, 0)) rfl rfl rfl
theorem w23_42 {x y : Int32} : W (pj lw) 23 42 L (.int y :: .int x :: S) k n H Q ↔ W (pj lw) 23 43 L (.int (x + y) :: S) k n H Q := W_s (rfl : (pj lw).1 23 42 = some (.iadd, 1, 0)) rfl rfl rfl
theorem w23_43 {a : Nat} {v : Value} : W (pj lw) 23 43 L (v :: .ref a :: S) k n H Q ↔ ((isOw H a = true ∧ okv (.int) v = true) ∧ W (pj lw) 23 46 L S k n (wr H a 12 v) Q) := W_putf (rfl : (pj lw).1 23 43 = some (.putfield 48, 3, 12))
theorem w23_46 : W (pj lw) 23 46 L [] k n H Q ↔ Q none H := W_r (rfl : (pj lw).1 23 46 = some (.return_, 1, 0)) rfl
theorem c24 {x0 : Nat} {x1 : Int32} : Cl (pj lw) 24 [.ref x0, .int x1] H Q ↔ W (pj lw) 24 0 [.val (.ref x0), .val (.int x1)] [] 0 0 H Q := cl_unf rfl
theorem w24_0 {x : Nat} : W (pj lw) 24 0 (.val (.ref x) :: L) S k n H Q ↔ W (pj lw) 24 1 (.val (.ref x) :: L) (.ref x :: S) k n H Q := W_s (rfl : (pj lw).1 24 0 = some (.aload_n 0, 1, 0)) rfl rfl rfl
theorem w24_1 {a : Nat} : W (pj lw) 24 1 L (.ref a :: S) k n H Q ↔ (isO H a = true ∧ W (pj lw) 24 4 L (fld H a 4 :: S) k n H Q) := W_getf (rfl : (pj lw).1 24 1 = some (.getfield 19, 3, 4))
theorem w24_4 {x : Int32} {l0 : Slot} : W (pj lw) 24 4 (l0 :: .val (.int x) :: L) S k n H Q ↔ W (pj lw) 24 5 (l0 :: .val (.int x) :: L) (.int x :: S) k n H Q := W_s (rfl : (pj lw).1 24 4 = some (.iload_n 1, 1, 0)) rfl rfl rfl
theorem w24_5 : W (pj lw) 24 5 L S k n H Q ↔ W (pj lw) 24 6 L (.int 0 :: S) k n H Q := W_s (rfl : (pj lw).1 24 5 = some (.iconst 0, 1, 0)) rfl rfl rfl
theorem w24_6 {x i : Int32} {a : Nat} : W (pj lw) 24 6 L (.int x :: .int i :: .ref a :: S) k n H Q ↔ (((inAw H a .byte i = true ∧ okv .byte (.int x) = true) ∨ (inAw H a .boolean i = true ∧ okv .boolean (.int x) = true)) ∧ W (pj lw) 24 7 L S k n (wr H a i.toNatClampNeg (.int x)) Q) := W_bastore (rfl : (pj lw).1 24 6 = some (.bastore, 1, 0))
theorem w24_7 {x : Nat} : W (pj lw) 24 7 (.val (.ref x) :: L) S k n H Q ↔ W (pj lw) 24 8 (.val (.ref x) :: L) (.ref x :: S) k n H Q := W_s (rfl : (pj lw).1 24 7 = some (.aload_n 0, 1, 0)) rfl rfl rfl
theorem w24_8 {a : Nat} : W (pj lw) 24 8 L (.ref a :: S) k n H Q ↔ (isO H a = true ∧ W (pj lw) 24 11 L (fld H a 5 :: S) k n H Q) := W_getf (rfl : (pj lw).1 24 8 = some (.getfield 23, 3, 5))
theorem w24_11 {x : Int32} {l0 : Slot} : W (pj lw) 24 11 (l0 :: .val (.int x) :: L) S k n H Q ↔ W (pj lw) 24 12 (l0 :: .val (.int x) :: L) (.int x :: S) k n H Q := W_s (rfl : (pj lw).1 24 11 = some (.iload_n 1, 1, 0)) rfl rfl rfl
theorem w24_12 : W (pj lw) 24 12 L S k n H Q ↔ W (pj lw) 24 13 L (.int 0 :: S) k n H Q := W_s (rfl : (pj lw).1 24 12 = some (.iconst 0, 1, 0)) rfl rfl rfl
theorem w24_13 {x i : Int32} {a : Nat} : W (pj lw) 24 13 L (.int x :: .int i :: .ref a :: S) k n H Q ↔ (((inAw H a .byte i = true ∧ okv .byte (.int x) = true) ∨ (inAw H a .boolean i = true ∧ okv .boolean (.int x) = true)) ∧ W (pj lw) 24 14 L S k n (wr H a i.toNatClampNeg (.int x)) Q) := W_bastore (rfl : (pj lw).1 24 13 = some (.bastore, 1, 0))
theorem w24_14 {x : Nat} : W (pj lw) 24 14 (.val (.ref x) :: L) S k n H Q ↔ W (pj lw) 24 15 (.val (.ref x) :: L) (.ref x :: S) k n H Q := W_s (rfl : (pj lw).1 24 14 = some (.aload_n 0, 1, 0)) rfl rfl rfl
theorem w24_15 {x : Nat} : W (pj lw) 24 15 L (.ref x :: S) k n H Q ↔ W (pj lw) 24 16 L (.ref x :: .ref x :: S) k n H Q := W_s (rfl : (pj lw).1 24 15 = some (.dup, 1, 0)) rfl rfl rfl
theorem w24_16 {a : Nat} : W (pj lw) 24 16 L (.ref a :: S) k n H Q ↔ (isO H a = true ∧ W (pj lw) 24 19 L (fld H a 12 :: S) k n H Q) := W_getf (rfl : (pj lw).1 24 16 = some (.getfield 48, 3, 12))
theorem w24_19 : W (pj lw) 24 19 L S k n H Q ↔ W (pj lw) 24 20 L (.int 1 :: S) k n H Q := W_s (rfl : (pj lw).1 24 19 = some (.iconst 1, 1, 0)) rfl rfl rfl
theorem w24_20 {x y : Int32} : W (pj lw) 24 20 L (.int y :: .int x :: S) k n H Q ↔ W (pj lw) 24 21 L (.int (x - y) :: S) k n H Q := W_s (rfl : (pj lw).1 24 20 = some (.isub, 1, 0)) rfl rfl rfl
theorem w24_21 {a : Nat} {v : Value} : W (pj lw) 24 21 L (v :: .ref a :: S) k n H Q ↔ ((isOw H a = true ∧ okv (.int) v = true) ∧ W (pj lw) 24 24 L S k n (wr H a 12 v) Q) := W_putf (rfl : (pj lw).1 24 21 = some (.putfield 48, 3, 12))
theorem w24_24 : W (pj lw) 24 24 L [] k n H Q ↔ Q none H := W_r (rfl : (pj lw).1 24 24 = some (.return_, 1, 0)) rfl
theorem c25 {x0 : Nat} {x1 : Int32} : Cl (pj lw) 25 [.ref x0, .int x1] H Q ↔ W (pj lw) 25 0 [.val (.ref x0), .val (.int x1)] [] 0 0 H Q := cl_unf rfl
theorem w25_0 {x : Nat} : W (pj lw) 25 0 (.val (.ref x) :: L) S k n H Q ↔ W (pj lw) 25 1 (.val (.ref x) :: L) (.ref x :: S) k n H Q := W_s (rfl : (pj lw).1 25 0 = some (.aload_n 0, 1, 0)) rfl rfl rfl
theorem w25_1 {x : Int32} {l0 : Slot} : W (pj lw) 25 1 (l0 :: .val (.int x) :: L) S k n H Q ↔ W (pj lw) 25 2 (l0 :: .val (.int x) :: L) (.int x :: S) k n H Q := W_s (rfl : (pj lw).1 25 1 = some (.iload_n 1, 1, 0)) rfl rfl rfl
theorem w25_2 {a : Nat} {x0 : Int32} : W (pj lw) 25 2 L (.int x0 :: .ref a :: S) k n H Q ↔ ((isO H a = true ∧ cs S + (2 + 11) + 0 ≤ 14) ∧ Cl (pj lw) 40 [.ref a, .int x0] H (fun v H => W (pj lw) 25 5 L (v.toList ++ S) k n H Q)) := W_inst (as := [.int x0]) (rfl : (pj lw).1 25 2 = some (.invokevirtual 103, 3, 40)) rfl rfl rfl (Nat.le_of_ble_eq_true rfl) (Nat.le_of_ble_eq_true rfl) ⟨rfl, rfl⟩
theorem w25_5 {x : Int32} : W (pj lw) 25 5 L (.int x :: S) k n H Q ↔ (if x = 0 then W (pj lw) 25 17 L S k n H Q else W (pj lw) 25 8 L S k n H Q) := W_if_eq (rfl : (pj lw).1 25 5 = some (.ifCond .eq 12, 3, 0)) rfl
theorem w25_8 {x : Nat} : W (pj lw) 25 8 (.val (.ref x) :: L) S k n H Q ↔ W (pj lw) 25 9 (.val (.ref x) :: L) (.ref x :: S) k n H Q := W_s (rfl : (pj lw).1 25 8 = some (.aload_n 0, 1, 0)) rfl rfl rfl
theorem w25_9 {a : Nat} : W (pj lw) 25 9 L (.ref a :: S) k n H Q ↔ (isO H a = true ∧ W (pj lw) 25 12 L (fld H a 5 :: S) k n H Q) := W_getf (rfl : (pj lw).1 25 9 = some (.getfield 23, 3, 5))
theorem w25_12 {x : Int32} {l0 : Slot} : W (pj lw) 25 12 (l0 :: .val (.int x) :: L) S k n H Q ↔ W (pj lw) 25 13 (l0 :: .val (.int x) :: L) (.int x :: S) k n H Q := W_s (rfl : (pj lw).1 25 12 = some (.iload_n 1, 1, 0)) rfl rfl rfl
theorem w25_13 {i : Int32} {a : Nat} : W (pj lw) 25 13 L (.int i :: .ref a :: S) k n H Q ↔ ((inA H a .byte i = true ∨ inA H a .boolean i = true) ∧ W (pj lw) 25 14 L (elt H a i :: S) k n H Q) := W_baload (rfl : (pj lw).1 25 13 = some (.baload, 1, 0))
theorem w25_14 {x : Int32} : W (pj lw) 25 14 L (.int x :: S) k n H Q ↔ (if x = 0 then W (pj lw) 25 18 L S k n H Q else W (pj lw) 25 17 L S k n H Q) := W_if_eq (rfl : (pj lw).1 25 14 = some (.ifCond .eq 4, 3, 0)) rfl
theorem w25_17 : W (pj lw) 25 17 L [] k n H Q ↔ Q none H := W_r (rfl : (pj lw).1 25 17 = some (.return_, 1, 0)) rfl
theorem w25_18 {x : Nat} : W (pj lw) 25 18 (.val (.ref x) :: L) S k n H Q ↔ W (pj lw) 25 19 (.val (.ref x) :: L) (.ref x :: S) k n H Q := W_s (rfl : (pj lw).1 25 18 = some (.aload_n 0, 1, 0)) rfl rfl rfl
theorem w25_19 {a : Nat} : W (pj lw) 25 19 L (.ref a :: S) k n H Q ↔ (isO H a = true ∧ W (pj lw) 25 22 L (fld H a 5 :: S) k n H Q) := W_getf (rfl : (pj lw).1 25 19 = some (.getfield 23, 3, 5))
theorem w25_22 {x : Int32} {l0 : Slot} : W (pj lw) 25 22 (l0 :: .val (.int x) :: L) S k n H Q ↔ W (pj lw) 25 23 (l0 :: .val (.int x) :: L) (.int x :: S) k n H Q := W_s (rfl : (pj lw).1 25 22 = some (.iload_n 1, 1, 0)) rfl rfl rfl
theorem w25_23 : W (pj lw) 25 23 L S k n H Q ↔ W (pj lw) 25 24 L (.int 1 :: S) k n H Q := W_s (rfl : (pj lw).1 25 23 = some (.iconst 1, 1, 0)) rfl rfl rfl
theorem w25_24 {x i : Int32} {a : Nat} : W (pj lw) 25 24 L (.int x :: .int i :: .ref a :: S) k n H Q ↔ (((inAw H a .byte i = true ∧ okv .byte (.int x) = true) ∨ (inAw H a .boolean i = true ∧ okv .boolean (.int x) = true)) ∧ W (pj lw) 25 25 L S k n (wr H a i.toNatClampNeg (.int x)) Q) := W_bastore (rfl : (pj lw).1 25 24 = some (.bastore, 1, 0))
theorem w25_25 {x : Nat} : W (pj lw) 25 25 (.val (.ref x) :: L) S k n H Q ↔ W (pj lw) 25 26 (.val (.ref x) :: L) (.ref x :: S) k n H Q := W_s (rfl : (pj lw).1 25 25 = some (.aload_n 0, 1, 0)) rfl rfl rfl
theorem w25_26 {x : Nat} : W (pj lw) 25 26 L (.ref x :: S) k n H Q ↔ W (pj lw) 25 27 L (.ref x :: .ref x :: S) k n H Q := W_s (rfl : (pj lw).1 25 26 = some (.dup, 1, 0)) rfl rfl rfl
theorem w25_27 {a : Nat} : W (pj lw) 25 27 L (.ref a :: S) k n H Q ↔ (isO H a = true ∧ W (pj lw) 25 30 L (fld H a 13 :: S) k n H Q) := W_getf (rfl : (pj lw).1 25 27 = some (.getfield 51, 3, 13))
theorem w25_30 : W (pj lw) 25 30 L S k n H Q ↔ W (pj lw) 25 31 L (.int 1 :: S) k n H Q := W_s (rfl : (pj lw).1 25 30 = some (.iconst 1, 1, 0)) rfl rfl rfl
theorem w25_31 {x y : Int32} : W (pj lw) 25 31 L (.int y :: .int x :: S) k n H Q ↔ W (pj lw) 25 32 L (.int (x + y) :: S) k n H Q := W_s (rfl : (pj lw).1 25 31 = some (.iadd, 1, 0)) rfl rfl rfl
theorem w25_32 {a : Nat} {v : Value} : W (pj lw) 25 32 L (v :: .ref a :: S) k n H Q ↔ ((isOw H a = true ∧ okv (.int) v = true) ∧ W (pj lw) 25 35 L S k n (wr H a 13 v) Q) := W_putf (rfl : (pj lw).1 25 32 = some (.putfield 51, 3, 13))
theorem w25_35 {x : Nat} : W (pj lw) 25 35 (.val (.ref x) :: L) S k n H Q ↔ W (pj lw) 25 36 (.val (.ref x) :: L) (.ref x :: S) k n H Q := W_s (rfl : (pj lw).1 25 35 = some (.aload_n 0, 1, 0)) rfl rfl rfl
theorem w25_36 {x : Nat} : W (pj lw) 25 36 L (.ref x :: S) k n H Q ↔ W (pj lw) 25 37 L (.ref x :: .ref x :: S) k n H Q := W_s (rfl : (pj lw).1 25 36 = some (.dup, 1, 0)) rfl rfl rfl
theorem w25_37 {a : Nat} : W (pj lw) 25 37 L (.ref a :: S) k n H Q ↔ (isO H a = true ∧ W (pj lw) 25 40 L (fld H a 14 :: S) k n H Q) := W_getf (rfl : (pj lw).1 25 37 = some (.getfield 54, 3, 14))
theorem w25_40 {x : Nat} : W (pj lw) 25 40 (.val (.ref x) :: L) S k n H Q ↔ W (pj lw) 25 41 (.val (.ref x) :: L) (.ref x :: S) k n H Q := W_s (rfl : (pj lw).1 25 40 = some (.aload_n 0, 1, 0)) rfl rfl rfl
theorem w25_41 {a : Nat} : W (pj lw) 25 41 L (.ref a :: S) k n H Q ↔ (isO H a = true ∧ W (pj lw) 25 44 L (fld H a 3 :: S) k n H Q) := W_getf (rfl : (pj lw).1 25 41 = some (.getfield 16, 3, 3))
theorem w25_44 {x : Int32} {l0 : Slot} : W (pj lw) 25 44 (l0 :: .val (.int x) :: L) S k n H Q ↔ W (pj lw) 25 45 (l0 :: .val (.int x) :: L) (.int x :: S) k n H Q := W_s (rfl : (pj lw).1 25 44 = some (.iload_n 1, 1, 0)) rfl rfl rfl
theorem w25_45 {i : Int32} {a : Nat} : W (pj lw) 25 45 L (.int i :: .ref a :: S) k n H Q ↔ (inA H a .int i = true ∧ W (pj lw) 25 46 L (elt H a i :: S) k n H Q) := W_iaload (rfl : (pj lw).1 25 45 = some (.iaload, 1, 0))
theorem w25_46 {x : Int32} : W (pj lw) 25 46 L (.int x :: S) k n H Q ↔ W (pj lw) 25 47 L (.long x.toInt64 :: S) k n H Q := W_s (rfl : (pj lw).1 25 46 = some (.i2l, 1, 0)) rfl rfl rfl
theorem w25_47 {x y : Int64} : W (pj lw) 25 47 L (.long y :: .long x :: S) k n H Q ↔ W (pj lw) 25 48 L (.long (x + y) :: S) k n H Q := W_s (rfl : (pj lw).1 25 47 = some (.ladd, 1, 0)) rfl rfl rfl
theorem w25_48 {a : Nat} {v : Value} : W (pj lw) 25 48 L (v :: .ref a :: S) k n H Q ↔ ((isOw H a = true ∧ okv (.long) v = true) ∧ W (pj lw) 25 51 L S k n (wr H a 14 v) Q) := W_putf (rfl : (pj lw).1 25 48 = some (.putfield 54, 3, 14))
theorem w25_51 {x : Nat} : W (pj lw) 25 51 (.val (.ref x) :: L) S k n H Q ↔ W (pj lw) 25 52 (.val (.ref x) :: L) (.ref x :: S) k n H Q := W_s (rfl : (pj lw).1 25 51 = some (.aload_n 0, 1, 0)) rfl rfl rfl
theorem w25_52 {x : Nat} : W (pj lw) 25 52 (.val (.ref x) :: L) S k n H Q ↔ W (pj lw) 25 53 (.val (.ref x) :: L) (.ref x :: S) k n H Q := W_s (rfl : (pj lw).1 25 52 = some (.aload_n 0, 1, 0)) rfl rfl rfl
theorem w25_53 {a : Nat} : W (pj lw) 25 53 L (.ref a :: S) k n H Q ↔ (isO H a = true ∧ W (pj lw) 25 56 L (fld H a 1 :: S) k n H Q) := W_getf (rfl : (pj lw).1 25 53 = some (.getfield 7, 3, 1))
theorem w25_56 {x : Int32} {l0 : Slot} : W (pj lw) 25 56 (l0 :: .val (.int x) :: L) S k n H Q ↔ W (pj lw) 25 57 (l0 :: .val (.int x) :: L) (.int x :: S) k n H Q := W_s (rfl : (pj lw).1 25 56 = some (.iload_n 1, 1, 0)) rfl rfl rfl
theorem w25_57 {i : Int32} {a : Nat} : W (pj lw) 25 57 L (.int i :: .ref a :: S) k n H Q ↔ (inA H a .int i = true ∧ W (pj lw) 25 58 L (elt H a i :: S) k n H Q) := W_iaload (rfl : (pj lw).1 25 57 = some (.iaload, 1, 0))
theorem w25_58 {x : Int32} {l0 : Slot} : W (pj lw) 25 58 (l0 :: .val (.int x) :: L) S k n H Q ↔ W (pj lw) 25 59 (l0 :: .val (.int x) :: L) (.int x :: S) k n H Q := W_s (rfl : (pj lw).1 25 58 = some (.iload_n 1, 1, 0)) rfl rfl rfl
theorem w25_59 {a : Nat} {x0 : Int32} {x1 : Int32} : W (pj lw) 25 59 L (.int x1 :: .int x0 :: .ref a :: S) k n H Q ↔ ((isO H a = true ∧ cs S + (3 + 11) + 0 ≤ 14) ∧ Cl (pj lw) 27 [.ref a, .int x0, .int x1] H (fun v H => W (pj lw) 25 62 L (v.toList ++ S) k n H Q)) := W_inst (as := [.int x0, .int x1]) (rfl : (pj lw).1 25 59 = some (.invokevirtual 129, 3, 27)) rfl rfl rfl (Nat.le_of_ble_eq_true rfl) (Nat.le_of_ble_eq_true rfl) ⟨rfl, rfl⟩
theorem w25_62 {x : Nat} : W (pj lw) 25 62 (.val (.ref x) :: L) S k n H Q ↔ W (pj lw) 25 63 (.val (.ref x) :: L) (.ref x :: S) k n H Q := W_s (rfl : (pj lw).1 25 62 = some (.aload_n 0, 1, 0)) rfl rfl rfl
theorem w25_63 {x : Nat} : W (pj lw) 25 63 (.val (.ref x) :: L) S k n H Q ↔ W (pj lw) 25 64 (.val (.ref x) :: L) (.ref x :: S) k n H Q := W_s (rfl : (pj lw).1 25 63 = some (.aload_n 0, 1, 0)) rfl rfl rfl
theorem w25_64 {a : Nat} : W (pj lw) 25 64 L (.ref a :: S) k n H Q ↔ (isO H a = true ∧ W (pj lw) 25 67 L (fld H a 2 :: S) k n H Q) := W_getf (rfl : (pj lw).1 25 64 = some (.getfield 13, 3, 2))
theorem w25_67 {x : Int32} {l0 : Slot} : W (pj lw) 25 67 (l0 :: .val (.int x) :: L) S k n H Q ↔ W (pj lw) 25 68 (l0 :: .val (.int x) :: L) (.int x :: S) k n H Q := W_s (rfl : (pj lw).1 25 67 = some (.iload_n 1, 1, 0)) rfl rfl rfl
theorem w25_68 {i : Int32} {a : Nat} : W (pj lw) 25 68 L (.int i :: .ref a :: S) k n H Q ↔ (inA H a .int i = true ∧ W (pj lw) 25 69 L (elt H a i :: S) k n H Q) := W_iaload (rfl : (pj lw).1 25 68 = some (.iaload, 1, 0))
theorem w25_69 {x : Int32} {l0 : Slot} : W (pj lw) 25 69 (l0 :: .val (.int x) :: L) S k n H Q ↔ W (pj lw) 25 70 (l0 :: .val (.int x) :: L) (.int x :: S) k n H Q := W_s (rfl : (pj lw).1 25 69 = some (.iload_n 1, 1, 0)) rfl rfl rfl
theorem w25_70 {a : Nat} {x0 : Int32} {x1 : Int32} : W (pj lw) 25 70 L (.int x1 :: .int x0 :: .ref a :: S) k n H Q ↔ ((isO H a = true ∧ cs S + (3 + 11) + 0 ≤ 14) ∧ Cl (pj lw) 27 [.ref a, .int x0, .int x1] H (fun v H => W (pj lw) 25 73 L (v.toList ++ S) k n H Q)) := W_inst (as := [.int x0, .int x1]) (rfl : (pj lw).1 25 70 = some (.invokevirtual 129, 3, 27)) rfl rfl rfl (Nat.le_of_ble_eq_true rfl) (Nat.le_of_ble_eq_true rfl) ⟨rfl, rfl⟩
theorem w25_73 : W (pj lw) 25 73 L [] k n H Q ↔ Q none H := W_r (rfl : (pj lw).1 25 73 = some (.return_, 1, 0)) rfl
theorem c26 {x0 : Nat} {x1 : Int32} : Cl (pj lw) 26 [.ref x0, .int x1] H Q ↔ W (pj lw) 26 0 [.val (.ref x0), .val (.int x1)] [] 0 0 H Q := cl_unf rfl
theorem w26_0 {x : Nat} : W (pj lw) 26 0 (.val (.ref x) :: L) S k n H Q ↔ W (pj lw) 26 1 (.val (.ref x) :: L) (.ref x :: S) k n H Q := W_s (rfl : (pj lw).1 26 0 = some (.aload_n 0, 1, 0)) rfl rfl rfl
theorem w26_1 {x : Int32} {l0 : Slot} : W (pj lw) 26 1 (l0 :: .val (.int x) :: L) S k n H Q ↔ W (pj lw) 26 2 (l0 :: .val (.int x) :: L) (.int x :: S) k n H Q := W_s (rfl : (pj lw).1 26 1 = some (.iload_n 1, 1, 0)) rfl rfl rfl
theorem w26_2 {a : Nat} {x0 : Int32} : W (pj lw) 26 2 L (.int x0 :: .ref a :: S) k n H Q ↔ ((isO H a = true ∧ cs S + (2 + 11) + 0 ≤ 16) ∧ Cl (pj lw) 40 [.ref a, .int x0] H (fun v H => W (pj lw) 26 5 L (v.toList ++ S) k n H Q)) := W_inst (as := [.int x0]) (rfl : (pj lw).1 26 2 = some (.invokevirtual 103, 3, 40)) rfl rfl rfl (Nat.le_of_ble_eq_true rfl) (Nat.le_of_ble_eq_true rfl) ⟨rfl, rfl⟩
theorem w26_5 {x : Int32} : W (pj lw) 26 5 L (.int x :: S) k n H Q ↔ (if x = 0 then W (pj lw) 26 17 L S k n H Q else W (pj lw) 26 8 L S k n H Q) := W_if_eq (rfl : (pj lw).1 26 5 = some (.ifCond .eq 12, 3, 0)) rfl
theorem w26_8 {x : Nat} : W (pj lw) 26 8 (.val (.ref x) :: L) S k n H Q ↔ W (pj lw) 26 9 (.val (.ref x) :: L) (.ref x :: S) k n H Q := W_s (rfl : (pj lw).1 26 8 = some (.aload_n 0, 1, 0)) rfl rfl rfl
theorem w26_9 {a : Nat} : W (pj lw) 26 9 L (.ref a :: S) k n H Q ↔ (isO H a = true ∧ W (pj lw) 26 12 L (fld H a 5 :: S) k n H Q) := W_getf (rfl : (pj lw).1 26 9 = some (.getfield 23, 3, 5))
theorem w26_12 {x : Int32} {l0 : Slot} : W (pj lw) 26 12 (l0 :: .val (.int x) :: L) S k n H Q ↔ W (pj lw) 26 13 (l0 :: .val (.int x) :: L) (.int x :: S) k n H Q := W_s (rfl : (pj lw).1 26 12 = some (.iload_n 1, 1, 0)) rfl rfl rfl
theorem w26_13 {i : Int32} {a : Nat} : W (pj lw) 26 13 L (.int i :: .ref a :: S) k n H Q ↔ ((inA H a .byte i = true ∨ inA H a .boolean i = true) ∧ W (pj lw) 26 14 L (elt H a i :: S) k n H Q) := W_baload (rfl : (pj lw).1 26 13 = some (.baload, 1, 0))
theorem w26_14 {x : Int32} : W (pj lw) 26 14 L (.int x :: S) k n H Q ↔ (if x = 0 then W (pj lw) 26 17 L S k n H Q else W (pj lw) 26 18 L S k n H Q) := W_if_ne (rfl : (pj lw).1 26 14 = some (.ifCond .ne 4, 3, 0)) rfl
theorem w26_17 : W (pj lw) 26 17 L [] k n H Q ↔ Q none H := W_r (rfl : (pj lw).1 26 17 = some (.return_, 1, 0)) rfl
theorem w26_18 {x : Nat} : W (pj lw) 26 18 (.val (.ref x) :: L) S k n H Q ↔ W (pj lw) 26 19 (.val (.ref x) :: L) (.ref x :: S) k n H Q := W_s (rfl : (pj lw).1 26 18 = some (.aload_n 0, 1, 0)) rfl rfl rfl
theorem w26_19 {a : Nat} : W (pj lw) 26 19 L (.ref a :: S) k n H Q ↔ (isO H a = true ∧ W (pj lw) 26 22 L (fld H a 5 :: S) k n H Q) := W_getf (rfl : (pj lw).1 26 19 = some (.getfield 23, 3, 5))
theorem w26_22 {x : Int32} {l0 : Slot} : W (pj lw) 26 22 (l0 :: .val (.int x) :: L) S k n H Q ↔ W (pj lw) 26 23 (l0 :: .val (.int x) :: L) (.int x :: S) k n H Q := W_s (rfl : (pj lw).1 26 22 = some (.iload_n 1, 1, 0)) rfl rfl rfl
theorem w26_23 : W (pj lw) 26 23 L S k n H Q ↔ W (pj lw) 26 24 L (.int 0 :: S) k n H Q := W_s (rfl : (pj lw).1 26 23 = some (.iconst 0, 1, 0)) rfl rfl rfl
theorem w26_24 {x i : Int32} {a : Nat} : W (pj lw) 26 24 L (.int x :: .int i :: .ref a :: S) k n H Q ↔ (((inAw H a .byte i = true ∧ okv .byte (.int x) = true) ∨ (inAw H a .boolean i = true ∧ okv .boolean (.int x) = true)) ∧ W (pj lw) 26 25 L S k n (wr H a i.toNatClampNeg (.int x)) Q) := W_bastore (rfl : (pj lw).1 26 24 = some (.bastore, 1, 0))
theorem w26_25 {x : Nat} : W (pj lw) 26 25 (.val (.ref x) :: L) S k n H Q ↔ W (pj lw) 26 26 (.val (.ref x) :: L) (.ref x :: S) k n H Q := W_s (rfl : (pj lw).1 26 25 = some (.aload_n 0, 1, 0)) rfl rfl rfl
theorem w26_26 {x : Nat} : W (pj lw) 26 26 L (.ref x :: S) k n H Q ↔ W (pj lw) 26 27 L (.ref x :: .ref x :: S) k n H Q := W_s (rfl : (pj lw).1 26 26 = some (.dup, 1, 0)) rfl rfl rfl
theorem w26_27 {a : Nat} : W (pj lw) 26 27 L (.ref a :: S) k n H Q ↔ (isO H a = true ∧ W (pj lw) 26 30 L (fld H a 13 :: S) k n H Q) := W_getf (rfl : (pj lw).1 26 27 = some (.getfield 51, 3, 13))
theorem w26_30 : W (pj lw) 26 30 L S k n H Q ↔ W (pj lw) 26 31 L (.int 1 :: S) k n H Q := W_s (rfl : (pj lw).1 26 30 = some (.iconst 1, 1, 0)) rfl rfl rfl
theorem w26_31 {x y : Int32} : W (pj lw) 26 31 L (.int y :: .int x :: S) k n H Q ↔ W (pj lw) 26 32 L (.int (x - y) :: S) k n H Q := W_s (rfl : (pj lw).1 26 31 = some (.isub, 1, 0)) rfl rfl rfl
theorem w26_32 {a : Nat} {v : Value} : W (pj lw) 26 32 L (v :: .ref a :: S) k n H Q ↔ ((isOw H a = true ∧ okv (.int) v = true) ∧ W (pj lw) 26 35 L S k n (wr H a 13 v) Q) := W_putf (rfl : (pj lw).1 26 32 = some (.putfield 51, 3, 13))
theorem w26_35 {x : Nat} : W (pj lw) 26 35 (.val (.ref x) :: L) S k n H Q ↔ W (pj lw) 26 36 (.val (.ref x) :: L) (.ref x :: S) k n H Q := W_s (rfl : (pj lw).1 26 35 = some (.aload_n 0, 1, 0)) rfl rfl rfl
theorem w26_36 {x : Nat} : W (pj lw) 26 36 L (.ref x :: S) k n H Q ↔ W (pj lw) 26 37 L (.ref x :: .ref x :: S) k n H Q := W_s (rfl : (pj lw).1 26 36 = some (.dup, 1, 0)) rfl rfl rfl
theorem w26_37 {a : Nat} : W (pj lw) 26 37 L (.ref a :: S) k n H Q ↔ (isO H a = true ∧ W (pj lw) 26 40 L (fld H a 14 :: S) k n H Q) := W_getf (rfl : (pj lw).1 26 37 = some (.getfield 54, 3, 14))
theorem w26_40 {x : Nat} : W (pj lw) 26 40 (.val (.ref x) :: L) S k n H Q ↔ W (pj lw) 26 41 (.val (.ref x) :: L) (.ref x :: S) k n H Q := W_s (rfl : (pj lw).1 26 40 = some (.aload_n 0, 1, 0)) rfl rfl rfl
theorem w26_41 {a : Nat} : W (pj lw) 26 41 L (.ref a :: S) k n H Q ↔ (isO H a = true ∧ W (pj lw) 26 44 L (fld H a 3 :: S) k n H Q) := W_getf (rfl : (pj lw).1 26 41 = some (.getfield 16, 3, 3))
theorem w26_44 {x : Int32} {l0 : Slot} : W (pj lw) 26 44 (l0 :: .val (.int x) :: L) S k n H Q ↔ W (pj lw) 26 45 (l0 :: .val (.int x) :: L) (.int x :: S) k n H Q := W_s (rfl : (pj lw).1 26 44 = some (.iload_n 1, 1, 0)) rfl rfl rfl
theorem w26_45 {i : Int32} {a : Nat} : W (pj lw) 26 45 L (.int i :: .ref a :: S) k n H Q ↔ (inA H a .int i = true ∧ W (pj lw) 26 46 L (elt H a i :: S) k n H Q) := W_iaload (rfl : (pj lw).1 26 45 = some (.iaload, 1, 0))
theorem w26_46 {x : Int32} : W (pj lw) 26 46 L (.int x :: S) k n H Q ↔ W (pj lw) 26 47 L (.long x.toInt64 :: S) k n H Q := W_s (rfl : (pj lw).1 26 46 = some (.i2l, 1, 0)) rfl rfl rfl
theorem w26_47 {x y : Int64} : W (pj lw) 26 47 L (.long y :: .long x :: S) k n H Q ↔ W (pj lw) 26 48 L (.long (x - y) :: S) k n H Q := W_s (rfl : (pj lw).1 26 47 = some (.lsub, 1, 0)) rfl rfl rfl
theorem w26_48 {a : Nat} {v : Value} : W (pj lw) 26 48 L (v :: .ref a :: S) k n H Q ↔ ((isOw H a = true ∧ okv (.long) v = true) ∧ W (pj lw) 26 51 L S k n (wr H a 14 v) Q) := W_putf (rfl : (pj lw).1 26 48 = some (.putfield 54, 3, 14))
theorem w26_51 {x : Nat} : W (pj lw) 26 51 (.val (.ref x) :: L) S k n H Q ↔ W (pj lw) 26 52 (.val (.ref x) :: L) (.ref x :: S) k n H Q := W_s (rfl : (pj lw).1 26 51 = some (.aload_n 0, 1, 0)) rfl rfl rfl
theorem w26_52 {x : Nat} : W (pj lw) 26 52 (.val (.ref x) :: L) S k n H Q ↔ W (pj lw) 26 53 (.val (.ref x) :: L) (.ref x :: S) k n H Q := W_s (rfl : (pj lw).1 26 52 = some (.aload_n 0, 1, 0)) rfl rfl rfl
theorem w26_53 {a : Nat} : W (pj lw) 26 53 L (.ref a :: S) k n H Q ↔ (isO H a = true ∧ W (pj lw) 26 56 L (fld H a 1 :: S) k n H Q) := W_getf (rfl : (pj lw).1 26 53 = some (.getfield 7, 3, 1))
theorem w26_56 {x : Int32} {l0 : Slot} : W (pj lw) 26 56 (l0 :: .val (.int x) :: L) S k n H Q ↔ W (pj lw) 26 57 (l0 :: .val (.int x) :: L) (.int x :: S) k n H Q := W_s (rfl : (pj lw).1 26 56 = some (.iload_n 1, 1, 0)) rfl rfl rfl
theorem w26_57 {i : Int32} {a : Nat} : W (pj lw) 26 57 L (.int i :: .ref a :: S) k n H Q ↔ (inA H a .int i = true ∧ W (pj lw) 26 58 L (elt H a i :: S) k n H Q) := W_iaload (rfl : (pj lw).1 26 57 = some (.iaload, 1, 0))
theorem w26_58 {x : Int32} {l0 : Slot} : W (pj lw) 26 58 (l0 :: .val (.int x) :: L) S k n H Q ↔ W (pj lw) 26 59 (l0 :: .val (.int x) :: L) (.int x :: S) k n H Q := W_s (rfl : (pj lw).1 26 58 = some (.iload_n 1, 1, 0)) rfl rfl rfl
theorem w26_59 {a : Nat} {x0 : Int32} {x1 : Int32} : W (pj lw) 26 59 L (.int x1 :: .int x0 :: .ref a :: S) k n H Q ↔ ((isO H a = true ∧ cs S + (5 + 11) + 0 ≤ 16) ∧ Cl (pj lw) 28 [.ref a, .int x0, .int x1] H (fun v H => W (pj lw) 26 62 L (v.toList ++ S) k n H Q)) := W_inst (as := [.int x0, .int x1]) (rfl : (pj lw).1 26 59 = some (.invokevirtual 132, 3, 28)) rfl rfl rfl (Nat.le_of_ble_eq_true rfl) (Nat.le_of_ble_eq_true rfl) ⟨rfl, rfl⟩
theorem w26_62 {x : Nat} : W (pj lw) 26 62 (.val (.ref x) :: L) S k n H Q ↔ W (pj lw) 26 63 (.val (.ref x) :: L) (.ref x :: S) k n H Q := W_s (rfl : (pj lw).1 26 62 = some (.aload_n 0, 1, 0)) rfl rfl rfl
theorem w26_63 {x : Nat} : W (pj lw) 26 63 (.val (.ref x) :: L) S k n H Q ↔ W (pj lw) 26 64 (.val (.ref x) :: L) (.ref x :: S) k n H Q := W_s (rfl : (pj lw).1 26 63 = some (.aload_n 0, 1, 0)) rfl rfl rfl
theorem w26_64 {a : Nat} : W (pj lw) 26 64 L (.ref a :: S) k n H Q ↔ (isO H a = true ∧ W (pj lw) 26 67 L (fld H a 2 :: S) k n H Q) := W_getf (rfl : (pj lw).1 26 64 = some (.getfield 13, 3, 2))
theorem w26_67 {x : Int32} {l0 : Slot} : W (pj lw) 26 67 (l0 :: .val (.int x) :: L) S k n H Q ↔ W (pj lw) 26 68 (l0 :: .val (.int x) :: L) (.int x :: S) k n H Q := W_s (rfl : (pj lw).1 26 67 = some (.iload_n 1, 1, 0)) rfl rfl rfl
theorem w26_68 {i : Int32} {a : Nat} : W (pj lw) 26 68 L (.int i :: .ref a :: S) k n H Q ↔ (inA H a .int i = true ∧ W (pj lw) 26 69 L (elt H a i :: S) k n H Q) := W_iaload (rfl : (pj lw).1 26 68 = some (.iaload, 1, 0))
theorem w26_69 {x : Int32} {l0 : Slot} : W (pj lw) 26 69 (l0 :: .val (.int x) :: L) S k n H Q ↔ W (pj lw) 26 70 (l0 :: .val (.int x) :: L) (.int x :: S) k n H Q := W_s (rfl : (pj lw).1 26 69 = some (.iload_n 1, 1, 0)) rfl rfl rfl
theorem w26_70 {a : Nat} {x0 : Int32} {x1 : Int32} : W (pj lw) 26 70 L (.int x1 :: .int x0 :: .ref a :: S) k n H Q ↔ ((isO H a = true ∧ cs S + (5 + 11) + 0 ≤ 16) ∧ Cl (pj lw) 28 [.ref a, .int x0, .int x1] H (fun v H => W (pj lw) 26 73 L (v.toList ++ S) k n H Q)) := W_inst (as := [.int x0, .int x1]) (rfl : (pj lw).1 26 70 = some (.invokevirtual 132, 3, 28)) rfl rfl rfl (Nat.le_of_ble_eq_true rfl) (Nat.le_of_ble_eq_true rfl) ⟨rfl, rfl⟩
theorem w26_73 : W (pj lw) 26 73 L [] k n H Q ↔ Q none H := W_r (rfl : (pj lw).1 26 73 = some (.return_, 1, 0)) rfl
theorem c27 {x0 : Nat} {x1 : Int32} {x2 : Int32} : Cl (pj lw) 27 [.ref x0, .int x1, .int x2] H Q ↔ W (pj lw) 27 0 [.val (.ref x0), .val (.int x1), .val (.int x2)] [] 0 0 H Q := cl_unf rfl
theorem w27_0 {x : Int32} {l0 : Slot} : W (pj lw) 27 0 (l0 :: .val (.int x) :: L) S k n H Q ↔ W (pj lw) 27 1 (l0 :: .val (.int x) :: L) (.int x :: S) k n H Q := W_s (rfl : (pj lw).1 27 0 = some (.iload_n 1, 1, 0)) rfl rfl rfl
theorem w27_1 {x : Int32} : W (pj lw) 27 1 L (.int x :: S) k n H Q ↔ (if x < 0 then W (pj lw) 27 10 L S k n H Q else W (pj lw) 27 4 L S k n H Q) := W_if_lt (rfl : (pj lw).1 27 1 = some (.ifCond .lt 9, 3, 0)) rfl
theorem w27_4 {x : Int32} {l0 : Slot} : W (pj lw) 27 4 (l0 :: .val (.int x) :: L) S k n H Q ↔ W (pj lw) 27 5 (l0 :: .val (.int x) :: L) (.int x :: S) k n H Q := W_s (rfl : (pj lw).1 27 4 = some (.iload_n 1, 1, 0)) rfl rfl rfl
theorem w27_5 : W (pj lw) 27 5 L S k n H Q ↔ W (pj lw) 27 7 L (.int 32 :: S) k n H Q := W_s (rfl : (pj lw).1 27 5 = some (.bipush 32, 2, 0)) rfl rfl rfl
theorem w27_7 {x y : Int32} : W (pj lw) 27 7 L (.int y :: .int x :: S) k n H Q ↔ (if x < y then W (pj lw) 27 11 L S k n H Q else W (pj lw) 27 10 L S k n H Q) := W_icmp_lt (rfl : (pj lw).1 27 7 = some (.if_icmp .lt 4, 3, 0)) rfl
theorem w27_11 {x : Nat} : W (pj lw) 27 11 (.val (.ref x) :: L) S k n H Q ↔ W (pj lw) 27 12 (.val (.ref x) :: L) (.ref x :: S) k n H Q := W_s (rfl : (pj lw).1 27 11 = some (.aload_n 0, 1, 0)) rfl rfl rfl
theorem w27_12 {a : Nat} : W (pj lw) 27 12 L (.ref a :: S) k n H Q ↔ (isO H a = true ∧ W (pj lw) 27 15 L (fld H a 7 :: S) k n H Q) := W_getf (rfl : (pj lw).1 27 12 = some (.getfield 29, 3, 7))
theorem w27_15 {x : Int32} {l0 : Slot} : W (pj lw) 27 15 (l0 :: .val (.int x) :: L) S k n H Q ↔ W (pj lw) 27 16 (l0 :: .val (.int x) :: L) (.int x :: S) k n H Q := W_s (rfl : (pj lw).1 27 15 = some (.iload_n 1, 1, 0)) rfl rfl rfl
theorem w27_16 {i : Int32} {a : Nat} : W (pj lw) 27 16 L (.int i :: .ref a :: S) k n H Q ↔ (inA H a .int i = true ∧ W (pj lw) 27 17 L (elt H a i :: S) k n H Q) := W_iaload (rfl : (pj lw).1 27 16 = some (.iaload, 1, 0))
theorem w27_17 {x : Int32} : W (pj lw) 27 17 L (.int x :: S) k n H Q ↔ (if x < 0 then W (pj lw) 27 31 L S k n H Q else W (pj lw) 27 20 L S k n H Q) := W_if_lt (rfl : (pj lw).1 27 17 = some (.ifCond .lt 14, 3, 0)) rfl
theorem w27_20 {x : Nat} : W (pj lw) 27 20 (.val (.ref x) :: L) S k n H Q ↔ W (pj lw) 27 21 (.val (.ref x) :: L) (.ref x :: S) k n H Q := W_s (rfl : (pj lw).1 27 20 = some (.aload_n 0, 1, 0)) rfl rfl rfl
theorem w27_21 {a : Nat} : W (pj lw) 27 21 L (.ref a :: S) k n H Q ↔ (isO H a = true ∧ W (pj lw) 27 24 L (fld H a 7 :: S) k n H Q) := W_getf (rfl : (pj lw).1 27 21 = some (.getfield 29, 3, 7))
theorem w27_24 {x : Int32} {l0 : Slot} : W (pj lw) 27 24 (l0 :: .val (.int x) :: L) S k n H Q ↔ W (pj lw) 27 25 (l0 :: .val (.int x) :: L) (.int x :: S) k n H Q := W_s (rfl : (pj lw).1 27 24 = some (.iload_n 1, 1, 0)) rfl rfl rfl
theorem w27_25 {i : Int32} {a : Nat} : W (pj lw) 27 25 L (.int i :: .ref a :: S) k n H Q ↔ (inA H a .int i = true ∧ W (pj lw) 27 26 L (elt H a i :: S) k n H Q) := W_iaload (rfl : (pj lw).1 27 25 = some (.iaload, 1, 0))
theorem w27_26 : W (pj lw) 27 26 L S k n H Q ↔ W (pj lw) 27 28 L (.int 32 :: S) k n H Q := W_s (rfl : (pj lw).1 27 26 = some (.bipush 32, 2, 0)) rfl rfl rfl
theorem w27_28 {x y : Int32} : W (pj lw) 27 28 L (.int y :: .int x :: S) k n H Q ↔ (if x < y then W (pj lw) 27 32 L S k n H Q else W (pj lw) 27 31 L S k n H Q) := W_icmp_lt (rfl : (pj lw).1 27 28 = some (.if_icmp .lt 4, 3, 0)) rfl
theorem w27_31 : W (pj lw) 27 31 L [] k n H Q ↔ Q none H := W_r (rfl : (pj lw).1 27 31 = some (.return_, 1, 0)) rfl
theorem w27_32 {x : Nat} : W (pj lw) 27 32 (.val (.ref x) :: L) S k n H Q ↔ W (pj lw) 27 33 (.val (.ref x) :: L) (.ref x :: S) k n H Q := W_s (rfl : (pj lw).1 27 32 = some (.aload_n 0, 1, 0)) rfl rfl rfl
theorem w27_33 {a : Nat} : W (pj lw) 27 33 L (.ref a :: S) k n H Q ↔ (isO H a = true ∧ W (pj lw) 27 36 L (fld H a 6 :: S) k n H Q) := W_getf (rfl : (pj lw).1 27 33 = some (.getfield 26, 3, 6))
theorem w27_36 {x : Int32} {l0 : Slot} : W (pj lw) 27 36 (l0 :: .val (.int x) :: L) S k n H Q ↔ W (pj lw) 27 37 (l0 :: .val (.int x) :: L) (.int x :: S) k n H Q := W_s (rfl : (pj lw).1 27 36 = some (.iload_n 1, 1, 0)) rfl rfl rfl
theorem w27_37 : W (pj lw) 27 37 L S k n H Q ↔ W (pj lw) 27 39 L (.int 32 :: S) k n H Q := W_s (rfl : (pj lw).1 27 37 = some (.bipush 32, 2, 0)) rfl rfl rfl
theorem w27_39 {x y : Int32} : W (pj lw) 27 39 L (.int y :: .int x :: S) k n H Q ↔ W (pj lw) 27 40 L (.int (x * y) :: S) k n H Q := W_s (rfl : (pj lw).1 27 39 = some (.imul, 1, 0)) rfl rfl rfl
theorem w27_40 {x : Nat} : W (pj lw) 27 40 (.val (.ref x) :: L) S k n H Q ↔ W (pj lw) 27 41 (.val (.ref x) :: L) (.ref x :: S) k n H Q := W_s (rfl : (pj lw).1 27 40 = some (.aload_n 0, 1, 0)) rfl rfl rfl
theorem w27_41 {a : Nat} : W (pj lw) 27 41 L (.ref a :: S) k n H Q ↔ (isO H a = true ∧ W (pj lw) 27 44 L (fld H a 7 :: S) k n H Q) := W_getf (rfl : (pj lw).1 27 41 = some (.getfield 29, 3, 7))
theorem w27_44 {x : Int32} {l0 : Slot} : W (pj lw) 27 44 (l0 :: .val (.int x) :: L) S k n H Q ↔ W (pj lw) 27 45 (l0 :: .val (.int x) :: L) (.int x :: S) k n H Q := W_s (rfl : (pj lw).1 27 44 = some (.iload_n 1, 1, 0)) rfl rfl rfl
theorem w27_45 {i : Int32} {a : Nat} : W (pj lw) 27 45 L (.int i :: .ref a :: S) k n H Q ↔ (inA H a .int i = true ∧ W (pj lw) 27 46 L (elt H a i :: S) k n H Q) := W_iaload (rfl : (pj lw).1 27 45 = some (.iaload, 1, 0))
theorem w27_46 {x y : Int32} : W (pj lw) 27 46 L (.int y :: .int x :: S) k n H Q ↔ W (pj lw) 27 47 L (.int (x + y) :: S) k n H Q := W_s (rfl : (pj lw).1 27 46 = some (.iadd, 1, 0)) rfl rfl rfl
theorem w27_47 {x : Int32} {l0 l1 : Slot} : W (pj lw) 27 47 (l0 :: l1 :: .val (.int x) :: L) S k n H Q ↔ W (pj lw) 27 48 (l0 :: l1 :: .val (.int x) :: L) (.int x :: S) k n H Q := W_s (rfl : (pj lw).1 27 47 = some (.iload_n 2, 1, 0)) rfl rfl rfl
theorem w27_48 {x i : Int32} {a : Nat} : W (pj lw) 27 48 L (.int x :: .int i :: .ref a :: S) k n H Q ↔ (inAw H a .int i = true ∧ W (pj lw) 27 49 L S k n (wr H a i.toNatClampNeg (.int x)) Q) := W_iastore (rfl : (pj lw).1 27 48 = some (.iastore, 1, 0))
theorem w27_49 {x : Nat} : W (pj lw) 27 49 (.val (.ref x) :: L) S k n H Q ↔ W (pj lw) 27 50 (.val (.ref x) :: L) (.ref x :: S) k n H Q := W_s (rfl : (pj lw).1 27 49 = some (.aload_n 0, 1, 0)) rfl rfl rfl
theorem w27_50 {a : Nat} : W (pj lw) 27 50 L (.ref a :: S) k n H Q ↔ (isO H a = true ∧ W (pj lw) 27 53 L (fld H a 7 :: S) k n H Q) := W_getf (rfl : (pj lw).1 27 50 = some (.getfield 29, 3, 7))
theorem w27_53 {x : Int32} {l0 : Slot} : W (pj lw) 27 53 (l0 :: .val (.int x) :: L) S k n H Q ↔ W (pj lw) 27 54 (l0 :: .val (.int x) :: L) (.int x :: S) k n H Q := W_s (rfl : (pj lw).1 27 53 = some (.iload_n 1, 1, 0)) rfl rfl rfl
theorem w27_54 {x : Int32} {y : Nat} : W (pj lw) 27 54 L (.int x :: .ref y :: S) k n H Q ↔ W (pj lw) 27 55 L (.int x :: .ref y :: .int x :: .ref y :: S) k n H Q := W_s (rfl : (pj lw).1 27 54 = some (.dup2, 1, 0)) rfl rfl rfl
theorem w27_55 {i : Int32} {a : Nat} : W (pj lw) 27 55 L (.int i :: .ref a :: S) k n H Q ↔ (inA H a .int i = true ∧ W (pj lw) 27 56 L (elt H a i :: S) k n H Q) := W_iaload (rfl : (pj lw).1 27 55 = some (.iaload, 1, 0))
theorem w27_56 : W (pj lw) 27 56 L S k n H Q ↔ W (pj lw) 27 57 L (.int 1 :: S) k n H Q := W_s (rfl : (pj lw).1 27 56 = some (.iconst 1, 1, 0)) rfl rfl rfl
theorem w27_57 {x y : Int32} : W (pj lw) 27 57 L (.int y :: .int x :: S) k n H Q ↔ W (pj lw) 27 58 L (.int (x + y) :: S) k n H Q := W_s (rfl : (pj lw).1 27 57 = some (.iadd, 1, 0)) rfl rfl rfl
theorem w27_58 {x i : Int32} {a : Nat} : W (pj lw) 27 58 L (.int x :: .int i :: .ref a :: S) k n H Q ↔ (inAw H a .int i = true ∧ W (pj lw) 27 59 L S k n (wr H a i.toNatClampNeg (.int x)) Q) := W_iastore (rfl : (pj lw).1 27 58 = some (.iastore, 1, 0))
theorem w27_59 : W (pj lw) 27 59 L [] k n H Q ↔ Q none H := W_r (rfl : (pj lw).1 27 59 = some (.return_, 1, 0)) rfl
theorem c28 {x0 : Nat} {x1 : Int32} {x2 : Int32} : Cl (pj lw) 28 [.ref x0, .int x1, .int x2] H Q ↔ W (pj lw) 28 0 [.val (.ref x0), .val (.int x1), .val (.int x2), .unset, .unset] [] 0 0 H Q := cl_unf rfl
theorem w28_0 {x : Int32} {l0 : Slot} : W (pj lw) 28 0 (l0 :: .val (.int x) :: L) S k n H Q ↔ W (pj lw) 28 1 (l0 :: .val (.int x) :: L) (.int x :: S) k n H Q := W_s (rfl : (pj lw).1 28 0 = some (.iload_n 1, 1, 0)) rfl rfl rfl
theorem w28_1 {x : Int32} : W (pj lw) 28 1 L (.int x :: S) k n H Q ↔ (if x < 0 then W (pj lw) 28 10 L S k n H Q else W (pj lw) 28 4 L S k n H Q) := W_if_lt (rfl : (pj lw).1 28 1 = some (.ifCond .lt 9, 3, 0)) rfl
theorem w28_4 {x : Int32} {l0 : Slot} : W (pj lw) 28 4 (l0 :: .val (.int x) :: L) S k n H Q ↔ W (pj lw) 28 5 (l0 :: .val (.int x) :: L) (.int x :: S) k n H Q := W_s (rfl : (pj lw).1 28 4 = some (.iload_n 1, 1, 0)) rfl rfl rfl
theorem w28_5 : W (pj lw) 28 5 L S k n H Q ↔ W (pj lw) 28 7 L (.int 32 :: S) k n H Q := W_s (rfl : (pj lw).1 28 5 = some (.bipush 32, 2, 0)) rfl rfl rfl
theorem w28_7 {x y : Int32} : W (pj lw) 28 7 L (.int y :: .int x :: S) k n H Q ↔ (if x < y then W (pj lw) 28 11 L S k n H Q else W (pj lw) 28 10 L S k n H Q) := W_icmp_lt (rfl : (pj lw).1 28 7 = some (.if_icmp .lt 4, 3, 0)) rfl
theorem w28_11 {x : Int32} {l0 : Slot} : W (pj lw) 28 11 (l0 :: .val (.int x) :: L) S k n H Q ↔ W (pj lw) 28 12 (l0 :: .val (.int x) :: L) (.int x :: S) k n H Q := W_s (rfl : (pj lw).1 28 11 = some (.iload_n 1, 1, 0)) rfl rfl rfl
theorem w28_12 : W (pj lw) 28 12 L S k n H Q ↔ W (pj lw) 28 14 L (.int 32 :: S) k n H Q := W_s (rfl : (pj lw).1 28 12 = some (.bipush 32, 2, 0)) rfl rfl rfl
theorem w28_14 {x y : Int32} : W (pj lw) 28 14 L (.int y :: .int x :: S) k n H Q ↔ W (pj lw) 28 15 L (.int (x * y) :: S) k n H Q := W_s (rfl : (pj lw).1 28 14 = some (.imul, 1, 0)) rfl rfl rfl
theorem w28_15 {x : Int32} {l0 l1 l2 : Slot} : W (pj lw) 28 15 (l0 :: l1 :: l2 :: .unset :: L) (.int x :: S) k n H Q ↔ W (pj lw) 28 16 (l0 :: l1 :: l2 :: .val (.int x) :: L) S k n H Q := W_istn (rfl : (pj lw).1 28 15 = some (.istore_n 3, 1, 0)) rfl rfl
theorem w28_16 : W (pj lw) 28 16 L S k n H Q ↔ W (pj lw) 28 17 L (.int 0 :: S) k n H Q := W_s (rfl : (pj lw).1 28 16 = some (.iconst 0, 1, 0)) rfl rfl rfl
theorem w28_17 {x : Int32} {l0 l1 l2 l3 : Slot} : W (pj lw) 28 17 (l0 :: l1 :: l2 :: l3 :: .unset :: L) (.int x :: S) k n H Q ↔ W (pj lw) 28 19 (l0 :: l1 :: l2 :: l3 :: .val (.int x) :: L) S k n H Q := W_ist (rfl : (pj lw).1 28 17 = some (.istore 4, 2, 0)) rfl rfl
theorem w28_19 {x : Int32} {l0 l1 l2 l3 : Slot} : W (pj lw) 28 19 (l0 :: l1 :: l2 :: l3 :: .val (.int x) :: L) S k n H Q ↔ W (pj lw) 28 21 (l0 :: l1 :: l2 :: l3 :: .val (.int x) :: L) (.int x :: S) k n H Q := W_s (rfl : (pj lw).1 28 19 = some (.iload 4, 2, 0)) rfl rfl rfl
theorem w28_21 {x : Nat} : W (pj lw) 28 21 (.val (.ref x) :: L) S k n H Q ↔ W (pj lw) 28 22 (.val (.ref x) :: L) (.ref x :: S) k n H Q := W_s (rfl : (pj lw).1 28 21 = some (.aload_n 0, 1, 0)) rfl rfl rfl
theorem w28_22 {a : Nat} : W (pj lw) 28 22 L (.ref a :: S) k n H Q ↔ (isO H a = true ∧ W (pj lw) 28 25 L (fld H a 7 :: S) k n H Q) := W_getf (rfl : (pj lw).1 28 22 = some (.getfield 29, 3, 7))
theorem w28_25 {x : Int32} {l0 : Slot} : W (pj lw) 28 25 (l0 :: .val (.int x) :: L) S k n H Q ↔ W (pj lw) 28 26 (l0 :: .val (.int x) :: L) (.int x :: S) k n H Q := W_s (rfl : (pj lw).1 28 25 = some (.iload_n 1, 1, 0)) rfl rfl rfl
theorem w28_26 {i : Int32} {a : Nat} : W (pj lw) 28 26 L (.int i :: .ref a :: S) k n H Q ↔ (inA H a .int i = true ∧ W (pj lw) 28 27 L (elt H a i :: S) k n H Q) := W_iaload (rfl : (pj lw).1 28 26 = some (.iaload, 1, 0))
theorem w28_27 {x y : Int32} : W (pj lw) 28 27 L (.int y :: .int x :: S) k n H Q ↔ (if x < y then W (pj lw) 28 30 L S k n H Q else W (pj lw) 28 89 L S k n H Q) := W_icmp_ge (rfl : (pj lw).1 28 27 = some (.if_icmp .ge 62, 3, 0)) rfl
theorem w28_30 {x : Int32} {l0 l1 l2 l3 : Slot} : W (pj lw) 28 30 (l0 :: l1 :: l2 :: l3 :: .val (.int x) :: L) S k n H Q ↔ W (pj lw) 28 32 (l0 :: l1 :: l2 :: l3 :: .val (.int x) :: L) (.int x :: S) k n H Q := W_s (rfl : (pj lw).1 28 30 = some (.iload 4, 2, 0)) rfl rfl rfl
theorem w28_32 : W (pj lw) 28 32 L S k n H Q ↔ W (pj lw) 28 34 L (.int 32 :: S) k n H Q := W_s (rfl : (pj lw).1 28 32 = some (.bipush 32, 2, 0)) rfl rfl rfl
theorem w28_34 {x y : Int32} : W (pj lw) 28 34 L (.int y :: .int x :: S) k n H Q ↔ (if x < y then W (pj lw) 28 37 L S k n H Q else W (pj lw) 28 89 L S k n H Q) := W_icmp_ge (rfl : (pj lw).1 28 34 = some (.if_icmp .ge 55, 3, 0)) rfl
theorem w28_37 {x : Nat} : W (pj lw) 28 37 (.val (.ref x) :: L) S k n H Q ↔ W (pj lw) 28 38 (.val (.ref x) :: L) (.ref x :: S) k n H Q := W_s (rfl : (pj lw).1 28 37 = some (.aload_n 0, 1, 0)) rfl rfl rfl
theorem w28_38 {a : Nat} : W (pj lw) 28 38 L (.ref a :: S) k n H Q ↔ (isO H a = true ∧ W (pj lw) 28 41 L (fld H a 6 :: S) k n H Q) := W_getf (rfl : (pj lw).1 28 38 = some (.getfield 26, 3, 6))
theorem w28_41 {x : Int32} {l0 l1 l2 : Slot} : W (pj lw) 28 41 (l0 :: l1 :: l2 :: .val (.int x) :: L) S k n H Q ↔ W (pj lw) 28 42 (l0 :: l1 :: l2 :: .val (.int x) :: L) (.int x :: S) k n H Q := W_s (rfl : (pj lw).1 28 41 = some (.iload_n 3, 1, 0)) rfl rfl rfl
theorem w28_42 {x : Int32} {l0 l1 l2 l3 : Slot} : W (pj lw) 28 42 (l0 :: l1 :: l2 :: l3 :: .val (.int x) :: L) S k n H Q ↔ W (pj lw) 28 44 (l0 :: l1 :: l2 :: l3 :: .val (.int x) :: L) (.int x :: S) k n H Q := W_s (rfl : (pj lw).1 28 42 = some (.iload 4, 2, 0)) rfl rfl rfl
theorem w28_44 {x y : Int32} : W (pj lw) 28 44 L (.int y :: .int x :: S) k n H Q ↔ W (pj lw) 28 45 L (.int (x + y) :: S) k n H Q := W_s (rfl : (pj lw).1 28 44 = some (.iadd, 1, 0)) rfl rfl rfl
theorem w28_45 {i : Int32} {a : Nat} : W (pj lw) 28 45 L (.int i :: .ref a :: S) k n H Q ↔ (inA H a .int i = true ∧ W (pj lw) 28 46 L (elt H a i :: S) k n H Q) := W_iaload (rfl : (pj lw).1 28 45 = some (.iaload, 1, 0))
theorem w28_46 {x : Int32} {l0 l1 : Slot} : W (pj lw) 28 46 (l0 :: l1 :: .val (.int x) :: L) S k n H Q ↔ W (pj lw) 28 47 (l0 :: l1 :: .val (.int x) :: L) (.int x :: S) k n H Q := W_s (rfl : (pj lw).1 28 46 = some (.iload_n 2, 1, 0)) rfl rfl rfl
theorem w28_47 {x y : Int32} : W (pj lw) 28 47 L (.int y :: .int x :: S) k n H Q ↔ (if x = y then W (pj lw) 28 50 L S k n H Q else W (pj lw) 28 83 L S k n H Q) := W_icmp_ne (rfl : (pj lw).1 28 47 = some (.if_icmp .ne 36, 3, 0)) rfl
theorem w28_50 {x : Nat} : W (pj lw) 28 50 (.val (.ref x) :: L) S k n H Q ↔ W (pj lw) 28 51 (.val (.ref x) :: L) (.ref x :: S) k n H Q := W_s (rfl : (pj lw).1 28 50 = some (.aload_n 0, 1, 0)) rfl rfl rfl
theorem w28_51 {a : Nat} : W (pj lw) 28 51 L (.ref a :: S) k n H Q ↔ (isO H a = true ∧ W (pj lw) 28 54 L (fld H a 7 :: S) k n H Q) := W_getf (rfl : (pj lw).1 28 51 = some (.getfield 29, 3, 7))
theorem w28_54 {x : Int32} {l0 : Slot} : W (pj lw) 28 54 (l0 :: .val (.int x) :: L) S k n H Q ↔ W (pj lw) 28 55 (l0 :: .val (.int x) :: L) (.int x :: S) k n H Q := W_s (rfl : (pj lw).1 28 54 = some (.iload_n 1, 1, 0)) rfl rfl rfl
theorem w28_55 {x : Int32} {y : Nat} : W (pj lw) 28 55 L (.int x :: .ref y :: S) k n H Q ↔ W (pj lw) 28 56 L (.int x :: .ref y :: .int x :: .ref y :: S) k n H Q := W_s (rfl : (pj lw).1 28 55 = some (.dup2, 1, 0)) rfl rfl rfl
theorem w28_56 {i : Int32} {a : Nat} : W (pj lw) 28 56 L (.int i :: .ref a :: S) k n H Q ↔ (inA H a .int i = true ∧ W (pj lw) 28 57 L (elt H a i :: S) k n H Q) := W_iaload (rfl : (pj lw).1 28 56 = some (.iaload, 1, 0))
theorem w28_57 : W (pj lw) 28 57 L S k n H Q ↔ W (pj lw) 28 58 L (.int 1 :: S) k n H Q := W_s (rfl : (pj lw).1 28 57 = some (.iconst 1, 1, 0)) rfl rfl rfl
theorem w28_58 {x y : Int32} : W (pj lw) 28 58 L (.int y :: .int x :: S) k n H Q ↔ W (pj lw) 28 59 L (.int (x - y) :: S) k n H Q := W_s (rfl : (pj lw).1 28 58 = some (.isub, 1, 0)) rfl rfl rfl
theorem w28_59 {x i : Int32} {a : Nat} : W (pj lw) 28 59 L (.int x :: .int i :: .ref a :: S) k n H Q ↔ (inAw H a .int i = true ∧ W (pj lw) 28 60 L S k n (wr H a i.toNatClampNeg (.int x)) Q) := W_iastore (rfl : (pj lw).1 28 59 = some (.iastore, 1, 0))
theorem w28_60 {x : Nat} : W (pj lw) 28 60 (.val (.ref x) :: L) S k n H Q ↔ W (pj lw) 28 61 (.val (.ref x) :: L) (.ref x :: S) k n H Q := W_s (rfl : (pj lw).1 28 60 = some (.aload_n 0, 1, 0)) rfl rfl rfl
theorem w28_61 {a : Nat} : W (pj lw) 28 61 L (.ref a :: S) k n H Q ↔ (isO H a = true ∧ W (pj lw) 28 64 L (fld H a 6 :: S) k n H Q) := W_getf (rfl : (pj lw).1 28 61 = some (.getfield 26, 3, 6))
theorem w28_64 {x : Int32} {l0 l1 l2 : Slot} : W (pj lw) 28 64 (l0 :: l1 :: l2 :: .val (.int x) :: L) S k n H Q ↔ W (pj lw) 28 65 (l0 :: l1 :: l2 :: .val (.int x) :: L) (.int x :: S) k n H Q := W_s (rfl : (pj lw).1 28 64 = some (.iload_n 3, 1, 0)) rfl rfl rfl
theorem w28_65 {x : Int32} {l0 l1 l2 l3 : Slot} : W (pj lw) 28 65 (l0 :: l1 :: l2 :: l3 :: .val (.int x) :: L) S k n H Q ↔ W (pj lw) 28 67 (l0 :: l1 :: l2 :: l3 :: .val (.int x) :: L) (.int x :: S) k n H Q := W_s (rfl : (pj lw).1 28 65 = some (.iload 4, 2, 0)) rfl rfl rfl
theorem w28_67 {x y : Int32} : W (pj lw) 28 67 L (.int y :: .int x :: S) k n H Q ↔ W (pj lw) 28 68 L (.int (x + y) :: S) k n H Q := W_s (rfl : (pj lw).1 28 67 = some (.iadd, 1, 0)) rfl rfl rfl
theorem w28_68 {x : Nat} : W (pj lw) 28 68 (.val (.ref x) :: L) S k n H Q ↔ W (pj lw) 28 69 (.val (.ref x) :: L) (.ref x :: S) k n H Q := W_s (rfl : (pj lw).1 28 68 = some (.aload_n 0, 1, 0)) rfl rfl rfl
theorem w28_69 {a : Nat} : W (pj lw) 28 69 L (.ref a :: S) k n H Q ↔ (isO H a = true ∧ W (pj lw) 28 72 L (fld H a 6 :: S) k n H Q) := W_getf (rfl : (pj lw).1 28 69 = some (.getfield 26, 3, 6))
theorem w28_72 {x : Int32} {l0 l1 l2 : Slot} : W (pj lw) 28 72 (l0 :: l1 :: l2 :: .val (.int x) :: L) S k n H Q ↔ W (pj lw) 28 73 (l0 :: l1 :: l2 :: .val (.int x) :: L) (.int x :: S) k n H Q := W_s (rfl : (pj lw).1 28 72 = some (.iload_n 3, 1, 0)) rfl rfl rfl
theorem w28_73 {x : Nat} : W (pj lw) 28 73 (.val (.ref x) :: L) S k n H Q ↔ W (pj lw) 28 74 (.val (.ref x) :: L) (.ref x :: S) k n H Q := W_s (rfl : (pj lw).1 28 73 = some (.aload_n 0, 1, 0)) rfl rfl rfl
theorem w28_74 {a : Nat} : W (pj lw) 28 74 L (.ref a :: S) k n H Q ↔ (isO H a = true ∧ W (pj lw) 28 77 L (fld H a 7 :: S) k n H Q) := W_getf (rfl : (pj lw).1 28 74 = some (.getfield 29, 3, 7))
theorem w28_77 {x : Int32} {l0 : Slot} : W (pj lw) 28 77 (l0 :: .val (.int x) :: L) S k n H Q ↔ W (pj lw) 28 78 (l0 :: .val (.int x) :: L) (.int x :: S) k n H Q := W_s (rfl : (pj lw).1 28 77 = some (.iload_n 1, 1, 0)) rfl rfl rfl
theorem w28_78 {i : Int32} {a : Nat} : W (pj lw) 28 78 L (.int i :: .ref a :: S) k n H Q ↔ (inA H a .int i = true ∧ W (pj lw) 28 79 L (elt H a i :: S) k n H Q) := W_iaload (rfl : (pj lw).1 28 78 = some (.iaload, 1, 0))
theorem w28_79 {x y : Int32} : W (pj lw) 28 79 L (.int y :: .int x :: S) k n H Q ↔ W (pj lw) 28 80 L (.int (x + y) :: S) k n H Q := W_s (rfl : (pj lw).1 28 79 = some (.iadd, 1, 0)) rfl rfl rfl
theorem w28_80 {i : Int32} {a : Nat} : W (pj lw) 28 80 L (.int i :: .ref a :: S) k n H Q ↔ (inA H a .int i = true ∧ W (pj lw) 28 81 L (elt H a i :: S) k n H Q) := W_iaload (rfl : (pj lw).1 28 80 = some (.iaload, 1, 0))
theorem w28_81 {x i : Int32} {a : Nat} : W (pj lw) 28 81 L (.int x :: .int i :: .ref a :: S) k n H Q ↔ (inAw H a .int i = true ∧ W (pj lw) 28 82 L S k n (wr H a i.toNatClampNeg (.int x)) Q) := W_iastore (rfl : (pj lw).1 28 81 = some (.iastore, 1, 0))
theorem w28_82 : W (pj lw) 28 82 L [] k n H Q ↔ Q none H := W_r (rfl : (pj lw).1 28 82 = some (.return_, 1, 0)) rfl
theorem w28_83 {x : Int32} {l0 l1 l2 l3 : Slot} : W (pj lw) 28 83 (l0 :: l1 :: l2 :: l3 :: .val (.int x) :: L) S k n H Q ↔ W (pj lw) 28 86 (l0 :: l1 :: l2 :: l3 :: .val (.int (x + 1)) :: L) S k n H Q := W_s (rfl : (pj lw).1 28 83 = some (.iinc 4 1, 3, 0)) rfl rfl rfl
theorem w28_86 : W (pj lw) 28 86 L S k n H Q ↔ W (pj lw) 28 19 L S k n H Q := W_goto (rfl : (pj lw).1 28 86 = some (.goto (-67), 3, 0)) rfl
theorem w28_89 : W (pj lw) 28 89 L [] k n H Q ↔ Q none H := W_r (rfl : (pj lw).1 28 89 = some (.return_, 1, 0)) rfl
theorem c29 {x0 : Nat} : Cl (pj lw) 29 [.ref x0] H Q ↔ W (pj lw) 29 0 [.val (.ref x0), .unset] [] 0 0 H Q := cl_unf rfl
theorem w29_0 : W (pj lw) 29 0 L S k n H Q ↔ W (pj lw) 29 1 L (.int 0 :: S) k n H Q := W_s (rfl : (pj lw).1 29 0 = some (.iconst 0, 1, 0)) rfl rfl rfl
theorem w29_1 {x : Int32} {l0 : Slot} : W (pj lw) 29 1 (l0 :: .unset :: L) (.int x :: S) k n H Q ↔ W (pj lw) 29 2 (l0 :: .val (.int x) :: L) S k n H Q := W_istn (rfl : (pj lw).1 29 1 = some (.istore_n 1, 1, 0)) rfl rfl
theorem w29_2 {x : Int32} {l0 : Slot} : W (pj lw) 29 2 (l0 :: .val (.int x) :: L) S k n H Q ↔ W (pj lw) 29 3 (l0 :: .val (.int x) :: L) (.int x :: S) k n H Q := W_s (rfl : (pj lw).1 29 2 = some (.iload_n 1, 1, 0)) rfl rfl rfl
theorem w29_3 : W (pj lw) 29 3 L S k n H Q ↔ W (pj lw) 29 5 L (.int 32 :: S) k n H Q := W_s (rfl : (pj lw).1 29 3 = some (.bipush 32, 2, 0)) rfl rfl rfl
theorem w29_5 {x y : Int32} : W (pj lw) 29 5 L (.int y :: .int x :: S) k n H Q ↔ (if x < y then W (pj lw) 29 8 L S k n H Q else W (pj lw) 29 42 L S k n H Q) := W_icmp_ge (rfl : (pj lw).1 29 5 = some (.if_icmp .ge 37, 3, 0)) rfl
theorem w29_8 {x : Nat} : W (pj lw) 29 8 (.val (.ref x) :: L) S k n H Q ↔ W (pj lw) 29 9 (.val (.ref x) :: L) (.ref x :: S) k n H Q := W_s (rfl : (pj lw).1 29 8 = some (.aload_n 0, 1, 0)) rfl rfl rfl
theorem w29_9 {a : Nat} : W (pj lw) 29 9 L (.ref a :: S) k n H Q ↔ (isO H a = true ∧ W (pj lw) 29 12 L (fld H a 8 :: S) k n H Q) := W_getf (rfl : (pj lw).1 29 9 = some (.getfield 32, 3, 8))
theorem w29_12 {x : Int32} {l0 : Slot} : W (pj lw) 29 12 (l0 :: .val (.int x) :: L) S k n H Q ↔ W (pj lw) 29 13 (l0 :: .val (.int x) :: L) (.int x :: S) k n H Q := W_s (rfl : (pj lw).1 29 12 = some (.iload_n 1, 1, 0)) rfl rfl rfl
theorem w29_13 : W (pj lw) 29 13 L S k n H Q ↔ W (pj lw) 29 14 L (.int 0 :: S) k n H Q := W_s (rfl : (pj lw).1 29 13 = some (.iconst 0, 1, 0)) rfl rfl rfl
theorem w29_14 {x i : Int32} {a : Nat} : W (pj lw) 29 14 L (.int x :: .int i :: .ref a :: S) k n H Q ↔ (((inAw H a .byte i = true ∧ okv .byte (.int x) = true) ∨ (inAw H a .boolean i = true ∧ okv .boolean (.int x) = true)) ∧ W (pj lw) 29 15 L S k n (wr H a i.toNatClampNeg (.int x)) Q) := W_bastore (rfl : (pj lw).1 29 14 = some (.bastore, 1, 0))
theorem w29_15 {x : Nat} : W (pj lw) 29 15 (.val (.ref x) :: L) S k n H Q ↔ W (pj lw) 29 16 (.val (.ref x) :: L) (.ref x :: S) k n H Q := W_s (rfl : (pj lw).1 29 15 = some (.aload_n 0, 1, 0)) rfl rfl rfl
theorem w29_16 {a : Nat} : W (pj lw) 29 16 L (.ref a :: S) k n H Q ↔ (isO H a = true ∧ W (pj lw) 29 19 L (fld H a 9 :: S) k n H Q) := W_getf (rfl : (pj lw).1 29 16 = some (.getfield 35, 3, 9))
theorem w29_19 {x : Int32} {l0 : Slot} : W (pj lw) 29 19 (l0 :: .val (.int x) :: L) S k n H Q ↔ W (pj lw) 29 20 (l0 :: .val (.int x) :: L) (.int x :: S) k n H Q := W_s (rfl : (pj lw).1 29 19 = some (.iload_n 1, 1, 0)) rfl rfl rfl
theorem w29_20 : W (pj lw) 29 20 L S k n H Q ↔ W (pj lw) 29 21 L (.int (-1) :: S) k n H Q := W_s (rfl : (pj lw).1 29 20 = some (.iconst (-1), 1, 0)) rfl rfl rfl
theorem w29_21 {x i : Int32} {a : Nat} : W (pj lw) 29 21 L (.int x :: .int i :: .ref a :: S) k n H Q ↔ (inAw H a .int i = true ∧ W (pj lw) 29 22 L S k n (wr H a i.toNatClampNeg (.int x)) Q) := W_iastore (rfl : (pj lw).1 29 21 = some (.iastore, 1, 0))
theorem w29_22 {x : Nat} : W (pj lw) 29 22 (.val (.ref x) :: L) S k n H Q ↔ W (pj lw) 29 23 (.val (.ref x) :: L) (.ref x :: S) k n H Q := W_s (rfl : (pj lw).1 29 22 = some (.aload_n 0, 1, 0)) rfl rfl rfl
theorem w29_23 {a : Nat} : W (pj lw) 29 23 L (.ref a :: S) k n H Q ↔ (isO H a = true ∧ W (pj lw) 29 26 L (fld H a 10 :: S) k n H Q) := W_getf (rfl : (pj lw).1 29 23 = some (.getfield 38, 3, 10))
theorem w29_26 {x : Int32} {l0 : Slot} : W (pj lw) 29 26 (l0 :: .val (.int x) :: L) S k n H Q ↔ W (pj lw) 29 27 (l0 :: .val (.int x) :: L) (.int x :: S) k n H Q := W_s (rfl : (pj lw).1 29 26 = some (.iload_n 1, 1, 0)) rfl rfl rfl
theorem w29_27 : W (pj lw) 29 27 L S k n H Q ↔ W (pj lw) 29 28 L (.int (-1) :: S) k n H Q := W_s (rfl : (pj lw).1 29 27 = some (.iconst (-1), 1, 0)) rfl rfl rfl
theorem w29_28 {x i : Int32} {a : Nat} : W (pj lw) 29 28 L (.int x :: .int i :: .ref a :: S) k n H Q ↔ (inAw H a .int i = true ∧ W (pj lw) 29 29 L S k n (wr H a i.toNatClampNeg (.int x)) Q) := W_iastore (rfl : (pj lw).1 29 28 = some (.iastore, 1, 0))
theorem w29_29 {x : Nat} : W (pj lw) 29 29 (.val (.ref x) :: L) S k n H Q ↔ W (pj lw) 29 30 (.val (.ref x) :: L) (.ref x :: S) k n H Q := W_s (rfl : (pj lw).1 29 29 = some (.aload_n 0, 1, 0)) rfl rfl rfl
theorem w29_30 {a : Nat} : W (pj lw) 29 30 L (.ref a :: S) k n H Q ↔ (isO H a = true ∧ W (pj lw) 29 33 L (fld H a 11 :: S) k n H Q) := W_getf (rfl : (pj lw).1 29 30 = some (.getfield 41, 3, 11))
theorem w29_33 {x : Int32} {l0 : Slot} : W (pj lw) 29 33 (l0 :: .val (.int x) :: L) S k n H Q ↔ W (pj lw) 29 34 (l0 :: .val (.int x) :: L) (.int x :: S) k n H Q := W_s (rfl : (pj lw).1 29 33 = some (.iload_n 1, 1, 0)) rfl rfl rfl
theorem w29_34 : W (pj lw) 29 34 L S k n H Q ↔ W (pj lw) 29 35 L (.int 0 :: S) k n H Q := W_s (rfl : (pj lw).1 29 34 = some (.iconst 0, 1, 0)) rfl rfl rfl
theorem w29_35 {x i : Int32} {a : Nat} : W (pj lw) 29 35 L (.int x :: .int i :: .ref a :: S) k n H Q ↔ (inAw H a .int i = true ∧ W (pj lw) 29 36 L S k n (wr H a i.toNatClampNeg (.int x)) Q) := W_iastore (rfl : (pj lw).1 29 35 = some (.iastore, 1, 0))
theorem w29_36 {x : Int32} {l0 : Slot} : W (pj lw) 29 36 (l0 :: .val (.int x) :: L) S k n H Q ↔ W (pj lw) 29 39 (l0 :: .val (.int (x + 1)) :: L) S k n H Q := W_s (rfl : (pj lw).1 29 36 = some (.iinc 1 1, 3, 0)) rfl rfl rfl
theorem w29_39 : W (pj lw) 29 39 L S k n H Q ↔ W (pj lw) 29 2 L S k n H Q := W_goto (rfl : (pj lw).1 29 39 = some (.goto (-37), 3, 0)) rfl
theorem w29_42 : W (pj lw) 29 42 L [] k n H Q ↔ Q none H := W_r (rfl : (pj lw).1 29 42 = some (.return_, 1, 0)) rfl
theorem c30 {x0 : Nat} {x1 : Int32} {x2 : Int32} : Cl (pj lw) 30 [.ref x0, .int x1, .int x2] H Q ↔ W (pj lw) 30 0 [.val (.ref x0), .val (.int x1), .val (.int x2), .unset, .unset] [] 0 0 H Q := cl_unf rfl
theorem w30_0 {x : Nat} : W (pj lw) 30 0 (.val (.ref x) :: L) S k n H Q ↔ W (pj lw) 30 1 (.val (.ref x) :: L) (.ref x :: S) k n H Q := W_s (rfl : (pj lw).1 30 0 = some (.aload_n 0, 1, 0)) rfl rfl rfl
theorem w30_1 {a : Nat} : W (pj lw) 30 1 L (.ref a :: S) k n H Q ↔ ((isO H a = true ∧ cs S + (2 + 11) + 0 ≤ 34) ∧ Cl (pj lw) 29 [.ref a] H (fun v H => W (pj lw) 30 4 L (v.toList ++ S) k n H Q)) := W_inst (as := []) (rfl : (pj lw).1 30 1 = some (.invokevirtual 64, 3, 29)) rfl rfl rfl (Nat.le_of_ble_eq_true rfl) (Nat.le_of_ble_eq_true rfl) ⟨rfl, rfl⟩
theorem w30_4 {x : Nat} : W (pj lw) 30 4 (.val (.ref x) :: L) S k n H Q ↔ W (pj lw) 30 5 (.val (.ref x) :: L) (.ref x :: S) k n H Q := W_s (rfl : (pj lw).1 30 4 = some (.aload_n 0, 1, 0)) rfl rfl rfl
theorem w30_5 {x : Int32} {l0 : Slot} : W (pj lw) 30 5 (l0 :: .val (.int x) :: L) S k n H Q ↔ W (pj lw) 30 6 (l0 :: .val (.int x) :: L) (.int x :: S) k n H Q := W_s (rfl : (pj lw).1 30 5 = some (.iload_n 1, 1, 0)) rfl rfl rfl
theorem w30_6 {a : Nat} {x0 : Int32} : W (pj lw) 30 6 L (.int x0 :: .ref a :: S) k n H Q ↔ ((isO H a = true ∧ cs S + (2 + 11) + 0 ≤ 34) ∧ Cl (pj lw) 39 [.ref a, .int x0] H (fun v H => W (pj lw) 30 9 L (v.toList ++ S) k n H Q)) := W_inst (as := [.int x0]) (rfl : (pj lw).1 30 6 = some (.invokevirtual 67, 3, 39)) rfl rfl rfl (Nat.le_of_ble_eq_true rfl) (Nat.le_of_ble_eq_true rfl) ⟨rfl, rfl⟩
theorem w30_9 {x : Int32} : W (pj lw) 30 9 L (.int x :: S) k n H Q ↔ (if x = 0 then W (pj lw) 30 12 L S k n H Q else W (pj lw) 30 14 L S k n H Q) := W_if_ne (rfl : (pj lw).1 30 9 = some (.ifCond .ne 5, 3, 0)) rfl
theorem w30_14 {x : Nat} : W (pj lw) 30 14 (.val (.ref x) :: L) S k n H Q ↔ W (pj lw) 30 15 (.val (.ref x) :: L) (.ref x :: S) k n H Q := W_s (rfl : (pj lw).1 30 14 = some (.aload_n 0, 1, 0)) rfl rfl rfl
theorem w30_15 {a : Nat} : W (pj lw) 30 15 L (.ref a :: S) k n H Q ↔ (isO H a = true ∧ W (pj lw) 30 18 L (fld H a 8 :: S) k n H Q) := W_getf (rfl : (pj lw).1 30 15 = some (.getfield 32, 3, 8))
theorem w30_18 {x : Int32} {l0 : Slot} : W (pj lw) 30 18 (l0 :: .val (.int x) :: L) S k n H Q ↔ W (pj lw) 30 19 (l0 :: .val (.int x) :: L) (.int x :: S) k n H Q := W_s (rfl : (pj lw).1 30 18 = some (.iload_n 1, 1, 0)) rfl rfl rfl
theorem w30_19 : W (pj lw) 30 19 L S k n H Q ↔ W (pj lw) 30 20 L (.int 1 :: S) k n H Q := W_s (rfl : (pj lw).1 30 19 = some (.iconst 1, 1, 0)) rfl rfl rfl
theorem w30_20 {x i : Int32} {a : Nat} : W (pj lw) 30 20 L (.int x :: .int i :: .ref a :: S) k n H Q ↔ (((inAw H a .byte i = true ∧ okv .byte (.int x) = true) ∨ (inAw H a .boolean i = true ∧ okv .boolean (.int x) = true)) ∧ W (pj lw) 30 21 L S k n (wr H a i.toNatClampNeg (.int x)) Q) := W_bastore (rfl : (pj lw).1 30 20 = some (.bastore, 1, 0))
theorem w30_21 {x : Nat} : W (pj lw) 30 21 (.val (.ref x) :: L) S k n H Q ↔ W (pj lw) 30 22 (.val (.ref x) :: L) (.ref x :: S) k n H Q := W_s (rfl : (pj lw).1 30 21 = some (.aload_n 0, 1, 0)) rfl rfl rfl
theorem w30_22 {a : Nat} : W (pj lw) 30 22 L (.ref a :: S) k n H Q ↔ (isO H a = true ∧ W (pj lw) 30 25 L (fld H a 11 :: S) k n H Q) := W_getf (rfl : (pj lw).1 30 22 = some (.getfield 41, 3, 11))
theorem w30_25 : W (pj lw) 30 25 L S k n H Q ↔ W (pj lw) 30 26 L (.int 0 :: S) k n H Q := W_s (rfl : (pj lw).1 30 25 = some (.iconst 0, 1, 0)) rfl rfl rfl
theorem w30_26 {x : Int32} {l0 : Slot} : W (pj lw) 30 26 (l0 :: .val (.int x) :: L) S k n H Q ↔ W (pj lw) 30 27 (l0 :: .val (.int x) :: L) (.int x :: S) k n H Q := W_s (rfl : (pj lw).1 30 26 = some (.iload_n 1, 1, 0)) rfl rfl rfl
theorem w30_27 {x i : Int32} {a : Nat} : W (pj lw) 30 27 L (.int x :: .int i :: .ref a :: S) k n H Q ↔ (inAw H a .int i = true ∧ W (pj lw) 30 28 L S k n (wr H a i.toNatClampNeg (.int x)) Q) := W_iastore (rfl : (pj lw).1 30 27 = some (.iastore, 1, 0))
theorem w30_28 : W (pj lw) 30 28 L S k n H Q ↔ W (pj lw) 30 29 L (.int 1 :: S) k n H Q := W_s (rfl : (pj lw).1 30 28 = some (.iconst 1, 1, 0)) rfl rfl rfl
theorem w30_29 {x : Int32} {l0 l1 l2 : Slot} : W (pj lw) 30 29 (l0 :: l1 :: l2 :: .unset :: L) (.int x :: S) k n H Q ↔ W (pj lw) 30 30 (l0 :: l1 :: l2 :: .val (.int x) :: L) S k n H Q := W_istn (rfl : (pj lw).1 30 29 = some (.istore_n 3, 1, 0)) rfl rfl
theorem w30_30 : W (pj lw) 30 30 L S k n H Q ↔ W (pj lw) 30 31 L (.int 0 :: S) k n H Q := W_s (rfl : (pj lw).1 30 30 = some (.iconst 0, 1, 0)) rfl rfl rfl
theorem w30_31 {x : Int32} {l0 l1 l2 l3 : Slot} : W (pj lw) 30 31 (l0 :: l1 :: l2 :: l3 :: .unset :: L) (.int x :: S) k n H Q ↔ W (pj lw) 30 33 (l0 :: l1 :: l2 :: l3 :: .val (.int x) :: L) S k n H Q := W_ist (rfl : (pj lw).1 30 31 = some (.istore 4, 2, 0)) rfl rfl
theorem w30_33 {x : Int32} {l0 l1 l2 l3 : Slot} : W (pj lw) 30 33 (l0 :: l1 :: l2 :: l3 :: .val (.int x) :: L) S k n H Q ↔ W (pj lw) 30 35 (l0 :: l1 :: l2 :: l3 :: .val (.int x) :: L) (.int x :: S) k n H Q := W_s (rfl : (pj lw).1 30 33 = some (.iload 4, 2, 0)) rfl rfl rfl
theorem w30_35 {x : Int32} {l0 l1 l2 : Slot} : W (pj lw) 30 35 (l0 :: l1 :: l2 :: .val (.int x) :: L) S k n H Q ↔ W (pj lw) 30 36 (l0 :: l1 :: l2 :: .val (.int x) :: L) (.int x :: S) k n H Q := W_s (rfl : (pj lw).1 30 35 = some (.iload_n 3, 1, 0)) rfl rfl rfl
theorem w30_36 {x y : Int32} : W (pj lw) 30 36 L (.int y :: .int x :: S) k n H Q ↔ (if x < y then W (pj lw) 30 39 L S k n H Q else W (pj lw) 30 66 L S k n H Q) := W_icmp_ge (rfl : (pj lw).1 30 36 = some (.if_icmp .ge 30, 3, 0)) rfl
theorem w30_39 {x : Int32} {l0 l1 l2 l3 : Slot} : W (pj lw) 30 39 (l0 :: l1 :: l2 :: l3 :: .val (.int x) :: L) S k n H Q ↔ W (pj lw) 30 41 (l0 :: l1 :: l2 :: l3 :: .val (.int x) :: L) (.int x :: S) k n H Q := W_s (rfl : (pj lw).1 30 39 = some (.iload 4, 2, 0)) rfl rfl rfl
theorem w30_41 : W (pj lw) 30 41 L S k n H Q ↔ W (pj lw) 30 43 L (.int 32 :: S) k n H Q := W_s (rfl : (pj lw).1 30 41 = some (.bipush 32, 2, 0)) rfl rfl rfl
theorem w30_43 {x y : Int32} : W (pj lw) 30 43 L (.int y :: .int x :: S) k n H Q ↔ (if x < y then W (pj lw) 30 46 L S k n H Q else W (pj lw) 30 66 L S k n H Q) := W_icmp_ge (rfl : (pj lw).1 30 43 = some (.if_icmp .ge 23, 3, 0)) rfl
theorem w30_46 {x : Nat} : W (pj lw) 30 46 (.val (.ref x) :: L) S k n H Q ↔ W (pj lw) 30 47 (.val (.ref x) :: L) (.ref x :: S) k n H Q := W_s (rfl : (pj lw).1 30 46 = some (.aload_n 0, 1, 0)) rfl rfl rfl
theorem w30_47 {x : Nat} : W (pj lw) 30 47 (.val (.ref x) :: L) S k n H Q ↔ W (pj lw) 30 48 (.val (.ref x) :: L) (.ref x :: S) k n H Q := W_s (rfl : (pj lw).1 30 47 = some (.aload_n 0, 1, 0)) rfl rfl rfl
theorem w30_48 {a : Nat} : W (pj lw) 30 48 L (.ref a :: S) k n H Q ↔ (isO H a = true ∧ W (pj lw) 30 51 L (fld H a 11 :: S) k n H Q) := W_getf (rfl : (pj lw).1 30 48 = some (.getfield 41, 3, 11))
theorem w30_51 {x : Int32} {l0 l1 l2 l3 : Slot} : W (pj lw) 30 51 (l0 :: l1 :: l2 :: l3 :: .val (.int x) :: L) S k n H Q ↔ W (pj lw) 30 53 (l0 :: l1 :: l2 :: l3 :: .val (.int x) :: L) (.int x :: S) k n H Q := W_s (rfl : (pj lw).1 30 51 = some (.iload 4, 2, 0)) rfl rfl rfl
theorem w30_53 {i : Int32} {a : Nat} : W (pj lw) 30 53 L (.int i :: .ref a :: S) k n H Q ↔ (inA H a .int i = true ∧ W (pj lw) 30 54 L (elt H a i :: S) k n H Q) := W_iaload (rfl : (pj lw).1 30 53 = some (.iaload, 1, 0))
theorem w30_54 {x : Int32} {l0 l1 : Slot} : W (pj lw) 30 54 (l0 :: l1 :: .val (.int x) :: L) S k n H Q ↔ W (pj lw) 30 55 (l0 :: l1 :: .val (.int x) :: L) (.int x :: S) k n H Q := W_s (rfl : (pj lw).1 30 54 = some (.iload_n 2, 1, 0)) rfl rfl rfl
theorem w30_55 {x : Int32} {l0 l1 l2 : Slot} : W (pj lw) 30 55 (l0 :: l1 :: l2 :: .val (.int x) :: L) S k n H Q ↔ W (pj lw) 30 56 (l0 :: l1 :: l2 :: .val (.int x) :: L) (.int x :: S) k n H Q := W_s (rfl : (pj lw).1 30 55 = some (.iload_n 3, 1, 0)) rfl rfl rfl
theorem w30_56 {a : Nat} {x0 : Int32} {x1 : Int32} {x2 : Int32} : W (pj lw) 30 56 L (.int x2 :: .int x1 :: .int x0 :: .ref a :: S) k n H Q ↔ ((isO H a = true ∧ cs S + (9 + 11) + 14 ≤ 34) ∧ Cl (pj lw) 31 [.ref a, .int x0, .int x1, .int x2] H (fun v H => W (pj lw) 30 59 L (v.toList ++ S) k n H Q)) := W_inst (as := [.int x0, .int x1, .int x2]) (rfl : (pj lw).1 30 56 = some (.invokevirtual 135, 3, 31)) rfl rfl rfl (Nat.le_of_ble_eq_true rfl) (Nat.le_of_ble_eq_true rfl) ⟨rfl, rfl⟩
theorem w30_59i {y : Int32} {x : Int32} {l0 l1 l2 : Slot} : W (pj lw) 30 59 (l0 :: l1 :: l2 :: .val (.int y) :: L) (.int x :: S) k n H Q ↔ W (pj lw) 30 60 (l0 :: l1 :: l2 :: .val (.int x) :: L) S k n H Q := W_istn (rfl : (pj lw).1 30 59 = some (.istore_n 3, 1, 0)) rfl rfl
theorem w30_60 {x : Int32} {l0 l1 l2 l3 : Slot} : W (pj lw) 30 60 (l0 :: l1 :: l2 :: l3 :: .val (.int x) :: L) S k n H Q ↔ W (pj lw) 30 63 (l0 :: l1 :: l2 :: l3 :: .val (.int (x + 1)) :: L) S k n H Q := W_s (rfl : (pj lw).1 30 60 = some (.iinc 4 1, 3, 0)) rfl rfl rfl
theorem w30_63 : W (pj lw) 30 63 L S k n H Q ↔ W (pj lw) 30 33 L S k n H Q := W_goto (rfl : (pj lw).1 30 63 = some (.goto (-30), 3, 0)) rfl
theorem w30_66 {x : Int32} {l0 l1 l2 : Slot} : W (pj lw) 30 66 (l0 :: l1 :: l2 :: .val (.int x) :: L) S k n H Q ↔ W (pj lw) 30 67 (l0 :: l1 :: l2 :: .val (.int x) :: L) (.int x :: S) k n H Q := W_s (rfl : (pj lw).1 30 66 = some (.iload_n 3, 1, 0)) rfl rfl rfl
theorem w30_67 {x : Int32} : W (pj lw) 30 67 L (.int x :: S) k n H Q ↔ Q (some (.int x)) H := W_r (rfl : (pj lw).1 30 67 = some (.ireturn, 1, 0)) rfl
theorem c31 {x0 : Nat} {x1 : Int32} {x2 : Int32} {x3 : Int32} : Cl (pj lw) 31 [.ref x0, .int x1, .int x2, .int x3] H Q ↔ W (pj lw) 31 0 [.val (.ref x0), .val (.int x1), .val (.int x2), .val (.int x3), .unset, .unset, .unset, .unset, .unset] [] 0 0 H Q := cl_unf rfl
theorem w31_0 {x : Int32} {l0 l1 l2 : Slot} : W (pj lw) 31 0 (l0 :: l1 :: l2 :: .val (.int x) :: L) S k n H Q ↔ W (pj lw) 31 1 (l0 :: l1 :: l2 :: .val (.int x) :: L) (.int x :: S) k n H Q := W_s (rfl : (pj lw).1 31 0 = some (.iload_n 3, 1, 0)) rfl rfl rfl
theorem w31_1 {x : Int32} {l0 l1 l2 l3 : Slot} : W (pj lw) 31 1 (l0 :: l1 :: l2 :: l3 :: .unset :: L) (.int x :: S) k n H Q ↔ W (pj lw) 31 3 (l0 :: l1 :: l2 :: l3 :: .val (.int x) :: L) S k n H Q := W_ist (rfl : (pj lw).1 31 1 = some (.istore 4, 2, 0)) rfl rfl
theorem w31_3 {x : Int32} {l0 : Slot} : W (pj lw) 31 3 (l0 :: .val (.int x) :: L) S k n H Q ↔ W (pj lw) 31 4 (l0 :: .val (.int x) :: L) (.int x :: S) k n H Q := W_s (rfl : (pj lw).1 31 3 = some (.iload_n 1, 1, 0)) rfl rfl rfl
theorem w31_4 {x : Int32} : W (pj lw) 31 4 L (.int x :: S) k n H Q ↔ (if x < 0 then W (pj lw) 31 13 L S k n H Q else W (pj lw) 31 7 L S k n H Q) := W_if_lt (rfl : (pj lw).1 31 4 = some (.ifCond .lt 9, 3, 0)) rfl
theorem w31_7 {x : Int32} {l0 : Slot} : W (pj lw) 31 7 (l0 :: .val (.int x) :: L) S k n H Q ↔ W (pj lw) 31 8 (l0 :: .val (.int x) :: L) (.int x :: S) k n H Q := W_s (rfl : (pj lw).1 31 7 = some (.iload_n 1, 1, 0)) rfl rfl rfl
theorem w31_8 : W (pj lw) 31 8 L S k n H Q ↔ W (pj lw) 31 10 L (.int 32 :: S) k n H Q := W_s (rfl : (pj lw).1 31 8 = some (.bipush 32, 2, 0)) rfl rfl rfl
theorem w31_10 {x y : Int32} : W (pj lw) 31 10 L (.int y :: .int x :: S) k n H Q ↔ (if x < y then W (pj lw) 31 16 L S k n H Q else W (pj lw) 31 13 L S k n H Q) := W_icmp_lt (rfl : (pj lw).1 31 10 = some (.if_icmp .lt 6, 3, 0)) rfl
theorem w31_13 {x : Int32} {l0 l1 l2 l3 : Slot} : W (pj lw) 31 13 (l0 :: l1 :: l2 :: l3 :: .val (.int x) :: L) S k n H Q ↔ W (pj lw) 31 15 (l0 :: l1 :: l2 :: l3 :: .val (.int x) :: L) (.int x :: S) k n H Q := W_s (rfl : (pj lw).1 31 13 = some (.iload 4, 2, 0)) rfl rfl rfl
theorem w31_15 {x : Int32} : W (pj lw) 31 15 L (.int x :: S) k n H Q ↔ Q (some (.int x)) H := W_r (rfl : (pj lw).1 31 15 = some (.ireturn, 1, 0)) rfl
theorem w31_16 {x : Int32} {l0 : Slot} : W (pj lw) 31 16 (l0 :: .val (.int x) :: L) S k n H Q ↔ W (pj lw) 31 17 (l0 :: .val (.int x) :: L) (.int x :: S) k n H Q := W_s (rfl : (pj lw).1 31 16 = some (.iload_n 1, 1, 0)) rfl rfl rfl
theorem w31_17 : W (pj lw) 31 17 L S k n H Q ↔ W (pj lw) 31 19 L (.int 32 :: S) k n H Q := W_s (rfl : (pj lw).1 31 17 = some (.bipush 32, 2, 0)) rfl rfl rfl
theorem w31_19 {x y : Int32} : W (pj lw) 31 19 L (.int y :: .int x :: S) k n H Q ↔ W (pj lw) 31 20 L (.int (x * y) :: S) k n H Q := W_s (rfl : (pj lw).1 31 19 = some (.imul, 1, 0)) rfl rfl rfl
theorem w31_20 {x : Int32} {l0 l1 l2 l3 l4 : Slot} : W (pj lw) 31 20 (l0 :: l1 :: l2 :: l3 :: l4 :: .unset :: L) (.int x :: S) k n H Q ↔ W (pj lw) 31 22 (l0 :: l1 :: l2 :: l3 :: l4 :: .val (.int x) :: L) S k n H Q := W_ist (rfl : (pj lw).1 31 20 = some (.istore 5, 2, 0)) rfl rfl
theorem w31_22 : W (pj lw) 31 22 L S k n H Q ↔ W (pj lw) 31 23 L (.int 0 :: S) k n H Q := W_s (rfl : (pj lw).1 31 22 = some (.iconst 0, 1, 0)) rfl rfl rfl
theorem w31_23 {x : Int32} {l0 l1 l2 l3 l4 l5 : Slot} : W (pj lw) 31 23 (l0 :: l1 :: l2 :: l3 :: l4 :: l5 :: .unset :: L) (.int x :: S) k n H Q ↔ W (pj lw) 31 25 (l0 :: l1 :: l2 :: l3 :: l4 :: l5 :: .val (.int x) :: L) S k n H Q := W_ist (rfl : (pj lw).1 31 23 = some (.istore 6, 2, 0)) rfl rfl
theorem w31_25 {x : Int32} {l0 l1 l2 l3 l4 l5 : Slot} : W (pj lw) 31 25 (l0 :: l1 :: l2 :: l3 :: l4 :: l5 :: .val (.int x) :: L) S k n H Q ↔ W (pj lw) 31 27 (l0 :: l1 :: l2 :: l3 :: l4 :: l5 :: .val (.int x) :: L) (.int x :: S) k n H Q := W_s (rfl : (pj lw).1 31 25 = some (.iload 6, 2, 0)) rfl rfl rfl
theorem w31_27 {x : Nat} : W (pj lw) 31 27 (.val (.ref x) :: L) S k n H Q ↔ W (pj lw) 31 28 (.val (.ref x) :: L) (.ref x :: S) k n H Q := W_s (rfl : (pj lw).1 31 27 = some (.aload_n 0, 1, 0)) rfl rfl rfl
theorem w31_28 {a : Nat} : W (pj lw) 31 28 L (.ref a :: S) k n H Q ↔ (isO H a = true ∧ W (pj lw) 31 31 L (fld H a 7 :: S) k n H Q) := W_getf (rfl : (pj lw).1 31 28 = some (.getfield 29, 3, 7))
theorem w31_31 {x : Int32} {l0 : Slot} : W (pj lw) 31 31 (l0 :: .val (.int x) :: L) S k n H Q ↔ W (pj lw) 31 32 (l0 :: .val (.int x) :: L) (.int x :: S) k n H Q := W_s (rfl : (pj lw).1 31 31 = some (.iload_n 1, 1, 0)) rfl rfl rfl
theorem w31_32 {i : Int32} {a : Nat} : W (pj lw) 31 32 L (.int i :: .ref a :: S) k n H Q ↔ (inA H a .int i = true ∧ W (pj lw) 31 33 L (elt H a i :: S) k n H Q) := W_iaload (rfl : (pj lw).1 31 32 = some (.iaload, 1, 0))
theorem w31_33 {x y : Int32} : W (pj lw) 31 33 L (.int y :: .int x :: S) k n H Q ↔ (if x < y then W (pj lw) 31 36 L S k n H Q else W (pj lw) 31 157 L S k n H Q) := W_icmp_ge (rfl : (pj lw).1 31 33 = some (.if_icmp .ge 124, 3, 0)) rfl
theorem w31_36 {x : Int32} {l0 l1 l2 l3 l4 l5 : Slot} : W (pj lw) 31 36 (l0 :: l1 :: l2 :: l3 :: l4 :: l5 :: .val (.int x) :: L) S k n H Q ↔ W (pj lw) 31 38 (l0 :: l1 :: l2 :: l3 :: l4 :: l5 :: .val (.int x) :: L) (.int x :: S) k n H Q := W_s (rfl : (pj lw).1 31 36 = some (.iload 6, 2, 0)) rfl rfl rfl
theorem w31_38 : W (pj lw) 31 38 L S k n H Q ↔ W (pj lw) 31 40 L (.int 32 :: S) k n H Q := W_s (rfl : (pj lw).1 31 38 = some (.bipush 32, 2, 0)) rfl rfl rfl
theorem w31_40 {x y : Int32} : W (pj lw) 31 40 L (.int y :: .int x :: S) k n H Q ↔ (if x < y then W (pj lw) 31 43 L S k n H Q else W (pj lw) 31 157 L S k n H Q) := W_icmp_ge (rfl : (pj lw).1 31 40 = some (.if_icmp .ge 117, 3, 0)) rfl
theorem w31_43 {x : Nat} : W (pj lw) 31 43 (.val (.ref x) :: L) S k n H Q ↔ W (pj lw) 31 44 (.val (.ref x) :: L) (.ref x :: S) k n H Q := W_s (rfl : (pj lw).1 31 43 = some (.aload_n 0, 1, 0)) rfl rfl rfl
theorem w31_44 {a : Nat} : W (pj lw) 31 44 L (.ref a :: S) k n H Q ↔ (isO H a = true ∧ W (pj lw) 31 47 L (fld H a 6 :: S) k n H Q) := W_getf (rfl : (pj lw).1 31 44 = some (.getfield 26, 3, 6))
theorem w31_47 {x : Int32} {l0 l1 l2 l3 l4 : Slot} : W (pj lw) 31 47 (l0 :: l1 :: l2 :: l3 :: l4 :: .val (.int x) :: L) S k n H Q ↔ W (pj lw) 31 49 (l0 :: l1 :: l2 :: l3 :: l4 :: .val (.int x) :: L) (.int x :: S) k n H Q := W_s (rfl : (pj lw).1 31 47 = some (.iload 5, 2, 0)) rfl rfl rfl
theorem w31_49 {x : Int32} {l0 l1 l2 l3 l4 l5 : Slot} : W (pj lw) 31 49 (l0 :: l1 :: l2 :: l3 :: l4 :: l5 :: .val (.int x) :: L) S k n H Q ↔ W (pj lw) 31 51 (l0 :: l1 :: l2 :: l3 :: l4 :: l5 :: .val (.int x) :: L) (.int x :: S) k n H Q := W_s (rfl : (pj lw).1 31 49 = some (.iload 6, 2, 0)) rfl rfl rfl
theorem w31_51 {x y : Int32} : W (pj lw) 31 51 L (.int y :: .int x :: S) k n H Q ↔ W (pj lw) 31 52 L (.int (x + y) :: S) k n H Q := W_s (rfl : (pj lw).1 31 51 = some (.iadd, 1, 0)) rfl rfl rfl
theorem w31_52 {i : Int32} {a : Nat} : W (pj lw) 31 52 L (.int i :: .ref a :: S) k n H Q ↔ (inA H a .int i = true ∧ W (pj lw) 31 53 L (elt H a i :: S) k n H Q) := W_iaload (rfl : (pj lw).1 31 52 = some (.iaload, 1, 0))
theorem w31_53 {x : Int32} {l0 l1 l2 l3 l4 l5 l6 : Slot} : W (pj lw) 31 53 (l0 :: l1 :: l2 :: l3 :: l4 :: l5 :: l6 :: .unset :: L) (.int x :: S) k n H Q ↔ W (pj lw) 31 55 (l0 :: l1 :: l2 :: l3 :: l4 :: l5 :: l6 :: .val (.int x) :: L) S k n H Q := W_ist (rfl : (pj lw).1 31 53 = some (.istore 7, 2, 0)) rfl rfl
theorem w31_55 {x : Int32} {l0 l1 l2 l3 l4 l5 l6 : Slot} : W (pj lw) 31 55 (l0 :: l1 :: l2 :: l3 :: l4 :: l5 :: l6 :: .val (.int x) :: L) S k n H Q ↔ W (pj lw) 31 57 (l0 :: l1 :: l2 :: l3 :: l4 :: l5 :: l6 :: .val (.int x) :: L) (.int x :: S) k n H Q := W_s (rfl : (pj lw).1 31 55 = some (.iload 7, 2, 0)) rfl rfl rfl
theorem w31_57 {x : Int32} {l0 l1 : Slot} : W (pj lw) 31 57 (l0 :: l1 :: .val (.int x) :: L) S k n H Q ↔ W (pj lw) 31 58 (l0 :: l1 :: .val (.int x) :: L) (.int x :: S) k n H Q := W_s (rfl : (pj lw).1 31 57 = some (.iload_n 2, 1, 0)) rfl rfl rfl
theorem w31_58 {x y : Int32} : W (pj lw) 31 58 L (.int y :: .int x :: S) k n H Q ↔ (if x = y then W (pj lw) 31 151 L S k n H Q else W (pj lw) 31 61 L S k n H Q) := W_icmp_eq (rfl : (pj lw).1 31 58 = some (.if_icmp .eq 93, 3, 0)) rfl
theorem w31_61 {x : Nat} : W (pj lw) 31 61 (.val (.ref x) :: L) S k n H Q ↔ W (pj lw) 31 62 (.val (.ref x) :: L) (.ref x :: S) k n H Q := W_s (rfl : (pj lw).1 31 61 = some (.aload_n 0, 1, 0)) rfl rfl rfl
theorem w31_62 {x : Int32} {l0 l1 l2 l3 l4 l5 l6 : Slot} : W (pj lw) 31 62 (l0 :: l1 :: l2 :: l3 :: l4 :: l5 :: l6 :: .val (.int x) :: L) S k n H Q ↔ W (pj lw) 31 64 (l0 :: l1 :: l2 :: l3 :: l4 :: l5 :: l6 :: .val (.int x) :: L) (.int x :: S) k n H Q := W_s (rfl : (pj lw).1 31 62 = some (.iload 7, 2, 0)) rfl rfl rfl
theorem w31_64 {a : Nat} {x0 : Int32} : W (pj lw) 31 64 L (.int x0 :: .ref a :: S) k n H Q ↔ ((isO H a = true ∧ cs S + (2 + 11) + 0 ≤ 14) ∧ Cl (pj lw) 40 [.ref a, .int x0] H (fun v H => W (pj lw) 31 67 L (v.toList ++ S) k n H Q)) := W_inst (as := [.int x0]) (rfl : (pj lw).1 31 64 = some (.invokevirtual 103, 3, 40)) rfl rfl rfl (Nat.le_of_ble_eq_true rfl) (Nat.le_of_ble_eq_true rfl) ⟨rfl, rfl⟩
theorem w31_67 {x : Int32} : W (pj lw) 31 67 L (.int x :: S) k n H Q ↔ (if x = 0 then W (pj lw) 31 70 L S k n H Q else W (pj lw) 31 73 L S k n H Q) := W_if_ne (rfl : (pj lw).1 31 67 = some (.ifCond .ne 6, 3, 0)) rfl
theorem w31_70 : W (pj lw) 31 70 L S k n H Q ↔ W (pj lw) 31 151 L S k n H Q := W_goto (rfl : (pj lw).1 31 70 = some (.goto 81, 3, 0)) rfl
theorem w31_73 {x : Nat} : W (pj lw) 31 73 (.val (.ref x) :: L) S k n H Q ↔ W (pj lw) 31 74 (.val (.ref x) :: L) (.ref x :: S) k n H Q := W_s (rfl : (pj lw).1 31 73 = some (.aload_n 0, 1, 0)) rfl rfl rfl
theorem w31_74 {x : Int32} {l0 l1 l2 l3 l4 l5 l6 : Slot} : W (pj lw) 31 74 (l0 :: l1 :: l2 :: l3 :: l4 :: l5 :: l6 :: .val (.int x) :: L) S k n H Q ↔ W (pj lw) 31 76 (l0 :: l1 :: l2 :: l3 :: l4 :: l5 :: l6 :: .val (.int x) :: L) (.int x :: S) k n H Q := W_s (rfl : (pj lw).1 31 74 = some (.iload 7, 2, 0)) rfl rfl rfl
theorem w31_76 {x : Int32} {l0 : Slot} : W (pj lw) 31 76 (l0 :: .val (.int x) :: L) S k n H Q ↔ W (pj lw) 31 77 (l0 :: .val (.int x) :: L) (.int x :: S) k n H Q := W_s (rfl : (pj lw).1 31 76 = some (.iload_n 1, 1, 0)) rfl rfl rfl
theorem w31_77 {a : Nat} {x0 : Int32} {x1 : Int32} : W (pj lw) 31 77 L (.int x1 :: .int x0 :: .ref a :: S) k n H Q ↔ ((isO H a = true ∧ cs S + (3 + 11) + 0 ≤ 14) ∧ Cl (pj lw) 35 [.ref a, .int x0, .int x1] H (fun v H => W (pj lw) 31 80 L (v.toList ++ S) k n H Q)) := W_inst (as := [.int x0, .int x1]) (rfl : (pj lw).1 31 77 = some (.invokevirtual 139, 3, 35)) rfl rfl rfl (Nat.le_of_ble_eq_true rfl) (Nat.le_of_ble_eq_true rfl) ⟨rfl, rfl⟩
theorem w31_80 {x : Int32} {l0 l1 l2 l3 l4 l5 l6 l7 : Slot} : W (pj lw) 31 80 (l0 :: l1 :: l2 :: l3 :: l4 :: l5 :: l6 :: l7 :: .unset :: L) (.int x :: S) k n H Q ↔ W (pj lw) 31 82 (l0 :: l1 :: l2 :: l3 :: l4 :: l5 :: l6 :: l7 :: .val (.int x) :: L) S k n H Q := W_ist (rfl : (pj lw).1 31 80 = some (.istore 8, 2, 0)) rfl rfl
theorem w31_82 {x : Int32} {l0 l1 l2 l3 l4 l5 l6 l7 : Slot} : W (pj lw) 31 82 (l0 :: l1 :: l2 :: l3 :: l4 :: l5 :: l6 :: l7 :: .val (.int x) :: L) S k n H Q ↔ W (pj lw) 31 84 (l0 :: l1 :: l2 :: l3 :: l4 :: l5 :: l6 :: l7 :: .val (.int x) :: L) (.int x :: S) k n H Q := W_s (rfl : (pj lw).1 31 82 = some (.iload 8, 2, 0)) rfl rfl rfl
theorem w31_84 {x : Int32} : W (pj lw) 31 84 L (.int x :: S) k n H Q ↔ (if x < 0 then W (pj lw) 31 151 L S k n H Q else W (pj lw) 31 87 L S k n H Q) := W_if_lt (rfl : (pj lw).1 31 84 = some (.ifCond .lt 67, 3, 0)) rfl
theorem w31_87 {x : Int32} {l0 l1 l2 l3 l4 l5 l6 l7 : Slot} : W (pj lw) 31 87 (l0 :: l1 :: l2 :: l3 :: l4 :: l5 :: l6 :: l7 :: .val (.int x) :: L) S k n H Q ↔ W (pj lw) 31 89 (l0 :: l1 :: l2 :: l3 :: l4 :: l5 :: l6 :: l7 :: .val (.int x) :: L) (.int x :: S) k n H Q := W_s (rfl : (pj lw).1 31 87 = some (.iload 8, 2, 0)) rfl rfl rfl
theorem w31_89 : W (pj lw) 31 89 L S k n H Q ↔ W (pj lw) 31 91 L (.int 32 :: S) k n H Q := W_s (rfl : (pj lw).1 31 89 = some (.bipush 32, 2, 0)) rfl rfl rfl
theorem w31_91 {x y : Int32} : W (pj lw) 31 91 L (.int y :: .int x :: S) k n H Q ↔ (if x < y then W (pj lw) 31 94 L S k n H Q else W (pj lw) 31 151 L S k n H Q) := W_icmp_ge (rfl : (pj lw).1 31 91 = some (.if_icmp .ge 60, 3, 0)) rfl
theorem w31_94 {x : Nat} : W (pj lw) 31 94 (.val (.ref x) :: L) S k n H Q ↔ W (pj lw) 31 95 (.val (.ref x) :: L) (.ref x :: S) k n H Q := W_s (rfl : (pj lw).1 31 94 = some (.aload_n 0, 1, 0)) rfl rfl rfl
theorem w31_95 {a : Nat} : W (pj lw) 31 95 L (.ref a :: S) k n H Q ↔ (isO H a = true ∧ W (pj lw) 31 98 L (fld H a 8 :: S) k n H Q) := W_getf (rfl : (pj lw).1 31 95 = some (.getfield 32, 3, 8))
theorem w31_98 {x : Int32} {l0 l1 l2 l3 l4 l5 l6 l7 : Slot} : W (pj lw) 31 98 (l0 :: l1 :: l2 :: l3 :: l4 :: l5 :: l6 :: l7 :: .val (.int x) :: L) S k n H Q ↔ W (pj lw) 31 100 (l0 :: l1 :: l2 :: l3 :: l4 :: l5 :: l6 :: l7 :: .val (.int x) :: L) (.int x :: S) k n H Q := W_s (rfl : (pj lw).1 31 98 = some (.iload 8, 2, 0)) rfl rfl rfl
theorem w31_100 {i : Int32} {a : Nat} : W (pj lw) 31 100 L (.int i :: .ref a :: S) k n H Q ↔ ((inA H a .byte i = true ∨ inA H a .boolean i = true) ∧ W (pj lw) 31 101 L (elt H a i :: S) k n H Q) := W_baload (rfl : (pj lw).1 31 100 = some (.baload, 1, 0))
theorem w31_101 {x : Int32} : W (pj lw) 31 101 L (.int x :: S) k n H Q ↔ (if x = 0 then W (pj lw) 31 104 L S k n H Q else W (pj lw) 31 151 L S k n H Q) := W_if_ne (rfl : (pj lw).1 31 101 = some (.ifCond .ne 50, 3, 0)) rfl
theorem w31_104 {x : Int32} {l0 l1 l2 l3 : Slot} : W (pj lw) 31 104 (l0 :: l1 :: l2 :: l3 :: .val (.int x) :: L) S k n H Q ↔ W (pj lw) 31 106 (l0 :: l1 :: l2 :: l3 :: .val (.int x) :: L) (.int x :: S) k n H Q := W_s (rfl : (pj lw).1 31 104 = some (.iload 4, 2, 0)) rfl rfl rfl
theorem w31_106 : W (pj lw) 31 106 L S k n H Q ↔ W (pj lw) 31 108 L (.int 32 :: S) k n H Q := W_s (rfl : (pj lw).1 31 106 = some (.bipush 32, 2, 0)) rfl rfl rfl
theorem w31_108 {x y : Int32} : W (pj lw) 31 108 L (.int y :: .int x :: S) k n H Q ↔ (if x < y then W (pj lw) 31 114 L S k n H Q else W (pj lw) 31 111 L S k n H Q) := W_icmp_lt (rfl : (pj lw).1 31 108 = some (.if_icmp .lt 6, 3, 0)) rfl
theorem w31_111 : W (pj lw) 31 111 L S k n H Q ↔ W (pj lw) 31 151 L S k n H Q := W_goto (rfl : (pj lw).1 31 111 = some (.goto 40, 3, 0)) rfl
theorem w31_114 {x : Nat} : W (pj lw) 31 114 (.val (.ref x) :: L) S k n H Q ↔ W (pj lw) 31 115 (.val (.ref x) :: L) (.ref x :: S) k n H Q := W_s (rfl : (pj lw).1 31 114 = some (.aload_n 0, 1, 0)) rfl rfl rfl
theorem w31_115 {a : Nat} : W (pj lw) 31 115 L (.ref a :: S) k n H Q ↔ (isO H a = true ∧ W (pj lw) 31 118 L (fld H a 8 :: S) k n H Q) := W_getf (rfl : (pj lw).1 31 115 = some (.getfield 32, 3, 8))
theorem w31_118 {x : Int32} {l0 l1 l2 l3 l4 l5 l6 l7 : Slot} : W (pj lw) 31 118 (l0 :: l1 :: l2 :: l3 :: l4 :: l5 :: l6 :: l7 :: .val (.int x) :: L) S k n H Q ↔ W (pj lw) 31 120 (l0 :: l1 :: l2 :: l3 :: l4 :: l5 :: l6 :: l7 :: .val (.int x) :: L) (.int x :: S) k n H Q := W_s (rfl : (pj lw).1 31 118 = some (.iload 8, 2, 0)) rfl rfl rfl
theorem w31_120 : W (pj lw) 31 120 L S k n H Q ↔ W (pj lw) 31 121 L (.int 1 :: S) k n H Q := W_s (rfl : (pj lw).1 31 120 = some (.iconst 1, 1, 0)) rfl rfl rfl
theorem w31_121 {x i : Int32} {a : Nat} : W (pj lw) 31 121 L (.int x :: .int i :: .ref a :: S) k n H Q ↔ (((inAw H a .byte i = true ∧ okv .byte (.int x) = true) ∨ (inAw H a .boolean i = true ∧ okv .boolean (.int x) = true)) ∧ W (pj lw) 31 122 L S k n (wr H a i.toNatClampNeg (.int x)) Q) := W_bastore (rfl : (pj lw).1 31 121 = some (.bastore, 1, 0))
theorem w31_122 {x : Nat} : W (pj lw) 31 122 (.val (.ref x) :: L) S k n H Q ↔ W (pj lw) 31 123 (.val (.ref x) :: L) (.ref x :: S) k n H Q := W_s (rfl : (pj lw).1 31 122 = some (.aload_n 0, 1, 0)) rfl rfl rfl
theorem w31_123 {a : Nat} : W (pj lw) 31 123 L (.ref a :: S) k n H Q ↔ (isO H a = true ∧ W (pj lw) 31 126 L (fld H a 9 :: S) k n H Q) := W_getf (rfl : (pj lw).1 31 123 = some (.getfield 35, 3, 9))
theorem w31_126 {x : Int32} {l0 l1 l2 l3 l4 l5 l6 l7 : Slot} : W (pj lw) 31 126 (l0 :: l1 :: l2 :: l3 :: l4 :: l5 :: l6 :: l7 :: .val (.int x) :: L) S k n H Q ↔ W (pj lw) 31 128 (l0 :: l1 :: l2 :: l3 :: l4 :: l5 :: l6 :: l7 :: .val (.int x) :: L) (.int x :: S) k n H Q := W_s (rfl : (pj lw).1 31 126 = some (.iload 8, 2, 0)) rfl rfl rfl
theorem w31_128 {x : Int32} {l0 l1 l2 l3 l4 l5 l6 : Slot} : W (pj lw) 31 128 (l0 :: l1 :: l2 :: l3 :: l4 :: l5 :: l6 :: .val (.int x) :: L) S k n H Q ↔ W (pj lw) 31 130 (l0 :: l1 :: l2 :: l3 :: l4 :: l5 :: l6 :: .val (.int x) :: L) (.int x :: S) k n H Q := W_s (rfl : (pj lw).1 31 128 = some (.iload 7, 2, 0)) rfl rfl rfl
theorem w31_130 {x i : Int32} {a : Nat} : W (pj lw) 31 130 L (.int x :: .int i :: .ref a :: S) k n H Q ↔ (inAw H a .int i = true ∧ W (pj lw) 31 131 L S k n (wr H a i.toNatClampNeg (.int x)) Q) := W_iastore (rfl : (pj lw).1 31 130 = some (.iastore, 1, 0))
theorem w31_131 {x : Nat} : W (pj lw) 31 131 (.val (.ref x) :: L) S k n H Q ↔ W (pj lw) 31 132 (.val (.ref x) :: L) (.ref x :: S) k n H Q := W_s (rfl : (pj lw).1 31 131 = some (.aload_n 0, 1, 0)) rfl rfl rfl
theorem w31_132 {a : Nat} : W (pj lw) 31 132 L (.ref a :: S) k n H Q ↔ (isO H a = true ∧ W (pj lw) 31 135 L (fld H a 10 :: S) k n H Q) := W_getf (rfl : (pj lw).1 31 132 = some (.getfield 38, 3, 10))
theorem w31_135 {x : Int32} {l0 l1 l2 l3 l4 l5 l6 l7 : Slot} : W (pj lw) 31 135 (l0 :: l1 :: l2 :: l3 :: l4 :: l5 :: l6 :: l7 :: .val (.int x) :: L) S k n H Q ↔ W (pj lw) 31 137 (l0 :: l1 :: l2 :: l3 :: l4 :: l5 :: l6 :: l7 :: .val (.int x) :: L) (.int x :: S) k n H Q := W_s (rfl : (pj lw).1 31 135 = some (.iload 8, 2, 0)) rfl rfl rfl
theorem w31_137 {x : Int32} {l0 : Slot} : W (pj lw) 31 137 (l0 :: .val (.int x) :: L) S k n H Q ↔ W (pj lw) 31 138 (l0 :: .val (.int x) :: L) (.int x :: S) k n H Q := W_s (rfl : (pj lw).1 31 137 = some (.iload_n 1, 1, 0)) rfl rfl rfl
theorem w31_138 {x i : Int32} {a : Nat} : W (pj lw) 31 138 L (.int x :: .int i :: .ref a :: S) k n H Q ↔ (inAw H a .int i = true ∧ W (pj lw) 31 139 L S k n (wr H a i.toNatClampNeg (.int x)) Q) := W_iastore (rfl : (pj lw).1 31 138 = some (.iastore, 1, 0))
theorem w31_139 {x : Nat} : W (pj lw) 31 139 (.val (.ref x) :: L) S k n H Q ↔ W (pj lw) 31 140 (.val (.ref x) :: L) (.ref x :: S) k n H Q := W_s (rfl : (pj lw).1 31 139 = some (.aload_n 0, 1, 0)) rfl rfl rfl
theorem w31_140 {a : Nat} : W (pj lw) 31 140 L (.ref a :: S) k n H Q ↔ (isO H a = true ∧ W (pj lw) 31 143 L (fld H a 11 :: S) k n H Q) := W_getf (rfl : (pj lw).1 31 140 = some (.getfield 41, 3, 11))
theorem w31_143 {x : Int32} {l0 l1 l2 l3 : Slot} : W (pj lw) 31 143 (l0 :: l1 :: l2 :: l3 :: .val (.int x) :: L) S k n H Q ↔ W (pj lw) 31 145 (l0 :: l1 :: l2 :: l3 :: .val (.int x) :: L) (.int x :: S) k n H Q := W_s (rfl : (pj lw).1 31 143 = some (.iload 4, 2, 0)) rfl rfl rfl
theorem w31_145 {x : Int32} {l0 l1 l2 l3 l4 l5 l6 l7 : Slot} : W (pj lw) 31 145 (l0 :: l1 :: l2 :: l3 :: l4 :: l5 :: l6 :: l7 :: .val (.int x) :: L) S k n H Q ↔ W (pj lw) 31 147 (l0 :: l1 :: l2 :: l3 :: l4 :: l5 :: l6 :: l7 :: .val (.int x) :: L) (.int x :: S) k n H Q := W_s (rfl : (pj lw).1 31 145 = some (.iload 8, 2, 0)) rfl rfl rfl
theorem w31_147 {x i : Int32} {a : Nat} : W (pj lw) 31 147 L (.int x :: .int i :: .ref a :: S) k n H Q ↔ (inAw H a .int i = true ∧ W (pj lw) 31 148 L S k n (wr H a i.toNatClampNeg (.int x)) Q) := W_iastore (rfl : (pj lw).1 31 147 = some (.iastore, 1, 0))
theorem w31_148 {x : Int32} {l0 l1 l2 l3 : Slot} : W (pj lw) 31 148 (l0 :: l1 :: l2 :: l3 :: .val (.int x) :: L) S k n H Q ↔ W (pj lw) 31 151 (l0 :: l1 :: l2 :: l3 :: .val (.int (x + 1)) :: L) S k n H Q := W_s (rfl : (pj lw).1 31 148 = some (.iinc 4 1, 3, 0)) rfl rfl rfl
theorem w31_151 {x : Int32} {l0 l1 l2 l3 l4 l5 : Slot} : W (pj lw) 31 151 (l0 :: l1 :: l2 :: l3 :: l4 :: l5 :: .val (.int x) :: L) S k n H Q ↔ W (pj lw) 31 154 (l0 :: l1 :: l2 :: l3 :: l4 :: l5 :: .val (.int (x + 1)) :: L) S k n H Q := W_s (rfl : (pj lw).1 31 151 = some (.iinc 6 1, 3, 0)) rfl rfl rfl
theorem w31_154 : W (pj lw) 31 154 L S k n H Q ↔ W (pj lw) 31 25 L S k n H Q := W_goto (rfl : (pj lw).1 31 154 = some (.goto (-129), 3, 0)) rfl
theorem w31_157 {x : Int32} {l0 l1 l2 l3 : Slot} : W (pj lw) 31 157 (l0 :: l1 :: l2 :: l3 :: .val (.int x) :: L) S k n H Q ↔ W (pj lw) 31 159 (l0 :: l1 :: l2 :: l3 :: .val (.int x) :: L) (.int x :: S) k n H Q := W_s (rfl : (pj lw).1 31 157 = some (.iload 4, 2, 0)) rfl rfl rfl
theorem w31_159 {x : Int32} : W (pj lw) 31 159 L (.int x :: S) k n H Q ↔ Q (some (.int x)) H := W_r (rfl : (pj lw).1 31 159 = some (.ireturn, 1, 0)) rfl
theorem c32 {x0 : Nat} {x1 : Int32} : Cl (pj lw) 32 [.ref x0, .int x1] H Q ↔ W (pj lw) 32 0 [.val (.ref x0), .val (.int x1), .unset, .unset, .unset, .unset] [] 0 0 H Q := cl_unf rfl
theorem w32_0 : W (pj lw) 32 0 L S k n H Q ↔ W (pj lw) 32 1 L (.int (-1) :: S) k n H Q := W_s (rfl : (pj lw).1 32 0 = some (.iconst (-1), 1, 0)) rfl rfl rfl
theorem w32_1 {x : Int32} {l0 l1 : Slot} : W (pj lw) 32 1 (l0 :: l1 :: .unset :: L) (.int x :: S) k n H Q ↔ W (pj lw) 32 2 (l0 :: l1 :: .val (.int x) :: L) S k n H Q := W_istn (rfl : (pj lw).1 32 1 = some (.istore_n 2, 1, 0)) rfl rfl
theorem w32_2 {x : Int32} {l0 : Slot} : W (pj lw) 32 2 (l0 :: .val (.int x) :: L) S k n H Q ↔ W (pj lw) 32 3 (l0 :: .val (.int x) :: L) (.int x :: S) k n H Q := W_s (rfl : (pj lw).1 32 2 = some (.iload_n 1, 1, 0)) rfl rfl rfl
theorem w32_3 {x : Int32} {l0 l1 l2 : Slot} : W (pj lw) 32 3 (l0 :: l1 :: l2 :: .unset :: L) (.int x :: S) k n H Q ↔ W (pj lw) 32 4 (l0 :: l1 :: l2 :: .val (.int x) :: L) S k n H Q := W_istn (rfl : (pj lw).1 32 3 = some (.istore_n 3, 1, 0)) rfl rfl
theorem w32_4 : W (pj lw) 32 4 L S k n H Q ↔ W (pj lw) 32 5 L (.int 0 :: S) k n H Q := W_s (rfl : (pj lw).1 32 4 = some (.iconst 0, 1, 0)) rfl rfl rfl
theorem w32_5 {x : Int32} {l0 l1 l2 l3 : Slot} : W (pj lw) 32 5 (l0 :: l1 :: l2 :: l3 :: .unset :: L) (.int x :: S) k n H Q ↔ W (pj lw) 32 7 (l0 :: l1 :: l2 :: l3 :: .val (.int x) :: L) S k n H Q := W_ist (rfl : (pj lw).1 32 5 = some (.istore 4, 2, 0)) rfl rfl
theorem w32_7 {x : Int32} {l0 l1 l2 l3 : Slot} : W (pj lw) 32 7 (l0 :: l1 :: l2 :: l3 :: .val (.int x) :: L) S k n H Q ↔ W (pj lw) 32 9 (l0 :: l1 :: l2 :: l3 :: .val (.int x) :: L) (.int x :: S) k n H Q := W_s (rfl : (pj lw).1 32 7 = some (.iload 4, 2, 0)) rfl rfl rfl
theorem w32_9 : W (pj lw) 32 9 L S k n H Q ↔ W (pj lw) 32 11 L (.int 32 :: S) k n H Q := W_s (rfl : (pj lw).1 32 9 = some (.bipush 32, 2, 0)) rfl rfl rfl
theorem w32_11 {x y : Int32} : W (pj lw) 32 11 L (.int y :: .int x :: S) k n H Q ↔ (if x < y then W (pj lw) 32 14 L S k n H Q else W (pj lw) 32 65 L S k n H Q) := W_icmp_ge (rfl : (pj lw).1 32 11 = some (.if_icmp .ge 54, 3, 0)) rfl
theorem w32_14 {x : Int32} {l0 l1 l2 : Slot} : W (pj lw) 32 14 (l0 :: l1 :: l2 :: .val (.int x) :: L) S k n H Q ↔ W (pj lw) 32 15 (l0 :: l1 :: l2 :: .val (.int x) :: L) (.int x :: S) k n H Q := W_s (rfl : (pj lw).1 32 14 = some (.iload_n 3, 1, 0)) rfl rfl rfl
theorem w32_15 {x : Int32} : W (pj lw) 32 15 L (.int x :: S) k n H Q ↔ (if x < 0 then W (pj lw) 32 65 L S k n H Q else W (pj lw) 32 18 L S k n H Q) := W_if_lt (rfl : (pj lw).1 32 15 = some (.ifCond .lt 50, 3, 0)) rfl
theorem w32_18 {x : Int32} {l0 l1 l2 : Slot} : W (pj lw) 32 18 (l0 :: l1 :: l2 :: .val (.int x) :: L) S k n H Q ↔ W (pj lw) 32 19 (l0 :: l1 :: l2 :: .val (.int x) :: L) (.int x :: S) k n H Q := W_s (rfl : (pj lw).1 32 18 = some (.iload_n 3, 1, 0)) rfl rfl rfl
theorem w32_19 : W (pj lw) 32 19 L S k n H Q ↔ W (pj lw) 32 21 L (.int 32 :: S) k n H Q := W_s (rfl : (pj lw).1 32 19 = some (.bipush 32, 2, 0)) rfl rfl rfl
theorem w32_21 {x y : Int32} : W (pj lw) 32 21 L (.int y :: .int x :: S) k n H Q ↔ (if x < y then W (pj lw) 32 27 L S k n H Q else W (pj lw) 32 24 L S k n H Q) := W_icmp_lt (rfl : (pj lw).1 32 21 = some (.if_icmp .lt 6, 3, 0)) rfl
theorem w32_24 : W (pj lw) 32 24 L S k n H Q ↔ W (pj lw) 32 65 L S k n H Q := W_goto (rfl : (pj lw).1 32 24 = some (.goto 41, 3, 0)) rfl
theorem w32_27 {x : Nat} : W (pj lw) 32 27 (.val (.ref x) :: L) S k n H Q ↔ W (pj lw) 32 28 (.val (.ref x) :: L) (.ref x :: S) k n H Q := W_s (rfl : (pj lw).1 32 27 = some (.aload_n 0, 1, 0)) rfl rfl rfl
theorem w32_28 {a : Nat} : W (pj lw) 32 28 L (.ref a :: S) k n H Q ↔ (isO H a = true ∧ W (pj lw) 32 31 L (fld H a 9 :: S) k n H Q) := W_getf (rfl : (pj lw).1 32 28 = some (.getfield 35, 3, 9))
theorem w32_31 {x : Int32} {l0 l1 l2 : Slot} : W (pj lw) 32 31 (l0 :: l1 :: l2 :: .val (.int x) :: L) S k n H Q ↔ W (pj lw) 32 32 (l0 :: l1 :: l2 :: .val (.int x) :: L) (.int x :: S) k n H Q := W_s (rfl : (pj lw).1 32 31 = some (.iload_n 3, 1, 0)) rfl rfl rfl
theorem w32_32 {i : Int32} {a : Nat} : W (pj lw) 32 32 L (.int i :: .ref a :: S) k n H Q ↔ (inA H a .int i = true ∧ W (pj lw) 32 33 L (elt H a i :: S) k n H Q) := W_iaload (rfl : (pj lw).1 32 32 = some (.iaload, 1, 0))
theorem w32_33 {x : Int32} {l0 l1 l2 l3 l4 : Slot} : W (pj lw) 32 33 (l0 :: l1 :: l2 :: l3 :: l4 :: .unset :: L) (.int x :: S) k n H Q ↔ W (pj lw) 32 35 (l0 :: l1 :: l2 :: l3 :: l4 :: .val (.int x) :: L) S k n H Q := W_ist (rfl : (pj lw).1 32 33 = some (.istore 5, 2, 0)) rfl rfl
theorem w32_35 {x : Int32} {l0 l1 l2 l3 l4 : Slot} : W (pj lw) 32 35 (l0 :: l1 :: l2 :: l3 :: l4 :: .val (.int x) :: L) S k n H Q ↔ W (pj lw) 32 37 (l0 :: l1 :: l2 :: l3 :: l4 :: .val (.int x) :: L) (.int x :: S) k n H Q := W_s (rfl : (pj lw).1 32 35 = some (.iload 5, 2, 0)) rfl rfl rfl
theorem w32_37 : W (pj lw) 32 37 L S k n H Q ↔ W (pj lw) 32 38 L (.int (-1) :: S) k n H Q := W_s (rfl : (pj lw).1 32 37 = some (.iconst (-1), 1, 0)) rfl rfl rfl
theorem w32_38 {x y : Int32} : W (pj lw) 32 38 L (.int y :: .int x :: S) k n H Q ↔ (if x = y then W (pj lw) 32 41 L S k n H Q else W (pj lw) 32 44 L S k n H Q) := W_icmp_ne (rfl : (pj lw).1 32 38 = some (.if_icmp .ne 6, 3, 0)) rfl
theorem w32_41 : W (pj lw) 32 41 L S k n H Q ↔ W (pj lw) 32 65 L S k n H Q := W_goto (rfl : (pj lw).1 32 41 = some (.goto 24, 3, 0)) rfl
theorem w32_44 {x : Nat} : W (pj lw) 32 44 (.val (.ref x) :: L) S k n H Q ↔ W (pj lw) 32 45 (.val (.ref x) :: L) (.ref x :: S) k n H Q := W_s (rfl : (pj lw).1 32 44 = some (.aload_n 0, 1, 0)) rfl rfl rfl
theorem w32_45 {x : Int32} {l0 l1 : Slot} : W (pj lw) 32 45 (l0 :: l1 :: .val (.int x) :: L) S k n H Q ↔ W (pj lw) 32 46 (l0 :: l1 :: .val (.int x) :: L) (.int x :: S) k n H Q := W_s (rfl : (pj lw).1 32 45 = some (.iload_n 2, 1, 0)) rfl rfl rfl
theorem w32_46 {x : Int32} {l0 l1 l2 l3 l4 : Slot} : W (pj lw) 32 46 (l0 :: l1 :: l2 :: l3 :: l4 :: .val (.int x) :: L) S k n H Q ↔ W (pj lw) 32 48 (l0 :: l1 :: l2 :: l3 :: l4 :: .val (.int x) :: L) (.int x :: S) k n H Q := W_s (rfl : (pj lw).1 32 46 = some (.iload 5, 2, 0)) rfl rfl rfl
theorem w32_48 {a : Nat} {x0 : Int32} {x1 : Int32} : W (pj lw) 32 48 L (.int x1 :: .int x0 :: .ref a :: S) k n H Q ↔ ((isO H a = true ∧ cs S + (3 + 11) + 14 ≤ 28) ∧ Cl (pj lw) 38 [.ref a, .int x0, .int x1] H (fun v H => W (pj lw) 32 51 L (v.toList ++ S) k n H Q)) := W_inst (as := [.int x0, .int x1]) (rfl : (pj lw).1 32 48 = some (.invokevirtual 142, 3, 38)) rfl rfl rfl (Nat.le_of_ble_eq_true rfl) (Nat.le_of_ble_eq_true rfl) ⟨rfl, rfl⟩
theorem w32_51i {y : Int32} {x : Int32} {l0 l1 : Slot} : W (pj lw) 32 51 (l0 :: l1 :: .val (.int y) :: L) (.int x :: S) k n H Q ↔ W (pj lw) 32 52 (l0 :: l1 :: .val (.int x) :: L) S k n H Q := W_istn (rfl : (pj lw).1 32 51 = some (.istore_n 2, 1, 0)) rfl rfl
theorem w32_52 {x : Nat} : W (pj lw) 32 52 (.val (.ref x) :: L) S k n H Q ↔ W (pj lw) 32 53 (.val (.ref x) :: L) (.ref x :: S) k n H Q := W_s (rfl : (pj lw).1 32 52 = some (.aload_n 0, 1, 0)) rfl rfl rfl
theorem w32_53 {a : Nat} : W (pj lw) 32 53 L (.ref a :: S) k n H Q ↔ (isO H a = true ∧ W (pj lw) 32 56 L (fld H a 10 :: S) k n H Q) := W_getf (rfl : (pj lw).1 32 53 = some (.getfield 38, 3, 10))
theorem w32_56 {x : Int32} {l0 l1 l2 : Slot} : W (pj lw) 32 56 (l0 :: l1 :: l2 :: .val (.int x) :: L) S k n H Q ↔ W (pj lw) 32 57 (l0 :: l1 :: l2 :: .val (.int x) :: L) (.int x :: S) k n H Q := W_s (rfl : (pj lw).1 32 56 = some (.iload_n 3, 1, 0)) rfl rfl rfl
theorem w32_57 {i : Int32} {a : Nat} : W (pj lw) 32 57 L (.int i :: .ref a :: S) k n H Q ↔ (inA H a .int i = true ∧ W (pj lw) 32 58 L (elt H a i :: S) k n H Q) := W_iaload (rfl : (pj lw).1 32 57 = some (.iaload, 1, 0))
theorem w32_58i {y : Int32} {x : Int32} {l0 l1 l2 : Slot} : W (pj lw) 32 58 (l0 :: l1 :: l2 :: .val (.int y) :: L) (.int x :: S) k n H Q ↔ W (pj lw) 32 59 (l0 :: l1 :: l2 :: .val (.int x) :: L) S k n H Q := W_istn (rfl : (pj lw).1 32 58 = some (.istore_n 3, 1, 0)) rfl rfl
theorem w32_59 {x : Int32} {l0 l1 l2 l3 : Slot} : W (pj lw) 32 59 (l0 :: l1 :: l2 :: l3 :: .val (.int x) :: L) S k n H Q ↔ W (pj lw) 32 62 (l0 :: l1 :: l2 :: l3 :: .val (.int (x + 1)) :: L) S k n H Q := W_s (rfl : (pj lw).1 32 59 = some (.iinc 4 1, 3, 0)) rfl rfl rfl
theorem w32_62 : W (pj lw) 32 62 L S k n H Q ↔ W (pj lw) 32 7 L S k n H Q := W_goto (rfl : (pj lw).1 32 62 = some (.goto (-55), 3, 0)) rfl
theorem w32_65 {x : Int32} {l0 l1 : Slot} : W (pj lw) 32 65 (l0 :: l1 :: .val (.int x) :: L) S k n H Q ↔ W (pj lw) 32 66 (l0 :: l1 :: .val (.int x) :: L) (.int x :: S) k n H Q := W_s (rfl : (pj lw).1 32 65 = some (.iload_n 2, 1, 0)) rfl rfl rfl
theorem w32_66 {x : Int32} : W (pj lw) 32 66 L (.int x :: S) k n H Q ↔ Q (some (.int x)) H := W_r (rfl : (pj lw).1 32 66 = some (.ireturn, 1, 0)) rfl
theorem c33 {x0 : Nat} : Cl (pj lw) 33 [.ref x0] H Q ↔ W (pj lw) 33 0 [.val (.ref x0), .unset, .unset] [] 0 0 H Q := cl_unf rfl
theorem w33_0 : W (pj lw) 33 0 L S k n H Q ↔ W (pj lw) 33 1 L (.int (-1) :: S) k n H Q := W_s (rfl : (pj lw).1 33 0 = some (.iconst (-1), 1, 0)) rfl rfl rfl
theorem w33_1 {x : Int32} {l0 : Slot} : W (pj lw) 33 1 (l0 :: .unset :: L) (.int x :: S) k n H Q ↔ W (pj lw) 33 2 (l0 :: .val (.int x) :: L) S k n H Q := W_istn (rfl : (pj lw).1 33 1 = some (.istore_n 1, 1, 0)) rfl rfl
theorem w33_2 : W (pj lw) 33 2 L S k n H Q ↔ W (pj lw) 33 3 L (.int 0 :: S) k n H Q := W_s (rfl : (pj lw).1 33 2 = some (.iconst 0, 1, 0)) rfl rfl rfl
theorem w33_3 {x : Int32} {l0 l1 : Slot} : W (pj lw) 33 3 (l0 :: l1 :: .unset :: L) (.int x :: S) k n H Q ↔ W (pj lw) 33 4 (l0 :: l1 :: .val (.int x) :: L) S k n H Q := W_istn (rfl : (pj lw).1 33 3 = some (.istore_n 2, 1, 0)) rfl rfl
theorem w33_4 {x : Int32} {l0 l1 : Slot} : W (pj lw) 33 4 (l0 :: l1 :: .val (.int x) :: L) S k n H Q ↔ W (pj lw) 33 5 (l0 :: l1 :: .val (.int x) :: L) (.int x :: S) k n H Q := W_s (rfl : (pj lw).1 33 4 = some (.iload_n 2, 1, 0)) rfl rfl rfl
theorem w33_5 : W (pj lw) 33 5 L S k n H Q ↔ W (pj lw) 33 8 L (.int 128 :: S) k n H Q := W_s (rfl : (pj lw).1 33 5 = some (.sipush 128, 3, 0)) rfl rfl rfl
theorem w33_8 {x y : Int32} : W (pj lw) 33 8 L (.int y :: .int x :: S) k n H Q ↔ (if x < y then W (pj lw) 33 11 L S k n H Q else W (pj lw) 33 50 L S k n H Q) := W_icmp_ge (rfl : (pj lw).1 33 8 = some (.if_icmp .ge 42, 3, 0)) rfl
theorem w33_11 {x : Nat} : W (pj lw) 33 11 (.val (.ref x) :: L) S k n H Q ↔ W (pj lw) 33 12 (.val (.ref x) :: L) (.ref x :: S) k n H Q := W_s (rfl : (pj lw).1 33 11 = some (.aload_n 0, 1, 0)) rfl rfl rfl
theorem w33_12 {a : Nat} : W (pj lw) 33 12 L (.ref a :: S) k n H Q ↔ (isO H a = true ∧ W (pj lw) 33 15 L (fld H a 4 :: S) k n H Q) := W_getf (rfl : (pj lw).1 33 12 = some (.getfield 19, 3, 4))
theorem w33_15 {x : Int32} {l0 l1 : Slot} : W (pj lw) 33 15 (l0 :: l1 :: .val (.int x) :: L) S k n H Q ↔ W (pj lw) 33 16 (l0 :: l1 :: .val (.int x) :: L) (.int x :: S) k n H Q := W_s (rfl : (pj lw).1 33 15 = some (.iload_n 2, 1, 0)) rfl rfl rfl
theorem w33_16 {i : Int32} {a : Nat} : W (pj lw) 33 16 L (.int i :: .ref a :: S) k n H Q ↔ ((inA H a .byte i = true ∨ inA H a .boolean i = true) ∧ W (pj lw) 33 17 L (elt H a i :: S) k n H Q) := W_baload (rfl : (pj lw).1 33 16 = some (.baload, 1, 0))
theorem w33_17 {x : Int32} : W (pj lw) 33 17 L (.int x :: S) k n H Q ↔ (if x = 0 then W (pj lw) 33 44 L S k n H Q else W (pj lw) 33 20 L S k n H Q) := W_if_eq (rfl : (pj lw).1 33 17 = some (.ifCond .eq 27, 3, 0)) rfl
theorem w33_20 {x : Nat} : W (pj lw) 33 20 (.val (.ref x) :: L) S k n H Q ↔ W (pj lw) 33 21 (.val (.ref x) :: L) (.ref x :: S) k n H Q := W_s (rfl : (pj lw).1 33 20 = some (.aload_n 0, 1, 0)) rfl rfl rfl
theorem w33_21 {a : Nat} : W (pj lw) 33 21 L (.ref a :: S) k n H Q ↔ (isO H a = true ∧ W (pj lw) 33 24 L (fld H a 5 :: S) k n H Q) := W_getf (rfl : (pj lw).1 33 21 = some (.getfield 23, 3, 5))
theorem w33_24 {x : Int32} {l0 l1 : Slot} : W (pj lw) 33 24 (l0 :: l1 :: .val (.int x) :: L) S k n H Q ↔ W (pj lw) 33 25 (l0 :: l1 :: .val (.int x) :: L) (.int x :: S) k n H Q := W_s (rfl : (pj lw).1 33 24 = some (.iload_n 2, 1, 0)) rfl rfl rfl
theorem w33_25 {i : Int32} {a : Nat} : W (pj lw) 33 25 L (.int i :: .ref a :: S) k n H Q ↔ ((inA H a .byte i = true ∨ inA H a .boolean i = true) ∧ W (pj lw) 33 26 L (elt H a i :: S) k n H Q) := W_baload (rfl : (pj lw).1 33 25 = some (.baload, 1, 0))
theorem w33_26 {x : Int32} : W (pj lw) 33 26 L (.int x :: S) k n H Q ↔ (if x = 0 then W (pj lw) 33 29 L S k n H Q else W (pj lw) 33 44 L S k n H Q) := W_if_ne (rfl : (pj lw).1 33 26 = some (.ifCond .ne 18, 3, 0)) rfl
theorem w33_29 {x : Nat} : W (pj lw) 33 29 (.val (.ref x) :: L) S k n H Q ↔ W (pj lw) 33 30 (.val (.ref x) :: L) (.ref x :: S) k n H Q := W_s (rfl : (pj lw).1 33 29 = some (.aload_n 0, 1, 0)) rfl rfl rfl
theorem w33_30 {x : Int32} {l0 l1 : Slot} : W (pj lw) 33 30 (l0 :: l1 :: .val (.int x) :: L) S k n H Q ↔ W (pj lw) 33 31 (l0 :: l1 :: .val (.int x) :: L) (.int x :: S) k n H Q := W_s (rfl : (pj lw).1 33 30 = some (.iload_n 2, 1, 0)) rfl rfl rfl
theorem w33_31 {a : Nat} {x0 : Int32} : W (pj lw) 33 31 L (.int x0 :: .ref a :: S) k n H Q ↔ ((isO H a = true ∧ cs S + (4 + 11) + 0 ≤ 28) ∧ Cl (pj lw) 34 [.ref a, .int x0] H (fun v H => W (pj lw) 33 34 L (v.toList ++ S) k n H Q)) := W_inst (as := [.int x0]) (rfl : (pj lw).1 33 31 = some (.invokevirtual 145, 3, 34)) rfl rfl rfl (Nat.le_of_ble_eq_true rfl) (Nat.le_of_ble_eq_true rfl) ⟨rfl, rfl⟩
theorem w33_34 {x : Int32} : W (pj lw) 33 34 L (.int x :: S) k n H Q ↔ (if x = 0 then W (pj lw) 33 44 L S k n H Q else W (pj lw) 33 37 L S k n H Q) := W_if_eq (rfl : (pj lw).1 33 34 = some (.ifCond .eq 10, 3, 0)) rfl
theorem w33_37 {x : Nat} : W (pj lw) 33 37 (.val (.ref x) :: L) S k n H Q ↔ W (pj lw) 33 38 (.val (.ref x) :: L) (.ref x :: S) k n H Q := W_s (rfl : (pj lw).1 33 37 = some (.aload_n 0, 1, 0)) rfl rfl rfl
theorem w33_38 {x : Int32} {l0 : Slot} : W (pj lw) 33 38 (l0 :: .val (.int x) :: L) S k n H Q ↔ W (pj lw) 33 39 (l0 :: .val (.int x) :: L) (.int x :: S) k n H Q := W_s (rfl : (pj lw).1 33 38 = some (.iload_n 1, 1, 0)) rfl rfl rfl
theorem w33_39 {x : Int32} {l0 l1 : Slot} : W (pj lw) 33 39 (l0 :: l1 :: .val (.int x) :: L) S k n H Q ↔ W (pj lw) 33 40 (l0 :: l1 :: .val (.int x) :: L) (.int x :: S) k n H Q := W_s (rfl : (pj lw).1 33 39 = some (.iload_n 2, 1, 0)) rfl rfl rfl
theorem w33_40 {a : Nat} {x0 : Int32} {x1 : Int32} : W (pj lw) 33 40 L (.int x1 :: .int x0 :: .ref a :: S) k n H Q ↔ ((isO H a = true ∧ cs S + (3 + 11) + 14 ≤ 28) ∧ Cl (pj lw) 37 [.ref a, .int x0, .int x1] H (fun v H => W (pj lw) 33 43 L (v.toList ++ S) k n H Q)) := W_inst (as := [.int x0, .int x1]) (rfl : (pj lw).1 33 40 = some (.invokevirtual 148, 3, 37)) rfl rfl rfl (Nat.le_of_ble_eq_true rfl) (Nat.le_of_ble_eq_true rfl) ⟨rfl, rfl⟩
theorem w33_43i {y : Int32} {x : Int32} {l0 : Slot} : W (pj lw) 33 43 (l0 :: .val (.int y) :: L) (.int x :: S) k n H Q ↔ W (pj lw) 33 44 (l0 :: .val (.int x) :: L) S k n H Q := W_istn (rfl : (pj lw).1 33 43 = some (.istore_n 1, 1, 0)) rfl rfl
theorem w33_44 {x : Int32} {l0 l1 : Slot} : W (pj lw) 33 44 (l0 :: l1 :: .val (.int x) :: L) S k n H Q ↔ W (pj lw) 33 47 (l0 :: l1 :: .val (.int (x + 1)) :: L) S k n H Q := W_s (rfl : (pj lw).1 33 44 = some (.iinc 2 1, 3, 0)) rfl rfl rfl
theorem w33_47 : W (pj lw) 33 47 L S k n H Q ↔ W (pj lw) 33 4 L S k n H Q := W_goto (rfl : (pj lw).1 33 47 = some (.goto (-43), 3, 0)) rfl
theorem w33_50 {x : Int32} {l0 : Slot} : W (pj lw) 33 50 (l0 :: .val (.int x) :: L) S k n H Q ↔ W (pj lw) 33 51 (l0 :: .val (.int x) :: L) (.int x :: S) k n H Q := W_s (rfl : (pj lw).1 33 50 = some (.iload_n 1, 1, 0)) rfl rfl rfl
theorem w33_51 {x : Int32} : W (pj lw) 33 51 L (.int x :: S) k n H Q ↔ Q (some (.int x)) H := W_r (rfl : (pj lw).1 33 51 = some (.ireturn, 1, 0)) rfl
theorem c34 {x0 : Nat} {x1 : Int32} : Cl (pj lw) 34 [.ref x0, .int x1] H Q ↔ W (pj lw) 34 0 [.val (.ref x0), .val (.int x1), .unset, .unset] [] 0 0 H Q := cl_unf rfl
theorem w34_0 {x : Nat} : W (pj lw) 34 0 (.val (.ref x) :: L) S k n H Q ↔ W (pj lw) 34 1 (.val (.ref x) :: L) (.ref x :: S) k n H Q := W_s (rfl : (pj lw).1 34 0 = some (.aload_n 0, 1, 0)) rfl rfl rfl
theorem w34_1 {a : Nat} : W (pj lw) 34 1 L (.ref a :: S) k n H Q ↔ (isO H a = true ∧ W (pj lw) 34 4 L (fld H a 1 :: S) k n H Q) := W_getf (rfl : (pj lw).1 34 1 = some (.getfield 7, 3, 1))
theorem w34_4 {x : Int32} {l0 : Slot} : W (pj lw) 34 4 (l0 :: .val (.int x) :: L) S k n H Q ↔ W (pj lw) 34 5 (l0 :: .val (.int x) :: L) (.int x :: S) k n H Q := W_s (rfl : (pj lw).1 34 4 = some (.iload_n 1, 1, 0)) rfl rfl rfl
theorem w34_5 {i : Int32} {a : Nat} : W (pj lw) 34 5 L (.int i :: .ref a :: S) k n H Q ↔ (inA H a .int i = true ∧ W (pj lw) 34 6 L (elt H a i :: S) k n H Q) := W_iaload (rfl : (pj lw).1 34 5 = some (.iaload, 1, 0))
theorem w34_6 {x : Int32} {l0 l1 : Slot} : W (pj lw) 34 6 (l0 :: l1 :: .unset :: L) (.int x :: S) k n H Q ↔ W (pj lw) 34 7 (l0 :: l1 :: .val (.int x) :: L) S k n H Q := W_istn (rfl : (pj lw).1 34 6 = some (.istore_n 2, 1, 0)) rfl rfl
theorem w34_7 {x : Nat} : W (pj lw) 34 7 (.val (.ref x) :: L) S k n H Q ↔ W (pj lw) 34 8 (.val (.ref x) :: L) (.ref x :: S) k n H Q := W_s (rfl : (pj lw).1 34 7 = some (.aload_n 0, 1, 0)) rfl rfl rfl
theorem w34_8 {a : Nat} : W (pj lw) 34 8 L (.ref a :: S) k n H Q ↔ (isO H a = true ∧ W (pj lw) 34 11 L (fld H a 2 :: S) k n H Q) := W_getf (rfl : (pj lw).1 34 8 = some (.getfield 13, 3, 2))
theorem w34_11 {x : Int32} {l0 : Slot} : W (pj lw) 34 11 (l0 :: .val (.int x) :: L) S k n H Q ↔ W (pj lw) 34 12 (l0 :: .val (.int x) :: L) (.int x :: S) k n H Q := W_s (rfl : (pj lw).1 34 11 = some (.iload_n 1, 1, 0)) rfl rfl rfl
theorem w34_12 {i : Int32} {a : Nat} : W (pj lw) 34 12 L (.int i :: .ref a :: S) k n H Q ↔ (inA H a .int i = true ∧ W (pj lw) 34 13 L (elt H a i :: S) k n H Q) := W_iaload (rfl : (pj lw).1 34 12 = some (.iaload, 1, 0))
theorem w34_13 {x : Int32} {l0 l1 l2 : Slot} : W (pj lw) 34 13 (l0 :: l1 :: l2 :: .unset :: L) (.int x :: S) k n H Q ↔ W (pj lw) 34 14 (l0 :: l1 :: l2 :: .val (.int x) :: L) S k n H Q := W_istn (rfl : (pj lw).1 34 13 = some (.istore_n 3, 1, 0)) rfl rfl
theorem w34_14 {x : Int32} {l0 l1 : Slot} : W (pj lw) 34 14 (l0 :: l1 :: .val (.int x) :: L) S k n H Q ↔ W (pj lw) 34 15 (l0 :: l1 :: .val (.int x) :: L) (.int x :: S) k n H Q := W_s (rfl : (pj lw).1 34 14 = some (.iload_n 2, 1, 0)) rfl rfl rfl
theorem w34_15 {x : Int32} : W (pj lw) 34 15 L (.int x :: S) k n H Q ↔ (if x < 0 then W (pj lw) 34 34 L S k n H Q else W (pj lw) 34 18 L S k n H Q) := W_if_lt (rfl : (pj lw).1 34 15 = some (.ifCond .lt 19, 3, 0)) rfl
theorem w34_18 {x : Int32} {l0 l1 : Slot} : W (pj lw) 34 18 (l0 :: l1 :: .val (.int x) :: L) S k n H Q ↔ W (pj lw) 34 19 (l0 :: l1 :: .val (.int x) :: L) (.int x :: S) k n H Q := W_s (rfl : (pj lw).1 34 18 = some (.iload_n 2, 1, 0)) rfl rfl rfl
theorem w34_19 : W (pj lw) 34 19 L S k n H Q ↔ W (pj lw) 34 21 L (.int 32 :: S) k n H Q := W_s (rfl : (pj lw).1 34 19 = some (.bipush 32, 2, 0)) rfl rfl rfl
theorem w34_21 {x y : Int32} : W (pj lw) 34 21 L (.int y :: .int x :: S) k n H Q ↔ (if x < y then W (pj lw) 34 24 L S k n H Q else W (pj lw) 34 34 L S k n H Q) := W_icmp_ge (rfl : (pj lw).1 34 21 = some (.if_icmp .ge 13, 3, 0)) rfl
theorem w34_24 {x : Int32} {l0 l1 l2 : Slot} : W (pj lw) 34 24 (l0 :: l1 :: l2 :: .val (.int x) :: L) S k n H Q ↔ W (pj lw) 34 25 (l0 :: l1 :: l2 :: .val (.int x) :: L) (.int x :: S) k n H Q := W_s (rfl : (pj lw).1 34 24 = some (.iload_n 3, 1, 0)) rfl rfl rfl
theorem w34_25 {x : Int32} : W (pj lw) 34 25 L (.int x :: S) k n H Q ↔ (if x < 0 then W (pj lw) 34 34 L S k n H Q else W (pj lw) 34 28 L S k n H Q) := W_if_lt (rfl : (pj lw).1 34 25 = some (.ifCond .lt 9, 3, 0)) rfl
theorem w34_28 {x : Int32} {l0 l1 l2 : Slot} : W (pj lw) 34 28 (l0 :: l1 :: l2 :: .val (.int x) :: L) S k n H Q ↔ W (pj lw) 34 29 (l0 :: l1 :: l2 :: .val (.int x) :: L) (.int x :: S) k n H Q := W_s (rfl : (pj lw).1 34 28 = some (.iload_n 3, 1, 0)) rfl rfl rfl
theorem w34_29 : W (pj lw) 34 29 L S k n H Q ↔ W (pj lw) 34 31 L (.int 32 :: S) k n H Q := W_s (rfl : (pj lw).1 34 29 = some (.bipush 32, 2, 0)) rfl rfl rfl
theorem w34_31 {x y : Int32} : W (pj lw) 34 31 L (.int y :: .int x :: S) k n H Q ↔ (if x < y then W (pj lw) 34 36 L S k n H Q else W (pj lw) 34 34 L S k n H Q) := W_icmp_lt (rfl : (pj lw).1 34 31 = some (.if_icmp .lt 5, 3, 0)) rfl
theorem w34_34 : W (pj lw) 34 34 L S k n H Q ↔ W (pj lw) 34 35 L (.int 0 :: S) k n H Q := W_s (rfl : (pj lw).1 34 34 = some (.iconst 0, 1, 0)) rfl rfl rfl
theorem w34_35 {x : Int32} : W (pj lw) 34 35 L (.int x :: S) k n H Q ↔ ((x = 0 ∨ x = 1) ∧ Q (some (.int x)) H) := W_rz (rfl : (pj lw).1 34 35 = some (.ireturn, 1, 0)) rfl
theorem w34_36 {x : Nat} : W (pj lw) 34 36 (.val (.ref x) :: L) S k n H Q ↔ W (pj lw) 34 37 (.val (.ref x) :: L) (.ref x :: S) k n H Q := W_s (rfl : (pj lw).1 34 36 = some (.aload_n 0, 1, 0)) rfl rfl rfl
theorem w34_37 {a : Nat} : W (pj lw) 34 37 L (.ref a :: S) k n H Q ↔ (isO H a = true ∧ W (pj lw) 34 40 L (fld H a 8 :: S) k n H Q) := W_getf (rfl : (pj lw).1 34 37 = some (.getfield 32, 3, 8))
theorem w34_40 {x : Int32} {l0 l1 : Slot} : W (pj lw) 34 40 (l0 :: l1 :: .val (.int x) :: L) S k n H Q ↔ W (pj lw) 34 41 (l0 :: l1 :: .val (.int x) :: L) (.int x :: S) k n H Q := W_s (rfl : (pj lw).1 34 40 = some (.iload_n 2, 1, 0)) rfl rfl rfl
theorem w34_41 {i : Int32} {a : Nat} : W (pj lw) 34 41 L (.int i :: .ref a :: S) k n H Q ↔ ((inA H a .byte i = true ∨ inA H a .boolean i = true) ∧ W (pj lw) 34 42 L (elt H a i :: S) k n H Q) := W_baload (rfl : (pj lw).1 34 41 = some (.baload, 1, 0))
theorem w34_42 {x : Nat} : W (pj lw) 34 42 (.val (.ref x) :: L) S k n H Q ↔ W (pj lw) 34 43 (.val (.ref x) :: L) (.ref x :: S) k n H Q := W_s (rfl : (pj lw).1 34 42 = some (.aload_n 0, 1, 0)) rfl rfl rfl
theorem w34_43 {a : Nat} : W (pj lw) 34 43 L (.ref a :: S) k n H Q ↔ (isO H a = true ∧ W (pj lw) 34 46 L (fld H a 8 :: S) k n H Q) := W_getf (rfl : (pj lw).1 34 43 = some (.getfield 32, 3, 8))
theorem w34_46 {x : Int32} {l0 l1 l2 : Slot} : W (pj lw) 34 46 (l0 :: l1 :: l2 :: .val (.int x) :: L) S k n H Q ↔ W (pj lw) 34 47 (l0 :: l1 :: l2 :: .val (.int x) :: L) (.int x :: S) k n H Q := W_s (rfl : (pj lw).1 34 46 = some (.iload_n 3, 1, 0)) rfl rfl rfl
theorem w34_47 {i : Int32} {a : Nat} : W (pj lw) 34 47 L (.int i :: .ref a :: S) k n H Q ↔ ((inA H a .byte i = true ∨ inA H a .boolean i = true) ∧ W (pj lw) 34 48 L (elt H a i :: S) k n H Q) := W_baload (rfl : (pj lw).1 34 47 = some (.baload, 1, 0))
theorem w34_48 {x y : Int32} : W (pj lw) 34 48 L (.int y :: .int x :: S) k n H Q ↔ (if x = y then W (pj lw) 34 55 L S k n H Q else W (pj lw) 34 51 L S k n H Q) := W_icmp_eq (rfl : (pj lw).1 34 48 = some (.if_icmp .eq 7, 3, 0)) rfl
theorem w34_51 : W (pj lw) 34 51 L S k n H Q ↔ W (pj lw) 34 52 L (.int 1 :: S) k n H Q := W_s (rfl : (pj lw).1 34 51 = some (.iconst 1, 1, 0)) rfl rfl rfl
theorem w34_52 : W (pj lw) 34 52 L S k n H Q ↔ W (pj lw) 34 56 L S k n H Q := W_goto (rfl : (pj lw).1 34 52 = some (.goto 4, 3, 0)) rfl
theorem w34_55 : W (pj lw) 34 55 L S k n H Q ↔ W (pj lw) 34 56 L (.int 0 :: S) k n H Q := W_s (rfl : (pj lw).1 34 55 = some (.iconst 0, 1, 0)) rfl rfl rfl
theorem w34_56 {x : Int32} : W (pj lw) 34 56 L (.int x :: S) k n H Q ↔ ((x = 0 ∨ x = 1) ∧ Q (some (.int x)) H) := W_rz (rfl : (pj lw).1 34 56 = some (.ireturn, 1, 0)) rfl
theorem c35 {x0 : Nat} {x1 : Int32} {x2 : Int32} : Cl (pj lw) 35 [.ref x0, .int x1, .int x2] H Q ↔ W (pj lw) 35 0 [.val (.ref x0), .val (.int x1), .val (.int x2)] [] 0 0 H Q := cl_unf rfl
theorem w35_0 {x : Nat} : W (pj lw) 35 0 (.val (.ref x) :: L) S k n H Q ↔ W (pj lw) 35 1 (.val (.ref x) :: L) (.ref x :: S) k n H Q := W_s (rfl : (pj lw).1 35 0 = some (.aload_n 0, 1, 0)) rfl rfl rfl
theorem w35_1 {a : Nat} : W (pj lw) 35 1 L (.ref a :: S) k n H Q ↔ (isO H a = true ∧ W (pj lw) 35 4 L (fld H a 1 :: S) k n H Q) := W_getf (rfl : (pj lw).1 35 1 = some (.getfield 7, 3, 1))
theorem w35_4 {x : Int32} {l0 : Slot} : W (pj lw) 35 4 (l0 :: .val (.int x) :: L) S k n H Q ↔ W (pj lw) 35 5 (l0 :: .val (.int x) :: L) (.int x :: S) k n H Q := W_s (rfl : (pj lw).1 35 4 = some (.iload_n 1, 1, 0)) rfl rfl rfl
theorem w35_5 {i : Int32} {a : Nat} : W (pj lw) 35 5 L (.int i :: .ref a :: S) k n H Q ↔ (inA H a .int i = true ∧ W (pj lw) 35 6 L (elt H a i :: S) k n H Q) := W_iaload (rfl : (pj lw).1 35 5 = some (.iaload, 1, 0))
theorem w35_6 {x : Int32} {l0 l1 : Slot} : W (pj lw) 35 6 (l0 :: l1 :: .val (.int x) :: L) S k n H Q ↔ W (pj lw) 35 7 (l0 :: l1 :: .val (.int x) :: L) (.int x :: S) k n H Q := W_s (rfl : (pj lw).1 35 6 = some (.iload_n 2, 1, 0)) rfl rfl rfl
theorem w35_7 {x y : Int32} : W (pj lw) 35 7 L (.int y :: .int x :: S) k n H Q ↔ (if x = y then W (pj lw) 35 10 L S k n H Q else W (pj lw) 35 17 L S k n H Q) := W_icmp_ne (rfl : (pj lw).1 35 7 = some (.if_icmp .ne 10, 3, 0)) rfl
theorem w35_10 {x : Nat} : W (pj lw) 35 10 (.val (.ref x) :: L) S k n H Q ↔ W (pj lw) 35 11 (.val (.ref x) :: L) (.ref x :: S) k n H Q := W_s (rfl : (pj lw).1 35 10 = some (.aload_n 0, 1, 0)) rfl rfl rfl
theorem w35_11 {a : Nat} : W (pj lw) 35 11 L (.ref a :: S) k n H Q ↔ (isO H a = true ∧ W (pj lw) 35 14 L (fld H a 2 :: S) k n H Q) := W_getf (rfl : (pj lw).1 35 11 = some (.getfield 13, 3, 2))
theorem w35_14 {x : Int32} {l0 : Slot} : W (pj lw) 35 14 (l0 :: .val (.int x) :: L) S k n H Q ↔ W (pj lw) 35 15 (l0 :: .val (.int x) :: L) (.int x :: S) k n H Q := W_s (rfl : (pj lw).1 35 14 = some (.iload_n 1, 1, 0)) rfl rfl rfl
theorem w35_15 {i : Int32} {a : Nat} : W (pj lw) 35 15 L (.int i :: .ref a :: S) k n H Q ↔ (inA H a .int i = true ∧ W (pj lw) 35 16 L (elt H a i :: S) k n H Q) := W_iaload (rfl : (pj lw).1 35 15 = some (.iaload, 1, 0))
theorem w35_16 {x : Int32} : W (pj lw) 35 16 L (.int x :: S) k n H Q ↔ Q (some (.int x)) H := W_r (rfl : (pj lw).1 35 16 = some (.ireturn, 1, 0)) rfl
theorem w35_17 {x : Nat} : W (pj lw) 35 17 (.val (.ref x) :: L) S k n H Q ↔ W (pj lw) 35 18 (.val (.ref x) :: L) (.ref x :: S) k n H Q := W_s (rfl : (pj lw).1 35 17 = some (.aload_n 0, 1, 0)) rfl rfl rfl
theorem w35_18 {a : Nat} : W (pj lw) 35 18 L (.ref a :: S) k n H Q ↔ (isO H a = true ∧ W (pj lw) 35 21 L (fld H a 2 :: S) k n H Q) := W_getf (rfl : (pj lw).1 35 18 = some (.getfield 13, 3, 2))
theorem w35_21 {x : Int32} {l0 : Slot} : W (pj lw) 35 21 (l0 :: .val (.int x) :: L) S k n H Q ↔ W (pj lw) 35 22 (l0 :: .val (.int x) :: L) (.int x :: S) k n H Q := W_s (rfl : (pj lw).1 35 21 = some (.iload_n 1, 1, 0)) rfl rfl rfl
theorem w35_22 {i : Int32} {a : Nat} : W (pj lw) 35 22 L (.int i :: .ref a :: S) k n H Q ↔ (inA H a .int i = true ∧ W (pj lw) 35 23 L (elt H a i :: S) k n H Q) := W_iaload (rfl : (pj lw).1 35 22 = some (.iaload, 1, 0))
theorem w35_23 {x : Int32} {l0 l1 : Slot} : W (pj lw) 35 23 (l0 :: l1 :: .val (.int x) :: L) S k n H Q ↔ W (pj lw) 35 24 (l0 :: l1 :: .val (.int x) :: L) (.int x :: S) k n H Q := W_s (rfl : (pj lw).1 35 23 = some (.iload_n 2, 1, 0)) rfl rfl rfl
theorem w35_24 {x y : Int32} : W (pj lw) 35 24 L (.int y :: .int x :: S) k n H Q ↔ (if x = y then W (pj lw) 35 27 L S k n H Q else W (pj lw) 35 34 L S k n H Q) := W_icmp_ne (rfl : (pj lw).1 35 24 = some (.if_icmp .ne 10, 3, 0)) rfl
theorem w35_27 {x : Nat} : W (pj lw) 35 27 (.val (.ref x) :: L) S k n H Q ↔ W (pj lw) 35 28 (.val (.ref x) :: L) (.ref x :: S) k n H Q := W_s (rfl : (pj lw).1 35 27 = some (.aload_n 0, 1, 0)) rfl rfl rfl
theorem w35_28 {a : Nat} : W (pj lw) 35 28 L (.ref a :: S) k n H Q ↔ (isO H a = true ∧ W (pj lw) 35 31 L (fld H a 1 :: S) k n H Q) := W_getf (rfl : (pj lw).1 35 28 = some (.getfield 7, 3, 1))
theorem w35_31 {x : Int32} {l0 : Slot} : W (pj lw) 35 31 (l0 :: .val (.int x) :: L) S k n H Q ↔ W (pj lw) 35 32 (l0 :: .val (.int x) :: L) (.int x :: S) k n H Q := W_s (rfl : (pj lw).1 35 31 = some (.iload_n 1, 1, 0)) rfl rfl rfl
theorem w35_32 {i : Int32} {a : Nat} : W (pj lw) 35 32 L (.int i :: .ref a :: S) k n H Q ↔ (inA H a .int i = true ∧ W (pj lw) 35 33 L (elt H a i :: S) k n H Q) := W_iaload (rfl : (pj lw).1 35 32 = some (.iaload, 1, 0))
theorem w35_33 {x : Int32} : W (pj lw) 35 33 L (.int x :: S) k n H Q ↔ Q (some (.int x)) H := W_r (rfl : (pj lw).1 35 33 = some (.ireturn, 1, 0)) rfl
theorem w35_34 : W (pj lw) 35 34 L S k n H Q ↔ W (pj lw) 35 35 L (.int (-1) :: S) k n H Q := W_s (rfl : (pj lw).1 35 34 = some (.iconst (-1), 1, 0)) rfl rfl rfl
theorem w35_35 {x : Int32} : W (pj lw) 35 35 L (.int x :: S) k n H Q ↔ Q (some (.int x)) H := W_r (rfl : (pj lw).1 35 35 = some (.ireturn, 1, 0)) rfl
theorem c36 {x0 : Nat} {x1 : Int32} {x2 : Int32} : Cl (pj lw) 36 [.ref x0, .int x1, .int x2] H Q ↔ W (pj lw) 36 0 [.val (.ref x0), .val (.int x1), .val (.int x2)] [] 0 0 H Q := cl_unf rfl
theorem w36_0 {x : Nat} : W (pj lw) 36 0 (.val (.ref x) :: L) S k n H Q ↔ W (pj lw) 36 1 (.val (.ref x) :: L) (.ref x :: S) k n H Q := W_s (rfl : (pj lw).1 36 0 = some (.aload_n 0, 1, 0)) rfl rfl rfl
theorem w36_1 {a : Nat} : W (pj lw) 36 1 L (.ref a :: S) k n H Q ↔ (isO H a = true ∧ W (pj lw) 36 4 L (fld H a 3 :: S) k n H Q) := W_getf (rfl : (pj lw).1 36 1 = some (.getfield 16, 3, 3))
theorem w36_4 {x : Int32} {l0 : Slot} : W (pj lw) 36 4 (l0 :: .val (.int x) :: L) S k n H Q ↔ W (pj lw) 36 5 (l0 :: .val (.int x) :: L) (.int x :: S) k n H Q := W_s (rfl : (pj lw).1 36 4 = some (.iload_n 1, 1, 0)) rfl rfl rfl
theorem w36_5 {i : Int32} {a : Nat} : W (pj lw) 36 5 L (.int i :: .ref a :: S) k n H Q ↔ (inA H a .int i = true ∧ W (pj lw) 36 6 L (elt H a i :: S) k n H Q) := W_iaload (rfl : (pj lw).1 36 5 = some (.iaload, 1, 0))
theorem w36_6 {x : Nat} : W (pj lw) 36 6 (.val (.ref x) :: L) S k n H Q ↔ W (pj lw) 36 7 (.val (.ref x) :: L) (.ref x :: S) k n H Q := W_s (rfl : (pj lw).1 36 6 = some (.aload_n 0, 1, 0)) rfl rfl rfl
theorem w36_7 {a : Nat} : W (pj lw) 36 7 L (.ref a :: S) k n H Q ↔ (isO H a = true ∧ W (pj lw) 36 10 L (fld H a 3 :: S) k n H Q) := W_getf (rfl : (pj lw).1 36 7 = some (.getfield 16, 3, 3))
theorem w36_10 {x : Int32} {l0 l1 : Slot} : W (pj lw) 36 10 (l0 :: l1 :: .val (.int x) :: L) S k n H Q ↔ W (pj lw) 36 11 (l0 :: l1 :: .val (.int x) :: L) (.int x :: S) k n H Q := W_s (rfl : (pj lw).1 36 10 = some (.iload_n 2, 1, 0)) rfl rfl rfl
theorem w36_11 {i : Int32} {a : Nat} : W (pj lw) 36 11 L (.int i :: .ref a :: S) k n H Q ↔ (inA H a .int i = true ∧ W (pj lw) 36 12 L (elt H a i :: S) k n H Q) := W_iaload (rfl : (pj lw).1 36 11 = some (.iaload, 1, 0))
theorem w36_12 {x y : Int32} : W (pj lw) 36 12 L (.int y :: .int x :: S) k n H Q ↔ (if x = y then W (pj lw) 36 36 L S k n H Q else W (pj lw) 36 15 L S k n H Q) := W_icmp_eq (rfl : (pj lw).1 36 12 = some (.if_icmp .eq 24, 3, 0)) rfl
theorem w36_15 {x : Nat} : W (pj lw) 36 15 (.val (.ref x) :: L) S k n H Q ↔ W (pj lw) 36 16 (.val (.ref x) :: L) (.ref x :: S) k n H Q := W_s (rfl : (pj lw).1 36 15 = some (.aload_n 0, 1, 0)) rfl rfl rfl
theorem w36_16 {a : Nat} : W (pj lw) 36 16 L (.ref a :: S) k n H Q ↔ (isO H a = true ∧ W (pj lw) 36 19 L (fld H a 3 :: S) k n H Q) := W_getf (rfl : (pj lw).1 36 16 = some (.getfield 16, 3, 3))
theorem w36_19 {x : Int32} {l0 : Slot} : W (pj lw) 36 19 (l0 :: .val (.int x) :: L) S k n H Q ↔ W (pj lw) 36 20 (l0 :: .val (.int x) :: L) (.int x :: S) k n H Q := W_s (rfl : (pj lw).1 36 19 = some (.iload_n 1, 1, 0)) rfl rfl rfl
theorem w36_20 {i : Int32} {a : Nat} : W (pj lw) 36 20 L (.int i :: .ref a :: S) k n H Q ↔ (inA H a .int i = true ∧ W (pj lw) 36 21 L (elt H a i :: S) k n H Q) := W_iaload (rfl : (pj lw).1 36 20 = some (.iaload, 1, 0))
theorem w36_21 {x : Nat} : W (pj lw) 36 21 (.val (.ref x) :: L) S k n H Q ↔ W (pj lw) 36 22 (.val (.ref x) :: L) (.ref x :: S) k n H Q := W_s (rfl : (pj lw).1 36 21 = some (.aload_n 0, 1, 0)) rfl rfl rfl
theorem w36_22 {a : Nat} : W (pj lw) 36 22 L (.ref a :: S) k n H Q ↔ (isO H a = true ∧ W (pj lw) 36 25 L (fld H a 3 :: S) k n H Q) := W_getf (rfl : (pj lw).1 36 22 = some (.getfield 16, 3, 3))
theorem w36_25 {x : Int32} {l0 l1 : Slot} : W (pj lw) 36 25 (l0 :: l1 :: .val (.int x) :: L) S k n H Q ↔ W (pj lw) 36 26 (l0 :: l1 :: .val (.int x) :: L) (.int x :: S) k n H Q := W_s (rfl : (pj lw).1 36 25 = some (.iload_n 2, 1, 0)) rfl rfl rfl
theorem w36_26 {i : Int32} {a : Nat} : W (pj lw) 36 26 L (.int i :: .ref a :: S) k n H Q ↔ (inA H a .int i = true ∧ W (pj lw) 36 27 L (elt H a i :: S) k n H Q) := W_iaload (rfl : (pj lw).1 36 26 = some (.iaload, 1, 0))
theorem w36_27 {x y : Int32} : W (pj lw) 36 27 L (.int y :: .int x :: S) k n H Q ↔ (if x < y then W (pj lw) 36 30 L S k n H Q else W (pj lw) 36 34 L S k n H Q) := W_icmp_ge (rfl : (pj lw).1 36 27 = some (.if_icmp .ge 7, 3, 0)) rfl
theorem w36_30 : W (pj lw) 36 30 L S k n H Q ↔ W (pj lw) 36 31 L (.int 1 :: S) k n H Q := W_s (rfl : (pj lw).1 36 30 = some (.iconst 1, 1, 0)) rfl rfl rfl
theorem w36_31 : W (pj lw) 36 31 L S k n H Q ↔ W (pj lw) 36 35 L S k n H Q := W_goto (rfl : (pj lw).1 36 31 = some (.goto 4, 3, 0)) rfl
theorem w36_34 : W (pj lw) 36 34 L S k n H Q ↔ W (pj lw) 36 35 L (.int 0 :: S) k n H Q := W_s (rfl : (pj lw).1 36 34 = some (.iconst 0, 1, 0)) rfl rfl rfl
theorem w36_35 {x : Int32} : W (pj lw) 36 35 L (.int x :: S) k n H Q ↔ ((x = 0 ∨ x = 1) ∧ Q (some (.int x)) H) := W_rz (rfl : (pj lw).1 36 35 = some (.ireturn, 1, 0)) rfl
theorem w36_36 {x : Int32} {l0 : Slot} : W (pj lw) 36 36 (l0 :: .val (.int x) :: L) S k n H Q ↔ W (pj lw) 36 37 (l0 :: .val (.int x) :: L) (.int x :: S) k n H Q := W_s (rfl : (pj lw).1 36 36 = some (.iload_n 1, 1, 0)) rfl rfl rfl
theorem w36_37 {x : Int32} {l0 l1 : Slot} : W (pj lw) 36 37 (l0 :: l1 :: .val (.int x) :: L) S k n H Q ↔ W (pj lw) 36 38 (l0 :: l1 :: .val (.int x) :: L) (.int x :: S) k n H Q := W_s (rfl : (pj lw).1 36 37 = some (.iload_n 2, 1, 0)) rfl rfl rfl
theorem w36_38 {x y : Int32} : W (pj lw) 36 38 L (.int y :: .int x :: S) k n H Q ↔ (if x < y then W (pj lw) 36 41 L S k n H Q else W (pj lw) 36 45 L S k n H Q) := W_icmp_ge (rfl : (pj lw).1 36 38 = some (.if_icmp .ge 7, 3, 0)) rfl
theorem w36_41 : W (pj lw) 36 41 L S k n H Q ↔ W (pj lw) 36 42 L (.int 1 :: S) k n H Q := W_s (rfl : (pj lw).1 36 41 = some (.iconst 1, 1, 0)) rfl rfl rfl
theorem w36_42 : W (pj lw) 36 42 L S k n H Q ↔ W (pj lw) 36 46 L S k n H Q := W_goto (rfl : (pj lw).1 36 42 = some (.goto 4, 3, 0)) rfl
theorem w36_45 : W (pj lw) 36 45 L S k n H Q ↔ W (pj lw) 36 46 L (.int 0 :: S) k n H Q := W_s (rfl : (pj lw).1 36 45 = some (.iconst 0, 1, 0)) rfl rfl rfl
theorem w36_46 {x : Int32} : W (pj lw) 36 46 L (.int x :: S) k n H Q ↔ ((x = 0 ∨ x = 1) ∧ Q (some (.int x)) H) := W_rz (rfl : (pj lw).1 36 46 = some (.ireturn, 1, 0)) rfl
theorem c37 {x0 : Nat} {x1 : Int32} {x2 : Int32} : Cl (pj lw) 37 [.ref x0, .int x1, .int x2] H Q ↔ W (pj lw) 37 0 [.val (.ref x0), .val (.int x1), .val (.int x2)] [] 0 0 H Q := cl_unf rfl
theorem w37_0 {x : Int32} {l0 : Slot} : W (pj lw) 37 0 (l0 :: .val (.int x) :: L) S k n H Q ↔ W (pj lw) 37 1 (l0 :: .val (.int x) :: L) (.int x :: S) k n H Q := W_s (rfl : (pj lw).1 37 0 = some (.iload_n 1, 1, 0)) rfl rfl rfl
theorem w37_1 : W (pj lw) 37 1 L S k n H Q ↔ W (pj lw) 37 2 L (.int (-1) :: S) k n H Q := W_s (rfl : (pj lw).1 37 1 = some (.iconst (-1), 1, 0)) rfl rfl rfl
theorem w37_2 {x y : Int32} : W (pj lw) 37 2 L (.int y :: .int x :: S) k n H Q ↔ (if x = y then W (pj lw) 37 5 L S k n H Q else W (pj lw) 37 7 L S k n H Q) := W_icmp_ne (rfl : (pj lw).1 37 2 = some (.if_icmp .ne 5, 3, 0)) rfl
theorem w37_5 {x : Int32} {l0 l1 : Slot} : W (pj lw) 37 5 (l0 :: l1 :: .val (.int x) :: L) S k n H Q ↔ W (pj lw) 37 6 (l0 :: l1 :: .val (.int x) :: L) (.int x :: S) k n H Q := W_s (rfl : (pj lw).1 37 5 = some (.iload_n 2, 1, 0)) rfl rfl rfl
theorem w37_6 {x : Int32} : W (pj lw) 37 6 L (.int x :: S) k n H Q ↔ Q (some (.int x)) H := W_r (rfl : (pj lw).1 37 6 = some (.ireturn, 1, 0)) rfl
theorem w37_7 {x : Int32} {l0 l1 : Slot} : W (pj lw) 37 7 (l0 :: l1 :: .val (.int x) :: L) S k n H Q ↔ W (pj lw) 37 8 (l0 :: l1 :: .val (.int x) :: L) (.int x :: S) k n H Q := W_s (rfl : (pj lw).1 37 7 = some (.iload_n 2, 1, 0)) rfl rfl rfl
theorem w37_8 : W (pj lw) 37 8 L S k n H Q ↔ W (pj lw) 37 9 L (.int (-1) :: S) k n H Q := W_s (rfl : (pj lw).1 37 8 = some (.iconst (-1), 1, 0)) rfl rfl rfl
theorem w37_9 {x y : Int32} : W (pj lw) 37 9 L (.int y :: .int x :: S) k n H Q ↔ (if x = y then W (pj lw) 37 12 L S k n H Q else W (pj lw) 37 14 L S k n H Q) := W_icmp_ne (rfl : (pj lw).1 37 9 = some (.if_icmp .ne 5, 3, 0)) rfl
theorem w37_12 {x : Int32} {l0 : Slot} : W (pj lw) 37 12 (l0 :: .val (.int x) :: L) S k n H Q ↔ W (pj lw) 37 13 (l0 :: .val (.int x) :: L) (.int x :: S) k n H Q := W_s (rfl : (pj lw).1 37 12 = some (.iload_n 1, 1, 0)) rfl rfl rfl
theorem w37_13 {x : Int32} : W (pj lw) 37 13 L (.int x :: S) k n H Q ↔ Q (some (.int x)) H := W_r (rfl : (pj lw).1 37 13 = some (.ireturn, 1, 0)) rfl
theorem w37_14 {x : Nat} : W (pj lw) 37 14 (.val (.ref x) :: L) S k n H Q ↔ W (pj lw) 37 15 (.val (.ref x) :: L) (.ref x :: S) k n H Q := W_s (rfl : (pj lw).1 37 14 = some (.aload_n 0, 1, 0)) rfl rfl rfl
theorem w37_15 {x : Int32} {l0 : Slot} : W (pj lw) 37 15 (l0 :: .val (.int x) :: L) S k n H Q ↔ W (pj lw) 37 16 (l0 :: .val (.int x) :: L) (.int x :: S) k n H Q := W_s (rfl : (pj lw).1 37 15 = some (.iload_n 1, 1, 0)) rfl rfl rfl
theorem w37_16 {x : Int32} {l0 l1 : Slot} : W (pj lw) 37 16 (l0 :: l1 :: .val (.int x) :: L) S k n H Q ↔ W (pj lw) 37 17 (l0 :: l1 :: .val (.int x) :: L) (.int x :: S) k n H Q := W_s (rfl : (pj lw).1 37 16 = some (.iload_n 2, 1, 0)) rfl rfl rfl
theorem w37_17 {a : Nat} {x0 : Int32} {x1 : Int32} : W (pj lw) 37 17 L (.int x1 :: .int x0 :: .ref a :: S) k n H Q ↔ ((isO H a = true ∧ cs S + (3 + 11) + 0 ≤ 14) ∧ Cl (pj lw) 36 [.ref a, .int x0, .int x1] H (fun v H => W (pj lw) 37 20 L (v.toList ++ S) k n H Q)) := W_inst (as := [.int x0, .int x1]) (rfl : (pj lw).1 37 17 = some (.invokevirtual 122, 3, 36)) rfl rfl rfl (Nat.le_of_ble_eq_true rfl) (Nat.le_of_ble_eq_true rfl) ⟨rfl, rfl⟩
theorem w37_20 {x : Int32} : W (pj lw) 37 20 L (.int x :: S) k n H Q ↔ (if x = 0 then W (pj lw) 37 25 L S k n H Q else W (pj lw) 37 23 L S k n H Q) := W_if_eq (rfl : (pj lw).1 37 20 = some (.ifCond .eq 5, 3, 0)) rfl
theorem w37_23 {x : Int32} {l0 : Slot} : W (pj lw) 37 23 (l0 :: .val (.int x) :: L) S k n H Q ↔ W (pj lw) 37 24 (l0 :: .val (.int x) :: L) (.int x :: S) k n H Q := W_s (rfl : (pj lw).1 37 23 = some (.iload_n 1, 1, 0)) rfl rfl rfl
theorem w37_24 {x : Int32} : W (pj lw) 37 24 L (.int x :: S) k n H Q ↔ Q (some (.int x)) H := W_r (rfl : (pj lw).1 37 24 = some (.ireturn, 1, 0)) rfl
theorem w37_25 {x : Int32} {l0 l1 : Slot} : W (pj lw) 37 25 (l0 :: l1 :: .val (.int x) :: L) S k n H Q ↔ W (pj lw) 37 26 (l0 :: l1 :: .val (.int x) :: L) (.int x :: S) k n H Q := W_s (rfl : (pj lw).1 37 25 = some (.iload_n 2, 1, 0)) rfl rfl rfl
theorem w37_26 {x : Int32} : W (pj lw) 37 26 L (.int x :: S) k n H Q ↔ Q (some (.int x)) H := W_r (rfl : (pj lw).1 37 26 = some (.ireturn, 1, 0)) rfl
theorem c38 {x0 : Nat} {x1 : Int32} {x2 : Int32} : Cl (pj lw) 38 [.ref x0, .int x1, .int x2] H Q ↔ W (pj lw) 38 0 [.val (.ref x0), .val (.int x1), .val (.int x2)] [] 0 0 H Q := cl_unf rfl
theorem w38_0 {x : Int32} {l0 : Slot} : W (pj lw) 38 0 (l0 :: .val (.int x) :: L) S k n H Q ↔ W (pj lw) 38 1 (l0 :: .val (.int x) :: L) (.int x :: S) k n H Q := W_s (rfl : (pj lw).1 38 0 = some (.iload_n 1, 1, 0)) rfl rfl rfl
theorem w38_1 : W (pj lw) 38 1 L S k n H Q ↔ W (pj lw) 38 2 L (.int (-1) :: S) k n H Q := W_s (rfl : (pj lw).1 38 1 = some (.iconst (-1), 1, 0)) rfl rfl rfl
theorem w38_2 {x y : Int32} : W (pj lw) 38 2 L (.int y :: .int x :: S) k n H Q ↔ (if x = y then W (pj lw) 38 5 L S k n H Q else W (pj lw) 38 7 L S k n H Q) := W_icmp_ne (rfl : (pj lw).1 38 2 = some (.if_icmp .ne 5, 3, 0)) rfl
theorem w38_5 {x : Int32} {l0 l1 : Slot} : W (pj lw) 38 5 (l0 :: l1 :: .val (.int x) :: L) S k n H Q ↔ W (pj lw) 38 6 (l0 :: l1 :: .val (.int x) :: L) (.int x :: S) k n H Q := W_s (rfl : (pj lw).1 38 5 = some (.iload_n 2, 1, 0)) rfl rfl rfl
theorem w38_6 {x : Int32} : W (pj lw) 38 6 L (.int x :: S) k n H Q ↔ Q (some (.int x)) H := W_r (rfl : (pj lw).1 38 6 = some (.ireturn, 1, 0)) rfl
theorem w38_7 {x : Int32} {l0 l1 : Slot} : W (pj lw) 38 7 (l0 :: l1 :: .val (.int x) :: L) S k n H Q ↔ W (pj lw) 38 8 (l0 :: l1 :: .val (.int x) :: L) (.int x :: S) k n H Q := W_s (rfl : (pj lw).1 38 7 = some (.iload_n 2, 1, 0)) rfl rfl rfl
theorem w38_8 : W (pj lw) 38 8 L S k n H Q ↔ W (pj lw) 38 9 L (.int (-1) :: S) k n H Q := W_s (rfl : (pj lw).1 38 8 = some (.iconst (-1), 1, 0)) rfl rfl rfl
theorem w38_9 {x y : Int32} : W (pj lw) 38 9 L (.int y :: .int x :: S) k n H Q ↔ (if x = y then W (pj lw) 38 12 L S k n H Q else W (pj lw) 38 14 L S k n H Q) := W_icmp_ne (rfl : (pj lw).1 38 9 = some (.if_icmp .ne 5, 3, 0)) rfl
theorem w38_12 {x : Int32} {l0 : Slot} : W (pj lw) 38 12 (l0 :: .val (.int x) :: L) S k n H Q ↔ W (pj lw) 38 13 (l0 :: .val (.int x) :: L) (.int x :: S) k n H Q := W_s (rfl : (pj lw).1 38 12 = some (.iload_n 1, 1, 0)) rfl rfl rfl
theorem w38_13 {x : Int32} : W (pj lw) 38 13 L (.int x :: S) k n H Q ↔ Q (some (.int x)) H := W_r (rfl : (pj lw).1 38 13 = some (.ireturn, 1, 0)) rfl
theorem w38_14 {x : Nat} : W (pj lw) 38 14 (.val (.ref x) :: L) S k n H Q ↔ W (pj lw) 38 15 (.val (.ref x) :: L) (.ref x :: S) k n H Q := W_s (rfl : (pj lw).1 38 14 = some (.aload_n 0, 1, 0)) rfl rfl rfl
theorem w38_15 {x : Int32} {l0 : Slot} : W (pj lw) 38 15 (l0 :: .val (.int x) :: L) S k n H Q ↔ W (pj lw) 38 16 (l0 :: .val (.int x) :: L) (.int x :: S) k n H Q := W_s (rfl : (pj lw).1 38 15 = some (.iload_n 1, 1, 0)) rfl rfl rfl
theorem w38_16 {x : Int32} {l0 l1 : Slot} : W (pj lw) 38 16 (l0 :: l1 :: .val (.int x) :: L) S k n H Q ↔ W (pj lw) 38 17 (l0 :: l1 :: .val (.int x) :: L) (.int x :: S) k n H Q := W_s (rfl : (pj lw).1 38 16 = some (.iload_n 2, 1, 0)) rfl rfl rfl
theorem w38_17 {a : Nat} {x0 : Int32} {x1 : Int32} : W (pj lw) 38 17 L (.int x1 :: .int x0 :: .ref a :: S) k n H Q ↔ ((isO H a = true ∧ cs S + (3 + 11) + 0 ≤ 14) ∧ Cl (pj lw) 36 [.ref a, .int x0, .int x1] H (fun v H => W (pj lw) 38 20 L (v.toList ++ S) k n H Q)) := W_inst (as := [.int x0, .int x1]) (rfl : (pj lw).1 38 17 = some (.invokevirtual 122, 3, 36)) rfl rfl rfl (Nat.le_of_ble_eq_true rfl) (Nat.le_of_ble_eq_true rfl) ⟨rfl, rfl⟩
theorem w38_20 {x : Int32} : W (pj lw) 38 20 L (.int x :: S) k n H Q ↔ (if x = 0 then W (pj lw) 38 25 L S k n H Q else W (pj lw) 38 23 L S k n H Q) := W_if_eq (rfl : (pj lw).1 38 20 = some (.ifCond .eq 5, 3, 0)) rfl
theorem w38_23 {x : Int32} {l0 l1 : Slot} : W (pj lw) 38 23 (l0 :: l1 :: .val (.int x) :: L) S k n H Q ↔ W (pj lw) 38 24 (l0 :: l1 :: .val (.int x) :: L) (.int x :: S) k n H Q := W_s (rfl : (pj lw).1 38 23 = some (.iload_n 2, 1, 0)) rfl rfl rfl
theorem w38_24 {x : Int32} : W (pj lw) 38 24 L (.int x :: S) k n H Q ↔ Q (some (.int x)) H := W_r (rfl : (pj lw).1 38 24 = some (.ireturn, 1, 0)) rfl
theorem w38_25 {x : Int32} {l0 : Slot} : W (pj lw) 38 25 (l0 :: .val (.int x) :: L) S k n H Q ↔ W (pj lw) 38 26 (l0 :: .val (.int x) :: L) (.int x :: S) k n H Q := W_s (rfl : (pj lw).1 38 25 = some (.iload_n 1, 1, 0)) rfl rfl rfl
theorem w38_26 {x : Int32} : W (pj lw) 38 26 L (.int x :: S) k n H Q ↔ Q (some (.int x)) H := W_r (rfl : (pj lw).1 38 26 = some (.ireturn, 1, 0)) rfl
theorem c39 {x0 : Nat} {x1 : Int32} : Cl (pj lw) 39 [.ref x0, .int x1] H Q ↔ W (pj lw) 39 0 [.val (.ref x0), .val (.int x1)] [] 0 0 H Q := cl_unf rfl
theorem w39_0 {x : Int32} {l0 : Slot} : W (pj lw) 39 0 (l0 :: .val (.int x) :: L) S k n H Q ↔ W (pj lw) 39 1 (l0 :: .val (.int x) :: L) (.int x :: S) k n H Q := W_s (rfl : (pj lw).1 39 0 = some (.iload_n 1, 1, 0)) rfl rfl rfl
theorem w39_1 {x : Int32} : W (pj lw) 39 1 L (.int x :: S) k n H Q ↔ (if x < 0 then W (pj lw) 39 22 L S k n H Q else W (pj lw) 39 4 L S k n H Q) := W_if_lt (rfl : (pj lw).1 39 1 = some (.ifCond .lt 21, 3, 0)) rfl
theorem w39_4 {x : Int32} {l0 : Slot} : W (pj lw) 39 4 (l0 :: .val (.int x) :: L) S k n H Q ↔ W (pj lw) 39 5 (l0 :: .val (.int x) :: L) (.int x :: S) k n H Q := W_s (rfl : (pj lw).1 39 4 = some (.iload_n 1, 1, 0)) rfl rfl rfl
theorem w39_5 {x : Nat} : W (pj lw) 39 5 (.val (.ref x) :: L) S k n H Q ↔ W (pj lw) 39 6 (.val (.ref x) :: L) (.ref x :: S) k n H Q := W_s (rfl : (pj lw).1 39 5 = some (.aload_n 0, 1, 0)) rfl rfl rfl
theorem w39_6 {a : Nat} : W (pj lw) 39 6 L (.ref a :: S) k n H Q ↔ (isO H a = true ∧ W (pj lw) 39 9 L (fld H a 0 :: S) k n H Q) := W_getf (rfl : (pj lw).1 39 6 = some (.getfield 44, 3, 0))
theorem w39_9 {x y : Int32} : W (pj lw) 39 9 L (.int y :: .int x :: S) k n H Q ↔ (if x < y then W (pj lw) 39 12 L S k n H Q else W (pj lw) 39 22 L S k n H Q) := W_icmp_ge (rfl : (pj lw).1 39 9 = some (.if_icmp .ge 13, 3, 0)) rfl
theorem w39_12 {x : Int32} {l0 : Slot} : W (pj lw) 39 12 (l0 :: .val (.int x) :: L) S k n H Q ↔ W (pj lw) 39 13 (l0 :: .val (.int x) :: L) (.int x :: S) k n H Q := W_s (rfl : (pj lw).1 39 12 = some (.iload_n 1, 1, 0)) rfl rfl rfl
theorem w39_13 : W (pj lw) 39 13 L S k n H Q ↔ W (pj lw) 39 15 L (.int 32 :: S) k n H Q := W_s (rfl : (pj lw).1 39 13 = some (.bipush 32, 2, 0)) rfl rfl rfl
theorem w39_15 {x y : Int32} : W (pj lw) 39 15 L (.int y :: .int x :: S) k n H Q ↔ (if x < y then W (pj lw) 39 18 L S k n H Q else W (pj lw) 39 22 L S k n H Q) := W_icmp_ge (rfl : (pj lw).1 39 15 = some (.if_icmp .ge 7, 3, 0)) rfl
theorem w39_18 : W (pj lw) 39 18 L S k n H Q ↔ W (pj lw) 39 19 L (.int 1 :: S) k n H Q := W_s (rfl : (pj lw).1 39 18 = some (.iconst 1, 1, 0)) rfl rfl rfl
theorem w39_19 : W (pj lw) 39 19 L S k n H Q ↔ W (pj lw) 39 23 L S k n H Q := W_goto (rfl : (pj lw).1 39 19 = some (.goto 4, 3, 0)) rfl
theorem w39_22 : W (pj lw) 39 22 L S k n H Q ↔ W (pj lw) 39 23 L (.int 0 :: S) k n H Q := W_s (rfl : (pj lw).1 39 22 = some (.iconst 0, 1, 0)) rfl rfl rfl
theorem w39_23 {x : Int32} : W (pj lw) 39 23 L (.int x :: S) k n H Q ↔ ((x = 0 ∨ x = 1) ∧ Q (some (.int x)) H) := W_rz (rfl : (pj lw).1 39 23 = some (.ireturn, 1, 0)) rfl
theorem c40 {x0 : Nat} {x1 : Int32} : Cl (pj lw) 40 [.ref x0, .int x1] H Q ↔ W (pj lw) 40 0 [.val (.ref x0), .val (.int x1)] [] 0 0 H Q := cl_unf rfl
theorem w40_0 {x : Int32} {l0 : Slot} : W (pj lw) 40 0 (l0 :: .val (.int x) :: L) S k n H Q ↔ W (pj lw) 40 1 (l0 :: .val (.int x) :: L) (.int x :: S) k n H Q := W_s (rfl : (pj lw).1 40 0 = some (.iload_n 1, 1, 0)) rfl rfl rfl
theorem w40_1 {x : Int32} : W (pj lw) 40 1 L (.int x :: S) k n H Q ↔ (if x < 0 then W (pj lw) 40 15 L S k n H Q else W (pj lw) 40 4 L S k n H Q) := W_if_lt (rfl : (pj lw).1 40 1 = some (.ifCond .lt 14, 3, 0)) rfl
theorem w40_4 {x : Int32} {l0 : Slot} : W (pj lw) 40 4 (l0 :: .val (.int x) :: L) S k n H Q ↔ W (pj lw) 40 5 (l0 :: .val (.int x) :: L) (.int x :: S) k n H Q := W_s (rfl : (pj lw).1 40 4 = some (.iload_n 1, 1, 0)) rfl rfl rfl
theorem w40_5 : W (pj lw) 40 5 L S k n H Q ↔ W (pj lw) 40 8 L (.int 128 :: S) k n H Q := W_s (rfl : (pj lw).1 40 5 = some (.sipush 128, 3, 0)) rfl rfl rfl
theorem w40_8 {x y : Int32} : W (pj lw) 40 8 L (.int y :: .int x :: S) k n H Q ↔ (if x < y then W (pj lw) 40 11 L S k n H Q else W (pj lw) 40 15 L S k n H Q) := W_icmp_ge (rfl : (pj lw).1 40 8 = some (.if_icmp .ge 7, 3, 0)) rfl
theorem w40_11 : W (pj lw) 40 11 L S k n H Q ↔ W (pj lw) 40 12 L (.int 1 :: S) k n H Q := W_s (rfl : (pj lw).1 40 11 = some (.iconst 1, 1, 0)) rfl rfl rfl
theorem w40_12 : W (pj lw) 40 12 L S k n H Q ↔ W (pj lw) 40 16 L S k n H Q := W_goto (rfl : (pj lw).1 40 12 = some (.goto 4, 3, 0)) rfl
theorem w40_15 : W (pj lw) 40 15 L S k n H Q ↔ W (pj lw) 40 16 L (.int 0 :: S) k n H Q := W_s (rfl : (pj lw).1 40 15 = some (.iconst 0, 1, 0)) rfl rfl rfl
theorem w40_16 {x : Int32} : W (pj lw) 40 16 L (.int x :: S) k n H Q ↔ ((x = 0 ∨ x = 1) ∧ Q (some (.int x)) H) := W_rz (rfl : (pj lw).1 40 16 = some (.ireturn, 1, 0)) rfl
theorem c41 {x0 : Nat} {x1 : Int32} : Cl (pj lw) 41 [.ref x0, .int x1] H Q ↔ W (pj lw) 41 0 [.val (.ref x0), .val (.int x1)] [] 0 0 H Q := cl_unf rfl
theorem w41_0 {x : Int32} {l0 : Slot} : W (pj lw) 41 0 (l0 :: .val (.int x) :: L) S k n H Q ↔ W (pj lw) 41 1 (l0 :: .val (.int x) :: L) (.int x :: S) k n H Q := W_s (rfl : (pj lw).1 41 0 = some (.iload_n 1, 1, 0)) rfl rfl rfl
theorem w41_1 : W (pj lw) 41 1 L S k n H Q ↔ W (pj lw) 41 3 L (.int (-1000000) :: S) k n H Q := W_s (rfl : (pj lw).1 41 1 = some (.ldc 151, 2, (-1000000))) rfl rfl rfl
theorem w41_3 {x y : Int32} : W (pj lw) 41 3 L (.int y :: .int x :: S) k n H Q ↔ (if x < y then W (pj lw) 41 6 L S k n H Q else W (pj lw) 41 9 L S k n H Q) := W_icmp_ge (rfl : (pj lw).1 41 3 = some (.if_icmp .ge 6, 3, 0)) rfl
theorem w41_6 : W (pj lw) 41 6 L S k n H Q ↔ W (pj lw) 41 8 L (.int (-1000000) :: S) k n H Q := W_s (rfl : (pj lw).1 41 6 = some (.ldc 151, 2, (-1000000))) rfl rfl rfl
theorem w41_8 {x : Int32} : W (pj lw) 41 8 L (.int x :: S) k n H Q ↔ Q (some (.int x)) H := W_r (rfl : (pj lw).1 41 8 = some (.ireturn, 1, 0)) rfl
theorem w41_9 {x : Int32} {l0 : Slot} : W (pj lw) 41 9 (l0 :: .val (.int x) :: L) S k n H Q ↔ W (pj lw) 41 10 (l0 :: .val (.int x) :: L) (.int x :: S) k n H Q := W_s (rfl : (pj lw).1 41 9 = some (.iload_n 1, 1, 0)) rfl rfl rfl
theorem w41_10 : W (pj lw) 41 10 L S k n H Q ↔ W (pj lw) 41 12 L (.int 1000000 :: S) k n H Q := W_s (rfl : (pj lw).1 41 10 = some (.ldc 152, 2, 1000000)) rfl rfl rfl
theorem w41_12 {x y : Int32} : W (pj lw) 41 12 L (.int y :: .int x :: S) k n H Q ↔ (if y < x then W (pj lw) 41 15 L S k n H Q else W (pj lw) 41 18 L S k n H Q) := W_icmp_le (rfl : (pj lw).1 41 12 = some (.if_icmp .le 6, 3, 0)) rfl
theorem w41_15 : W (pj lw) 41 15 L S k n H Q ↔ W (pj lw) 41 17 L (.int 1000000 :: S) k n H Q := W_s (rfl : (pj lw).1 41 15 = some (.ldc 152, 2, 1000000)) rfl rfl rfl
theorem w41_17 {x : Int32} : W (pj lw) 41 17 L (.int x :: S) k n H Q ↔ Q (some (.int x)) H := W_r (rfl : (pj lw).1 41 17 = some (.ireturn, 1, 0)) rfl
theorem w41_18 {x : Int32} {l0 : Slot} : W (pj lw) 41 18 (l0 :: .val (.int x) :: L) S k n H Q ↔ W (pj lw) 41 19 (l0 :: .val (.int x) :: L) (.int x :: S) k n H Q := W_s (rfl : (pj lw).1 41 18 = some (.iload_n 1, 1, 0)) rfl rfl rfl
theorem w41_19 {x : Int32} : W (pj lw) 41 19 L (.int x :: S) k n H Q ↔ Q (some (.int x)) H := W_r (rfl : (pj lw).1 41 19 = some (.ireturn, 1, 0)) rfl
end Pc
section A
variable {lw : LW} {H : AH} {p j : Nat} {s : St} {Q : Option Value → AH → Prop} {a b c d : Int32} {h : Nat → Cel} {k n : Nat}
def F2 (s : St) (lo : Nat) : St := fA (fA (fA (fA s 8 lo 32 0) 9 lo 32 (-1)) 10 lo 32 (-1)) 11 lo 32 0
theorem F2_nil {lo : Nat} (h : 32 ≤ lo) : F2 s lo = s := by simp only [F2, fA_nil h]
theorem F2_step {lo : Nat} (h : lo < 32) : F2 (uA (uA (uA (uA s 8 lo 0) 9 lo (-1)) 10 lo (-1)) 11 lo 0) (lo + 1) = F2 s lo := by
  refine St_ext (fun k => by simp only [F2, sI_fA, sI_uA]) (fun k => by simp only [F2, sJ_fA, sJ_uA]) (fun t' i => ?_) (fun t' i => by simp only [F2, sB_fA, sB_uA])
  simp only [F2, sA_fA, sA_uA]
  by_cases hi : i = lo
  · subst hi
    have h1 : ¬ (i + 1 ≤ i) := by omega
    simp only [h1, h, Nat.le_refl, and_true, and_false, true_and, false_and, if_false]
  · have h1 : (lo + 1 ≤ i) = (lo ≤ i) := propext ⟨fun _ => by omega, fun _ => by omega⟩
    simp only [hi, h1, and_false, if_false]
theorem l29 (m : Nat) : ∀ (i : Int32) (s : St), i.toInt = 32 - m → m ≤ 32 → (W (pj lw) 29 2 [.val (.ref p), .val (.int i)] [] k n (ob H p s) Q ↔ Q none (ob H p (F2 s i.toNatClampNeg))) := by
  induction m with
  | zero =>
    intro i s hi _
    have h1 : ¬ i < 32 := by rw [lt32]; simp only [Int32.reduceToInt]; omega
    rw [w29_2]; simp +decide only [w29_3, w29_5, w29_42, ↓reduceIte, h1]
    rw [F2_nil (by rw [cln]; omega)]
  | succ m ih =>
    intro i s hi hm
    have h1 : i < 32 := by rw [lt32]; simp only [Int32.reduceToInt]; omega
    have h2 : (i + 1).toInt = i.toInt + 1 := ia (by simp only [Int32.reduceToInt]; omega) (by simp only [Int32.reduceToInt]; omega)
    have h3 : 0 ≤ i.toInt ∧ i.toInt < 32 := by omega
    rw [w29_2]; simp +decide only [w29_3, w29_5, w29_8, w29_9, w29_12, w29_13, w29_14, w29_15, w29_16, w29_19, w29_20, w29_21, w29_22, w29_23, w29_26, w29_27, w29_28, w29_29, w29_30, w29_33, w29_34, w29_35, w29_36, w29_39, isO_put, true_and, and_true, or_true, ↓reduceIte, g8, g9, g10, g11, aw8, awn8, as8, aw9, as9, aw10, as10, aw11, as11, h1, h3]
    rw [ih (i + 1) _ (by omega) (by omega)]
    have h4 : (i + 1).toNatClampNeg = i.toNatClampNeg + 1 := by rw [cln, cln]; omega
    rw [h4, F2_step (by rw [cln]; omega)]
theorem t29 : Cl (pj lw) 29 [.ref p] (ob H p s) Q ↔ Q none (ob H p (F2 s 0)) := by
  rw [c29]; simp +decide only [w29_0, w29_1]
  rw [l29 32 0 _ (by decide) (by decide)]; simp only [Int32.reduceToNatClampNeg]
theorem l1 (m : Nat) : ∀ (i : Int32) (s : St), i.toInt = 32 - m → m ≤ 32 → (W (pj lw) 1 148 [.val (.ref p), .val (.int a), .val (.int b), .val (.int i)] [] k n (ob H p s) Q ↔ W (pj lw) 1 167 [.val (.ref p), .val (.int a), .val (.int b), .val (.int 32)] [] k n (ob H p (fA s 7 i.toNatClampNeg 32 0)) Q) := by
  induction m with
  | zero =>
    intro i s hi _
    have h1 : ¬ i < 32 := by rw [lt32]; simp only [Int32.reduceToInt]; omega
    have h0 : i = 32 := by rw [eq32]; simp only [Int32.reduceToInt]; omega
    rw [w1_148]; simp +decide only [w1_149, w1_151, ↓reduceIte, h1]
    rw [fA_nil (by rw [cln]; omega), h0]
  | succ m ih =>
    intro i s hi hm
    have h1 : i < 32 := by rw [lt32]; simp only [Int32.reduceToInt]; omega
    have h2 : (i + 1).toInt = i.toInt + 1 := ia (by simp only [Int32.reduceToInt]; omega) (by simp only [Int32.reduceToInt]; omega)
    have h3 : 0 ≤ i.toInt ∧ i.toInt < 32 := by omega
    rw [w1_148]; simp +decide only [w1_149, w1_151, w1_154, w1_155, w1_158, w1_159, w1_160, w1_161, w1_164, isO_put, true_and, and_true, ↓reduceIte, g7, aw7, as7, h1, h3]
    rw [ih (i + 1) _ (by omega) (by omega)]
    have h4 : (i + 1).toNatClampNeg = i.toNatClampNeg + 1 := by rw [cln, cln]; omega
    rw [h4, fA_step (by rw [cln]; omega)]
def ini0 (a : Int32) : St := F2 (fA (uI (uI (uJ (uI (uI (uI z0 0 (cl 2 32 a)) 12 0) 13 0) 14 0) 15 (-1)) 16 (-1)) 7 0 32 0) 0
set_option maxRecDepth 100000 in
theorem t1 : Cl (pj lw) 1 [.ref p, .int a] (put lay 0 (p + 1, h) p z0) Q ↔ Q none (ob (p + 12, h) p (ini0 a)) := by
  rw [c1]
  rcases cl3 (lo := 2) (hi := 32) a (by decide) with ⟨h1, h2⟩ | ⟨h1, h2⟩ | ⟨h1, h2⟩ <;>
  · simp +decide only [w1_0, w1_1, w1_4, w1_5, w1_8, w1_10, w1_13, w1_14, w1_17, w1_19, w1_22, w1_23, w1_26, w1_28, w1_31, w1_32, w1_35, w1_37, w1_40, w1_41, w1_44, w1_46, w1_49, w1_50, w1_53, w1_55, w1_58, w1_59, w1_61, w1_63, w1_66, w1_67, w1_69, w1_71, w1_74, w1_75, w1_77, w1_79, w1_82, w1_83, w1_85, w1_87, w1_90, w1_91, w1_93, w1_95, w1_98, w1_99, w1_100, w1_101, w1_102, w1_105, w1_106i, w1_107, w1_108, w1_110, w1_113, w1_115i, w1_116, w1_117, w1_118, w1_121, w1_122, w1_123, w1_126, w1_127, w1_128, w1_131, w1_132, w1_133, w1_136, w1_137, w1_138, w1_141, w1_142, w1_143, w1_146, w1_147, zr_z0, isOw_put, put_fst, okv_int, okv_ref, true_and, and_true, ↓reduceIte, Nat.reduceAdd, Int32.reduceAdd, Int64.reduceAdd, Nat.zero_add, s0, s12, s13, s14, s15, s16, mk1, io1, mk2, io2, mk3, io3, mk4, io4, mk5, io5, mk6, io6, mk7, io7, mk8, io8, mk9, io9, mk10, io10, mk11, io11, h1, h2]
    rw [l1 32 0 _ (by decide) (by decide)]
    simp +decide only [w1_167, w1_168, w1_171, isO_put, Option.toList_none, List.nil_append, true_and, and_true, ↓reduceIte, Int32.reduceToNatClampNeg, t29, ini0, cl, h1, h2]
theorem t41 : Cl (pj lw) 41 [.ref p, .int a] H Q ↔ Q (some (.int (cl (-1000000) 1000000 a))) H := by
  rw [c41]
  rcases cl3 (lo := -1000000) (hi := 1000000) a (by decide) with ⟨h1, h2⟩ | ⟨h1, h2⟩ | ⟨h1, h2⟩ <;> simp +decide only [w41_0, w41_1, w41_3, w41_6, w41_8, w41_9, w41_10, w41_12, w41_15, w41_17, w41_18, w41_19, ↓reduceIte, h1, h2, cl]
end A

section B
variable {lw : LW} {H : AH} {p j : Nat} {s s' : St} {Q : Option Value → AH → Prop} {a b c d e x y t : Int32} {k n : Nat}
def bz (x : Bool) : Int32 := if x = true then 1 else 0
def vv (s : St) (a : Int32) : Bool := decide (¬ a < 0 ∧ a < sI s 0 ∧ a < 32)
def vi (a : Int32) : Bool := decide (¬ a < 0 ∧ a < 128)
theorem vi_rg (h : vi a = true) : 0 ≤ a.toInt ∧ a.toInt < 128 := by
  have := of_decide_eq_true h
  rw [lt32, lt32] at this; simp only [Int32.reduceToInt] at this; omega
theorem vi_t (h : 0 ≤ a.toInt ∧ a.toInt < 128) : vi a = true := by
  refine decide_eq_true ?_
  rw [lt32, lt32]; simp only [Int32.reduceToInt]; omega
theorem vv_t (h : 0 ≤ a.toInt ∧ a.toInt < (sI s 0).toInt) (hn : (sI s 0).toInt ≤ 32) : vv s a = true := by
  refine decide_eq_true ?_
  rw [lt32, lt32, lt32]; simp only [Int32.reduceToInt]; omega
theorem vv_rg (h : vv s a = true) : (0 ≤ a.toInt ∧ a.toInt < (sI s 0).toInt) ∧ a.toInt < 32 := by
  have := of_decide_eq_true h
  rw [lt32, lt32, lt32] at this; simp only [Int32.reduceToInt] at this; omega
theorem t39 : Cl (pj lw) 39 [.ref p, .int a] (ob H p s) Q ↔ Q (some (.int (bz (vv s a)))) (ob H p s) := by
  rw [c39]; unfold vv
  by_cases e1 : a < 0
  · simp +decide only [w39_0, w39_1, w39_22, w39_23, true_and, false_and, not_true_eq_false, ↓reduceIte, e1, bz]
  · by_cases e2 : a < sI s 0
    · by_cases e3 : a < 32 <;> simp +decide only [w39_0, w39_1, w39_4, w39_5, w39_6, w39_9, w39_12, w39_13, w39_15, w39_18, w39_19, w39_22, w39_23, isO_put, true_and, and_true, and_false, not_false_eq_true, ↓reduceIte, g0, e1, e2, e3, bz]
    · simp +decide only [w39_0, w39_1, w39_4, w39_5, w39_6, w39_9, w39_22, w39_23, isO_put, true_and, false_and, and_false, not_false_eq_true, ↓reduceIte, g0, e1, e2, bz]
theorem t40 : Cl (pj lw) 40 [.ref p, .int a] H Q ↔ Q (some (.int (bz (vi a)))) H := by
  rw [c40]; unfold vi
  by_cases e1 : a < 0
  · simp +decide only [w40_0, w40_1, w40_15, w40_16, true_and, false_and, not_true_eq_false, ↓reduceIte, e1, bz]
  · by_cases e3 : a < 128 <;> simp +decide only [w40_0, w40_1, w40_4, w40_5, w40_8, w40_11, w40_12, w40_15, w40_16, true_and, and_true, and_false, not_false_eq_true, ↓reduceIte, e1, e3, bz]
def pr (s : St) (a : Int32) : Bool := vi a && decide (sA s 4 a.toNatClampNeg ≠ 0)
theorem t5 : Cl (pj lw) 5 [.ref p, .int a] (ob H p s) Q ↔ Q (some (.int (bz (pr s a)))) (ob H p s) := by
  rw [c5]; unfold pr
  cases e1 : vi a with
  | false => simp +decide only [w5_0, w5_1, w5_2, w5_5, w5_21, w5_22, isO_put, Option.toList_some, List.cons_append, List.nil_append, true_and, and_true, false_and, ↓reduceIte, ne_eq, t40, e1, bz, Bool.false_and]
  | true =>
    have h := vi_rg e1
    by_cases e2 : sA s 4 a.toNatClampNeg = 0 <;> simp +decide only [w5_0, w5_1, w5_2, w5_5, w5_8, w5_9, w5_12, w5_13, w5_14, w5_17, w5_18, w5_21, w5_22, isO_put, Option.toList_some, List.cons_append, List.nil_append, true_and, and_true, or_true, not_false_eq_true, ↓reduceIte, ne_eq, g4, ai4, ain4, ae4, ain4, t40, e1, h, e2, bz]
def tr (s : St) (a : Int32) : Bool := vi a && (decide (sA s 4 a.toNatClampNeg ≠ 0) && decide (sA s 5 a.toNatClampNeg ≠ 0))
theorem t6 : Cl (pj lw) 6 [.ref p, .int a] (ob H p s) Q ↔ Q (some (.int (bz (tr s a)))) (ob H p s) := by
  rw [c6]; unfold tr
  cases e1 : vi a with
  | false => simp +decide only [w6_0, w6_1, w6_2, w6_5, w6_30, w6_31, isO_put, Option.toList_some, List.cons_append, List.nil_append, true_and, and_true, false_and, ↓reduceIte, ne_eq, t40, e1, bz, Bool.false_and]
  | true =>
    have h := vi_rg e1
    by_cases e2 : sA s 4 a.toNatClampNeg = 0
    · simp +decide only [w6_0, w6_1, w6_2, w6_5, w6_8, w6_9, w6_12, w6_13, w6_14, w6_30, w6_31, isO_put, Option.toList_some, List.cons_append, List.nil_append, true_and, and_true, false_and, and_false, or_true, ↓reduceIte, ne_eq, g4, ai4, ain4, ae4, ain4, t40, e1, h, e2, bz, decide_false, Bool.false_and, Bool.and_false, Bool.true_and]
    · by_cases e3 : sA s 5 a.toNatClampNeg = 0 <;> simp +decide only [w6_0, w6_1, w6_2, w6_5, w6_8, w6_9, w6_12, w6_13, w6_14, w6_17, w6_18, w6_21, w6_22, w6_23, w6_26, w6_27, w6_30, w6_31, isO_put, Option.toList_some, List.cons_append, List.nil_append, true_and, and_true, or_true, not_false_eq_true, ↓reduceIte, ne_eq, g4, g5, ai4, ain4, ae4, ai5, ain5, ae5, ain4, ain5, t40, e1, h, e2, e3, bz]
def ew (s : St) (a : Int32) : Int32 := if pr s a = true then sA s 3 a.toNatClampNeg else 0
theorem l22 {f : Nat} (hf : f < 128) (h0 : sA s 4 f = 0) (h1 : ∀ i, i < f → sA s 4 i ≠ 0) (m : Nat) : ∀ (i : Int32), i.toInt = (f : Int) - m → m ≤ f →
    (W (pj lw) 22 2 [.val (.ref p), .val (.int i)] [] k n (ob H p s) Q ↔ Q (some (.int (Int32.ofNat f))) (ob H p s)) := by
  have hF : (Int32.ofNat f).toInt = f := Int32.toInt_ofNat_of_lt (by omega)
  induction m with
  | zero =>
    intro i hi _
    have e : i = Int32.ofNat f := by rw [eq32]; omega
    have h2 : i < 128 := by rw [lt32]; simp only [Int32.reduceToInt]; omega
    have h3 : 0 ≤ i.toInt ∧ i.toInt < 128 := by omega
    have h4 : sA s 4 i.toNatClampNeg = 0 := by rw [cln, show i.toInt.toNat = f by omega]; exact h0
    rw [w22_2]; simp +decide only [w22_3, w22_6, w22_9, w22_10, w22_13, w22_14, w22_15, w22_18, w22_19, isO_put, true_and, and_true, or_true, ↓reduceIte, g4, ai4, ain4, ae4, ain4, h2, h3, h4]; rw [e]
  | succ m ih =>
    intro i hi hm
    have h2 : i < 128 := by rw [lt32]; simp only [Int32.reduceToInt]; omega
    have h3 : 0 ≤ i.toInt ∧ i.toInt < 128 := by omega
    have h4 : ¬ sA s 4 i.toNatClampNeg = 0 := by rw [cln]; exact h1 _ (by omega)
    have h5 : (i + 1).toInt = i.toInt + 1 := ia (by simp only [Int32.reduceToInt]; omega) (by simp only [Int32.reduceToInt]; omega)
    rw [w22_2]; simp +decide only [w22_3, w22_6, w22_9, w22_10, w22_13, w22_14, w22_15, w22_20, w22_23, isO_put, true_and, and_true, or_true, ↓reduceIte, g4, ai4, ain4, ae4, ain4, h2, h3, h4]
    exact ih (i + 1) (by omega) (by omega)
theorem t22 {f : Nat} (hf : f < 128) (h0 : sA s 4 f = 0) (h1 : ∀ i, i < f → sA s 4 i ≠ 0) : Cl (pj lw) 22 [.ref p] (ob H p s) Q ↔ Q (some (.int (Int32.ofNat f))) (ob H p s) := by
  rw [c22]; simp +decide only [w22_0, w22_1]
  exact l22 hf h0 h1 f 0 (by simp only [Int32.reduceToInt]; omega) (Nat.le_refl _)
def stE (s : St) (a b c d : Int32) : St := uI (uA (uA (uA (uA (uA s 1 a.toNatClampNeg b) 2 a.toNatClampNeg c) 3 a.toNatClampNeg d) 4 a.toNatClampNeg 1) 5 a.toNatClampNeg 0) 12 (sI s 12 + 1)
theorem t23 (ha : 0 ≤ a.toInt ∧ a.toInt < 128) : Cl (pj lw) 23 [.ref p, .int a, .int b, .int c, .int d] (ob H p s) Q ↔ Q none (ob H p (stE s a b c d)) := by
  rw [c23]; unfold stE; simp +decide only [w23_0, w23_1, w23_4, w23_5, w23_6, w23_7, w23_8, w23_11, w23_12, w23_13, w23_14, w23_15, w23_18, w23_19, w23_21, w23_22, w23_23, w23_26, w23_27, w23_28, w23_29, w23_30, w23_33, w23_34, w23_35, w23_36, w23_37, w23_38, w23_41, w23_42, w23_43, w23_46, isO_put, isOw_put, okv_int, sI_uA, true_and, and_true, or_true, g1, g2, g3, g4, g5, g12, s12, aw1, as1, aw2, as2, aw3, as3, aw4, awn4, as4, aw5, awn5, as5, awn4, awn5, ha]
def frS (s : St) (a : Int32) : St := uI (uA (uA s 4 a.toNatClampNeg 0) 5 a.toNatClampNeg 0) 12 (sI s 12 - 1)
theorem t24 (ha : 0 ≤ a.toInt ∧ a.toInt < 128) : Cl (pj lw) 24 [.ref p, .int a] (ob H p s) Q ↔ Q none (ob H p (frS s a)) := by
  rw [c24]; unfold frS; simp +decide only [w24_0, w24_1, w24_4, w24_5, w24_6, w24_7, w24_8, w24_11, w24_12, w24_13, w24_14, w24_15, w24_16, w24_19, w24_20, w24_21, w24_24, isO_put, isOw_put, okv_int, sI_uA, true_and, and_true, or_true, g4, g5, g12, s12, aw4, awn4, as4, aw5, awn5, as5, awn4, awn5, ha]
def stL2 (s : St) (a b : Int32) : St := uI (uI s 15 a) 16 b
theorem t21 : Cl (pj lw) 21 [.ref p, .int a, .int b] (ob H p s) Q ↔ Q none (ob H p (stL2 s a b)) := by
  rw [c21]; unfold stL2; simp +decide only [w21_0, w21_1, w21_2, w21_5, w21_6, w21_7, w21_10, isOw_put, okv_int, true_and, and_true, s15, s16]
def DG (s : St) : Prop := ∀ x, x < 32 → 0 ≤ (sA s 7 x).toInt ∧ (sA s 7 x).toInt ≤ 32
def dN (s : St) (x : Nat) : Nat := (sA s 7 x).toInt.toNat
theorem adx (hx : 0 ≤ x.toInt ∧ x.toInt < 32) (hd : 0 ≤ d.toInt ∧ d.toInt < 32) : (x * 32).toInt = x.toInt * 32 ∧ (x * 32 + d).toInt = x.toInt * 32 + d.toInt ∧ (x * 32 + d).toNatClampNeg = x.toNatClampNeg * 32 + d.toInt.toNat := by
  have h1 : (x * 32).toInt = x.toInt * 32 := im (by simp only [Int32.reduceToInt]; omega) (by simp only [Int32.reduceToInt]; omega)
  have h2 : (x * 32 + d).toInt = x.toInt * 32 + d.toInt := by rw [ia (by omega) (by omega), h1]
  exact ⟨h1, h2, by rw [cln, cln, h2]; omega⟩
def aA (s : St) (x e : Int32) : St := if (sA s 7 x.toNatClampNeg).toInt < 32 then uA (uA s 6 (x.toNatClampNeg * 32 + dN s x.toNatClampNeg) e) 7 x.toNatClampNeg (sA s 7 x.toNatClampNeg + 1) else s
theorem t27 (hx : 0 ≤ x.toInt ∧ x.toInt < 32) (hd : DG s) : Cl (pj lw) 27 [.ref p, .int x, .int e] (ob H p s) Q ↔ Q none (ob H p (aA s x e)) := by
  rw [c27]
  have h0 := hd x.toNatClampNeg (by rw [cln]; omega)
  have h1 : ¬ x < 0 := by rw [lt32]; simp only [Int32.reduceToInt]; omega
  have h2 : x < 32 := by rw [lt32]; simp only [Int32.reduceToInt]; omega
  have h3 : ¬ sA s 7 x.toNatClampNeg < 0 := by rw [lt32]; simp only [Int32.reduceToInt]; omega
  unfold aA
  by_cases e1 : sA s 7 x.toNatClampNeg < 32
  · have e2 : (sA s 7 x.toNatClampNeg).toInt < 32 := by rw [lt32] at e1; simpa only [Int32.reduceToInt] using e1
    have h4 := adx hx (d := sA s 7 x.toNatClampNeg) ⟨h0.1, e2⟩
    have h5 : 0 ≤ (x * 32 + sA s 7 x.toNatClampNeg).toInt ∧ (x * 32 + sA s 7 x.toNatClampNeg).toInt < 1024 := by omega
    have h6 : (x * 32 + sA s 7 x.toNatClampNeg).toNatClampNeg = x.toNatClampNeg * 32 + dN s x.toNatClampNeg := h4.2.2
    simp +decide only [w27_0, w27_1, w27_4, w27_5, w27_7, w27_11, w27_12, w27_15, w27_16, w27_17, w27_20, w27_21, w27_24, w27_25, w27_26, w27_28, w27_32, w27_33, w27_36, w27_37, w27_39, w27_40, w27_41, w27_44, w27_45, w27_46, w27_47, w27_48, w27_49, w27_50, w27_53, w27_54, w27_55, w27_56, w27_57, w27_58, w27_59, isO_put, sA_uA, true_and, and_true, false_and, ↓reduceIte, g6, g7, aw6, as6, ai7, aw7, ae7, as7, h1, h2, h3, e1, hx, h5, e2, h6]
  · have e2 : ¬ (sA s 7 x.toNatClampNeg).toInt < 32 := by rw [lt32] at e1; simpa only [Int32.reduceToInt] using e1
    simp +decide only [w27_0, w27_1, w27_4, w27_5, w27_7, w27_11, w27_12, w27_15, w27_16, w27_17, w27_20, w27_21, w27_24, w27_25, w27_26, w27_28, w27_31, isO_put, true_and, and_true, ↓reduceIte, g7, ai7, ae7, h1, h2, h3, e1, hx, e2]
def aR (s : St) (x : Int32) (κ : Nat) : St := uA (uA s 7 x.toNatClampNeg (sA s 7 x.toNatClampNeg - 1)) 6 (x.toNatClampNeg * 32 + κ) (sA s 6 (x.toNatClampNeg * 32 + (dN s x.toNatClampNeg - 1)))
theorem l28 (hx : 0 ≤ x.toInt ∧ x.toInt < 32) (hd : DG s) {κ : Nat} (hk : κ < dN s x.toNatClampNeg) (h0 : sA s 6 (x.toNatClampNeg * 32 + κ) = e) (h1 : ∀ i, i < κ → sA s 6 (x.toNatClampNeg * 32 + i) ≠ e) (m : Nat) : ∀ (i : Int32), i.toInt = (κ : Int) - m → m ≤ κ →
    (W (pj lw) 28 19 [.val (.ref p), .val (.int x), .val (.int e), .val (.int (x * 32)), .val (.int i)] [] k n (ob H p s) Q ↔ Q none (ob H p (aR s x κ))) := by
  have g0 := hd x.toNatClampNeg (by rw [cln]; omega)
  unfold dN at hk
  induction m with
  | zero =>
    intro i hi _
    have h2 : i < sA s 7 x.toNatClampNeg := by rw [lt32]; omega
    have h3 : i < 32 := by rw [lt32]; simp only [Int32.reduceToInt]; omega
    have h4 := adx hx (d := i) (by omega)
    have h5 : 0 ≤ (x * 32 + i).toInt ∧ (x * 32 + i).toInt < 1024 := by omega
    have h6 : (x * 32 + i).toNatClampNeg = x.toNatClampNeg * 32 + κ := by rw [h4.2.2]; omega
    have h7 : (sA s 7 x.toNatClampNeg - 1).toInt = (sA s 7 x.toNatClampNeg).toInt - 1 := isb (by simp only [Int32.reduceToInt]; omega) (by simp only [Int32.reduceToInt]; omega)
    have h8 := adx hx (d := sA s 7 x.toNatClampNeg - 1) (by omega)
    have h9 : 0 ≤ (x * 32 + (sA s 7 x.toNatClampNeg - 1)).toInt ∧ (x * 32 + (sA s 7 x.toNatClampNeg - 1)).toInt < 1024 := by omega
    have h10 : (x * 32 + (sA s 7 x.toNatClampNeg - 1)).toNatClampNeg = x.toNatClampNeg * 32 + (dN s x.toNatClampNeg - 1) := by rw [h8.2.2, h7]; unfold dN; omega
    rw [w28_19]; unfold aR; simp +decide only [w28_21, w28_22, w28_25, w28_26, w28_27, w28_30, w28_32, w28_34, w28_37, w28_38, w28_41, w28_42, w28_44, w28_45, w28_46, w28_47, w28_50, w28_51, w28_54, w28_55, w28_56, w28_57, w28_58, w28_59, w28_60, w28_61, w28_64, w28_65, w28_67, w28_68, w28_69, w28_72, w28_73, w28_74, w28_77, w28_78, w28_79, w28_80, w28_81, w28_82, isO_put, sA_uA, true_and, and_true, false_and, ↓reduceIte, g6, g7, ai6, aw6, ae6, as6, ai7, aw7, ae7, as7, h2, h3, hx, h5, h6, h0, h9, h10]
  | succ m ih =>
    intro i hi hm
    have h2 : i < sA s 7 x.toNatClampNeg := by rw [lt32]; omega
    have h3 : i < 32 := by rw [lt32]; simp only [Int32.reduceToInt]; omega
    have h4 := adx hx (d := i) (by omega)
    have h5 : 0 ≤ (x * 32 + i).toInt ∧ (x * 32 + i).toInt < 1024 := by omega
    have h6 : (x * 32 + i).toNatClampNeg = x.toNatClampNeg * 32 + i.toInt.toNat := h4.2.2
    have h7 : ¬ sA s 6 (x.toNatClampNeg * 32 + i.toInt.toNat) = e := h1 _ (by omega)
    have h8 : (i + 1).toInt = i.toInt + 1 := ia (by simp only [Int32.reduceToInt]; omega) (by simp only [Int32.reduceToInt]; omega)
    rw [w28_19]; simp +decide only [w28_21, w28_22, w28_25, w28_26, w28_27, w28_30, w28_32, w28_34, w28_37, w28_38, w28_41, w28_42, w28_44, w28_45, w28_46, w28_47, w28_83, w28_86, isO_put, true_and, and_true, ↓reduceIte, g6, g7, ai6, ae6, ai7, ae7, h2, h3, hx, h5, h6, h7]
    exact ih (i + 1) (by omega) (by omega)
theorem l28n (hx : 0 ≤ x.toInt ∧ x.toInt < 32) (hd : DG s) (h1 : ∀ i, i < dN s x.toNatClampNeg → sA s 6 (x.toNatClampNeg * 32 + i) ≠ e) (m : Nat) : ∀ (i : Int32), i.toInt = (dN s x.toNatClampNeg : Int) - m → m ≤ dN s x.toNatClampNeg →
    (W (pj lw) 28 19 [.val (.ref p), .val (.int x), .val (.int e), .val (.int (x * 32)), .val (.int i)] [] k n (ob H p s) Q ↔ Q none (ob H p s)) := by
  have g0 := hd x.toNatClampNeg (by rw [cln]; omega)
  unfold dN at *
  induction m with
  | zero =>
    intro i hi _
    have h2 : ¬ i < sA s 7 x.toNatClampNeg := by rw [lt32]; omega
    rw [w28_19]; simp +decide only [w28_21, w28_22, w28_25, w28_26, w28_27, w28_89, isO_put, true_and, and_true, ↓reduceIte, g7, ai7, ae7, h2, hx]
  | succ m ih =>
    intro i hi hm
    have h2 : i < sA s 7 x.toNatClampNeg := by rw [lt32]; omega
    have h3 : i < 32 := by rw [lt32]; simp only [Int32.reduceToInt]; omega
    have h4 := adx hx (d := i) (by omega)
    have h5 : 0 ≤ (x * 32 + i).toInt ∧ (x * 32 + i).toInt < 1024 := by omega
    have h6 : (x * 32 + i).toNatClampNeg = x.toNatClampNeg * 32 + i.toInt.toNat := h4.2.2
    have h7 : ¬ sA s 6 (x.toNatClampNeg * 32 + i.toInt.toNat) = e := h1 _ (by omega)
    have h8 : (i + 1).toInt = i.toInt + 1 := ia (by simp only [Int32.reduceToInt]; omega) (by simp only [Int32.reduceToInt]; omega)
    rw [w28_19]; simp +decide only [w28_21, w28_22, w28_25, w28_26, w28_27, w28_30, w28_32, w28_34, w28_37, w28_38, w28_41, w28_42, w28_44, w28_45, w28_46, w28_47, w28_83, w28_86, isO_put, true_and, and_true, ↓reduceIte, g6, g7, ai6, ae6, ai7, ae7, h2, h3, hx, h5, h6, h7]
    exact ih (i + 1) (by omega) (by omega)
def fnd (s : St) (x : Nat) (e : Int32) : Nat → Nat → Option Nat
  | _, 0 => none
  | j, m + 1 => if sA s 6 (x * 32 + j) = e then some j else fnd s x e (j + 1) m
theorem fnd_some {X : Nat} : ∀ (m j : Nat) {κ : Nat}, fnd s X e j m = some κ → (j ≤ κ ∧ κ < j + m) ∧ sA s 6 (X * 32 + κ) = e ∧ ∀ i, j ≤ i → i < κ → sA s 6 (X * 32 + i) ≠ e
  | 0, j, κ, h => by cases h
  | m + 1, j, κ, h => by
    unfold fnd at h
    by_cases g : sA s 6 (X * 32 + j) = e
    · rw [if_pos g] at h; cases h; exact ⟨by omega, g, fun i h1 h2 => by omega⟩
    · rw [if_neg g] at h
      have := fnd_some m (j + 1) h
      refine ⟨by omega, this.2.1, fun i h1 h2 => ?_⟩
      by_cases q : i = j
      · subst q; exact g
      · exact this.2.2 i (by omega) h2
theorem fnd_none {X : Nat} : ∀ (m j : Nat), fnd s X e j m = none → ∀ i, j ≤ i → i < j + m → sA s 6 (X * 32 + i) ≠ e
  | 0, j, h, i, h1, h2 => by omega
  | m + 1, j, h, i, h1, h2 => by
    unfold fnd at h
    by_cases g : sA s 6 (X * 32 + j) = e
    · rw [if_pos g] at h; cases h
    · rw [if_neg g] at h
      by_cases q : i = j
      · subst q; exact g
      · exact fnd_none m (j + 1) h i (by omega) (by omega)
def rA (s : St) (x e : Int32) : St := match fnd s x.toNatClampNeg e 0 (dN s x.toNatClampNeg) with
  | none => s
  | some κ => aR s x κ
theorem t28 (hx : 0 ≤ x.toInt ∧ x.toInt < 32) (hd : DG s) : Cl (pj lw) 28 [.ref p, .int x, .int e] (ob H p s) Q ↔ Q none (ob H p (rA s x e)) := by
  rw [c28]
  have h1 : ¬ x < 0 := by rw [lt32]; simp only [Int32.reduceToInt]; omega
  have h2 : x < 32 := by rw [lt32]; simp only [Int32.reduceToInt]; omega
  simp +decide only [w28_0, w28_1, w28_4, w28_5, w28_7, w28_11, w28_12, w28_14, w28_15, w28_16, w28_17, ↓reduceIte, h1, h2]
  unfold rA
  cases g : fnd s x.toNatClampNeg e 0 (dN s x.toNatClampNeg) with
  | none =>
    exact l28n hx hd (fun i hi => fnd_none _ _ g i (Nat.zero_le _) (by omega)) (dN s x.toNatClampNeg) 0 (by simp only [Int32.reduceToInt]; omega) (Nat.le_refl _)
  | some κ =>
    have r := fnd_some _ _ g
    exact l28 hx hd (by omega) r.2.1 (fun i hi => r.2.2 i (Nat.zero_le _) hi) κ 0 (by simp only [Int32.reduceToInt]; omega) (Nat.le_refl _)
end B

section C
variable {lw : LW} {H : AH} {p j : Nat} {s s' s1 s2 : St} {Q : Option Value → AH → Prop} {a b c d e x y t : Int32} {k n : Nat}
def oE (s : St) (e x : Int32) : Int32 := if sA s 1 e.toNatClampNeg = x then sA s 2 e.toNatClampNeg else if sA s 2 e.toNatClampNeg = x then sA s 1 e.toNatClampNeg else -1
theorem t35 (he : 0 ≤ e.toInt ∧ e.toInt < 128) : Cl (pj lw) 35 [.ref p, .int e, .int x] (ob H p s) Q ↔ Q (some (.int (oE s e x))) (ob H p s) := by
  rw [c35]; unfold oE
  by_cases e1 : sA s 1 e.toNatClampNeg = x
  · simp +decide only [w35_0, w35_1, w35_4, w35_5, w35_6, w35_7, w35_10, w35_11, w35_14, w35_15, w35_16, isO_put, true_and, and_true, ↓reduceIte, g1, g2, ai1, ae1, ai2, ae2, he, e1]
  · by_cases e2 : sA s 2 e.toNatClampNeg = x <;> simp +decide only [w35_0, w35_1, w35_4, w35_5, w35_6, w35_7, w35_17, w35_18, w35_21, w35_22, w35_23, w35_24, w35_27, w35_28, w35_31, w35_32, w35_33, w35_34, w35_35, isO_put, true_and, and_true, ↓reduceIte, g1, g2, ai1, ae1, ai2, ae2, he, e1, e2]
def pc (s : St) (a b : Int32) : Bool := if sA s 3 a.toNatClampNeg = sA s 3 b.toNatClampNeg then decide (a < b) else decide (sA s 3 a.toNatClampNeg < sA s 3 b.toNatClampNeg)
theorem t36 (ha : 0 ≤ a.toInt ∧ a.toInt < 128) (hb : 0 ≤ b.toInt ∧ b.toInt < 128) : Cl (pj lw) 36 [.ref p, .int a, .int b] (ob H p s) Q ↔ Q (some (.int (bz (pc s a b)))) (ob H p s) := by
  rw [c36]; unfold pc
  by_cases e1 : sA s 3 a.toNatClampNeg = sA s 3 b.toNatClampNeg
  · by_cases e2 : a < b <;> simp +decide only [w36_0, w36_1, w36_4, w36_5, w36_6, w36_7, w36_10, w36_11, w36_12, w36_36, w36_37, w36_38, w36_41, w36_42, w36_45, w36_46, isO_put, true_and, and_true, ↓reduceIte, g3, ai3, ae3, ha, hb, e1, e2, bz]
  · by_cases e2 : sA s 3 a.toNatClampNeg < sA s 3 b.toNatClampNeg <;> simp +decide only [w36_0, w36_1, w36_4, w36_5, w36_6, w36_7, w36_10, w36_11, w36_12, w36_15, w36_16, w36_19, w36_20, w36_21, w36_22, w36_25, w36_26, w36_27, w36_30, w36_31, w36_34, w36_35, isO_put, true_and, and_true, ↓reduceIte, g3, ai3, ae3, ha, hb, e1, e2, bz]
def nv (a : Int32) : Prop := a = -1 ∨ (0 ≤ a.toInt ∧ a.toInt < 128)
def lgt (s : St) (a b : Int32) : Int32 := if a = -1 then b else if b = -1 then a else if pc s a b = true then a else b
theorem t37 (ha : nv a) (hb : nv b) : Cl (pj lw) 37 [.ref p, .int a, .int b] (ob H p s) Q ↔ Q (some (.int (lgt s a b))) (ob H p s) := by
  rw [c37]; unfold lgt
  by_cases e1 : a = -1
  · simp +decide only [w37_0, w37_1, w37_2, w37_5, w37_6, ↓reduceIte, e1]
  · by_cases e2 : b = -1
    · simp +decide only [w37_0, w37_1, w37_2, w37_7, w37_8, w37_9, w37_12, w37_13, ↓reduceIte, e1, e2]
    · have q1 := ha.resolve_left e1
      have q2 := hb.resolve_left e2
      have q := fun Q => t36 (lw := lw) (H := H) (p := p) (s := s) (Q := Q) q1 q2
      cases e3 : pc s a b <;> simp +decide only [w37_0, w37_1, w37_2, w37_7, w37_8, w37_9, w37_14, w37_15, w37_16, w37_17, w37_20, w37_23, w37_24, w37_25, w37_26, isO_put, Option.toList_some, List.cons_append, List.nil_append, true_and, and_true, ↓reduceIte, e1, e2, q, e3, bz]
theorem lgt_nv (ha : nv a) (hb : nv b) : nv (lgt s a b) := by
  unfold lgt; split
  · exact hb
  · split
    · exact ha
    · split
      · exact ha
      · exact hb
def hvy (s : St) (a b : Int32) : Int32 := if a = -1 then b else if b = -1 then a else if pc s a b = true then b else a
theorem t38 (ha : nv a) (hb : nv b) : Cl (pj lw) 38 [.ref p, .int a, .int b] (ob H p s) Q ↔ Q (some (.int (hvy s a b))) (ob H p s) := by
  rw [c38]; unfold hvy
  by_cases e1 : a = -1
  · simp +decide only [w38_0, w38_1, w38_2, w38_5, w38_6, ↓reduceIte, e1]
  · by_cases e2 : b = -1
    · simp +decide only [w38_0, w38_1, w38_2, w38_7, w38_8, w38_9, w38_12, w38_13, ↓reduceIte, e1, e2]
    · have q1 := ha.resolve_left e1
      have q2 := hb.resolve_left e2
      have q := fun Q => t36 (lw := lw) (H := H) (p := p) (s := s) (Q := Q) q1 q2
      cases e3 : pc s a b <;> simp +decide only [w38_0, w38_1, w38_2, w38_7, w38_8, w38_9, w38_14, w38_15, w38_16, w38_17, w38_20, w38_23, w38_24, w38_25, w38_26, isO_put, Option.toList_some, List.cons_append, List.nil_append, true_and, and_true, ↓reduceIte, e1, e2, q, e3, bz]
theorem hvy_nv (ha : nv a) (hb : nv b) : nv (hvy s a b) := by
  unfold hvy; split
  · exact hb
  · split
    · exact ha
    · split
      · exact hb
      · exact ha
def cr (s : St) (e : Int32) : Bool := decide ((¬ sA s 1 e.toNatClampNeg < 0 ∧ sA s 1 e.toNatClampNeg < 32) ∧ (¬ sA s 2 e.toNatClampNeg < 0 ∧ sA s 2 e.toNatClampNeg < 32) ∧ sA s 8 (sA s 1 e.toNatClampNeg).toNatClampNeg ≠ sA s 8 (sA s 2 e.toNatClampNeg).toNatClampNeg)
theorem rn32 (h1 : ¬ a < 0) (h2 : a < 32) : 0 ≤ a.toInt ∧ a.toInt < 32 := by
  rw [lt32] at h1 h2; simp only [Int32.reduceToInt] at h1 h2; omega
theorem t34 (he : 0 ≤ e.toInt ∧ e.toInt < 128) : Cl (pj lw) 34 [.ref p, .int e] (ob H p s) Q ↔ Q (some (.int (bz (cr s e)))) (ob H p s) := by
  rw [c34]; unfold cr
  by_cases e1 : sA s 1 e.toNatClampNeg < 0
  · simp +decide only [w34_0, w34_1, w34_4, w34_5, w34_6, w34_7, w34_8, w34_11, w34_12, w34_13, w34_14, w34_15, w34_34, w34_35, isO_put, true_and, and_true, false_and, not_true_eq_false, ↓reduceIte, ne_eq, g1, g2, ai1, ae1, ai2, ae2, he, e1, bz]
  · by_cases e2 : sA s 1 e.toNatClampNeg < 32
    · by_cases e3 : sA s 2 e.toNatClampNeg < 0
      · simp +decide only [w34_0, w34_1, w34_4, w34_5, w34_6, w34_7, w34_8, w34_11, w34_12, w34_13, w34_14, w34_15, w34_18, w34_19, w34_21, w34_24, w34_25, w34_34, w34_35, isO_put, true_and, and_true, false_and, and_false, not_true_eq_false, not_false_eq_true, ↓reduceIte, ne_eq, g1, g2, ai1, ae1, ai2, ae2, he, e1, e2, e3, bz]
      · by_cases e4 : sA s 2 e.toNatClampNeg < 32
        · have q1 := rn32 e1 e2
          have q2 := rn32 e3 e4
          by_cases e5 : sA s 8 (sA s 1 e.toNatClampNeg).toNatClampNeg = sA s 8 (sA s 2 e.toNatClampNeg).toNatClampNeg <;>
          simp +decide only [w34_0, w34_1, w34_4, w34_5, w34_6, w34_7, w34_8, w34_11, w34_12, w34_13, w34_14, w34_15, w34_18, w34_19, w34_21, w34_24, w34_25, w34_28, w34_29, w34_31, w34_36, w34_37, w34_40, w34_41, w34_42, w34_43, w34_46, w34_47, w34_48, w34_51, w34_52, w34_55, w34_56, isO_put, true_and, and_true, and_false, or_true, not_true_eq_false, not_false_eq_true, ↓reduceIte, ne_eq, g1, g2, g8, ai1, ae1, ai2, ae2, ai8, ain8, ae8, ain8, he, e1, e2, e3, e4, q1, q2, e5, bz]
        · simp +decide only [w34_0, w34_1, w34_4, w34_5, w34_6, w34_7, w34_8, w34_11, w34_12, w34_13, w34_14, w34_15, w34_18, w34_19, w34_21, w34_24, w34_25, w34_28, w34_29, w34_31, w34_34, w34_35, isO_put, true_and, and_true, false_and, and_false, not_false_eq_true, ↓reduceIte, ne_eq, g1, g2, ai1, ae1, ai2, ae2, he, e1, e2, e3, e4, bz]
    · simp +decide only [w34_0, w34_1, w34_4, w34_5, w34_6, w34_7, w34_8, w34_11, w34_12, w34_13, w34_14, w34_15, w34_18, w34_19, w34_21, w34_34, w34_35, isO_put, true_and, and_true, false_and, and_false, not_false_eq_true, ↓reduceIte, ne_eq, g1, g2, ai1, ae1, ai2, ae2, he, e1, e2, bz]
def vs1 (s : St) (x ex e t : Int32) : St × Int32 :=
  if e = ex ∨ vi e = false then (s, t) else
  if oE s e x < 0 ∨ ¬ oE s e x < 32 ∨ ¬ sA s 8 (oE s e x).toNatClampNeg = 0 ∨ ¬ t < 32 then (s, t) else
  (uA (uA (uA (uA s 8 (oE s e x).toNatClampNeg 1) 9 (oE s e x).toNatClampNeg e) 10 (oE s e x).toNatClampNeg x) 11 t.toNatClampNeg (oE s e x), t + 1)
def vsF (x ex : Int32) : Nat → Nat → St × Int32 → St × Int32
  | _, 0, q => q
  | j, m + 1, q => vsF x ex (j + 1) m (vs1 q.1 x ex (sA q.1 6 (x.toNatClampNeg * 32 + j)) q.2)
theorem sAn {t t' i : Nat} {v : Int32} (h : t' ≠ t) : sA (uA s t i v) t' = sA s t' := by funext z; rw [sA_uA, if_neg (fun q => h q.1)]
def Sr (s s' : St) : Prop := (∀ x, sI s' x = sI s x) ∧ (∀ x, sJ s' x = sJ s x) ∧ (∀ t, t ≠ 8 → t ≠ 9 → t ≠ 10 → t ≠ 11 → sA s' t = sA s t) ∧ ∀ t i, sB s' t i = sB s t i
theorem Sr.refl : Sr s s := ⟨fun _ => rfl, fun _ => rfl, fun _ _ _ _ _ => rfl, fun _ _ => rfl⟩
theorem Sr.trans (h : Sr s s1) (g : Sr s1 s2) : Sr s s2 := ⟨fun x => (g.1 x).trans (h.1 x), fun x => (g.2.1 x).trans (h.2.1 x), fun t h1 h2 h3 h4 => (g.2.2.1 t h1 h2 h3 h4).trans (h.2.2.1 t h1 h2 h3 h4), fun t i => (g.2.2.2 t i).trans (h.2.2.2 t i)⟩
theorem Sr_uA {t i : Nat} {v : Int32} (ht : t = 8 ∨ t = 9 ∨ t = 10 ∨ t = 11) : Sr s (uA s t i v) := ⟨fun _ => sI_uA, fun _ => sJ_uA, fun t' h1 h2 h3 h4 => sAn (by omega), fun _ _ => sB_uA⟩
theorem vs1_Sr {ex : Int32} : Sr s (vs1 s x ex e t).1 := by
  unfold vs1; split
  · exact Sr.refl
  · split
    · exact Sr.refl
    · exact (Sr_uA (by simp)).trans ((Sr_uA (by simp)).trans ((Sr_uA (by simp)).trans (Sr_uA (by simp))))
theorem vsF_Sr {ex : Int32} : ∀ (m j : Nat) (q : St × Int32), Sr q.1 (vsF x ex j m q).1
  | 0, j, q => Sr.refl
  | m + 1, j, q => by unfold vsF; exact vs1_Sr.trans (vsF_Sr m (j + 1) _)
theorem vs1_t {ex : Int32} (h : 0 ≤ t.toInt ∧ t.toInt ≤ 32) : 0 ≤ (vs1 s x ex e t).2.toInt ∧ (vs1 s x ex e t).2.toInt ≤ 32 := by
  unfold vs1; split
  · exact h
  · split
    · exact h
    · rename_i q
      have q' : t < 32 := Decidable.byContradiction fun w => q (Or.inr (Or.inr (Or.inr w)))
      rw [lt32] at q'; simp only [Int32.reduceToInt] at q'
      have h5 : (t + 1).toInt = t.toInt + 1 := ia (by simp only [Int32.reduceToInt]; omega) (by simp only [Int32.reduceToInt]; omega)
      show 0 ≤ (t + 1).toInt ∧ (t + 1).toInt ≤ 32; omega
theorem vsF_t {ex : Int32} : ∀ (m j : Nat) (q : St × Int32), (0 ≤ q.2.toInt ∧ q.2.toInt ≤ 32) → 0 ≤ (vsF x ex j m q).2.toInt ∧ (vsF x ex j m q).2.toInt ≤ 32
  | 0, j, q, h => h
  | m + 1, j, q, h => by unfold vsF; exact vsF_t m (j + 1) _ (vs1_t h)
theorem DG.of (h : DG s) (g : Sr s s') : DG s' := by unfold DG; rw [g.2.2.1 7 (by decide) (by decide) (by decide) (by decide)]; exact h
set_option maxRecDepth 100000 in
theorem l31 {ex : Int32} (hx : 0 ≤ x.toInt ∧ x.toInt < 32) (m : Nat) : ∀ (i t : Int32) (s : St), DG s → i.toInt = (dN s x.toNatClampNeg : Int) - m → m ≤ dN s x.toNatClampNeg → (0 ≤ t.toInt ∧ t.toInt ≤ 32) →
    Q (some (.int (vsF x ex i.toNatClampNeg m (s, t)).2)) (ob H p (vsF x ex i.toNatClampNeg m (s, t)).1) →
    W (pj lw) 31 25 [.val (.ref p), .val (.int x), .val (.int ex), .val (.int c), .val (.int t), .val (.int (x * 32)), .val (.int i), .unset, .unset] [] k n (ob H p s) Q := by
  induction m with
  | zero =>
    intro i t s hd hi _ ht hq
    have g0 := hd x.toNatClampNeg (by rw [cln]; omega)
    have h2 : ¬ i < sA s 7 x.toNatClampNeg := by unfold dN at hi; rw [lt32]; omega
    rw [w31_25]; simp +decide only [w31_27, w31_28, w31_31, w31_32, w31_33, w31_157, w31_159, isO_put, true_and, and_true, ↓reduceIte, g7, ai7, ae7, h2, hx]
    exact hq
  | succ m ih =>
    intro i t s hd hi hm ht hq
    have g0 := hd x.toNatClampNeg (by rw [cln]; omega)
    have hi' := hi
    have hm' := hm
    unfold dN at hi' hm'
    have h2 : i < sA s 7 x.toNatClampNeg := by rw [lt32]; omega
    have h3 : i < 32 := by rw [lt32]; simp only [Int32.reduceToInt]; omega
    have h4 := adx hx (d := i) (by omega)
    have h5 : 0 ≤ (x * 32 + i).toInt ∧ (x * 32 + i).toInt < 1024 := by omega
    have h6 : (x * 32 + i).toNatClampNeg = x.toNatClampNeg * 32 + i.toNatClampNeg := h4.2.2
    have h8 : (i + 1).toInt = i.toInt + 1 := ia (by simp only [Int32.reduceToInt]; omega) (by simp only [Int32.reduceToInt]; omega)
    have h9 : (i + 1).toNatClampNeg = i.toNatClampNeg + 1 := by rw [cln, cln]; omega
    unfold vsF at hq
    have key := ih (i + 1) (vs1 s x ex (sA s 6 (x.toNatClampNeg * 32 + i.toNatClampNeg)) t).2 (vs1 s x ex (sA s 6 (x.toNatClampNeg * 32 + i.toNatClampNeg)) t).1 (hd.of vs1_Sr)
      (by have := vs1_Sr (s := s) (x := x) (ex := ex) (e := sA s 6 (x.toNatClampNeg * 32 + i.toNatClampNeg)) (t := t)
          unfold dN; rw [this.2.2.1 7 (by decide) (by decide) (by decide) (by decide)]; omega)
      (by have := vs1_Sr (s := s) (x := x) (ex := ex) (e := sA s 6 (x.toNatClampNeg * 32 + i.toNatClampNeg)) (t := t)
          unfold dN; rw [this.2.2.1 7 (by decide) (by decide) (by decide) (by decide)]; omega)
      (vs1_t ht) (by rw [h9]; exact hq)
    clear hq ih
    rw [w31_25]
    by_cases e1 : sA s 6 (x.toNatClampNeg * 32 + i.toNatClampNeg) = ex
    · unfold vs1 at key; rw [if_pos (Or.inl e1)] at key
      simp +decide only [w31_27, w31_28, w31_31, w31_32, w31_33, w31_36, w31_38, w31_40, w31_43, w31_44, w31_47, w31_49, w31_51, w31_52, w31_53, w31_55, w31_57, w31_58, w31_151, w31_154, isO_put, true_and, and_true, ↓reduceIte, g6, g7, ai6, ae6, ai7, ae7, h2, h3, hx, h5, h6, e1]
      refine W_fa 7 rfl ?_
      exact key
    · cases e2 : vi (sA s 6 (x.toNatClampNeg * 32 + i.toNatClampNeg)) with
      | false =>
        unfold vs1 at key; rw [if_pos (Or.inr e2)] at key
        simp +decide only [w31_27, w31_28, w31_31, w31_32, w31_33, w31_36, w31_38, w31_40, w31_43, w31_44, w31_47, w31_49, w31_51, w31_52, w31_53, w31_55, w31_57, w31_58, w31_61, w31_62, w31_64, w31_67, w31_70, w31_151, w31_154, isO_put, Option.toList_some, List.cons_append, List.nil_append, true_and, and_true, ↓reduceIte, g6, g7, ai6, ae6, ai7, ae7, h2, h3, hx, h5, h6, e1, t40, e2, bz]
        refine W_fa 7 rfl ?_
        exact key
      | true =>
        have r := vi_rg e2
        have q := fun Q => t35 (lw := lw) (H := H) (p := p) (s := s) (x := x) (Q := Q) r
        unfold vs1 at key; rw [if_neg (by rw [e2]; simp [e1])] at key
        generalize he : sA s 6 (x.toNatClampNeg * 32 + i.toNatClampNeg) = e at *
        by_cases e3 : oE s e x < 0
        · rw [if_pos (Or.inl e3)] at key
          simp +decide only [w31_27, w31_28, w31_31, w31_32, w31_33, w31_36, w31_38, w31_40, w31_43, w31_44, w31_47, w31_49, w31_51, w31_52, w31_53, w31_55, w31_57, w31_58, w31_61, w31_62, w31_64, w31_67, w31_73, w31_74, w31_76, w31_77, w31_80, w31_82, w31_84, w31_151, w31_154, isO_put, Option.toList_some, List.cons_append, List.nil_append, true_and, and_true, ↓reduceIte, g6, g7, ai6, ae6, ai7, ae7, h2, h3, hx, h5, h6, he, e1, t40, e2, bz, q, e3]
          refine W_fa 7 rfl ?_
          exact key
        · by_cases e4 : oE s e x < 32
          · have r2 := rn32 e3 e4
            by_cases e5 : sA s 8 (oE s e x).toNatClampNeg = 0
            · by_cases e6 : t < 32
              · rw [if_neg (by simp [e3, e4, e5, e6])] at key
                have r3 : 0 ≤ t.toInt ∧ t.toInt < 32 := by rw [lt32] at e6; simp only [Int32.reduceToInt] at e6; omega
                simp +decide only [w31_27, w31_28, w31_31, w31_32, w31_33, w31_36, w31_38, w31_40, w31_43, w31_44, w31_47, w31_49, w31_51, w31_52, w31_53, w31_55, w31_57, w31_58, w31_61, w31_62, w31_64, w31_67, w31_73, w31_74, w31_76, w31_77, w31_80, w31_82, w31_84, w31_87, w31_89, w31_91, w31_94, w31_95, w31_98, w31_100, w31_101, w31_104, w31_106, w31_108, w31_114, w31_115, w31_118, w31_120, w31_121, w31_122, w31_123, w31_126, w31_128, w31_130, w31_131, w31_132, w31_135, w31_137, w31_138, w31_139, w31_140, w31_143, w31_145, w31_147, w31_148, w31_151, w31_154, isO_put, Option.toList_some, List.cons_append, List.nil_append, true_and, and_true, or_true, ↓reduceIte, g6, g7, g8, g9, g10, g11, ai6, ae6, ai7, ae7, ai8, aw8, ain8, awn8, ae8, as8, aw9, as9, aw10, as10, aw11, as11, ain8, awn8, h2, h3, hx, h5, h6, he, e1, t40, e2, bz, q, e3, e4, r2, e5, e6, r3]
                refine W_fa 7 rfl ?_
                exact key
              · rw [if_pos (Or.inr (Or.inr (Or.inr e6)))] at key
                simp +decide only [w31_27, w31_28, w31_31, w31_32, w31_33, w31_36, w31_38, w31_40, w31_43, w31_44, w31_47, w31_49, w31_51, w31_52, w31_53, w31_55, w31_57, w31_58, w31_61, w31_62, w31_64, w31_67, w31_73, w31_74, w31_76, w31_77, w31_80, w31_82, w31_84, w31_87, w31_89, w31_91, w31_94, w31_95, w31_98, w31_100, w31_101, w31_104, w31_106, w31_108, w31_111, w31_151, w31_154, isO_put, Option.toList_some, List.cons_append, List.nil_append, true_and, and_true, or_true, ↓reduceIte, g6, g7, g8, ai6, ae6, ai7, ae7, ai8, ain8, ae8, ain8, h2, h3, hx, h5, h6, he, e1, t40, e2, bz, q, e3, e4, r2, e5, e6]
                refine W_fa 7 rfl ?_
                exact key
            · rw [if_pos (Or.inr (Or.inr (Or.inl e5)))] at key
              simp +decide only [w31_27, w31_28, w31_31, w31_32, w31_33, w31_36, w31_38, w31_40, w31_43, w31_44, w31_47, w31_49, w31_51, w31_52, w31_53, w31_55, w31_57, w31_58, w31_61, w31_62, w31_64, w31_67, w31_73, w31_74, w31_76, w31_77, w31_80, w31_82, w31_84, w31_87, w31_89, w31_91, w31_94, w31_95, w31_98, w31_100, w31_101, w31_151, w31_154, isO_put, Option.toList_some, List.cons_append, List.nil_append, true_and, and_true, or_true, ↓reduceIte, g6, g7, g8, ai6, ae6, ai7, ae7, ai8, ain8, ae8, ain8, h2, h3, hx, h5, h6, he, e1, t40, e2, bz, q, e3, e4, r2, e5]
              refine W_fa 7 rfl ?_
              exact key
          · rw [if_pos (Or.inr (Or.inl e4))] at key
            simp +decide only [w31_27, w31_28, w31_31, w31_32, w31_33, w31_36, w31_38, w31_40, w31_43, w31_44, w31_47, w31_49, w31_51, w31_52, w31_53, w31_55, w31_57, w31_58, w31_61, w31_62, w31_64, w31_67, w31_73, w31_74, w31_76, w31_77, w31_80, w31_82, w31_84, w31_87, w31_89, w31_91, w31_151, w31_154, isO_put, Option.toList_some, List.cons_append, List.nil_append, true_and, and_true, ↓reduceIte, g6, g7, ai6, ae6, ai7, ae7, h2, h3, hx, h5, h6, he, e1, t40, e2, bz, q, e3, e4]
            refine W_fa 7 rfl ?_
            exact key
def vis (q : St × Int32) (x ex : Int32) : St × Int32 := if x < 0 ∨ ¬ x < 32 then q else vsF x ex 0 (dN q.1 x.toNatClampNeg) q
theorem t31 {ex : Int32} (hd : DG s) (ht : 0 ≤ t.toInt ∧ t.toInt ≤ 32) (hq : Q (some (.int (vis (s, t) x ex).2)) (ob H p (vis (s, t) x ex).1)) : Cl (pj lw) 31 [.ref p, .int x, .int ex, .int t] (ob H p s) Q := by
  rw [c31]
  unfold vis at hq
  by_cases e1 : x < 0
  · rw [if_pos (Or.inl e1)] at hq
    simp +decide only [w31_0, w31_1, w31_3, w31_4, w31_13, w31_15, ↓reduceIte, e1]; exact hq
  · by_cases e2 : x < 32
    · rw [if_neg (by simp [e1, e2])] at hq
      simp +decide only [w31_0, w31_1, w31_3, w31_4, w31_7, w31_8, w31_10, w31_16, w31_17, w31_19, w31_20, w31_22, w31_23, ↓reduceIte, e1, e2]
      exact l31 (rn32 e1 e2) _ 0 t s hd (by simp only [Int32.reduceToInt]; omega) (Nat.le_refl _) ht hq
    · rw [if_pos (Or.inr e2)] at hq
      simp +decide only [w31_0, w31_1, w31_3, w31_4, w31_7, w31_8, w31_10, w31_13, w31_15, ↓reduceIte, e1, e2]; exact hq
theorem vis_Sr {ex : Int32} {q : St × Int32} : Sr q.1 (vis q x ex).1 := by
  unfold vis; split
  · exact Sr.refl
  · exact vsF_Sr _ _ _
theorem vis_t {ex : Int32} {q : St × Int32} (h : 0 ≤ q.2.toInt ∧ q.2.toInt ≤ 32) : 0 ≤ (vis q x ex).2.toInt ∧ (vis q x ex).2.toInt ≤ 32 := by
  unfold vis; split
  · exact h
  · exact vsF_t _ _ _ h
def exF (ex : Int32) : Nat → Nat → St × Int32 → St × Int32
  | _, 0, q => q
  | h, m + 1, q => if (h : Int) < q.2.toInt then exF ex (h + 1) m (vis q (sA q.1 11 h) ex) else q
theorem exF_Sr {ex : Int32} : ∀ (m h : Nat) (q : St × Int32), Sr q.1 (exF ex h m q).1
  | 0, h, q => Sr.refl
  | m + 1, h, q => by
    unfold exF; split
    · exact vis_Sr.trans (exF_Sr m (h + 1) _)
    · exact Sr.refl
theorem l30 {ex : Int32} (m : Nat) : ∀ (i t : Int32) (s : St), DG s → i.toInt = 32 - m → m ≤ 32 → (0 ≤ t.toInt ∧ t.toInt ≤ 32) →
    Q (some (.int (exF ex i.toNatClampNeg m (s, t)).2)) (ob H p (exF ex i.toNatClampNeg m (s, t)).1) →
    W (pj lw) 30 33 [.val (.ref p), .val (.int a), .val (.int ex), .val (.int t), .val (.int i)] [] k n (ob H p s) Q := by
  induction m with
  | zero =>
    intro i t s hd hi _ ht hq
    have h1 : ¬ i < t := by rw [lt32]; omega
    rw [w30_33]; simp +decide only [w30_35, w30_36, w30_66, w30_67, ↓reduceIte, h1]
    exact hq
  | succ m ih =>
    intro i t s hd hi hm ht hq
    unfold exF at hq
    by_cases e1 : i < t
    · have e2 := e1
      rw [lt32] at e2
      rw [if_pos (by show ((i.toNatClampNeg : Nat) : Int) < t.toInt; rw [cln]; omega)] at hq
      have h3 : i < 32 := by rw [lt32]; simp only [Int32.reduceToInt]; omega
      have h4 : 0 ≤ i.toInt ∧ i.toInt < 32 := by omega
      have h8 : (i + 1).toInt = i.toInt + 1 := ia (by simp only [Int32.reduceToInt]; omega) (by simp only [Int32.reduceToInt]; omega)
      have h9 : (i + 1).toNatClampNeg = i.toNatClampNeg + 1 := by rw [cln, cln]; omega
      rw [w30_33]; simp +decide only [w30_35, w30_36, w30_39, w30_41, w30_43, w30_46, w30_47, w30_48, w30_51, w30_53, w30_54, w30_55, w30_56, isO_put, true_and, and_true, ↓reduceIte, g11, ai11, ae11, e1, h3, h4]
      refine t31 hd ht ?_
      simp +decide only [w30_59i, w30_60, w30_63, Option.toList_some, List.cons_append, List.nil_append]
      exact ih (i + 1) _ _ (hd.of (vis_Sr (q := (s, t)))) (by omega) (by omega) (vis_t (q := (s, t)) ht) (by rw [h9]; exact hq)
    · have e2 := e1
      rw [lt32] at e2
      rw [if_neg (by show ¬ ((i.toNatClampNeg : Nat) : Int) < t.toInt; rw [cln]; omega)] at hq
      rw [w30_33]; simp +decide only [w30_35, w30_36, w30_66, w30_67, ↓reduceIte, e1]
      exact hq
def exq (s : St) (a ex : Int32) : St × Int32 := exF ex 0 32 (uA (uA (F2 s 0) 8 a.toNatClampNeg 1) 11 0 a, 1)
theorem F2_Sr : Sr s (F2 s 0) := by
  unfold F2
  refine ⟨fun x => by simp only [sI_fA], fun x => by simp only [sJ_fA], fun t h1 h2 h3 h4 => ?_, fun t i => by simp only [sB_fA]⟩
  funext i; simp only [sA_fA, h1, h2, h3, h4, false_and, if_false]
theorem exq_Sr {ex : Int32} : Sr s (exq s a ex).1 := by
  unfold exq
  exact F2_Sr.trans ((Sr_uA (by simp)).trans ((Sr_uA (by simp)).trans (exF_Sr _ _ (_, _))))
theorem t30 {ex : Int32} (hd : DG s) (ha : vv s a = true) (hq : Q (some (.int (exq s a ex).2)) (ob H p (exq s a ex).1)) : Cl (pj lw) 30 [.ref p, .int a, .int ex] (ob H p s) Q := by
  have r := vv_rg ha
  have r2 : 0 ≤ a.toInt ∧ a.toInt < 32 := by omega
  have hv : vv (F2 s 0) a = true := by unfold vv; rw [F2_Sr.1]; exact ha
  rw [c30]
  simp +decide only [w30_0, w30_1, w30_4, w30_5, w30_6, w30_9, w30_14, w30_15, w30_18, w30_19, w30_20, w30_21, w30_22, w30_25, w30_26, w30_27, w30_28, w30_29, w30_30, w30_31, isO_put, Option.toList_some, Option.toList_none, List.cons_append, List.nil_append, true_and, and_true, or_true, ↓reduceIte, Nat.reduceAdd, Nat.reduceLeDiff, Int32.reduceAdd, Int32.reduceToNatClampNeg, Int64.reduceAdd, Nat.add_zero, g8, g11, aw8, awn8, as8, aw11, as11, awn8, t29, t39, hv, bz, r2]
  exact l30 32 0 1 _ (hd.of (F2_Sr.trans ((Sr_uA (by simp)).trans (Sr_uA (by simp))))) (by decide) (by decide) (by decide) hq
end C

section D
variable {lw : LW} {H : AH} {p j : Nat} {s s' s1 s2 : St} {Q : Option Value → AH → Prop} {a b c d e x y t : Int32} {k n : Nat}
def PE (s : St) : Prop := ∀ y, y < 32 → nv (sA s 9 y)
def hvF (s : St) : Nat → Int32 → Int32 → Int32
  | 0, best, _ => best
  | m + 1, best, cur => if cur < 0 ∨ ¬ cur < 32 then best else if sA s 9 cur.toNatClampNeg = -1 then best else hvF s m (hvy s best (sA s 9 cur.toNatClampNeg)) (sA s 10 cur.toNatClampNeg)
theorem l32 (hp : PE s) (m : Nat) : ∀ (i best cur : Int32), i.toInt = 32 - m → m ≤ 32 → nv best → Q (some (.int (hvF s m best cur))) (ob H p s) →
    W (pj lw) 32 7 [.val (.ref p), .val (.int a), .val (.int best), .val (.int cur), .val (.int i), .unset] [] k n (ob H p s) Q := by
  induction m with
  | zero =>
    intro i best cur hi _ hb hq
    have h1 : ¬ i < 32 := by rw [lt32]; simp only [Int32.reduceToInt]; omega
    rw [w32_7]; simp +decide only [w32_9, w32_11, w32_65, w32_66, ↓reduceIte, h1]
    exact hq
  | succ m ih =>
    intro i best cur hi hm hb hq
    have h1 : i < 32 := by rw [lt32]; simp only [Int32.reduceToInt]; omega
    have h8 : (i + 1).toInt = i.toInt + 1 := ia (by simp only [Int32.reduceToInt]; omega) (by simp only [Int32.reduceToInt]; omega)
    unfold hvF at hq
    by_cases e1 : cur < 0
    · rw [if_pos (Or.inl e1)] at hq
      rw [w32_7]; simp +decide only [w32_9, w32_11, w32_14, w32_15, w32_65, w32_66, ↓reduceIte, h1, e1]; exact hq
    · by_cases e2 : cur < 32
      · have r := rn32 e1 e2
        have hv := hp cur.toNatClampNeg (by rw [cln]; omega)
        rw [if_neg (by simp [e1, e2])] at hq
        by_cases e3 : sA s 9 cur.toNatClampNeg = -1
        · rw [if_pos e3] at hq
          rw [w32_7]; simp +decide only [w32_9, w32_11, w32_14, w32_15, w32_18, w32_19, w32_21, w32_27, w32_28, w32_31, w32_32, w32_33, w32_35, w32_37, w32_38, w32_41, w32_65, w32_66, isO_put, true_and, and_true, ↓reduceIte, g9, ai9, ae9, h1, e1, e2, r, e3]; exact hq
        · rw [if_neg e3] at hq
          have q := fun Q => t38 (lw := lw) (H := H) (p := p) (s := s) (Q := Q) hb hv
          rw [w32_7]; simp +decide only [w32_9, w32_11, w32_14, w32_15, w32_18, w32_19, w32_21, w32_27, w32_28, w32_31, w32_32, w32_33, w32_35, w32_37, w32_38, w32_44, w32_45, w32_46, w32_48, w32_51i, w32_52, w32_53, w32_56, w32_57, w32_58i, w32_59, w32_62, isO_put, Option.toList_some, List.cons_append, List.nil_append, true_and, and_true, ↓reduceIte, g9, g10, ai9, ae9, ai10, ae10, h1, e1, e2, r, e3, q]
          refine W_fa 5 rfl ?_
          exact ih (i + 1) _ _ (by omega) (by omega) (hvy_nv hb hv) hq
      · rw [if_pos (Or.inr e2)] at hq
        rw [w32_7]; simp +decide only [w32_9, w32_11, w32_14, w32_15, w32_18, w32_19, w32_21, w32_24, w32_65, w32_66, ↓reduceIte, h1, e1, e2]; exact hq
theorem t32 (hp : PE s) (hq : Q (some (.int (hvF s 32 (-1) a))) (ob H p s)) : Cl (pj lw) 32 [.ref p, .int a] (ob H p s) Q := by
  rw [c32]; simp +decide only [w32_0, w32_1, w32_2, w32_3, w32_4, w32_5]
  exact l32 hp 32 0 (-1) a (by decide) (by decide) (Or.inl rfl) hq
def lcB (s : St) (j : Nat) : Bool := decide (¬ sA s 4 j = 0 ∧ sA s 5 j = 0) && cr s (Int32.ofNat j)
def lcF (s : St) : Nat → Nat → Int32 → Int32
  | _, 0, best => best
  | j, m + 1, best => lcF s (j + 1) m (if lcB s j = true then lgt s best (Int32.ofNat j) else best)
theorem l33 (m : Nat) : ∀ (i best : Int32), i.toInt = 128 - m → m ≤ 128 → nv best →
    (W (pj lw) 33 4 [.val (.ref p), .val (.int best), .val (.int i)] [] k n (ob H p s) Q ↔ Q (some (.int (lcF s i.toNatClampNeg m best))) (ob H p s)) := by
  induction m with
  | zero =>
    intro i best hi _ hb
    have h1 : ¬ i < 128 := by rw [lt32]; simp only [Int32.reduceToInt]; omega
    rw [w33_4]; simp +decide only [w33_5, w33_8, w33_50, w33_51, ↓reduceIte, h1, lcF]
  | succ m ih =>
    intro i best hi hm hb
    have h1 : i < 128 := by rw [lt32]; simp only [Int32.reduceToInt]; omega
    have r : 0 ≤ i.toInt ∧ i.toInt < 128 := by omega
    have h8 : (i + 1).toInt = i.toInt + 1 := ia (by simp only [Int32.reduceToInt]; omega) (by simp only [Int32.reduceToInt]; omega)
    have h9 : (i + 1).toNatClampNeg = i.toNatClampNeg + 1 := by rw [cln, cln]; omega
    have hI : Int32.ofNat i.toNatClampNeg = i := by rw [eq32, Int32.toInt_ofNat_of_lt (by rw [cln]; omega), cln]; omega
    unfold lcF lcB
    rw [hI, w33_4]
    by_cases e1 : sA s 4 i.toNatClampNeg = 0
    · simp +decide only [w33_5, w33_8, w33_11, w33_12, w33_15, w33_16, w33_17, w33_44, w33_47, isO_put, true_and, and_true, false_and, or_true, not_true_eq_false, ↓reduceIte, g4, ai4, ain4, ae4, ain4, h1, r, e1, Bool.false_and, decide_false]
      rw [ih (i + 1) best (by omega) (by omega) hb, h9]
    · by_cases e2 : sA s 5 i.toNatClampNeg = 0
      · have q := fun Q => t34 (lw := lw) (H := H) (p := p) (s := s) (Q := Q) r
        cases e3 : cr s i with
        | false =>
          simp +decide only [w33_5, w33_8, w33_11, w33_12, w33_15, w33_16, w33_17, w33_20, w33_21, w33_24, w33_25, w33_26, w33_29, w33_30, w33_31, w33_34, w33_44, w33_47, isO_put, Option.toList_some, List.cons_append, List.nil_append, true_and, and_true, and_false, or_true, not_false_eq_true, ↓reduceIte, g4, g5, ai4, ain4, ae4, ai5, ain5, ae5, ain4, ain5, h1, r, e1, e2, q, e3, bz, Bool.and_false]
          rw [ih (i + 1) best (by omega) (by omega) hb, h9]
        | true =>
          have q2 := fun Q => t37 (lw := lw) (H := H) (p := p) (s := s) (Q := Q) hb (Or.inr r)
          simp +decide only [w33_5, w33_8, w33_11, w33_12, w33_15, w33_16, w33_17, w33_20, w33_21, w33_24, w33_25, w33_26, w33_29, w33_30, w33_31, w33_34, w33_37, w33_38, w33_39, w33_40, w33_43i, w33_44, w33_47, isO_put, Option.toList_some, List.cons_append, List.nil_append, true_and, and_true, or_true, not_false_eq_true, ↓reduceIte, g4, g5, ai4, ain4, ae4, ai5, ain5, ae5, ain4, ain5, h1, r, e1, e2, q, e3, bz, q2, Bool.and_true]
          rw [ih (i + 1) _ (by omega) (by omega) (lgt_nv hb (Or.inr r)), h9]
      · simp +decide only [w33_5, w33_8, w33_11, w33_12, w33_15, w33_16, w33_17, w33_20, w33_21, w33_24, w33_25, w33_26, w33_44, w33_47, isO_put, true_and, and_true, false_and, and_false, or_true, not_false_eq_true, ↓reduceIte, g4, g5, ai4, ain4, ae4, ai5, ain5, ae5, ain4, ain5, h1, r, e1, e2, Bool.false_and, decide_false]
        rw [ih (i + 1) best (by omega) (by omega) hb, h9]
theorem t33 : Cl (pj lw) 33 [.ref p] (ob H p s) Q ↔ Q (some (.int (lcF s 0 128 (-1)))) (ob H p s) := by
  rw [c33]; simp +decide only [w33_0, w33_1, w33_2, w33_3]
  exact l33 128 0 (-1) (by decide) (by decide) (Or.inl rfl)
def EN (s : St) : Prop := ∀ e, e < 128 → (0 ≤ (sA s 1 e).toInt ∧ (sA s 1 e).toInt < (sI s 0).toInt) ∧ (0 ≤ (sA s 2 e).toInt ∧ (sA s 2 e).toInt < (sI s 0).toInt)
def nOk (s : St) : Prop := 2 ≤ (sI s 0).toInt ∧ (sI s 0).toInt ≤ 32
theorem aA_DG (h : DG s) : DG (aA s x e) := by
  unfold aA; split
  · intro z hz
    have h0 := h z hz
    rw [sA_uA]
    by_cases q : z = x.toNatClampNeg
    · subst q
      rw [if_pos ⟨rfl, rfl⟩, ia (by simp only [Int32.reduceToInt]; omega) (by simp only [Int32.reduceToInt]; omega)]; simp only [Int32.reduceToInt]; omega
    · rw [if_neg (fun w => q w.2), sA_uA, if_neg (by simp)]; exact h0
  · exact h
def jT (s : St) (e : Int32) : St := if vi e = true ∧ sA s 5 e.toNatClampNeg = 0 then
  aA (aA (uJ (uI (uA s 5 e.toNatClampNeg 1) 13 (sI s 13 + 1)) 14 (sJ s 14 + (sA s 3 e.toNatClampNeg).toInt64)) (sA s 1 e.toNatClampNeg) e) (sA s 2 e.toNatClampNeg) e else s
theorem aA_A {t : Nat} (h6 : t ≠ 6) (h7 : t ≠ 7) : sA (aA s x e) t = sA s t := by
  unfold aA; split
  · rw [sAn h7, sAn h6]
  · rfl
theorem aA_I : sI (aA s x e) k = sI s k := by unfold aA; split; simp only [sI_uA]; rfl
theorem aA_J : sJ (aA s x e) k = sJ s k := by unfold aA; split; simp only [sJ_uA]; rfl
theorem t25 (hd : DG s) (hE : EN s) (hn : nOk s) : Cl (pj lw) 25 [.ref p, .int e] (ob H p s) Q ↔ Q none (ob H p (jT s e)) := by
  rw [c25]; unfold jT
  cases e1 : vi e with
  | false => simp +decide only [w25_0, w25_1, w25_2, w25_5, w25_17, isO_put, Option.toList_some, List.cons_append, List.nil_append, true_and, and_true, false_and, ↓reduceIte, t40, e1, bz]
  | true =>
    have r := vi_rg e1
    have g := hE e.toNatClampNeg (by rw [cln]; omega)
    have hn' := hn.2
    by_cases e2 : sA s 5 e.toNatClampNeg = 0
    · have hd1 : DG (uJ (uI (uA s 5 e.toNatClampNeg 1) 13 (sI s 13 + 1)) 14 (sJ s 14 + (sA s 3 e.toNatClampNeg).toInt64)) := by
        intro z hz; have := hd z hz; simpa only [sA_uJ, sA_uI, sA_uA, Nat.reduceEqDiff, false_and, if_false] using this
      have q1 := fun Q => t27 (lw := lw) (H := H) (p := p) (Q := Q) (x := sA s 1 e.toNatClampNeg) (e := e) (by omega) hd1
      have q2 := fun Q => t27 (lw := lw) (H := H) (p := p) (Q := Q) (x := sA s 2 e.toNatClampNeg) (e := e) (by omega) (aA_DG (x := sA s 1 e.toNatClampNeg) (e := e) hd1)
      have q3 : sA (aA (uJ (uI (uA s 5 e.toNatClampNeg 1) 13 (sI s 13 + 1)) 14 (sJ s 14 + (sA s 3 e.toNatClampNeg).toInt64)) (sA s 1 e.toNatClampNeg) e) 2 = sA s 2 := by
        rw [aA_A (by decide) (by decide)]; funext z; simp only [sA_uJ, sA_uI, sA_uA, Nat.reduceEqDiff, false_and, if_false]
      simp +decide only [w25_0, w25_1, w25_2, w25_5, w25_8, w25_9, w25_12, w25_13, w25_14, w25_18, w25_19, w25_22, w25_23, w25_24, w25_25, w25_26, w25_27, w25_30, w25_31, w25_32, w25_35, w25_36, w25_37, w25_40, w25_41, w25_44, w25_45, w25_46, w25_47, w25_48, w25_51, w25_52, w25_53, w25_56, w25_57, w25_58, w25_59, w25_62, w25_63, w25_64, w25_67, w25_68, w25_69, w25_70, w25_73, isO_put, isOw_put, okv_int, okv_long, sI_uA, sJ_uI, sJ_uA, sA_uI, sA_uJ, sA_uA, Option.toList_some, Option.toList_none, List.cons_append, List.nil_append, true_and, and_true, or_true, ↓reduceIte, g1, g2, g3, g5, g13, s13, g14, s14, ai1, ae1, ai2, ae2, ai3, ae3, ai5, aw5, ain5, awn5, ae5, as5, ain5, awn5, t40, e1, bz, r, e2, q1, q3, q2]
    · simp +decide only [w25_0, w25_1, w25_2, w25_5, w25_8, w25_9, w25_12, w25_13, w25_14, w25_17, isO_put, Option.toList_some, List.cons_append, List.nil_append, true_and, and_true, and_false, or_true, ↓reduceIte, g5, ai5, ain5, ae5, ain5, t40, e1, bz, r, e2]
theorem aR_DG {κ : Nat} (h : DG s) (hk : κ < dN s x.toNatClampNeg) : DG (aR s x κ) := by
  intro z hz
  have h0 := h z hz
  unfold aR; rw [sA_uA, if_neg (by simp), sA_uA]
  by_cases q : z = x.toNatClampNeg
  · subst q
    unfold dN at hk
    rw [if_pos ⟨rfl, rfl⟩, isb (by simp only [Int32.reduceToInt]; omega) (by simp only [Int32.reduceToInt]; omega)]; simp only [Int32.reduceToInt]; omega
  · rw [if_neg (fun w => q w.2)]; exact h0
theorem rA_DG (h : DG s) : DG (rA s x e) := by
  unfold rA
  cases g : fnd s x.toNatClampNeg e 0 (dN s x.toNatClampNeg) with
  | none => exact h
  | some κ => exact aR_DG h (by have := (fnd_some _ _ g).1; omega)
theorem rA_A {t : Nat} (h6 : t ≠ 6) (h7 : t ≠ 7) : sA (rA s x e) t = sA s t := by
  unfold rA; split
  · rfl
  · unfold aR; rw [sAn h6, sAn h7]
theorem rA_I : sI (rA s x e) k = sI s k := by unfold rA; split; rfl; unfold aR; simp only [sI_uA]
theorem rA_J : sJ (rA s x e) k = sJ s k := by unfold rA; split; rfl; unfold aR; simp only [sJ_uA]
def lT (s : St) (e : Int32) : St := if vi e = true ∧ ¬ sA s 5 e.toNatClampNeg = 0 then
  rA (rA (uJ (uI (uA s 5 e.toNatClampNeg 0) 13 (sI s 13 - 1)) 14 (sJ s 14 - (sA s 3 e.toNatClampNeg).toInt64)) (sA s 1 e.toNatClampNeg) e) (sA s 2 e.toNatClampNeg) e else s
theorem t26 (hd : DG s) (hE : EN s) (hn : nOk s) : Cl (pj lw) 26 [.ref p, .int e] (ob H p s) Q ↔ Q none (ob H p (lT s e)) := by
  rw [c26]; unfold lT
  cases e1 : vi e with
  | false => simp +decide only [w26_0, w26_1, w26_2, w26_5, w26_17, isO_put, Option.toList_some, List.cons_append, List.nil_append, true_and, and_true, false_and, ↓reduceIte, t40, e1, bz]
  | true =>
    have r := vi_rg e1
    have g := hE e.toNatClampNeg (by rw [cln]; omega)
    have hn' := hn.2
    by_cases e2 : sA s 5 e.toNatClampNeg = 0
    · simp +decide only [w26_0, w26_1, w26_2, w26_5, w26_8, w26_9, w26_12, w26_13, w26_14, w26_17, isO_put, Option.toList_some, List.cons_append, List.nil_append, true_and, and_true, and_false, or_true, not_true_eq_false, ↓reduceIte, g5, ai5, ain5, ae5, ain5, t40, e1, bz, r, e2]
    · have hd1 : DG (uJ (uI (uA s 5 e.toNatClampNeg 0) 13 (sI s 13 - 1)) 14 (sJ s 14 - (sA s 3 e.toNatClampNeg).toInt64)) := by
        intro z hz; have := hd z hz; simpa only [sA_uJ, sA_uI, sA_uA, Nat.reduceEqDiff, false_and, if_false] using this
      have q1 := fun Q => t28 (lw := lw) (H := H) (p := p) (Q := Q) (x := sA s 1 e.toNatClampNeg) (e := e) (by omega) hd1
      have q2 := fun Q => t28 (lw := lw) (H := H) (p := p) (Q := Q) (x := sA s 2 e.toNatClampNeg) (e := e) (by omega) (rA_DG (x := sA s 1 e.toNatClampNeg) (e := e) hd1)
      have q3 : sA (rA (uJ (uI (uA s 5 e.toNatClampNeg 0) 13 (sI s 13 - 1)) 14 (sJ s 14 - (sA s 3 e.toNatClampNeg).toInt64)) (sA s 1 e.toNatClampNeg) e) 2 = sA s 2 := by
        rw [rA_A (by decide) (by decide)]; funext z; simp only [sA_uJ, sA_uI, sA_uA, Nat.reduceEqDiff, false_and, if_false]
      simp +decide only [w26_0, w26_1, w26_2, w26_5, w26_8, w26_9, w26_12, w26_13, w26_14, w26_18, w26_19, w26_22, w26_23, w26_24, w26_25, w26_26, w26_27, w26_30, w26_31, w26_32, w26_35, w26_36, w26_37, w26_40, w26_41, w26_44, w26_45, w26_46, w26_47, w26_48, w26_51, w26_52, w26_53, w26_56, w26_57, w26_58, w26_59, w26_62, w26_63, w26_64, w26_67, w26_68, w26_69, w26_70, w26_73, isO_put, isOw_put, okv_int, okv_long, sI_uA, sJ_uI, sJ_uA, sA_uI, sA_uJ, sA_uA, Option.toList_some, Option.toList_none, List.cons_append, List.nil_append, true_and, and_true, or_true, not_false_eq_true, ↓reduceIte, g1, g2, g3, g5, g13, s13, g14, s14, ai1, ae1, ai2, ae2, ai3, ae3, ai5, aw5, ain5, awn5, ae5, as5, ain5, awn5, t40, e1, bz, r, e2, q1, q3, q2]
theorem jT_A {t : Nat} (h5 : t ≠ 5) (h6 : t ≠ 6) (h7 : t ≠ 7) : sA (jT s e) t = sA s t := by
  unfold jT; split
  · rw [aA_A h6 h7, aA_A h6 h7]; funext z; rw [sA_uJ, sA_uI, sA_uA, if_neg (fun w => h5 w.1)]
  · rfl
theorem lT_A {t : Nat} (h5 : t ≠ 5) (h6 : t ≠ 6) (h7 : t ≠ 7) : sA (lT s e) t = sA s t := by
  unfold lT; split
  · rw [rA_A h6 h7, rA_A h6 h7]; funext z; rw [sA_uJ, sA_uI, sA_uA, if_neg (fun w => h5 w.1)]
  · rfl
theorem jT_I (h : k ≠ 13) : sI (jT s e) k = sI s k := by unfold jT; split; rw [aA_I, aA_I, sI_uJ, sI_uI, if_neg h, sI_uA]; rfl
theorem lT_I (h : k ≠ 13) : sI (lT s e) k = sI s k := by unfold lT; split; rw [rA_I, rA_I, sI_uJ, sI_uI, if_neg h, sI_uA]; rfl
theorem jT_DG (h : DG s) : DG (jT s e) := by
  unfold jT; split
  · refine aA_DG (aA_DG ?_)
    intro z hz; have := h z hz; simpa only [sA_uJ, sA_uI, sA_uA, Nat.reduceEqDiff, false_and, if_false] using this
  · exact h
theorem lT_DG (h : DG s) : DG (lT s e) := by
  unfold lT; split
  · refine rA_DG (rA_DG ?_)
    intro z hz; have := h z hz; simpa only [sA_uJ, sA_uI, sA_uA, Nat.reduceEqDiff, false_and, if_false] using this
  · exact h
theorem EN.of (h : EN s) (h0 : sI s' 0 = sI s 0) (h1 : sA s' 1 = sA s 1) (h2 : sA s' 2 = sA s 2) : EN s' := by unfold EN; rw [h0, h1, h2]; exact h
theorem nOk.of (h : nOk s) (h0 : sI s' 0 = sI s 0) : nOk s' := by unfold nOk; rw [h0]; exact h
theorem jT_EN (h : EN s) : EN (jT s e) := h.of (jT_I (by decide)) (jT_A (by decide) (by decide) (by decide)) (jT_A (by decide) (by decide) (by decide))
theorem lT_EN (h : EN s) : EN (lT s e) := h.of (lT_I (by decide)) (lT_A (by decide) (by decide) (by decide)) (lT_A (by decide) (by decide) (by decide))
theorem jT_nOk (h : nOk s) : nOk (jT s e) := h.of (jT_I (by decide))
theorem lT_nOk (h : nOk s) : nOk (lT s e) := h.of (lT_I (by decide))
theorem Sr.EN (g : Sr s s') (h : EN s) : EN s' := h.of (g.1 0) (g.2.2.1 _ (by decide) (by decide) (by decide) (by decide)) (g.2.2.1 _ (by decide) (by decide) (by decide) (by decide))
theorem Sr.nOk (g : Sr s s') (h : nOk s) : nOk s' := h.of (g.1 0)
theorem vs1_PE {ex : Int32} (h : PE s) : PE (vs1 s x ex e t).1 := by
  unfold vs1; split
  · exact h
  · rename_i q
    have q' : vi e = true := by cases w : vi e with
      | true => rfl
      | false => exact absurd (Or.inr w) q
    split
    · exact h
    · intro y hy
      show nv (sA (uA (uA (uA (uA s 8 _ 1) 9 _ e) 10 _ x) 11 _ _) 9 y)
      rw [sA_uA, if_neg (by simp), sA_uA, if_neg (by simp), sA_uA]
      split
      · exact Or.inr (vi_rg q')
      · rw [sA_uA, if_neg (by simp)]; exact h y hy
theorem vsF_PE {ex : Int32} : ∀ (m j : Nat) (q : St × Int32), PE q.1 → PE (vsF x ex j m q).1
  | 0, j, q, h => h
  | m + 1, j, q, h => by unfold vsF; exact vsF_PE m (j + 1) _ (vs1_PE h)
theorem vis_PE {ex : Int32} {q : St × Int32} (h : PE q.1) : PE (vis q x ex).1 := by
  unfold vis; split
  · exact h
  · exact vsF_PE _ _ _ h
theorem exF_PE {ex : Int32} : ∀ (m i : Nat) (q : St × Int32), PE q.1 → PE (exF ex i m q).1
  | 0, i, q, h => h
  | m + 1, i, q, h => by
    unfold exF; split
    · exact exF_PE m (i + 1) _ (vis_PE h)
    · exact h
theorem F2_9 {y : Nat} (h : y < 32) : sA (F2 s 0) 9 y = -1 := by
  unfold F2; simp only [sA_fA, Nat.reduceEqDiff, false_and, if_false, true_and, Nat.zero_le, h, if_true]
theorem exq_PE {ex : Int32} : PE (exq s a ex).1 := by
  unfold exq
  refine exF_PE _ _ (_, _) ?_
  intro y hy
  show nv (sA (uA (uA (F2 s 0) 8 _ 1) 11 0 a) 9 y)
  rw [sA_uA, if_neg (by simp), sA_uA, if_neg (by simp), F2_9 hy]; exact Or.inl rfl
def sx (s : St) (e : Int32) : St := (exq s (sA s 1 e.toNatClampNeg) (-1)).1
def iU (s : St) (e : Int32) : St :=
  if sA (sx s e) 8 (sA s 2 e.toNatClampNeg).toNatClampNeg = 0 then stL2 (jT (sx s e) e) e (-1) else
  if hvF (sx s e) 32 (-1) (sA s 2 e.toNatClampNeg) = -1 ∨ pc (sx s e) e (hvF (sx s e) 32 (-1) (sA s 2 e.toNatClampNeg)) = false then stL2 (sx s e) (-1) (-1) else
  stL2 (jT (lT (sx s e) (hvF (sx s e) 32 (-1) (sA s 2 e.toNatClampNeg))) e) e (hvF (sx s e) 32 (-1) (sA s 2 e.toNatClampNeg))
theorem hvF_nv (hp : PE s) : ∀ (m : Nat) (best cur : Int32), nv best → nv (hvF s m best cur)
  | 0, best, cur, h => h
  | m + 1, best, cur, h => by
    unfold hvF; split
    · exact h
    · rename_i q
      split
      · exact h
      · have q1 : ¬ cur < 0 := fun w => q (Or.inl w)
        have q2 : cur < 32 := Decidable.byContradiction fun w => q (Or.inr w)
        have := rn32 q1 q2
        exact hvF_nv hp m _ _ (hvy_nv h (hp _ (by rw [cln]; omega)))
theorem t18 (he : 0 ≤ e.toInt ∧ e.toInt < 128) (hd : DG s) (hE : EN s) (hn : nOk s) (hq : Q none (ob H p (iU s e))) : Cl (pj lw) 18 [.ref p, .int e] (ob H p s) Q := by
  have g := hE e.toNatClampNeg (by rw [cln]; omega)
  have hn' := hn.2
  have hS : Sr s (sx s e) := exq_Sr
  have hA2 : sA (sx s e) 2 = sA s 2 := hS.2.2.1 _ (by decide) (by decide) (by decide) (by decide)
  have v1 : vv s (sA s 1 e.toNatClampNeg) = true := vv_t g.1 hn'
  have v2 : vv (sx s e) (sA s 2 e.toNatClampNeg) = true := by unfold vv; rw [hS.1]; exact vv_t g.2 hn'
  have r2 : 0 ≤ (sA s 2 e.toNatClampNeg).toInt ∧ (sA s 2 e.toNatClampNeg).toInt < 32 := by omega
  have hdx : DG (sx s e) := hd.of hS
  have hEx : EN (sx s e) := hS.EN hE
  have hnx : nOk (sx s e) := hS.nOk hn
  rw [c18]; simp +decide only [w18_0, w18_1, w18_2, w18_5, w18_6, w18_7, w18_8, isO_put, true_and, and_true, g1, ai1, ae1, he]
  refine t30 hd v1 ?_
  have hsx : (exq s (sA s 1 e.toNatClampNeg) (-1)).1 = sx s e := rfl
  unfold iU at hq
  simp +decide only [hsx]
  have q25 := fun Q => t25 (lw := lw) (H := H) (p := p) (Q := Q) (e := e) hdx hEx hnx
  have hp : PE (sx s e) := exq_PE
  by_cases e1 : sA (sx s e) 8 (sA s 2 e.toNatClampNeg).toNatClampNeg = 0
  · rw [if_pos e1] at hq
    simp +decide only [w18_11, w18_12, w18_13, w18_16, w18_17, w18_18, w18_19, w18_20, w18_21, w18_24, w18_27, w18_28, w18_31, w18_32, w18_33, w18_36, w18_37, w18_38, w18_41, w18_42, w18_43, w18_44, w18_47, isO_put, Option.toList_some, Option.toList_none, List.cons_append, List.nil_append, true_and, and_true, or_true, ↓reduceIte, Nat.reduceAdd, Nat.reduceLeDiff, Int32.reduceAdd, Int64.reduceAdd, Nat.add_zero, g2, g8, ai2, ae2, ai8, ain8, ae8, ain8, he, t39, hA2, v2, bz, r2, e1, q25, t21]
    exact hq
  · rw [if_neg e1] at hq
    simp +decide only [w18_11, w18_12, w18_13, w18_16, w18_17, w18_18, w18_19, w18_20, w18_21, w18_24, w18_27, w18_28, w18_31, w18_32, w18_33, w18_48, w18_49, w18_50, isO_put, Option.toList_some, List.cons_append, List.nil_append, true_and, and_true, or_true, ↓reduceIte, g2, g8, ai2, ae2, ai8, ain8, ae8, ain8, he, t39, hA2, v2, bz, r2, e1]
    refine t32 hp ?_
    have hv := hvF_nv hp 32 (-1) (sA s 2 e.toNatClampNeg) (Or.inl rfl)
    generalize hvF (sx s e) 32 (-1) (sA s 2 e.toNatClampNeg) = m at *
    by_cases e2 : m = -1
    · rw [if_pos (Or.inl e2)] at hq
      simp +decide only [w18_53, w18_54, w18_55, w18_56, w18_85, w18_86, w18_87, w18_88, w18_91, isO_put, Option.toList_some, Option.toList_none, List.cons_append, List.nil_append, true_and, and_true, ↓reduceIte, e2, t21]
      exact hq
    · have rm := hv.resolve_left e2
      have q36 := fun Q => t36 (lw := lw) (H := H) (p := p) (s := sx s e) (Q := Q) he rm
      cases e3 : pc (sx s e) e m with
      | false =>
        rw [if_pos (Or.inr e3)] at hq
        simp +decide only [w18_53, w18_54, w18_55, w18_56, w18_59, w18_60, w18_61, w18_62, w18_65, w18_85, w18_86, w18_87, w18_88, w18_91, isO_put, Option.toList_some, Option.toList_none, List.cons_append, List.nil_append, true_and, and_true, ↓reduceIte, e2, q36, e3, bz, t21]
        exact hq
      | true =>
        rw [if_neg (by rw [e3]; simp [e2])] at hq
        have q26 := fun Q => t26 (lw := lw) (H := H) (p := p) (Q := Q) (e := m) hdx hEx hnx
        have q25' := fun Q => t25 (lw := lw) (H := H) (p := p) (Q := Q) (e := e) (lT_DG (e := m) hdx) (lT_EN (e := m) hEx) (lT_nOk (e := m) hnx)
        simp +decide only [w18_53, w18_54, w18_55, w18_56, w18_59, w18_60, w18_61, w18_62, w18_65, w18_68, w18_69, w18_70, w18_73, w18_74, w18_75, w18_78, w18_79, w18_80, w18_81, w18_84, isO_put, Option.toList_some, Option.toList_none, List.cons_append, List.nil_append, true_and, and_true, ↓reduceIte, Nat.reduceAdd, Nat.reduceLeDiff, Int32.reduceAdd, Int64.reduceAdd, Nat.add_zero, e2, q36, e3, bz, t21, q26, q25']
        exact hq
end D

section E
variable {lw : LW} {H : AH} {p j : Nat} {s s' s1 s2 : St} {Q : Option Value → AH → Prop} {a b c d e x y t u v w : Int32} {k n : Nat}
def cT1 (s : St) (e : Int32) : St := sx (frS (lT s e) e) e
def cT (s : St) (e : Int32) : St := stL2 (if lcF (cT1 s e) 0 128 (-1) = -1 then cT1 s e else jT (cT1 s e) (lcF (cT1 s e) 0 128 (-1))) (lcF (cT1 s e) 0 128 (-1)) e
theorem frS_A {t : Nat} (h4 : t ≠ 4) (h5 : t ≠ 5) : sA (frS s e) t = sA s t := by unfold frS; funext z; rw [sA_uI, sA_uA, if_neg (fun w => h5 w.1), sA_uA, if_neg (fun w => h4 w.1)]
theorem frS_I (h : k ≠ 12) : sI (frS s e) k = sI s k := by unfold frS; rw [sI_uI, if_neg h, sI_uA, sI_uA]
theorem frS_DG (h : DG s) : DG (frS s e) := by unfold DG; rw [frS_A (by decide) (by decide)]; exact h
theorem frS_EN (h : EN s) : EN (frS s e) := h.of (frS_I (by decide)) (frS_A (by decide) (by decide)) (frS_A (by decide) (by decide))
theorem frS_nOk (h : nOk s) : nOk (frS s e) := h.of (frS_I (by decide))
theorem sx_Sr : Sr s (sx s e) := exq_Sr
set_option maxRecDepth 100000 in
theorem t19 (he : 0 ≤ e.toInt ∧ e.toInt < 128) (hd : DG s) (hE : EN s) (hn : nOk s) (hq : Q none (ob H p (cT s e))) : Cl (pj lw) 19 [.ref p, .int e] (ob H p s) Q := by
  have q26 := fun Q => t26 (lw := lw) (H := H) (p := p) (Q := Q) (e := e) hd hE hn
  have q24 := fun Q => t24 (lw := lw) (H := H) (p := p) (Q := Q) (s := lT s e) he
  have hd1 : DG (frS (lT s e) e) := frS_DG (lT_DG hd)
  have hE1 : EN (frS (lT s e) e) := frS_EN (lT_EN hE)
  have hn1 : nOk (frS (lT s e) e) := frS_nOk (lT_nOk hn)
  have g := hE1 e.toNatClampNeg (by rw [cln]; omega)
  have v1 : vv (frS (lT s e) e) (sA (frS (lT s e) e) 1 e.toNatClampNeg) = true := vv_t g.1 hn1.2
  rw [c19]; simp +decide only [w19_0, w19_1, w19_2, w19_5, w19_6, w19_7, w19_10, w19_11, w19_12, w19_15, w19_16, w19_17, w19_18, isO_put, Option.toList_none, List.nil_append, true_and, and_true, Nat.reduceAdd, Nat.reduceLeDiff, Int32.reduceAdd, Int64.reduceAdd, Nat.add_zero, g1, ai1, ae1, q26, q24, he]
  refine t30 hd1 v1 ?_
  have hsx : (exq (frS (lT s e) e) (sA (frS (lT s e) e) 1 e.toNatClampNeg) (-1)).1 = cT1 s e := rfl
  have hS : Sr (frS (lT s e) e) (cT1 s e) := sx_Sr
  have q25 := fun Q => t25 (lw := lw) (H := H) (p := p) (Q := Q) (e := lcF (cT1 s e) 0 128 (-1)) (hd1.of hS) (hS.EN hE1) (hS.nOk hn1)
  unfold cT at hq
  by_cases e1 : lcF (cT1 s e) 0 128 (-1) = -1
  · rw [if_pos e1] at hq
    simp +decide only [w19_21, w19_22, w19_23, w19_26, w19_27, w19_28, w19_29, w19_37, w19_38, w19_39, w19_40, w19_43, isO_put, Option.toList_some, Option.toList_none, List.cons_append, List.nil_append, true_and, and_true, ↓reduceIte, hsx, t33, e1, t21]
    rw [e1] at hq; exact hq
  · rw [if_neg e1] at hq
    simp +decide only [w19_21, w19_22, w19_23, w19_26, w19_27, w19_28, w19_29, w19_32, w19_33, w19_34, w19_37, w19_38, w19_39, w19_40, w19_43, isO_put, Option.toList_some, Option.toList_none, List.cons_append, List.nil_append, true_and, and_true, ↓reduceIte, Nat.reduceAdd, Nat.reduceLeDiff, Int32.reduceAdd, Int64.reduceAdd, Nat.add_zero, hsx, t33, e1, t21, q25]
    exact hq
theorem stE_DG (h : DG s) : DG (stE s a b c d) := by
  intro z hz; have := h z hz; unfold stE; simpa only [sA_uI, sA_uA, Nat.reduceEqDiff, false_and, if_false] using this
theorem stE_nOk (h : nOk s) : nOk (stE s a b c d) := h.of (by unfold stE; simp only [sI_uI, sI_uA, Nat.reduceEqDiff, if_false])
theorem stE_EN (h : EN s) (hb : 0 ≤ b.toInt ∧ b.toInt < (sI s 0).toInt) (hc : 0 ≤ c.toInt ∧ c.toInt < (sI s 0).toInt) : EN (stE s a b c d) := by
  intro z hz
  have := h z hz
  unfold stE; simp only [sI_uI, sA_uI, sI_uA, sA_uA, Nat.reduceEqDiff, false_and, true_and, if_false]
  by_cases q : z = a.toNatClampNeg
  · simp only [q, if_true]; exact ⟨hb, hc⟩
  · simp only [q, if_false]; exact this
def adS (s : St) (f : Nat) (u v w : Int32) : St := iU (stE s (Int32.ofNat f) u v (cl (-1000000) 1000000 w)) (Int32.ofNat f)
theorem t2 {f : Nat} (hf : f < 128) (h0 : sA s 4 f = 0) (h1 : ∀ i, i < f → sA s 4 i ≠ 0) (hu : vv s u = true) (hv : vv s v = true) (hne : u ≠ v) (hd : DG s) (hE : EN s) (hn : nOk s)
    (hq : Q (some (.int (Int32.ofNat f))) (ob H p (adS s f u v w))) : Cl (pj lw) 2 [.ref p, .int u, .int v, .int w] (ob H p s) Q := by
  have hF : (Int32.ofNat f).toInt = f := Int32.toInt_ofNat_of_lt (by omega)
  have q22 := fun Q => t22 (lw := lw) (H := H) (p := p) (s := s) (Q := Q) hf h0 h1
  have q23 := fun d Q => t23 (lw := lw) (H := H) (p := p) (s := s) (b := u) (c := v) (d := d) (Q := Q) (a := Int32.ofNat f) (by omega)
  have e1 : ¬ Int32.ofNat f = -1 := by rw [eq32, hF]; simp only [Int32.reduceToInt]; omega
  rw [c2]
  simp +decide only [w2_0, w2_1, w2_2, w2_5, w2_8, w2_9, w2_10, w2_13, w2_19, w2_20, w2_21, w2_27, w2_28, w2_31, w2_33, w2_35, w2_36, w2_42, w2_43, w2_44, w2_47, w2_49, w2_50, w2_52, w2_53, w2_54, w2_56, w2_59, w2_60, w2_62, w2_65, w2_67, isO_put, Option.toList_some, List.cons_append, List.nil_append, true_and, and_true, ↓reduceIte, Nat.reduceAdd, Nat.reduceLeDiff, Int32.reduceAdd, Int64.reduceAdd, t39, hu, hv, bz, eq_false hne, q22, e1, t41, q23]
  refine t18 (by omega) (stE_DG hd) (stE_EN hE (vv_rg hu).1 (vv_rg hv).1) (stE_nOk hn) ?_
  exact hq
def rmS (s : St) (e : Int32) : St := if pr s e = true then if sA s 5 e.toNatClampNeg = 0 then stL2 (frS s e) (-1) (-1) else cT s e else s
theorem pr_rg (h : pr s e = true) : 0 ≤ e.toInt ∧ e.toInt < 128 := by unfold pr at h; rw [Bool.and_eq_true] at h; exact vi_rg h.1
theorem t3 (hd : DG s) (hE : EN s) (hn : nOk s) (hq : Q (some (.int (bz (pr s e)))) (ob H p (rmS s e))) : Cl (pj lw) 3 [.ref p, .int e] (ob H p s) Q := by
  rw [c3]; unfold rmS at hq
  cases e1 : pr s e with
  | false =>
    rw [e1, if_neg (by decide)] at hq
    simp +decide only [w3_0, w3_1, w3_2, w3_5, w3_8, w3_9, isO_put, Option.toList_some, List.cons_append, List.nil_append, true_and, and_true, ↓reduceIte, t5, e1, bz]; exact hq
  | true =>
    have r := pr_rg e1
    rw [e1, if_pos rfl] at hq
    have q24 := fun Q => t24 (lw := lw) (H := H) (p := p) (Q := Q) (s := s) r
    by_cases e2 : sA s 5 e.toNatClampNeg = 0
    · rw [if_pos e2] at hq
      simp +decide only [w3_0, w3_1, w3_2, w3_5, w3_10, w3_11, w3_14, w3_15, w3_16, w3_19, w3_20, w3_21, w3_24, w3_25, w3_26, w3_27, w3_30, w3_31, isO_put, Option.toList_some, List.cons_append, List.nil_append, true_and, and_true, or_true, ↓reduceIte, Nat.reduceAdd, Nat.reduceLeDiff, Int32.reduceAdd, Int64.reduceAdd, Nat.add_zero, g5, ai5, ain5, ae5, ain5, t5, e1, bz, r, e2, q24, t21]; exact hq
    · rw [if_neg e2] at hq
      simp +decide only [w3_0, w3_1, w3_2, w3_5, w3_10, w3_11, w3_14, w3_15, w3_16, w3_32, w3_33, w3_34, w3_37, w3_38, isO_put, Option.toList_some, List.cons_append, List.nil_append, true_and, and_true, or_true, ↓reduceIte, g5, ai5, ain5, ae5, ain5, t5, e1, bz, r, e2]
      refine t19 r hd hE hn ?_
      exact hq
end E

section F
variable {lw : LW} {H : AH} {p j : Nat} {s s' s1 s2 : St} {Q : Option Value → AH → Prop} {a b c d e x y t u v w z : Int32} {k n X Y : Nat}
def MEM (s : St) (X : Nat) (z : Int32) : Prop := ∃ k, k < dN s X ∧ sA s 6 (X * 32 + k) = z
def ND (s : St) (X : Nat) : Prop := ∀ k k', k < k' → k' < dN s X → sA s 6 (X * 32 + k) ≠ sA s 6 (X * 32 + k')
theorem MEM.of (h6 : sA s' 6 = sA s 6) (h7 : sA s' 7 = sA s 7) : MEM s' X z ↔ MEM s X z := by unfold MEM dN; rw [h6, h7]
theorem ND.of (h6 : sA s' 6 = sA s 6) (h7 : sA s' 7 = sA s 7) : ND s' X ↔ ND s X := by unfold ND dN; rw [h6, h7]
theorem DG.dn (h : DG s) (hX : X < 32) : dN s X ≤ 32 ∧ (sA s 7 X).toInt = dN s X := by have := h X hX; unfold dN; omega
theorem aR_dN {κ : Nat} (hd : DG s) (hX : X < 32) (hx : x.toNatClampNeg = X) (hk : κ < dN s X) : dN (aR s x κ) X = dN s X - 1 := by
  have h0 := hd X hX
  unfold dN at *; unfold aR
  rw [sA_uA, if_neg (by simp), sA_uA, if_pos ⟨rfl, hx.symm⟩, hx, isb (by simp only [Int32.reduceToInt]; omega) (by simp only [Int32.reduceToInt]; omega)]; simp only [Int32.reduceToInt]; omega
theorem aR_6 {κ i : Nat} (hx : x.toNatClampNeg = X) : sA (aR s x κ) 6 (X * 32 + i) = if i = κ then sA s 6 (X * 32 + (dN s X - 1)) else sA s 6 (X * 32 + i) := by
  unfold aR; rw [sA_uA, hx]
  by_cases q : i = κ
  · subst q; rw [if_pos ⟨rfl, rfl⟩, if_pos rfl]
  · rw [if_neg (fun w => q (by omega)), if_neg q, sA_uA, if_neg (by simp)]
theorem rA_mem (hd : DG s) (hX : X < 32) (hx : x.toNatClampNeg = X) (nd : ND s X) : MEM (rA s x e) X z ↔ MEM s X z ∧ z ≠ e := by
  unfold rA; rw [hx]
  cases g : fnd s X e 0 (dN s X) with
  | none =>
    have q := fnd_none _ _ g
    show MEM s X z ↔ _
    constructor
    · rintro ⟨k, hk, rfl⟩; exact ⟨⟨k, hk, rfl⟩, q k (Nat.zero_le _) (by omega)⟩
    · exact fun h => h.1
  | some κ =>
    have q := fnd_some _ _ g
    have hk : κ < dN s X := by omega
    show MEM (aR s x κ) X z ↔ _
    unfold MEM
    rw [aR_dN hd hX hx hk]
    constructor
    · rintro ⟨k, h1, h2⟩
      rw [aR_6 hx] at h2
      by_cases w : k = κ
      · rw [if_pos w] at h2
        refine ⟨⟨dN s X - 1, by omega, h2⟩, ?_⟩
        rw [← h2, ← q.2.1]
        exact (nd κ (dN s X - 1) (by omega) (by omega)).symm
      · rw [if_neg w] at h2
        refine ⟨⟨k, by omega, h2⟩, ?_⟩
        rw [← h2, ← q.2.1]
        rcases Nat.lt_or_gt_of_ne w with w | w
        · exact nd k κ w hk
        · exact (nd κ k w (by omega)).symm
    · rintro ⟨⟨k, h1, h2⟩, h3⟩
      have w : k ≠ κ := fun w => h3 (by rw [← h2, w]; exact q.2.1)
      by_cases w2 : k = dN s X - 1
      · refine ⟨κ, by omega, ?_⟩
        rw [aR_6 hx, if_pos rfl, ← w2]; exact h2
      · refine ⟨k, by omega, ?_⟩
        rw [aR_6 hx, if_neg w]; exact h2
theorem rA_nd (hd : DG s) (hX : X < 32) (hx : x.toNatClampNeg = X) (nd : ND s X) : ND (rA s x e) X := by
  unfold rA; rw [hx]
  cases g : fnd s X e 0 (dN s X) with
  | none => exact nd
  | some κ =>
    have q := fnd_some _ _ g
    have hk : κ < dN s X := by omega
    show ND (aR s x κ) X
    unfold ND
    rw [aR_dN hd hX hx hk]
    intro k k' h1 h2
    rw [aR_6 hx, aR_6 hx]
    by_cases w : k = κ
    · rw [if_pos w, if_neg (by omega)]
      exact (nd k' (dN s X - 1) (by omega) (by omega)).symm
    · rw [if_neg w]
      by_cases w' : k' = κ
      · rw [if_pos w']; exact nd k (dN s X - 1) (by omega) (by omega)
      · rw [if_neg w']; exact nd k k' h1 (by omega)
theorem rA_ot (hd : DG s) (hY : Y < 32) (hx : x.toNatClampNeg = X) (hne : Y ≠ X) : dN (rA s x e) Y = dN s Y ∧ ∀ i, i < 32 → sA (rA s x e) 6 (Y * 32 + i) = sA s 6 (Y * 32 + i) := by
  unfold rA; rw [hx]
  cases g : fnd s X e 0 (dN s X) with
  | none => exact ⟨rfl, fun _ _ => rfl⟩
  | some κ =>
    show dN (aR s x κ) Y = dN s Y ∧ _
    have q := fnd_some _ _ g
    by_cases hX : X < 32
    · have hk := hd.dn hX
      refine ⟨?_, fun i hi => ?_⟩
      · unfold aR dN; rw [sA_uA, if_neg (by simp), sA_uA, if_neg (fun w => hne (by rw [← hx]; exact w.2))]
      · show sA (aR s x κ) 6 _ = _
        unfold aR; rw [sA_uA, if_neg (fun w => hne (by have := w.2; rw [hx] at this; omega)), sA_uA, if_neg (by simp)]
    · refine ⟨?_, fun i hi => ?_⟩
      · unfold aR dN; rw [sA_uA, if_neg (by simp), sA_uA, if_neg (fun w => hne (by rw [← hx]; exact w.2))]
      · show sA (aR s x κ) 6 _ = _
        unfold aR; rw [sA_uA, if_neg (fun w => hX (by have := w.2; rw [hx] at this; omega)), sA_uA, if_neg (by simp)]
theorem mem_congr (hd : DG s) (hY : Y < 32) (h1 : dN s' Y = dN s Y) (h2 : ∀ i, i < 32 → sA s' 6 (Y * 32 + i) = sA s 6 (Y * 32 + i)) : (MEM s' Y z ↔ MEM s Y z) ∧ (ND s' Y ↔ ND s Y) := by
  have g := hd.dn hY
  unfold MEM ND; rw [h1]
  refine ⟨⟨fun ⟨k, a, b⟩ => ⟨k, a, by rw [← h2 k (by omega)]; exact b⟩, fun ⟨k, a, b⟩ => ⟨k, a, by rw [h2 k (by omega)]; exact b⟩⟩, ⟨fun h k k' a b => ?_, fun h k k' a b => ?_⟩⟩
  · have := h k k' a b; rwa [h2 k (by omega), h2 k' (by omega)] at this
  · rw [h2 k (by omega), h2 k' (by omega)]; exact h k k' a b
theorem aA_in (hd : DG s) (hX : X < 32) (hx : x.toNatClampNeg = X) (hl : dN s X < 32) : dN (aA s x e) X = dN s X + 1 ∧ ∀ i, i < 32 → sA (aA s x e) 6 (X * 32 + i) = if i = dN s X then e else sA s 6 (X * 32 + i) := by
  have h0 := hd X hX
  unfold aA; rw [hx, if_pos (by unfold dN at hl; omega)]
  refine ⟨?_, fun i hi => ?_⟩
  · unfold dN; rw [sA_uA, if_pos ⟨rfl, rfl⟩, ia (by simp only [Int32.reduceToInt]; omega) (by simp only [Int32.reduceToInt]; omega)]; simp only [Int32.reduceToInt]; omega
  · rw [sA_uA, if_neg (by simp), sA_uA]
    by_cases q : i = dN s X
    · rw [if_pos ⟨rfl, by omega⟩, if_pos q]
    · rw [if_neg (fun w => q (by omega)), if_neg q]
theorem aA_mem (hd : DG s) (hX : X < 32) (hx : x.toNatClampNeg = X) (hl : dN s X < 32) : MEM (aA s x e) X z ↔ MEM s X z ∨ z = e := by
  obtain ⟨g1, g2⟩ := aA_in (e := e) hd hX hx hl
  unfold MEM; rw [g1]
  constructor
  · rintro ⟨k, h1, h2⟩
    rw [g2 k (by omega)] at h2
    by_cases q : k = dN s X
    · rw [if_pos q] at h2; exact Or.inr h2.symm
    · rw [if_neg q] at h2; exact Or.inl ⟨k, by omega, h2⟩
  · rintro (⟨k, h1, h2⟩ | h)
    · exact ⟨k, by omega, by rw [g2 k (by omega), if_neg (by omega)]; exact h2⟩
    · exact ⟨dN s X, by omega, by rw [g2 _ hl, if_pos rfl]; exact h.symm⟩
theorem aA_full (hX : X < 32) (hd : DG s) (hx : x.toNatClampNeg = X) (hl : ¬ dN s X < 32) : aA s x e = s := by
  have h0 := hd X hX
  unfold aA; rw [hx, if_neg (by unfold dN at hl; omega)]
theorem aA_nd (hd : DG s) (hX : X < 32) (hx : x.toNatClampNeg = X) (nd : ND s X) (ne : ¬ MEM s X e) : ND (aA s x e) X := by
  by_cases hl : dN s X < 32
  · obtain ⟨g1, g2⟩ := aA_in (e := e) hd hX hx hl
    unfold ND; rw [g1]
    intro k k' h1 h2
    rw [g2 k (by omega), g2 k' (by omega), if_neg (show ¬ k = dN s X by omega)]
    by_cases q : k' = dN s X
    · rw [if_pos q]; exact fun w => ne ⟨k, by omega, w⟩
    · rw [if_neg q]; exact nd k k' h1 (by omega)
  · rw [aA_full hX hd hx hl]; exact nd
theorem aA_ot (hY : Y < 32) (hX : X < 32) (hd : DG s) (hx : x.toNatClampNeg = X) (hne : Y ≠ X) : dN (aA s x e) Y = dN s Y ∧ ∀ i, i < 32 → sA (aA s x e) 6 (Y * 32 + i) = sA s 6 (Y * 32 + i) := by
  by_cases hl : dN s X < 32
  · have h0 := hd X hX
    unfold aA; rw [hx, if_pos (by unfold dN at hl; omega)]
    refine ⟨?_, fun i hi => ?_⟩
    · unfold dN; rw [sA_uA, if_neg (fun w => hne w.2), sA_uA, if_neg (by simp)]
    · rw [sA_uA, if_neg (by simp), sA_uA, if_neg (fun w => hne (by have := w.2; omega))]
  · rw [aA_full hX hd hx hl]; exact ⟨rfl, fun _ _ => rfl⟩
theorem aa2 (hd : DG s) {A B : Nat} (hA : A < 32) (hB : B < 32) (ha : a.toNatClampNeg = A) (hb : b.toNatClampNeg = B) (hab : A ≠ B) (hX : X < 32) (nd : ND s X) (ne : ¬ MEM s X e) :
    (MEM (aA (aA s a e) b e) X z → MEM s X z ∨ (z = e ∧ (X = A ∨ X = B))) ∧ ND (aA (aA s a e) b e) X ∧ (dN s A < 32 → dN s B < 32 → (MEM (aA (aA s a e) b e) X z ↔ MEM s X z ∨ (z = e ∧ (X = A ∨ X = B)))) ∧ (dN (aA (aA s a e) b e) X ≤ dN s X + (if X = A ∨ X = B then 1 else 0)) := by
  have hd1 : DG (aA s a e) := aA_DG hd
  by_cases q1 : X = B
  · subst q1
    have o := aA_ot (e := e) hB hA hd ha (Ne.symm hab)
    have c1 := fun z => mem_congr (z := z) hd hB o.1 o.2
    have nd1 : ND (aA s a e) X := ((c1 e).2).2 nd
    refine ⟨fun h => ?_, aA_nd hd1 hB hb nd1 (fun w => ne (((c1 e).1).1 w)), fun l1 l2 => ?_, ?_⟩
    · by_cases hl : dN (aA s a e) X < 32
      · rcases (aA_mem hd1 hB hb hl).1 h with h | h
        · exact Or.inl (((c1 z).1).1 h)
        · exact Or.inr ⟨h, Or.inr rfl⟩
      · rw [aA_full hB hd1 hb hl] at h; exact Or.inl (((c1 z).1).1 h)
    · rw [aA_mem hd1 hB hb (by rw [o.1]; exact l2), (c1 z).1]; simp
    · rw [if_pos (Or.inr rfl)]
      by_cases hl : dN (aA s a e) X < 32
      · rw [(aA_in hd1 hB hb hl).1, o.1]; omega
      · rw [aA_full hB hd1 hb hl, o.1]; omega
  · have o := aA_ot (e := e) hX hB hd1 hb q1
    have c1 := fun z => mem_congr (z := z) hd1 hX o.1 o.2
    by_cases q2 : X = A
    · subst q2
      refine ⟨fun h => ?_, ((c1 e).2).2 (aA_nd hd hX ha nd ne), fun l1 l2 => ?_, ?_⟩
      · rw [(c1 z).1] at h
        by_cases hl : dN s X < 32
        · rcases (aA_mem hd hX ha hl).1 h with h | h
          · exact Or.inl h
          · exact Or.inr ⟨h, Or.inl rfl⟩
        · rw [aA_full hX hd ha hl] at h; exact Or.inl h
      · rw [(c1 z).1, aA_mem hd hX ha l1]; simp
      · rw [if_pos (Or.inl rfl), o.1]
        by_cases hl : dN s X < 32
        · rw [(aA_in hd hX ha hl).1]; omega
        · rw [aA_full hX hd ha hl]; omega
    · have o2 := aA_ot (e := e) hX hA hd ha q2
      have c2 := fun z => mem_congr (z := z) hd hX o2.1 o2.2
      refine ⟨fun h => ?_, ((c1 e).2).2 (((c2 e).2).2 nd), fun l1 l2 => ?_, ?_⟩
      · rw [(c1 z).1, (c2 z).1] at h; exact Or.inl h
      · rw [(c1 z).1, (c2 z).1]; simp [q1, q2]
      · rw [o.1, o2.1]; omega
theorem ra2 (hd : DG s) {A B : Nat} (hA : A < 32) (hB : B < 32) (ha : a.toNatClampNeg = A) (hb : b.toNatClampNeg = B) (hab : A ≠ B) (hX : X < 32) (nd : ∀ X, X < 32 → ND s X) :
    (MEM (rA (rA s a e) b e) X z ↔ MEM s X z ∧ ¬ (z = e ∧ (X = A ∨ X = B))) ∧ ND (rA (rA s a e) b e) X := by
  have hd1 : DG (rA s a e) := rA_DG hd
  by_cases q1 : X = B
  · subst q1
    have o := rA_ot (e := e) hd hB ha (Ne.symm hab)
    have c1 := fun z => mem_congr (z := z) hd hB o.1 o.2
    have nd1 : ND (rA s a e) X := ((c1 e).2).2 (nd X hX)
    refine ⟨?_, rA_nd hd1 hB hb nd1⟩
    rw [rA_mem hd1 hB hb nd1, (c1 z).1]; simp
  · have o := rA_ot (e := e) hd1 hX hb q1
    have c1 := fun z => mem_congr (z := z) hd1 hX o.1 o.2
    by_cases q2 : X = A
    · subst q2
      refine ⟨?_, ((c1 e).2).2 (rA_nd hd hX ha (nd X hX))⟩
      rw [(c1 z).1, rA_mem hd hX ha (nd X hX)]; simp
    · have o2 := rA_ot (e := e) hd hX ha q2
      have c2 := fun z => mem_congr (z := z) hd hX o2.1 o2.2
      refine ⟨?_, ((c1 e).2).2 (((c2 e).2).2 (nd X hX))⟩
      rw [(c1 z).1, (c2 z).1]; simp [q1, q2]
def Bo (s : St) : Prop := ∀ i, i < 128 → (sA s 5 i ≠ 0 → sA s 4 i ≠ 0) ∧ (sA s 4 i ≠ 0 → sA s 1 i ≠ sA s 2 i)
def Ad (s : St) : Prop := ∀ X, X < 32 → ND s X ∧ ∀ z, MEM s X z → vi z = true ∧ sA s 5 z.toNatClampNeg ≠ 0 ∧ ((sA s 1 z.toNatClampNeg).toNatClampNeg = X ∨ (sA s 2 z.toNatClampNeg).toNatClampNeg = X)
def Iv (s : St) : Prop := DG s ∧ EN s ∧ nOk s ∧ Bo s ∧ Ad s
theorem Sr.Iv (g : Sr s s') (h : Iv s) : Iv s' := by
  have A := fun t h1 h2 h3 h4 => g.2.2.1 t h1 h2 h3 h4
  have h1 := A 1 (by decide) (by decide) (by decide) (by decide)
  have h2 := A 2 (by decide) (by decide) (by decide) (by decide)
  have h4 := A 4 (by decide) (by decide) (by decide) (by decide)
  have h5 := A 5 (by decide) (by decide) (by decide) (by decide)
  have h6 := A 6 (by decide) (by decide) (by decide) (by decide)
  have h7 := A 7 (by decide) (by decide) (by decide) (by decide)
  refine ⟨h.1.of g, g.EN h.2.1, g.nOk h.2.2.1, ?_, ?_⟩
  · unfold Bo; rw [h1, h2, h4, h5]; exact h.2.2.2.1
  · intro X hX
    have := h.2.2.2.2 X hX
    refine ⟨(ND.of h6 h7).2 this.1, fun z hz => ?_⟩
    rw [h1, h2, h5]; exact this.2 z ((MEM.of h6 h7).1 hz)
theorem EN.cl (h : EN s) (hn : nOk s) {i : Nat} (hi : i < 128) : (sA s 1 i).toNatClampNeg < 32 ∧ (sA s 2 i).toNatClampNeg < 32 := by
  have := h i hi; have := hn.2; rw [cln, cln]; omega
theorem cl_inj {i j : Int32} (hi : 0 ≤ i.toInt) (hj : 0 ≤ j.toInt) (h : i.toNatClampNeg = j.toNatClampNeg) : i = j := by
  rw [cln, cln] at h; rw [eq32]; omega
theorem vi_cl (h : vi e = true) : e.toNatClampNeg < 128 := by have := vi_rg h; rw [cln]; omega
theorem jT_5 {i : Nat} (h : vi e = true) (h5 : sA s 5 e.toNatClampNeg = 0) : sA (jT s e) 5 i = if i = e.toNatClampNeg then 1 else sA s 5 i := by
  unfold jT; rw [if_pos ⟨h, h5⟩, aA_A (by decide) (by decide), aA_A (by decide) (by decide), sA_uJ, sA_uI, sA_uA]; simp only [true_and]
theorem lT_5 {i : Nat} (h : vi e = true) (h5 : sA s 5 e.toNatClampNeg ≠ 0) : sA (lT s e) 5 i = if i = e.toNatClampNeg then 0 else sA s 5 i := by
  unfold lT; rw [if_pos ⟨h, h5⟩, rA_A (by decide) (by decide), rA_A (by decide) (by decide), sA_uJ, sA_uI, sA_uA]; simp only [true_and]
theorem jT_t (h : vi e = true) (h5 : sA s 5 e.toNatClampNeg = 0) : sI (jT s e) 13 = sI s 13 + 1 ∧ sJ (jT s e) 14 = sJ s 14 + (sA s 3 e.toNatClampNeg).toInt64 := by
  unfold jT; rw [if_pos ⟨h, h5⟩, aA_I, aA_I, aA_J, aA_J, sI_uJ, sI_uI, sJ_uJ]; exact ⟨rfl, rfl⟩
theorem lT_t (h : vi e = true) (h5 : sA s 5 e.toNatClampNeg ≠ 0) : sI (lT s e) 13 = sI s 13 - 1 ∧ sJ (lT s e) 14 = sJ s 14 - (sA s 3 e.toNatClampNeg).toInt64 := by
  unfold lT; rw [if_pos ⟨h, h5⟩, rA_I, rA_I, rA_J, rA_J, sI_uJ, sI_uI, sJ_uJ]; exact ⟨rfl, rfl⟩
theorem cab (hI : Iv s) (h : vi e = true) (h4 : sA s 4 e.toNatClampNeg ≠ 0) : (sA s 1 e.toNatClampNeg).toNatClampNeg ≠ (sA s 2 e.toNatClampNeg).toNatClampNeg := by
  have g := hI.2.1 _ (vi_cl h)
  exact fun w => (hI.2.2.2.1 _ (vi_cl h)).2 h4 (cl_inj g.1.1 g.2.1 w)
theorem inj_vi (h1 : vi e = true) (h2 : vi z = true) (h : e.toNatClampNeg = z.toNatClampNeg) : e = z := cl_inj (vi_rg h1).1 (vi_rg h2).1 h
theorem base_DG {v : Int32} {q : Int64} (hd : DG s) : DG (uJ (uI (uA s 5 k v) 13 c) 14 q) := by
  intro z hz; have := hd z hz; simpa only [sA_uJ, sA_uI, sA_uA, Nat.reduceEqDiff, false_and, if_false] using this
theorem base_6 {v : Int32} {q : Int64} : sA (uJ (uI (uA s 5 k v) 13 c) 14 q) 6 = sA s 6 := by funext i; simp only [sA_uJ, sA_uI, sA_uA, Nat.reduceEqDiff, false_and, if_false]
theorem base_7 {v : Int32} {q : Int64} : sA (uJ (uI (uA s 5 k v) 13 c) 14 q) 7 = sA s 7 := by funext i; simp only [sA_uJ, sA_uI, sA_uA, Nat.reduceEqDiff, false_and, if_false]
theorem jT_Iv (hI : Iv s) (h : vi e = true) (h4 : sA s 4 e.toNatClampNeg ≠ 0) (h5 : sA s 5 e.toNatClampNeg = 0) : Iv (jT s e) := by
  have hab := cab hI h h4
  have r := hI.2.1.cl hI.2.2.1 (vi_cl h)
  refine ⟨jT_DG hI.1, jT_EN hI.2.1, jT_nOk hI.2.2.1, ?_, ?_⟩
  · intro i hi
    have := hI.2.2.2.1 i hi
    rw [jT_5 h h5, jT_A (by decide) (by decide) (by decide), jT_A (by decide) (by decide) (by decide), jT_A (by decide) (by decide) (by decide)]
    refine ⟨fun q => ?_, this.2⟩
    by_cases w : i = e.toNatClampNeg
    · rw [w]; exact h4
    · rw [if_neg w] at q; exact this.1 q
  · intro X hX
    have ad := hI.2.2.2.2 X hX
    have nm : ¬ MEM s X e := fun w => (ad.2 e w).2.1 h5
    have G := fun z => aa2 (z := z) (X := X) (e := e) (a := sA s 1 e.toNatClampNeg) (b := sA s 2 e.toNatClampNeg) (base_DG (k := e.toNatClampNeg) (v := 1) (c := sI s 13 + 1) (q := sJ s 14 + (sA s 3 e.toNatClampNeg).toInt64) hI.1) r.1 r.2 rfl rfl hab hX ((ND.of base_6 base_7).2 ad.1) (fun w => nm ((MEM.of base_6 base_7).1 w))
    have hj : jT s e = aA (aA (uJ (uI (uA s 5 e.toNatClampNeg 1) 13 (sI s 13 + 1)) 14 (sJ s 14 + (sA s 3 e.toNatClampNeg).toInt64)) (sA s 1 e.toNatClampNeg) e) (sA s 2 e.toNatClampNeg) e := by unfold jT; rw [if_pos ⟨h, h5⟩]
    refine ⟨by rw [hj]; exact (G e).2.1, fun z hz => ?_⟩
    rw [jT_5 h h5, jT_A (by decide) (by decide) (by decide), jT_A (by decide) (by decide) (by decide)]
    rw [hj] at hz
    rcases (G z).1 hz with q | q
    · have q' := ad.2 z ((MEM.of base_6 base_7).1 q)
      refine ⟨q'.1, ?_, q'.2.2⟩
      split
      · decide
      · exact q'.2.1
    · obtain ⟨rfl, q⟩ := q
      refine ⟨h, by rw [if_pos rfl]; decide, q.elim (fun w => Or.inl w.symm) (fun w => Or.inr w.symm)⟩
theorem lT_Iv (hI : Iv s) (h : vi e = true) (h5 : sA s 5 e.toNatClampNeg ≠ 0) : Iv (lT s e) := by
  have h4 := (hI.2.2.2.1 _ (vi_cl h)).1 h5
  have hab := cab hI h h4
  have r := hI.2.1.cl hI.2.2.1 (vi_cl h)
  refine ⟨lT_DG hI.1, lT_EN hI.2.1, lT_nOk hI.2.2.1, ?_, ?_⟩
  · intro i hi
    have := hI.2.2.2.1 i hi
    rw [lT_5 h h5, lT_A (by decide) (by decide) (by decide), lT_A (by decide) (by decide) (by decide), lT_A (by decide) (by decide) (by decide)]
    refine ⟨fun q => ?_, this.2⟩
    by_cases w : i = e.toNatClampNeg
    · rw [if_pos w] at q; exact absurd rfl q
    · rw [if_neg w] at q; exact this.1 q
  · intro X hX
    have ad := hI.2.2.2.2 X hX
    have G := fun z => ra2 (z := z) (X := X) (e := e) (a := sA s 1 e.toNatClampNeg) (b := sA s 2 e.toNatClampNeg) (base_DG (k := e.toNatClampNeg) (v := 0) (c := sI s 13 - 1) (q := sJ s 14 - (sA s 3 e.toNatClampNeg).toInt64) hI.1) r.1 r.2 rfl rfl hab hX (fun X hX => (ND.of base_6 base_7).2 (hI.2.2.2.2 X hX).1)
    have hj : lT s e = rA (rA (uJ (uI (uA s 5 e.toNatClampNeg 0) 13 (sI s 13 - 1)) 14 (sJ s 14 - (sA s 3 e.toNatClampNeg).toInt64)) (sA s 1 e.toNatClampNeg) e) (sA s 2 e.toNatClampNeg) e := by unfold lT; rw [if_pos ⟨h, h5⟩]
    refine ⟨by rw [hj]; exact (G e).2, fun z hz => ?_⟩
    rw [lT_5 h h5, lT_A (by decide) (by decide) (by decide), lT_A (by decide) (by decide) (by decide)]
    rw [hj] at hz
    obtain ⟨q1, q2⟩ := (G z).1.1 hz
    have q' := ad.2 z ((MEM.of base_6 base_7).1 q1)
    refine ⟨q'.1, ?_, q'.2.2⟩
    split
    · rename_i w
      have := inj_vi q'.1 h w
      subst this
      exact absurd ⟨rfl, q'.2.2.elim (fun w => Or.inl w.symm) (fun w => Or.inr w.symm)⟩ q2
    · exact q'.2.1
theorem frS_4 {i : Nat} : sA (frS s e) 4 i = if i = e.toNatClampNeg then 0 else sA s 4 i := by unfold frS; rw [sA_uI, sA_uA, if_neg (by simp), sA_uA]; simp only [true_and]
theorem frS_5 {i : Nat} : sA (frS s e) 5 i = if i = e.toNatClampNeg then 0 else sA s 5 i := by unfold frS; rw [sA_uI, sA_uA]; simp only [true_and]; split; rfl; rw [sA_uA, if_neg (by simp)]
theorem frS_Iv (hI : Iv s) (h : vi e = true) (h5 : sA s 5 e.toNatClampNeg = 0) : Iv (frS s e) := by
  refine ⟨frS_DG hI.1, frS_EN hI.2.1, frS_nOk hI.2.2.1, ?_, ?_⟩
  · intro i hi
    have := hI.2.2.2.1 i hi
    rw [frS_5, frS_4, frS_A (by decide) (by decide), frS_A (by decide) (by decide)]
    by_cases w : i = e.toNatClampNeg
    · rw [if_pos w, if_pos w]; exact ⟨fun q => absurd rfl q, fun q => absurd rfl q⟩
    · rw [if_neg w, if_neg w]; exact this
  · intro X hX
    have ad := hI.2.2.2.2 X hX
    refine ⟨(ND.of (frS_A (by decide) (by decide)) (frS_A (by decide) (by decide))).2 ad.1, fun z hz => ?_⟩
    have q := ad.2 z ((MEM.of (frS_A (by decide) (by decide)) (frS_A (by decide) (by decide))).1 hz)
    rw [frS_5, frS_A (by decide) (by decide), frS_A (by decide) (by decide)]
    refine ⟨q.1, ?_, q.2.2⟩
    split
    · rename_i w; rw [w] at q; exact absurd h5 q.2.1
    · exact q.2.1
theorem stE_A {t : Nat} (h : t = 6 ∨ t = 7) : sA (stE s a b c d) t = sA s t := by
  unfold stE; funext i; rcases h with rfl | rfl <;> simp only [sA_uI, sA_uA, Nat.reduceEqDiff, false_and, if_false]
theorem stE_1 {i : Nat} : (sA (stE s a b c d) 1 i = if i = a.toNatClampNeg then b else sA s 1 i) ∧ (sA (stE s a b c d) 2 i = if i = a.toNatClampNeg then c else sA s 2 i) ∧ (sA (stE s a b c d) 3 i = if i = a.toNatClampNeg then d else sA s 3 i) ∧ (sA (stE s a b c d) 4 i = if i = a.toNatClampNeg then 1 else sA s 4 i) ∧ (sA (stE s a b c d) 5 i = if i = a.toNatClampNeg then 0 else sA s 5 i) := by
  unfold stE; simp only [sA_uI, sA_uA, Nat.reduceEqDiff, false_and, true_and, if_false, and_self]
theorem stE_Iv (hI : Iv s) (ha : vi a = true) (h4 : sA s 4 a.toNatClampNeg = 0) (hb : 0 ≤ b.toInt ∧ b.toInt < (sI s 0).toInt) (hc : 0 ≤ c.toInt ∧ c.toInt < (sI s 0).toInt) (hbc : b ≠ c) : Iv (stE s a b c d) := by
  have h5 : sA s 5 a.toNatClampNeg = 0 := Decidable.byContradiction fun w => (hI.2.2.2.1 _ (vi_cl ha)).1 w h4
  refine ⟨stE_DG hI.1, stE_EN hI.2.1 hb hc, stE_nOk hI.2.2.1, ?_, ?_⟩
  · intro i hi
    have := hI.2.2.2.1 i hi
    rw [stE_1.1, stE_1.2.1, stE_1.2.2.2.1, stE_1.2.2.2.2]
    by_cases w : i = a.toNatClampNeg
    · simp only [if_pos w]; exact ⟨fun q => absurd rfl q, fun _ => hbc⟩
    · simp only [if_neg w]; exact this
  · intro X hX
    have ad := hI.2.2.2.2 X hX
    refine ⟨(ND.of (stE_A (Or.inl rfl)) (stE_A (Or.inr rfl))).2 ad.1, fun z hz => ?_⟩
    have q := ad.2 z ((MEM.of (stE_A (Or.inl rfl)) (stE_A (Or.inr rfl))).1 hz)
    have w : ¬ z.toNatClampNeg = a.toNatClampNeg := fun w => q.2.1 (by rw [w]; exact h5)
    rw [stE_1.1, stE_1.2.1, stE_1.2.2.2.2, if_neg w, if_neg w, if_neg w]; exact q
theorem stL2_A : sA (stL2 s a b) = sA s := by unfold stL2; funext t i; rw [sA_uI, sA_uI]
theorem stL2_I (h1 : k ≠ 15) (h2 : k ≠ 16) : sI (stL2 s a b) k = sI s k := by unfold stL2; rw [sI_uI, if_neg h2, sI_uI, if_neg h1]
theorem stL2_15 : sI (stL2 s a b) 15 = a ∧ sI (stL2 s a b) 16 = b := by unfold stL2; rw [sI_uI, if_neg (by decide), sI_uI, if_pos rfl, sI_uI, if_pos rfl]; exact ⟨rfl, rfl⟩
theorem stL2_J : sJ (stL2 s a b) k = sJ s k := by unfold stL2; rw [sJ_uI, sJ_uI]
theorem stL2_Iv (hI : Iv s) : Iv (stL2 s a b) := by
  have A : ∀ t, sA (stL2 s a b) t = sA s t := fun t => by rw [stL2_A]
  have I : sI (stL2 s a b) 0 = sI s 0 := stL2_I (by decide) (by decide)
  refine ⟨?_, hI.2.1.of I (A _) (A _), hI.2.2.1.of I, ?_, ?_⟩
  · unfold DG; rw [A]; exact hI.1
  · unfold Bo; rw [A, A, A, A]; exact hI.2.2.2.1
  · intro X hX
    have ad := hI.2.2.2.2 X hX
    refine ⟨(ND.of (A _) (A _)).2 ad.1, fun z hz => ?_⟩
    have q := ad.2 z ((MEM.of (A _) (A _)).1 hz)
    rw [A, A, A]; exact q
end F

section G
variable {lw : LW} {H : AH} {p j : Nat} {s s' s1 s2 : St} {Q : Option Value → AH → Prop} {a b c d e x y t u v w z : Int32} {k n X Y : Nat}
def PK (s : St) : Prop := ∀ y, y < 32 → sA s 9 y = -1 ∨ ∃ X, X < 32 ∧ MEM s X (sA s 9 y)
theorem Sr.mem (g : Sr s s') : MEM s' X z ↔ MEM s X z := MEM.of (g.2.2.1 6 (by decide) (by decide) (by decide) (by decide)) (g.2.2.1 7 (by decide) (by decide) (by decide) (by decide))
theorem vs1_PK {ex : Int32} (hX : X < 32) (hm : MEM s X e) (h : PK s) : PK (vs1 s x ex e t).1 := by
  intro y hy
  have hS : Sr s (vs1 s x ex e t).1 := vs1_Sr
  rw [show (∃ X, X < 32 ∧ MEM (vs1 s x ex e t).1 X (sA (vs1 s x ex e t).1 9 y)) ↔ (∃ X, X < 32 ∧ MEM s X (sA (vs1 s x ex e t).1 9 y)) from ⟨fun ⟨X, a, b⟩ => ⟨X, a, hS.mem.1 b⟩, fun ⟨X, a, b⟩ => ⟨X, a, hS.mem.2 b⟩⟩]
  unfold vs1; split
  · exact h y hy
  · split
    · exact h y hy
    · show sA (uA (uA (uA (uA s 8 _ 1) 9 _ e) 10 _ x) 11 _ _) 9 y = -1 ∨ ∃ X, X < 32 ∧ MEM s X (sA (uA (uA (uA (uA s 8 _ 1) 9 _ e) 10 _ x) 11 _ _) 9 y)
      rw [sA_uA, if_neg (by simp), sA_uA, if_neg (by simp), sA_uA]
      split
      · exact Or.inr ⟨X, hX, hm⟩
      · rw [sA_uA, if_neg (by simp)]; exact h y hy
theorem vsF_PK {ex : Int32} (hX : x.toNatClampNeg < 32) : ∀ (m j : Nat) (q : St × Int32), j + m ≤ dN q.1 x.toNatClampNeg → PK q.1 → PK (vsF x ex j m q).1
  | 0, j, q, _, h => h
  | m + 1, j, q, hj, h => by
    unfold vsF
    refine vsF_PK hX m (j + 1) _ ?_ (vs1_PK hX ⟨j, by omega, rfl⟩ h)
    have hS : Sr q.1 (vs1 q.1 x ex (sA q.1 6 (x.toNatClampNeg * 32 + j)) q.2).1 := vs1_Sr
    unfold dN at *; rw [hS.2.2.1 7 (by decide) (by decide) (by decide) (by decide)]; omega
theorem vis_PK {ex : Int32} {q : St × Int32} (h : PK q.1) : PK (vis q x ex).1 := by
  unfold vis; split
  · exact h
  · rename_i w
    have := rn32 (fun r => w (Or.inl r)) (Decidable.byContradiction fun r => w (Or.inr r))
    exact vsF_PK (by rw [cln]; omega) _ _ _ (by omega) h
theorem exF_PK {ex : Int32} : ∀ (m i : Nat) (q : St × Int32), PK q.1 → PK (exF ex i m q).1
  | 0, i, q, h => h
  | m + 1, i, q, h => by
    unfold exF; split
    · exact exF_PK m (i + 1) _ (vis_PK h)
    · exact h
theorem exq_PK {ex : Int32} : PK (exq s a ex).1 := by
  unfold exq
  refine exF_PK _ _ (_, _) ?_
  intro y hy
  left
  show sA (uA (uA (F2 s 0) 8 _ 1) 11 0 a) 9 y = -1
  rw [sA_uA, if_neg (by simp), sA_uA, if_neg (by simp), F2_9 hy]
theorem hvF_PK (hp : PK s) : ∀ (m : Nat) (best cur : Int32), (best = -1 ∨ ∃ X, X < 32 ∧ MEM s X best) → (hvF s m best cur = -1 ∨ ∃ X, X < 32 ∧ MEM s X (hvF s m best cur))
  | 0, best, cur, h => h
  | m + 1, best, cur, h => by
    unfold hvF; split
    · exact h
    · rename_i q
      split
      · exact h
      · have := rn32 (fun w => q (Or.inl w)) (Decidable.byContradiction fun w => q (Or.inr w))
        have g := hp cur.toNatClampNeg (by rw [cln]; omega)
        refine hvF_PK hp m _ _ ?_
        unfold hvy
        by_cases w1 : best = -1
        · rw [if_pos w1]; exact g
        · rw [if_neg w1]
          by_cases w2 : sA s 9 cur.toNatClampNeg = -1
          · rw [if_pos w2]; exact h
          · rw [if_neg w2]
            by_cases w3 : pc s best (sA s 9 cur.toNatClampNeg) = true
            · rw [if_pos w3]; exact g
            · rw [if_neg w3]; exact h
theorem lcF_ok : ∀ (m j : Nat) (best : Int32), j + m ≤ 128 → (best = -1 ∨ ((vi best = true ∧ sA s 4 best.toNatClampNeg ≠ 0) ∧ sA s 5 best.toNatClampNeg = 0)) →
    (lcF s j m best = -1 ∨ ((vi (lcF s j m best) = true ∧ sA s 4 (lcF s j m best).toNatClampNeg ≠ 0) ∧ sA s 5 (lcF s j m best).toNatClampNeg = 0))
  | 0, j, best, _, h => h
  | m + 1, j, best, hj, h => by
    unfold lcF
    refine lcF_ok m (j + 1) _ (by omega) ?_
    split
    · rename_i q
      unfold lcB at q; rw [Bool.and_eq_true] at q
      have q1 := of_decide_eq_true q.1
      have hF : (Int32.ofNat j).toInt = j := Int32.toInt_ofNat_of_lt (by omega)
      have hG : (Int32.ofNat j).toNatClampNeg = j := by rw [cln, hF]; omega
      have g : Int32.ofNat j = -1 ∨ ((vi (Int32.ofNat j) = true ∧ sA s 4 (Int32.ofNat j).toNatClampNeg ≠ 0) ∧ sA s 5 (Int32.ofNat j).toNatClampNeg = 0) := by
        right; rw [hG]; exact ⟨⟨vi_t (by omega), q1.1⟩, q1.2⟩
      unfold lgt; split
      · exact g
      · split
        · exact h
        · split
          · exact h
          · exact g
    · exact h
def Sm (s s' : St) : Prop := sI s' 0 = sI s 0 ∧ sA s' 1 = sA s 1 ∧ sA s' 2 = sA s 2
theorem iU_ok (hI : Iv s) (he : vi e = true) (h4 : sA s 4 e.toNatClampNeg ≠ 0) (h5 : sA s 5 e.toNatClampNeg = 0) :
    Iv (iU s e) ∧ Sm s (iU s e) ∧ sA (iU s e) 3 = sA s 3 ∧ sA (iU s e) 4 = sA s 4 ∧ sI (iU s e) 12 = sI s 12 ∧
    ((sI (iU s e) 15 = e ∧ sA (iU s e) 5 e.toNatClampNeg ≠ 0 ∧
      ((sI (iU s e) 16 = -1 ∧ sI (iU s e) 13 = sI s 13 + 1 ∧ sJ (iU s e) 14 = sJ s 14 + (sA s 3 e.toNatClampNeg).toInt64) ∨
       (∃ m, sI (iU s e) 16 = m ∧ m ≠ -1 ∧ m ≠ e ∧ vi m = true ∧ sA s 4 m.toNatClampNeg ≠ 0 ∧ sI (iU s e) 13 = sI s 13 - 1 + 1 ∧ sJ (iU s e) 14 = sJ s 14 - (sA s 3 m.toNatClampNeg).toInt64 + (sA s 3 e.toNatClampNeg).toInt64))) ∨
     (sI (iU s e) 15 = -1 ∧ sI (iU s e) 16 = -1 ∧ sA (iU s e) 5 e.toNatClampNeg = 0 ∧ sI (iU s e) 13 = sI s 13 ∧ sJ (iU s e) 14 = sJ s 14)) := by
  have hS : Sr s (sx s e) := sx_Sr
  have A := fun t h1 h2 h3 h4 => hS.2.2.1 t h1 h2 h3 h4
  have a1 := A 1 (by decide) (by decide) (by decide) (by decide)
  have a2 := A 2 (by decide) (by decide) (by decide) (by decide)
  have a3 := A 3 (by decide) (by decide) (by decide) (by decide)
  have a4 := A 4 (by decide) (by decide) (by decide) (by decide)
  have a5 := A 5 (by decide) (by decide) (by decide) (by decide)
  have hIx := hS.Iv hI
  have h4x : sA (sx s e) 4 e.toNatClampNeg ≠ 0 := by rw [a4]; exact h4
  have h5x : sA (sx s e) 5 e.toNatClampNeg = 0 := by rw [a5]; exact h5
  unfold iU
  by_cases e1 : sA (sx s e) 8 (sA s 2 e.toNatClampNeg).toNatClampNeg = 0
  · rw [if_pos e1]
    have T := jT_t he h5x
    refine ⟨stL2_Iv (jT_Iv hIx he h4x h5x), ⟨?_, ?_, ?_⟩, ?_, ?_, ?_, Or.inl ⟨stL2_15.1, ?_, Or.inl ⟨stL2_15.2, ?_, ?_⟩⟩⟩
    · rw [stL2_I (by decide) (by decide), jT_I (by decide), hS.1]
    · rw [stL2_A, jT_A (by decide) (by decide) (by decide), a1]
    · rw [stL2_A, jT_A (by decide) (by decide) (by decide), a2]
    · rw [stL2_A, jT_A (by decide) (by decide) (by decide), a3]
    · rw [stL2_A, jT_A (by decide) (by decide) (by decide), a4]
    · rw [stL2_I (by decide) (by decide), jT_I (by decide), hS.1]
    · rw [stL2_A, jT_5 he h5x, if_pos rfl]; decide
    · rw [stL2_I (by decide) (by decide), T.1, hS.1]
    · rw [stL2_J, T.2, hS.2.1, a3]
  · rw [if_neg e1]
    have hm := hvF_PK (exq_PK (s := s) (a := sA s 1 e.toNatClampNeg) (ex := -1)) 32 (-1) (sA s 2 e.toNatClampNeg) (Or.inl rfl)
    change hvF (sx s e) 32 (-1) (sA s 2 e.toNatClampNeg) = -1 ∨ ∃ X, X < 32 ∧ MEM (sx s e) X (hvF (sx s e) 32 (-1) (sA s 2 e.toNatClampNeg)) at hm
    generalize hvF (sx s e) 32 (-1) (sA s 2 e.toNatClampNeg) = m at *
    by_cases e2 : m = -1 ∨ pc (sx s e) e m = false
    · rw [if_pos e2]
      refine ⟨stL2_Iv hIx, ⟨?_, ?_, ?_⟩, ?_, ?_, ?_, Or.inr ⟨stL2_15.1, stL2_15.2, ?_, ?_, ?_⟩⟩
      · rw [stL2_I (by decide) (by decide), hS.1]
      · rw [stL2_A, a1]
      · rw [stL2_A, a2]
      · rw [stL2_A, a3]
      · rw [stL2_A, a4]
      · rw [stL2_I (by decide) (by decide), hS.1]
      · rw [stL2_A]; exact h5x
      · rw [stL2_I (by decide) (by decide), hS.1]
      · rw [stL2_J, hS.2.1]
    · rw [if_neg e2]
      have e3 : m ≠ -1 := fun w => e2 (Or.inl w)
      obtain ⟨X, hX, hM⟩ := hm.resolve_left e3
      obtain ⟨m1, m2, _⟩ := (hIx.2.2.2.2 X hX).2 m hM
      have hne : m ≠ e := fun w => m2 (by rw [w]; exact h5x)
      have hne' : ¬ e.toNatClampNeg = m.toNatClampNeg := fun w => hne (inj_vi m1 he w.symm)
      have h4m : sA (sx s e) 4 m.toNatClampNeg ≠ 0 := (hIx.2.2.2.1 _ (vi_cl m1)).1 m2
      have hIl := lT_Iv hIx m1 m2
      have h5l : sA (lT (sx s e) m) 5 e.toNatClampNeg = 0 := by rw [lT_5 m1 m2, if_neg hne']; exact h5x
      have h4l : sA (lT (sx s e) m) 4 e.toNatClampNeg ≠ 0 := by rw [lT_A (by decide) (by decide) (by decide)]; exact h4x
      have T := jT_t he h5l
      have T2 := lT_t m1 m2
      refine ⟨stL2_Iv (jT_Iv hIl he h4l h5l), ⟨?_, ?_, ?_⟩, ?_, ?_, ?_, Or.inl ⟨stL2_15.1, ?_, Or.inr ⟨m, stL2_15.2, e3, hne, m1, by rw [← a4]; exact h4m, ?_, ?_⟩⟩⟩
      · rw [stL2_I (by decide) (by decide), jT_I (by decide), lT_I (by decide), hS.1]
      · rw [stL2_A, jT_A (by decide) (by decide) (by decide), lT_A (by decide) (by decide) (by decide), a1]
      · rw [stL2_A, jT_A (by decide) (by decide) (by decide), lT_A (by decide) (by decide) (by decide), a2]
      · rw [stL2_A, jT_A (by decide) (by decide) (by decide), lT_A (by decide) (by decide) (by decide), a3]
      · rw [stL2_A, jT_A (by decide) (by decide) (by decide), lT_A (by decide) (by decide) (by decide), a4]
      · rw [stL2_I (by decide) (by decide), jT_I (by decide), lT_I (by decide), hS.1]
      · rw [stL2_A, jT_5 he h5l, if_pos rfl]; decide
      · rw [stL2_I (by decide) (by decide), T.1, T2.1, hS.1]
      · rw [stL2_J, T.2, T2.2, lT_A (by decide) (by decide) (by decide), hS.2.1, a3]
theorem cT_ok (hI : Iv s) (he : vi e = true) (h5 : sA s 5 e.toNatClampNeg ≠ 0) :
    Iv (cT s e) ∧ Sm s (cT s e) ∧ sA (cT s e) 3 = sA s 3 ∧ (∀ i, sA (cT s e) 4 i = if i = e.toNatClampNeg then 0 else sA s 4 i) ∧ sI (cT s e) 12 = sI s 12 - 1 ∧ sI (cT s e) 16 = e ∧
    ((sI (cT s e) 15 = -1 ∧ sI (cT s e) 13 = sI s 13 - 1 ∧ sJ (cT s e) 14 = sJ s 14 - (sA s 3 e.toNatClampNeg).toInt64) ∨
     (∃ r, sI (cT s e) 15 = r ∧ r ≠ -1 ∧ r ≠ e ∧ vi r = true ∧ sA s 4 r.toNatClampNeg ≠ 0 ∧ sI (cT s e) 13 = sI s 13 - 1 + 1 ∧ sJ (cT s e) 14 = sJ s 14 - (sA s 3 e.toNatClampNeg).toInt64 + (sA s 3 r.toNatClampNeg).toInt64)) := by
  have T2 := lT_t he h5
  have hIl := lT_Iv hI he h5
  have h5l : sA (lT s e) 5 e.toNatClampNeg = 0 := by rw [lT_5 he h5, if_pos rfl]
  have hIf := frS_Iv hIl he h5l
  have hS : Sr (frS (lT s e) e) (cT1 s e) := sx_Sr
  have A := fun t h1 h2 h3 h4 => hS.2.2.1 t h1 h2 h3 h4
  have a1 : sA (cT1 s e) 1 = sA s 1 := by rw [A 1 (by decide) (by decide) (by decide) (by decide), frS_A (by decide) (by decide), lT_A (by decide) (by decide) (by decide)]
  have a2 : sA (cT1 s e) 2 = sA s 2 := by rw [A 2 (by decide) (by decide) (by decide) (by decide), frS_A (by decide) (by decide), lT_A (by decide) (by decide) (by decide)]
  have a3 : sA (cT1 s e) 3 = sA s 3 := by rw [A 3 (by decide) (by decide) (by decide) (by decide), frS_A (by decide) (by decide), lT_A (by decide) (by decide) (by decide)]
  have a4 : ∀ i, sA (cT1 s e) 4 i = if i = e.toNatClampNeg then 0 else sA s 4 i := fun i => by rw [A 4 (by decide) (by decide) (by decide) (by decide), frS_4, lT_A (by decide) (by decide) (by decide)]
  have i0 : sI (cT1 s e) 0 = sI s 0 := by rw [hS.1, frS_I (by decide), lT_I (by decide)]
  have i12 : sI (cT1 s e) 12 = sI s 12 - 1 := by rw [hS.1]; unfold frS; rw [sI_uI, if_pos rfl, lT_I (by decide)]
  have i13 : sI (cT1 s e) 13 = sI s 13 - 1 := by rw [hS.1, frS_I (by decide), T2.1]
  have j14 : sJ (cT1 s e) 14 = sJ s 14 - (sA s 3 e.toNatClampNeg).toInt64 := by rw [hS.2.1]; unfold frS; rw [sJ_uI, sJ_uA, sJ_uA, T2.2]
  have hIx := hS.Iv hIf
  have hr := lcF_ok (s := cT1 s e) 128 0 (-1) (by decide) (Or.inl rfl)
  unfold cT
  generalize lcF (cT1 s e) 0 128 (-1) = r at *
  by_cases e1 : r = -1
  · rw [if_pos e1]
    refine ⟨stL2_Iv hIx, ⟨?_, ?_, ?_⟩, ?_, fun i => ?_, ?_, stL2_15.2, Or.inl ⟨by rw [stL2_15.1]; exact e1, ?_, ?_⟩⟩
    · rw [stL2_I (by decide) (by decide), i0]
    · rw [stL2_A, a1]
    · rw [stL2_A, a2]
    · rw [stL2_A, a3]
    · rw [stL2_A, a4]
    · rw [stL2_I (by decide) (by decide), i12]
    · rw [stL2_I (by decide) (by decide), i13]
    · rw [stL2_J, j14]
  · rw [if_neg e1]
    obtain ⟨⟨r1, r2⟩, r3⟩ := hr.resolve_left e1
    have r2' := r2
    rw [a4] at r2'
    have hne : ¬ r.toNatClampNeg = e.toNatClampNeg := fun w => r2' (by rw [if_pos w])
    rw [if_neg hne] at r2'
    have T := jT_t r1 r3
    refine ⟨stL2_Iv (jT_Iv hIx r1 r2 r3), ⟨?_, ?_, ?_⟩, ?_, fun i => ?_, ?_, stL2_15.2, Or.inr ⟨r, stL2_15.1, e1, fun w => hne (by rw [w]), r1, r2', ?_, ?_⟩⟩
    · rw [stL2_I (by decide) (by decide), jT_I (by decide), i0]
    · rw [stL2_A, jT_A (by decide) (by decide) (by decide), a1]
    · rw [stL2_A, jT_A (by decide) (by decide) (by decide), a2]
    · rw [stL2_A, jT_A (by decide) (by decide) (by decide), a3]
    · rw [stL2_A, jT_A (by decide) (by decide) (by decide), a4]
    · rw [stL2_I (by decide) (by decide), jT_I (by decide), i12]
    · rw [stL2_I (by decide) (by decide), T.1, i13]
    · rw [stL2_J, T.2, j14, a3]
end G

section Hh
variable {lw : LW} {H : AH} {p j : Nat} {s s' s1 s2 : St} {Q : Option Value → AH → Prop} {a b c d e x y t u v w z : Int32} {k n X Y : Nat}
def stp2 (e l : Int32) : Int32 := (if e = -1 then 0 else 1) - (if l = -1 then 0 else 1)
def wI (s : St) (e : Int32) : Int64 := if e = -1 then 0 else (ew s e).toInt64
def wO (s : St) (l i o : Int32) : Int64 := if l = -1 then 0 else if l = i then o.toInt64 else (ew s l).toInt64
theorem pr_iff : pr s e = true ↔ vi e = true ∧ sA s 4 e.toNatClampNeg ≠ 0 := by unfold pr; rw [Bool.and_eq_true, decide_eq_true_eq]
theorem tr_iff : tr s e = true ↔ vi e = true ∧ sA s 4 e.toNatClampNeg ≠ 0 ∧ sA s 5 e.toNatClampNeg ≠ 0 := by unfold tr; rw [Bool.and_eq_true, Bool.and_eq_true, decide_eq_true_eq, decide_eq_true_eq]
theorem ew_of (h : vi e = true) (h4 : sA s 4 e.toNatClampNeg ≠ 0) : ew s e = sA s 3 e.toNatClampNeg := if_pos (pr_iff.2 ⟨h, h4⟩)
theorem tr_t (h : vi e = true) (h4 : sA s 4 e.toNatClampNeg ≠ 0) (h5 : sA s 5 e.toNatClampNeg ≠ 0) : tr s e = true := tr_iff.2 ⟨h, h4, h5⟩
theorem tr_f (h5 : sA s 5 e.toNatClampNeg = 0) : tr s e = false := by
  cases q : tr s e with
  | false => rfl
  | true => exact absurd h5 (tr_iff.1 q).2.2
theorem m1_vi (h : vi e = true) : e ≠ -1 := fun w => by rw [w] at h; exact absurd h (by decide)
theorem j3 {q x y : Int64} : q + (x - y) = q - y + x := by rw [Int64.sub_eq_add_neg, Int64.sub_eq_add_neg]; ac_rfl
theorem j0 {q x : Int64} : q + (x - 0) = q + x := by rw [Int64.sub_zero]
theorem i3 {q : Int32} : q + 0 = q - 1 + 1 := by rw [Int32.sub_eq_add_neg, Int32.add_assoc]; rfl
def Mv (s s' : St) (i o : Int32) : Prop := sI s 13 + stp2 (sI s' 15) (sI s' 16) = sI s' 13 ∧ sJ s 14 + (wI s' (sI s' 15) - wO s' (sI s' 16) i o) = sJ s' 14
theorem iU_law (hI : Iv s) (he : vi e = true) (h4 : sA s 4 e.toNatClampNeg ≠ 0) (h5 : sA s 5 e.toNatClampNeg = 0) :
    (sI (iU s e) 15 = e ∨ sI (iU s e) 15 = -1) ∧ (tr (iU s e) e = decide (sI (iU s e) 15 = e)) ∧ sI (iU s e) 16 ≠ e ∧ ∀ o, Mv s (iU s e) e o := by
  have hm := m1_vi he
  obtain ⟨hI', -, a3, a4, -, h⟩ := iU_ok hI he h4 h5
  have h4' : sA (iU s e) 4 e.toNatClampNeg ≠ 0 := by rw [a4]; exact h4
  rcases h with ⟨h1, h2, h⟩ | ⟨h1, h2, h3, h6, h7⟩
  · refine ⟨Or.inl h1, by rw [tr_t he h4' h2, h1]; simp, ?_, fun o => ?_⟩
    · rcases h with ⟨g1, -⟩ | ⟨m, g1, g2, g3, -⟩
      · rw [g1]; exact fun w => hm w.symm
      · rw [g1]; exact g3
    · have ee : wI (iU s e) e = (sA s 3 e.toNatClampNeg).toInt64 := by unfold wI; rw [if_neg hm, ew_of he h4', a3]
      rcases h with ⟨g1, g2, g3⟩ | ⟨m, g1, g2, g3, g4, g5, g6, g7⟩
      · unfold Mv wO stp2; rw [h1, g1, g2, g3, ee, if_neg hm, if_pos rfl, if_pos rfl, j0]; exact ⟨rfl, rfl⟩
      · have em : ew (iU s e) m = sA s 3 m.toNatClampNeg := by rw [ew_of g4 (by rw [a4]; exact g5), a3]
        unfold Mv wO stp2; rw [h1, g1, g6, g7, ee, if_neg hm, if_neg g2, if_neg g2, if_neg g3, em, j3]
        exact ⟨by rw [← i3]; rfl, rfl⟩
  · refine ⟨Or.inr h1, by rw [tr_f h3, h1]; exact (decide_eq_false (fun w => hm w.symm)).symm, by rw [h2]; exact fun w => hm w.symm, fun o => ?_⟩
    unfold Mv wO wI stp2; rw [h1, h2, h6, h7]; simp +decide
theorem ad_ok {f : Nat} (hI : Iv s) (hf : f < 128) (h4 : sA s 4 f = 0) (hu : 0 ≤ u.toInt ∧ u.toInt < (sI s 0).toInt) (hv : 0 ≤ v.toInt ∧ v.toInt < (sI s 0).toInt) (hne : u ≠ v) :
    Iv (adS s f u v w) ∧ sI (adS s f u v w) 0 = sI s 0 ∧ (∀ i, sA (adS s f u v w) 4 i = if i = f then 1 else sA s 4 i) ∧ (∀ i, sA (adS s f u v w) 3 i = if i = f then cl (-1000000) 1000000 w else sA s 3 i) ∧ sI (adS s f u v w) 12 = sI s 12 + 1 ∧
    sA (adS s f u v w) 1 f = u ∧ sA (adS s f u v w) 2 f = v ∧ ew (adS s f u v w) (Int32.ofNat f) = cl (-1000000) 1000000 w ∧ pr (adS s f u v w) (Int32.ofNat f) = true ∧
    (sI (adS s f u v w) 15 = Int32.ofNat f ∨ sI (adS s f u v w) 15 = -1) ∧ (tr (adS s f u v w) (Int32.ofNat f) = decide (sI (adS s f u v w) 15 = Int32.ofNat f)) ∧ Mv s (adS s f u v w) (Int32.ofNat f) 0 := by
  have hF : (Int32.ofNat f).toInt = f := Int32.toInt_ofNat_of_lt (by omega)
  have hc : (Int32.ofNat f).toNatClampNeg = f := by rw [cln, hF]; omega
  have hvi : vi (Int32.ofNat f) = true := vi_t (by omega)
  have hI1 := stE_Iv (d := cl (-1000000) 1000000 w) hI hvi (by rw [hc]; exact h4) hu hv hne
  have g4 : sA (stE s (Int32.ofNat f) u v (cl (-1000000) 1000000 w)) 4 (Int32.ofNat f).toNatClampNeg ≠ 0 := by rw [stE_1.2.2.2.1, if_pos rfl]; decide
  have g5 : sA (stE s (Int32.ofNat f) u v (cl (-1000000) 1000000 w)) 5 (Int32.ofNat f).toNatClampNeg = 0 := by rw [stE_1.2.2.2.2, if_pos rfl]
  obtain ⟨q1, q2, q3, q4, q5, -⟩ := iU_ok hI1 hvi g4 g5
  obtain ⟨r1, r2, r3, r4⟩ := iU_law hI1 hvi g4 g5
  have g4' : sA (adS s f u v w) 4 (Int32.ofNat f).toNatClampNeg ≠ 0 := by unfold adS; rw [q4]; exact g4
  have a3 : ∀ i, sA (adS s f u v w) 3 i = if i = f then cl (-1000000) 1000000 w else sA s 3 i := fun i => by unfold adS; rw [q3, stE_1.2.2.1, hc]
  refine ⟨q1, ?_, fun i => ?_, a3, ?_, ?_, ?_, ?_, pr_iff.2 ⟨hvi, g4'⟩, r1, r2, ?_⟩
  · unfold adS; rw [q2.1]; unfold stE; simp only [sI_uI, sI_uA, Nat.reduceEqDiff, if_false]
  · unfold adS; rw [q4, stE_1.2.2.2.1, hc]
  · unfold adS; rw [q5]; unfold stE; simp only [sI_uI, if_true]
  · unfold adS; rw [q2.2.1, stE_1.1, hc, if_pos rfl]
  · unfold adS; rw [q2.2.2, stE_1.2.1, hc, if_pos rfl]
  · rw [ew_of hvi g4', a3, hc, if_pos rfl]
  · have := r4 0
    unfold Mv at this ⊢
    unfold adS
    have e1 : sI (stE s (Int32.ofNat f) u v (cl (-1000000) 1000000 w)) 13 = sI s 13 := by unfold stE; simp only [sI_uI, sI_uA, Nat.reduceEqDiff, if_false]
    have e2 : sJ (stE s (Int32.ofNat f) u v (cl (-1000000) 1000000 w)) 14 = sJ s 14 := by unfold stE; simp only [sJ_uI, sJ_uA]
    rw [e1, e2] at this; exact this
theorem Iv_ini (hn : (cl 2 32 a).toInt ≤ 32) : Iv (ini0 a) ∧ (∀ i, sA (ini0 a) 4 i = 0) ∧ (∀ i, sA (ini0 a) 3 i = 0) ∧ (∀ i, sA (ini0 a) 5 i = 0) ∧ sI (ini0 a) 0 = cl 2 32 a ∧ sI (ini0 a) 12 = 0 ∧ sI (ini0 a) 13 = 0 ∧ sJ (ini0 a) 14 = 0 ∧ sI (ini0 a) 15 = -1 ∧ sI (ini0 a) 16 = -1 := by
  have A : ∀ t i, t ≠ 8 → t ≠ 9 → t ≠ 10 → t ≠ 11 → sA (ini0 a) t i = 0 := fun t i h1 h2 h3 h4 => by
    unfold ini0 F2; simp only [sA_fA, h1, h2, h3, h4, false_and, if_false, sA_uI, sA_uJ, sA_z0, ite_self]
  have I : sI (ini0 a) 0 = cl 2 32 a := by unfold ini0 F2; simp only [sI_fA, sI_uI, sI_uJ, Nat.reduceEqDiff, if_false, if_true]
  have c2 := cl_rg (lo := 2) (hi := 32) a (by decide)
  simp only [Int32.reduceToInt] at c2
  have d0 : ∀ X, dN (ini0 a) X = 0 := fun X => by unfold dN; rw [A 7 X (by decide) (by decide) (by decide) (by decide)]; rfl
  refine ⟨⟨fun X hX => ?_, fun i hi => ?_, ?_, fun i hi => ?_, fun X hX => ⟨fun k k' h1 h2 => ?_, fun z ⟨k, h1, h2⟩ => ?_⟩⟩, fun i => A 4 i (by decide) (by decide) (by decide) (by decide), fun i => A 3 i (by decide) (by decide) (by decide) (by decide), fun i => A 5 i (by decide) (by decide) (by decide) (by decide), I, ?_, ?_, ?_, ?_, ?_⟩
  · rw [A 7 X (by decide) (by decide) (by decide) (by decide)]; decide
  · rw [A 1 i (by decide) (by decide) (by decide) (by decide), A 2 i (by decide) (by decide) (by decide) (by decide), I]; simp only [Int32.reduceToInt]; omega
  · unfold nOk; rw [I]; exact c2
  · rw [A 5 i (by decide) (by decide) (by decide) (by decide), A 4 i (by decide) (by decide) (by decide) (by decide)]; exact ⟨fun w => absurd rfl w, fun w => absurd rfl w⟩
  · rw [d0] at h2; omega
  · rw [d0] at h1; omega
  · unfold ini0 F2; simp only [sI_fA, sI_uI, sI_uJ, Nat.reduceEqDiff, if_false, if_true]
  · unfold ini0 F2; simp only [sI_fA, sI_uI, sI_uJ, Nat.reduceEqDiff, if_false, if_true]
  · unfold ini0 F2; simp only [sJ_fA, sJ_uI, sJ_uJ, Nat.reduceEqDiff, if_false, if_true]
  · unfold ini0 F2; simp only [sI_fA, sI_uI, sI_uJ, Nat.reduceEqDiff, if_false, if_true]
  · unfold ini0 F2; simp only [sI_fA, sI_uI, sI_uJ, Nat.reduceEqDiff, if_false, if_true]
end Hh

section Th
variable {A B A' B' : Nat → Nat} {E E' F U T : Nat → Prop} {ρ ρ' : Nat → Nat} {x y z e f m r θ a b : Nat}
def Csd (A B : Nat → Nat) (E S : Nat → Prop) : Prop := ∀ e, E e → (S (A e) ↔ S (B e))
def Cn (A B : Nat → Nat) (E : Nat → Prop) (x y : Nat) : Prop := ∀ S, Csd A B E S → (S x ↔ S y)
theorem Cn.refl : Cn A B E x x := fun _ _ => Iff.rfl
theorem Cn.symm (h : Cn A B E x y) : Cn A B E y x := fun S hS => (h S hS).symm
theorem Cn.trans (h : Cn A B E x y) (g : Cn A B E y z) : Cn A B E x z := fun S hS => (h S hS).trans (g S hS)
theorem Cn.gen (g : ∀ e, E e → Cn A B E' (A e) (B e)) (h : Cn A B E x y) : Cn A B E' x y := fun S hS => h S fun e he => g e he S hS
theorem Cn.edge (h : E e) : Cn A B E (A e) (B e) := fun _ hS => hS e h
theorem Cn.mono (g : ∀ e, E e → E' e) (h : Cn A B E x y) : Cn A B E' x y := h.gen fun _ he => Cn.edge (g _ he)
theorem Cn.cls : Csd A B E (fun z => Cn A B E x z) := fun _ he => ⟨fun h => h.trans (Cn.edge he), fun h => h.trans (Cn.edge he).symm⟩
theorem Cn.cong (g : ∀ e, E e → A' e = A e ∧ B' e = B e) (h : Cn A B E x y) : Cn A' B' E x y := fun S hS => h S fun e he => by
  have := hS e he; rw [(g e he).1, (g e he).2] at this; exact this
theorem Cn.emp (h : ∀ e, ¬ E e) (g : Cn A B E x y) : x = y := ((g (fun z => x = z) fun e he => absurd he (h e)).1 rfl)
theorem Cn.add (h : Cn A B (fun g => E g ∨ g = e) x y) : Cn A B E x y ∨ (Cn A B E x (A e) ∧ Cn A B E (B e) y) ∨ (Cn A B E x (B e) ∧ Cn A B E (A e) y) := by
  by_cases q : Cn A B E x y
  · exact Or.inl q
  by_cases qa : Cn A B E x (A e)
  · by_cases qb : Cn A B E x (B e)
    · exact absurd ((h _ (fun g hg => hg.elim (fun w => Cn.cls g w) (fun w => by subst w; exact ⟨fun _ => qb, fun _ => qa⟩))).1 Cn.refl) q
    · refine Or.inr (Or.inl ⟨qa, ?_⟩)
      have := (h (fun z => Cn A B E x z ∨ Cn A B E (B e) z) (fun g hg => ?_)).1 (Or.inl Cn.refl)
      · exact this.resolve_left q
      · rcases hg with hg | rfl
        · exact or_congr (Cn.cls g hg) (Cn.cls g hg)
        · exact ⟨fun _ => Or.inr Cn.refl, fun _ => Or.inl qa⟩
  · by_cases qb : Cn A B E x (B e)
    · refine Or.inr (Or.inr ⟨qb, ?_⟩)
      have := (h (fun z => Cn A B E x z ∨ Cn A B E (A e) z) (fun g hg => ?_)).1 (Or.inl Cn.refl)
      · exact this.resolve_left q
      · rcases hg with hg | rfl
        · exact or_congr (Cn.cls g hg) (Cn.cls g hg)
        · exact ⟨fun _ => Or.inl qb, fun _ => Or.inr Cn.refl⟩
    · exact absurd ((h _ (fun g hg => hg.elim (fun w => Cn.cls g w) (fun w => by subst w; exact ⟨fun w => absurd w qa, fun w => absurd w qb⟩))).1 Cn.refl) q
def Br (A B : Nat → Nat) (E : Nat → Prop) (e x y : Nat) : Prop := (Cn A B E x (A e) ∧ Cn A B E (B e) y) ∨ (Cn A B E x (B e) ∧ Cn A B E (A e) y)
theorem Br.mono (g : ∀ e, E e → E' e) (h : Br A B E e x y) : Br A B E' e x y := h.imp (fun w => ⟨w.1.mono g, w.2.mono g⟩) (fun w => ⟨w.1.mono g, w.2.mono g⟩)
theorem Br.cn (h : Br A B E e x y) (he : Cn A B E (A e) (B e)) : Cn A B E x y := h.elim (fun w => (w.1.trans he).trans w.2) (fun w => (w.1.trans he.symm).trans w.2)
theorem Br.inv (h : Br A B E e x y) (g : Cn A B E x y) : Cn A B E (A e) (B e) := h.elim (fun w => (w.1.symm.trans g).trans w.2.symm) (fun w => ((w.1.symm.trans g).trans w.2.symm).symm)
theorem Br.swap (h : Br A B E e (A f) (B f)) : Br A B E f (A e) (B e) := h.elim (fun w => Or.inl ⟨w.1.symm, w.2.symm⟩) (fun w => Or.inr ⟨w.2, w.1⟩)
def Bl (E : Nat → Prop) (ρ : Nat → Nat) (θ : Nat) : Nat → Prop := fun g => E g ∧ ρ g < θ
def Kr (A B ρ : Nat → Nat) (U T : Nat → Prop) : Prop := (∀ e, T e → U e) ∧ ∀ e, U e → (T e ↔ ¬ Cn A B (Bl U ρ (ρ e)) (A e) (B e))
theorem Kr.t1 (h : Kr A B ρ U T) : ∀ (n e : Nat), ρ e < n → U e → Cn A B (Bl T ρ (ρ e + 1)) (A e) (B e)
  | 0, _, h0, _ => by omega
  | n + 1, e, hn, hu => by
    by_cases q : T e
    · exact Cn.edge ⟨q, by omega⟩
    · have c := Classical.byContradiction (fun w => q ((h.2 e hu).2 w))
      exact c.gen fun g hg => (Kr.t1 h n g (by have := hg.2; omega) hg.1).mono fun k hk => ⟨hk.1, by have := hk.2; have := hg.2; omega⟩
theorem Kr.bl (h : Kr A B ρ U T) : Cn A B (Bl U ρ θ) x y ↔ Cn A B (Bl T ρ θ) x y :=
  ⟨fun c => c.gen fun g hg => (h.t1 (ρ g + 1) g (by omega) hg.1).mono fun k hk => ⟨hk.1, by have := hk.2; have := hg.2; omega⟩, fun c => c.mono fun g hg => ⟨h.1 g hg.1, hg.2⟩⟩
theorem Kr.all (h : Kr A B ρ U T) : Cn A B U x y ↔ Cn A B T x y :=
  ⟨fun c => c.gen fun g hg => (h.t1 (ρ g + 1) g (by omega) hg).mono fun k hk => hk.1, fun c => c.mono fun g hg => h.1 g hg⟩
def Inj (ρ : Nat → Nat) (U : Nat → Prop) : Prop := ∀ e f, U e → U f → ρ e = ρ f → e = f
theorem Kr.acy (h : Kr A B ρ U T) (hi : Inj ρ U) : ∀ (θ e : Nat), T e → ¬ Cn A B (fun g => (T g ∧ g ≠ e) ∧ ρ g < θ) (A e) (B e)
  | 0, e, he, c => by
    have := Cn.emp (fun g hg => by omega) c
    exact (h.2 e (h.1 e he)).1 he (by rw [this]; exact Cn.refl)
  | θ + 1, e, he, c => by
    have ih := Kr.acy h hi θ
    by_cases q : ∃ f, (T f ∧ f ≠ e) ∧ ρ f = θ
    · obtain ⟨f, hf, hθ⟩ := q
      have c2 : Cn A B (fun g => ((T g ∧ g ≠ e) ∧ ρ g < θ) ∨ g = f) (A e) (B e) := c.mono fun g hg => by
        by_cases w : ρ g = θ
        · exact Or.inr (hi g f (h.1 g hg.1.1) (h.1 f hf.1) (by omega))
        · exact Or.inl ⟨hg.1, by have := hg.2; omega⟩
      rcases Cn.add c2 with c3 | c3
      · exact ih e he c3
      · by_cases w : ρ e < θ
        · have b2 : Br A B (Bl U ρ (ρ f)) e (A f) (B f) := Br.swap (Br.mono (fun g hg => ⟨h.1 g hg.1.1, by have := hg.2; omega⟩) c3)
          exact (h.2 f (h.1 f hf.1)).1 hf.1 (b2.cn (Cn.edge ⟨h.1 e he, by omega⟩))
        · have w2 : ρ e ≠ θ := fun w3 => hf.2 (hi f e (h.1 f hf.1) (h.1 e he) (by omega))
          have b2 : Br A B (Bl U ρ (ρ e)) f (A e) (B e) := Br.mono (fun g hg => ⟨h.1 g hg.1.1, by have := hg.2; omega⟩) c3
          exact (h.2 e (h.1 e he)).1 he (b2.cn (Cn.edge ⟨h.1 f hf.1, by omega⟩))
    · exact ih e he (c.mono fun g hg => ⟨hg.1, by
        have : ρ g ≠ θ := fun w => q ⟨g, hg.1, w⟩
        have := hg.2; omega⟩)
theorem Kr.forest (h : Kr A B ρ U T) (hi : Inj ρ U) (hb : ∀ e, U e → ρ e < θ) (he : T e) : ¬ Cn A B (fun g => T g ∧ g ≠ e) (A e) (B e) := fun c =>
  h.acy hi θ e he (c.mono fun g hg => ⟨hg, hb g (h.1 g hg.1)⟩)
def Bn (A B ρ : Nat → Nat) (T : Nat → Prop) (m a b : Nat) : Prop := T m ∧ Cn A B (Bl T ρ (ρ m + 1)) a b ∧ ¬ Cn A B (Bl T ρ (ρ m)) a b
theorem Bn.uniq (h : Bn A B ρ T m a b) (g : Bn A B ρ T r a b) : ρ m = ρ r := by
  rcases Nat.lt_trichotomy (ρ m) (ρ r) with q | q | q
  · exact absurd (h.2.1.mono fun k hk => ⟨hk.1, by have := hk.2; omega⟩) g.2.2
  · exact q
  · exact absurd (g.2.1.mono fun k hk => ⟨hk.1, by have := hk.2; omega⟩) h.2.2
theorem Kr.self (h : Kr A B ρ U T) (he : T e) : Bn A B ρ T e (A e) (B e) := ⟨he, Cn.edge ⟨he, by omega⟩, fun c => (h.2 e (h.1 e he)).1 he (h.bl.2 c)⟩
theorem add_bl (hne : ¬ U e) : ∀ g, Bl (fun k => U k ∨ k = e) ρ θ g ↔ (Bl U ρ θ g ∨ (g = e ∧ ρ e < θ)) := fun g => by
  constructor
  · rintro ⟨h1 | h1, h2⟩
    · exact Or.inl ⟨h1, h2⟩
    · subst h1; exact Or.inr ⟨rfl, h2⟩
  · rintro (h | ⟨rfl, h⟩)
    · exact ⟨Or.inl h.1, h.2⟩
    · exact ⟨Or.inr rfl, h⟩
theorem add_old (hne : ¬ U e) (h : ¬ ρ e < θ) (c : Cn A B (Bl (fun k => U k ∨ k = e) ρ θ) x y) : Cn A B (Bl U ρ θ) x y := c.mono fun g hg => ((add_bl hne g).1 hg).resolve_right fun w => h w.2
theorem add_new (hne : ¬ U e) (c : Cn A B (Bl (fun k => U k ∨ k = e) ρ θ) x y) : Cn A B (Bl U ρ θ) x y ∨ Br A B (Bl U ρ θ) e x y :=
  Cn.add (c.mono fun g hg => ((add_bl hne g).1 hg).imp id fun w => w.1)
theorem add_up (c : Cn A B (Bl U ρ θ) x y) : Cn A B (Bl (fun k => U k ∨ k = e) ρ θ) x y := c.mono fun g hg => ⟨Or.inl hg.1, hg.2⟩
theorem Kr.ins1 (h : Kr A B ρ U T) (hne : ¬ U e) (hc : ¬ Cn A B U (A e) (B e)) : Kr A B ρ (fun k => U k ∨ k = e) (fun k => T k ∨ k = e) := by
  refine ⟨fun g hg => hg.imp (h.1 g) id, fun f hf => ?_⟩
  rcases hf with hf | rfl
  · have e1 : (T f ∨ f = e) ↔ T f := ⟨fun w => w.resolve_right fun w => hne (w ▸ hf), Or.inl⟩
    show (T f ∨ f = e) ↔ _
    rw [e1, h.2 f hf]
    refine not_congr ⟨add_up, fun c => (add_new hne c).resolve_right fun w => ?_⟩
    exact hc ((Br.swap (w.mono fun g hg => hg.1)).cn (Cn.edge hf))
  · refine ⟨fun _ c => hc ((add_old hne (by omega) c).mono fun g hg => hg.1), fun _ => Or.inr rfl⟩
theorem Kr.ins2 (h : Kr A B ρ U T) (hne : ¬ U e) (hm : Bn A B ρ T m (A e) (B e)) (hl : ρ m < ρ e) : Kr A B ρ (fun k => U k ∨ k = e) T := by
  refine ⟨fun g hg => Or.inl (h.1 g hg), fun f hf => ?_⟩
  rcases hf with hf | rfl
  · rw [h.2 f hf]
    refine not_congr ⟨add_up, fun c => ?_⟩
    by_cases q : ρ e < ρ f
    · rcases add_new hne c with c | c
      · exact c
      · exact c.cn (h.bl.2 (hm.2.1.mono fun g hg => ⟨hg.1, by have := hg.2; omega⟩))
    · exact add_old hne q c
  · refine ⟨fun w => absurd (h.1 _ w) hne, fun w => absurd (add_up (h.bl.2 (hm.2.1.mono fun g hg => ⟨hg.1, by have := hg.2; omega⟩))) w⟩
theorem Kr.ins3 (h : Kr A B ρ U T) (hi : Inj ρ (fun k => U k ∨ k = e)) (hne : ¬ U e) (hm : Bn A B ρ T m (A e) (B e)) (hl : ρ e < ρ m) : Kr A B ρ (fun k => U k ∨ k = e) (fun k => (T k ∧ k ≠ m) ∨ k = e) := by
  have hmU := h.1 m hm.1
  refine ⟨fun g hg => hg.imp (fun w => h.1 g w.1) id, fun f hf => ?_⟩
  rcases hf with hf | rfl
  · have hfe : f ≠ e := fun w => hne (w ▸ hf)
    by_cases q : f = m
    · subst q
      refine ⟨fun w => absurd rfl (w.resolve_right hfe).2, fun w => absurd ?_ w⟩
      have c2 : Cn A B (fun g => Bl T ρ (ρ f) g ∨ g = f) (A e) (B e) := hm.2.1.mono fun g hg => by
        by_cases w : ρ g = ρ f
        · exact Or.inr (hi g f (Or.inl (h.1 g hg.1)) (Or.inl hf) w)
        · exact Or.inl ⟨hg.1, by have := hg.2; omega⟩
      rcases Cn.add c2 with c3 | c3
      · exact absurd c3 hm.2.2
      · have b := Br.swap (Br.mono (E' := Bl (fun k => U k ∨ k = e) ρ (ρ f)) (fun g hg => ⟨Or.inl (h.1 g hg.1), hg.2⟩) c3)
        exact b.cn (Cn.edge ⟨Or.inr rfl, hl⟩)
    · have e1 : ((T f ∧ f ≠ m) ∨ f = e) ↔ T f := ⟨fun w => (w.resolve_right hfe).1, fun w => Or.inl ⟨w, q⟩⟩
      show ((T f ∧ f ≠ m) ∨ f = e) ↔ _
      rw [e1, h.2 f hf]
      refine not_congr ⟨add_up, fun c => ?_⟩
      rcases add_new hne c with c | c
      · exact c
      · by_cases w : ρ m < ρ f
        · exact c.cn (h.bl.2 (hm.2.1.mono fun g hg => ⟨hg.1, by have := hg.2; omega⟩))
        · have w2 : ρ f ≠ ρ m := fun w2 => q (hi f m (Or.inl hf) (Or.inl hmU) w2)
          have b := Br.swap (c.mono (E' := Bl U ρ (ρ m)) fun g hg => ⟨hg.1, by have := hg.2; omega⟩)
          exact absurd (h.bl.1 (b.cn (Cn.edge ⟨hf, by omega⟩))) hm.2.2
  · refine ⟨fun _ c => ?_, fun _ => Or.inr rfl⟩
    have c2 := h.bl.1 (add_old hne (by omega) c)
    exact hm.2.2 (c2.mono fun g hg => ⟨hg.1, by have := hg.2; omega⟩)
theorem Kr.del0 (h : Kr A B ρ U T) (hu : U e) (ht : ¬ T e) : Kr A B ρ (fun k => U k ∧ k ≠ e) T := by
  refine ⟨fun g hg => ⟨h.1 g hg, fun w => ht (w ▸ hg)⟩, fun f hf => ?_⟩
  rw [h.2 f hf.1]
  refine not_congr ⟨fun c => ?_, fun c => c.mono fun g hg => ⟨hg.1.1, hg.2⟩⟩
  exact (h.bl.1 c).mono fun g hg => ⟨⟨h.1 g hg.1, fun w => ht (w ▸ hg.1)⟩, hg.2⟩
theorem Kr.crs (h : Kr A B ρ U T) (ht : T e) (hr : U r) (hn : ¬ T r) : Cn A B (Bl (fun k => T k ∧ k ≠ e) ρ (ρ r)) (A r) (B r) ∨ (ρ e < ρ r ∧ Br A B (Bl (fun k => T k ∧ k ≠ e) ρ (ρ r)) e (A r) (B r)) := by
  have c := h.bl.1 (Classical.byContradiction (fun w => hn ((h.2 r hr).2 w)))
  by_cases q : ρ e < ρ r
  · have c2 : Cn A B (fun g => Bl (fun k => T k ∧ k ≠ e) ρ (ρ r) g ∨ g = e) (A r) (B r) := c.mono fun g hg => by
      by_cases w : g = e
      · exact Or.inr w
      · exact Or.inl ⟨⟨hg.1, w⟩, hg.2⟩
    exact (Cn.add c2).imp id fun w => ⟨q, w⟩
  · exact Or.inl (c.mono fun g hg => ⟨⟨hg.1, fun w => q (w ▸ hg.2)⟩, hg.2⟩)
def Crs (A B : Nat → Nat) (E : Nat → Prop) (a f : Nat) : Prop := ¬ (Cn A B E a (A f) ↔ Cn A B E a (B f))
theorem Br.crs (hf : ¬ Cn A B E (A e) (B e)) (h : Br A B E e (A f) (B f)) : Crs A B E (A e) f := by
  intro q
  rcases h with h | h
  · exact hf ((q.1 h.1.symm).trans h.2.symm)
  · exact hf ((q.2 h.2).trans h.1)
theorem Kr.del (h : Kr A B ρ U T) (hi : Inj ρ U) (hb : ∀ e, U e → ρ e < θ) (ht : T e)
    (hr : ∀ f, U f → f ≠ e → ¬ T f → ¬ Crs A B (fun k => T k ∧ k ≠ e) (A e) f) : Kr A B ρ (fun k => U k ∧ k ≠ e) (fun k => T k ∧ k ≠ e) := by
  have hfo := h.forest hi hb ht
  refine ⟨fun g hg => ⟨h.1 g hg.1, hg.2⟩, fun f hf => ?_⟩
  by_cases q : T f
  · exact ⟨fun _ c => (h.2 f hf.1).1 q (c.mono fun g hg => ⟨hg.1.1, hg.2⟩), fun _ => ⟨q, hf.2⟩⟩
  · refine ⟨fun w => absurd w.1 q, fun w => absurd ?_ w⟩
    rcases h.crs ht hf.1 q with c | c
    · exact c.mono fun g hg => ⟨⟨h.1 g hg.1.1, hg.1.2⟩, hg.2⟩
    · exact absurd (Br.crs hfo (c.2.mono fun g hg => hg.1)) (hr f hf.1 hf.2 q)
theorem Kr.delr (h : Kr A B ρ U T) (hi : Inj ρ U) (hb : ∀ e, U e → ρ e < θ) (ht : T e) (hr : U r) (hre : r ≠ e) (hn : ¬ T r) (hc : Crs A B (fun k => T k ∧ k ≠ e) (A e) r)
    (hm : ∀ f, U f → f ≠ e → ¬ T f → Crs A B (fun k => T k ∧ k ≠ e) (A e) f → ρ r ≤ ρ f) : Kr A B ρ (fun k => U k ∧ k ≠ e) (fun k => (T k ∧ k ≠ e) ∨ k = r) := by
  have hfo := h.forest hi hb ht
  refine ⟨fun g hg => hg.elim (fun w => ⟨h.1 g w.1, w.2⟩) (fun w => by subst w; exact ⟨hr, hre⟩), fun f hf => ?_⟩
  by_cases q : T f
  · exact ⟨fun _ c => (h.2 f hf.1).1 q (c.mono fun g hg => ⟨hg.1.1, hg.2⟩), fun _ => Or.inl ⟨q, hf.2⟩⟩
  · by_cases w : f = r
    · subst w
      refine ⟨fun _ c => hc (c _ fun g hg => ?_), fun _ => Or.inr rfl⟩
      by_cases w : T g
      · exact Cn.cls g ⟨w, hg.1.2⟩
      · exact Classical.byContradiction fun k => by have := hm g hg.1.1 hg.1.2 w k; have := hg.2; omega
    · refine ⟨fun k => k.elim (fun k => absurd k.1 q) (fun k => absurd k w), fun k => absurd ?_ k⟩
      have up : ∀ g, Bl (fun k => T k ∧ k ≠ e) ρ (ρ f) g → Bl (fun k => U k ∧ k ≠ e) ρ (ρ f) g := fun g hg => ⟨⟨h.1 g hg.1.1, hg.1.2⟩, hg.2⟩
      rcases h.crs ht hf.1 q with c | c
      · exact c.mono up
      · have h1 := hm f hf.1 hf.2 q (Br.crs hfo (c.2.mono fun g hg => hg.1))
        have h2 : ρ r ≠ ρ f := fun k => w (hi f r hf.1 hr k.symm)
        rcases h.crs ht hr hn with d | d
        · exact absurd ⟨fun k => k.trans (d.mono fun g hg => hg.1), fun k => k.trans (d.symm.mono fun g hg => hg.1)⟩ hc
        · have d2 := (d.2.mono (E' := Bl (fun k => U k ∧ k ≠ e) ρ (ρ f)) fun g hg => ⟨⟨h.1 g hg.1.1, hg.1.2⟩, by have := hg.2; omega⟩)
          exact (c.2.mono up).cn (d2.inv (Cn.edge ⟨⟨hr, hre⟩, by omega⟩))
theorem Kr.cong (h : Kr A B ρ U T) (g : ∀ e, U e → A' e = A e ∧ B' e = B e ∧ ρ' e = ρ e) : Kr A' B' ρ' U T := by
  refine ⟨h.1, fun e he => ?_⟩
  rw [h.2 e he]
  have q := g e he
  rw [q.1, q.2.1, q.2.2]
  refine not_congr ⟨fun c => (c.cong fun k hk => ⟨(g k hk.1).1, (g k hk.1).2.1⟩).mono fun k hk => ⟨hk.1, by rw [(g k hk.1).2.2]; exact hk.2⟩, fun c => ?_⟩
  exact ((c.mono (E' := Bl U ρ (ρ e)) fun k hk => ⟨hk.1, by have := hk.2; rw [(g k hk.1).2.2] at this; exact this⟩).cong fun k hk => ⟨(g k hk.1).1.symm, (g k hk.1).2.1.symm⟩)
theorem Kr.iff (h : Kr A B ρ U T) (h1 : ∀ k, F k ↔ U k) (h2 : ∀ k, E k ↔ T k) : Kr A B ρ F E := by
  have e1 : F = U := funext fun k => propext (h1 k)
  have e2 : E = T := funext fun k => propext (h2 k)
  rw [e1, e2]; exact h
theorem Kr.uniq (h : Kr A B ρ U T) (g : Kr A B ρ U E) : ∀ e, T e ↔ E e := fun e => by
  by_cases q : U e
  · rw [h.2 e q, g.2 e q]
  · exact ⟨fun w => absurd (h.1 e w) q, fun w => absurd (g.1 e w) q⟩
end Th

section J
variable {lw : LW} {H : AH} {p j : Nat} {s s' s1 s2 g : St} {Q : Option Value → AH → Prop} {a b c d e x y t u v w z ex : Int32} {k n X Y i h : Nat}
theorem php : ∀ (n t : Nat) (f : Nat → Nat), (∀ i, i < t → f i < n) → (∀ i j, i < j → j < t → f i ≠ f j) → t ≤ n
  | 0, t, f, h1, _ => by
    by_cases q : t = 0
    · omega
    · have := h1 0 (by omega); omega
  | n + 1, t, f, h1, h2 => by
    by_cases q : ∃ i, i < t ∧ f i = n
    · obtain ⟨i0, q1, q2⟩ := q
      have := php n (t - 1) (fun i => if i < i0 then f i else f (i + 1)) (fun i hi => by
        show (if i < i0 then f i else f (i + 1)) < n
        split
        · rename_i w
          have := h1 i (by omega); have := h2 i i0 w q1; omega
        · rename_i w
          have := h1 (i + 1) (by omega); have := h2 i0 (i + 1) (by omega) (by omega); omega) (fun i j hij hj => by
        show (if i < i0 then f i else f (i + 1)) ≠ (if j < i0 then f j else f (j + 1))
        split
        · split
          · exact h2 i j hij (by omega)
          · exact h2 i (j + 1) (by omega) (by omega)
        · split
          · omega
          · exact h2 (i + 1) (j + 1) (by omega) (by omega))
      omega
    · have := php n t f (fun i hi => by
        have := h1 i hi
        have : f i ≠ n := fun w => q ⟨i, hi, w⟩
        omega) h2
      omega
def tn (t : Int32) : Nat := t.toInt.toNat
def Pq (g : St) (ex : Int32) (s : St) (i : Nat) : Prop := vi (sA s 9 (sA s 11 i).toNatClampNeg) = true ∧ sA g 5 (sA s 9 (sA s 11 i).toNatClampNeg).toNatClampNeg ≠ 0 ∧ sA s 9 (sA s 11 i).toNatClampNeg ≠ ex ∧
  (∃ j, j < i ∧ sA s 10 (sA s 11 i).toNatClampNeg = sA s 11 j) ∧
  ((sA g 1 (sA s 9 (sA s 11 i).toNatClampNeg).toNatClampNeg = sA s 11 i ∧ sA g 2 (sA s 9 (sA s 11 i).toNatClampNeg).toNatClampNeg = sA s 10 (sA s 11 i).toNatClampNeg) ∨
   (sA g 2 (sA s 9 (sA s 11 i).toNatClampNeg).toNatClampNeg = sA s 11 i ∧ sA g 1 (sA s 9 (sA s 11 i).toNatClampNeg).toNatClampNeg = sA s 10 (sA s 11 i).toNatClampNeg))
def Qi (g : St) (a ex : Int32) (s : St) (t : Nat) : Prop := Sr g s ∧ (1 ≤ t ∧ t ≤ 32) ∧ sA s 11 0 = a ∧ sA s 9 a.toNatClampNeg = -1 ∧
  (∀ i, i < t → (0 ≤ (sA s 11 i).toInt ∧ (sA s 11 i).toInt < 32) ∧ sA s 8 (sA s 11 i).toNatClampNeg = 1) ∧
  (∀ v, v < 32 → sA s 8 v = 0 ∨ ∃ i, i < t ∧ (sA s 11 i).toNatClampNeg = v) ∧
  (∀ i j, i < j → j < t → sA s 11 i ≠ sA s 11 j) ∧ ∀ i, 0 < i → i < t → Pq g ex s i
def Mo (s : St) (t : Nat) (s' : St) (t' : Nat) : Prop := t ≤ t' ∧ (∀ v, sA s 8 v = 1 → sA s' 8 v = 1) ∧ ∀ i, i < t → sA s' 11 i = sA s 11 i
theorem Mo.refl {t : Nat} : Mo s t s t := ⟨Nat.le_refl _, fun _ h => h, fun _ _ => rfl⟩
theorem Mo.trans {t t1 t2 : Nat} (h : Mo s t s1 t1) (q : Mo s1 t1 s2 t2) : Mo s t s2 t2 := ⟨Nat.le_trans h.1 q.1, fun v w => q.2.1 v (h.2.1 v w), fun i hi => (q.2.2 i (Nat.lt_of_lt_of_le hi h.1)).trans (h.2.2 i hi)⟩
theorem Qi.lt {t : Nat} (hq : Qi g a ex s t) (hX : X < 32) (h0 : sA s 8 X = 0) : t < 32 := by
  obtain ⟨h1, h2, h3, h4, h5, h6, h7, h8⟩ := hq
  have := php 32 (t + 1) (fun i => if i < t then (sA s 11 i).toNatClampNeg else X) (fun i hi => by
    show (if i < t then (sA s 11 i).toNatClampNeg else X) < 32
    split
    · rename_i w; have := (h5 i w).1; rw [cln]; omega
    · exact hX) (fun i j hij hj => by
    show (if i < t then (sA s 11 i).toNatClampNeg else X) ≠ (if j < t then (sA s 11 j).toNatClampNeg else X)
    rw [if_pos (by omega)]
    split
    · rename_i w
      exact fun q => h7 i j hij w (cl_inj (h5 i (by omega)).1.1 (h5 j w).1.1 q)
    · intro q
      have := (h5 i (by omega)).2
      rw [q, h0] at this; exact absurd this (by decide))
  omega
theorem oE_of (hS : Sr g s) : oE s z x = oE g z x := by
  unfold oE; rw [hS.2.2.1 1 (by decide) (by decide) (by decide) (by decide), hS.2.2.1 2 (by decide) (by decide) (by decide) (by decide)]
theorem oE_mem (hI : Iv g) (hx : 0 ≤ x.toInt ∧ x.toInt < 32) (hm : MEM g x.toNatClampNeg z) : (vi z = true ∧ sA g 5 z.toNatClampNeg ≠ 0) ∧ (0 ≤ (oE g z x).toInt ∧ (oE g z x).toInt < 32) ∧
    ((sA g 1 z.toNatClampNeg = oE g z x ∧ sA g 2 z.toNatClampNeg = x) ∨ (sA g 2 z.toNatClampNeg = oE g z x ∧ sA g 1 z.toNatClampNeg = x)) := by
  obtain ⟨m1, m2, m3⟩ := (hI.2.2.2.2 x.toNatClampNeg (by rw [cln]; omega)).2 z hm
  have en := hI.2.1 _ (vi_cl m1)
  have nn := hI.2.2.1.2
  refine ⟨⟨m1, m2⟩, ?_⟩
  unfold oE
  by_cases q : sA g 1 z.toNatClampNeg = x
  · rw [if_pos q]; exact ⟨by omega, Or.inr ⟨rfl, q⟩⟩
  · rw [if_neg q]
    have q2 : sA g 2 z.toNatClampNeg = x := m3.elim (fun w => absurd (cl_inj en.1.1 hx.1 w) q) (fun w => cl_inj en.2.1 hx.1 w)
    rw [if_pos q2]; exact ⟨by omega, Or.inl ⟨rfl, q2⟩⟩
theorem vs1_Qi (hI : Iv g) (ht : 0 ≤ t.toInt) (hq : Qi g a ex s (tn t)) (hh : h < tn t) (hx : sA s 11 h = x) (hm : MEM g x.toNatClampNeg z) :
    Qi g a ex (vs1 s x ex z t).1 (tn (vs1 s x ex z t).2) ∧ 0 ≤ (vs1 s x ex z t).2.toInt ∧ Mo s (tn t) (vs1 s x ex z t).1 (tn (vs1 s x ex z t).2) ∧ (z ≠ ex → sA (vs1 s x ex z t).1 8 (oE g z x).toNatClampNeg = 1) := by
  have rx : 0 ≤ x.toInt ∧ x.toInt < 32 := by have := (hq.2.2.2.2.1 h hh).1; rw [hx] at this; exact this
  obtain ⟨⟨m1, m2⟩, r, m3⟩ := oE_mem hI rx hm
  have hS := hq.1
  have eo : oE s z x = oE g z x := oE_of hS
  unfold vs1
  by_cases q1 : z = ex
  · rw [if_pos (Or.inl q1)]; exact ⟨hq, ht, Mo.refl, fun w => absurd q1 w⟩
  rw [if_neg (by rw [m1]; simp [q1]), eo]
  generalize hy : oE g z x = y at *
  have ry : y.toNatClampNeg < 32 := by rw [cln]; omega
  by_cases q2 : sA s 8 y.toNatClampNeg = 0
  rotate_left
  · rw [if_pos (Or.inr (Or.inr (Or.inl q2)))]
    refine ⟨hq, ht, Mo.refl, fun _ => ?_⟩
    obtain ⟨i, w1, w2⟩ := (hq.2.2.2.2.2.1 _ ry).resolve_left q2
    have := (hq.2.2.2.2.1 i w1).2; rw [w2] at this; exact this
  have hlt := hq.lt ry q2
  have t32 : t.toInt < 32 := by unfold tn at hlt; omega
  rw [if_neg (by
    rw [lt32, lt32, lt32]; simp only [Int32.reduceToInt, q2, not_true_eq_false, false_or]; omega)]
  have ht1 : (t + 1).toInt = t.toInt + 1 := ia (by simp only [Int32.reduceToInt]; omega) (by simp only [Int32.reduceToInt]; omega)
  have htn : tn (t + 1) = tn t + 1 := by unfold tn; omega
  have htc : t.toNatClampNeg = tn t := rfl
  show Qi g a ex (uA (uA (uA (uA s 8 y.toNatClampNeg 1) 9 y.toNatClampNeg z) 10 y.toNatClampNeg x) 11 t.toNatClampNeg y) (tn (t + 1)) ∧ _ ≤ (t + 1).toInt ∧ Mo s (tn t) (uA (uA (uA (uA s 8 y.toNatClampNeg 1) 9 y.toNatClampNeg z) 10 y.toNatClampNeg x) 11 t.toNatClampNeg y) (tn (t + 1)) ∧ (_ → sA (uA (uA (uA (uA s 8 y.toNatClampNeg 1) 9 y.toNatClampNeg z) 10 y.toNatClampNeg x) 11 t.toNatClampNeg y) 8 y.toNatClampNeg = 1)
  rw [htc, htn]
  have S' : Sr s (uA (uA (uA (uA s 8 y.toNatClampNeg 1) 9 y.toNatClampNeg z) 10 y.toNatClampNeg x) 11 (tn t) y) := (Sr_uA (by simp)).trans ((Sr_uA (by simp)).trans ((Sr_uA (by simp)).trans (Sr_uA (by simp))))
  have a8 : ∀ i, sA (uA (uA (uA (uA s 8 y.toNatClampNeg 1) 9 y.toNatClampNeg z) 10 y.toNatClampNeg x) 11 (tn t) y) 8 i = if i = y.toNatClampNeg then 1 else sA s 8 i := fun i => by
    simp only [sA_uA, Nat.reduceEqDiff, false_and, if_false, true_and]
  have a9 : ∀ i, sA (uA (uA (uA (uA s 8 y.toNatClampNeg 1) 9 y.toNatClampNeg z) 10 y.toNatClampNeg x) 11 (tn t) y) 9 i = if i = y.toNatClampNeg then z else sA s 9 i := fun i => by
    simp only [sA_uA, Nat.reduceEqDiff, false_and, if_false, true_and]
  have a10 : ∀ i, sA (uA (uA (uA (uA s 8 y.toNatClampNeg 1) 9 y.toNatClampNeg z) 10 y.toNatClampNeg x) 11 (tn t) y) 10 i = if i = y.toNatClampNeg then x else sA s 10 i := fun i => by
    simp only [sA_uA, Nat.reduceEqDiff, false_and, if_false, true_and]
  have a11 : ∀ i, sA (uA (uA (uA (uA s 8 y.toNatClampNeg 1) 9 y.toNatClampNeg z) 10 y.toNatClampNeg x) 11 (tn t) y) 11 i = if i = tn t then y else sA s 11 i := fun i => by
    simp only [sA_uA, Nat.reduceEqDiff, false_and, if_false, true_and]
  generalize uA (uA (uA (uA s 8 y.toNatClampNeg 1) 9 y.toNatClampNeg z) 10 y.toNatClampNeg x) 11 (tn t) y = s' at *
  obtain ⟨h1, h2, h3, h4, h5, h6, h7, h8⟩ := hq
  have hne : ∀ i, i < tn t → (sA s 11 i).toNatClampNeg ≠ y.toNatClampNeg := fun i hi w => by
    have := (h5 i hi).2; rw [w, q2] at this; exact absurd this (by decide)
  have o11 : ∀ i, i < tn t → sA s' 11 i = sA s 11 i := fun i hi => by rw [a11, if_neg (by omega)]
  have n11 : sA s' 11 (tn t) = y := by rw [a11, if_pos rfl]
  refine ⟨⟨h1.trans S', by omega, by rw [o11 0 (by omega)]; exact h3, ?_, fun i hi => ?_, fun V hV => ?_, fun i j hij hj => ?_, fun i h0 hi => ?_⟩, by omega, ⟨by omega, fun V hV => ?_, o11⟩, fun _ => by rw [a8, if_pos rfl]⟩
  · rw [a9, if_neg (by rw [← h3]; exact hne 0 (by omega))]; exact h4
  · by_cases w : i = tn t
    · subst w; rw [n11, a8, if_pos rfl]; exact ⟨r, rfl⟩
    · rw [o11 i (by omega), a8, if_neg (hne i (by omega))]; exact h5 i (by omega)
  · by_cases w : V = y.toNatClampNeg
    · exact Or.inr ⟨tn t, by omega, by rw [n11, w]⟩
    · rw [a8, if_neg w]
      exact (h6 V hV).imp id fun ⟨i, w1, w2⟩ => ⟨i, by omega, by rw [o11 i w1]; exact w2⟩
  · rw [o11 i (by omega)]
    by_cases w : j = tn t
    · subst w; rw [n11]; exact fun k => hne i (by omega) (by rw [k])
    · rw [o11 j (by omega)]; exact h7 i j hij (by omega)
  · unfold Pq
    by_cases w : i = tn t
    · subst w
      rw [n11, a9, if_pos rfl, a10, if_pos rfl]
      exact ⟨m1, m2, q1, ⟨h, hh, by rw [o11 h hh]; exact hx.symm⟩, m3⟩
    · have hi' : i < tn t := by omega
      rw [o11 i hi', a9, if_neg (hne i hi'), a10, if_neg (hne i hi')]
      obtain ⟨p1, p2, p3, ⟨j, p4, p5⟩, p6⟩ := h8 i h0 hi'
      exact ⟨p1, p2, p3, ⟨j, p4, by rw [o11 j (by omega)]; exact p5⟩, p6⟩
  · rw [a8]; split
    · rfl
    · exact hV
theorem vsF_Qi (hI : Iv g) : ∀ (m j : Nat) (q : St × Int32), 0 ≤ q.2.toInt → Qi g a ex q.1 (tn q.2) → h < tn q.2 → sA q.1 11 h = x → j + m ≤ dN g x.toNatClampNeg →
    Qi g a ex (vsF x ex j m q).1 (tn (vsF x ex j m q).2) ∧ 0 ≤ (vsF x ex j m q).2.toInt ∧ Mo q.1 (tn q.2) (vsF x ex j m q).1 (tn (vsF x ex j m q).2) ∧ (∀ i, j ≤ i → i < j + m → sA g 6 (x.toNatClampNeg * 32 + i) ≠ ex → sA (vsF x ex j m q).1 8 (oE g (sA g 6 (x.toNatClampNeg * 32 + i)) x).toNatClampNeg = 1)
  | 0, j, q, h0, hq, hh, hx, hm => ⟨hq, h0, Mo.refl, fun i h1 h2 => by omega⟩
  | m + 1, j, q, h0, hq, hh, hx, hm => by
    unfold vsF
    have e6 : sA q.1 6 = sA g 6 := hq.1.2.2.1 6 (by decide) (by decide) (by decide) (by decide)
    obtain ⟨r1, r2, r3, r4⟩ := vs1_Qi (z := sA q.1 6 (x.toNatClampNeg * 32 + j)) hI h0 hq hh hx ⟨j, by omega, by rw [e6]⟩
    have ih := vsF_Qi hI m (j + 1) (vs1 q.1 x ex (sA q.1 6 (x.toNatClampNeg * 32 + j)) q.2) r2 r1 (by have := r3.1; omega) (by rw [r3.2.2 h hh]; exact hx) (by omega)
    refine ⟨ih.1, ih.2.1, r3.trans ih.2.2.1, fun i h1 h2 h3 => ?_⟩
    by_cases w : i = j
    · subst w; exact ih.2.2.1.2.1 _ (by rw [e6] at r4 ⊢; exact r4 h3)
    · exact ih.2.2.2 i (by omega) (by omega) h3
def Dn (g : St) (ex : Int32) (s : St) (h : Nat) : Prop := ∀ i, i < h → ∀ z, MEM g (sA s 11 i).toNatClampNeg z → z ≠ ex → sA s 8 (oE g z (sA s 11 i)).toNatClampNeg = 1
theorem exF_Qi (hI : Iv g) : ∀ (m i : Nat) (q : St × Int32), i + m = 32 → 0 ≤ q.2.toInt → Qi g a ex q.1 (tn q.2) → i ≤ tn q.2 → Dn g ex q.1 i →
    Qi g a ex (exF ex i m q).1 (tn (exF ex i m q).2) ∧ Dn g ex (exF ex i m q).1 (tn (exF ex i m q).2)
  | 0, i, q, hm, h0, hq, hi, hd => ⟨hq, fun k hk => hd k (by have := hq.2.1.2; unfold exF at hk; omega)⟩
  | m + 1, i, q, hm, h0, hq, hi, hd => by
    unfold exF
    by_cases w : (i : Int) < q.2.toInt
    · rw [if_pos w]
      have hi' : i < tn q.2 := by unfold tn; omega
      have r := (hq.2.2.2.2.1 i hi').1
      have eV : vis q (sA q.1 11 i) ex = vsF (sA q.1 11 i) ex 0 (dN q.1 (sA q.1 11 i).toNatClampNeg) q := by
        unfold vis; rw [if_neg (by rw [lt32, lt32]; simp only [Int32.reduceToInt]; omega)]
      have e7 : dN q.1 (sA q.1 11 i).toNatClampNeg = dN g (sA q.1 11 i).toNatClampNeg := by unfold dN; rw [hq.1.2.2.1 7 (by decide) (by decide) (by decide) (by decide)]
      obtain ⟨r1, r2, r3, r4⟩ := vsF_Qi (a := a) (ex := ex) (h := i) (x := sA q.1 11 i) hI (dN g (sA q.1 11 i).toNatClampNeg) 0 q h0 hq hi' rfl (by omega)
      rw [eV, e7]
      refine exF_Qi hI m (i + 1) _ (by omega) r2 r1 (by have := r3.1; omega) (fun k hk z hz hne => ?_)
      rw [r3.2.2 k (by omega)] at hz ⊢
      by_cases v : k = i
      · subst v
        obtain ⟨κ, k1, k2⟩ := hz
        subst k2
        exact r4 κ (Nat.zero_le _) (by omega) hne
      · exact r3.2.1 _ (hd k (by omega) z hz hne)
    · rw [if_neg w]
      exact ⟨hq, fun k hk => hd k (by unfold tn at hk; omega)⟩
theorem F2_0 (h : X < 32) : sA (F2 s 0) 8 X = 0 ∧ sA (F2 s 0) 9 X = -1 := by
  unfold F2; simp only [sA_fA, Nat.reduceEqDiff, false_and, if_false, true_and, Nat.zero_le, h, if_true, and_self]
theorem exq_Qi (hI : Iv s) (ha : 0 ≤ a.toInt ∧ a.toInt < 32) : Qi s a ex (exq s a ex).1 (tn (exq s a ex).2) ∧ Dn s ex (exq s a ex).1 (tn (exq s a ex).2) := by
  unfold exq
  have hac : a.toNatClampNeg < 32 := by rw [cln]; omega
  refine exF_Qi hI 32 0 (_, _) (by decide) (show 0 ≤ (1 : Int32).toInt by decide) ?_ (Nat.zero_le _) (fun i hi => by omega)
  show Qi s a ex (uA (uA (F2 s 0) 8 a.toNatClampNeg 1) 11 0 a) 1
  have a8 : ∀ i, sA (uA (uA (F2 s 0) 8 a.toNatClampNeg 1) 11 0 a) 8 i = if i = a.toNatClampNeg then 1 else sA (F2 s 0) 8 i := fun i => by
    simp only [sA_uA, Nat.reduceEqDiff, false_and, if_false, true_and]
  have a9 : ∀ i, sA (uA (uA (F2 s 0) 8 a.toNatClampNeg 1) 11 0 a) 9 i = sA (F2 s 0) 9 i := fun i => by
    simp only [sA_uA, Nat.reduceEqDiff, false_and, if_false, true_and]
  have a11 : sA (uA (uA (F2 s 0) 8 a.toNatClampNeg 1) 11 0 a) 11 0 = a := by simp only [sA_uA, and_self, if_true]
  refine ⟨F2_Sr.trans ((Sr_uA (by simp)).trans (Sr_uA (by simp))), by omega, a11, by rw [a9]; exact (F2_0 hac).2, fun i hi => ?_, fun V hV => ?_, fun i j h1 h2 => by omega, fun i h1 h2 => by omega⟩
  · have : i = 0 := by omega
    subst this
    rw [a11, a8, if_pos rfl]; exact ⟨ha, rfl⟩
  · by_cases w : V = a.toNatClampNeg
    · exact Or.inr ⟨0, by omega, by rw [a11, w]⟩
    · rw [a8, if_neg w]; exact Or.inl (F2_0 hV).1
end J

section K
variable {lw : LW} {H : AH} {p j : Nat} {s s' s1 s2 g : St} {Q : Option Value → AH → Prop} {a b c d e x y t u v w z ex : Int32} {k n X Y i h : Nat}
def gA (s : St) (e : Nat) : Nat := (sA s 1 e).toNatClampNeg
def gB (s : St) (e : Nat) : Nat := (sA s 2 e).toNatClampNeg
def gU (s : St) (e : Nat) : Prop := e < 128 ∧ sA s 4 e ≠ 0
def gT (s : St) (e : Nat) : Prop := e < 128 ∧ sA s 5 e ≠ 0
def gR (s : St) (e : Nat) : Nat := ((sA s 3 e).toInt + 2147483648).toNat * 128 + e
abbrev gC (s : St) (E : Nat → Prop) (X Y : Nat) : Prop := Cn (gA s) (gB s) E X Y
theorem gR_inj : Inj (gR s) (fun e => e < 128) := fun e f h1 h2 h3 => by
  unfold gR at h3; have h1' : e < 128 := h1; have h2' : f < 128 := h2; omega
theorem gR_injU : Inj (gR s) (gU s) := fun e f h1 h2 h3 => gR_inj e f h1.1 h2.1 h3
theorem gR_lt (h : i < 128) : gR s i < 549755813888 := by
  unfold gR; have := rg32 (sA s 3 i); omega
theorem pc_iff (ha : vi a = true) (hb : vi b = true) : pc s a b = true ↔ gR s a.toNatClampNeg < gR s b.toNatClampNeg := by
  have r1 := vi_cl ha
  have r2 := vi_cl hb
  have r3 := vi_rg ha
  have r4 := vi_rg hb
  have r5 := rg32 (sA s 3 a.toNatClampNeg)
  have r6 := rg32 (sA s 3 b.toNatClampNeg)
  unfold pc gR
  by_cases q : sA s 3 a.toNatClampNeg = sA s 3 b.toNatClampNeg
  · rw [if_pos q, q, decide_eq_true_eq, lt32]
    have c1 : a.toNatClampNeg = a.toInt.toNat := cln
    have c2 : b.toNatClampNeg = b.toInt.toNat := cln
    omega
  · rw [if_neg q, decide_eq_true_eq, lt32]
    have : (sA s 3 a.toNatClampNeg).toInt ≠ (sA s 3 b.toNatClampNeg).toInt := fun w => q (eq32.2 w)
    omega
theorem ofi (h : i < 128) : (Int32.ofNat i).toInt = i ∧ (Int32.ofNat i).toNatClampNeg = i ∧ vi (Int32.ofNat i) = true := by
  have e : (Int32.ofNat i).toInt = i := Int32.toInt_ofNat_of_lt (by omega)
  exact ⟨e, by rw [cln, e]; omega, vi_t (by omega)⟩
theorem ofv (h : vi z = true) : Int32.ofNat z.toNatClampNeg = z := by
  have := vi_rg h
  rw [eq32, (ofi (vi_cl h)).1, cln]; omega
def Cp (s : St) : Prop := ∀ e, gT s e → MEM s (gA s e) (Int32.ofNat e) ∧ MEM s (gB s e) (Int32.ofNat e)
def gX (s : St) (ex : Int32) (e : Nat) : Prop := gT s e ∧ Int32.ofNat e ≠ ex
theorem Qi.cn {t : Nat} (hq : Qi g a ex s t) : ∀ (m i : Nat), i < m → i < t → gC g (gX g ex) a.toNatClampNeg (sA s 11 i).toNatClampNeg
  | 0, i, h, _ => by omega
  | m + 1, i, h, hi => by
    obtain ⟨h1, h2, h3, h4, h5, h6, h7, h8⟩ := hq
    by_cases w : i = 0
    · subst w; rw [h3]; exact Cn.refl
    · obtain ⟨p1, p2, p3, ⟨j, p4, p5⟩, p6⟩ := h8 i (by omega) hi
      have ih := Qi.cn ⟨h1, h2, h3, h4, h5, h6, h7, h8⟩ m j (by omega) (by omega)
      have ed : gC g (gX g ex) (gA g (sA s 9 (sA s 11 i).toNatClampNeg).toNatClampNeg) (gB g (sA s 9 (sA s 11 i).toNatClampNeg).toNatClampNeg) := Cn.edge ⟨⟨vi_cl p1, p2⟩, by rw [ofv p1]; exact p3⟩
      unfold gA gB at ed
      rcases p6 with p6 | p6
      · rw [p6.1, p6.2, p5] at ed; exact ih.trans ed.symm
      · rw [p6.1, p6.2, p5] at ed; exact ih.trans ed
theorem seen01 (hI : Iv s) (ha : 0 ≤ a.toInt ∧ a.toInt < 32) (hX : X < 32) : sA (exq s a ex).1 8 X = 0 ∨ sA (exq s a ex).1 8 X = 1 := by
  have hq := (exq_Qi (ex := ex) hI ha).1
  refine (hq.2.2.2.2.2.1 X hX).imp id fun ⟨i, w1, w2⟩ => ?_
  have := (hq.2.2.2.2.1 i w1).2; rw [w2] at this; exact this
theorem seen_iff (hI : Iv s) (hc : Cp s) (ha : 0 ≤ a.toInt ∧ a.toInt < 32) (hX : X < 32) : sA (exq s a ex).1 8 X = 1 ↔ gC s (gX s ex) a.toNatClampNeg X := by
  obtain ⟨hq, hd⟩ := exq_Qi (ex := ex) hI ha
  have fi : ∀ V, V < 32 → sA (exq s a ex).1 8 V = 1 → ∃ i, i < tn (exq s a ex).2 ∧ (sA (exq s a ex).1 11 i).toNatClampNeg = V := fun V hV h => by
    exact (hq.2.2.2.2.2.1 V hV).resolve_left (by rw [h]; decide)
  constructor
  · intro h
    obtain ⟨i, w1, w2⟩ := fi X hX h
    rw [← w2]; exact hq.cn (i + 1) i (by omega) w1
  · intro h
    have key : ∀ e, gX s ex e → ((gA s e < 32 ∧ sA (exq s a ex).1 8 (gA s e) = 1) ↔ (gB s e < 32 ∧ sA (exq s a ex).1 8 (gB s e) = 1)) := fun e he => by
      have en := hI.2.1 e he.1.1
      have cl := hI.2.1.cl hI.2.2.1 he.1.1
      have cp := hc e he.1
      have ec := (ofi he.1.1).2.1
      constructor
      · rintro ⟨q1, q2⟩
        refine ⟨cl.2, ?_⟩
        obtain ⟨i, w1, w2⟩ := fi _ q1 q2
        have ei : sA (exq s a ex).1 11 i = sA s 1 e := cl_inj (hq.2.2.2.2.1 i w1).1.1 en.1.1 w2
        have := hd i w1 (Int32.ofNat e) (by rw [w2]; exact cp.1) he.2
        unfold oE at this; rw [ec, ei, if_pos rfl] at this; exact this
      · rintro ⟨q1, q2⟩
        refine ⟨cl.1, ?_⟩
        obtain ⟨i, w1, w2⟩ := fi _ q1 q2
        have ei : sA (exq s a ex).1 11 i = sA s 2 e := cl_inj (hq.2.2.2.2.1 i w1).1.1 en.2.1 w2
        have := hd i w1 (Int32.ofNat e) (by rw [w2]; exact cp.2) he.2
        unfold oE at this; rw [ec, ei] at this
        by_cases q : sA s 1 e = sA s 2 e
        · unfold gA; rw [q]; exact q2
        · rw [if_neg q, if_pos rfl] at this; exact this
    have r := (h (fun V => V < 32 ∧ sA (exq s a ex).1 8 V = 1) key).1 ⟨by rw [cln]; omega, ?_⟩
    · exact r.2
    · have := (hq.2.2.2.2.1 0 (by have := hq.2.1; omega)).2
      rw [hq.2.2.1] at this; exact this
theorem Qi.ne {t : Nat} (hq : Qi g a ex s t) (h0 : 0 < j) (hij : j < i) (hi : i < t) : sA s 9 (sA s 11 j).toNatClampNeg ≠ sA s 9 (sA s 11 i).toNatClampNeg := by
  obtain ⟨h1, h2, h3, h4, h5, h6, h7, h8⟩ := hq
  obtain ⟨p1, p2, p3, ⟨j1, p4, p5⟩, p6⟩ := h8 i (by omega) hi
  obtain ⟨r1, r2, r3, ⟨j2, r4, r5⟩, r6⟩ := h8 j h0 (by omega)
  intro q
  rw [q] at r6
  have n1 := h7 j i hij hi
  have n2 := h7 j2 i (by omega) hi
  rcases p6 with p6 | p6 <;> rcases r6 with r6 | r6
  · exact n1 (r6.1.symm.trans p6.1)
  · exact n2 (by rw [← r5, ← r6.2]; exact p6.1)
  · exact n2 (by rw [← r5, ← r6.2]; exact p6.1)
  · exact n1 (r6.1.symm.trans p6.1)
theorem Qi.cne {t : Nat} (hq : Qi g a ex s t) (hi : i < t) : ∀ (m j : Nat), j < m → j < i → gC g (fun k => gT g k ∧ k ≠ (sA s 9 (sA s 11 i).toNatClampNeg).toNatClampNeg) a.toNatClampNeg (sA s 11 j).toNatClampNeg
  | 0, j, h, _ => by omega
  | m + 1, j, h, hj => by
    by_cases w : j = 0
    · subst w; rw [hq.2.2.1]; exact Cn.refl
    · have hne := hq.ne (by omega) hj hi
      have pi := hq.2.2.2.2.2.2.2 i (by omega) hi
      obtain ⟨p1, p2, p3, ⟨j1, p4, p5⟩, p6⟩ := hq.2.2.2.2.2.2.2 j (by omega) (by omega)
      have ih := Qi.cne hq hi m j1 (by omega) (by omega)
      have ed : gC g (fun k => gT g k ∧ k ≠ (sA s 9 (sA s 11 i).toNatClampNeg).toNatClampNeg) (gA g (sA s 9 (sA s 11 j).toNatClampNeg).toNatClampNeg) (gB g (sA s 9 (sA s 11 j).toNatClampNeg).toNatClampNeg) := Cn.edge ⟨⟨vi_cl p1, p2⟩, fun w => hne (inj_vi p1 pi.1 w)⟩
      unfold gA gB at ed
      rcases p6 with p6 | p6
      · rw [p6.1, p6.2, p5] at ed; exact ih.trans ed.symm
      · rw [p6.1, p6.2, p5] at ed; exact ih.trans ed
theorem Qi.hv {t : Nat} (hq : Qi g a ex s t) (hf : ∀ e, gT g e → ¬ gC g (fun k => gT g k ∧ k ≠ e) (gA g e) (gB g e)) : ∀ (m i : Nat) (best : Int32), i < m → i < t → (best = -1 ∨ vi best = true) →
    (hvF s m best (sA s 11 i) = -1 → best = -1 ∧ i = 0) ∧ (hvF s m best (sA s 11 i) ≠ -1 → vi (hvF s m best (sA s 11 i)) = true ∧ gC g (Bl (gT g) (gR g) (gR g (hvF s m best (sA s 11 i)).toNatClampNeg + 1)) a.toNatClampNeg (sA s 11 i).toNatClampNeg) ∧
    (best ≠ -1 → hvF s m best (sA s 11 i) ≠ -1 ∧ gR g best.toNatClampNeg ≤ gR g (hvF s m best (sA s 11 i)).toNatClampNeg) ∧
    (hvF s m best (sA s 11 i) = best ∨ (gT g (hvF s m best (sA s 11 i)).toNatClampNeg ∧ ¬ gC g (fun k => gT g k ∧ k ≠ (hvF s m best (sA s 11 i)).toNatClampNeg) a.toNatClampNeg (sA s 11 i).toNatClampNeg))
  | 0, i, best, h, _, _ => by omega
  | m + 1, i, best, h, hi, hb => by
    have r := (hq.2.2.2.2.1 i hi).1
    have g3 : gR s = gR g := by funext k; unfold gR; rw [hq.1.2.2.1 3 (by decide) (by decide) (by decide) (by decide)]
    unfold hvF
    rw [if_neg (by rw [lt32, lt32]; simp only [Int32.reduceToInt]; omega)]
    by_cases w : i = 0
    · subst w
      rw [hq.2.2.1, hq.2.2.2.1, if_pos rfl]
      exact ⟨fun q => ⟨q, rfl⟩, fun q => ⟨hb.resolve_left q, Cn.refl⟩, fun q => ⟨q, Nat.le_refl _⟩, Or.inl rfl⟩
    · have hc := hq.cne hi (i + 1)
      obtain ⟨p1, p2, p3, ⟨j, p4, p5⟩, p6⟩ := hq.2.2.2.2.2.2.2 i (by omega) hi
      have hcj := hc j (by omega) p4
      rw [if_neg (m1_vi p1), p5]
      have tE : gT g (sA s 9 (sA s 11 i).toNatClampNeg).toNatClampNeg := ⟨vi_cl p1, p2⟩
      have fE := hf _ tE
      have p6' : (gA g (sA s 9 (sA s 11 i).toNatClampNeg).toNatClampNeg = (sA s 11 i).toNatClampNeg ∧ gB g (sA s 9 (sA s 11 i).toNatClampNeg).toNatClampNeg = (sA s 11 j).toNatClampNeg) ∨ (gB g (sA s 9 (sA s 11 i).toNatClampNeg).toNatClampNeg = (sA s 11 i).toNatClampNeg ∧ gA g (sA s 9 (sA s 11 i).toNatClampNeg).toNatClampNeg = (sA s 11 j).toNatClampNeg) := by
        unfold gA gB; rw [← p5]; exact p6.imp (fun w => ⟨by rw [w.1], by rw [w.2]⟩) (fun w => ⟨by rw [w.1], by rw [w.2]⟩)
      clear p6 p3 p5
      generalize sA s 9 (sA s 11 i).toNatClampNeg = e at *
      have jn : ∀ (E : Nat → Prop), E e.toNatClampNeg → gC g E (sA s 11 j).toNatClampNeg (sA s 11 i).toNatClampNeg := fun E hE => by
        have ed : gC g E (gA g e.toNatClampNeg) (gB g e.toNatClampNeg) := Cn.edge hE
        rcases p6' with p6 | p6
        · rw [p6.1, p6.2] at ed; exact ed.symm
        · rw [p6.1, p6.2] at ed; exact ed
      have hB : vi (hvy s best e) = true ∧ (best ≠ -1 → gR g best.toNatClampNeg ≤ gR g (hvy s best e).toNatClampNeg) ∧ gR g e.toNatClampNeg ≤ gR g (hvy s best e).toNatClampNeg ∧ (hvy s best e = best ∨ hvy s best e = e) := by
        unfold hvy
        by_cases q1 : best = -1
        · rw [if_pos q1]; exact ⟨p1, fun w => absurd q1 w, Nat.le_refl _, Or.inr rfl⟩
        · rw [if_neg q1, if_neg (m1_vi p1)]
          have vb := hb.resolve_left q1
          have pi := pc_iff (s := s) vb p1
          rw [g3] at pi
          by_cases q2 : pc s best e = true
          · rw [if_pos q2]; exact ⟨p1, fun _ => Nat.le_of_lt (pi.1 q2), Nat.le_refl _, Or.inr rfl⟩
          · rw [if_neg q2]
            have : ¬ gR g best.toNatClampNeg < gR g e.toNatClampNeg := fun w => q2 (pi.2 w)
            exact ⟨vb, fun _ => Nat.le_refl _, by omega, Or.inl rfl⟩
      have nb := m1_vi hB.1
      obtain ⟨i1, i2, i3, i4⟩ := Qi.hv hq hf m j (hvy s best e) (by omega) (by omega) (Or.inr hB.1)
      obtain ⟨i5, i6⟩ := i3 nb
      obtain ⟨i7, i8⟩ := i2 i5
      generalize hvF s m (hvy s best e) (sA s 11 j) = r at *
      refine ⟨fun q => absurd q i5, fun _ => ⟨i7, i8.trans (jn _ ⟨tE, by omega⟩)⟩, fun q => ⟨i5, by have := hB.2.1 q; omega⟩, ?_⟩
      have cut : ¬ gC g (fun k => gT g k ∧ k ≠ e.toNatClampNeg) a.toNatClampNeg (sA s 11 i).toNatClampNeg := fun q => fE (by
        have := hcj.symm.trans q
        rcases p6' with p6 | p6
        · rw [p6.1, p6.2]; exact this.symm
        · rw [p6.1, p6.2]; exact this)
      rcases i4 with i4 | ⟨i4, i9⟩
      · rcases hB.2.2.2 with q | q
        · exact Or.inl (i4.trans q)
        · right; rw [i4, q]; exact ⟨tE, cut⟩
      · right
        refine ⟨i4, fun q => ?_⟩
        by_cases w : e.toNatClampNeg = r.toNatClampNeg
        · rw [← w] at q; exact cut q
        · exact i9 (q.trans (jn _ ⟨tE, w⟩).symm)
theorem hv_bn (hI : Iv s) (ha : 0 ≤ a.toInt ∧ a.toInt < 32) (hb : 0 ≤ b.toInt ∧ b.toInt < 32) (hab : a ≠ b) (hf : ∀ e, gT s e → ¬ gC s (fun k => gT s k ∧ k ≠ e) (gA s e) (gB s e)) (hs : sA (exq s a ex).1 8 b.toNatClampNeg ≠ 0) :
    hvF (exq s a ex).1 32 (-1) b ≠ -1 ∧ vi (hvF (exq s a ex).1 32 (-1) b) = true ∧ Bn (gA s) (gB s) (gR s) (gT s) (hvF (exq s a ex).1 32 (-1) b).toNatClampNeg a.toNatClampNeg b.toNatClampNeg := by
  obtain ⟨hq, hd⟩ := exq_Qi (ex := ex) hI ha
  obtain ⟨i, w1, w2⟩ := (hq.2.2.2.2.2.1 b.toNatClampNeg (by rw [cln]; omega)).resolve_left hs
  have eb : sA (exq s a ex).1 11 i = b := cl_inj (hq.2.2.2.2.1 i w1).1.1 hb.1 w2
  have hi0 : i ≠ 0 := fun w => hab (by rw [← hq.2.2.1, ← eb, w])
  obtain ⟨i1, i2, i3, i4⟩ := hq.hv hf 32 i (-1) (by have := hq.2.1.2; omega) w1 (Or.inl rfl)
  rw [eb] at i1 i2 i3 i4
  have n1 : hvF (exq s a ex).1 32 (-1) b ≠ -1 := fun w => hi0 (i1 w).2
  obtain ⟨i5, i6⟩ := i2 n1
  obtain ⟨i7, i8⟩ := i4.resolve_left n1
  exact ⟨n1, i5, i7, i6, fun q => i8 (q.mono fun k hk => ⟨hk.1, fun w => by have := hk.2; rw [w] at this; omega⟩)⟩
theorem lcF_min : ∀ (m j : Nat) (best : Int32), j + m ≤ 128 → ((best = -1 ∧ ∀ i, i < j → lcB s i = false) ∨ (vi best = true ∧ lcB s best.toNatClampNeg = true ∧ ∀ i, i < j → lcB s i = true → gR s best.toNatClampNeg ≤ gR s i)) →
    ((lcF s j m best = -1 ∧ ∀ i, i < j + m → lcB s i = false) ∨ (vi (lcF s j m best) = true ∧ lcB s (lcF s j m best).toNatClampNeg = true ∧ ∀ i, i < j + m → lcB s i = true → gR s (lcF s j m best).toNatClampNeg ≤ gR s i))
  | 0, j, best, _, h => h
  | m + 1, j, best, hj, h => by
    unfold lcF
    rw [show j + (m + 1) = (j + 1) + m by omega]
    refine lcF_min m (j + 1) _ (by omega) ?_
    obtain ⟨o1, o2, o3⟩ := ofi (i := j) (by omega)
    by_cases q : lcB s j = true
    · rw [if_pos q]
      unfold lgt
      rcases h with ⟨h1, h2⟩ | ⟨h1, h2, h3⟩
      · rw [if_pos h1]
        refine Or.inr ⟨o3, by rw [o2]; exact q, fun i hi w => ?_⟩
        by_cases v : i = j
        · rw [o2, v]; exact Nat.le_refl _
        · rw [h2 i (by omega)] at w; exact absurd w (by decide)
      · rw [if_neg (m1_vi h1), if_neg (m1_vi o3)]
        have pi := pc_iff (s := s) h1 o3
        rw [o2] at pi
        by_cases q2 : pc s best (Int32.ofNat j) = true
        · rw [if_pos q2]
          refine Or.inr ⟨h1, h2, fun i hi w => ?_⟩
          by_cases v : i = j
          · rw [v]; exact Nat.le_of_lt (pi.1 q2)
          · exact h3 i (by omega) w
        · rw [if_neg q2]
          have q3 : ¬ gR s best.toNatClampNeg < gR s j := fun w => q2 (pi.2 w)
          refine Or.inr ⟨o3, by rw [o2]; exact q, fun i hi w => ?_⟩
          by_cases v : i = j
          · rw [o2, v]; exact Nat.le_refl _
          · have := h3 i (by omega) w; rw [o2]; omega
    · rw [if_neg q]
      have q' : lcB s j = false := by simpa using q
      refine h.imp (fun w => ⟨w.1, fun i hi => ?_⟩) (fun w => ⟨w.1, w.2.1, fun i hi k => ?_⟩)
      · by_cases v : i = j
        · rw [v]; exact q'
        · exact w.2 i (by omega)
      · by_cases v : i = j
        · rw [v, q'] at k; exact absurd k (by decide)
        · exact w.2.2 i (by omega) k
theorem lcF_0 : (lcF s 0 128 (-1) = -1 ∧ ∀ i, i < 128 → lcB s i = false) ∨ (vi (lcF s 0 128 (-1)) = true ∧ lcB s (lcF s 0 128 (-1)).toNatClampNeg = true ∧ ∀ i, i < 128 → lcB s i = true → gR s (lcF s 0 128 (-1)).toNatClampNeg ≤ gR s i) := by
  have := lcF_min (s := s) 128 0 (-1) (by decide) (Or.inl ⟨rfl, fun i hi => by omega⟩)
  simpa using this
theorem lcB_iff (hI : Iv s) (hc : Cp s) (ha : 0 ≤ a.toInt ∧ a.toInt < 32) (hi : i < 128) : lcB (exq s a ex).1 i = true ↔ (gU s i ∧ ¬ gT s i) ∧ Crs (gA s) (gB s) (gX s ex) a.toNatClampNeg i := by
  have hS : Sr s (exq s a ex).1 := exq_Sr
  obtain ⟨o1, o2, o3⟩ := ofi hi
  have en := hI.2.1 i hi
  have cl := hI.2.1.cl hI.2.2.1 hi
  have nn := hI.2.2.1.2
  have sa := seen_iff (X := gA s i) (ex := ex) hI hc ha cl.1
  have sb := seen_iff (X := gB s i) (ex := ex) hI hc ha cl.2
  have za := seen01 (ex := ex) hI ha cl.1
  have zb := seen01 (ex := ex) hI ha cl.2
  unfold lcB cr
  rw [Bool.and_eq_true, decide_eq_true_eq, decide_eq_true_eq, o2, hS.2.2.1 1 (by decide) (by decide) (by decide) (by decide), hS.2.2.1 2 (by decide) (by decide) (by decide) (by decide), hS.2.2.1 4 (by decide) (by decide) (by decide) (by decide), hS.2.2.1 5 (by decide) (by decide) (by decide) (by decide)]
  have r1 : ¬ sA s 1 i < 0 ∧ sA s 1 i < 32 := by rw [lt32, lt32]; simp only [Int32.reduceToInt]; omega
  have r2 : ¬ sA s 2 i < 0 ∧ sA s 2 i < 32 := by rw [lt32, lt32]; simp only [Int32.reduceToInt]; omega
  have e1 : (gU s i ∧ ¬ gT s i) ↔ (¬ sA s 4 i = 0 ∧ sA s 5 i = 0) := by
    unfold gU gT; simp [hi]
  rw [e1]
  refine and_congr Iff.rfl ?_
  show _ ↔ ¬ (gC s (gX s ex) a.toNatClampNeg (gA s i) ↔ gC s (gX s ex) a.toNatClampNeg (gB s i))
  rw [← sa, ← sb]
  show _ ↔ ¬ (sA (exq s a ex).1 8 (sA s 1 i).toNatClampNeg = 1 ↔ sA (exq s a ex).1 8 (sA s 2 i).toNatClampNeg = 1)
  constructor
  · rintro ⟨-, -, w⟩ q
    rcases za with za | za <;> rcases zb with zb | zb
    · exact w (za.trans zb.symm)
    · rw [za, zb] at q; exact absurd (q.2 rfl) (by decide)
    · rw [za, zb] at q; exact absurd (q.1 rfl) (by decide)
    · exact w (za.trans zb.symm)
  · intro q
    refine ⟨r1, r2, fun w => q (by rw [w])⟩
end K

section L
variable {lw : LW} {H : AH} {p j : Nat} {s s' s1 s2 g : St} {Q : Option Value → AH → Prop} {a b c d e x y t u v w z ex : Int32} {k n X Y i h : Nat}
def Fo (s : St) : Prop := ∀ e, gT s e → ¬ gC s (fun k => gT s k ∧ k ≠ e) (gA s e) (gB s e)
theorem deg_lt (hI : Iv s) (hF : Fo s) (hX : X < 32) : dN s X < 32 := by
  have ad := hI.2.2.2.2 X hX
  have xi : (Int32.ofNat X).toInt = X := Int32.toInt_ofNat_of_lt (by omega)
  have xc : (Int32.ofNat X).toNatClampNeg = X := by rw [cln, xi]; omega
  have om : ∀ k, k < dN s X → _ := fun k hk => oE_mem (z := sA s 6 (X * 32 + k)) (x := Int32.ofNat X) hI (by omega) (by rw [xc]; exact ⟨k, hk, rfl⟩)
  have := php 32 (dN s X + 1) (fun k => if k < dN s X then (oE s (sA s 6 (X * 32 + k)) (Int32.ofNat X)).toNatClampNeg else X) (fun k hk => by
    show (if k < dN s X then (oE s (sA s 6 (X * 32 + k)) (Int32.ofNat X)).toNatClampNeg else X) < 32
    split
    · rename_i w; have := (om k w).2.1; rw [cln]; omega
    · exact hX) (fun k k' hk hk' => by
    show (if k < dN s X then (oE s (sA s 6 (X * 32 + k)) (Int32.ofNat X)).toNatClampNeg else X) ≠ (if k' < dN s X then (oE s (sA s 6 (X * 32 + k')) (Int32.ofNat X)).toNatClampNeg else X)
    rw [if_pos (by omega)]
    obtain ⟨⟨m1, m2⟩, m3, m4⟩ := om k (by omega)
    split
    · rename_i w
      obtain ⟨⟨r1, r2⟩, r3, r4⟩ := om k' w
      have nd := ad.1 k k' hk w
      intro q
      have q' := cl_inj m3.1 r3.1 q
      refine hF _ ⟨vi_cl m1, m2⟩ ?_
      have ed : gC s (fun k_1 => gT s k_1 ∧ k_1 ≠ (sA s 6 (X * 32 + k)).toNatClampNeg) (gA s (sA s 6 (X * 32 + k')).toNatClampNeg) (gB s (sA s 6 (X * 32 + k')).toNatClampNeg) := Cn.edge ⟨⟨vi_cl r1, r2⟩, fun v => nd (inj_vi r1 m1 v).symm⟩
      unfold gC gA gB at *
      rcases m4 with m4 | m4 <;> rcases r4 with r4 | r4
      · rw [m4.1, m4.2, q', ← r4.1, ← r4.2]; exact ed
      · rw [m4.1, m4.2, q', ← r4.1, ← r4.2]; exact ed.symm
      · rw [m4.1, m4.2, q', ← r4.1, ← r4.2]; exact ed.symm
      · rw [m4.1, m4.2, q', ← r4.1, ← r4.2]; exact ed
    · intro q
      have bo := hI.2.2.2.1 _ (vi_cl m1)
      have ne := bo.2 (bo.1 m2)
      have q' : oE s (sA s 6 (X * 32 + k)) (Int32.ofNat X) = Int32.ofNat X := cl_inj m3.1 (by omega) (by rw [xc]; exact q)
      rw [q'] at m4
      exact m4.elim (fun w => ne (w.1.trans w.2.symm)) (fun w => ne (w.2.trans w.1.symm)))
  omega
theorem gT_jT (h : vi e = true) (h5 : sA s 5 e.toNatClampNeg = 0) : gT (jT s e) k ↔ (gT s k ∨ k = e.toNatClampNeg) := by
  unfold gT; rw [jT_5 h h5]
  by_cases q : k = e.toNatClampNeg
  · subst q; simp [vi_cl h]
  · simp [q]
theorem gT_lT (h : vi e = true) (h5 : sA s 5 e.toNatClampNeg ≠ 0) : gT (lT s e) k ↔ (gT s k ∧ k ≠ e.toNatClampNeg) := by
  unfold gT; rw [lT_5 h h5]
  by_cases q : k = e.toNatClampNeg
  · subst q; simp
  · simp [q]
theorem gA_of (h : sA s' 1 = sA s 1) : gA s' = gA s := by funext k; unfold gA; rw [h]
theorem gB_of (h : sA s' 2 = sA s 2) : gB s' = gB s := by funext k; unfold gB; rw [h]
theorem gR_of (h : sA s' 3 = sA s 3) : gR s' = gR s := by funext k; unfold gR; rw [h]
theorem gU_of (h : sA s' 4 = sA s 4) : gU s' = gU s := by funext k; unfold gU; rw [h]
theorem gT_of (h : sA s' 5 = sA s 5) : gT s' = gT s := by funext k; unfold gT; rw [h]
theorem Sr.ar (g : Sr s s') {t : Nat} (h : t < 8) : sA s' t = sA s t := g.2.2.1 t (by omega) (by omega) (by omega) (by omega)
theorem Cp.of (h : Cp s) (h1 : sA s' 1 = sA s 1) (h2 : sA s' 2 = sA s 2) (h5 : sA s' 5 = sA s 5) (h6 : sA s' 6 = sA s 6) (h7 : sA s' 7 = sA s 7) : Cp s' := by
  intro e he
  rw [gT_of h5] at he
  rw [gA_of h1, gB_of h2, MEM.of h6 h7, MEM.of h6 h7]; exact h e he
theorem jT_Cp (hI : Iv s) (hc : Cp s) (hF : Fo s) (h : vi e = true) (h4 : sA s 4 e.toNatClampNeg ≠ 0) (h5 : sA s 5 e.toNatClampNeg = 0) : Cp (jT s e) := by
  have hab := cab hI h h4
  have r := hI.2.1.cl hI.2.2.1 (vi_cl h)
  have hj : jT s e = aA (aA (uJ (uI (uA s 5 e.toNatClampNeg 1) 13 (sI s 13 + 1)) 14 (sJ s 14 + (sA s 3 e.toNatClampNeg).toInt64)) (sA s 1 e.toNatClampNeg) e) (sA s 2 e.toNatClampNeg) e := by unfold jT; rw [if_pos ⟨h, h5⟩]
  have G : ∀ X, X < 32 → ∀ z, MEM (jT s e) X z ↔ MEM s X z ∨ (z = e ∧ (X = gA s e.toNatClampNeg ∨ X = gB s e.toNatClampNeg)) := fun X hX z => by
    have ad := hI.2.2.2.2 X hX
    have nm : ¬ MEM s X e := fun w => (ad.2 e w).2.1 h5
    have := (aa2 (z := z) (X := X) (e := e) (a := sA s 1 e.toNatClampNeg) (b := sA s 2 e.toNatClampNeg) (base_DG (k := e.toNatClampNeg) (v := 1) (c := sI s 13 + 1) (q := sJ s 14 + (sA s 3 e.toNatClampNeg).toInt64) hI.1) r.1 r.2 rfl rfl hab hX ((ND.of base_6 base_7).2 ad.1) (fun w => nm ((MEM.of base_6 base_7).1 w))).2.2.1
      (by unfold dN; rw [base_7]; exact deg_lt hI hF r.1) (by unfold dN; rw [base_7]; exact deg_lt hI hF r.2)
    rw [MEM.of base_6 base_7] at this
    rw [hj]; exact this
  have a1 : sA (jT s e) 1 = sA s 1 := jT_A (by decide) (by decide) (by decide)
  have a2 : sA (jT s e) 2 = sA s 2 := jT_A (by decide) (by decide) (by decide)
  intro k hk
  rw [gT_jT h h5] at hk
  rw [gA_of a1, gB_of a2]
  rcases hk with hk | hk
  · have := hI.2.1.cl hI.2.2.1 hk.1
    rw [G (gA s k) this.1, G (gB s k) this.2]; exact ⟨Or.inl (hc k hk).1, Or.inl (hc k hk).2⟩
  · subst hk
    rw [G (gA s e.toNatClampNeg) r.1, G (gB s e.toNatClampNeg) r.2, ofv h]; exact ⟨Or.inr ⟨rfl, Or.inl rfl⟩, Or.inr ⟨rfl, Or.inr rfl⟩⟩
theorem lT_Cp (hI : Iv s) (hc : Cp s) (h : vi e = true) (h5 : sA s 5 e.toNatClampNeg ≠ 0) : Cp (lT s e) := by
  have h4 := (hI.2.2.2.1 _ (vi_cl h)).1 h5
  have hab := cab hI h h4
  have r := hI.2.1.cl hI.2.2.1 (vi_cl h)
  have hj : lT s e = rA (rA (uJ (uI (uA s 5 e.toNatClampNeg 0) 13 (sI s 13 - 1)) 14 (sJ s 14 - (sA s 3 e.toNatClampNeg).toInt64)) (sA s 1 e.toNatClampNeg) e) (sA s 2 e.toNatClampNeg) e := by unfold lT; rw [if_pos ⟨h, h5⟩]
  have G : ∀ X, X < 32 → ∀ z, MEM (lT s e) X z ↔ MEM s X z ∧ ¬ (z = e ∧ (X = gA s e.toNatClampNeg ∨ X = gB s e.toNatClampNeg)) := fun X hX z => by
    have := (ra2 (z := z) (X := X) (e := e) (a := sA s 1 e.toNatClampNeg) (b := sA s 2 e.toNatClampNeg) (base_DG (k := e.toNatClampNeg) (v := 0) (c := sI s 13 - 1) (q := sJ s 14 - (sA s 3 e.toNatClampNeg).toInt64) hI.1) r.1 r.2 rfl rfl hab hX (fun X hX => (ND.of base_6 base_7).2 (hI.2.2.2.2 X hX).1)).1
    rw [MEM.of base_6 base_7] at this
    rw [hj]; exact this
  have a1 : sA (lT s e) 1 = sA s 1 := lT_A (by decide) (by decide) (by decide)
  have a2 : sA (lT s e) 2 = sA s 2 := lT_A (by decide) (by decide) (by decide)
  intro k hk
  rw [gT_lT h h5] at hk
  rw [gA_of a1, gB_of a2]
  have := hI.2.1.cl hI.2.2.1 hk.1.1
  have ne : Int32.ofNat k ≠ e := fun w => hk.2 (by rw [← w]; exact (ofi hk.1.1).2.1.symm)
  rw [G (gA s k) this.1, G (gB s k) this.2]; exact ⟨⟨(hc k hk.1).1, fun w => ne w.1⟩, ⟨(hc k hk.1).2, fun w => ne w.1⟩⟩
def Kj (s : St) : Prop := Kr (gA s) (gB s) (gR s) (gU s) (gT s)
def Jv (s : St) : Prop := Iv s ∧ Cp s ∧ Kj s
theorem Kj.of (h : Kj s) (h1 : sA s' 1 = sA s 1) (h2 : sA s' 2 = sA s 2) (h3 : sA s' 3 = sA s 3) (h4 : sA s' 4 = sA s 4) (h5 : sA s' 5 = sA s 5) : Kj s' := by
  unfold Kj; rw [gA_of h1, gB_of h2, gR_of h3, gU_of h4, gT_of h5]; exact h
theorem Sr.Jv (g : Sr s s') (h : Jv s) : Jv s' := ⟨g.Iv h.1, h.2.1.of (g.ar (by decide)) (g.ar (by decide)) (g.ar (by decide)) (g.ar (by decide)) (g.ar (by decide)), h.2.2.of (g.ar (by decide)) (g.ar (by decide)) (g.ar (by decide)) (g.ar (by decide)) (g.ar (by decide))⟩
theorem stL2_Jv (h : Jv s) : Jv (stL2 s a b) := by
  have A : ∀ t, sA (stL2 s a b) t = sA s t := fun t => by rw [stL2_A]
  exact ⟨stL2_Iv h.1, h.2.1.of (A _) (A _) (A _) (A _) (A _), h.2.2.of (A _) (A _) (A _) (A _) (A _)⟩
theorem Fo_of {U : Nat → Prop} (h : Kr (gA s) (gB s) (gR s) U (gT s)) (hU : ∀ k, U k → k < 128) : Fo s := fun e he =>
  h.forest (θ := 549755813888) (fun e f h1 h2 h3 => gR_inj e f (hU e h1) (hU f h2) h3) (fun e he => gR_lt (hU e he)) he
theorem Kj.fo (h : Kj s) : Fo s := Fo_of h fun k hk => hk.1
theorem gX_m1 : gX s (-1) = gT s := by
  funext k; unfold gX
  exact propext ⟨fun h => h.1, fun h => ⟨h, m1_vi (ofi h.1).2.2⟩⟩
theorem iU_J (hI : Iv s) (hc : Cp s) (he : vi e = true) (h4 : sA s 4 e.toNatClampNeg ≠ 0) (h5 : sA s 5 e.toNatClampNeg = 0) (hk : Kr (gA s) (gB s) (gR s) (fun k => gU s k ∧ k ≠ e.toNatClampNeg) (gT s)) : Jv (iU s e) := by
  have hF : Fo s := Fo_of hk fun k hk => hk.1.1
  have hI' := (iU_ok hI he h4 h5).1
  have hS : Sr s (sx s e) := sx_Sr
  have hIx := hS.Iv hI
  have hcx : Cp (sx s e) := hc.of (hS.ar (by decide)) (hS.ar (by decide)) (hS.ar (by decide)) (hS.ar (by decide)) (hS.ar (by decide))
  have xA := gA_of (hS.ar (t := 1) (by decide))
  have xB := gB_of (hS.ar (t := 2) (by decide))
  have xR := gR_of (hS.ar (t := 3) (by decide))
  have xU := gU_of (hS.ar (t := 4) (by decide))
  have xT := gT_of (hS.ar (t := 5) (by decide))
  have hFx : Fo (sx s e) := by unfold Fo gC; rw [xA, xB, xT]; exact hF
  have h4x : sA (sx s e) 4 e.toNatClampNeg ≠ 0 := by rw [hS.ar (by decide)]; exact h4
  have h5x : sA (sx s e) 5 e.toNatClampNeg = 0 := by rw [hS.ar (by decide)]; exact h5
  have en := hI.2.1 _ (vi_cl he)
  have nn := hI.2.2.1.2
  have cle := hI.2.1.cl hI.2.2.1 (vi_cl he)
  have ra : 0 ≤ (sA s 1 e.toNatClampNeg).toInt ∧ (sA s 1 e.toNatClampNeg).toInt < 32 := by omega
  have rb : 0 ≤ (sA s 2 e.toNatClampNeg).toInt ∧ (sA s 2 e.toNatClampNeg).toInt < 32 := by omega
  have nU : ¬ (gU s e.toNatClampNeg ∧ e.toNatClampNeg ≠ e.toNatClampNeg) := fun w => w.2 rfl
  have nT : ¬ gT s e.toNatClampNeg := fun w => w.2 h5
  have uE : gU s e.toNatClampNeg := ⟨vi_cl he, h4⟩
  have eU : ∀ k, gU s k ↔ ((gU s k ∧ k ≠ e.toNatClampNeg) ∨ k = e.toNatClampNeg) := fun k => by
    by_cases q : k = e.toNatClampNeg
    · subst q; simp [uE]
    · simp [q]
  have sn := seen_iff (X := gB s e.toNatClampNeg) (ex := -1) hI hc ra cle.2
  rw [gX_m1] at sn
  refine ⟨hI', ?_⟩
  unfold iU
  by_cases e1 : sA (sx s e) 8 (sA s 2 e.toNatClampNeg).toNatClampNeg = 0
  · rw [if_pos e1]
    have J : Cp (jT (sx s e) e) ∧ Kj (jT (sx s e) e) := by
      refine ⟨jT_Cp hIx hcx hFx he h4x h5x, ?_⟩
      unfold Kj
      rw [gA_of (jT_A (by decide) (by decide) (by decide)), gB_of (jT_A (by decide) (by decide) (by decide)), gR_of (jT_A (by decide) (by decide) (by decide)), gU_of (jT_A (by decide) (by decide) (by decide)), xA, xB, xR, xU]
      refine (hk.ins1 nU (fun q => ?_)).iff eU (fun k => by rw [gT_jT he h5x, xT])
      have := sn.2 (hk.all.1 q)
      unfold gB at this; rw [show (exq s (sA s 1 e.toNatClampNeg) (-1)).1 = sx s e from rfl, e1] at this; exact absurd this (by decide)
    have A : ∀ t, sA (stL2 (jT (sx s e) e) e (-1)) t = sA (jT (sx s e) e) t := fun t => by rw [stL2_A]
    exact ⟨J.1.of (A _) (A _) (A _) (A _) (A _), J.2.of (A _) (A _) (A _) (A _) (A _)⟩
  · rw [if_neg e1]
    have hne : sA s 1 e.toNatClampNeg ≠ sA s 2 e.toNatClampNeg := (hI.2.2.2.1 _ (vi_cl he)).2 h4
    obtain ⟨n1, v1, bn⟩ := hv_bn (ex := -1) hI ra rb hne hF e1
    rw [show (exq s (sA s 1 e.toNatClampNeg) (-1)).1 = sx s e from rfl] at n1 v1 bn
    generalize hvF (sx s e) 32 (-1) (sA s 2 e.toNatClampNeg) = m at *
    have mT : gT s m.toNatClampNeg := bn.1
    have mne : m.toNatClampNeg ≠ e.toNatClampNeg := fun w => nT (w ▸ mT)
    have pi := pc_iff (s := sx s e) he v1
    rw [xR] at pi
    have rne : gR s m.toNatClampNeg ≠ gR s e.toNatClampNeg := fun w => mne (gR_inj _ _ (vi_cl v1) (vi_cl he) w)
    by_cases e2 : m = -1 ∨ pc (sx s e) e m = false
    · rw [if_pos e2]
      have e3 := e2.resolve_left n1
      have hl : gR s m.toNatClampNeg < gR s e.toNatClampNeg := by
        have : ¬ gR s e.toNatClampNeg < gR s m.toNatClampNeg := fun w => by rw [pi.2 w] at e3; exact absurd e3 (by decide)
        omega
      have A : ∀ t, t < 8 → sA (stL2 (sx s e) (-1) (-1)) t = sA s t := fun t ht => by rw [stL2_A, hS.ar ht]
      refine ⟨hc.of (A _ (by decide)) (A _ (by decide)) (A _ (by decide)) (A _ (by decide)) (A _ (by decide)), Kj.of ?_ (A _ (by decide)) (A _ (by decide)) (A _ (by decide)) (A _ (by decide)) (A _ (by decide))⟩
      exact (hk.ins2 nU bn hl).iff eU (fun k => Iff.rfl)
    · rw [if_neg e2]
      have e3 : pc (sx s e) e m = true := by
        cases q : pc (sx s e) e m with
        | true => rfl
        | false => exact absurd (Or.inr q) e2
      have m5 : sA (sx s e) 5 m.toNatClampNeg ≠ 0 := by rw [hS.ar (by decide)]; exact mT.2
      have hIl := lT_Iv hIx v1 m5
      have hcl := lT_Cp hIx hcx v1 m5
      have lA := fun (t : Nat) h5 h6 h7 => lT_A (s := sx s e) (e := m) (t := t) h5 h6 h7
      have h5l : sA (lT (sx s e) m) 5 e.toNatClampNeg = 0 := by rw [lT_5 v1 m5, if_neg (Ne.symm mne)]; exact h5x
      have h4l : sA (lT (sx s e) m) 4 e.toNatClampNeg ≠ 0 := by rw [lA 4 (by decide) (by decide) (by decide)]; exact h4x
      have hFl : Fo (lT (sx s e) m) := fun k hk c => by
        rw [gT_lT v1 m5] at hk
        unfold gC at c
        rw [gA_of (lA 1 (by decide) (by decide) (by decide)), gB_of (lA 2 (by decide) (by decide) (by decide))] at c
        exact hFx k hk.1 (c.mono fun f hf => ⟨(gT_lT v1 m5).1 hf.1 |>.1, hf.2⟩)
      have J : Cp (jT (lT (sx s e) m) e) ∧ Kj (jT (lT (sx s e) m) e) := by
        refine ⟨jT_Cp hIl hcl hFl he h4l h5l, ?_⟩
        unfold Kj
        rw [gA_of (jT_A (by decide) (by decide) (by decide)), gB_of (jT_A (by decide) (by decide) (by decide)), gR_of (jT_A (by decide) (by decide) (by decide)), gU_of (jT_A (by decide) (by decide) (by decide)), gA_of (lA 1 (by decide) (by decide) (by decide)), gB_of (lA 2 (by decide) (by decide) (by decide)), gR_of (lA 3 (by decide) (by decide) (by decide)), gU_of (lA 4 (by decide) (by decide) (by decide)), xA, xB, xR, xU]
        refine (hk.ins3 (fun e f h1 h2 h3 => gR_inj e f ?_ ?_ h3) nU bn (pi.1 e3)).iff eU (fun k => by rw [gT_jT he h5l, gT_lT v1 m5, xT])
        · exact h1.elim (fun w => w.1.1) (fun w => by subst w; exact vi_cl he)
        · exact h2.elim (fun w => w.1.1) (fun w => by subst w; exact vi_cl he)
      have A : ∀ t, sA (stL2 (jT (lT (sx s e) m) e) e m) t = sA (jT (lT (sx s e) m) e) t := fun t => by rw [stL2_A]
      exact ⟨J.1.of (A _) (A _) (A _) (A _) (A _), J.2.of (A _) (A _) (A _) (A _) (A _)⟩
end L

section M
variable {lw : LW} {H : AH} {p j : Nat} {s s' s1 s2 g : St} {Q : Option Value → AH → Prop} {a b c d e x y t u v w z ex : Int32} {k n X Y i h : Nat}
theorem frS_5z (h5 : sA s 5 e.toNatClampNeg = 0) : sA (frS s e) 5 = sA s 5 := by
  funext i; rw [frS_5]; split
  · rename_i w; rw [w, h5]
  · rfl
theorem gU_frS : gU (frS s e) k ↔ (gU s k ∧ k ≠ e.toNatClampNeg) := by
  unfold gU; rw [frS_4]
  by_cases q : k = e.toNatClampNeg
  · subst q; simp
  · simp [q]
theorem Fo_sub (hF : Fo s) (hA : gA s' = gA s) (hB : gB s' = gB s) (hT : ∀ k, gT s' k → gT s k) : Fo s' := fun k hk c => by
  unfold gC at c; rw [hA, hB] at c
  exact hF k (hT k hk) (c.mono fun f hf => ⟨hT f hf.1, hf.2⟩)
theorem jT_K (hI : Iv s) (hc : Cp s) (hF : Fo s) (h : vi e = true) (h4 : sA s 4 e.toNatClampNeg ≠ 0) (h5 : sA s 5 e.toNatClampNeg = 0) (hk : Kr (gA s) (gB s) (gR s) (gU s) (fun k => gT s k ∨ k = e.toNatClampNeg)) : Jv (jT s e) := by
  refine ⟨jT_Iv hI h h4 h5, jT_Cp hI hc hF h h4 h5, ?_⟩
  unfold Kj
  rw [gA_of (jT_A (by decide) (by decide) (by decide)), gB_of (jT_A (by decide) (by decide) (by decide)), gR_of (jT_A (by decide) (by decide) (by decide)), gU_of (jT_A (by decide) (by decide) (by decide))]
  exact hk.iff (fun k => Iff.rfl) (fun k => gT_jT h h5)
theorem cT_J (hJ : Jv s) (he : vi e = true) (h5 : sA s 5 e.toNatClampNeg ≠ 0) : Jv (cT s e) := by
  obtain ⟨hI, hc, hk⟩ := hJ
  have hF := hk.fo
  have tE : gT s e.toNatClampNeg := ⟨vi_cl he, h5⟩
  have hIl := lT_Iv hI he h5
  have hcl := lT_Cp hI hc he h5
  have h5l : sA (lT s e) 5 e.toNatClampNeg = 0 := by rw [lT_5 he h5, if_pos rfl]
  have hI1 := frS_Iv hIl he h5l
  have fA := fun (t : Nat) h4 h5 => frS_A (s := lT s e) (e := e) (t := t) h4 h5
  have lA := fun (t : Nat) h5 h6 h7 => lT_A (s := s) (e := e) (t := t) h5 h6 h7
  have hc1 : Cp (frS (lT s e) e) := hcl.of (fA 1 (by decide) (by decide)) (fA 2 (by decide) (by decide)) (frS_5z h5l) (fA 6 (by decide) (by decide)) (fA 7 (by decide) (by decide))
  have e1 : sA (frS (lT s e) e) 1 = sA s 1 := (fA 1 (by decide) (by decide)).trans (lA 1 (by decide) (by decide) (by decide))
  have e2 : sA (frS (lT s e) e) 2 = sA s 2 := (fA 2 (by decide) (by decide)).trans (lA 2 (by decide) (by decide) (by decide))
  have e3 : sA (frS (lT s e) e) 3 = sA s 3 := (fA 3 (by decide) (by decide)).trans (lA 3 (by decide) (by decide) (by decide))
  have U1 : ∀ k, gU (frS (lT s e) e) k ↔ (gU s k ∧ k ≠ e.toNatClampNeg) := fun k => by rw [gU_frS, gU_of (lA 4 (by decide) (by decide) (by decide))]
  have T1 : ∀ k, gT (frS (lT s e) e) k ↔ (gT s k ∧ k ≠ e.toNatClampNeg) := fun k => by rw [gT_of (frS_5z h5l), gT_lT he h5]
  have T1f : gT (frS (lT s e) e) = fun k => gT s k ∧ k ≠ e.toNatClampNeg := funext fun k => propext (T1 k)
  have U1f : gU (frS (lT s e) e) = fun k => gU s k ∧ k ≠ e.toNatClampNeg := funext fun k => propext (U1 k)
  have hS : Sr (frS (lT s e) e) (cT1 s e) := sx_Sr
  have en := hI.2.1 _ (vi_cl he)
  have nn := hI.2.2.1.2
  have lb := fun i hi => lcB_iff (ex := -1) (i := i) (a := sA (frS (lT s e) e) 1 e.toNatClampNeg) hI1 hc1 (by rw [e1]; omega) hi
  have hsx : (exq (frS (lT s e) e) (sA (frS (lT s e) e) 1 e.toNatClampNeg) (-1)).1 = cT1 s e := rfl
  simp only [hsx, gX_m1, gA_of e1, gB_of e2] at lb
  rw [U1f, T1f, e1] at lb
  have hI2 := hS.Iv hI1
  have hc2 : Cp (cT1 s e) := hc1.of (hS.ar (by decide)) (hS.ar (by decide)) (hS.ar (by decide)) (hS.ar (by decide)) (hS.ar (by decide))
  have xA : gA (cT1 s e) = gA s := by rw [gA_of (hS.ar (by decide)), gA_of e1]
  have xB : gB (cT1 s e) = gB s := by rw [gB_of (hS.ar (by decide)), gB_of e2]
  have xR : gR (cT1 s e) = gR s := by rw [gR_of (hS.ar (by decide)), gR_of e3]
  have xU : gU (cT1 s e) = fun k => gU s k ∧ k ≠ e.toNatClampNeg := by rw [gU_of (hS.ar (by decide)), U1f]
  have xT : gT (cT1 s e) = fun k => gT s k ∧ k ≠ e.toNatClampNeg := by rw [gT_of (hS.ar (by decide)), T1f]
  have hF2 : Fo (cT1 s e) := Fo_sub hF xA xB (fun k hk => by rw [xT] at hk; exact hk.1)
  unfold cT
  refine stL2_Jv ?_
  rcases lcF_0 (s := cT1 s e) with ⟨r1, r2⟩ | ⟨r1, r2, r3⟩
  · rw [if_pos r1]
    refine ⟨hI2, hc2, ?_⟩
    unfold Kj; rw [xA, xB, xR, xU, xT]
    refine hk.del gR_injU (fun k hk => gR_lt hk.1) tE (fun f hf hne hnt hcr => ?_)
    have := (lb f hf.1).2 ⟨⟨⟨hf, hne⟩, fun w => hnt w.1⟩, hcr⟩
    rw [r2 f hf.1] at this; exact absurd this (by decide)
  · rw [if_neg (m1_vi r1)]
    generalize lcF (cT1 s e) 0 128 (-1) = r at *
    obtain ⟨⟨⟨q1, q2⟩, q3⟩, q4⟩ := (lb _ (vi_cl r1)).1 r2
    have q3' : ¬ gT s r.toNatClampNeg := fun w => q3 ⟨w, q2⟩
    have r4 : gU (cT1 s e) r.toNatClampNeg := by rw [xU]; exact ⟨q1, q2⟩
    have r5 : sA (cT1 s e) 5 r.toNatClampNeg = 0 := Decidable.byContradiction fun w => by
      have : gT (cT1 s e) r.toNatClampNeg := ⟨vi_cl r1, w⟩
      rw [xT] at this; exact q3 this
    refine jT_K hI2 hc2 hF2 r1 r4.2 r5 ?_
    rw [xA, xB, xR, xU, xT]
    refine hk.delr gR_injU (fun k hk => gR_lt hk.1) tE q1 q2 q3' q4 (fun f hf hne hnt hcr => ?_)
    have := r3 f hf.1 ((lb f hf.1).2 ⟨⟨⟨hf, hne⟩, fun w => hnt w.1⟩, hcr⟩)
    rw [xR] at this; exact this
theorem ad_J {f : Nat} (hJ : Jv s) (hf : f < 128) (h4 : sA s 4 f = 0) (hu : 0 ≤ u.toInt ∧ u.toInt < (sI s 0).toInt) (hv : 0 ≤ v.toInt ∧ v.toInt < (sI s 0).toInt) (hne : u ≠ v) : Jv (adS s f u v w) := by
  obtain ⟨hI, hc, hk⟩ := hJ
  obtain ⟨o1, o2, o3⟩ := ofi hf
  have hI1 := stE_Iv (d := cl (-1000000) 1000000 w) hI o3 (by rw [o2]; exact h4) hu hv hne
  have h5 : sA s 5 f = 0 := Decidable.byContradiction fun w => (hI.2.2.2.1 f hf).1 w h4
  have g4 : sA (stE s (Int32.ofNat f) u v (cl (-1000000) 1000000 w)) 4 (Int32.ofNat f).toNatClampNeg ≠ 0 := by rw [stE_1.2.2.2.1, if_pos rfl]; decide
  have g5 : sA (stE s (Int32.ofNat f) u v (cl (-1000000) 1000000 w)) 5 (Int32.ofNat f).toNatClampNeg = 0 := by rw [stE_1.2.2.2.2, if_pos rfl]
  have T1 : ∀ k, gT (stE s (Int32.ofNat f) u v (cl (-1000000) 1000000 w)) k ↔ gT s k := fun k => by
    unfold gT; rw [stE_1.2.2.2.2, o2]
    by_cases q : k = f
    · subst q; simp [h5]
    · simp [q]
  have nU : ¬ gU s f := fun w => w.2 h4
  have oth : ∀ k, k ≠ f → gA (stE s (Int32.ofNat f) u v (cl (-1000000) 1000000 w)) k = gA s k ∧ gB (stE s (Int32.ofNat f) u v (cl (-1000000) 1000000 w)) k = gB s k ∧ gR (stE s (Int32.ofNat f) u v (cl (-1000000) 1000000 w)) k = gR s k := fun k hk => by
    unfold gA gB gR; rw [stE_1.1, stE_1.2.1, stE_1.2.2.1, o2, if_neg hk, if_neg hk, if_neg hk]; exact ⟨rfl, rfl, rfl⟩
  unfold adS
  refine iU_J hI1 ?_ o3 g4 g5 ?_
  · intro k hk
    rw [T1] at hk
    have : k ≠ f := fun w => hk.2 (by rw [w]; exact h5)
    rw [(oth k this).1, (oth k this).2.1, MEM.of (stE_A (Or.inl rfl)) (stE_A (Or.inr rfl)), MEM.of (stE_A (Or.inl rfl)) (stE_A (Or.inr rfl))]
    exact hc k hk
  · refine (hk.cong (fun k hk => oth k (fun w => nU (w ▸ hk)))).iff (fun k => ?_) T1
    unfold gU; rw [stE_1.2.2.2.1, o2]
    by_cases q : k = f
    · subst q; simp [h4]
    · simp [q]
theorem rm_J (hJ : Jv s) : Jv (rmS s e) := by
  unfold rmS
  by_cases hp : pr s e = true
  · rw [if_pos hp]
    obtain ⟨hv, h4⟩ := pr_iff.1 hp
    by_cases e1 : sA s 5 e.toNatClampNeg = 0
    · rw [if_pos e1]
      obtain ⟨hI, hc, hk⟩ := hJ
      refine stL2_Jv ⟨frS_Iv hI hv e1, hc.of (frS_A (by decide) (by decide)) (frS_A (by decide) (by decide)) (frS_5z e1) (frS_A (by decide) (by decide)) (frS_A (by decide) (by decide)), ?_⟩
      unfold Kj
      rw [gA_of (frS_A (by decide) (by decide)), gB_of (frS_A (by decide) (by decide)), gR_of (frS_A (by decide) (by decide)), gT_of (frS_5z e1)]
      exact (hk.del0 (e := e.toNatClampNeg) ⟨vi_cl hv, h4⟩ (fun w => w.2 e1)).iff (fun k => gU_frS) (fun k => Iff.rfl)
    · rw [if_neg e1]; exact cT_J hJ hv e1
  · rw [if_neg hp]; exact hJ
theorem ini_J : Jv (ini0 a) := by
  have c2 := cl_rg (lo := 2) (hi := 32) a (by decide)
  simp only [Int32.reduceToInt] at c2
  obtain ⟨I1, a4, a3, a5, -⟩ := Iv_ini (a := a) c2.2
  refine ⟨I1, fun e he => absurd (a5 e) he.2, fun e he => absurd (a5 e) he.2, fun e he => absurd (a4 e) he.2⟩
def pmx (s : St) (a b : Int32) : Int32 := if sA (exq s a (-1)).1 8 b.toNatClampNeg = 0 then -1 else hvF (exq s a (-1)).1 32 (-1) b
theorem t14 (hd : DG s) (ha : vv s a = true) (hb : vv s b = true) (hne : a ≠ b) (hq : Q (some (.int (pmx s a b))) (ob H p (exq s a (-1)).1)) : Cl (pj lw) 14 [.ref p, .int a, .int b] (ob H p s) Q := by
  have r := vv_rg hb
  have r2 : 0 ≤ b.toInt ∧ b.toInt < 32 := by omega
  rw [c14]
  simp +decide only [w14_0, w14_1, w14_2, w14_5, w14_8, w14_9, w14_10, w14_13, w14_18, w14_19, w14_20, w14_25, w14_26, w14_27, w14_28, isO_put, Option.toList_some, List.cons_append, List.nil_append, true_and, and_true, ↓reduceIte, t39, ha, hb, bz, eq_false hne]
  refine t30 hd ha ?_
  unfold pmx at hq
  by_cases e1 : sA (exq s a (-1)).1 8 b.toNatClampNeg = 0
  · rw [if_pos e1] at hq
    simp +decide only [w14_31, w14_32, w14_33, w14_36, w14_37, w14_38, w14_41, w14_42, isO_put, Option.toList_some, List.cons_append, List.nil_append, true_and, and_true, or_true, ↓reduceIte, g8, ai8, ain8, ae8, ain8, r2, e1]; exact hq
  · rw [if_neg e1] at hq
    simp +decide only [w14_31, w14_32, w14_33, w14_36, w14_37, w14_38, w14_43, w14_44, w14_45, isO_put, Option.toList_some, List.cons_append, List.nil_append, true_and, and_true, or_true, ↓reduceIte, g8, ai8, ain8, ae8, ain8, r2, e1]
    refine t32 exq_PE ?_
    simp +decide only [w14_48, Option.toList_some, List.cons_append, List.nil_append]
    exact hq
def rpl (s : St) (e : Int32) : Int32 := if tr s e = true then lcF (exq s (sA s 1 e.toNatClampNeg) e).1 0 128 (-1) else -1
def rplS (s : St) (e : Int32) : St := if tr s e = true then (exq s (sA s 1 e.toNatClampNeg) e).1 else s
theorem t15 (hd : DG s) (hE : EN s) (hn : nOk s) (hq : Q (some (.int (rpl s e))) (ob H p (rplS s e))) : Cl (pj lw) 15 [.ref p, .int e] (ob H p s) Q := by
  rw [c15]; unfold rpl rplS at hq
  cases e1 : tr s e with
  | false =>
    rw [e1, if_neg (by decide), if_neg (by decide)] at hq
    simp +decide only [w15_0, w15_1, w15_2, w15_5, w15_8, w15_9, isO_put, Option.toList_some, List.cons_append, List.nil_append, true_and, and_true, ↓reduceIte, t6, e1, bz]; exact hq
  | true =>
    rw [e1, if_pos rfl, if_pos rfl] at hq
    have r : 0 ≤ e.toInt ∧ e.toInt < 128 := by unfold tr at e1; rw [Bool.and_eq_true] at e1; exact vi_rg e1.1
    have g := hE e.toNatClampNeg (by rw [cln]; omega)
    have v1 : vv s (sA s 1 e.toNatClampNeg) = true := vv_t g.1 hn.2
    simp +decide only [w15_0, w15_1, w15_2, w15_5, w15_10, w15_11, w15_12, w15_15, w15_16, w15_17, w15_18, isO_put, Option.toList_some, List.cons_append, List.nil_append, true_and, and_true, ↓reduceIte, g1, ai1, ae1, t6, e1, bz, r]
    refine t30 hd v1 ?_
    simp +decide only [w15_21, w15_22, w15_23, w15_26, isO_put, Option.toList_some, List.cons_append, List.nil_append, true_and, and_true, t33]
    exact hq
end M

section N
variable {lw : LW} {H : AH} {p j : Nat} {s s' s1 s2 g : St} {Q : Option Value → AH → Prop} {a b c d e x y t u v w z ex : Int32} {k n X Y i h : Nat}
theorem cnt_set {f g : Nat → Bool} {x : Nat} : ∀ (k j : Nat), j ≤ x → x < j + k → f x = false → g x = true → (∀ i, i ≠ x → g i = f i) → cnt g j k = cnt f j k + 1
  | 0, j, h1, h2, _, _, _ => by omega
  | k + 1, j, h1, h2, h3, h4, h5 => by
    simp only [cnt]
    by_cases e : j = x
    · subst e
      rw [h3, h4, cnt_congr (f := g) (g := f) k (j + 1) fun i a b => h5 i (by omega)]; simp; omega
    · rw [h5 j e, cnt_set k (j + 1) (by omega) (by omega) h3 h4 h5]; omega
theorem cnt_mono {f g : Nat → Bool} : ∀ (k j : Nat), (∀ i, j ≤ i → i < j + k → f i = true → g i = true) → cnt f j k ≤ cnt g j k
  | 0, _, _ => Nat.le_refl _
  | k + 1, j, h => by
    have := cnt_mono k (j + 1) (fun i a b => h i (by omega) (by omega))
    have h0 := h j (Nat.le_refl _) (by omega)
    simp only [cnt]
    by_cases q : f j = true
    · rw [if_pos q, if_pos (h0 q)]; omega
    · rw [if_neg q]; omega
def wsm (f : Nat → Bool) (w : Nat → Int64) : Nat → Nat → Int64
  | _, 0 => 0
  | j, k + 1 => (if f j = true then w j else 0) + wsm f w (j + 1) k
theorem wsm_congr {f g : Nat → Bool} {w w' : Nat → Int64} : ∀ (k j : Nat), (∀ i, j ≤ i → i < j + k → f i = g i ∧ (f i = true → w i = w' i)) → wsm f w j k = wsm g w' j k
  | 0, _, _ => rfl
  | k + 1, j, h => by
    have h0 := h j (Nat.le_refl _) (by omega)
    simp only [wsm]; rw [wsm_congr k (j + 1) fun i a b => h i (by omega) (by omega), ← h0.1]
    by_cases q : f j = true
    · rw [if_pos q, if_pos q, h0.2 q]
    · rw [if_neg q, if_neg q]
theorem wsm_set {f g : Nat → Bool} {w : Nat → Int64} {x : Nat} : ∀ (k j : Nat), j ≤ x → x < j + k → f x = false → g x = true → (∀ i, i ≠ x → g i = f i) → wsm g w j k = wsm f w j k + w x
  | 0, j, h1, h2, _, _, _ => by omega
  | k + 1, j, h1, h2, h3, h4, h5 => by
    simp only [wsm]
    by_cases e : j = x
    · subst e
      rw [h3, h4, wsm_congr (f := g) (g := f) k (j + 1) fun i a b => ⟨h5 i (by omega), fun _ => rfl⟩]; simp only [if_true, Bool.false_eq_true, if_false, Int64.zero_add]; exact Int64.add_comm _ _
    · rw [h5 j e, wsm_set k (j + 1) (by omega) (by omega) h3 h4 h5, Int64.add_assoc]
def uB8 (s : St) (t : Nat) : Nat → Bool := fun i => decide (sA s t i ≠ 0)
def wJ (s : St) : Nat → Int64 := fun i => (sA s 3 i).toInt64
def CW (s : St) : Prop := sI s 12 = Int32.ofNat (cnt (uB8 s 4) 0 128) ∧ sI s 13 = Int32.ofNat (cnt (uB8 s 5) 0 128) ∧ sJ s 14 = wsm (uB8 s 5) (wJ s) 0 128
theorem CW.of (h : CW s) (h12 : sI s' 12 = sI s 12) (h13 : sI s' 13 = sI s 13) (h14 : sJ s' 14 = sJ s 14) (h3 : sA s' 3 = sA s 3) (h4 : sA s' 4 = sA s 4) (h5 : sA s' 5 = sA s 5) : CW s' := by
  unfold CW uB8 wJ; rw [h12, h13, h14, h3, h4, h5]; exact h
theorem Sr.CW (g : Sr s s') (h : CW s) : CW s' := h.of (g.1 _) (g.1 _) (g.2.1 _) (g.ar (by decide)) (g.ar (by decide)) (g.ar (by decide))
theorem stL2_CW (h : CW s) : CW (stL2 s a b) := h.of (stL2_I (by decide) (by decide)) (stL2_I (by decide) (by decide)) stL2_J (by rw [stL2_A]) (by rw [stL2_A]) (by rw [stL2_A])
theorem jT_CW (h : CW s) : CW (jT s e) := by
  by_cases q : vi e = true ∧ sA s 5 e.toNatClampNeg = 0
  · obtain ⟨q1, q2⟩ := q
    have T := jT_t q1 q2
    have r := vi_cl q1
    have f1 : uB8 s 5 e.toNatClampNeg = false := decide_eq_false (fun w => w q2)
    have f2 : uB8 (jT s e) 5 e.toNatClampNeg = true := by unfold uB8; rw [jT_5 q1 q2, if_pos rfl]; decide
    have f3 : ∀ i, i ≠ e.toNatClampNeg → uB8 (jT s e) 5 i = uB8 s 5 i := fun i hi => by unfold uB8; rw [jT_5 q1 q2, if_neg hi]
    have w3 : wJ (jT s e) = wJ s := by unfold wJ; rw [jT_A (by decide) (by decide) (by decide)]
    refine ⟨?_, ?_, ?_⟩
    · rw [jT_I (by decide), h.1]; unfold uB8; rw [jT_A (by decide) (by decide) (by decide)]
    · rw [T.1, h.2.1, cnt_set 128 0 (Nat.zero_le _) (by omega) f1 f2 f3, Int32.ofNat_add]; rfl
    · rw [T.2, h.2.2, w3, wsm_set 128 0 (Nat.zero_le _) (by omega) f1 f2 f3]; rfl
  · unfold jT; rw [if_neg q]; exact h
theorem lT_CW (h : CW s) : CW (lT s e) := by
  by_cases q : vi e = true ∧ ¬ sA s 5 e.toNatClampNeg = 0
  · obtain ⟨q1, q2⟩ := q
    have T := lT_t q1 q2
    have r := vi_cl q1
    have f1 : uB8 s 5 e.toNatClampNeg = true := decide_eq_true q2
    have f2 : uB8 (lT s e) 5 e.toNatClampNeg = false := by unfold uB8; rw [lT_5 q1 q2, if_pos rfl]; decide
    have f3 : ∀ i, i ≠ e.toNatClampNeg → uB8 s 5 i = uB8 (lT s e) 5 i := fun i hi => by unfold uB8; rw [lT_5 q1 q2, if_neg hi]
    have w3 : wJ (lT s e) = wJ s := by unfold wJ; rw [lT_A (by decide) (by decide) (by decide)]
    refine ⟨?_, ?_, ?_⟩
    · rw [lT_I (by decide), h.1]; unfold uB8; rw [lT_A (by decide) (by decide) (by decide)]
    · rw [T.1, h.2.1, cnt_set 128 0 (Nat.zero_le _) (by omega) f2 f1 f3, Int32.ofNat_add, show Int32.ofNat 1 = 1 from rfl, Int32.add_sub_cancel]
    · rw [T.2, h.2.2, w3, wsm_set 128 0 (Nat.zero_le _) (by omega) f2 f1 f3]; unfold wJ; rw [Int64.add_sub_cancel]
  · unfold lT; rw [if_neg q]; exact h
theorem frS_CW (h : CW s) (hv : vi e = true) (h4 : sA s 4 e.toNatClampNeg ≠ 0) (h5 : sA s 5 e.toNatClampNeg = 0) : CW (frS s e) := by
  have r := vi_cl hv
  have f1 : uB8 s 4 e.toNatClampNeg = true := decide_eq_true h4
  have f2 : uB8 (frS s e) 4 e.toNatClampNeg = false := by unfold uB8; rw [frS_4, if_pos rfl]; decide
  have f3 : ∀ i, i ≠ e.toNatClampNeg → uB8 s 4 i = uB8 (frS s e) 4 i := fun i hi => by unfold uB8; rw [frS_4, if_neg hi]
  have w5 : uB8 (frS s e) 5 = uB8 s 5 := by unfold uB8; rw [frS_5z h5]
  have w3 : wJ (frS s e) = wJ s := by unfold wJ; rw [frS_A (by decide) (by decide)]
  refine ⟨?_, ?_, ?_⟩
  · have : sI (frS s e) 12 = sI s 12 - 1 := by unfold frS; rw [sI_uI, if_pos rfl]
    rw [this, h.1, cnt_set 128 0 (Nat.zero_le _) (by omega) f2 f1 f3, Int32.ofNat_add, show Int32.ofNat 1 = 1 from rfl, Int32.add_sub_cancel]
  · rw [frS_I (by decide), w5]; exact h.2.1
  · have : sJ (frS s e) 14 = sJ s 14 := by unfold frS; rw [sJ_uI, sJ_uA, sJ_uA]
    rw [this, w5, w3]; exact h.2.2
theorem stE_CW (h : CW s) (hv : vi a = true) (h4 : sA s 4 a.toNatClampNeg = 0) (h5 : sA s 5 a.toNatClampNeg = 0) : CW (stE s a b c d) := by
  have r := vi_cl hv
  have f1 : uB8 s 4 a.toNatClampNeg = false := decide_eq_false (fun w => w h4)
  have f2 : uB8 (stE s a b c d) 4 a.toNatClampNeg = true := by unfold uB8; rw [stE_1.2.2.2.1, if_pos rfl]; decide
  have f3 : ∀ i, i ≠ a.toNatClampNeg → uB8 (stE s a b c d) 4 i = uB8 s 4 i := fun i hi => by unfold uB8; rw [stE_1.2.2.2.1, if_neg hi]
  have w5 : uB8 (stE s a b c d) 5 = uB8 s 5 := by
    unfold uB8; funext i; rw [stE_1.2.2.2.2]
    by_cases q : i = a.toNatClampNeg
    · rw [if_pos q, q, h5]
    · rw [if_neg q]
  refine ⟨?_, ?_, ?_⟩
  · have : sI (stE s a b c d) 12 = sI s 12 + 1 := by unfold stE; simp only [sI_uI, if_true]
    rw [this, h.1, cnt_set 128 0 (Nat.zero_le _) (by omega) f1 f2 f3, Int32.ofNat_add]; rfl
  · have : sI (stE s a b c d) 13 = sI s 13 := by unfold stE; simp only [sI_uI, sI_uA, Nat.reduceEqDiff, if_false]
    rw [this, w5]; exact h.2.1
  · have : sJ (stE s a b c d) 14 = sJ s 14 := by unfold stE; simp only [sJ_uI, sJ_uA]
    rw [this, w5, h.2.2]
    refine wsm_congr _ _ fun i _ _ => ⟨rfl, fun q => ?_⟩
    have : i ≠ a.toNatClampNeg := fun w => (of_decide_eq_true q) (by rw [w]; exact h5)
    unfold wJ; rw [stE_1.2.2.1, if_neg this]
theorem iU_CW (h : CW s) : CW (iU s e) := by
  have hx : CW (sx s e) := sx_Sr.CW h
  unfold iU; split
  · exact stL2_CW (jT_CW hx)
  · split
    · exact stL2_CW hx
    · exact stL2_CW (jT_CW (lT_CW hx))
theorem cT_CW (h : CW s) (hv : vi e = true) (h4 : sA s 4 e.toNatClampNeg ≠ 0) (h5 : sA s 5 e.toNatClampNeg ≠ 0) : CW (cT s e) := by
  have hx : CW (cT1 s e) := sx_Sr.CW (frS_CW (lT_CW h) hv (by rw [lT_A (by decide) (by decide) (by decide)]; exact h4) (by rw [lT_5 hv h5, if_pos rfl]))
  unfold cT; refine stL2_CW ?_; split
  · exact hx
  · exact jT_CW hx
theorem ad_CW {f : Nat} (h : CW s) (hI : Iv s) (hf : f < 128) (h4 : sA s 4 f = 0) : CW (adS s f u v w) := by
  obtain ⟨o1, o2, o3⟩ := ofi hf
  unfold adS
  exact iU_CW (stE_CW h o3 (by rw [o2]; exact h4) (by rw [o2]; exact Decidable.byContradiction fun w => (hI.2.2.2.1 f hf).1 w h4))
theorem rm_CW (h : CW s) : CW (rmS s e) := by
  unfold rmS
  by_cases hp : pr s e = true
  · rw [if_pos hp]
    obtain ⟨hv, h4⟩ := pr_iff.1 hp
    by_cases e1 : sA s 5 e.toNatClampNeg = 0
    · rw [if_pos e1]; exact stL2_CW (frS_CW h hv h4 e1)
    · rw [if_neg e1]; exact cT_CW h hv h4 e1
  · rw [if_neg hp]; exact h
theorem ini_CW : CW (ini0 a) := by
  have c2 := cl_rg (lo := 2) (hi := 32) a (by decide)
  simp only [Int32.reduceToInt] at c2
  obtain ⟨I1, a4, a3, a5, i0, i12, i13, j14, -⟩ := Iv_ini (a := a) c2.2
  have f4 : ∀ i, uB8 (ini0 a) 4 i = false := fun i => decide_eq_false (fun w => w (a4 i))
  have f5 : ∀ i, uB8 (ini0 a) 5 i = false := fun i => decide_eq_false (fun w => w (a5 i))
  refine ⟨by rw [i12, cnt_none _ _ fun i _ _ => f4 i]; rfl, by rw [i13, cnt_none _ _ fun i _ _ => f5 i]; rfl, ?_⟩
  rw [j14]
  have : ∀ (k j : Nat), wsm (uB8 (ini0 a) 5) (wJ (ini0 a)) j k = 0 := fun k => by
    induction k with
    | zero => intro j; rfl
    | succ k ih => intro j; simp only [wsm]; rw [f5, ih, if_neg (by decide)]; rfl
  exact (this _ _).symm
def LE (s : St) : Prop := (sI s 15 = -1 ∨ tr s (sI s 15) = true) ∧ (sI s 16 = -1 ∨ tr s (sI s 16) = false)
theorem tr_of (h4 : sA s' 4 = sA s 4) (h5 : sA s' 5 = sA s 5) : tr s' e = tr s e := by unfold tr; rw [h4, h5]
theorem iU_LE (hI : Iv s) (he : vi e = true) (h4 : sA s 4 e.toNatClampNeg ≠ 0) (h5 : sA s 5 e.toNatClampNeg = 0) : LE (iU s e) := by
  have hS : Sr s (sx s e) := sx_Sr
  have hIx := hS.Iv hI
  have h4x : sA (sx s e) 4 e.toNatClampNeg ≠ 0 := by rw [hS.ar (by decide)]; exact h4
  have h5x : sA (sx s e) 5 e.toNatClampNeg = 0 := by rw [hS.ar (by decide)]; exact h5
  unfold iU
  by_cases e1 : sA (sx s e) 8 (sA s 2 e.toNatClampNeg).toNatClampNeg = 0
  · rw [if_pos e1]
    unfold LE; rw [stL2_15.1, stL2_15.2]
    refine ⟨Or.inr (tr_t he ?_ ?_), Or.inl rfl⟩
    · rw [stL2_A, jT_A (by decide) (by decide) (by decide)]; exact h4x
    · rw [stL2_A, jT_5 he h5x, if_pos rfl]; decide
  · rw [if_neg e1]
    have hm := hvF_PK (exq_PK (s := s) (a := sA s 1 e.toNatClampNeg) (ex := -1)) 32 (-1) (sA s 2 e.toNatClampNeg) (Or.inl rfl)
    change hvF (sx s e) 32 (-1) (sA s 2 e.toNatClampNeg) = -1 ∨ ∃ X, X < 32 ∧ MEM (sx s e) X (hvF (sx s e) 32 (-1) (sA s 2 e.toNatClampNeg)) at hm
    generalize hvF (sx s e) 32 (-1) (sA s 2 e.toNatClampNeg) = m at *
    by_cases e2 : m = -1 ∨ pc (sx s e) e m = false
    · rw [if_pos e2]; unfold LE; rw [stL2_15.1, stL2_15.2]; exact ⟨Or.inl rfl, Or.inl rfl⟩
    · rw [if_neg e2]
      have e3 : m ≠ -1 := fun w => e2 (Or.inl w)
      obtain ⟨X, hX, hM⟩ := hm.resolve_left e3
      obtain ⟨m1, m2, _⟩ := (hIx.2.2.2.2 X hX).2 m hM
      have hne : ¬ e.toNatClampNeg = m.toNatClampNeg := fun w => m2 (by rw [← w]; exact h5x)
      have h5l : sA (lT (sx s e) m) 5 e.toNatClampNeg = 0 := by rw [lT_5 m1 m2, if_neg hne]; exact h5x
      unfold LE; rw [stL2_15.1, stL2_15.2]
      refine ⟨Or.inr (tr_t he ?_ ?_), Or.inr (tr_f ?_)⟩
      · rw [stL2_A, jT_A (by decide) (by decide) (by decide), lT_A (by decide) (by decide) (by decide)]; exact h4x
      · rw [stL2_A, jT_5 he h5l, if_pos rfl]; decide
      · rw [stL2_A, jT_5 he h5l, if_neg (fun w => hne w.symm), lT_5 m1 m2, if_pos rfl]
theorem ad_LE {f : Nat} (hI : Iv s) (hf : f < 128) (h4 : sA s 4 f = 0) (hu : 0 ≤ u.toInt ∧ u.toInt < (sI s 0).toInt) (hv : 0 ≤ v.toInt ∧ v.toInt < (sI s 0).toInt) (hne : u ≠ v) : LE (adS s f u v w) := by
  obtain ⟨o1, o2, o3⟩ := ofi hf
  unfold adS
  refine iU_LE (stE_Iv hI o3 (by rw [o2]; exact h4) hu hv hne) o3 ?_ ?_
  · rw [stE_1.2.2.2.1, if_pos rfl]; decide
  · rw [stE_1.2.2.2.2, if_pos rfl]
theorem Sr.LE (g : Sr s s') (h : LE s) : LE s' := by
  unfold Pj.LE; rw [g.1, g.1, tr_of (g.ar (by decide)) (g.ar (by decide)), tr_of (g.ar (by decide)) (g.ar (by decide))]; exact h
theorem ad_v {f : Nat} (hI : Iv s) (hf : f < 128) (h4 : sA s 4 f = 0) (hu : 0 ≤ u.toInt ∧ u.toInt < (sI s 0).toInt) (hv : 0 ≤ v.toInt ∧ v.toInt < (sI s 0).toInt) (hne : u ≠ v) :
    (∀ i, sA (adS s f u v w) 1 i = if i = f then u else sA s 1 i) ∧ (∀ i, sA (adS s f u v w) 2 i = if i = f then v else sA s 2 i) ∧ (∀ i, sA (adS s f u v w) 3 i = if i = f then cl (-1000000) 1000000 w else sA s 3 i) ∧ (∀ i, sA (adS s f u v w) 4 i = if i = f then 1 else sA s 4 i) ∧ sI (adS s f u v w) 0 = sI s 0 := by
  obtain ⟨o1, o2, o3⟩ := ofi hf
  have hI1 := stE_Iv (d := cl (-1000000) 1000000 w) hI o3 (by rw [o2]; exact h4) hu hv hne
  obtain ⟨-, q2, q3, q4, -⟩ := iU_ok hI1 o3 (by rw [stE_1.2.2.2.1, if_pos rfl]; decide) (by rw [stE_1.2.2.2.2, if_pos rfl])
  unfold adS
  rw [q2.1, q2.2.1, q2.2.2, q3, q4]
  refine ⟨fun i => by rw [stE_1.1, o2], fun i => by rw [stE_1.2.1, o2], fun i => by rw [stE_1.2.2.1, o2], fun i => by rw [stE_1.2.2.2.1, o2], ?_⟩
  unfold stE; simp only [sI_uI, sI_uA, Nat.reduceEqDiff, if_false]
theorem rm_v (hI : Iv s) : sA (rmS s e) 1 = sA s 1 ∧ sA (rmS s e) 2 = sA s 2 ∧ sA (rmS s e) 3 = sA s 3 ∧ (∀ i, sA (rmS s e) 4 i = if pr s e = true ∧ i = e.toNatClampNeg then 0 else sA s 4 i) ∧ sI (rmS s e) 0 = sI s 0 := by
  unfold rmS
  by_cases hp : pr s e = true
  · simp only [hp, true_and, if_true]
    obtain ⟨hv, h4⟩ := pr_iff.1 hp
    by_cases e1 : sA s 5 e.toNatClampNeg = 0
    · rw [if_pos e1, stL2_A, frS_A (by decide) (by decide), frS_A (by decide) (by decide), frS_A (by decide) (by decide), stL2_I (by decide) (by decide), frS_I (by decide)]
      exact ⟨rfl, rfl, rfl, fun i => frS_4, rfl⟩
    · rw [if_neg e1]
      obtain ⟨-, q2, q3, q4, -⟩ := cT_ok hI hv e1
      exact ⟨q2.2.1, q2.2.2, q3, q4, q2.1⟩
  · simp only [hp, false_and, if_false, Bool.false_eq_true]
    simp
end N

section O
variable {lw : LW} {H : AH} {p q j m : Nat} {s s' s1 s2 g : St} {Q : Option Value → AH → Prop} {a b c d e x y t u v w z ex : Int32} {k n X Y i h : Nat}
def Sg (s s' : St) : Prop := sI s' 0 = sI s 0 ∧ (∀ e, sA s' 4 e = 0 ↔ sA s 4 e = 0) ∧ ∀ e, e < 128 → sA s 4 e ≠ 0 → sA s' 1 e = sA s 1 e ∧ sA s' 2 e = sA s 2 e ∧ sA s' 3 e = sA s 3 e
theorem Sg.uu (h : Sg s s') : gU s' = gU s := by
  funext e; unfold gU; exact propext (and_congr Iff.rfl (not_congr (h.2.1 e)))
theorem Sg.gg (h : Sg s s') (he : gU s k) : gA s' k = gA s k ∧ gB s' k = gB s k ∧ gR s' k = gR s k := by
  obtain ⟨h1, h2, h3⟩ := h.2.2 k he.1 he.2
  unfold gA gB gR; rw [h1, h2, h3]; exact ⟨rfl, rfl, rfl⟩
theorem Sg.tt (h : Sg s s') (hk : Kj s) (hk' : Kj s') : gT s' = gT s := by
  have k1 : Kr (gA s') (gB s') (gR s') (gU s') (gT s) := by
    rw [h.uu]; exact hk.cong fun e he => h.gg he
  funext e; exact propext (Kr.uniq hk' k1 e)
theorem Sg.cc {E : Nat → Prop} (h : Sg s s') (hE : ∀ k, E k → gU s k) : gC s' E X Y ↔ gC s E X Y :=
  ⟨fun c => Cn.cong (fun k hk => ⟨(h.gg (hE k hk)).1.symm, (h.gg (hE k hk)).2.1.symm⟩) c, fun c => Cn.cong (fun k hk => ⟨(h.gg (hE k hk)).1, (h.gg (hE k hk)).2.1⟩) c⟩
theorem Sg.pr (h : Sg s s') : pr s' e = pr s e := by
  unfold Pj.pr; congr 1; exact decide_eq_decide.mpr (not_congr (h.2.1 _))
theorem Sg.tr (h : Sg s s') (hk : Kj s) (hk' : Kj s') : tr s' e = tr s e := by
  unfold Pj.tr
  cases q : vi e with
  | false => rfl
  | true =>
    rw [Bool.true_and, Bool.true_and]
    have ht := congrFun (h.tt hk hk') e.toNatClampNeg
    unfold gT at ht
    have ht' : sA s' 5 e.toNatClampNeg ≠ 0 ↔ sA s 5 e.toNatClampNeg ≠ 0 := by
      have r := vi_cl q
      simp only [r, true_and] at ht; exact ht ▸ Iff.rfl
    congr 1
    · exact decide_eq_decide.mpr (not_congr (h.2.1 _))
    · exact decide_eq_decide.mpr ht'
theorem Sg.ew (h : Sg s s') : ew s' e = ew s e := by
  unfold Pj.ew; rw [h.pr]
  by_cases q : Pj.pr s e = true
  · rw [if_pos q, if_pos q]; have := pr_iff.1 q; exact (h.2.2 _ (vi_cl this.1) this.2).2.2
  · rw [if_neg q, if_neg q]
theorem Sg.en (h : Sg s s') : (if Pj.pr s' e = true then sA s' 1 e.toNatClampNeg else -1) = (if Pj.pr s e = true then sA s 1 e.toNatClampNeg else -1) ∧ (if Pj.pr s' e = true then sA s' 2 e.toNatClampNeg else -1) = (if Pj.pr s e = true then sA s 2 e.toNatClampNeg else -1) := by
  rw [h.pr]
  by_cases q : Pj.pr s e = true
  · simp only [if_pos q]; have := pr_iff.1 q; have := h.2.2 _ (vi_cl this.1) this.2; exact ⟨this.1, this.2.1⟩
  · rw [if_neg q, if_neg q, if_neg q, if_neg q]; exact ⟨rfl, rfl⟩
theorem Sg.cw (h : Sg s s') (hJ : Jv s) (hJ' : Jv s') (hC : CW s) (hC' : CW s') : sI s' 12 = sI s 12 ∧ sI s' 13 = sI s 13 ∧ sJ s' 14 = sJ s 14 := by
  have f4 : uB8 s' 4 = uB8 s 4 := by funext i; unfold uB8; exact decide_eq_decide.mpr (not_congr (h.2.1 i))
  have ht := h.tt hJ.2.2 hJ'.2.2
  have f5 : ∀ i, i < 128 → uB8 s' 5 i = uB8 s 5 i := fun i hi => by
    have := congrFun ht i
    unfold gT at this
    simp only [hi, true_and] at this
    unfold uB8; exact decide_eq_decide.mpr (this ▸ Iff.rfl)
  refine ⟨by rw [hC.1, hC'.1, f4], by rw [hC.2.1, hC'.2.1, cnt_congr _ _ fun i _ hi => f5 i (by omega)], ?_⟩
  rw [hC.2.2, hC'.2.2]
  refine wsm_congr _ _ fun i _ hi => ⟨f5 i (by omega), fun w => ?_⟩
  rw [f5 i (by omega)] at w
  unfold wJ
  rw [(h.2.2 i (by omega) ((hJ.1.2.2.2.1 i (by omega)).1 (of_decide_eq_true w))).2.2]
theorem Sg.rp (h : Sg s s') (hJ : Jv s) (hJ' : Jv s') : rpl s' e = rpl s e := by
  unfold rpl
  rw [h.tr hJ.2.2 hJ'.2.2]
  by_cases q : Pj.tr s e = true
  rotate_left
  · rw [if_neg q, if_neg q]
  rw [if_pos q, if_pos q]
  obtain ⟨v1, v2, v3⟩ := tr_iff.1 q
  have uE : gU s e.toNatClampNeg := ⟨vi_cl v1, v2⟩
  have eA := (h.2.2 _ (vi_cl v1) v2).1
  have en := hJ.1.2.1 _ (vi_cl v1)
  have nn := hJ.1.2.2.1.2
  have ra : 0 ≤ (sA s 1 e.toNatClampNeg).toInt ∧ (sA s 1 e.toNatClampNeg).toInt < 32 := by omega
  rw [eA]
  have ht := h.tt hJ.2.2 hJ'.2.2
  have hu := h.uu
  have hX : gX s' e = gX s e := by funext k; unfold gX; rw [ht]
  have hS : Sr s (exq s (sA s 1 e.toNatClampNeg) e).1 := exq_Sr
  have hS' : Sr s' (exq s' (sA s 1 e.toNatClampNeg) e).1 := exq_Sr
  have lb : ∀ i, i < 128 → (lcB (exq s' (sA s 1 e.toNatClampNeg) e).1 i = true ↔ lcB (exq s (sA s 1 e.toNatClampNeg) e).1 i = true) := fun i hi => by
    rw [lcB_iff hJ.1 hJ.2.1 ra hi, lcB_iff hJ'.1 hJ'.2.1 ra hi, hu, ht, hX]
    refine and_congr_right fun w => not_congr ?_
    have g := h.gg w.1
    rw [g.1, g.2.1]
    have c := fun Y => h.cc (E := gX s e) (X := (sA s 1 e.toNatClampNeg).toNatClampNeg) (Y := Y) (fun k hk => hJ.2.2.1 k hk.1)
    exact ⟨fun w => (c _).symm.trans (w.trans (c _)), fun w => (c _).trans (w.trans (c _).symm)⟩
  have lu : ∀ i, i < 128 → lcB (exq s (sA s 1 e.toNatClampNeg) e).1 i = true → gR s' i = gR s i := fun i hi w => (h.gg ((lcB_iff hJ.1 hJ.2.1 ra hi).1 w).1.1).2.2
  have r1 := lcF_0 (s := (exq s (sA s 1 e.toNatClampNeg) e).1)
  have r2 := lcF_0 (s := (exq s' (sA s 1 e.toNatClampNeg) e).1)
  rw [gR_of (hS.ar (by decide))] at r1
  rw [gR_of (hS'.ar (by decide))] at r2
  rcases r1 with ⟨a1, a2⟩ | ⟨a1, a2, a3⟩ <;> rcases r2 with ⟨b1, b2⟩ | ⟨b1, b2, b3⟩
  · rw [a1, b1]
  · have := (lb _ (vi_cl b1)).1 b2; rw [a2 _ (vi_cl b1)] at this; exact absurd this (by decide)
  · have := (lb _ (vi_cl a1)).2 a2; rw [b2 _ (vi_cl a1)] at this; exact absurd this (by decide)
  · have c1 := a3 _ (vi_cl b1) ((lb _ (vi_cl b1)).1 b2)
    have c2 := b3 _ (vi_cl a1) ((lb _ (vi_cl a1)).2 a2)
    rw [lu _ (vi_cl b1) ((lb _ (vi_cl b1)).1 b2), lu _ (vi_cl a1) a2] at c2
    exact inj_vi b1 a1 (gR_inj _ _ (vi_cl b1) (vi_cl a1) (Nat.le_antisymm c2 c1))
theorem sn_eq (h : Sr s s1) (hJ : Jv s) (hx : 0 ≤ x.toInt ∧ x.toInt < 32) {X : Nat} (hX : X < 32) : sA (exq s1 x (-1)).1 8 X ≠ 0 ↔ gC s (gT s) x.toNatClampNeg X := by
  have hJ1 := h.Jv hJ
  have q := seen_iff (ex := -1) hJ1.1 hJ1.2.1 hx hX
  have z := seen01 (ex := -1) hJ1.1 hx hX
  rw [gX_m1] at q
  unfold gC at q ⊢
  rw [gA_of (h.ar (by decide)), gB_of (h.ar (by decide)), gT_of (h.ar (by decide))] at q
  rw [← q]
  rcases z with z | z <;> rw [z] <;> decide
theorem Sg.sn (h : Sg s s') (hJ : Jv s) (hJ' : Jv s') (hx : 0 ≤ x.toInt ∧ x.toInt < 32) (hX : X < 32) : sA (exq s' x (-1)).1 8 X ≠ 0 ↔ sA (exq s x (-1)).1 8 X ≠ 0 := by
  rw [sn_eq Sr.refl hJ hx hX, sn_eq Sr.refl hJ' hx hX, h.tt hJ.2.2 hJ'.2.2]
  exact h.cc fun k hk => hJ.2.2.1 k hk
theorem Sg.rm (h : Sg s s') (hI : Iv s) (hI' : Iv s') : Sg (rmS s e) (rmS s' e) := by
  obtain ⟨v1, v2, v3, v4, v5⟩ := rm_v (e := e) hI
  obtain ⟨w1, w2, w3, w4, w5⟩ := rm_v (e := e) hI'
  refine ⟨by rw [v5, w5]; exact h.1, fun k => ?_, fun k hk hu => ?_⟩
  · rw [v4, w4, h.pr]; split
    · exact Iff.rfl
    · exact h.2.1 k
  · rw [v1, v2, v3, w1, w2, w3]
    rw [v4] at hu
    by_cases w : Pj.pr s e = true ∧ k = e.toNatClampNeg
    · rw [if_pos w] at hu; exact absurd rfl hu
    · rw [if_neg w] at hu; exact h.2.2 k hk hu
theorem Sg.ad {f : Nat} (h : Sg s s') (hI : Iv s) (hI' : Iv s') (hf : f < 128) (h4 : sA s 4 f = 0) (hu : vv s u = true) (hv : vv s v = true) (hne : u ≠ v) : Sg (adS s f u v w) (adS s' f u v w) := by
  have ru := (vv_rg hu).1
  have rv := (vv_rg hv).1
  obtain ⟨v1, v2, v3, v4, v5⟩ := ad_v (w := w) hI hf h4 ru rv hne
  obtain ⟨w1, w2, w3, w4, w5⟩ := ad_v (w := w) hI' hf ((h.2.1 f).2 h4) (by rw [h.1]; exact ru) (by rw [h.1]; exact rv) hne
  refine ⟨by rw [v5, w5]; exact h.1, fun k => ?_, fun k hk hu => ?_⟩
  · rw [v4, w4]; split
    · exact Iff.rfl
    · exact h.2.1 k
  · rw [v1, v2, v3, w1, w2, w3]
    rw [v4] at hu
    by_cases w : k = f
    · rw [if_pos w, if_pos w, if_pos w, if_pos w, if_pos w, if_pos w]; exact ⟨rfl, rfl, rfl⟩
    · rw [if_neg w] at hu; simp only [if_neg w]; exact h.2.2 k hk hu
theorem Sg.ar {f : Nat} (h : Sg s s') (hI' : Iv s') (hf : f < 128) (h4 : sA s 4 f = 0) (hu : vv s u = true) (hv : vv s v = true) (hne : u ≠ v) : Sg s (rmS (adS s' f u v w) (Int32.ofNat f)) := by
  have ru := (vv_rg hu).1
  have rv := (vv_rg hv).1
  obtain ⟨o1, o2, o3⟩ := ofi hf
  have f4 := (h.2.1 f).2 h4
  have ru' : 0 ≤ u.toInt ∧ u.toInt < (sI s' 0).toInt := by rw [h.1]; exact ru
  have rv' : 0 ≤ v.toInt ∧ v.toInt < (sI s' 0).toInt := by rw [h.1]; exact rv
  obtain ⟨w1, w2, w3, w4, w5⟩ := ad_v (w := w) hI' hf f4 ru' rv' hne
  have hIa := (ad_ok (w := w) hI' hf f4 ru' rv' hne).1
  have pa := (ad_ok (w := w) hI' hf f4 ru' rv' hne).2.2.2.2.2.2.2.2.1
  obtain ⟨v1, v2, v3, v4, v5⟩ := rm_v (e := Int32.ofNat f) hIa
  refine ⟨by rw [v5, w5]; exact h.1, fun k => ?_, fun k hk hu => ?_⟩
  · rw [v4, o2, w4]
    by_cases q : k = f
    · rw [if_pos ⟨pa, q⟩, q]; exact ⟨fun _ => h4, fun _ => rfl⟩
    · rw [if_neg (fun w => q w.2), if_neg q]; exact h.2.1 k
  · have q : k ≠ f := fun w => hu (by rw [w]; exact h4)
    rw [v1, v2, v3, w1, w2, w3, if_neg q, if_neg q, if_neg q]; exact h.2.2 k hk hu
theorem t10 : Cl (pj lw) 10 [.ref p] (ob H p s) Q ↔ Q (some (.long (sJ s 14))) (ob H p s) := by rw [c10]; simp +decide only [w10_0, w10_1, w10_4, isO_put, true_and, g14]
theorem t12 : Cl (pj lw) 12 [.ref p] (ob H p s) Q ↔ Q (some (.int (sI s 0 - sI s 13))) (ob H p s) := by rw [c12]; simp +decide only [w12_0, w12_1, w12_4, w12_5, w12_8, w12_9, isO_put, true_and, g0, g13]
end O

section P
variable {lw : LW} {H : AH} {p q j m : Nat} {s s' s1 s2 : St} {Q : Option Value → AH → Prop} {a b c d e x y u v w z ex w0 w1 w2 : Int32} {k n X Y i h : Nat}
theorem wsm_0 {f : Nat → Bool} {w : Nat → Int64} : ∀ (k j : Nat), (∀ i, j ≤ i → i < j + k → f i = false) → wsm f w j k = 0
  | 0, _, _ => rfl
  | k + 1, j, h => by
    simp only [wsm]; rw [h j (Nat.le_refl _) (by omega), wsm_0 k (j + 1) fun i a b => h i (by omega) (by omega)]; rfl
theorem wsm_3 {f : Nat → Bool} {w : Nat → Int64} (h : ∀ i, 3 ≤ i → i < 128 → f i = false) : wsm f w 0 128 = (if f 0 = true then w 0 else 0) + ((if f 1 = true then w 1 else 0) + (if f 2 = true then w 2 else 0)) := by
  show (if f 0 = true then w 0 else 0) + ((if f 1 = true then w 1 else 0) + ((if f 2 = true then w 2 else 0) + wsm f w 3 125)) = _
  rw [wsm_0 125 3 fun i a b => h i a (by omega), Int64.add_zero]
theorem cnt_3 {f : Nat → Bool} (h : ∀ i, 3 ≤ i → i < 128 → f i = false) : cnt f 0 128 = (if f 0 = true then 1 else 0) + ((if f 1 = true then 1 else 0) + (if f 2 = true then 1 else 0)) := by
  show (if f 0 = true then 1 else 0) + ((if f 1 = true then 1 else 0) + ((if f 2 = true then 1 else 0) + cnt f 3 125)) = _
  rw [cnt_none 125 3 fun i a b => h i a (by omega), Nat.add_zero]
def Tr3 (s : St) (w0 w1 w2 : Int32) : Prop := sI s 0 = 3 ∧ (sA s 1 0 = 0 ∧ sA s 2 0 = 1) ∧ (sA s 1 1 = 1 ∧ sA s 2 1 = 2) ∧ (sA s 1 2 = 0 ∧ sA s 2 2 = 2) ∧ sA s 3 0 = w0 ∧ sA s 3 1 = w1 ∧ sA s 3 2 = w2
theorem Sr.tr3 (g : Sr s s') (h : Tr3 s w0 w1 w2) : Tr3 s' w0 w1 w2 := by
  unfold Tr3; rw [g.1, g.ar (t := 1) (by decide), g.ar (t := 2) (by decide), g.ar (t := 3) (by decide)]; exact h
theorem Tr3.g (h : Tr3 s w0 w1 w2) : (gA s 0 = 0 ∧ gB s 0 = 1) ∧ (gA s 1 = 1 ∧ gB s 1 = 2) ∧ (gA s 2 = 0 ∧ gB s 2 = 2) := by
  unfold gA gB; rw [h.2.1.1, h.2.1.2, h.2.2.1.1, h.2.2.1.2, h.2.2.2.1.1, h.2.2.2.1.2]; exact ⟨⟨rfl, rfl⟩, ⟨rfl, rfl⟩, rfl, rfl⟩
theorem n3 (h : i < 3) : i = 0 ∨ i = 1 ∨ i = 2 := by omega
theorem Tr3.sep (h : Tr3 s w0 w1 w2) (hx : X < 3) (hy : Y < 3) (hne : X ≠ Y) : ¬ gC s (fun g => g = X) (gA s Y) (gB s Y) := by
  obtain ⟨⟨a0, b0⟩, ⟨a1, b1⟩, a2, b2⟩ := h.g
  intro c
  rcases n3 hx with rfl | rfl | rfl <;> rcases n3 hy with rfl | rfl | rfl
  · exact hne rfl
  · have := c (fun z => z = 2) (fun e he => by subst he; rw [a0, b0]; decide); rw [a1, b1] at this; exact absurd (this.2 rfl) (by decide)
  · have := c (fun z => z = 2) (fun e he => by subst he; rw [a0, b0]; decide); rw [a2, b2] at this; exact absurd (this.2 rfl) (by decide)
  · have := c (fun z => z = 0) (fun e he => by subst he; rw [a1, b1]; decide); rw [a0, b0] at this; exact absurd (this.1 rfl) (by decide)
  · exact hne rfl
  · have := c (fun z => z = 0) (fun e he => by subst he; rw [a1, b1]; decide); rw [a2, b2] at this; exact absurd (this.1 rfl) (by decide)
  · have := c (fun z => z = 1) (fun e he => by subst he; rw [a2, b2]; decide); rw [a0, b0] at this; exact absurd (this.2 rfl) (by decide)
  · have := c (fun z => z = 1) (fun e he => by subst he; rw [a2, b2]; decide); rw [a1, b1] at this; exact absurd (this.1 rfl) (by decide)
  · exact hne rfl
def P3 (i j k : Nat) : Prop := (i < 3 ∧ j < 3 ∧ k < 3) ∧ i ≠ j ∧ j ≠ k ∧ i ≠ k
theorem P3.or (h : P3 i j k) (hx : X < 3) : X = i ∨ X = j ∨ X = k := by unfold P3 at h; omega
theorem Tr3.con (h : Tr3 s w0 w1 w2) (hp : P3 i j k) {E : Nat → Prop} (hi : E i) (hj : E j) : gC s E (gA s k) (gB s k) := by
  obtain ⟨⟨a0, b0⟩, ⟨a1, b1⟩, a2, b2⟩ := h.g
  have ci : gC s E (gA s i) (gB s i) := Cn.edge hi
  have cj : gC s E (gA s j) (gB s j) := Cn.edge hj
  obtain ⟨⟨p1, p2, p3⟩, p4, p5, p6⟩ := hp
  unfold gC at *
  rcases n3 p1 with rfl | rfl | rfl <;> rcases n3 p2 with rfl | rfl | rfl <;> rcases n3 p3 with rfl | rfl | rfl <;> first | exact absurd rfl p4 | exact absurd rfl p5 | exact absurd rfl p6 | skip
  · rw [a0, b0] at ci; rw [a1, b1] at cj; rw [a2, b2]; exact ci.trans cj
  · rw [a0, b0] at ci; rw [a2, b2] at cj; rw [a1, b1]; exact ci.symm.trans cj
  · rw [a1, b1] at ci; rw [a0, b0] at cj; rw [a2, b2]; exact cj.trans ci
  · rw [a1, b1] at ci; rw [a2, b2] at cj; rw [a0, b0]; exact cj.trans ci.symm
  · rw [a2, b2] at ci; rw [a0, b0] at cj; rw [a1, b1]; exact cj.symm.trans ci
  · rw [a2, b2] at ci; rw [a1, b1] at cj; rw [a0, b0]; exact ci.trans cj.symm
theorem Tr3.all (h : Tr3 s w0 w1 w2) (hJ : Jv s) (hu : ∀ e, gU s e ↔ e < 3) (hp : P3 i j k) (h1 : gR s i < gR s j) (h2 : gR s j < gR s k) : (∀ e, gT s e ↔ (e < 3 ∧ e ≠ k)) ∧ Bn (gA s) (gB s) (gR s) (gT s) j (gA s k) (gB s k) := by
  have hk := hJ.2.2
  have hpo := fun X hX => hp.or (X := X) hX
  obtain ⟨⟨p1, p2, p3⟩, p4, p5, p6⟩ := hp
  have lti : ∀ g, Bl (gU s) (gR s) (gR s i) g → g = j := fun g hg => by
    rcases hpo g ((hu g).1 hg.1) with rfl | rfl | rfl
    · have := hg.2; omega
    · rfl
    · have := hg.2; omega
  have ltj : ∀ g, Bl (gU s) (gR s) (gR s j) g → g = i := fun g hg => by
    rcases hpo g ((hu g).1 hg.1) with rfl | rfl | rfl
    · rfl
    · have := hg.2; omega
    · have := hg.2; omega
  have ti : gT s i := (hk.2 i ((hu i).2 p1)).2 fun c => h.sep p2 p1 (Ne.symm p4) (c.mono lti)
  have tj : gT s j := (hk.2 j ((hu j).2 p2)).2 fun c => h.sep p1 p2 p4 (c.mono ltj)
  have tk : ¬ gT s k := fun w => (hk.2 k ((hu k).2 p3)).1 w (h.con ⟨⟨p1, p2, p3⟩, p4, p5, p6⟩ ⟨(hu i).2 p1, by omega⟩ ⟨(hu j).2 p2, h2⟩)
  refine ⟨fun e => ⟨fun w => ⟨(hu e).1 (hk.1 e w), fun v => tk (v ▸ w)⟩, fun w => ?_⟩, tj, h.con ⟨⟨p1, p2, p3⟩, p4, p5, p6⟩ ⟨ti, by omega⟩ ⟨tj, by omega⟩, fun c => h.sep p1 p3 p6 (c.mono fun g hg => ltj g ⟨hk.1 g hg.1, hg.2⟩)⟩
  rcases hpo e w.1 with rfl | rfl | rfl
  · exact ti
  · exact tj
  · exact absurd rfl w.2
theorem Tr3.two (h : Tr3 s w0 w1 w2) (hJ : Jv s) (hr : X < 3) (hu : ∀ e, gU s e ↔ (e < 3 ∧ e ≠ X)) : ∀ e, gT s e ↔ (e < 3 ∧ e ≠ X) := fun e => by
  have hk := hJ.2.2
  refine ⟨fun w => (hu e).1 (hk.1 e w), fun w => (hk.2 e ((hu e).2 w)).2 fun c => ?_⟩
  have : ∃ o, o < 3 ∧ o ≠ e ∧ o ≠ X := by
    by_cases q0 : 0 ≠ e ∧ 0 ≠ X
    · exact ⟨0, by omega, q0⟩
    · by_cases q1 : 1 ≠ e ∧ 1 ≠ X
      · exact ⟨1, by omega, q1⟩
      · exact ⟨2, by omega, by omega⟩
  obtain ⟨o, o1, o2, o3⟩ := this
  refine h.sep o1 w.1 o2 (c.mono fun g hg => ?_)
  have := (hu g).1 hg.1
  have : g ≠ e := fun v => by have := hg.2; rw [v] at this; omega
  omega
theorem Tr3.rp (h : Tr3 s w0 w1 w2) (hJ : Jv s) (hu : ∀ e, gU s e ↔ e < 3) (ht : ∀ e, gT s e ↔ (e < 3 ∧ e ≠ k)) (hk3 : k < 3) (hX : X < 3) : rpl s (Int32.ofNat X) = if X = k then -1 else Int32.ofNat k := by
  obtain ⟨o1, o2, o3⟩ := ofi (i := X) (by omega)
  have hk := hJ.2.2
  unfold rpl
  by_cases q : X = k
  · rw [if_pos q, if_neg]
    intro w
    have := (tr_iff.1 w).2.2
    rw [o2] at this
    exact ((ht X).1 ⟨by omega, this⟩).2 q
  · rw [if_neg q]
    have tX : gT s X := (ht X).2 ⟨hX, q⟩
    have uX := (hu X).2 hX
    have uk := (hu k).2 hk3
    have nk : ¬ gT s k := fun w => ((ht k).1 w).2 rfl
    rw [if_pos (tr_t o3 (by rw [o2]; exact uX.2) (by rw [o2]; exact tX.2)), o2]
    have en := hJ.1.2.1 X (by omega)
    have nn := hJ.1.2.2.1.2
    have ra : 0 ≤ (sA s 1 X).toInt ∧ (sA s 1 X).toInt < 32 := by omega
    have lb := fun i hi => lcB_iff (ex := Int32.ofNat X) (i := i) hJ.1 hJ.2.1 ra hi
    have eX : gX s (Int32.ofNat X) = fun g => gT s g ∧ g ≠ X := by
      funext g; unfold gX; refine propext (and_congr_right fun w => not_congr ⟨fun v => ?_, fun v => by rw [v]⟩)
      have := congrArg Int32.toNatClampNeg v; rw [(ofi w.1).2.1, o2] at this; exact this
    rw [eX] at lb
    have cr : Crs (gA s) (gB s) (fun g => gT s g ∧ g ≠ X) (gA s X) k := by
      rcases hk.crs tX uk nk with c | c
      · obtain ⟨o, q1, q2, q3⟩ : ∃ o, o < 3 ∧ o ≠ k ∧ o ≠ X := by
          by_cases q0 : 0 ≠ k ∧ 0 ≠ X
          · exact ⟨0, by omega, q0⟩
          · by_cases q1 : 1 ≠ k ∧ 1 ≠ X
            · exact ⟨1, by omega, q1⟩
            · exact ⟨2, by omega, by omega⟩
        refine absurd (c.mono fun g hg => ?_) (h.sep q1 hk3 q2)
        have := (ht g).1 hg.1.1
        have := hg.1.2
        omega
      · exact Br.crs (hk.fo X tX) (c.2.mono fun g hg => hg.1)
    have lk := (lb k (by omega)).2 ⟨⟨uk, nk⟩, cr⟩
    rcases lcF_0 (s := (exq s (sA s 1 X) (Int32.ofNat X)).1) with ⟨r1, r2⟩ | ⟨r1, r2, r3⟩
    · rw [r2 k (by omega)] at lk; exact absurd lk (by decide)
    · have w := ((lb _ (vi_cl r1)).1 r2).1
      have w1 := (hu _).1 w.1
      have : (lcF (exq s (sA s 1 X) (Int32.ofNat X)).1 0 128 (-1)).toNatClampNeg = k := Classical.byContradiction fun v => w.2 ((ht _).2 ⟨w1, v⟩)
      rw [← this, ofv r1]
theorem Tr3.pm (h : Tr3 s w0 w1 w2) (hJ : Jv s) (hu : ∀ e, gU s e ↔ e < 3) (hX : X < 3) (hb : Bn (gA s) (gB s) (gR s) (gT s) Y (gA s X) (gB s X)) : pmx s (sA s 1 X) (sA s 2 X) = Int32.ofNat Y := by
  have en := hJ.1.2.1 X (by omega)
  have nn := hJ.1.2.2.1.2
  have uX := (hu X).2 hX
  have ne := (hJ.1.2.2.2.1 X (by omega)).2 uX.2
  have ra : 0 ≤ (sA s 1 X).toInt ∧ (sA s 1 X).toInt < 32 := by omega
  have rb : 0 ≤ (sA s 2 X).toInt ∧ (sA s 2 X).toInt < 32 := by omega
  have sn := (sn_eq (X := (sA s 2 X).toNatClampNeg) (Sr.refl (s := s)) hJ ra (by rw [cln]; omega)).2 (hJ.2.2.all.1 (Cn.edge uX))
  unfold pmx; rw [if_neg sn]
  obtain ⟨n1, v1, bn⟩ := hv_bn (ex := -1) hJ.1 ra rb ne hJ.2.2.fo sn
  have : gR s (hvF (exq s (sA s 1 X) (-1)).1 32 (-1) (sA s 2 X)).toNatClampNeg = gR s Y := bn.uniq hb
  have := gR_inj _ _ (vi_cl v1) hb.1.1 this
  rw [← this, ofv v1]
theorem Tr3.cw {P : Nat → Prop} [DecidablePred P] (h : Tr3 s w0 w1 w2) (hC : CW s) (ht : ∀ e, gT s e ↔ (e < 3 ∧ P e)) : sI s 13 = Int32.ofNat ((if P 0 then 1 else 0) + ((if P 1 then 1 else 0) + (if P 2 then 1 else 0))) ∧ sJ s 14 = (if P 0 then w0.toInt64 else 0) + ((if P 1 then w1.toInt64 else 0) + (if P 2 then w2.toInt64 else 0)) := by
  have f : ∀ i, i < 128 → uB8 s 5 i = decide (i < 3 ∧ P i) := fun i hi => by
    unfold uB8; refine decide_eq_decide.mpr ?_
    rw [← ht i]; unfold gT; exact ⟨fun w => ⟨hi, w⟩, fun w => w.2⟩
  have f3 : ∀ i, 3 ≤ i → i < 128 → uB8 s 5 i = false := fun i h1 h2 => by rw [f i h2]; exact decide_eq_false (by omega)
  rw [hC.2.1, hC.2.2, cnt_3 f3, wsm_3 f3, f 0 (by decide), f 1 (by decide), f 2 (by decide)]
  unfold wJ
  rw [h.2.2.2.2.1, h.2.2.2.2.2.1, h.2.2.2.2.2.2]
  simp
end P

section Q
variable {lw : LW} {H : AH} {p q m : Nat} {s s' s1 s2 : St} {Q : Option Value → AH → Prop} {a b c d e x y u v w z ex w0 w1 w2 : Int32} {n X Y i j k h : Nat}
theorem ad_15 {f : Nat} (hI : Iv s) (hf : f < 128) (h4 : sA s 4 f = 0) (hu : 0 ≤ u.toInt ∧ u.toInt < (sI s 0).toInt) (hv : 0 ≤ v.toInt ∧ v.toInt < (sI s 0).toInt) (hne : u ≠ v) :
    (sI (adS s f u v w) 15 = Int32.ofNat f ∧ gT (adS s f u v w) f ∧ ((sI (adS s f u v w) 16 = -1 ∧ sI (adS s f u v w) 13 = sI s 13 + 1) ∨ (sI (adS s f u v w) 16 ≠ Int32.ofNat f ∧ vi (sI (adS s f u v w) 16) = true ∧ sA (adS s f u v w) 4 (sI (adS s f u v w) 16).toNatClampNeg ≠ 0))) ∨
    (sI (adS s f u v w) 15 = -1 ∧ sI (adS s f u v w) 16 = -1 ∧ ¬ gT (adS s f u v w) f) := by
  obtain ⟨o1, o2, o3⟩ := ofi hf
  have hI1 := stE_Iv (d := cl (-1000000) 1000000 w) hI o3 (by rw [o2]; exact h4) hu hv hne
  obtain ⟨-, q2, q3, q4, -, q6⟩ := iU_ok hI1 o3 (by rw [stE_1.2.2.2.1, if_pos rfl]; decide) (by rw [stE_1.2.2.2.2, if_pos rfl])
  have e1 : sI (stE s (Int32.ofNat f) u v (cl (-1000000) 1000000 w)) 13 = sI s 13 := by unfold stE; simp only [sI_uI, sI_uA, Nat.reduceEqDiff, if_false]
  rw [o2] at q6
  unfold adS
  rcases q6 with ⟨r1, r2, r3⟩ | ⟨r1, r2, r3, -⟩
  · refine Or.inl ⟨r1, ⟨hf, r2⟩, ?_⟩
    rcases r3 with ⟨u1, u2, -⟩ | ⟨m, u1, u2, u3, u4, u5, -⟩
    · exact Or.inl ⟨u1, by rw [u2, e1]⟩
    · exact Or.inr ⟨by rw [u1]; exact u3, by rw [u1]; exact u4, by rw [u1, q4]; exact u5⟩
  · exact Or.inr ⟨r1, r2, fun w => w.2 r3⟩
theorem rm_15 (hI : Iv s) (ht : tr s e = true) : sI (rmS s e) 16 = e ∧ ((sI (rmS s e) 15 = -1 ∧ sI (rmS s e) 13 = sI s 13 - 1) ∨ (vi (sI (rmS s e) 15) = true ∧ sI (rmS s e) 15 ≠ e ∧ sA s 4 (sI (rmS s e) 15).toNatClampNeg ≠ 0 ∧ sA s 5 (sI (rmS s e) 15).toNatClampNeg = 0)) := by
  obtain ⟨he, h4, h5⟩ := tr_iff.1 ht
  have hp : pr s e = true := pr_iff.2 ⟨he, h4⟩
  obtain ⟨-, -, -, -, -, q6, q7⟩ := cT_ok hI he h5
  have T2 := lT_t he h5
  have hS : Sr (frS (lT s e) e) (cT1 s e) := sx_Sr
  have hr := lcF_ok (s := cT1 s e) 128 0 (-1) (by decide) (Or.inl rfl)
  have e15 : sI (cT s e) 15 = lcF (cT1 s e) 0 128 (-1) := by unfold cT; exact stL2_15.1
  have e5 : ∀ i, i ≠ e.toNatClampNeg → sA (cT1 s e) 5 i = sA s 5 i := fun i hi => by rw [hS.ar (by decide), frS_5, if_neg hi, lT_5 he h5, if_neg hi]
  unfold rmS; rw [if_pos hp, if_neg h5]
  refine ⟨q6, ?_⟩
  rcases q7 with ⟨r1, r2, -⟩ | ⟨r, r1, r2, r3, r4, r5, -⟩
  · exact Or.inl ⟨r1, r2⟩
  · rw [r1]
    refine Or.inr ⟨r4, r3, r5, ?_⟩
    rw [← e15, r1] at hr
    rw [← e5 _ (fun w => r3 (inj_vi r4 he w))]
    exact (hr.resolve_left r2).2
def GD (s : St) (i j k : Nat) (w0 w1 w2 : Int32) : Prop := Jv s ∧ CW s ∧ Tr3 s w0 w1 w2 ∧ (∀ e, gU s e ↔ e < 3) ∧ P3 i j k ∧ gR s i < gR s j ∧ gR s j < gR s k
theorem Sr.gd (g : Sr s s') (h : GD s i j k w0 w1 w2) : GD s' i j k w0 w1 w2 := by
  obtain ⟨h1, h2, h3, h4, h5, h6, h7⟩ := h
  refine ⟨g.Jv h1, g.CW h2, g.tr3 h3, ?_, h5, ?_⟩
  · rw [gU_of (g.ar (by decide))]; exact h4
  · rw [gR_of (g.ar (by decide))]; exact ⟨h6, h7⟩
theorem GD.t (h : GD s i j k w0 w1 w2) : ∀ e, gT s e ↔ (e < 3 ∧ e ≠ k) := (h.2.2.1.all h.1 h.2.2.2.1 h.2.2.2.2.1 h.2.2.2.2.2.1 h.2.2.2.2.2.2).1
theorem gtr (hi : i < 128) : tr s (Int32.ofNat i) = true ↔ gU s i ∧ gT s i := by
  obtain ⟨o1, o2, o3⟩ := ofi hi
  rw [tr_iff, o2]; unfold gU gT
  exact ⟨fun w => ⟨⟨hi, w.2.1⟩, hi, w.2.2⟩, fun w => ⟨o3, w.1.2, w.2.2⟩⟩
theorem GD.tr (h : GD s i j k w0 w1 w2) (hX : X < 3) : tr s (Int32.ofNat X) = decide (X ≠ k) := by
  by_cases q : X = k
  · rw [decide_eq_false (fun w => w q)]
    cases e : Pj.tr s (Int32.ofNat X) with
    | false => rfl
    | true => exact absurd q (((h.t X).1 ((gtr (by omega)).1 e).2).2)
  · rw [decide_eq_true q]; exact (gtr (by omega)).2 ⟨(h.2.2.2.1 X).2 hX, (h.t X).2 ⟨hX, q⟩⟩
theorem q14 (G : GD s i j k w0 w1 w2) (hX : X < 3) (ha : sA s 1 X = a) (hb : sA s 2 X = b) (hq : ∀ s', Sr s s' → Q (some (.int (if X = k then Int32.ofNat j else Int32.ofNat X))) (ob H p s')) : Cl (pj lw) 14 [.ref p, .int a, .int b] (ob H p s) Q := by
  obtain ⟨hJ, hC, h3, hu, hP, o1, o2⟩ := G
  have al := h3.all hJ hu hP o1 o2
  have en := hJ.1.2.1 X (by omega)
  have ne := (hJ.1.2.2.2.1 X (by omega)).2 ((hu X).2 hX).2
  have e : pmx s a b = if X = k then Int32.ofNat j else Int32.ofNat X := by
    rw [← ha, ← hb]
    by_cases q : X = k
    · rw [if_pos q]; subst q; exact h3.pm hJ hu hX al.2
    · rw [if_neg q]; exact h3.pm hJ hu hX (hJ.2.2.self ((al.1 X).2 ⟨hX, q⟩))
  have va : vv s a = true := by rw [← ha]; exact vv_t en.1 hJ.1.2.2.1.2
  have vb : vv s b = true := by rw [← hb]; exact vv_t en.2 hJ.1.2.2.1.2
  refine t14 hJ.1.1 va vb (by rw [← ha, ← hb]; exact ne) ?_
  rw [e]; exact hq _ exq_Sr
theorem q15 (G : GD s i j k w0 w1 w2) (hX : X < 3) (hq : ∀ s', Sr s s' → Q (some (.int (if X = k then -1 else Int32.ofNat k))) (ob H p s')) : Cl (pj lw) 15 [.ref p, .int (Int32.ofNat X)] (ob H p s) Q := by
  have ht := G.t
  obtain ⟨hJ, hC, h3, hu, hP, o1, o2⟩ := G
  refine t15 hJ.1.1 hJ.1.2.1 hJ.1.2.2.1 ?_
  rw [h3.rp hJ hu ht hP.1.2.2 hX]
  refine hq _ ?_
  unfold rplS; split
  · exact exq_Sr
  · exact Sr.refl
theorem GD.cw (h : GD s i j k w0 w1 w2) : sI s 13 = 2 ∧ sJ s 14 = (if 0 ≠ k then w0.toInt64 else 0) + ((if 1 ≠ k then w1.toInt64 else 0) + (if 2 ≠ k then w2.toInt64 else 0)) := by
  have := h.2.2.1.cw (P := fun e => e ≠ k) h.2.1 h.t
  have hk := h.2.2.2.2.1.1.2.2
  refine ⟨?_, this.2⟩
  rw [this.1]
  rcases n3 hk with rfl | rfl | rfl <;> rfl
def S1 (a : Int32) : St := adS (ini0 3) 0 0 1 a
def S2 (a b : Int32) : St := adS (S1 a) 1 1 2 b
def S3 (a b c : Int32) : St := adS (S2 a b) 2 0 2 c
theorem S1_ok : Jv (S1 a) ∧ CW (S1 a) ∧ sI (S1 a) 0 = 3 ∧ (∀ i, sA (S1 a) 4 i = if i = 0 then 1 else 0) ∧ (sA (S1 a) 1 0 = 0 ∧ sA (S1 a) 2 0 = 1) ∧ sA (S1 a) 3 0 = cl (-1000000) 1000000 a := by
  obtain ⟨h1, h2, h3, h4, h5, -⟩ := Iv_ini (a := 3) (by decide)
  have n0 : sI (ini0 3) 0 = 3 := by rw [h5]; rfl
  have hu : 0 ≤ (0 : Int32).toInt ∧ (0 : Int32).toInt < (sI (ini0 3) 0).toInt := by rw [n0]; decide
  have hv : 0 ≤ (1 : Int32).toInt ∧ (1 : Int32).toInt < (sI (ini0 3) 0).toInt := by rw [n0]; decide
  have v := ad_v (w := a) h1 (f := 0) (by decide) (h2 0) hu hv (by decide)
  unfold S1
  refine ⟨ad_J ini_J (by decide) (h2 0) hu hv (by decide), ad_CW ini_CW h1 (by decide) (h2 0), ?_, fun i => ?_, ⟨?_, ?_⟩, ?_⟩
  · rw [v.2.2.2.2, n0]
  · rw [v.2.2.2.1, h2]
  · rw [v.1, if_pos rfl]
  · rw [v.2.1, if_pos rfl]
  · rw [v.2.2.1, if_pos rfl]
theorem S2_ok : Jv (S2 a b) ∧ CW (S2 a b) ∧ sI (S2 a b) 0 = 3 ∧ (∀ i, sA (S2 a b) 4 i = if i < 2 then 1 else 0) ∧ ((sA (S2 a b) 1 0 = 0 ∧ sA (S2 a b) 2 0 = 1) ∧ (sA (S2 a b) 1 1 = 1 ∧ sA (S2 a b) 2 1 = 2)) ∧ sA (S2 a b) 3 0 = cl (-1000000) 1000000 a ∧ sA (S2 a b) 3 1 = cl (-1000000) 1000000 b := by
  obtain ⟨h1, h2, n0, h4, h5, h6⟩ := S1_ok (a := a)
  have hu : 0 ≤ (1 : Int32).toInt ∧ (1 : Int32).toInt < (sI (S1 a) 0).toInt := by rw [n0]; decide
  have hv : 0 ≤ (2 : Int32).toInt ∧ (2 : Int32).toInt < (sI (S1 a) 0).toInt := by rw [n0]; decide
  have h41 : sA (S1 a) 4 1 = 0 := by rw [h4]; rfl
  have v := ad_v (w := b) h1.1 (f := 1) (by decide) h41 hu hv (by decide)
  unfold S2
  refine ⟨ad_J h1 (by decide) h41 hu hv (by decide), ad_CW h2 h1.1 (by decide) h41, ?_, fun i => ?_, ⟨⟨?_, ?_⟩, ?_, ?_⟩, ?_, ?_⟩
  · rw [v.2.2.2.2, n0]
  · rw [v.2.2.2.1, h4]; by_cases q : i = 1
    · rw [if_pos q, if_pos (by omega)]
    · rw [if_neg q]; by_cases r : i = 0
      · rw [if_pos r, if_pos (by omega)]
      · rw [if_neg r, if_neg (by omega)]
  · rw [v.1, if_neg (by decide), h5.1]
  · rw [v.2.1, if_neg (by decide), h5.2]
  · rw [v.1, if_pos rfl]
  · rw [v.2.1, if_pos rfl]
  · rw [v.2.2.1, if_neg (by decide), h6]
  · rw [v.2.2.1, if_pos rfl]
theorem S2_13 : sI (S2 a b) 13 = 2 := by
  obtain ⟨hJ, hC, n0, h4, ⟨⟨a0, b0⟩, a1, b1⟩, -⟩ := S2_ok (a := a) (b := b)
  have hu : ∀ e, gU (S2 a b) e ↔ e < 2 := fun e => by
    unfold gU; rw [h4]
    by_cases q : e < 2
    · rw [if_pos q]; exact ⟨fun _ => q, fun _ => ⟨by omega, by decide⟩⟩
    · rw [if_neg q]; exact ⟨fun w => absurd rfl w.2, fun w => absurd w q⟩
  have g0 : gA (S2 a b) 0 = 0 ∧ gB (S2 a b) 0 = 1 ∧ gA (S2 a b) 1 = 1 ∧ gB (S2 a b) 1 = 2 := by unfold gA gB; rw [a0, b0, a1, b1]; exact ⟨rfl, rfl, rfl, rfl⟩
  obtain ⟨A0, B0, A1, B1⟩ := g0
  have t0 : gT (S2 a b) 0 := (hJ.2.2.2 0 ((hu 0).2 (by decide))).2 fun c => by
    have := c (fun z => z = 0) (fun e he => by
      have h1 := (hu e).1 he.1
      have h2 : e ≠ 0 := fun v => by have := he.2; rw [v] at this; omega
      obtain rfl : e = 1 := by omega
      rw [A1, B1]; decide)
    rw [A0, B0] at this; exact absurd (this.1 rfl) (by decide)
  have t1 : gT (S2 a b) 1 := (hJ.2.2.2 1 ((hu 1).2 (by decide))).2 fun c => by
    have := c (fun z => z = 2) (fun e he => by
      have h1 := (hu e).1 he.1
      have h2 : e ≠ 1 := fun v => by have := he.2; rw [v] at this; omega
      obtain rfl : e = 0 := by omega
      rw [A0, B0]; decide)
    rw [A1, B1] at this; exact absurd (this.2 rfl) (by decide)
  have nt : ∀ i, 2 ≤ i → i < 128 → uB8 (S2 a b) 5 i = false := fun i h1 h2 => by
    unfold uB8; refine decide_eq_false fun w => ?_
    have := (hu i).1 (hJ.2.2.1 i ⟨h2, w⟩); omega
  rw [hC.2.1, cnt_3 fun i h1 h2 => nt i (by omega) h2, nt 2 (by decide) (by decide)]
  unfold uB8
  rw [decide_eq_true t0.2, decide_eq_true t1.2]; rfl
theorem S3_ok : Jv (S3 a b c) ∧ CW (S3 a b c) ∧ Tr3 (S3 a b c) (cl (-1000000) 1000000 a) (cl (-1000000) 1000000 b) (cl (-1000000) 1000000 c) ∧ (∀ e, gU (S3 a b c) e ↔ e < 3) := by
  obtain ⟨h1, h2, n0, h4, h5, h6⟩ := S2_ok (a := a) (b := b)
  have hu : 0 ≤ (0 : Int32).toInt ∧ (0 : Int32).toInt < (sI (S2 a b) 0).toInt := by rw [n0]; decide
  have hv : 0 ≤ (2 : Int32).toInt ∧ (2 : Int32).toInt < (sI (S2 a b) 0).toInt := by rw [n0]; decide
  have h41 : sA (S2 a b) 4 2 = 0 := by rw [h4]; rfl
  have v := ad_v (w := c) h1.1 (f := 2) (by decide) h41 hu hv (by decide)
  unfold S3
  refine ⟨ad_J h1 (by decide) h41 hu hv (by decide), ad_CW h2 h1.1 (by decide) h41, ⟨?_, ⟨?_, ?_⟩, ⟨?_, ?_⟩, ⟨?_, ?_⟩, ?_, ?_, ?_⟩, fun e => ?_⟩
  · rw [v.2.2.2.2, n0]
  · rw [v.1, if_neg (by decide), h5.1.1]
  · rw [v.2.1, if_neg (by decide), h5.1.2]
  · rw [v.1, if_neg (by decide), h5.2.1]
  · rw [v.2.1, if_neg (by decide), h5.2.2]
  · rw [v.1, if_pos rfl]
  · rw [v.2.1, if_pos rfl]
  · rw [v.2.2.1, if_neg (by decide), h6.1]
  · rw [v.2.2.1, if_neg (by decide), h6.2]
  · rw [v.2.2.1, if_pos rfl]
  · unfold gU; rw [v.2.2.2.1, h4]
    by_cases q : e < 3
    · refine ⟨fun _ => q, fun _ => ⟨by omega, ?_⟩⟩
      by_cases r : e = 2
      · rw [if_pos r]; decide
      · rw [if_neg r, if_pos (by omega)]; decide
    · rw [if_neg (by omega), if_neg (by omega)]
      exact ⟨fun w => absurd rfl w.2, fun w => absurd w q⟩
theorem S3_15 (G : GD (S3 a b c) i j k (cl (-1000000) 1000000 a) (cl (-1000000) 1000000 b) (cl (-1000000) 1000000 c)) : sI (S3 a b c) 15 = (if k = 2 then -1 else 2) ∧ sI (S3 a b c) 16 = (if k = 2 then -1 else Int32.ofNat k) := by
  obtain ⟨h1, h2, n0, h4, h5, h6⟩ := S2_ok (a := a) (b := b)
  have hu : 0 ≤ (0 : Int32).toInt ∧ (0 : Int32).toInt < (sI (S2 a b) 0).toInt := by rw [n0]; decide
  have hv : 0 ≤ (2 : Int32).toInt ∧ (2 : Int32).toInt < (sI (S2 a b) 0).toInt := by rw [n0]; decide
  have h41 : sA (S2 a b) 4 2 = 0 := by rw [h4]; rfl
  have L : LE (S3 a b c) := ad_LE h1.1 (by decide) h41 hu hv (by decide)
  have k3 := G.2.2.2.2.1.1.2.2
  have c13 := G.cw.1
  rcases ad_15 (w := c) h1.1 (f := 2) (by decide) h41 hu hv (by decide) with ⟨r1, r2, r3⟩ | ⟨r1, r2, r3⟩
  · have : ¬ k = 2 := fun w => ((G.t 2).1 r2).2 w.symm
    rw [if_neg this, if_neg this]
    refine ⟨r1, ?_⟩
    rcases r3 with ⟨u1, u2⟩ | ⟨u1, u2, u3⟩
    · rw [S2_13] at u2; change sI (S3 a b c) 13 = _ at u2; rw [c13] at u2; exact absurd u2 (by decide)
    · change sI (S3 a b c) 16 ≠ _ at u1
      change vi (sI (S3 a b c) 16) = true at u2
      change sA (S3 a b c) 4 (sI (S3 a b c) 16).toNatClampNeg ≠ 0 at u3
      have l := L.2.resolve_left (m1_vi u2)
      have m3 := (G.2.2.2.1 _).1 ⟨vi_cl u2, u3⟩
      rw [← ofv u2] at l ⊢
      rw [G.tr m3] at l
      have := of_decide_eq_false l
      rw [Classical.not_not.1 this]
  · have : k = 2 := Classical.byContradiction fun w => r3 ((G.t 2).2 ⟨by decide, fun v => w v.symm⟩)
    rw [if_pos this, if_pos this]; exact ⟨r1, r2⟩
theorem GD.rm (G : GD s i j k w0 w1 w2) (hX : X < 3) (hne : X ≠ k) : pr s (Int32.ofNat X) = true ∧ sI (rmS s (Int32.ofNat X)) 16 = Int32.ofNat X ∧ sI (rmS s (Int32.ofNat X)) 15 = Int32.ofNat k ∧ Pj.tr (rmS s (Int32.ofNat X)) (Int32.ofNat k) = true ∧ sI (rmS s (Int32.ofNat X)) 0 = 3 ∧ sI (rmS s (Int32.ofNat X)) 13 = 2 ∧
    sJ (rmS s (Int32.ofNat X)) 14 = (if 0 ≠ X then w0.toInt64 else 0) + ((if 1 ≠ X then w1.toInt64 else 0) + (if 2 ≠ X then w2.toInt64 else 0)) := by
  have c13 := G.cw.1
  have ht := G.t
  have tX : Pj.tr s (Int32.ofNat X) = true := by rw [G.tr hX, decide_eq_true hne]
  have k3 := G.2.2.2.2.1.1.2.2
  obtain ⟨hJ, hC, h3, hu, -⟩ := G
  obtain ⟨o1, o2, o3⟩ := ofi (i := X) (by omega)
  have tX' := tr_iff.1 tX
  have hp : Pj.pr s (Int32.ofNat X) = true := pr_iff.2 ⟨tX'.1, tX'.2.1⟩
  obtain ⟨v1, v2, v3, v4, v0⟩ := rm_v (e := Int32.ofNat X) hJ.1
  have hJ' : Jv (rmS s (Int32.ofNat X)) := rm_J hJ
  have hC' : CW (rmS s (Int32.ofNat X)) := rm_CW hC
  have h3' : Tr3 (rmS s (Int32.ofNat X)) w0 w1 w2 := by unfold Tr3; rw [v0, v1, v2, v3]; exact h3
  have hu' : ∀ e, gU (rmS s (Int32.ofNat X)) e ↔ (e < 3 ∧ e ≠ X) := fun e => by
    unfold gU; rw [v4, o2]; simp only [hp, true_and]
    by_cases q : e = X
    · rw [if_pos q]; exact ⟨fun w => absurd rfl w.2, fun w => absurd q w.2⟩
    · rw [if_neg q]; exact ⟨fun w => ⟨(hu e).1 w, q⟩, fun w => (hu e).2 w.1⟩
  have t' := h3'.two hJ' hX hu'
  have cw := h3'.cw (P := fun e => e ≠ X) hC' t'
  have c13' : sI (rmS s (Int32.ofNat X)) 13 = 2 := by rw [cw.1]; rcases n3 hX with rfl | rfl | rfl <;> rfl
  obtain ⟨r1, r2⟩ := rm_15 hJ.1 tX
  have e15 : sI (rmS s (Int32.ofNat X)) 15 = Int32.ofNat k := by
    rcases r2 with ⟨u1, u2⟩ | ⟨u1, u2, u3, u4⟩
    · rw [c13, c13'] at u2; exact absurd u2 (by decide)
    · have m3 := (hu _).1 ⟨vi_cl u1, u3⟩
      have : (sI (rmS s (Int32.ofNat X)) 15).toNatClampNeg = k := Classical.byContradiction fun w => ((ht _).2 ⟨m3, w⟩).2 u4
      rw [← this, ofv u1]
  refine ⟨hp, r1, e15, ?_, ?_, c13', cw.2⟩
  · exact (gtr (by omega)).2 ⟨(hu' k).2 ⟨k3, fun w => hne w.symm⟩, (t' k).2 ⟨k3, fun w => hne w.symm⟩⟩
  · rw [v0]; exact h3.1
end Q

section R
variable {lw : LW} {H : AH} {p q m : Nat} {s s' s1 s2 : St} {Q : Option Value → AH → Prop} {a b c d e x y u v w z ex l : Int32} {n X Y i j k h : Nat}
def TX (s s' : St) : Prop := (sI s' 16 = -1 ∨ (vi (sI s' 16) = true ∧ sA s 5 (sI s' 16).toNatClampNeg ≠ 0)) ∧ (sI s' 15 = -1 ∨ (vi (sI s' 15) = true ∧ sA s 5 (sI s' 15).toNatClampNeg = 0)) ∧
  ∀ k, k < 128 → (sA s' 5 k ≠ 0 ↔ ((sA s 5 k ≠ 0 ∧ ¬ (vi (sI s' 16) = true ∧ k = (sI s' 16).toNatClampNeg)) ∨ (vi (sI s' 15) = true ∧ k = (sI s' 15).toNatClampNeg)))
theorem vm1 : vi (-1) = false := by decide
theorem TX.of (h : TX s s') (h5 : sA s1 5 = sA s 5) : TX s1 s' := by unfold TX; rw [h5]; exact h
end R

section S
variable {A B : Nat → Nat} {E : Nat → Prop} {R R0 c k x : Int32} {lo hi l1 l2 : Int64} {f it X x0 j : Nat} {s s' : St}
def bt (R : Int32) (X : Nat) : Bool := R.toBitVec.getLsbD X
theorem shl1' {κ i : Nat} (h : κ < 32) : (1#32 <<< κ).getLsbD i = decide (i = κ) := by
  rw [BitVec.getLsbD_shiftLeft, BitVec.getLsbD_one, Bool.eq_iff_iff]; simp; omega
theorem bt_1 (h : 0 ≤ k.toInt ∧ k.toInt < 32) : bt ((1 : Int32) <<< (k &&& 31)) X = decide (X = k.toNatClampNeg) := by
  have key : ∀ j : Fin 32, ((1 : Int32) <<< (Int32.ofNat j.val &&& 31)).toBitVec = 1#32 <<< j.val := by decide +kernel
  have := key ⟨k.toInt.toNat, by omega⟩
  simp only at this
  rw [show Int32.ofNat k.toInt.toNat = k by rw [eq32, Int32.toInt_ofNat_of_lt (by omega)]; omega] at this
  unfold bt; rw [this, shl1' (by omega), cln]
theorem bt_or {R' : Int32} : bt (R ||| R') X = (bt R X || bt R' X) := by unfold bt; rw [Int32.toBitVec_or, BitVec.getLsbD_or]
theorem cnt_lt {f g : Nat → Bool} {x : Nat} : ∀ (k j : Nat), (∀ i, f i = true → g i = true) → j ≤ x → x < j + k → f x = false → g x = true → cnt f j k < cnt g j k
  | 0, j, _, h1, h2, _, _ => by omega
  | k + 1, j, h, h1, h2, hf, hg => by
    simp only [cnt]
    by_cases q : x = j
    · subst q; rw [hf, hg]
      have := cnt_mono (f := f) (g := g) k (x + 1) (fun i _ _ => h i)
      simp; omega
    · have := cnt_lt k (j + 1) h (by omega) (by omega) hf hg
      by_cases e : f j = true
      · rw [e, h j e]; simp; omega
      · rw [if_neg e]; split <;> omega
def Rc (A B : Nat → Nat) (E : Nat → Prop) (x0 : Nat) (R0 R c : Int32) (f : Nat) : Prop :=
  bt R x0 = true ∧ (∀ X, bt R X = true → Cn A B E x0 X) ∧ ((c = 0 ∧ R = R0 ∧ ∀ g, g < f → E g → bt R (A g) = bt R (B g)) ∨ (c = 1 ∧ cnt (bt R0) 0 32 < cnt (bt R) 0 32))
theorem Rc.skip (h : Rc A B E x0 R0 R c f) (hs : E f → bt R (A f) = bt R (B f)) : Rc A B E x0 R0 R c (f + 1) := by
  refine ⟨h.1, h.2.1, h.2.2.imp (fun w => ⟨w.1, w.2.1, fun g hg hE => ?_⟩) (fun w => w)⟩
  by_cases q : g = f
  · subst q; exact hs hE
  · exact w.2.2 g (by omega) hE
theorem Rc.set {a b : Int32} (h : Rc A B E x0 R0 R c f) (hE : E f) (ha : 0 ≤ a.toInt ∧ a.toInt < 32) (hb : 0 ≤ b.toInt ∧ b.toInt < 32) (ea : a.toNatClampNeg = A f) (eb : b.toNatClampNeg = B f) (hd : bt R (A f) ≠ bt R (B f)) :
    Rc A B E x0 R0 (R ||| ((1 : Int32) <<< (a &&& 31) ||| (1 : Int32) <<< (b &&& 31))) 1 (f + 1) := by
  have bb : ∀ X, bt (R ||| ((1 : Int32) <<< (a &&& 31) ||| (1 : Int32) <<< (b &&& 31))) X = (bt R X || (decide (X = A f) || decide (X = B f))) := fun X => by
    rw [bt_or, bt_or, bt_1 ha, bt_1 hb, ea, eb]
  have hc : Cn A B E x0 (A f) ∧ Cn A B E x0 (B f) := by
    have he : Cn A B E (A f) (B f) := Cn.edge hE
    cases q : bt R (A f) with
    | true => exact ⟨h.2.1 _ q, (h.2.1 _ q).trans he⟩
    | false =>
      have : bt R (B f) = true := by cases q2 : bt R (B f) with | true => rfl | false => exact absurd (q.trans q2.symm) hd
      exact ⟨(h.2.1 _ this).trans he.symm, h.2.1 _ this⟩
  refine ⟨by rw [bb, h.1]; rfl, fun X hX => ?_, Or.inr ⟨rfl, ?_⟩⟩
  · rw [bb, Bool.or_eq_true, Bool.or_eq_true] at hX
    rcases hX with w | w | w
    · exact h.2.1 X w
    · rw [of_decide_eq_true w]; exact hc.1
    · rw [of_decide_eq_true w]; exact hc.2
  · have lA : A f < 32 := by rw [← ea, cln]; omega
    have lB : B f < 32 := by rw [← eb, cln]; omega
    have up : cnt (bt R) 0 32 < cnt (bt (R ||| ((1 : Int32) <<< (a &&& 31) ||| (1 : Int32) <<< (b &&& 31)))) 0 32 := by
      have mo : ∀ i, bt R i = true → bt (R ||| ((1 : Int32) <<< (a &&& 31) ||| (1 : Int32) <<< (b &&& 31))) i = true := fun i hi => by rw [bb, hi]; rfl
      cases q : bt R (A f) with
      | false => exact cnt_lt 32 0 mo (Nat.zero_le _) (by omega) q (by rw [bb, decide_eq_true (show A f = A f from rfl)]; simp)
      | true =>
        have : bt R (B f) = false := by cases q2 : bt R (B f) with | false => rfl | true => exact absurd (q.trans q2.symm) hd
        exact cnt_lt 32 0 mo (Nat.zero_le _) (by omega) this (by rw [bb, decide_eq_true (show B f = B f from rfl)]; simp)
    rcases h.2.2 with w | w
    · rw [← w.2.1]; exact up
    · omega
end S

end Jvm.JX.Pj
namespace Jvm.JX.Lw
open Jvm Jvm.ClassFile Sem Op Lib Jvm.JX Jvm.JX.Pj
def lr0 : List Row := [(0, .new 7, 3, 17), (3, .dup, 1, 0), (4, .iconst 3, 1, 0), (5, .invokespecial 17, 3, 1), (8, .astore_n 3, 1, 0), (9, .iconst (-1), 1, 0), (10, .istore 4, 2, 0), (12, .iload_n 0, 1, 0), (13, .invokestatic 20, 3, 102), (16, .istore 5, 2, 0), (18, .iload_n 1, 1, 0), (19, .invokestatic 20, 3, 102), (22, .istore 6, 2, 0), (24, .iload_n 2, 1, 0), (25, .invokestatic 20, 3, 102), (28, .istore 7, 2, 0), (30, .iconst 0, 1, 0), (31, .iconst 1, 1, 0), (32, .iload 5, 2, 0), (34, .iload 6, 2, 0), (36, .iload 7, 2, 0), (38, .invokestatic 24, 3, 104), (41, .istore 8, 2, 0), (43, .iload 8, 2, 0), (45, .iconst 2, 1, 0), (46, .iload 5, 2, 0), (48, .iload 6, 2, 0), (50, .iload 7, 2, 0), (52, .invokestatic 24, 3, 104), (55, .istore 9, 2, 0), (57, .iconst 1, 1, 0), (58, .iconst 2, 1, 0), (59, .iload 5, 2, 0), (61, .iload 6, 2, 0), (63, .iload 7, 2, 0), (65, .invokestatic 24, 3, 104), (68, .istore 10, 2, 0), (70, .iconst 0, 1, 0), (71, .iconst 2, 1, 0), (72, .iload 5, 2, 0), (74, .iload 6, 2, 0), (76, .iload 7, 2, 0), (78, .invokestatic 24, 3, 104), (81, .istore 11, 2, 0), (83, .iload 5, 2, 0), (85, .i2l, 1, 0), (86, .iload 6, 2, 0), (88, .i2l, 1, 0), (89, .ladd, 1, 0), (90, .iload 7, 2, 0), (92, .i2l, 1, 0), (93, .ladd, 1, 0), (94, .lstore 12, 2, 0), (96, .iload 9, 2, 0), (98, .iload 5, 2, 0), (100, .iload 6, 2, 0), (102, .iload 7, 2, 0), (104, .invokestatic 11, 3, 103), (107, .i2l, 1, 0), (108, .lstore 14, 2, 0), (110, .aload_n 3, 1, 0), (111, .iconst 0, 1, 0), (112, .iconst 1, 1, 0), (113, .iload_n 0, 1, 0), (114, .invokevirtual 28, 3, 2), (117, .ifCond .eq 5, 3, 0), (120, .iconst 0, 1, 0), (121, .ireturn, 1, 0), (122, .aload_n 3, 1, 0), (123, .iconst 1, 1, 0), (124, .iconst 2, 1, 0), (125, .iload_n 1, 1, 0), (126, .invokevirtual 28, 3, 2), (129, .iconst 1, 1, 0), (130, .if_icmp .eq 5, 3, 0), (133, .iconst 0, 1, 0), (134, .ireturn, 1, 0), (135, .aload_n 3, 1, 0), (136, .iconst 0, 1, 0), (137, .iconst 2, 1, 0), (138, .iload_n 2, 1, 0), (139, .invokevirtual 28, 3, 2), (142, .iconst 2, 1, 0), (143, .if_icmp .eq 5, 3, 0), (146, .iconst 0, 1, 0), (147, .ireturn, 1, 0), (148, .aload_n 3, 1, 0), (149, .invokevirtual 32, 3, 16), (152, .iload 9, 2, 0), (154, .iconst 2, 1, 0), (155, .if_icmp .ne 8, 3, 0), (158, .iload 4, 2, 0), (160, .goto 4, 3, 0), (163, .iconst 2, 1, 0), (164, .if_icmp .eq 5, 3, 0), (167, .iconst 0, 1, 0), (168, .ireturn, 1, 0), (169, .aload_n 3, 1, 0), (170, .invokevirtual 36, 3, 17), (173, .iload 9, 2, 0), (175, .iconst 2, 1, 0), (176, .if_icmp .ne 8, 3, 0), (179, .iload 4, 2, 0), (181, .goto 5, 3, 0), (184, .iload 9, 2, 0), (186, .if_icmp .eq 5, 3, 0), (189, .iconst 0, 1, 0), (190, .ireturn, 1, 0), (191, .aload_n 3, 1, 0), (192, .iconst 0, 1, 0), (193, .invokevirtual 39, 3, 6), (196, .iload 9, 2, 0), (198, .ifCond .eq 7, 3, 0), (201, .iconst 1, 1, 0), (202, .goto 4, 3, 0), (205, .iconst 0, 1, 0), (206, .if_icmp .eq 5, 3, 0), (209, .iconst 0, 1, 0), (210, .ireturn, 1, 0), (211, .aload_n 3, 1, 0), (212, .iconst 1, 1, 0), (213, .invokevirtual 39, 3, 6), (216, .iload 9, 2, 0), (218, .iconst 1, 1, 0), (219, .if_icmp .eq 7, 3, 0), (222, .iconst 1, 1, 0), (223, .goto 4, 3, 0), (226, .iconst 0, 1, 0), (227, .if_icmp .eq 5, 3, 0), (230, .iconst 0, 1, 0), (231, .ireturn, 1, 0), (232, .aload_n 3, 1, 0), (233, .iconst 2, 1, 0), (234, .invokevirtual 39, 3, 6), (237, .iload 9, 2, 0), (239, .iconst 2, 1, 0), (240, .if_icmp .eq 7, 3, 0), (243, .iconst 1, 1, 0), (244, .goto 4, 3, 0), (247, .iconst 0, 1, 0), (248, .if_icmp .eq 5, 3, 0), (251, .iconst 0, 1, 0), (252, .ireturn, 1, 0), (253, .aload_n 3, 1, 0), (254, .invokevirtual 43, 3, 10), (257, .lload 12, 2, 0), (259, .lload 14, 2, 0), (261, .lsub, 1, 0), (262, .lcmp, 1, 0), (263, .ifCond .eq 5, 3, 0), (266, .iconst 0, 1, 0), (267, .ireturn, 1, 0), (268, .aload_n 3, 1, 0), (269, .invokevirtual 47, 3, 12), (272, .iconst 1, 1, 0), (273, .if_icmp .eq 5, 3, 0), (276, .iconst 0, 1, 0), (277, .ireturn, 1, 0), (278, .aload_n 3, 1, 0), (279, .iconst 0, 1, 0), (280, .iconst 1, 1, 0), (281, .invokevirtual 50, 3, 14), (284, .iload 9, 2, 0), (286, .ifCond .eq 7, 3, 0), (289, .iconst 0, 1, 0), (290, .goto 5, 3, 0), (293, .iload 10, 2, 0), (295, .if_icmp .eq 5, 3, 0), (298, .iconst 0, 1, 0), (299, .ireturn, 1, 0), (300, .aload_n 3, 1, 0), (301, .iconst 1, 1, 0), (302, .iconst 2, 1, 0), (303, .invokevirtual 50, 3, 14), (306, .iload 9, 2, 0), (308, .iconst 1, 1, 0), (309, .if_icmp .eq 7, 3, 0), (312, .iconst 1, 1, 0), (313, .goto 5, 3, 0), (316, .iload 11, 2, 0), (318, .if_icmp .eq 5, 3, 0), (321, .iconst 0, 1, 0), (322, .ireturn, 1, 0), (323, .aload_n 3, 1, 0), (324, .iconst 0, 1, 0), (325, .iconst 2, 1, 0), (326, .invokevirtual 50, 3, 14), (329, .iload 9, 2, 0), (331, .iconst 2, 1, 0), (332, .if_icmp .eq 7, 3, 0), (335, .iconst 2, 1, 0), (336, .goto 5, 3, 0), (339, .iload 8, 2, 0), (341, .if_icmp .eq 5, 3, 0), (344, .iconst 0, 1, 0), (345, .ireturn, 1, 0), (346, .aload_n 3, 1, 0), (347, .iconst 0, 1, 0), (348, .invokevirtual 54, 3, 15), (351, .iload 9, 2, 0), (353, .ifCond .eq 8, 3, 0), (356, .iload 9, 2, 0), (358, .goto 5, 3, 0), (361, .iload 4, 2, 0), (363, .if_icmp .eq 5, 3, 0), (366, .iconst 0, 1, 0), (367, .ireturn, 1, 0), (368, .aload_n 3, 1, 0), (369, .iconst 1, 1, 0), (370, .invokevirtual 54, 3, 15), (373, .iload 9, 2, 0), (375, .iconst 1, 1, 0), (376, .if_icmp .eq 8, 3, 0), (379, .iload 9, 2, 0), (381, .goto 5, 3, 0), (384, .iload 4, 2, 0), (386, .if_icmp .eq 5, 3, 0), (389, .iconst 0, 1, 0), (390, .ireturn, 1, 0), (391, .aload_n 3, 1, 0), (392, .iconst 2, 1, 0), (393, .invokevirtual 54, 3, 15), (396, .iload 9, 2, 0), (398, .iconst 2, 1, 0), (399, .if_icmp .eq 8, 3, 0), (402, .iload 9, 2, 0), (404, .goto 5, 3, 0), (407, .iload 4, 2, 0), (409, .if_icmp .eq 5, 3, 0), (412, .iconst 0, 1, 0), (413, .ireturn, 1, 0), (414, .iload 9, 2, 0), (416, .ifCond .ne 7, 3, 0), (419, .iconst 1, 1, 0), (420, .goto 4, 3, 0), (423, .iconst 0, 1, 0), (424, .istore 16, 2, 0), (426, .iload 16, 2, 0), (428, .iload 5, 2, 0), (430, .iload 6, 2, 0), (432, .iload 7, 2, 0), (434, .invokestatic 11, 3, 103), (437, .i2l, 1, 0), (438, .lstore 17, 2, 0), (440, .aload_n 3, 1, 0), (441, .iload 16, 2, 0), (443, .invokevirtual 57, 3, 3), (446, .ifCond .ne 5, 3, 0), (449, .iconst 0, 1, 0), (450, .ireturn, 1, 0), (451, .aload_n 3, 1, 0), (452, .invokevirtual 36, 3, 17), (455, .iload 16, 2, 0), (457, .if_icmp .eq 5, 3, 0), (460, .iconst 0, 1, 0), (461, .ireturn, 1, 0), (462, .aload_n 3, 1, 0), (463, .invokevirtual 32, 3, 16), (466, .iload 9, 2, 0), (468, .if_icmp .eq 5, 3, 0), (471, .iconst 0, 1, 0), (472, .ireturn, 1, 0), (473, .aload_n 3, 1, 0), (474, .iload 9, 2, 0), (476, .invokevirtual 39, 3, 6), (479, .ifCond .ne 5, 3, 0), (482, .iconst 0, 1, 0), (483, .ireturn, 1, 0), (484, .aload_n 3, 1, 0), (485, .invokevirtual 43, 3, 10), (488, .lload 12, 2, 0), (490, .lload 17, 2, 0), (492, .lsub, 1, 0), (493, .lcmp, 1, 0), (494, .ifCond .eq 5, 3, 0), (497, .iconst 0, 1, 0), (498, .ireturn, 1, 0), (499, .aload_n 3, 1, 0), (500, .invokevirtual 47, 3, 12), (503, .iconst 1, 1, 0), (504, .if_icmp .ne 7, 3, 0), (507, .iconst 1, 1, 0), (508, .goto 4, 3, 0), (511, .iconst 0, 1, 0), (512, .ireturn, 1, 0)]
def lr2 : List Row := [(0, .ldc 9, 2, (-1000000)), (2, .istore_n 1, 1, 0), (3, .ldc 10, 2, 1000000), (5, .istore_n 2, 1, 0), (6, .iload_n 0, 1, 0), (7, .iload_n 1, 1, 0), (8, .if_icmp .ge 7, 3, 0), (11, .iload_n 1, 1, 0), (12, .goto 13, 3, 0), (15, .iload_n 0, 1, 0), (16, .iload_n 2, 1, 0), (17, .if_icmp .le 7, 3, 0), (20, .iload_n 2, 1, 0), (21, .goto 4, 3, 0), (24, .iload_n 0, 1, 0), (25, .ireturn, 1, 0)]
def lr3 : List Row := [(0, .iload_n 0, 1, 0), (1, .ifCond .ne 7, 3, 0), (4, .iload_n 1, 1, 0), (5, .goto 13, 3, 0), (8, .iload_n 0, 1, 0), (9, .iconst 1, 1, 0), (10, .if_icmp .ne 7, 3, 0), (13, .iload_n 2, 1, 0), (14, .goto 4, 3, 0), (17, .iload_n 3, 1, 0), (18, .ireturn, 1, 0)]
def lr4 : List Row := [(0, .iload_n 0, 1, 0), (1, .iload_n 2, 1, 0), (2, .iload_n 3, 1, 0), (3, .iload 4, 2, 0), (5, .invokestatic 11, 3, 103), (8, .istore 5, 2, 0), (10, .iload_n 1, 1, 0), (11, .iload_n 2, 1, 0), (12, .iload_n 3, 1, 0), (13, .iload 4, 2, 0), (15, .invokestatic 11, 3, 103), (18, .istore 6, 2, 0), (20, .iload 5, 2, 0), (22, .iload 6, 2, 0), (24, .if_icmp .lt 15, 3, 0), (27, .iload 5, 2, 0), (29, .iload 6, 2, 0), (31, .if_icmp .ne 12, 3, 0), (34, .iload_n 0, 1, 0), (35, .iload_n 1, 1, 0), (36, .if_icmp .ge 7, 3, 0), (39, .iconst 1, 1, 0), (40, .goto 4, 3, 0), (43, .iconst 0, 1, 0), (44, .istore 7, 2, 0), (46, .iload 7, 2, 0), (48, .ifCond .eq 7, 3, 0), (51, .iload_n 1, 1, 0), (52, .goto 4, 3, 0), (55, .iload_n 0, 1, 0), (56, .ireturn, 1, 0)]
def lrows : List (List Row) := [lr0, [], lr2, lr3, lr4]
def linfo : List MInfo := [(3, 19, 9, some .boolean, { frames := 8, cells := 32, slots := 3776, locals := 192 }), (0, 0, 9, none, {}), (1, 3, 0, some .int, { frames := 0, cells := 0, slots := 0, locals := 0 }), (4, 4, 0, some .int, { frames := 0, cells := 0, slots := 0, locals := 0 }), (5, 8, 0, some .int, { frames := 1, cells := 0, slots := 0, locals := 15 })]
def lw : LW := (fun j pc => (lrows.getD j []).lookup pc, fun j => linfo.getD j (0, 0, 9, none, {}))
section LPc
variable {L : List Slot} {S : List Value} {k n : Nat} {H : AH} {Q : Option Value → AH → Prop}
theorem c100 {x0 : Int32} {x1 : Int32} {x2 : Int32} : Cl (pj lw) 100 [.int x0, .int x1, .int x2] H Q ↔ W (pj lw) 100 0 [.val (.int x0), .val (.int x1), .val (.int x2), .unset, .unset, .unset, .unset, .unset, .unset, .unset, .unset, .unset, .unset, .unset, .unset, .unset, .unset, .unset, .unset] [] 0 0 H Q := cl_unf rfl
theorem w100_0 : W (pj lw) 100 0 L S k n H Q ↔ ((k + 1 ≤ 32 ∧ n + 17 ≤ 3776) ∧ W (pj lw) 100 3 L (.ref H.1 :: S) (k + 1) (n + 17) (mkO (pj lw) H) Q) := W_new' (rfl : (pj lw).1 100 0 = some (.new 7, 3, 17)) (by decide)
theorem w100_3 {x : Nat} : W (pj lw) 100 3 L (.ref x :: S) k n H Q ↔ W (pj lw) 100 4 L (.ref x :: .ref x :: S) k n H Q := W_s (rfl : (pj lw).1 100 3 = some (.dup, 1, 0)) rfl rfl rfl
theorem w100_4 : W (pj lw) 100 4 L S k n H Q ↔ W (pj lw) 100 5 L (.int 3 :: S) k n H Q := W_s (rfl : (pj lw).1 100 4 = some (.iconst 3, 1, 0)) rfl rfl rfl
theorem w100_5 {a : Nat} {x0 : Int32} : W (pj lw) 100 5 L (.int x0 :: .ref a :: S) k n H Q ↔ ((isO H a = true ∧ cs S + (4 + 11) + 13 ≤ 192 ∧ k + 11 ≤ 32 ∧ n + 1824 ≤ 3776) ∧ Cl (pj lw) 1 [.ref a, .int x0] H (fun v H => W (pj lw) 100 8 L (v.toList ++ S) (k + 11) (n + 1824) H Q)) := W_init (as := [.int x0]) (rfl : (pj lw).1 100 5 = some (.invokespecial 17, 3, 1)) rfl rfl rfl (Nat.le_of_ble_eq_true rfl) (Nat.le_of_ble_eq_true rfl) (fun h => absurd (show (11 : Nat) = 0 from h.1) (by decide))
theorem w100_8 {x : Nat} {l0 l1 l2 : Slot} : W (pj lw) 100 8 (l0 :: l1 :: l2 :: .unset :: L) (.ref x :: S) k n H Q ↔ W (pj lw) 100 9 (l0 :: l1 :: l2 :: .val (.ref x) :: L) S k n H Q := W_astn (rfl : (pj lw).1 100 8 = some (.astore_n 3, 1, 0)) rfl rfl
theorem w100_9 : W (pj lw) 100 9 L S k n H Q ↔ W (pj lw) 100 10 L (.int (-1) :: S) k n H Q := W_s (rfl : (pj lw).1 100 9 = some (.iconst (-1), 1, 0)) rfl rfl rfl
theorem w100_10 {x : Int32} {l0 l1 l2 l3 : Slot} : W (pj lw) 100 10 (l0 :: l1 :: l2 :: l3 :: .unset :: L) (.int x :: S) k n H Q ↔ W (pj lw) 100 12 (l0 :: l1 :: l2 :: l3 :: .val (.int x) :: L) S k n H Q := W_ist (rfl : (pj lw).1 100 10 = some (.istore 4, 2, 0)) rfl rfl
theorem w100_12 {x : Int32} : W (pj lw) 100 12 (.val (.int x) :: L) S k n H Q ↔ W (pj lw) 100 13 (.val (.int x) :: L) (.int x :: S) k n H Q := W_s (rfl : (pj lw).1 100 12 = some (.iload_n 0, 1, 0)) rfl rfl rfl
theorem w100_13 {x0 : Int32} : W (pj lw) 100 13 L (.int x0 :: S) k n H Q ↔ (cs S + (3 + 11) + 0 ≤ 192 ∧ Cl (pj lw) 102 [.int x0] H (fun v H => W (pj lw) 100 16 L (v.toList ++ S) k n H Q)) := W_stat (a := [.int x0]) (rfl : (pj lw).1 100 13 = some (.invokestatic 20, 3, 102)) rfl rfl rfl (Nat.le_of_ble_eq_true rfl) (Nat.le_of_ble_eq_true rfl) ⟨rfl, rfl⟩
theorem w100_16 {x : Int32} {l0 l1 l2 l3 l4 : Slot} : W (pj lw) 100 16 (l0 :: l1 :: l2 :: l3 :: l4 :: .unset :: L) (.int x :: S) k n H Q ↔ W (pj lw) 100 18 (l0 :: l1 :: l2 :: l3 :: l4 :: .val (.int x) :: L) S k n H Q := W_ist (rfl : (pj lw).1 100 16 = some (.istore 5, 2, 0)) rfl rfl
theorem w100_18 {x : Int32} {l0 : Slot} : W (pj lw) 100 18 (l0 :: .val (.int x) :: L) S k n H Q ↔ W (pj lw) 100 19 (l0 :: .val (.int x) :: L) (.int x :: S) k n H Q := W_s (rfl : (pj lw).1 100 18 = some (.iload_n 1, 1, 0)) rfl rfl rfl
theorem w100_19 {x0 : Int32} : W (pj lw) 100 19 L (.int x0 :: S) k n H Q ↔ (cs S + (3 + 11) + 0 ≤ 192 ∧ Cl (pj lw) 102 [.int x0] H (fun v H => W (pj lw) 100 22 L (v.toList ++ S) k n H Q)) := W_stat (a := [.int x0]) (rfl : (pj lw).1 100 19 = some (.invokestatic 20, 3, 102)) rfl rfl rfl (Nat.le_of_ble_eq_true rfl) (Nat.le_of_ble_eq_true rfl) ⟨rfl, rfl⟩
theorem w100_22 {x : Int32} {l0 l1 l2 l3 l4 l5 : Slot} : W (pj lw) 100 22 (l0 :: l1 :: l2 :: l3 :: l4 :: l5 :: .unset :: L) (.int x :: S) k n H Q ↔ W (pj lw) 100 24 (l0 :: l1 :: l2 :: l3 :: l4 :: l5 :: .val (.int x) :: L) S k n H Q := W_ist (rfl : (pj lw).1 100 22 = some (.istore 6, 2, 0)) rfl rfl
theorem w100_24 {x : Int32} {l0 l1 : Slot} : W (pj lw) 100 24 (l0 :: l1 :: .val (.int x) :: L) S k n H Q ↔ W (pj lw) 100 25 (l0 :: l1 :: .val (.int x) :: L) (.int x :: S) k n H Q := W_s (rfl : (pj lw).1 100 24 = some (.iload_n 2, 1, 0)) rfl rfl rfl
theorem w100_25 {x0 : Int32} : W (pj lw) 100 25 L (.int x0 :: S) k n H Q ↔ (cs S + (3 + 11) + 0 ≤ 192 ∧ Cl (pj lw) 102 [.int x0] H (fun v H => W (pj lw) 100 28 L (v.toList ++ S) k n H Q)) := W_stat (a := [.int x0]) (rfl : (pj lw).1 100 25 = some (.invokestatic 20, 3, 102)) rfl rfl rfl (Nat.le_of_ble_eq_true rfl) (Nat.le_of_ble_eq_true rfl) ⟨rfl, rfl⟩
theorem w100_28 {x : Int32} {l0 l1 l2 l3 l4 l5 l6 : Slot} : W (pj lw) 100 28 (l0 :: l1 :: l2 :: l3 :: l4 :: l5 :: l6 :: .unset :: L) (.int x :: S) k n H Q ↔ W (pj lw) 100 30 (l0 :: l1 :: l2 :: l3 :: l4 :: l5 :: l6 :: .val (.int x) :: L) S k n H Q := W_ist (rfl : (pj lw).1 100 28 = some (.istore 7, 2, 0)) rfl rfl
theorem w100_30 : W (pj lw) 100 30 L S k n H Q ↔ W (pj lw) 100 31 L (.int 0 :: S) k n H Q := W_s (rfl : (pj lw).1 100 30 = some (.iconst 0, 1, 0)) rfl rfl rfl
theorem w100_31 : W (pj lw) 100 31 L S k n H Q ↔ W (pj lw) 100 32 L (.int 1 :: S) k n H Q := W_s (rfl : (pj lw).1 100 31 = some (.iconst 1, 1, 0)) rfl rfl rfl
theorem w100_32 {x : Int32} {l0 l1 l2 l3 l4 : Slot} : W (pj lw) 100 32 (l0 :: l1 :: l2 :: l3 :: l4 :: .val (.int x) :: L) S k n H Q ↔ W (pj lw) 100 34 (l0 :: l1 :: l2 :: l3 :: l4 :: .val (.int x) :: L) (.int x :: S) k n H Q := W_s (rfl : (pj lw).1 100 32 = some (.iload 5, 2, 0)) rfl rfl rfl
theorem w100_34 {x : Int32} {l0 l1 l2 l3 l4 l5 : Slot} : W (pj lw) 100 34 (l0 :: l1 :: l2 :: l3 :: l4 :: l5 :: .val (.int x) :: L) S k n H Q ↔ W (pj lw) 100 36 (l0 :: l1 :: l2 :: l3 :: l4 :: l5 :: .val (.int x) :: L) (.int x :: S) k n H Q := W_s (rfl : (pj lw).1 100 34 = some (.iload 6, 2, 0)) rfl rfl rfl
theorem w100_36 {x : Int32} {l0 l1 l2 l3 l4 l5 l6 : Slot} : W (pj lw) 100 36 (l0 :: l1 :: l2 :: l3 :: l4 :: l5 :: l6 :: .val (.int x) :: L) S k n H Q ↔ W (pj lw) 100 38 (l0 :: l1 :: l2 :: l3 :: l4 :: l5 :: l6 :: .val (.int x) :: L) (.int x :: S) k n H Q := W_s (rfl : (pj lw).1 100 36 = some (.iload 7, 2, 0)) rfl rfl rfl
theorem w100_38 {x0 : Int32} {x1 : Int32} {x2 : Int32} {x3 : Int32} {x4 : Int32} : W (pj lw) 100 38 L (.int x4 :: .int x3 :: .int x2 :: .int x1 :: .int x0 :: S) k n H Q ↔ (cs S + (8 + 11) + 15 ≤ 192 ∧ Cl (pj lw) 104 [.int x0, .int x1, .int x2, .int x3, .int x4] H (fun v H => W (pj lw) 100 41 L (v.toList ++ S) k n H Q)) := W_stat (a := [.int x0, .int x1, .int x2, .int x3, .int x4]) (rfl : (pj lw).1 100 38 = some (.invokestatic 24, 3, 104)) rfl rfl rfl (Nat.le_of_ble_eq_true rfl) (Nat.le_of_ble_eq_true rfl) ⟨rfl, rfl⟩
theorem w100_41 {x : Int32} {l0 l1 l2 l3 l4 l5 l6 l7 : Slot} : W (pj lw) 100 41 (l0 :: l1 :: l2 :: l3 :: l4 :: l5 :: l6 :: l7 :: .unset :: L) (.int x :: S) k n H Q ↔ W (pj lw) 100 43 (l0 :: l1 :: l2 :: l3 :: l4 :: l5 :: l6 :: l7 :: .val (.int x) :: L) S k n H Q := W_ist (rfl : (pj lw).1 100 41 = some (.istore 8, 2, 0)) rfl rfl
theorem w100_43 {x : Int32} {l0 l1 l2 l3 l4 l5 l6 l7 : Slot} : W (pj lw) 100 43 (l0 :: l1 :: l2 :: l3 :: l4 :: l5 :: l6 :: l7 :: .val (.int x) :: L) S k n H Q ↔ W (pj lw) 100 45 (l0 :: l1 :: l2 :: l3 :: l4 :: l5 :: l6 :: l7 :: .val (.int x) :: L) (.int x :: S) k n H Q := W_s (rfl : (pj lw).1 100 43 = some (.iload 8, 2, 0)) rfl rfl rfl
theorem w100_45 : W (pj lw) 100 45 L S k n H Q ↔ W (pj lw) 100 46 L (.int 2 :: S) k n H Q := W_s (rfl : (pj lw).1 100 45 = some (.iconst 2, 1, 0)) rfl rfl rfl
theorem w100_46 {x : Int32} {l0 l1 l2 l3 l4 : Slot} : W (pj lw) 100 46 (l0 :: l1 :: l2 :: l3 :: l4 :: .val (.int x) :: L) S k n H Q ↔ W (pj lw) 100 48 (l0 :: l1 :: l2 :: l3 :: l4 :: .val (.int x) :: L) (.int x :: S) k n H Q := W_s (rfl : (pj lw).1 100 46 = some (.iload 5, 2, 0)) rfl rfl rfl
theorem w100_48 {x : Int32} {l0 l1 l2 l3 l4 l5 : Slot} : W (pj lw) 100 48 (l0 :: l1 :: l2 :: l3 :: l4 :: l5 :: .val (.int x) :: L) S k n H Q ↔ W (pj lw) 100 50 (l0 :: l1 :: l2 :: l3 :: l4 :: l5 :: .val (.int x) :: L) (.int x :: S) k n H Q := W_s (rfl : (pj lw).1 100 48 = some (.iload 6, 2, 0)) rfl rfl rfl
theorem w100_50 {x : Int32} {l0 l1 l2 l3 l4 l5 l6 : Slot} : W (pj lw) 100 50 (l0 :: l1 :: l2 :: l3 :: l4 :: l5 :: l6 :: .val (.int x) :: L) S k n H Q ↔ W (pj lw) 100 52 (l0 :: l1 :: l2 :: l3 :: l4 :: l5 :: l6 :: .val (.int x) :: L) (.int x :: S) k n H Q := W_s (rfl : (pj lw).1 100 50 = some (.iload 7, 2, 0)) rfl rfl rfl
theorem w100_52 {x0 : Int32} {x1 : Int32} {x2 : Int32} {x3 : Int32} {x4 : Int32} : W (pj lw) 100 52 L (.int x4 :: .int x3 :: .int x2 :: .int x1 :: .int x0 :: S) k n H Q ↔ (cs S + (8 + 11) + 15 ≤ 192 ∧ Cl (pj lw) 104 [.int x0, .int x1, .int x2, .int x3, .int x4] H (fun v H => W (pj lw) 100 55 L (v.toList ++ S) k n H Q)) := W_stat (a := [.int x0, .int x1, .int x2, .int x3, .int x4]) (rfl : (pj lw).1 100 52 = some (.invokestatic 24, 3, 104)) rfl rfl rfl (Nat.le_of_ble_eq_true rfl) (Nat.le_of_ble_eq_true rfl) ⟨rfl, rfl⟩
theorem w100_55 {x : Int32} {l0 l1 l2 l3 l4 l5 l6 l7 l8 : Slot} : W (pj lw) 100 55 (l0 :: l1 :: l2 :: l3 :: l4 :: l5 :: l6 :: l7 :: l8 :: .unset :: L) (.int x :: S) k n H Q ↔ W (pj lw) 100 57 (l0 :: l1 :: l2 :: l3 :: l4 :: l5 :: l6 :: l7 :: l8 :: .val (.int x) :: L) S k n H Q := W_ist (rfl : (pj lw).1 100 55 = some (.istore 9, 2, 0)) rfl rfl
theorem w100_57 : W (pj lw) 100 57 L S k n H Q ↔ W (pj lw) 100 58 L (.int 1 :: S) k n H Q := W_s (rfl : (pj lw).1 100 57 = some (.iconst 1, 1, 0)) rfl rfl rfl
theorem w100_58 : W (pj lw) 100 58 L S k n H Q ↔ W (pj lw) 100 59 L (.int 2 :: S) k n H Q := W_s (rfl : (pj lw).1 100 58 = some (.iconst 2, 1, 0)) rfl rfl rfl
theorem w100_59 {x : Int32} {l0 l1 l2 l3 l4 : Slot} : W (pj lw) 100 59 (l0 :: l1 :: l2 :: l3 :: l4 :: .val (.int x) :: L) S k n H Q ↔ W (pj lw) 100 61 (l0 :: l1 :: l2 :: l3 :: l4 :: .val (.int x) :: L) (.int x :: S) k n H Q := W_s (rfl : (pj lw).1 100 59 = some (.iload 5, 2, 0)) rfl rfl rfl
theorem w100_61 {x : Int32} {l0 l1 l2 l3 l4 l5 : Slot} : W (pj lw) 100 61 (l0 :: l1 :: l2 :: l3 :: l4 :: l5 :: .val (.int x) :: L) S k n H Q ↔ W (pj lw) 100 63 (l0 :: l1 :: l2 :: l3 :: l4 :: l5 :: .val (.int x) :: L) (.int x :: S) k n H Q := W_s (rfl : (pj lw).1 100 61 = some (.iload 6, 2, 0)) rfl rfl rfl
theorem w100_63 {x : Int32} {l0 l1 l2 l3 l4 l5 l6 : Slot} : W (pj lw) 100 63 (l0 :: l1 :: l2 :: l3 :: l4 :: l5 :: l6 :: .val (.int x) :: L) S k n H Q ↔ W (pj lw) 100 65 (l0 :: l1 :: l2 :: l3 :: l4 :: l5 :: l6 :: .val (.int x) :: L) (.int x :: S) k n H Q := W_s (rfl : (pj lw).1 100 63 = some (.iload 7, 2, 0)) rfl rfl rfl
theorem w100_65 {x0 : Int32} {x1 : Int32} {x2 : Int32} {x3 : Int32} {x4 : Int32} : W (pj lw) 100 65 L (.int x4 :: .int x3 :: .int x2 :: .int x1 :: .int x0 :: S) k n H Q ↔ (cs S + (8 + 11) + 15 ≤ 192 ∧ Cl (pj lw) 104 [.int x0, .int x1, .int x2, .int x3, .int x4] H (fun v H => W (pj lw) 100 68 L (v.toList ++ S) k n H Q)) := W_stat (a := [.int x0, .int x1, .int x2, .int x3, .int x4]) (rfl : (pj lw).1 100 65 = some (.invokestatic 24, 3, 104)) rfl rfl rfl (Nat.le_of_ble_eq_true rfl) (Nat.le_of_ble_eq_true rfl) ⟨rfl, rfl⟩
theorem w100_68 {x : Int32} {l0 l1 l2 l3 l4 l5 l6 l7 l8 l9 : Slot} : W (pj lw) 100 68 (l0 :: l1 :: l2 :: l3 :: l4 :: l5 :: l6 :: l7 :: l8 :: l9 :: .unset :: L) (.int x :: S) k n H Q ↔ W (pj lw) 100 70 (l0 :: l1 :: l2 :: l3 :: l4 :: l5 :: l6 :: l7 :: l8 :: l9 :: .val (.int x) :: L) S k n H Q := W_ist (rfl : (pj lw).1 100 68 = some (.istore 10, 2, 0)) rfl rfl
theorem w100_70 : W (pj lw) 100 70 L S k n H Q ↔ W (pj lw) 100 71 L (.int 0 :: S) k n H Q := W_s (rfl : (pj lw).1 100 70 = some (.iconst 0, 1, 0)) rfl rfl rfl
theorem w100_71 : W (pj lw) 100 71 L S k n H Q ↔ W (pj lw) 100 72 L (.int 2 :: S) k n H Q := W_s (rfl : (pj lw).1 100 71 = some (.iconst 2, 1, 0)) rfl rfl rfl
theorem w100_72 {x : Int32} {l0 l1 l2 l3 l4 : Slot} : W (pj lw) 100 72 (l0 :: l1 :: l2 :: l3 :: l4 :: .val (.int x) :: L) S k n H Q ↔ W (pj lw) 100 74 (l0 :: l1 :: l2 :: l3 :: l4 :: .val (.int x) :: L) (.int x :: S) k n H Q := W_s (rfl : (pj lw).1 100 72 = some (.iload 5, 2, 0)) rfl rfl rfl
theorem w100_74 {x : Int32} {l0 l1 l2 l3 l4 l5 : Slot} : W (pj lw) 100 74 (l0 :: l1 :: l2 :: l3 :: l4 :: l5 :: .val (.int x) :: L) S k n H Q ↔ W (pj lw) 100 76 (l0 :: l1 :: l2 :: l3 :: l4 :: l5 :: .val (.int x) :: L) (.int x :: S) k n H Q := W_s (rfl : (pj lw).1 100 74 = some (.iload 6, 2, 0)) rfl rfl rfl
theorem w100_76 {x : Int32} {l0 l1 l2 l3 l4 l5 l6 : Slot} : W (pj lw) 100 76 (l0 :: l1 :: l2 :: l3 :: l4 :: l5 :: l6 :: .val (.int x) :: L) S k n H Q ↔ W (pj lw) 100 78 (l0 :: l1 :: l2 :: l3 :: l4 :: l5 :: l6 :: .val (.int x) :: L) (.int x :: S) k n H Q := W_s (rfl : (pj lw).1 100 76 = some (.iload 7, 2, 0)) rfl rfl rfl
theorem w100_78 {x0 : Int32} {x1 : Int32} {x2 : Int32} {x3 : Int32} {x4 : Int32} : W (pj lw) 100 78 L (.int x4 :: .int x3 :: .int x2 :: .int x1 :: .int x0 :: S) k n H Q ↔ (cs S + (8 + 11) + 15 ≤ 192 ∧ Cl (pj lw) 104 [.int x0, .int x1, .int x2, .int x3, .int x4] H (fun v H => W (pj lw) 100 81 L (v.toList ++ S) k n H Q)) := W_stat (a := [.int x0, .int x1, .int x2, .int x3, .int x4]) (rfl : (pj lw).1 100 78 = some (.invokestatic 24, 3, 104)) rfl rfl rfl (Nat.le_of_ble_eq_true rfl) (Nat.le_of_ble_eq_true rfl) ⟨rfl, rfl⟩
theorem w100_81 {x : Int32} {l0 l1 l2 l3 l4 l5 l6 l7 l8 l9 l10 : Slot} : W (pj lw) 100 81 (l0 :: l1 :: l2 :: l3 :: l4 :: l5 :: l6 :: l7 :: l8 :: l9 :: l10 :: .unset :: L) (.int x :: S) k n H Q ↔ W (pj lw) 100 83 (l0 :: l1 :: l2 :: l3 :: l4 :: l5 :: l6 :: l7 :: l8 :: l9 :: l10 :: .val (.int x) :: L) S k n H Q := W_ist (rfl : (pj lw).1 100 81 = some (.istore 11, 2, 0)) rfl rfl
theorem w100_83 {x : Int32} {l0 l1 l2 l3 l4 : Slot} : W (pj lw) 100 83 (l0 :: l1 :: l2 :: l3 :: l4 :: .val (.int x) :: L) S k n H Q ↔ W (pj lw) 100 85 (l0 :: l1 :: l2 :: l3 :: l4 :: .val (.int x) :: L) (.int x :: S) k n H Q := W_s (rfl : (pj lw).1 100 83 = some (.iload 5, 2, 0)) rfl rfl rfl
theorem w100_85 {x : Int32} : W (pj lw) 100 85 L (.int x :: S) k n H Q ↔ W (pj lw) 100 86 L (.long x.toInt64 :: S) k n H Q := W_s (rfl : (pj lw).1 100 85 = some (.i2l, 1, 0)) rfl rfl rfl
theorem w100_86 {x : Int32} {l0 l1 l2 l3 l4 l5 : Slot} : W (pj lw) 100 86 (l0 :: l1 :: l2 :: l3 :: l4 :: l5 :: .val (.int x) :: L) S k n H Q ↔ W (pj lw) 100 88 (l0 :: l1 :: l2 :: l3 :: l4 :: l5 :: .val (.int x) :: L) (.int x :: S) k n H Q := W_s (rfl : (pj lw).1 100 86 = some (.iload 6, 2, 0)) rfl rfl rfl
theorem w100_88 {x : Int32} : W (pj lw) 100 88 L (.int x :: S) k n H Q ↔ W (pj lw) 100 89 L (.long x.toInt64 :: S) k n H Q := W_s (rfl : (pj lw).1 100 88 = some (.i2l, 1, 0)) rfl rfl rfl
theorem w100_89 {x y : Int64} : W (pj lw) 100 89 L (.long y :: .long x :: S) k n H Q ↔ W (pj lw) 100 90 L (.long (x + y) :: S) k n H Q := W_s (rfl : (pj lw).1 100 89 = some (.ladd, 1, 0)) rfl rfl rfl
theorem w100_90 {x : Int32} {l0 l1 l2 l3 l4 l5 l6 : Slot} : W (pj lw) 100 90 (l0 :: l1 :: l2 :: l3 :: l4 :: l5 :: l6 :: .val (.int x) :: L) S k n H Q ↔ W (pj lw) 100 92 (l0 :: l1 :: l2 :: l3 :: l4 :: l5 :: l6 :: .val (.int x) :: L) (.int x :: S) k n H Q := W_s (rfl : (pj lw).1 100 90 = some (.iload 7, 2, 0)) rfl rfl rfl
theorem w100_92 {x : Int32} : W (pj lw) 100 92 L (.int x :: S) k n H Q ↔ W (pj lw) 100 93 L (.long x.toInt64 :: S) k n H Q := W_s (rfl : (pj lw).1 100 92 = some (.i2l, 1, 0)) rfl rfl rfl
theorem w100_93 {x y : Int64} : W (pj lw) 100 93 L (.long y :: .long x :: S) k n H Q ↔ W (pj lw) 100 94 L (.long (x + y) :: S) k n H Q := W_s (rfl : (pj lw).1 100 93 = some (.ladd, 1, 0)) rfl rfl rfl
theorem w100_94uu {x : Int64} {l0 l1 l2 l3 l4 l5 l6 l7 l8 l9 l10 l11 : Slot} : W (pj lw) 100 94 (l0 :: l1 :: l2 :: l3 :: l4 :: l5 :: l6 :: l7 :: l8 :: l9 :: l10 :: l11 :: .unset :: .unset :: L) (.long x :: S) k n H Q ↔ W (pj lw) 100 96 (l0 :: l1 :: l2 :: l3 :: l4 :: l5 :: l6 :: l7 :: l8 :: l9 :: l10 :: l11 :: .val (.long x) :: .second :: L) S k n H Q := W_lst (rfl : (pj lw).1 100 94 = some (.lstore 12, 2, 0)) rfl rfl rfl rfl
theorem w100_96 {x : Int32} {l0 l1 l2 l3 l4 l5 l6 l7 l8 : Slot} : W (pj lw) 100 96 (l0 :: l1 :: l2 :: l3 :: l4 :: l5 :: l6 :: l7 :: l8 :: .val (.int x) :: L) S k n H Q ↔ W (pj lw) 100 98 (l0 :: l1 :: l2 :: l3 :: l4 :: l5 :: l6 :: l7 :: l8 :: .val (.int x) :: L) (.int x :: S) k n H Q := W_s (rfl : (pj lw).1 100 96 = some (.iload 9, 2, 0)) rfl rfl rfl
theorem w100_98 {x : Int32} {l0 l1 l2 l3 l4 : Slot} : W (pj lw) 100 98 (l0 :: l1 :: l2 :: l3 :: l4 :: .val (.int x) :: L) S k n H Q ↔ W (pj lw) 100 100 (l0 :: l1 :: l2 :: l3 :: l4 :: .val (.int x) :: L) (.int x :: S) k n H Q := W_s (rfl : (pj lw).1 100 98 = some (.iload 5, 2, 0)) rfl rfl rfl
theorem w100_100 {x : Int32} {l0 l1 l2 l3 l4 l5 : Slot} : W (pj lw) 100 100 (l0 :: l1 :: l2 :: l3 :: l4 :: l5 :: .val (.int x) :: L) S k n H Q ↔ W (pj lw) 100 102 (l0 :: l1 :: l2 :: l3 :: l4 :: l5 :: .val (.int x) :: L) (.int x :: S) k n H Q := W_s (rfl : (pj lw).1 100 100 = some (.iload 6, 2, 0)) rfl rfl rfl
theorem w100_102 {x : Int32} {l0 l1 l2 l3 l4 l5 l6 : Slot} : W (pj lw) 100 102 (l0 :: l1 :: l2 :: l3 :: l4 :: l5 :: l6 :: .val (.int x) :: L) S k n H Q ↔ W (pj lw) 100 104 (l0 :: l1 :: l2 :: l3 :: l4 :: l5 :: l6 :: .val (.int x) :: L) (.int x :: S) k n H Q := W_s (rfl : (pj lw).1 100 102 = some (.iload 7, 2, 0)) rfl rfl rfl
theorem w100_104 {x0 : Int32} {x1 : Int32} {x2 : Int32} {x3 : Int32} : W (pj lw) 100 104 L (.int x3 :: .int x2 :: .int x1 :: .int x0 :: S) k n H Q ↔ (cs S + (4 + 11) + 0 ≤ 192 ∧ Cl (pj lw) 103 [.int x0, .int x1, .int x2, .int x3] H (fun v H => W (pj lw) 100 107 L (v.toList ++ S) k n H Q)) := W_stat (a := [.int x0, .int x1, .int x2, .int x3]) (rfl : (pj lw).1 100 104 = some (.invokestatic 11, 3, 103)) rfl rfl rfl (Nat.le_of_ble_eq_true rfl) (Nat.le_of_ble_eq_true rfl) ⟨rfl, rfl⟩
theorem w100_107 {x : Int32} : W (pj lw) 100 107 L (.int x :: S) k n H Q ↔ W (pj lw) 100 108 L (.long x.toInt64 :: S) k n H Q := W_s (rfl : (pj lw).1 100 107 = some (.i2l, 1, 0)) rfl rfl rfl
theorem w100_108uu {x : Int64} {l0 l1 l2 l3 l4 l5 l6 l7 l8 l9 l10 l11 l12 l13 : Slot} : W (pj lw) 100 108 (l0 :: l1 :: l2 :: l3 :: l4 :: l5 :: l6 :: l7 :: l8 :: l9 :: l10 :: l11 :: l12 :: l13 :: .unset :: .unset :: L) (.long x :: S) k n H Q ↔ W (pj lw) 100 110 (l0 :: l1 :: l2 :: l3 :: l4 :: l5 :: l6 :: l7 :: l8 :: l9 :: l10 :: l11 :: l12 :: l13 :: .val (.long x) :: .second :: L) S k n H Q := W_lst (rfl : (pj lw).1 100 108 = some (.lstore 14, 2, 0)) rfl rfl rfl rfl
theorem w100_110 {x : Nat} {l0 l1 l2 : Slot} : W (pj lw) 100 110 (l0 :: l1 :: l2 :: .val (.ref x) :: L) S k n H Q ↔ W (pj lw) 100 111 (l0 :: l1 :: l2 :: .val (.ref x) :: L) (.ref x :: S) k n H Q := W_s (rfl : (pj lw).1 100 110 = some (.aload_n 3, 1, 0)) rfl rfl rfl
theorem w100_111 : W (pj lw) 100 111 L S k n H Q ↔ W (pj lw) 100 112 L (.int 0 :: S) k n H Q := W_s (rfl : (pj lw).1 100 111 = some (.iconst 0, 1, 0)) rfl rfl rfl
theorem w100_112 : W (pj lw) 100 112 L S k n H Q ↔ W (pj lw) 100 113 L (.int 1 :: S) k n H Q := W_s (rfl : (pj lw).1 100 112 = some (.iconst 1, 1, 0)) rfl rfl rfl
theorem w100_113 {x : Int32} : W (pj lw) 100 113 (.val (.int x) :: L) S k n H Q ↔ W (pj lw) 100 114 (.val (.int x) :: L) (.int x :: S) k n H Q := W_s (rfl : (pj lw).1 100 113 = some (.iload_n 0, 1, 0)) rfl rfl rfl
theorem w100_114 {a : Nat} {x0 : Int32} {x1 : Int32} {x2 : Int32} : W (pj lw) 100 114 L (.int x2 :: .int x1 :: .int x0 :: .ref a :: S) k n H Q ↔ ((isO H a = true ∧ cs S + (6 + 11) + 65 ≤ 192) ∧ Cl (pj lw) 2 [.ref a, .int x0, .int x1, .int x2] H (fun v H => W (pj lw) 100 117 L (v.toList ++ S) k n H Q)) := W_inst (as := [.int x0, .int x1, .int x2]) (rfl : (pj lw).1 100 114 = some (.invokevirtual 28, 3, 2)) rfl rfl rfl (Nat.le_of_ble_eq_true rfl) (Nat.le_of_ble_eq_true rfl) ⟨rfl, rfl⟩
theorem w100_117 {x : Int32} : W (pj lw) 100 117 L (.int x :: S) k n H Q ↔ (if x = 0 then W (pj lw) 100 122 L S k n H Q else W (pj lw) 100 120 L S k n H Q) := W_if_eq (rfl : (pj lw).1 100 117 = some (.ifCond .eq 5, 3, 0)) rfl
theorem w100_122 {x : Nat} {l0 l1 l2 : Slot} : W (pj lw) 100 122 (l0 :: l1 :: l2 :: .val (.ref x) :: L) S k n H Q ↔ W (pj lw) 100 123 (l0 :: l1 :: l2 :: .val (.ref x) :: L) (.ref x :: S) k n H Q := W_s (rfl : (pj lw).1 100 122 = some (.aload_n 3, 1, 0)) rfl rfl rfl
theorem w100_123 : W (pj lw) 100 123 L S k n H Q ↔ W (pj lw) 100 124 L (.int 1 :: S) k n H Q := W_s (rfl : (pj lw).1 100 123 = some (.iconst 1, 1, 0)) rfl rfl rfl
theorem w100_124 : W (pj lw) 100 124 L S k n H Q ↔ W (pj lw) 100 125 L (.int 2 :: S) k n H Q := W_s (rfl : (pj lw).1 100 124 = some (.iconst 2, 1, 0)) rfl rfl rfl
theorem w100_125 {x : Int32} {l0 : Slot} : W (pj lw) 100 125 (l0 :: .val (.int x) :: L) S k n H Q ↔ W (pj lw) 100 126 (l0 :: .val (.int x) :: L) (.int x :: S) k n H Q := W_s (rfl : (pj lw).1 100 125 = some (.iload_n 1, 1, 0)) rfl rfl rfl
theorem w100_126 {a : Nat} {x0 : Int32} {x1 : Int32} {x2 : Int32} : W (pj lw) 100 126 L (.int x2 :: .int x1 :: .int x0 :: .ref a :: S) k n H Q ↔ ((isO H a = true ∧ cs S + (6 + 11) + 65 ≤ 192) ∧ Cl (pj lw) 2 [.ref a, .int x0, .int x1, .int x2] H (fun v H => W (pj lw) 100 129 L (v.toList ++ S) k n H Q)) := W_inst (as := [.int x0, .int x1, .int x2]) (rfl : (pj lw).1 100 126 = some (.invokevirtual 28, 3, 2)) rfl rfl rfl (Nat.le_of_ble_eq_true rfl) (Nat.le_of_ble_eq_true rfl) ⟨rfl, rfl⟩
theorem w100_129 : W (pj lw) 100 129 L S k n H Q ↔ W (pj lw) 100 130 L (.int 1 :: S) k n H Q := W_s (rfl : (pj lw).1 100 129 = some (.iconst 1, 1, 0)) rfl rfl rfl
theorem w100_130 {x y : Int32} : W (pj lw) 100 130 L (.int y :: .int x :: S) k n H Q ↔ (if x = y then W (pj lw) 100 135 L S k n H Q else W (pj lw) 100 133 L S k n H Q) := W_icmp_eq (rfl : (pj lw).1 100 130 = some (.if_icmp .eq 5, 3, 0)) rfl
theorem w100_135 {x : Nat} {l0 l1 l2 : Slot} : W (pj lw) 100 135 (l0 :: l1 :: l2 :: .val (.ref x) :: L) S k n H Q ↔ W (pj lw) 100 136 (l0 :: l1 :: l2 :: .val (.ref x) :: L) (.ref x :: S) k n H Q := W_s (rfl : (pj lw).1 100 135 = some (.aload_n 3, 1, 0)) rfl rfl rfl
theorem w100_136 : W (pj lw) 100 136 L S k n H Q ↔ W (pj lw) 100 137 L (.int 0 :: S) k n H Q := W_s (rfl : (pj lw).1 100 136 = some (.iconst 0, 1, 0)) rfl rfl rfl
theorem w100_137 : W (pj lw) 100 137 L S k n H Q ↔ W (pj lw) 100 138 L (.int 2 :: S) k n H Q := W_s (rfl : (pj lw).1 100 137 = some (.iconst 2, 1, 0)) rfl rfl rfl
theorem w100_138 {x : Int32} {l0 l1 : Slot} : W (pj lw) 100 138 (l0 :: l1 :: .val (.int x) :: L) S k n H Q ↔ W (pj lw) 100 139 (l0 :: l1 :: .val (.int x) :: L) (.int x :: S) k n H Q := W_s (rfl : (pj lw).1 100 138 = some (.iload_n 2, 1, 0)) rfl rfl rfl
theorem w100_139 {a : Nat} {x0 : Int32} {x1 : Int32} {x2 : Int32} : W (pj lw) 100 139 L (.int x2 :: .int x1 :: .int x0 :: .ref a :: S) k n H Q ↔ ((isO H a = true ∧ cs S + (6 + 11) + 65 ≤ 192) ∧ Cl (pj lw) 2 [.ref a, .int x0, .int x1, .int x2] H (fun v H => W (pj lw) 100 142 L (v.toList ++ S) k n H Q)) := W_inst (as := [.int x0, .int x1, .int x2]) (rfl : (pj lw).1 100 139 = some (.invokevirtual 28, 3, 2)) rfl rfl rfl (Nat.le_of_ble_eq_true rfl) (Nat.le_of_ble_eq_true rfl) ⟨rfl, rfl⟩
theorem w100_142 : W (pj lw) 100 142 L S k n H Q ↔ W (pj lw) 100 143 L (.int 2 :: S) k n H Q := W_s (rfl : (pj lw).1 100 142 = some (.iconst 2, 1, 0)) rfl rfl rfl
theorem w100_143 {x y : Int32} : W (pj lw) 100 143 L (.int y :: .int x :: S) k n H Q ↔ (if x = y then W (pj lw) 100 148 L S k n H Q else W (pj lw) 100 146 L S k n H Q) := W_icmp_eq (rfl : (pj lw).1 100 143 = some (.if_icmp .eq 5, 3, 0)) rfl
theorem w100_148 {x : Nat} {l0 l1 l2 : Slot} : W (pj lw) 100 148 (l0 :: l1 :: l2 :: .val (.ref x) :: L) S k n H Q ↔ W (pj lw) 100 149 (l0 :: l1 :: l2 :: .val (.ref x) :: L) (.ref x :: S) k n H Q := W_s (rfl : (pj lw).1 100 148 = some (.aload_n 3, 1, 0)) rfl rfl rfl
theorem w100_149 {a : Nat} : W (pj lw) 100 149 L (.ref a :: S) k n H Q ↔ ((isO H a = true ∧ cs S + (1 + 11) + 0 ≤ 192) ∧ Cl (pj lw) 16 [.ref a] H (fun v H => W (pj lw) 100 152 L (v.toList ++ S) k n H Q)) := W_inst (as := []) (rfl : (pj lw).1 100 149 = some (.invokevirtual 32, 3, 16)) rfl rfl rfl (Nat.le_of_ble_eq_true rfl) (Nat.le_of_ble_eq_true rfl) ⟨rfl, rfl⟩
theorem w100_152 {x : Int32} {l0 l1 l2 l3 l4 l5 l6 l7 l8 : Slot} : W (pj lw) 100 152 (l0 :: l1 :: l2 :: l3 :: l4 :: l5 :: l6 :: l7 :: l8 :: .val (.int x) :: L) S k n H Q ↔ W (pj lw) 100 154 (l0 :: l1 :: l2 :: l3 :: l4 :: l5 :: l6 :: l7 :: l8 :: .val (.int x) :: L) (.int x :: S) k n H Q := W_s (rfl : (pj lw).1 100 152 = some (.iload 9, 2, 0)) rfl rfl rfl
theorem w100_154 : W (pj lw) 100 154 L S k n H Q ↔ W (pj lw) 100 155 L (.int 2 :: S) k n H Q := W_s (rfl : (pj lw).1 100 154 = some (.iconst 2, 1, 0)) rfl rfl rfl
theorem w100_155 {x y : Int32} : W (pj lw) 100 155 L (.int y :: .int x :: S) k n H Q ↔ (if x = y then W (pj lw) 100 158 L S k n H Q else W (pj lw) 100 163 L S k n H Q) := W_icmp_ne (rfl : (pj lw).1 100 155 = some (.if_icmp .ne 8, 3, 0)) rfl
theorem w100_158 {x : Int32} {l0 l1 l2 l3 : Slot} : W (pj lw) 100 158 (l0 :: l1 :: l2 :: l3 :: .val (.int x) :: L) S k n H Q ↔ W (pj lw) 100 160 (l0 :: l1 :: l2 :: l3 :: .val (.int x) :: L) (.int x :: S) k n H Q := W_s (rfl : (pj lw).1 100 158 = some (.iload 4, 2, 0)) rfl rfl rfl
theorem w100_160 : W (pj lw) 100 160 L S k n H Q ↔ W (pj lw) 100 164 L S k n H Q := W_goto (rfl : (pj lw).1 100 160 = some (.goto 4, 3, 0)) rfl
theorem w100_163 : W (pj lw) 100 163 L S k n H Q ↔ W (pj lw) 100 164 L (.int 2 :: S) k n H Q := W_s (rfl : (pj lw).1 100 163 = some (.iconst 2, 1, 0)) rfl rfl rfl
theorem w100_164 {x y : Int32} : W (pj lw) 100 164 L (.int y :: .int x :: S) k n H Q ↔ (if x = y then W (pj lw) 100 169 L S k n H Q else W (pj lw) 100 167 L S k n H Q) := W_icmp_eq (rfl : (pj lw).1 100 164 = some (.if_icmp .eq 5, 3, 0)) rfl
theorem w100_169 {x : Nat} {l0 l1 l2 : Slot} : W (pj lw) 100 169 (l0 :: l1 :: l2 :: .val (.ref x) :: L) S k n H Q ↔ W (pj lw) 100 170 (l0 :: l1 :: l2 :: .val (.ref x) :: L) (.ref x :: S) k n H Q := W_s (rfl : (pj lw).1 100 169 = some (.aload_n 3, 1, 0)) rfl rfl rfl
theorem w100_170 {a : Nat} : W (pj lw) 100 170 L (.ref a :: S) k n H Q ↔ ((isO H a = true ∧ cs S + (1 + 11) + 0 ≤ 192) ∧ Cl (pj lw) 17 [.ref a] H (fun v H => W (pj lw) 100 173 L (v.toList ++ S) k n H Q)) := W_inst (as := []) (rfl : (pj lw).1 100 170 = some (.invokevirtual 36, 3, 17)) rfl rfl rfl (Nat.le_of_ble_eq_true rfl) (Nat.le_of_ble_eq_true rfl) ⟨rfl, rfl⟩
theorem w100_173 {x : Int32} {l0 l1 l2 l3 l4 l5 l6 l7 l8 : Slot} : W (pj lw) 100 173 (l0 :: l1 :: l2 :: l3 :: l4 :: l5 :: l6 :: l7 :: l8 :: .val (.int x) :: L) S k n H Q ↔ W (pj lw) 100 175 (l0 :: l1 :: l2 :: l3 :: l4 :: l5 :: l6 :: l7 :: l8 :: .val (.int x) :: L) (.int x :: S) k n H Q := W_s (rfl : (pj lw).1 100 173 = some (.iload 9, 2, 0)) rfl rfl rfl
theorem w100_175 : W (pj lw) 100 175 L S k n H Q ↔ W (pj lw) 100 176 L (.int 2 :: S) k n H Q := W_s (rfl : (pj lw).1 100 175 = some (.iconst 2, 1, 0)) rfl rfl rfl
theorem w100_176 {x y : Int32} : W (pj lw) 100 176 L (.int y :: .int x :: S) k n H Q ↔ (if x = y then W (pj lw) 100 179 L S k n H Q else W (pj lw) 100 184 L S k n H Q) := W_icmp_ne (rfl : (pj lw).1 100 176 = some (.if_icmp .ne 8, 3, 0)) rfl
theorem w100_179 {x : Int32} {l0 l1 l2 l3 : Slot} : W (pj lw) 100 179 (l0 :: l1 :: l2 :: l3 :: .val (.int x) :: L) S k n H Q ↔ W (pj lw) 100 181 (l0 :: l1 :: l2 :: l3 :: .val (.int x) :: L) (.int x :: S) k n H Q := W_s (rfl : (pj lw).1 100 179 = some (.iload 4, 2, 0)) rfl rfl rfl
theorem w100_181 : W (pj lw) 100 181 L S k n H Q ↔ W (pj lw) 100 186 L S k n H Q := W_goto (rfl : (pj lw).1 100 181 = some (.goto 5, 3, 0)) rfl
theorem w100_184 {x : Int32} {l0 l1 l2 l3 l4 l5 l6 l7 l8 : Slot} : W (pj lw) 100 184 (l0 :: l1 :: l2 :: l3 :: l4 :: l5 :: l6 :: l7 :: l8 :: .val (.int x) :: L) S k n H Q ↔ W (pj lw) 100 186 (l0 :: l1 :: l2 :: l3 :: l4 :: l5 :: l6 :: l7 :: l8 :: .val (.int x) :: L) (.int x :: S) k n H Q := W_s (rfl : (pj lw).1 100 184 = some (.iload 9, 2, 0)) rfl rfl rfl
theorem w100_186 {x y : Int32} : W (pj lw) 100 186 L (.int y :: .int x :: S) k n H Q ↔ (if x = y then W (pj lw) 100 191 L S k n H Q else W (pj lw) 100 189 L S k n H Q) := W_icmp_eq (rfl : (pj lw).1 100 186 = some (.if_icmp .eq 5, 3, 0)) rfl
theorem w100_191 {x : Nat} {l0 l1 l2 : Slot} : W (pj lw) 100 191 (l0 :: l1 :: l2 :: .val (.ref x) :: L) S k n H Q ↔ W (pj lw) 100 192 (l0 :: l1 :: l2 :: .val (.ref x) :: L) (.ref x :: S) k n H Q := W_s (rfl : (pj lw).1 100 191 = some (.aload_n 3, 1, 0)) rfl rfl rfl
theorem w100_192 : W (pj lw) 100 192 L S k n H Q ↔ W (pj lw) 100 193 L (.int 0 :: S) k n H Q := W_s (rfl : (pj lw).1 100 192 = some (.iconst 0, 1, 0)) rfl rfl rfl
theorem w100_193 {a : Nat} {x0 : Int32} : W (pj lw) 100 193 L (.int x0 :: .ref a :: S) k n H Q ↔ ((isO H a = true ∧ cs S + (2 + 11) + 13 ≤ 192) ∧ Cl (pj lw) 6 [.ref a, .int x0] H (fun v H => W (pj lw) 100 196 L (v.toList ++ S) k n H Q)) := W_inst (as := [.int x0]) (rfl : (pj lw).1 100 193 = some (.invokevirtual 39, 3, 6)) rfl rfl rfl (Nat.le_of_ble_eq_true rfl) (Nat.le_of_ble_eq_true rfl) ⟨rfl, rfl⟩
theorem w100_196 {x : Int32} {l0 l1 l2 l3 l4 l5 l6 l7 l8 : Slot} : W (pj lw) 100 196 (l0 :: l1 :: l2 :: l3 :: l4 :: l5 :: l6 :: l7 :: l8 :: .val (.int x) :: L) S k n H Q ↔ W (pj lw) 100 198 (l0 :: l1 :: l2 :: l3 :: l4 :: l5 :: l6 :: l7 :: l8 :: .val (.int x) :: L) (.int x :: S) k n H Q := W_s (rfl : (pj lw).1 100 196 = some (.iload 9, 2, 0)) rfl rfl rfl
theorem w100_198 {x : Int32} : W (pj lw) 100 198 L (.int x :: S) k n H Q ↔ (if x = 0 then W (pj lw) 100 205 L S k n H Q else W (pj lw) 100 201 L S k n H Q) := W_if_eq (rfl : (pj lw).1 100 198 = some (.ifCond .eq 7, 3, 0)) rfl
theorem w100_201 : W (pj lw) 100 201 L S k n H Q ↔ W (pj lw) 100 202 L (.int 1 :: S) k n H Q := W_s (rfl : (pj lw).1 100 201 = some (.iconst 1, 1, 0)) rfl rfl rfl
theorem w100_202 : W (pj lw) 100 202 L S k n H Q ↔ W (pj lw) 100 206 L S k n H Q := W_goto (rfl : (pj lw).1 100 202 = some (.goto 4, 3, 0)) rfl
theorem w100_205 : W (pj lw) 100 205 L S k n H Q ↔ W (pj lw) 100 206 L (.int 0 :: S) k n H Q := W_s (rfl : (pj lw).1 100 205 = some (.iconst 0, 1, 0)) rfl rfl rfl
theorem w100_206 {x y : Int32} : W (pj lw) 100 206 L (.int y :: .int x :: S) k n H Q ↔ (if x = y then W (pj lw) 100 211 L S k n H Q else W (pj lw) 100 209 L S k n H Q) := W_icmp_eq (rfl : (pj lw).1 100 206 = some (.if_icmp .eq 5, 3, 0)) rfl
theorem w100_211 {x : Nat} {l0 l1 l2 : Slot} : W (pj lw) 100 211 (l0 :: l1 :: l2 :: .val (.ref x) :: L) S k n H Q ↔ W (pj lw) 100 212 (l0 :: l1 :: l2 :: .val (.ref x) :: L) (.ref x :: S) k n H Q := W_s (rfl : (pj lw).1 100 211 = some (.aload_n 3, 1, 0)) rfl rfl rfl
theorem w100_212 : W (pj lw) 100 212 L S k n H Q ↔ W (pj lw) 100 213 L (.int 1 :: S) k n H Q := W_s (rfl : (pj lw).1 100 212 = some (.iconst 1, 1, 0)) rfl rfl rfl
theorem w100_213 {a : Nat} {x0 : Int32} : W (pj lw) 100 213 L (.int x0 :: .ref a :: S) k n H Q ↔ ((isO H a = true ∧ cs S + (2 + 11) + 13 ≤ 192) ∧ Cl (pj lw) 6 [.ref a, .int x0] H (fun v H => W (pj lw) 100 216 L (v.toList ++ S) k n H Q)) := W_inst (as := [.int x0]) (rfl : (pj lw).1 100 213 = some (.invokevirtual 39, 3, 6)) rfl rfl rfl (Nat.le_of_ble_eq_true rfl) (Nat.le_of_ble_eq_true rfl) ⟨rfl, rfl⟩
theorem w100_216 {x : Int32} {l0 l1 l2 l3 l4 l5 l6 l7 l8 : Slot} : W (pj lw) 100 216 (l0 :: l1 :: l2 :: l3 :: l4 :: l5 :: l6 :: l7 :: l8 :: .val (.int x) :: L) S k n H Q ↔ W (pj lw) 100 218 (l0 :: l1 :: l2 :: l3 :: l4 :: l5 :: l6 :: l7 :: l8 :: .val (.int x) :: L) (.int x :: S) k n H Q := W_s (rfl : (pj lw).1 100 216 = some (.iload 9, 2, 0)) rfl rfl rfl
theorem w100_218 : W (pj lw) 100 218 L S k n H Q ↔ W (pj lw) 100 219 L (.int 1 :: S) k n H Q := W_s (rfl : (pj lw).1 100 218 = some (.iconst 1, 1, 0)) rfl rfl rfl
theorem w100_219 {x y : Int32} : W (pj lw) 100 219 L (.int y :: .int x :: S) k n H Q ↔ (if x = y then W (pj lw) 100 226 L S k n H Q else W (pj lw) 100 222 L S k n H Q) := W_icmp_eq (rfl : (pj lw).1 100 219 = some (.if_icmp .eq 7, 3, 0)) rfl
theorem w100_222 : W (pj lw) 100 222 L S k n H Q ↔ W (pj lw) 100 223 L (.int 1 :: S) k n H Q := W_s (rfl : (pj lw).1 100 222 = some (.iconst 1, 1, 0)) rfl rfl rfl
theorem w100_223 : W (pj lw) 100 223 L S k n H Q ↔ W (pj lw) 100 227 L S k n H Q := W_goto (rfl : (pj lw).1 100 223 = some (.goto 4, 3, 0)) rfl
theorem w100_226 : W (pj lw) 100 226 L S k n H Q ↔ W (pj lw) 100 227 L (.int 0 :: S) k n H Q := W_s (rfl : (pj lw).1 100 226 = some (.iconst 0, 1, 0)) rfl rfl rfl
theorem w100_227 {x y : Int32} : W (pj lw) 100 227 L (.int y :: .int x :: S) k n H Q ↔ (if x = y then W (pj lw) 100 232 L S k n H Q else W (pj lw) 100 230 L S k n H Q) := W_icmp_eq (rfl : (pj lw).1 100 227 = some (.if_icmp .eq 5, 3, 0)) rfl
theorem w100_232 {x : Nat} {l0 l1 l2 : Slot} : W (pj lw) 100 232 (l0 :: l1 :: l2 :: .val (.ref x) :: L) S k n H Q ↔ W (pj lw) 100 233 (l0 :: l1 :: l2 :: .val (.ref x) :: L) (.ref x :: S) k n H Q := W_s (rfl : (pj lw).1 100 232 = some (.aload_n 3, 1, 0)) rfl rfl rfl
theorem w100_233 : W (pj lw) 100 233 L S k n H Q ↔ W (pj lw) 100 234 L (.int 2 :: S) k n H Q := W_s (rfl : (pj lw).1 100 233 = some (.iconst 2, 1, 0)) rfl rfl rfl
theorem w100_234 {a : Nat} {x0 : Int32} : W (pj lw) 100 234 L (.int x0 :: .ref a :: S) k n H Q ↔ ((isO H a = true ∧ cs S + (2 + 11) + 13 ≤ 192) ∧ Cl (pj lw) 6 [.ref a, .int x0] H (fun v H => W (pj lw) 100 237 L (v.toList ++ S) k n H Q)) := W_inst (as := [.int x0]) (rfl : (pj lw).1 100 234 = some (.invokevirtual 39, 3, 6)) rfl rfl rfl (Nat.le_of_ble_eq_true rfl) (Nat.le_of_ble_eq_true rfl) ⟨rfl, rfl⟩
theorem w100_237 {x : Int32} {l0 l1 l2 l3 l4 l5 l6 l7 l8 : Slot} : W (pj lw) 100 237 (l0 :: l1 :: l2 :: l3 :: l4 :: l5 :: l6 :: l7 :: l8 :: .val (.int x) :: L) S k n H Q ↔ W (pj lw) 100 239 (l0 :: l1 :: l2 :: l3 :: l4 :: l5 :: l6 :: l7 :: l8 :: .val (.int x) :: L) (.int x :: S) k n H Q := W_s (rfl : (pj lw).1 100 237 = some (.iload 9, 2, 0)) rfl rfl rfl
theorem w100_239 : W (pj lw) 100 239 L S k n H Q ↔ W (pj lw) 100 240 L (.int 2 :: S) k n H Q := W_s (rfl : (pj lw).1 100 239 = some (.iconst 2, 1, 0)) rfl rfl rfl
theorem w100_240 {x y : Int32} : W (pj lw) 100 240 L (.int y :: .int x :: S) k n H Q ↔ (if x = y then W (pj lw) 100 247 L S k n H Q else W (pj lw) 100 243 L S k n H Q) := W_icmp_eq (rfl : (pj lw).1 100 240 = some (.if_icmp .eq 7, 3, 0)) rfl
theorem w100_243 : W (pj lw) 100 243 L S k n H Q ↔ W (pj lw) 100 244 L (.int 1 :: S) k n H Q := W_s (rfl : (pj lw).1 100 243 = some (.iconst 1, 1, 0)) rfl rfl rfl
theorem w100_244 : W (pj lw) 100 244 L S k n H Q ↔ W (pj lw) 100 248 L S k n H Q := W_goto (rfl : (pj lw).1 100 244 = some (.goto 4, 3, 0)) rfl
theorem w100_247 : W (pj lw) 100 247 L S k n H Q ↔ W (pj lw) 100 248 L (.int 0 :: S) k n H Q := W_s (rfl : (pj lw).1 100 247 = some (.iconst 0, 1, 0)) rfl rfl rfl
theorem w100_248 {x y : Int32} : W (pj lw) 100 248 L (.int y :: .int x :: S) k n H Q ↔ (if x = y then W (pj lw) 100 253 L S k n H Q else W (pj lw) 100 251 L S k n H Q) := W_icmp_eq (rfl : (pj lw).1 100 248 = some (.if_icmp .eq 5, 3, 0)) rfl
theorem w100_253 {x : Nat} {l0 l1 l2 : Slot} : W (pj lw) 100 253 (l0 :: l1 :: l2 :: .val (.ref x) :: L) S k n H Q ↔ W (pj lw) 100 254 (l0 :: l1 :: l2 :: .val (.ref x) :: L) (.ref x :: S) k n H Q := W_s (rfl : (pj lw).1 100 253 = some (.aload_n 3, 1, 0)) rfl rfl rfl
theorem w100_254 {a : Nat} : W (pj lw) 100 254 L (.ref a :: S) k n H Q ↔ ((isO H a = true ∧ cs S + (1 + 11) + 0 ≤ 192) ∧ Cl (pj lw) 10 [.ref a] H (fun v H => W (pj lw) 100 257 L (v.toList ++ S) k n H Q)) := W_inst (as := []) (rfl : (pj lw).1 100 254 = some (.invokevirtual 43, 3, 10)) rfl rfl rfl (Nat.le_of_ble_eq_true rfl) (Nat.le_of_ble_eq_true rfl) ⟨rfl, rfl⟩
theorem w100_257 {x : Int64} {l0 l1 l2 l3 l4 l5 l6 l7 l8 l9 l10 l11 : Slot} : W (pj lw) 100 257 (l0 :: l1 :: l2 :: l3 :: l4 :: l5 :: l6 :: l7 :: l8 :: l9 :: l10 :: l11 :: .val (.long x) :: L) S k n H Q ↔ W (pj lw) 100 259 (l0 :: l1 :: l2 :: l3 :: l4 :: l5 :: l6 :: l7 :: l8 :: l9 :: l10 :: l11 :: .val (.long x) :: L) (.long x :: S) k n H Q := W_s (rfl : (pj lw).1 100 257 = some (.lload 12, 2, 0)) rfl rfl rfl
theorem w100_259 {x : Int64} {l0 l1 l2 l3 l4 l5 l6 l7 l8 l9 l10 l11 l12 l13 : Slot} : W (pj lw) 100 259 (l0 :: l1 :: l2 :: l3 :: l4 :: l5 :: l6 :: l7 :: l8 :: l9 :: l10 :: l11 :: l12 :: l13 :: .val (.long x) :: L) S k n H Q ↔ W (pj lw) 100 261 (l0 :: l1 :: l2 :: l3 :: l4 :: l5 :: l6 :: l7 :: l8 :: l9 :: l10 :: l11 :: l12 :: l13 :: .val (.long x) :: L) (.long x :: S) k n H Q := W_s (rfl : (pj lw).1 100 259 = some (.lload 14, 2, 0)) rfl rfl rfl
theorem w100_261 {x y : Int64} : W (pj lw) 100 261 L (.long y :: .long x :: S) k n H Q ↔ W (pj lw) 100 262 L (.long (x - y) :: S) k n H Q := W_s (rfl : (pj lw).1 100 261 = some (.lsub, 1, 0)) rfl rfl rfl
theorem w100_262 {x y : Int64} : W (pj lw) 100 262 L (.long y :: .long x :: S) k n H Q ↔ W (pj lw) 100 263 L (.int (Jvm.Free.XT.cmpL x y) :: S) k n H Q := W_s (rfl : (pj lw).1 100 262 = some (.lcmp, 1, 0)) rfl rfl rfl
theorem w100_263 {x : Int32} : W (pj lw) 100 263 L (.int x :: S) k n H Q ↔ (if x = 0 then W (pj lw) 100 268 L S k n H Q else W (pj lw) 100 266 L S k n H Q) := W_if_eq (rfl : (pj lw).1 100 263 = some (.ifCond .eq 5, 3, 0)) rfl
theorem w100_268 {x : Nat} {l0 l1 l2 : Slot} : W (pj lw) 100 268 (l0 :: l1 :: l2 :: .val (.ref x) :: L) S k n H Q ↔ W (pj lw) 100 269 (l0 :: l1 :: l2 :: .val (.ref x) :: L) (.ref x :: S) k n H Q := W_s (rfl : (pj lw).1 100 268 = some (.aload_n 3, 1, 0)) rfl rfl rfl
theorem w100_269 {a : Nat} : W (pj lw) 100 269 L (.ref a :: S) k n H Q ↔ ((isO H a = true ∧ cs S + (1 + 11) + 0 ≤ 192) ∧ Cl (pj lw) 12 [.ref a] H (fun v H => W (pj lw) 100 272 L (v.toList ++ S) k n H Q)) := W_inst (as := []) (rfl : (pj lw).1 100 269 = some (.invokevirtual 47, 3, 12)) rfl rfl rfl (Nat.le_of_ble_eq_true rfl) (Nat.le_of_ble_eq_true rfl) ⟨rfl, rfl⟩
theorem w100_272 : W (pj lw) 100 272 L S k n H Q ↔ W (pj lw) 100 273 L (.int 1 :: S) k n H Q := W_s (rfl : (pj lw).1 100 272 = some (.iconst 1, 1, 0)) rfl rfl rfl
theorem w100_273 {x y : Int32} : W (pj lw) 100 273 L (.int y :: .int x :: S) k n H Q ↔ (if x = y then W (pj lw) 100 278 L S k n H Q else W (pj lw) 100 276 L S k n H Q) := W_icmp_eq (rfl : (pj lw).1 100 273 = some (.if_icmp .eq 5, 3, 0)) rfl
theorem w100_278 {x : Nat} {l0 l1 l2 : Slot} : W (pj lw) 100 278 (l0 :: l1 :: l2 :: .val (.ref x) :: L) S k n H Q ↔ W (pj lw) 100 279 (l0 :: l1 :: l2 :: .val (.ref x) :: L) (.ref x :: S) k n H Q := W_s (rfl : (pj lw).1 100 278 = some (.aload_n 3, 1, 0)) rfl rfl rfl
theorem w100_279 : W (pj lw) 100 279 L S k n H Q ↔ W (pj lw) 100 280 L (.int 0 :: S) k n H Q := W_s (rfl : (pj lw).1 100 279 = some (.iconst 0, 1, 0)) rfl rfl rfl
theorem w100_280 : W (pj lw) 100 280 L S k n H Q ↔ W (pj lw) 100 281 L (.int 1 :: S) k n H Q := W_s (rfl : (pj lw).1 100 280 = some (.iconst 1, 1, 0)) rfl rfl rfl
theorem w100_281 {a : Nat} {x0 : Int32} {x1 : Int32} : W (pj lw) 100 281 L (.int x1 :: .int x0 :: .ref a :: S) k n H Q ↔ ((isO H a = true ∧ cs S + (3 + 11) + 50 ≤ 192) ∧ Cl (pj lw) 14 [.ref a, .int x0, .int x1] H (fun v H => W (pj lw) 100 284 L (v.toList ++ S) k n H Q)) := W_inst (as := [.int x0, .int x1]) (rfl : (pj lw).1 100 281 = some (.invokevirtual 50, 3, 14)) rfl rfl rfl (Nat.le_of_ble_eq_true rfl) (Nat.le_of_ble_eq_true rfl) ⟨rfl, rfl⟩
theorem w100_284 {x : Int32} {l0 l1 l2 l3 l4 l5 l6 l7 l8 : Slot} : W (pj lw) 100 284 (l0 :: l1 :: l2 :: l3 :: l4 :: l5 :: l6 :: l7 :: l8 :: .val (.int x) :: L) S k n H Q ↔ W (pj lw) 100 286 (l0 :: l1 :: l2 :: l3 :: l4 :: l5 :: l6 :: l7 :: l8 :: .val (.int x) :: L) (.int x :: S) k n H Q := W_s (rfl : (pj lw).1 100 284 = some (.iload 9, 2, 0)) rfl rfl rfl
theorem w100_286 {x : Int32} : W (pj lw) 100 286 L (.int x :: S) k n H Q ↔ (if x = 0 then W (pj lw) 100 293 L S k n H Q else W (pj lw) 100 289 L S k n H Q) := W_if_eq (rfl : (pj lw).1 100 286 = some (.ifCond .eq 7, 3, 0)) rfl
theorem w100_289 : W (pj lw) 100 289 L S k n H Q ↔ W (pj lw) 100 290 L (.int 0 :: S) k n H Q := W_s (rfl : (pj lw).1 100 289 = some (.iconst 0, 1, 0)) rfl rfl rfl
theorem w100_290 : W (pj lw) 100 290 L S k n H Q ↔ W (pj lw) 100 295 L S k n H Q := W_goto (rfl : (pj lw).1 100 290 = some (.goto 5, 3, 0)) rfl
theorem w100_293 {x : Int32} {l0 l1 l2 l3 l4 l5 l6 l7 l8 l9 : Slot} : W (pj lw) 100 293 (l0 :: l1 :: l2 :: l3 :: l4 :: l5 :: l6 :: l7 :: l8 :: l9 :: .val (.int x) :: L) S k n H Q ↔ W (pj lw) 100 295 (l0 :: l1 :: l2 :: l3 :: l4 :: l5 :: l6 :: l7 :: l8 :: l9 :: .val (.int x) :: L) (.int x :: S) k n H Q := W_s (rfl : (pj lw).1 100 293 = some (.iload 10, 2, 0)) rfl rfl rfl
theorem w100_295 {x y : Int32} : W (pj lw) 100 295 L (.int y :: .int x :: S) k n H Q ↔ (if x = y then W (pj lw) 100 300 L S k n H Q else W (pj lw) 100 298 L S k n H Q) := W_icmp_eq (rfl : (pj lw).1 100 295 = some (.if_icmp .eq 5, 3, 0)) rfl
theorem w100_300 {x : Nat} {l0 l1 l2 : Slot} : W (pj lw) 100 300 (l0 :: l1 :: l2 :: .val (.ref x) :: L) S k n H Q ↔ W (pj lw) 100 301 (l0 :: l1 :: l2 :: .val (.ref x) :: L) (.ref x :: S) k n H Q := W_s (rfl : (pj lw).1 100 300 = some (.aload_n 3, 1, 0)) rfl rfl rfl
theorem w100_301 : W (pj lw) 100 301 L S k n H Q ↔ W (pj lw) 100 302 L (.int 1 :: S) k n H Q := W_s (rfl : (pj lw).1 100 301 = some (.iconst 1, 1, 0)) rfl rfl rfl
theorem w100_302 : W (pj lw) 100 302 L S k n H Q ↔ W (pj lw) 100 303 L (.int 2 :: S) k n H Q := W_s (rfl : (pj lw).1 100 302 = some (.iconst 2, 1, 0)) rfl rfl rfl
theorem w100_303 {a : Nat} {x0 : Int32} {x1 : Int32} : W (pj lw) 100 303 L (.int x1 :: .int x0 :: .ref a :: S) k n H Q ↔ ((isO H a = true ∧ cs S + (3 + 11) + 50 ≤ 192) ∧ Cl (pj lw) 14 [.ref a, .int x0, .int x1] H (fun v H => W (pj lw) 100 306 L (v.toList ++ S) k n H Q)) := W_inst (as := [.int x0, .int x1]) (rfl : (pj lw).1 100 303 = some (.invokevirtual 50, 3, 14)) rfl rfl rfl (Nat.le_of_ble_eq_true rfl) (Nat.le_of_ble_eq_true rfl) ⟨rfl, rfl⟩
theorem w100_306 {x : Int32} {l0 l1 l2 l3 l4 l5 l6 l7 l8 : Slot} : W (pj lw) 100 306 (l0 :: l1 :: l2 :: l3 :: l4 :: l5 :: l6 :: l7 :: l8 :: .val (.int x) :: L) S k n H Q ↔ W (pj lw) 100 308 (l0 :: l1 :: l2 :: l3 :: l4 :: l5 :: l6 :: l7 :: l8 :: .val (.int x) :: L) (.int x :: S) k n H Q := W_s (rfl : (pj lw).1 100 306 = some (.iload 9, 2, 0)) rfl rfl rfl
theorem w100_308 : W (pj lw) 100 308 L S k n H Q ↔ W (pj lw) 100 309 L (.int 1 :: S) k n H Q := W_s (rfl : (pj lw).1 100 308 = some (.iconst 1, 1, 0)) rfl rfl rfl
theorem w100_309 {x y : Int32} : W (pj lw) 100 309 L (.int y :: .int x :: S) k n H Q ↔ (if x = y then W (pj lw) 100 316 L S k n H Q else W (pj lw) 100 312 L S k n H Q) := W_icmp_eq (rfl : (pj lw).1 100 309 = some (.if_icmp .eq 7, 3, 0)) rfl
theorem w100_312 : W (pj lw) 100 312 L S k n H Q ↔ W (pj lw) 100 313 L (.int 1 :: S) k n H Q := W_s (rfl : (pj lw).1 100 312 = some (.iconst 1, 1, 0)) rfl rfl rfl
theorem w100_313 : W (pj lw) 100 313 L S k n H Q ↔ W (pj lw) 100 318 L S k n H Q := W_goto (rfl : (pj lw).1 100 313 = some (.goto 5, 3, 0)) rfl
theorem w100_316 {x : Int32} {l0 l1 l2 l3 l4 l5 l6 l7 l8 l9 l10 : Slot} : W (pj lw) 100 316 (l0 :: l1 :: l2 :: l3 :: l4 :: l5 :: l6 :: l7 :: l8 :: l9 :: l10 :: .val (.int x) :: L) S k n H Q ↔ W (pj lw) 100 318 (l0 :: l1 :: l2 :: l3 :: l4 :: l5 :: l6 :: l7 :: l8 :: l9 :: l10 :: .val (.int x) :: L) (.int x :: S) k n H Q := W_s (rfl : (pj lw).1 100 316 = some (.iload 11, 2, 0)) rfl rfl rfl
theorem w100_318 {x y : Int32} : W (pj lw) 100 318 L (.int y :: .int x :: S) k n H Q ↔ (if x = y then W (pj lw) 100 323 L S k n H Q else W (pj lw) 100 321 L S k n H Q) := W_icmp_eq (rfl : (pj lw).1 100 318 = some (.if_icmp .eq 5, 3, 0)) rfl
theorem w100_323 {x : Nat} {l0 l1 l2 : Slot} : W (pj lw) 100 323 (l0 :: l1 :: l2 :: .val (.ref x) :: L) S k n H Q ↔ W (pj lw) 100 324 (l0 :: l1 :: l2 :: .val (.ref x) :: L) (.ref x :: S) k n H Q := W_s (rfl : (pj lw).1 100 323 = some (.aload_n 3, 1, 0)) rfl rfl rfl
theorem w100_324 : W (pj lw) 100 324 L S k n H Q ↔ W (pj lw) 100 325 L (.int 0 :: S) k n H Q := W_s (rfl : (pj lw).1 100 324 = some (.iconst 0, 1, 0)) rfl rfl rfl
theorem w100_325 : W (pj lw) 100 325 L S k n H Q ↔ W (pj lw) 100 326 L (.int 2 :: S) k n H Q := W_s (rfl : (pj lw).1 100 325 = some (.iconst 2, 1, 0)) rfl rfl rfl
theorem w100_326 {a : Nat} {x0 : Int32} {x1 : Int32} : W (pj lw) 100 326 L (.int x1 :: .int x0 :: .ref a :: S) k n H Q ↔ ((isO H a = true ∧ cs S + (3 + 11) + 50 ≤ 192) ∧ Cl (pj lw) 14 [.ref a, .int x0, .int x1] H (fun v H => W (pj lw) 100 329 L (v.toList ++ S) k n H Q)) := W_inst (as := [.int x0, .int x1]) (rfl : (pj lw).1 100 326 = some (.invokevirtual 50, 3, 14)) rfl rfl rfl (Nat.le_of_ble_eq_true rfl) (Nat.le_of_ble_eq_true rfl) ⟨rfl, rfl⟩
theorem w100_329 {x : Int32} {l0 l1 l2 l3 l4 l5 l6 l7 l8 : Slot} : W (pj lw) 100 329 (l0 :: l1 :: l2 :: l3 :: l4 :: l5 :: l6 :: l7 :: l8 :: .val (.int x) :: L) S k n H Q ↔ W (pj lw) 100 331 (l0 :: l1 :: l2 :: l3 :: l4 :: l5 :: l6 :: l7 :: l8 :: .val (.int x) :: L) (.int x :: S) k n H Q := W_s (rfl : (pj lw).1 100 329 = some (.iload 9, 2, 0)) rfl rfl rfl
theorem w100_331 : W (pj lw) 100 331 L S k n H Q ↔ W (pj lw) 100 332 L (.int 2 :: S) k n H Q := W_s (rfl : (pj lw).1 100 331 = some (.iconst 2, 1, 0)) rfl rfl rfl
theorem w100_332 {x y : Int32} : W (pj lw) 100 332 L (.int y :: .int x :: S) k n H Q ↔ (if x = y then W (pj lw) 100 339 L S k n H Q else W (pj lw) 100 335 L S k n H Q) := W_icmp_eq (rfl : (pj lw).1 100 332 = some (.if_icmp .eq 7, 3, 0)) rfl
theorem w100_335 : W (pj lw) 100 335 L S k n H Q ↔ W (pj lw) 100 336 L (.int 2 :: S) k n H Q := W_s (rfl : (pj lw).1 100 335 = some (.iconst 2, 1, 0)) rfl rfl rfl
theorem w100_336 : W (pj lw) 100 336 L S k n H Q ↔ W (pj lw) 100 341 L S k n H Q := W_goto (rfl : (pj lw).1 100 336 = some (.goto 5, 3, 0)) rfl
theorem w100_339 {x : Int32} {l0 l1 l2 l3 l4 l5 l6 l7 : Slot} : W (pj lw) 100 339 (l0 :: l1 :: l2 :: l3 :: l4 :: l5 :: l6 :: l7 :: .val (.int x) :: L) S k n H Q ↔ W (pj lw) 100 341 (l0 :: l1 :: l2 :: l3 :: l4 :: l5 :: l6 :: l7 :: .val (.int x) :: L) (.int x :: S) k n H Q := W_s (rfl : (pj lw).1 100 339 = some (.iload 8, 2, 0)) rfl rfl rfl
theorem w100_341 {x y : Int32} : W (pj lw) 100 341 L (.int y :: .int x :: S) k n H Q ↔ (if x = y then W (pj lw) 100 346 L S k n H Q else W (pj lw) 100 344 L S k n H Q) := W_icmp_eq (rfl : (pj lw).1 100 341 = some (.if_icmp .eq 5, 3, 0)) rfl
theorem w100_346 {x : Nat} {l0 l1 l2 : Slot} : W (pj lw) 100 346 (l0 :: l1 :: l2 :: .val (.ref x) :: L) S k n H Q ↔ W (pj lw) 100 347 (l0 :: l1 :: l2 :: .val (.ref x) :: L) (.ref x :: S) k n H Q := W_s (rfl : (pj lw).1 100 346 = some (.aload_n 3, 1, 0)) rfl rfl rfl
theorem w100_347 : W (pj lw) 100 347 L S k n H Q ↔ W (pj lw) 100 348 L (.int 0 :: S) k n H Q := W_s (rfl : (pj lw).1 100 347 = some (.iconst 0, 1, 0)) rfl rfl rfl
theorem w100_348 {a : Nat} {x0 : Int32} : W (pj lw) 100 348 L (.int x0 :: .ref a :: S) k n H Q ↔ ((isO H a = true ∧ cs S + (2 + 11) + 50 ≤ 192) ∧ Cl (pj lw) 15 [.ref a, .int x0] H (fun v H => W (pj lw) 100 351 L (v.toList ++ S) k n H Q)) := W_inst (as := [.int x0]) (rfl : (pj lw).1 100 348 = some (.invokevirtual 54, 3, 15)) rfl rfl rfl (Nat.le_of_ble_eq_true rfl) (Nat.le_of_ble_eq_true rfl) ⟨rfl, rfl⟩
theorem w100_351 {x : Int32} {l0 l1 l2 l3 l4 l5 l6 l7 l8 : Slot} : W (pj lw) 100 351 (l0 :: l1 :: l2 :: l3 :: l4 :: l5 :: l6 :: l7 :: l8 :: .val (.int x) :: L) S k n H Q ↔ W (pj lw) 100 353 (l0 :: l1 :: l2 :: l3 :: l4 :: l5 :: l6 :: l7 :: l8 :: .val (.int x) :: L) (.int x :: S) k n H Q := W_s (rfl : (pj lw).1 100 351 = some (.iload 9, 2, 0)) rfl rfl rfl
theorem w100_353 {x : Int32} : W (pj lw) 100 353 L (.int x :: S) k n H Q ↔ (if x = 0 then W (pj lw) 100 361 L S k n H Q else W (pj lw) 100 356 L S k n H Q) := W_if_eq (rfl : (pj lw).1 100 353 = some (.ifCond .eq 8, 3, 0)) rfl
theorem w100_356 {x : Int32} {l0 l1 l2 l3 l4 l5 l6 l7 l8 : Slot} : W (pj lw) 100 356 (l0 :: l1 :: l2 :: l3 :: l4 :: l5 :: l6 :: l7 :: l8 :: .val (.int x) :: L) S k n H Q ↔ W (pj lw) 100 358 (l0 :: l1 :: l2 :: l3 :: l4 :: l5 :: l6 :: l7 :: l8 :: .val (.int x) :: L) (.int x :: S) k n H Q := W_s (rfl : (pj lw).1 100 356 = some (.iload 9, 2, 0)) rfl rfl rfl
theorem w100_358 : W (pj lw) 100 358 L S k n H Q ↔ W (pj lw) 100 363 L S k n H Q := W_goto (rfl : (pj lw).1 100 358 = some (.goto 5, 3, 0)) rfl
theorem w100_361 {x : Int32} {l0 l1 l2 l3 : Slot} : W (pj lw) 100 361 (l0 :: l1 :: l2 :: l3 :: .val (.int x) :: L) S k n H Q ↔ W (pj lw) 100 363 (l0 :: l1 :: l2 :: l3 :: .val (.int x) :: L) (.int x :: S) k n H Q := W_s (rfl : (pj lw).1 100 361 = some (.iload 4, 2, 0)) rfl rfl rfl
theorem w100_363 {x y : Int32} : W (pj lw) 100 363 L (.int y :: .int x :: S) k n H Q ↔ (if x = y then W (pj lw) 100 368 L S k n H Q else W (pj lw) 100 366 L S k n H Q) := W_icmp_eq (rfl : (pj lw).1 100 363 = some (.if_icmp .eq 5, 3, 0)) rfl
theorem w100_368 {x : Nat} {l0 l1 l2 : Slot} : W (pj lw) 100 368 (l0 :: l1 :: l2 :: .val (.ref x) :: L) S k n H Q ↔ W (pj lw) 100 369 (l0 :: l1 :: l2 :: .val (.ref x) :: L) (.ref x :: S) k n H Q := W_s (rfl : (pj lw).1 100 368 = some (.aload_n 3, 1, 0)) rfl rfl rfl
theorem w100_369 : W (pj lw) 100 369 L S k n H Q ↔ W (pj lw) 100 370 L (.int 1 :: S) k n H Q := W_s (rfl : (pj lw).1 100 369 = some (.iconst 1, 1, 0)) rfl rfl rfl
theorem w100_370 {a : Nat} {x0 : Int32} : W (pj lw) 100 370 L (.int x0 :: .ref a :: S) k n H Q ↔ ((isO H a = true ∧ cs S + (2 + 11) + 50 ≤ 192) ∧ Cl (pj lw) 15 [.ref a, .int x0] H (fun v H => W (pj lw) 100 373 L (v.toList ++ S) k n H Q)) := W_inst (as := [.int x0]) (rfl : (pj lw).1 100 370 = some (.invokevirtual 54, 3, 15)) rfl rfl rfl (Nat.le_of_ble_eq_true rfl) (Nat.le_of_ble_eq_true rfl) ⟨rfl, rfl⟩
theorem w100_373 {x : Int32} {l0 l1 l2 l3 l4 l5 l6 l7 l8 : Slot} : W (pj lw) 100 373 (l0 :: l1 :: l2 :: l3 :: l4 :: l5 :: l6 :: l7 :: l8 :: .val (.int x) :: L) S k n H Q ↔ W (pj lw) 100 375 (l0 :: l1 :: l2 :: l3 :: l4 :: l5 :: l6 :: l7 :: l8 :: .val (.int x) :: L) (.int x :: S) k n H Q := W_s (rfl : (pj lw).1 100 373 = some (.iload 9, 2, 0)) rfl rfl rfl
theorem w100_375 : W (pj lw) 100 375 L S k n H Q ↔ W (pj lw) 100 376 L (.int 1 :: S) k n H Q := W_s (rfl : (pj lw).1 100 375 = some (.iconst 1, 1, 0)) rfl rfl rfl
theorem w100_376 {x y : Int32} : W (pj lw) 100 376 L (.int y :: .int x :: S) k n H Q ↔ (if x = y then W (pj lw) 100 384 L S k n H Q else W (pj lw) 100 379 L S k n H Q) := W_icmp_eq (rfl : (pj lw).1 100 376 = some (.if_icmp .eq 8, 3, 0)) rfl
theorem w100_379 {x : Int32} {l0 l1 l2 l3 l4 l5 l6 l7 l8 : Slot} : W (pj lw) 100 379 (l0 :: l1 :: l2 :: l3 :: l4 :: l5 :: l6 :: l7 :: l8 :: .val (.int x) :: L) S k n H Q ↔ W (pj lw) 100 381 (l0 :: l1 :: l2 :: l3 :: l4 :: l5 :: l6 :: l7 :: l8 :: .val (.int x) :: L) (.int x :: S) k n H Q := W_s (rfl : (pj lw).1 100 379 = some (.iload 9, 2, 0)) rfl rfl rfl
theorem w100_381 : W (pj lw) 100 381 L S k n H Q ↔ W (pj lw) 100 386 L S k n H Q := W_goto (rfl : (pj lw).1 100 381 = some (.goto 5, 3, 0)) rfl
theorem w100_384 {x : Int32} {l0 l1 l2 l3 : Slot} : W (pj lw) 100 384 (l0 :: l1 :: l2 :: l3 :: .val (.int x) :: L) S k n H Q ↔ W (pj lw) 100 386 (l0 :: l1 :: l2 :: l3 :: .val (.int x) :: L) (.int x :: S) k n H Q := W_s (rfl : (pj lw).1 100 384 = some (.iload 4, 2, 0)) rfl rfl rfl
theorem w100_386 {x y : Int32} : W (pj lw) 100 386 L (.int y :: .int x :: S) k n H Q ↔ (if x = y then W (pj lw) 100 391 L S k n H Q else W (pj lw) 100 389 L S k n H Q) := W_icmp_eq (rfl : (pj lw).1 100 386 = some (.if_icmp .eq 5, 3, 0)) rfl
theorem w100_391 {x : Nat} {l0 l1 l2 : Slot} : W (pj lw) 100 391 (l0 :: l1 :: l2 :: .val (.ref x) :: L) S k n H Q ↔ W (pj lw) 100 392 (l0 :: l1 :: l2 :: .val (.ref x) :: L) (.ref x :: S) k n H Q := W_s (rfl : (pj lw).1 100 391 = some (.aload_n 3, 1, 0)) rfl rfl rfl
theorem w100_392 : W (pj lw) 100 392 L S k n H Q ↔ W (pj lw) 100 393 L (.int 2 :: S) k n H Q := W_s (rfl : (pj lw).1 100 392 = some (.iconst 2, 1, 0)) rfl rfl rfl
theorem w100_393 {a : Nat} {x0 : Int32} : W (pj lw) 100 393 L (.int x0 :: .ref a :: S) k n H Q ↔ ((isO H a = true ∧ cs S + (2 + 11) + 50 ≤ 192) ∧ Cl (pj lw) 15 [.ref a, .int x0] H (fun v H => W (pj lw) 100 396 L (v.toList ++ S) k n H Q)) := W_inst (as := [.int x0]) (rfl : (pj lw).1 100 393 = some (.invokevirtual 54, 3, 15)) rfl rfl rfl (Nat.le_of_ble_eq_true rfl) (Nat.le_of_ble_eq_true rfl) ⟨rfl, rfl⟩
theorem w100_396 {x : Int32} {l0 l1 l2 l3 l4 l5 l6 l7 l8 : Slot} : W (pj lw) 100 396 (l0 :: l1 :: l2 :: l3 :: l4 :: l5 :: l6 :: l7 :: l8 :: .val (.int x) :: L) S k n H Q ↔ W (pj lw) 100 398 (l0 :: l1 :: l2 :: l3 :: l4 :: l5 :: l6 :: l7 :: l8 :: .val (.int x) :: L) (.int x :: S) k n H Q := W_s (rfl : (pj lw).1 100 396 = some (.iload 9, 2, 0)) rfl rfl rfl
theorem w100_398 : W (pj lw) 100 398 L S k n H Q ↔ W (pj lw) 100 399 L (.int 2 :: S) k n H Q := W_s (rfl : (pj lw).1 100 398 = some (.iconst 2, 1, 0)) rfl rfl rfl
theorem w100_399 {x y : Int32} : W (pj lw) 100 399 L (.int y :: .int x :: S) k n H Q ↔ (if x = y then W (pj lw) 100 407 L S k n H Q else W (pj lw) 100 402 L S k n H Q) := W_icmp_eq (rfl : (pj lw).1 100 399 = some (.if_icmp .eq 8, 3, 0)) rfl
theorem w100_402 {x : Int32} {l0 l1 l2 l3 l4 l5 l6 l7 l8 : Slot} : W (pj lw) 100 402 (l0 :: l1 :: l2 :: l3 :: l4 :: l5 :: l6 :: l7 :: l8 :: .val (.int x) :: L) S k n H Q ↔ W (pj lw) 100 404 (l0 :: l1 :: l2 :: l3 :: l4 :: l5 :: l6 :: l7 :: l8 :: .val (.int x) :: L) (.int x :: S) k n H Q := W_s (rfl : (pj lw).1 100 402 = some (.iload 9, 2, 0)) rfl rfl rfl
theorem w100_404 : W (pj lw) 100 404 L S k n H Q ↔ W (pj lw) 100 409 L S k n H Q := W_goto (rfl : (pj lw).1 100 404 = some (.goto 5, 3, 0)) rfl
theorem w100_407 {x : Int32} {l0 l1 l2 l3 : Slot} : W (pj lw) 100 407 (l0 :: l1 :: l2 :: l3 :: .val (.int x) :: L) S k n H Q ↔ W (pj lw) 100 409 (l0 :: l1 :: l2 :: l3 :: .val (.int x) :: L) (.int x :: S) k n H Q := W_s (rfl : (pj lw).1 100 407 = some (.iload 4, 2, 0)) rfl rfl rfl
theorem w100_409 {x y : Int32} : W (pj lw) 100 409 L (.int y :: .int x :: S) k n H Q ↔ (if x = y then W (pj lw) 100 414 L S k n H Q else W (pj lw) 100 412 L S k n H Q) := W_icmp_eq (rfl : (pj lw).1 100 409 = some (.if_icmp .eq 5, 3, 0)) rfl
theorem w100_414 {x : Int32} {l0 l1 l2 l3 l4 l5 l6 l7 l8 : Slot} : W (pj lw) 100 414 (l0 :: l1 :: l2 :: l3 :: l4 :: l5 :: l6 :: l7 :: l8 :: .val (.int x) :: L) S k n H Q ↔ W (pj lw) 100 416 (l0 :: l1 :: l2 :: l3 :: l4 :: l5 :: l6 :: l7 :: l8 :: .val (.int x) :: L) (.int x :: S) k n H Q := W_s (rfl : (pj lw).1 100 414 = some (.iload 9, 2, 0)) rfl rfl rfl
theorem w100_416 {x : Int32} : W (pj lw) 100 416 L (.int x :: S) k n H Q ↔ (if x = 0 then W (pj lw) 100 419 L S k n H Q else W (pj lw) 100 423 L S k n H Q) := W_if_ne (rfl : (pj lw).1 100 416 = some (.ifCond .ne 7, 3, 0)) rfl
theorem w100_419 : W (pj lw) 100 419 L S k n H Q ↔ W (pj lw) 100 420 L (.int 1 :: S) k n H Q := W_s (rfl : (pj lw).1 100 419 = some (.iconst 1, 1, 0)) rfl rfl rfl
theorem w100_420 : W (pj lw) 100 420 L S k n H Q ↔ W (pj lw) 100 424 L S k n H Q := W_goto (rfl : (pj lw).1 100 420 = some (.goto 4, 3, 0)) rfl
theorem w100_423 : W (pj lw) 100 423 L S k n H Q ↔ W (pj lw) 100 424 L (.int 0 :: S) k n H Q := W_s (rfl : (pj lw).1 100 423 = some (.iconst 0, 1, 0)) rfl rfl rfl
theorem w100_424 {x : Int32} {l0 l1 l2 l3 l4 l5 l6 l7 l8 l9 l10 l11 l12 l13 l14 l15 : Slot} : W (pj lw) 100 424 (l0 :: l1 :: l2 :: l3 :: l4 :: l5 :: l6 :: l7 :: l8 :: l9 :: l10 :: l11 :: l12 :: l13 :: l14 :: l15 :: .unset :: L) (.int x :: S) k n H Q ↔ W (pj lw) 100 426 (l0 :: l1 :: l2 :: l3 :: l4 :: l5 :: l6 :: l7 :: l8 :: l9 :: l10 :: l11 :: l12 :: l13 :: l14 :: l15 :: .val (.int x) :: L) S k n H Q := W_ist (rfl : (pj lw).1 100 424 = some (.istore 16, 2, 0)) rfl rfl
theorem w100_426 {x : Int32} {l0 l1 l2 l3 l4 l5 l6 l7 l8 l9 l10 l11 l12 l13 l14 l15 : Slot} : W (pj lw) 100 426 (l0 :: l1 :: l2 :: l3 :: l4 :: l5 :: l6 :: l7 :: l8 :: l9 :: l10 :: l11 :: l12 :: l13 :: l14 :: l15 :: .val (.int x) :: L) S k n H Q ↔ W (pj lw) 100 428 (l0 :: l1 :: l2 :: l3 :: l4 :: l5 :: l6 :: l7 :: l8 :: l9 :: l10 :: l11 :: l12 :: l13 :: l14 :: l15 :: .val (.int x) :: L) (.int x :: S) k n H Q := W_s (rfl : (pj lw).1 100 426 = some (.iload 16, 2, 0)) rfl rfl rfl
theorem w100_428 {x : Int32} {l0 l1 l2 l3 l4 : Slot} : W (pj lw) 100 428 (l0 :: l1 :: l2 :: l3 :: l4 :: .val (.int x) :: L) S k n H Q ↔ W (pj lw) 100 430 (l0 :: l1 :: l2 :: l3 :: l4 :: .val (.int x) :: L) (.int x :: S) k n H Q := W_s (rfl : (pj lw).1 100 428 = some (.iload 5, 2, 0)) rfl rfl rfl
theorem w100_430 {x : Int32} {l0 l1 l2 l3 l4 l5 : Slot} : W (pj lw) 100 430 (l0 :: l1 :: l2 :: l3 :: l4 :: l5 :: .val (.int x) :: L) S k n H Q ↔ W (pj lw) 100 432 (l0 :: l1 :: l2 :: l3 :: l4 :: l5 :: .val (.int x) :: L) (.int x :: S) k n H Q := W_s (rfl : (pj lw).1 100 430 = some (.iload 6, 2, 0)) rfl rfl rfl
theorem w100_432 {x : Int32} {l0 l1 l2 l3 l4 l5 l6 : Slot} : W (pj lw) 100 432 (l0 :: l1 :: l2 :: l3 :: l4 :: l5 :: l6 :: .val (.int x) :: L) S k n H Q ↔ W (pj lw) 100 434 (l0 :: l1 :: l2 :: l3 :: l4 :: l5 :: l6 :: .val (.int x) :: L) (.int x :: S) k n H Q := W_s (rfl : (pj lw).1 100 432 = some (.iload 7, 2, 0)) rfl rfl rfl
theorem w100_434 {x0 : Int32} {x1 : Int32} {x2 : Int32} {x3 : Int32} : W (pj lw) 100 434 L (.int x3 :: .int x2 :: .int x1 :: .int x0 :: S) k n H Q ↔ (cs S + (4 + 11) + 0 ≤ 192 ∧ Cl (pj lw) 103 [.int x0, .int x1, .int x2, .int x3] H (fun v H => W (pj lw) 100 437 L (v.toList ++ S) k n H Q)) := W_stat (a := [.int x0, .int x1, .int x2, .int x3]) (rfl : (pj lw).1 100 434 = some (.invokestatic 11, 3, 103)) rfl rfl rfl (Nat.le_of_ble_eq_true rfl) (Nat.le_of_ble_eq_true rfl) ⟨rfl, rfl⟩
theorem w100_437 {x : Int32} : W (pj lw) 100 437 L (.int x :: S) k n H Q ↔ W (pj lw) 100 438 L (.long x.toInt64 :: S) k n H Q := W_s (rfl : (pj lw).1 100 437 = some (.i2l, 1, 0)) rfl rfl rfl
theorem w100_438uu {x : Int64} {l0 l1 l2 l3 l4 l5 l6 l7 l8 l9 l10 l11 l12 l13 l14 l15 l16 : Slot} : W (pj lw) 100 438 (l0 :: l1 :: l2 :: l3 :: l4 :: l5 :: l6 :: l7 :: l8 :: l9 :: l10 :: l11 :: l12 :: l13 :: l14 :: l15 :: l16 :: .unset :: .unset :: L) (.long x :: S) k n H Q ↔ W (pj lw) 100 440 (l0 :: l1 :: l2 :: l3 :: l4 :: l5 :: l6 :: l7 :: l8 :: l9 :: l10 :: l11 :: l12 :: l13 :: l14 :: l15 :: l16 :: .val (.long x) :: .second :: L) S k n H Q := W_lst (rfl : (pj lw).1 100 438 = some (.lstore 17, 2, 0)) rfl rfl rfl rfl
theorem w100_440 {x : Nat} {l0 l1 l2 : Slot} : W (pj lw) 100 440 (l0 :: l1 :: l2 :: .val (.ref x) :: L) S k n H Q ↔ W (pj lw) 100 441 (l0 :: l1 :: l2 :: .val (.ref x) :: L) (.ref x :: S) k n H Q := W_s (rfl : (pj lw).1 100 440 = some (.aload_n 3, 1, 0)) rfl rfl rfl
theorem w100_441 {x : Int32} {l0 l1 l2 l3 l4 l5 l6 l7 l8 l9 l10 l11 l12 l13 l14 l15 : Slot} : W (pj lw) 100 441 (l0 :: l1 :: l2 :: l3 :: l4 :: l5 :: l6 :: l7 :: l8 :: l9 :: l10 :: l11 :: l12 :: l13 :: l14 :: l15 :: .val (.int x) :: L) S k n H Q ↔ W (pj lw) 100 443 (l0 :: l1 :: l2 :: l3 :: l4 :: l5 :: l6 :: l7 :: l8 :: l9 :: l10 :: l11 :: l12 :: l13 :: l14 :: l15 :: .val (.int x) :: L) (.int x :: S) k n H Q := W_s (rfl : (pj lw).1 100 441 = some (.iload 16, 2, 0)) rfl rfl rfl
theorem w100_443 {a : Nat} {x0 : Int32} : W (pj lw) 100 443 L (.int x0 :: .ref a :: S) k n H Q ↔ ((isO H a = true ∧ cs S + (2 + 11) + 64 ≤ 192) ∧ Cl (pj lw) 3 [.ref a, .int x0] H (fun v H => W (pj lw) 100 446 L (v.toList ++ S) k n H Q)) := W_inst (as := [.int x0]) (rfl : (pj lw).1 100 443 = some (.invokevirtual 57, 3, 3)) rfl rfl rfl (Nat.le_of_ble_eq_true rfl) (Nat.le_of_ble_eq_true rfl) ⟨rfl, rfl⟩
theorem w100_446 {x : Int32} : W (pj lw) 100 446 L (.int x :: S) k n H Q ↔ (if x = 0 then W (pj lw) 100 449 L S k n H Q else W (pj lw) 100 451 L S k n H Q) := W_if_ne (rfl : (pj lw).1 100 446 = some (.ifCond .ne 5, 3, 0)) rfl
theorem w100_451 {x : Nat} {l0 l1 l2 : Slot} : W (pj lw) 100 451 (l0 :: l1 :: l2 :: .val (.ref x) :: L) S k n H Q ↔ W (pj lw) 100 452 (l0 :: l1 :: l2 :: .val (.ref x) :: L) (.ref x :: S) k n H Q := W_s (rfl : (pj lw).1 100 451 = some (.aload_n 3, 1, 0)) rfl rfl rfl
theorem w100_452 {a : Nat} : W (pj lw) 100 452 L (.ref a :: S) k n H Q ↔ ((isO H a = true ∧ cs S + (1 + 11) + 0 ≤ 192) ∧ Cl (pj lw) 17 [.ref a] H (fun v H => W (pj lw) 100 455 L (v.toList ++ S) k n H Q)) := W_inst (as := []) (rfl : (pj lw).1 100 452 = some (.invokevirtual 36, 3, 17)) rfl rfl rfl (Nat.le_of_ble_eq_true rfl) (Nat.le_of_ble_eq_true rfl) ⟨rfl, rfl⟩
theorem w100_455 {x : Int32} {l0 l1 l2 l3 l4 l5 l6 l7 l8 l9 l10 l11 l12 l13 l14 l15 : Slot} : W (pj lw) 100 455 (l0 :: l1 :: l2 :: l3 :: l4 :: l5 :: l6 :: l7 :: l8 :: l9 :: l10 :: l11 :: l12 :: l13 :: l14 :: l15 :: .val (.int x) :: L) S k n H Q ↔ W (pj lw) 100 457 (l0 :: l1 :: l2 :: l3 :: l4 :: l5 :: l6 :: l7 :: l8 :: l9 :: l10 :: l11 :: l12 :: l13 :: l14 :: l15 :: .val (.int x) :: L) (.int x :: S) k n H Q := W_s (rfl : (pj lw).1 100 455 = some (.iload 16, 2, 0)) rfl rfl rfl
theorem w100_457 {x y : Int32} : W (pj lw) 100 457 L (.int y :: .int x :: S) k n H Q ↔ (if x = y then W (pj lw) 100 462 L S k n H Q else W (pj lw) 100 460 L S k n H Q) := W_icmp_eq (rfl : (pj lw).1 100 457 = some (.if_icmp .eq 5, 3, 0)) rfl
theorem w100_462 {x : Nat} {l0 l1 l2 : Slot} : W (pj lw) 100 462 (l0 :: l1 :: l2 :: .val (.ref x) :: L) S k n H Q ↔ W (pj lw) 100 463 (l0 :: l1 :: l2 :: .val (.ref x) :: L) (.ref x :: S) k n H Q := W_s (rfl : (pj lw).1 100 462 = some (.aload_n 3, 1, 0)) rfl rfl rfl
theorem w100_463 {a : Nat} : W (pj lw) 100 463 L (.ref a :: S) k n H Q ↔ ((isO H a = true ∧ cs S + (1 + 11) + 0 ≤ 192) ∧ Cl (pj lw) 16 [.ref a] H (fun v H => W (pj lw) 100 466 L (v.toList ++ S) k n H Q)) := W_inst (as := []) (rfl : (pj lw).1 100 463 = some (.invokevirtual 32, 3, 16)) rfl rfl rfl (Nat.le_of_ble_eq_true rfl) (Nat.le_of_ble_eq_true rfl) ⟨rfl, rfl⟩
theorem w100_466 {x : Int32} {l0 l1 l2 l3 l4 l5 l6 l7 l8 : Slot} : W (pj lw) 100 466 (l0 :: l1 :: l2 :: l3 :: l4 :: l5 :: l6 :: l7 :: l8 :: .val (.int x) :: L) S k n H Q ↔ W (pj lw) 100 468 (l0 :: l1 :: l2 :: l3 :: l4 :: l5 :: l6 :: l7 :: l8 :: .val (.int x) :: L) (.int x :: S) k n H Q := W_s (rfl : (pj lw).1 100 466 = some (.iload 9, 2, 0)) rfl rfl rfl
theorem w100_468 {x y : Int32} : W (pj lw) 100 468 L (.int y :: .int x :: S) k n H Q ↔ (if x = y then W (pj lw) 100 473 L S k n H Q else W (pj lw) 100 471 L S k n H Q) := W_icmp_eq (rfl : (pj lw).1 100 468 = some (.if_icmp .eq 5, 3, 0)) rfl
theorem w100_473 {x : Nat} {l0 l1 l2 : Slot} : W (pj lw) 100 473 (l0 :: l1 :: l2 :: .val (.ref x) :: L) S k n H Q ↔ W (pj lw) 100 474 (l0 :: l1 :: l2 :: .val (.ref x) :: L) (.ref x :: S) k n H Q := W_s (rfl : (pj lw).1 100 473 = some (.aload_n 3, 1, 0)) rfl rfl rfl
theorem w100_474 {x : Int32} {l0 l1 l2 l3 l4 l5 l6 l7 l8 : Slot} : W (pj lw) 100 474 (l0 :: l1 :: l2 :: l3 :: l4 :: l5 :: l6 :: l7 :: l8 :: .val (.int x) :: L) S k n H Q ↔ W (pj lw) 100 476 (l0 :: l1 :: l2 :: l3 :: l4 :: l5 :: l6 :: l7 :: l8 :: .val (.int x) :: L) (.int x :: S) k n H Q := W_s (rfl : (pj lw).1 100 474 = some (.iload 9, 2, 0)) rfl rfl rfl
theorem w100_476 {a : Nat} {x0 : Int32} : W (pj lw) 100 476 L (.int x0 :: .ref a :: S) k n H Q ↔ ((isO H a = true ∧ cs S + (2 + 11) + 13 ≤ 192) ∧ Cl (pj lw) 6 [.ref a, .int x0] H (fun v H => W (pj lw) 100 479 L (v.toList ++ S) k n H Q)) := W_inst (as := [.int x0]) (rfl : (pj lw).1 100 476 = some (.invokevirtual 39, 3, 6)) rfl rfl rfl (Nat.le_of_ble_eq_true rfl) (Nat.le_of_ble_eq_true rfl) ⟨rfl, rfl⟩
theorem w100_479 {x : Int32} : W (pj lw) 100 479 L (.int x :: S) k n H Q ↔ (if x = 0 then W (pj lw) 100 482 L S k n H Q else W (pj lw) 100 484 L S k n H Q) := W_if_ne (rfl : (pj lw).1 100 479 = some (.ifCond .ne 5, 3, 0)) rfl
theorem w100_484 {x : Nat} {l0 l1 l2 : Slot} : W (pj lw) 100 484 (l0 :: l1 :: l2 :: .val (.ref x) :: L) S k n H Q ↔ W (pj lw) 100 485 (l0 :: l1 :: l2 :: .val (.ref x) :: L) (.ref x :: S) k n H Q := W_s (rfl : (pj lw).1 100 484 = some (.aload_n 3, 1, 0)) rfl rfl rfl
theorem w100_485 {a : Nat} : W (pj lw) 100 485 L (.ref a :: S) k n H Q ↔ ((isO H a = true ∧ cs S + (1 + 11) + 0 ≤ 192) ∧ Cl (pj lw) 10 [.ref a] H (fun v H => W (pj lw) 100 488 L (v.toList ++ S) k n H Q)) := W_inst (as := []) (rfl : (pj lw).1 100 485 = some (.invokevirtual 43, 3, 10)) rfl rfl rfl (Nat.le_of_ble_eq_true rfl) (Nat.le_of_ble_eq_true rfl) ⟨rfl, rfl⟩
theorem w100_488 {x : Int64} {l0 l1 l2 l3 l4 l5 l6 l7 l8 l9 l10 l11 : Slot} : W (pj lw) 100 488 (l0 :: l1 :: l2 :: l3 :: l4 :: l5 :: l6 :: l7 :: l8 :: l9 :: l10 :: l11 :: .val (.long x) :: L) S k n H Q ↔ W (pj lw) 100 490 (l0 :: l1 :: l2 :: l3 :: l4 :: l5 :: l6 :: l7 :: l8 :: l9 :: l10 :: l11 :: .val (.long x) :: L) (.long x :: S) k n H Q := W_s (rfl : (pj lw).1 100 488 = some (.lload 12, 2, 0)) rfl rfl rfl
theorem w100_490 {x : Int64} {l0 l1 l2 l3 l4 l5 l6 l7 l8 l9 l10 l11 l12 l13 l14 l15 l16 : Slot} : W (pj lw) 100 490 (l0 :: l1 :: l2 :: l3 :: l4 :: l5 :: l6 :: l7 :: l8 :: l9 :: l10 :: l11 :: l12 :: l13 :: l14 :: l15 :: l16 :: .val (.long x) :: L) S k n H Q ↔ W (pj lw) 100 492 (l0 :: l1 :: l2 :: l3 :: l4 :: l5 :: l6 :: l7 :: l8 :: l9 :: l10 :: l11 :: l12 :: l13 :: l14 :: l15 :: l16 :: .val (.long x) :: L) (.long x :: S) k n H Q := W_s (rfl : (pj lw).1 100 490 = some (.lload 17, 2, 0)) rfl rfl rfl
theorem w100_492 {x y : Int64} : W (pj lw) 100 492 L (.long y :: .long x :: S) k n H Q ↔ W (pj lw) 100 493 L (.long (x - y) :: S) k n H Q := W_s (rfl : (pj lw).1 100 492 = some (.lsub, 1, 0)) rfl rfl rfl
theorem w100_493 {x y : Int64} : W (pj lw) 100 493 L (.long y :: .long x :: S) k n H Q ↔ W (pj lw) 100 494 L (.int (Jvm.Free.XT.cmpL x y) :: S) k n H Q := W_s (rfl : (pj lw).1 100 493 = some (.lcmp, 1, 0)) rfl rfl rfl
theorem w100_494 {x : Int32} : W (pj lw) 100 494 L (.int x :: S) k n H Q ↔ (if x = 0 then W (pj lw) 100 499 L S k n H Q else W (pj lw) 100 497 L S k n H Q) := W_if_eq (rfl : (pj lw).1 100 494 = some (.ifCond .eq 5, 3, 0)) rfl
theorem w100_499 {x : Nat} {l0 l1 l2 : Slot} : W (pj lw) 100 499 (l0 :: l1 :: l2 :: .val (.ref x) :: L) S k n H Q ↔ W (pj lw) 100 500 (l0 :: l1 :: l2 :: .val (.ref x) :: L) (.ref x :: S) k n H Q := W_s (rfl : (pj lw).1 100 499 = some (.aload_n 3, 1, 0)) rfl rfl rfl
theorem w100_500 {a : Nat} : W (pj lw) 100 500 L (.ref a :: S) k n H Q ↔ ((isO H a = true ∧ cs S + (1 + 11) + 0 ≤ 192) ∧ Cl (pj lw) 12 [.ref a] H (fun v H => W (pj lw) 100 503 L (v.toList ++ S) k n H Q)) := W_inst (as := []) (rfl : (pj lw).1 100 500 = some (.invokevirtual 47, 3, 12)) rfl rfl rfl (Nat.le_of_ble_eq_true rfl) (Nat.le_of_ble_eq_true rfl) ⟨rfl, rfl⟩
theorem w100_503 : W (pj lw) 100 503 L S k n H Q ↔ W (pj lw) 100 504 L (.int 1 :: S) k n H Q := W_s (rfl : (pj lw).1 100 503 = some (.iconst 1, 1, 0)) rfl rfl rfl
theorem w100_504 {x y : Int32} : W (pj lw) 100 504 L (.int y :: .int x :: S) k n H Q ↔ (if x = y then W (pj lw) 100 507 L S k n H Q else W (pj lw) 100 511 L S k n H Q) := W_icmp_ne (rfl : (pj lw).1 100 504 = some (.if_icmp .ne 7, 3, 0)) rfl
theorem w100_507 : W (pj lw) 100 507 L S k n H Q ↔ W (pj lw) 100 508 L (.int 1 :: S) k n H Q := W_s (rfl : (pj lw).1 100 507 = some (.iconst 1, 1, 0)) rfl rfl rfl
theorem w100_508 : W (pj lw) 100 508 L S k n H Q ↔ W (pj lw) 100 512 L S k n H Q := W_goto (rfl : (pj lw).1 100 508 = some (.goto 4, 3, 0)) rfl
theorem w100_512 {x : Int32} : W (pj lw) 100 512 L (.int x :: S) k n H Q ↔ ((x = 0 ∨ x = 1) ∧ Q (some (.int x)) H) := W_rz (rfl : (pj lw).1 100 512 = some (.ireturn, 1, 0)) rfl
theorem c102 {x0 : Int32} : Cl (pj lw) 102 [.int x0] H Q ↔ W (pj lw) 102 0 [.val (.int x0), .unset, .unset] [] 0 0 H Q := cl_unf rfl
theorem w102_0 : W (pj lw) 102 0 L S k n H Q ↔ W (pj lw) 102 2 L (.int (-1000000) :: S) k n H Q := W_s (rfl : (pj lw).1 102 0 = some (.ldc 9, 2, (-1000000))) rfl rfl rfl
theorem w102_2 {x : Int32} {l0 : Slot} : W (pj lw) 102 2 (l0 :: .unset :: L) (.int x :: S) k n H Q ↔ W (pj lw) 102 3 (l0 :: .val (.int x) :: L) S k n H Q := W_istn (rfl : (pj lw).1 102 2 = some (.istore_n 1, 1, 0)) rfl rfl
theorem w102_3 : W (pj lw) 102 3 L S k n H Q ↔ W (pj lw) 102 5 L (.int 1000000 :: S) k n H Q := W_s (rfl : (pj lw).1 102 3 = some (.ldc 10, 2, 1000000)) rfl rfl rfl
theorem w102_5 {x : Int32} {l0 l1 : Slot} : W (pj lw) 102 5 (l0 :: l1 :: .unset :: L) (.int x :: S) k n H Q ↔ W (pj lw) 102 6 (l0 :: l1 :: .val (.int x) :: L) S k n H Q := W_istn (rfl : (pj lw).1 102 5 = some (.istore_n 2, 1, 0)) rfl rfl
theorem w102_6 {x : Int32} : W (pj lw) 102 6 (.val (.int x) :: L) S k n H Q ↔ W (pj lw) 102 7 (.val (.int x) :: L) (.int x :: S) k n H Q := W_s (rfl : (pj lw).1 102 6 = some (.iload_n 0, 1, 0)) rfl rfl rfl
theorem w102_7 {x : Int32} {l0 : Slot} : W (pj lw) 102 7 (l0 :: .val (.int x) :: L) S k n H Q ↔ W (pj lw) 102 8 (l0 :: .val (.int x) :: L) (.int x :: S) k n H Q := W_s (rfl : (pj lw).1 102 7 = some (.iload_n 1, 1, 0)) rfl rfl rfl
theorem w102_8 {x y : Int32} : W (pj lw) 102 8 L (.int y :: .int x :: S) k n H Q ↔ (if x < y then W (pj lw) 102 11 L S k n H Q else W (pj lw) 102 15 L S k n H Q) := W_icmp_ge (rfl : (pj lw).1 102 8 = some (.if_icmp .ge 7, 3, 0)) rfl
theorem w102_11 {x : Int32} {l0 : Slot} : W (pj lw) 102 11 (l0 :: .val (.int x) :: L) S k n H Q ↔ W (pj lw) 102 12 (l0 :: .val (.int x) :: L) (.int x :: S) k n H Q := W_s (rfl : (pj lw).1 102 11 = some (.iload_n 1, 1, 0)) rfl rfl rfl
theorem w102_12 : W (pj lw) 102 12 L S k n H Q ↔ W (pj lw) 102 25 L S k n H Q := W_goto (rfl : (pj lw).1 102 12 = some (.goto 13, 3, 0)) rfl
theorem w102_15 {x : Int32} : W (pj lw) 102 15 (.val (.int x) :: L) S k n H Q ↔ W (pj lw) 102 16 (.val (.int x) :: L) (.int x :: S) k n H Q := W_s (rfl : (pj lw).1 102 15 = some (.iload_n 0, 1, 0)) rfl rfl rfl
theorem w102_16 {x : Int32} {l0 l1 : Slot} : W (pj lw) 102 16 (l0 :: l1 :: .val (.int x) :: L) S k n H Q ↔ W (pj lw) 102 17 (l0 :: l1 :: .val (.int x) :: L) (.int x :: S) k n H Q := W_s (rfl : (pj lw).1 102 16 = some (.iload_n 2, 1, 0)) rfl rfl rfl
theorem w102_17 {x y : Int32} : W (pj lw) 102 17 L (.int y :: .int x :: S) k n H Q ↔ (if y < x then W (pj lw) 102 20 L S k n H Q else W (pj lw) 102 24 L S k n H Q) := W_icmp_le (rfl : (pj lw).1 102 17 = some (.if_icmp .le 7, 3, 0)) rfl
theorem w102_20 {x : Int32} {l0 l1 : Slot} : W (pj lw) 102 20 (l0 :: l1 :: .val (.int x) :: L) S k n H Q ↔ W (pj lw) 102 21 (l0 :: l1 :: .val (.int x) :: L) (.int x :: S) k n H Q := W_s (rfl : (pj lw).1 102 20 = some (.iload_n 2, 1, 0)) rfl rfl rfl
theorem w102_21 : W (pj lw) 102 21 L S k n H Q ↔ W (pj lw) 102 25 L S k n H Q := W_goto (rfl : (pj lw).1 102 21 = some (.goto 4, 3, 0)) rfl
theorem w102_24 {x : Int32} : W (pj lw) 102 24 (.val (.int x) :: L) S k n H Q ↔ W (pj lw) 102 25 (.val (.int x) :: L) (.int x :: S) k n H Q := W_s (rfl : (pj lw).1 102 24 = some (.iload_n 0, 1, 0)) rfl rfl rfl
theorem w102_25 {x : Int32} : W (pj lw) 102 25 L (.int x :: S) k n H Q ↔ Q (some (.int x)) H := W_r (rfl : (pj lw).1 102 25 = some (.ireturn, 1, 0)) rfl
theorem c103 {x0 : Int32} {x1 : Int32} {x2 : Int32} {x3 : Int32} : Cl (pj lw) 103 [.int x0, .int x1, .int x2, .int x3] H Q ↔ W (pj lw) 103 0 [.val (.int x0), .val (.int x1), .val (.int x2), .val (.int x3)] [] 0 0 H Q := cl_unf rfl
theorem w103_0 {x : Int32} : W (pj lw) 103 0 (.val (.int x) :: L) S k n H Q ↔ W (pj lw) 103 1 (.val (.int x) :: L) (.int x :: S) k n H Q := W_s (rfl : (pj lw).1 103 0 = some (.iload_n 0, 1, 0)) rfl rfl rfl
theorem w103_1 {x : Int32} : W (pj lw) 103 1 L (.int x :: S) k n H Q ↔ (if x = 0 then W (pj lw) 103 4 L S k n H Q else W (pj lw) 103 8 L S k n H Q) := W_if_ne (rfl : (pj lw).1 103 1 = some (.ifCond .ne 7, 3, 0)) rfl
theorem w103_4 {x : Int32} {l0 : Slot} : W (pj lw) 103 4 (l0 :: .val (.int x) :: L) S k n H Q ↔ W (pj lw) 103 5 (l0 :: .val (.int x) :: L) (.int x :: S) k n H Q := W_s (rfl : (pj lw).1 103 4 = some (.iload_n 1, 1, 0)) rfl rfl rfl
theorem w103_5 : W (pj lw) 103 5 L S k n H Q ↔ W (pj lw) 103 18 L S k n H Q := W_goto (rfl : (pj lw).1 103 5 = some (.goto 13, 3, 0)) rfl
theorem w103_8 {x : Int32} : W (pj lw) 103 8 (.val (.int x) :: L) S k n H Q ↔ W (pj lw) 103 9 (.val (.int x) :: L) (.int x :: S) k n H Q := W_s (rfl : (pj lw).1 103 8 = some (.iload_n 0, 1, 0)) rfl rfl rfl
theorem w103_9 : W (pj lw) 103 9 L S k n H Q ↔ W (pj lw) 103 10 L (.int 1 :: S) k n H Q := W_s (rfl : (pj lw).1 103 9 = some (.iconst 1, 1, 0)) rfl rfl rfl
theorem w103_10 {x y : Int32} : W (pj lw) 103 10 L (.int y :: .int x :: S) k n H Q ↔ (if x = y then W (pj lw) 103 13 L S k n H Q else W (pj lw) 103 17 L S k n H Q) := W_icmp_ne (rfl : (pj lw).1 103 10 = some (.if_icmp .ne 7, 3, 0)) rfl
theorem w103_13 {x : Int32} {l0 l1 : Slot} : W (pj lw) 103 13 (l0 :: l1 :: .val (.int x) :: L) S k n H Q ↔ W (pj lw) 103 14 (l0 :: l1 :: .val (.int x) :: L) (.int x :: S) k n H Q := W_s (rfl : (pj lw).1 103 13 = some (.iload_n 2, 1, 0)) rfl rfl rfl
theorem w103_14 : W (pj lw) 103 14 L S k n H Q ↔ W (pj lw) 103 18 L S k n H Q := W_goto (rfl : (pj lw).1 103 14 = some (.goto 4, 3, 0)) rfl
theorem w103_17 {x : Int32} {l0 l1 l2 : Slot} : W (pj lw) 103 17 (l0 :: l1 :: l2 :: .val (.int x) :: L) S k n H Q ↔ W (pj lw) 103 18 (l0 :: l1 :: l2 :: .val (.int x) :: L) (.int x :: S) k n H Q := W_s (rfl : (pj lw).1 103 17 = some (.iload_n 3, 1, 0)) rfl rfl rfl
theorem w103_18 {x : Int32} : W (pj lw) 103 18 L (.int x :: S) k n H Q ↔ Q (some (.int x)) H := W_r (rfl : (pj lw).1 103 18 = some (.ireturn, 1, 0)) rfl
theorem c104 {x0 : Int32} {x1 : Int32} {x2 : Int32} {x3 : Int32} {x4 : Int32} : Cl (pj lw) 104 [.int x0, .int x1, .int x2, .int x3, .int x4] H Q ↔ W (pj lw) 104 0 [.val (.int x0), .val (.int x1), .val (.int x2), .val (.int x3), .val (.int x4), .unset, .unset, .unset] [] 0 0 H Q := cl_unf rfl
theorem w104_0 {x : Int32} : W (pj lw) 104 0 (.val (.int x) :: L) S k n H Q ↔ W (pj lw) 104 1 (.val (.int x) :: L) (.int x :: S) k n H Q := W_s (rfl : (pj lw).1 104 0 = some (.iload_n 0, 1, 0)) rfl rfl rfl
theorem w104_1 {x : Int32} {l0 l1 : Slot} : W (pj lw) 104 1 (l0 :: l1 :: .val (.int x) :: L) S k n H Q ↔ W (pj lw) 104 2 (l0 :: l1 :: .val (.int x) :: L) (.int x :: S) k n H Q := W_s (rfl : (pj lw).1 104 1 = some (.iload_n 2, 1, 0)) rfl rfl rfl
theorem w104_2 {x : Int32} {l0 l1 l2 : Slot} : W (pj lw) 104 2 (l0 :: l1 :: l2 :: .val (.int x) :: L) S k n H Q ↔ W (pj lw) 104 3 (l0 :: l1 :: l2 :: .val (.int x) :: L) (.int x :: S) k n H Q := W_s (rfl : (pj lw).1 104 2 = some (.iload_n 3, 1, 0)) rfl rfl rfl
theorem w104_3 {x : Int32} {l0 l1 l2 l3 : Slot} : W (pj lw) 104 3 (l0 :: l1 :: l2 :: l3 :: .val (.int x) :: L) S k n H Q ↔ W (pj lw) 104 5 (l0 :: l1 :: l2 :: l3 :: .val (.int x) :: L) (.int x :: S) k n H Q := W_s (rfl : (pj lw).1 104 3 = some (.iload 4, 2, 0)) rfl rfl rfl
theorem w104_5 {x0 : Int32} {x1 : Int32} {x2 : Int32} {x3 : Int32} : W (pj lw) 104 5 L (.int x3 :: .int x2 :: .int x1 :: .int x0 :: S) k n H Q ↔ (cs S + (4 + 11) + 0 ≤ 15 ∧ Cl (pj lw) 103 [.int x0, .int x1, .int x2, .int x3] H (fun v H => W (pj lw) 104 8 L (v.toList ++ S) k n H Q)) := W_stat (a := [.int x0, .int x1, .int x2, .int x3]) (rfl : (pj lw).1 104 5 = some (.invokestatic 11, 3, 103)) rfl rfl rfl (Nat.le_of_ble_eq_true rfl) (Nat.le_of_ble_eq_true rfl) ⟨rfl, rfl⟩
theorem w104_8 {x : Int32} {l0 l1 l2 l3 l4 : Slot} : W (pj lw) 104 8 (l0 :: l1 :: l2 :: l3 :: l4 :: .unset :: L) (.int x :: S) k n H Q ↔ W (pj lw) 104 10 (l0 :: l1 :: l2 :: l3 :: l4 :: .val (.int x) :: L) S k n H Q := W_ist (rfl : (pj lw).1 104 8 = some (.istore 5, 2, 0)) rfl rfl
theorem w104_10 {x : Int32} {l0 : Slot} : W (pj lw) 104 10 (l0 :: .val (.int x) :: L) S k n H Q ↔ W (pj lw) 104 11 (l0 :: .val (.int x) :: L) (.int x :: S) k n H Q := W_s (rfl : (pj lw).1 104 10 = some (.iload_n 1, 1, 0)) rfl rfl rfl
theorem w104_11 {x : Int32} {l0 l1 : Slot} : W (pj lw) 104 11 (l0 :: l1 :: .val (.int x) :: L) S k n H Q ↔ W (pj lw) 104 12 (l0 :: l1 :: .val (.int x) :: L) (.int x :: S) k n H Q := W_s (rfl : (pj lw).1 104 11 = some (.iload_n 2, 1, 0)) rfl rfl rfl
theorem w104_12 {x : Int32} {l0 l1 l2 : Slot} : W (pj lw) 104 12 (l0 :: l1 :: l2 :: .val (.int x) :: L) S k n H Q ↔ W (pj lw) 104 13 (l0 :: l1 :: l2 :: .val (.int x) :: L) (.int x :: S) k n H Q := W_s (rfl : (pj lw).1 104 12 = some (.iload_n 3, 1, 0)) rfl rfl rfl
theorem w104_13 {x : Int32} {l0 l1 l2 l3 : Slot} : W (pj lw) 104 13 (l0 :: l1 :: l2 :: l3 :: .val (.int x) :: L) S k n H Q ↔ W (pj lw) 104 15 (l0 :: l1 :: l2 :: l3 :: .val (.int x) :: L) (.int x :: S) k n H Q := W_s (rfl : (pj lw).1 104 13 = some (.iload 4, 2, 0)) rfl rfl rfl
theorem w104_15 {x0 : Int32} {x1 : Int32} {x2 : Int32} {x3 : Int32} : W (pj lw) 104 15 L (.int x3 :: .int x2 :: .int x1 :: .int x0 :: S) k n H Q ↔ (cs S + (4 + 11) + 0 ≤ 15 ∧ Cl (pj lw) 103 [.int x0, .int x1, .int x2, .int x3] H (fun v H => W (pj lw) 104 18 L (v.toList ++ S) k n H Q)) := W_stat (a := [.int x0, .int x1, .int x2, .int x3]) (rfl : (pj lw).1 104 15 = some (.invokestatic 11, 3, 103)) rfl rfl rfl (Nat.le_of_ble_eq_true rfl) (Nat.le_of_ble_eq_true rfl) ⟨rfl, rfl⟩
theorem w104_18 {x : Int32} {l0 l1 l2 l3 l4 l5 : Slot} : W (pj lw) 104 18 (l0 :: l1 :: l2 :: l3 :: l4 :: l5 :: .unset :: L) (.int x :: S) k n H Q ↔ W (pj lw) 104 20 (l0 :: l1 :: l2 :: l3 :: l4 :: l5 :: .val (.int x) :: L) S k n H Q := W_ist (rfl : (pj lw).1 104 18 = some (.istore 6, 2, 0)) rfl rfl
theorem w104_20 {x : Int32} {l0 l1 l2 l3 l4 : Slot} : W (pj lw) 104 20 (l0 :: l1 :: l2 :: l3 :: l4 :: .val (.int x) :: L) S k n H Q ↔ W (pj lw) 104 22 (l0 :: l1 :: l2 :: l3 :: l4 :: .val (.int x) :: L) (.int x :: S) k n H Q := W_s (rfl : (pj lw).1 104 20 = some (.iload 5, 2, 0)) rfl rfl rfl
theorem w104_22 {x : Int32} {l0 l1 l2 l3 l4 l5 : Slot} : W (pj lw) 104 22 (l0 :: l1 :: l2 :: l3 :: l4 :: l5 :: .val (.int x) :: L) S k n H Q ↔ W (pj lw) 104 24 (l0 :: l1 :: l2 :: l3 :: l4 :: l5 :: .val (.int x) :: L) (.int x :: S) k n H Q := W_s (rfl : (pj lw).1 104 22 = some (.iload 6, 2, 0)) rfl rfl rfl
theorem w104_24 {x y : Int32} : W (pj lw) 104 24 L (.int y :: .int x :: S) k n H Q ↔ (if x < y then W (pj lw) 104 39 L S k n H Q else W (pj lw) 104 27 L S k n H Q) := W_icmp_lt (rfl : (pj lw).1 104 24 = some (.if_icmp .lt 15, 3, 0)) rfl
theorem w104_27 {x : Int32} {l0 l1 l2 l3 l4 : Slot} : W (pj lw) 104 27 (l0 :: l1 :: l2 :: l3 :: l4 :: .val (.int x) :: L) S k n H Q ↔ W (pj lw) 104 29 (l0 :: l1 :: l2 :: l3 :: l4 :: .val (.int x) :: L) (.int x :: S) k n H Q := W_s (rfl : (pj lw).1 104 27 = some (.iload 5, 2, 0)) rfl rfl rfl
theorem w104_29 {x : Int32} {l0 l1 l2 l3 l4 l5 : Slot} : W (pj lw) 104 29 (l0 :: l1 :: l2 :: l3 :: l4 :: l5 :: .val (.int x) :: L) S k n H Q ↔ W (pj lw) 104 31 (l0 :: l1 :: l2 :: l3 :: l4 :: l5 :: .val (.int x) :: L) (.int x :: S) k n H Q := W_s (rfl : (pj lw).1 104 29 = some (.iload 6, 2, 0)) rfl rfl rfl
theorem w104_31 {x y : Int32} : W (pj lw) 104 31 L (.int y :: .int x :: S) k n H Q ↔ (if x = y then W (pj lw) 104 34 L S k n H Q else W (pj lw) 104 43 L S k n H Q) := W_icmp_ne (rfl : (pj lw).1 104 31 = some (.if_icmp .ne 12, 3, 0)) rfl
theorem w104_34 {x : Int32} : W (pj lw) 104 34 (.val (.int x) :: L) S k n H Q ↔ W (pj lw) 104 35 (.val (.int x) :: L) (.int x :: S) k n H Q := W_s (rfl : (pj lw).1 104 34 = some (.iload_n 0, 1, 0)) rfl rfl rfl
theorem w104_35 {x : Int32} {l0 : Slot} : W (pj lw) 104 35 (l0 :: .val (.int x) :: L) S k n H Q ↔ W (pj lw) 104 36 (l0 :: .val (.int x) :: L) (.int x :: S) k n H Q := W_s (rfl : (pj lw).1 104 35 = some (.iload_n 1, 1, 0)) rfl rfl rfl
theorem w104_36 {x y : Int32} : W (pj lw) 104 36 L (.int y :: .int x :: S) k n H Q ↔ (if x < y then W (pj lw) 104 39 L S k n H Q else W (pj lw) 104 43 L S k n H Q) := W_icmp_ge (rfl : (pj lw).1 104 36 = some (.if_icmp .ge 7, 3, 0)) rfl
theorem w104_39 : W (pj lw) 104 39 L S k n H Q ↔ W (pj lw) 104 40 L (.int 1 :: S) k n H Q := W_s (rfl : (pj lw).1 104 39 = some (.iconst 1, 1, 0)) rfl rfl rfl
theorem w104_40 : W (pj lw) 104 40 L S k n H Q ↔ W (pj lw) 104 44 L S k n H Q := W_goto (rfl : (pj lw).1 104 40 = some (.goto 4, 3, 0)) rfl
theorem w104_43 : W (pj lw) 104 43 L S k n H Q ↔ W (pj lw) 104 44 L (.int 0 :: S) k n H Q := W_s (rfl : (pj lw).1 104 43 = some (.iconst 0, 1, 0)) rfl rfl rfl
theorem w104_44 {x : Int32} {l0 l1 l2 l3 l4 l5 l6 : Slot} : W (pj lw) 104 44 (l0 :: l1 :: l2 :: l3 :: l4 :: l5 :: l6 :: .unset :: L) (.int x :: S) k n H Q ↔ W (pj lw) 104 46 (l0 :: l1 :: l2 :: l3 :: l4 :: l5 :: l6 :: .val (.int x) :: L) S k n H Q := W_ist (rfl : (pj lw).1 104 44 = some (.istore 7, 2, 0)) rfl rfl
theorem w104_46 {x : Int32} {l0 l1 l2 l3 l4 l5 l6 : Slot} : W (pj lw) 104 46 (l0 :: l1 :: l2 :: l3 :: l4 :: l5 :: l6 :: .val (.int x) :: L) S k n H Q ↔ W (pj lw) 104 48 (l0 :: l1 :: l2 :: l3 :: l4 :: l5 :: l6 :: .val (.int x) :: L) (.int x :: S) k n H Q := W_s (rfl : (pj lw).1 104 46 = some (.iload 7, 2, 0)) rfl rfl rfl
theorem w104_48 {x : Int32} : W (pj lw) 104 48 L (.int x :: S) k n H Q ↔ (if x = 0 then W (pj lw) 104 55 L S k n H Q else W (pj lw) 104 51 L S k n H Q) := W_if_eq (rfl : (pj lw).1 104 48 = some (.ifCond .eq 7, 3, 0)) rfl
theorem w104_51 {x : Int32} {l0 : Slot} : W (pj lw) 104 51 (l0 :: .val (.int x) :: L) S k n H Q ↔ W (pj lw) 104 52 (l0 :: .val (.int x) :: L) (.int x :: S) k n H Q := W_s (rfl : (pj lw).1 104 51 = some (.iload_n 1, 1, 0)) rfl rfl rfl
theorem w104_52 : W (pj lw) 104 52 L S k n H Q ↔ W (pj lw) 104 56 L S k n H Q := W_goto (rfl : (pj lw).1 104 52 = some (.goto 4, 3, 0)) rfl
theorem w104_55 {x : Int32} : W (pj lw) 104 55 (.val (.int x) :: L) S k n H Q ↔ W (pj lw) 104 56 (.val (.int x) :: L) (.int x :: S) k n H Q := W_s (rfl : (pj lw).1 104 55 = some (.iload_n 0, 1, 0)) rfl rfl rfl
theorem w104_56 {x : Int32} : W (pj lw) 104 56 L (.int x :: S) k n H Q ↔ Q (some (.int x)) H := W_r (rfl : (pj lw).1 104 56 = some (.ireturn, 1, 0)) rfl
end LPc
section X5
variable {H : AH} {p : Nat} {s s' s1 s2 : St} {Q : Option Value → AH → Prop} {k n i j kk nn : Nat} {x y z h01 l12 l02 w0 w1 w2 i0 i1 i2 : Int32}
def wtf (i w0 w1 w2 : Int32) : Int32 := if i = 0 then w0 else if i = 1 then w1 else w2
def ltr (i j w0 w1 w2 : Int32) : Int32 := if wtf i w0 w1 w2 < wtf j w0 w1 w2 ∨ (wtf i w0 w1 w2 = wtf j w0 w1 w2 ∧ i < j) then j else i
theorem s102 : Cl (pj lw) 102 [.int x] H Q ↔ Q (some (.int (cl (-1000000) 1000000 x))) H := by
  rw [c102]; unfold cl
  by_cases h1 : x < -1000000
  · simp +decide only [w102_0, w102_2, w102_3, w102_5, w102_6, w102_7, w102_8, w102_11, w102_12, w102_25, ↓reduceIte, h1]
  · by_cases h2 : 1000000 < x
    · simp +decide only [w102_0, w102_2, w102_3, w102_5, w102_6, w102_7, w102_8, w102_15, w102_16, w102_17, w102_20, w102_21, w102_25, ↓reduceIte, h1, h2]
    · simp +decide only [w102_0, w102_2, w102_3, w102_5, w102_6, w102_7, w102_8, w102_15, w102_16, w102_17, w102_24, w102_25, ↓reduceIte, h1, h2]
theorem s103 : Cl (pj lw) 103 [.int x, .int w0, .int w1, .int w2] H Q ↔ Q (some (.int (wtf x w0 w1 w2))) H := by
  rw [c103]; unfold wtf
  by_cases h1 : x = 0
  · simp +decide only [w103_0, w103_1, w103_4, w103_5, w103_18, ↓reduceIte, h1]
  · by_cases h2 : x = 1
    · simp +decide only [w103_0, w103_1, w103_8, w103_9, w103_10, w103_13, w103_14, w103_18, ↓reduceIte, h2]
    · simp +decide only [w103_0, w103_1, w103_8, w103_9, w103_10, w103_17, w103_18, ↓reduceIte, h1, h2]
theorem s104 : Cl (pj lw) 104 [.int x, .int y, .int w0, .int w1, .int w2] H Q ↔ Q (some (.int (ltr x y w0 w1 w2))) H := by
  rw [c104]; unfold ltr
  by_cases h1 : wtf x w0 w1 w2 < wtf y w0 w1 w2
  · simp +decide only [w104_0, w104_1, w104_2, w104_3, w104_5, w104_8, w104_10, w104_11, w104_12, w104_13, w104_15, w104_18, w104_20, w104_22, w104_24, w104_39, w104_40, w104_44, w104_46, w104_48, w104_51, w104_52, w104_56, Option.toList_some, List.cons_append, List.nil_append, true_and, true_or, ↓reduceIte, s103, h1]
  · by_cases h2 : wtf x w0 w1 w2 = wtf y w0 w1 w2
    · by_cases h3 : x < y
      · simp +decide only [w104_0, w104_1, w104_2, w104_3, w104_5, w104_8, w104_10, w104_11, w104_12, w104_13, w104_15, w104_18, w104_20, w104_22, w104_24, w104_27, w104_29, w104_31, w104_34, w104_35, w104_36, w104_39, w104_40, w104_44, w104_46, w104_48, w104_51, w104_52, w104_56, Option.toList_some, List.cons_append, List.nil_append, true_and, and_true, or_true, ↓reduceIte, s103, h1, eq_true h2, h3]
      · simp +decide only [w104_0, w104_1, w104_2, w104_3, w104_5, w104_8, w104_10, w104_11, w104_12, w104_13, w104_15, w104_18, w104_20, w104_22, w104_24, w104_27, w104_29, w104_31, w104_34, w104_35, w104_36, w104_43, w104_44, w104_46, w104_48, w104_55, w104_56, Option.toList_some, List.cons_append, List.nil_append, true_and, and_false, or_false, ↓reduceIte, s103, h1, eq_true h2, h3]
    · simp +decide only [w104_0, w104_1, w104_2, w104_3, w104_5, w104_8, w104_10, w104_11, w104_12, w104_13, w104_15, w104_18, w104_20, w104_22, w104_24, w104_27, w104_29, w104_31, w104_43, w104_44, w104_46, w104_48, w104_55, w104_56, Option.toList_some, List.cons_append, List.nil_append, true_and, false_and, or_false, ↓reduceIte, s103, h1, h2]
theorem ltr_c (h : x < y) : ltr x y w0 w1 w2 = if wtf y w0 w1 w2 < wtf x w0 w1 w2 then x else y := by
  unfold ltr
  simp only [lt32, eq32] at *
  by_cases q : (wtf y w0 w1 w2).toInt < (wtf x w0 w1 w2).toInt
  · rw [if_pos q, if_neg (by omega)]
  · rw [if_neg q, if_pos (by omega)]
theorem L0 {x y z : Int64} : (0 + (y + z) : Int64) = x + y + z - x := by
  have : x + y + z = (y + z) + x := by ac_rfl
  rw [this, Int64.add_sub_cancel, Int64.zero_add]
theorem L1 {x y z : Int64} : (x + (0 + z) : Int64) = x + y + z - y := by
  have : x + y + z = (x + z) + y := by ac_rfl
  rw [this, Int64.add_sub_cancel, Int64.zero_add]
theorem L2 {x y z : Int64} : (x + (y + 0) : Int64) = x + y + z - z := by
  rw [Int64.add_sub_cancel, Int64.add_zero]
set_option maxRecDepth 100000 in
set_option maxHeartbeats 1000000 in
theorem rest0 (G : GD s i j 0 w0 w1 w2) (h15 : sI s 15 = 2) (h16 : sI s 16 = 0) (hl : l12 = Int32.ofNat j) (hq : ∀ s', Q (some (.int 1)) (ob H p s')) :
    W (pj lw) 100 148 [.val (.int i0), .val (.int i1), .val (.int i2), .val (.ref p), .val (.int (-1)), .val (.int w0), .val (.int w1), .val (.int w2), .val (.int h01), .val (.int 0), .val (.int l12), .val (.int l02), .val (.long (w0.toInt64 + w1.toInt64 + w2.toInt64)), .second, .val (.long w0.toInt64), .second, .unset, .unset, .unset] [] kk nn (ob H p s) Q := by
  have t0 : tr s 0 = false := G.tr (X := 0) (by decide)
  have t1 : tr s 1 = true := G.tr (X := 1) (by decide)
  have t2 : tr s 2 = true := G.tr (X := 2) (by decide)
  have c1 : sI s 13 = 2 := G.cw.1
  have c2 : sJ s 14 = w0.toInt64 + w1.toInt64 + w2.toInt64 - w0.toInt64 := G.cw.2.trans L0
  have n0 : sI s 0 = 3 := G.2.2.1.1
  simp +decide only [w100_148, w100_149, w100_152, w100_154, w100_155, w100_163, w100_164, w100_169, w100_170, w100_173, w100_175, w100_176, w100_184, w100_186, w100_191, w100_192, w100_193, w100_196, w100_198, w100_205, w100_206, w100_211, w100_212, w100_213, w100_216, w100_218, w100_219, w100_222, w100_223, w100_227, w100_232, w100_233, w100_234, w100_237, w100_239, w100_240, w100_243, w100_244, w100_248, w100_253, w100_254, w100_257, w100_259, w100_261, w100_262, w100_263, w100_268, w100_269, w100_272, w100_273, w100_278, w100_279, w100_280, w100_281, isO_put, cmpL_eq, Option.toList_some, List.cons_append, List.nil_append, true_and, and_true, ↓reduceIte, Nat.reduceSub, Int32.reduceSub, Int64.reduceSub, g15, g16, c16, w16_0, w16_1, w16_4, c17, w17_0, w17_1, w17_4, t6, t10, t12, t0, t1, t2, c1, c2, n0, h15, h16, bz]
  refine q14 (X := 0) G (by decide) G.2.2.1.2.1.1 G.2.2.1.2.1.2 fun s1 g1 => ?_
  have G1 := g1.gd G
  simp +decide only [w100_284, w100_286, w100_293, w100_295, w100_300, w100_301, w100_302, w100_303, isO_put, Option.toList_some, List.cons_append, List.nil_append, true_and, and_true, ↓reduceIte, hl]
  refine q14 (X := 1) G1 (by decide) G1.2.2.1.2.2.1.1 G1.2.2.1.2.2.1.2 fun s2 g2 => ?_
  have G2 := g2.gd G1
  simp +decide only [w100_306, w100_308, w100_309, w100_312, w100_313, w100_318, w100_323, w100_324, w100_325, w100_326, isO_put, Option.toList_some, List.cons_append, List.nil_append, true_and, and_true, ↓reduceIte]
  refine q14 (X := 2) G2 (by decide) G2.2.2.1.2.2.2.1.1 G2.2.2.1.2.2.2.1.2 fun s3 g3 => ?_
  have G3 := g3.gd G2
  simp +decide only [w100_329, w100_331, w100_332, w100_335, w100_336, w100_341, w100_346, w100_347, w100_348, isO_put, Option.toList_some, List.cons_append, List.nil_append, true_and, and_true, ↓reduceIte]
  refine q15 (X := 0) G3 (by decide) fun s4 g4 => ?_
  have G4 := g4.gd G3
  simp +decide only [w100_351, w100_353, w100_361, w100_363, w100_368, w100_369, w100_370, isO_put, Option.toList_some, List.cons_append, List.nil_append, true_and, and_true, ↓reduceIte]
  refine q15 (X := 1) G4 (by decide) fun s5 g5 => ?_
  have G5 := g5.gd G4
  simp +decide only [w100_373, w100_375, w100_376, w100_379, w100_381, w100_386, w100_391, w100_392, w100_393, isO_put, Option.toList_some, List.cons_append, List.nil_append, true_and, and_true, ↓reduceIte]
  refine q15 (X := 2) G5 (by decide) fun s6 g6 => ?_
  have G6 := g6.gd G5
  have e1 : wtf 1 w0 w1 w2 = w1 := rfl
  simp +decide only [w100_396, w100_398, w100_399, w100_402, w100_404, w100_409, w100_414, w100_416, w100_419, w100_420, w100_424, w100_426, w100_428, w100_430, w100_432, w100_434, w100_437, w100_438uu, w100_440, w100_441, w100_443, isO_put, Option.toList_some, List.cons_append, List.nil_append, true_and, and_true, ↓reduceIte, s103, e1]
  obtain ⟨m1, m2, m3, m4, m5, m6, m7⟩ := G6.rm (X := 1) (by decide) (by decide)
  refine t3 G6.1.1.1 G6.1.1.2.1 G6.1.1.2.2.1 ?_
  rw [show pr s6 1 = true from m1]
  have m7' : sJ (rmS s6 1) 14 = w0.toInt64 + w1.toInt64 + w2.toInt64 - w1.toInt64 := m7.trans L1
  have m2' : sI (rmS s6 1) 16 = 1 := m2
  have m3' : sI (rmS s6 1) 15 = 0 := m3
  have m4' : tr (rmS s6 1) 0 = true := m4
  have m5' : sI (rmS s6 1) 0 = 3 := m5
  have m6' : sI (rmS s6 1) 13 = 2 := m6
  simp +decide only [w100_446, w100_451, w100_452, w100_455, w100_457, w100_462, w100_463, w100_466, w100_468, w100_473, w100_474, w100_476, w100_479, w100_484, w100_485, w100_488, w100_490, w100_492, w100_493, w100_494, w100_499, w100_500, w100_503, w100_504, w100_507, w100_508, w100_512, isO_put, cmpL_eq, Option.toList_some, List.cons_append, List.nil_append, true_and, and_true, ↓reduceIte, Nat.reduceSub, Int32.reduceSub, Int64.reduceSub, g15, g16, c16, w16_0, w16_1, w16_4, c17, w17_0, w17_1, w17_4, t6, t10, t12, m2', m3', m4', m5', m6', m7', bz]
  exact hq _

set_option maxRecDepth 100000 in
set_option maxHeartbeats 1000000 in
theorem rest1 (G : GD s i j 1 w0 w1 w2) (h15 : sI s 15 = 2) (h16 : sI s 16 = 1) (hl : l02 = Int32.ofNat j) (hq : ∀ s', Q (some (.int 1)) (ob H p s')) :
    W (pj lw) 100 148 [.val (.int i0), .val (.int i1), .val (.int i2), .val (.ref p), .val (.int (-1)), .val (.int w0), .val (.int w1), .val (.int w2), .val (.int h01), .val (.int 1), .val (.int l12), .val (.int l02), .val (.long (w0.toInt64 + w1.toInt64 + w2.toInt64)), .second, .val (.long w1.toInt64), .second, .unset, .unset, .unset] [] kk nn (ob H p s) Q := by
  have t0 : tr s 0 = true := G.tr (X := 0) (by decide)
  have t1 : tr s 1 = false := G.tr (X := 1) (by decide)
  have t2 : tr s 2 = true := G.tr (X := 2) (by decide)
  have c1 : sI s 13 = 2 := G.cw.1
  have c2 : sJ s 14 = w0.toInt64 + w1.toInt64 + w2.toInt64 - w1.toInt64 := G.cw.2.trans L1
  have n0 : sI s 0 = 3 := G.2.2.1.1
  simp +decide only [w100_148, w100_149, w100_152, w100_154, w100_155, w100_163, w100_164, w100_169, w100_170, w100_173, w100_175, w100_176, w100_184, w100_186, w100_191, w100_192, w100_193, w100_196, w100_198, w100_201, w100_202, w100_206, w100_211, w100_212, w100_213, w100_216, w100_218, w100_219, w100_226, w100_227, w100_232, w100_233, w100_234, w100_237, w100_239, w100_240, w100_243, w100_244, w100_248, w100_253, w100_254, w100_257, w100_259, w100_261, w100_262, w100_263, w100_268, w100_269, w100_272, w100_273, w100_278, w100_279, w100_280, w100_281, isO_put, cmpL_eq, Option.toList_some, List.cons_append, List.nil_append, true_and, and_true, ↓reduceIte, Nat.reduceSub, Int32.reduceSub, Int64.reduceSub, g15, g16, c16, w16_0, w16_1, w16_4, c17, w17_0, w17_1, w17_4, t6, t10, t12, t0, t1, t2, c1, c2, n0, h15, h16, bz]
  refine q14 (X := 0) G (by decide) G.2.2.1.2.1.1 G.2.2.1.2.1.2 fun s1 g1 => ?_
  have G1 := g1.gd G
  simp +decide only [w100_284, w100_286, w100_289, w100_290, w100_295, w100_300, w100_301, w100_302, w100_303, isO_put, Option.toList_some, List.cons_append, List.nil_append, true_and, and_true, ↓reduceIte]
  refine q14 (X := 1) G1 (by decide) G1.2.2.1.2.2.1.1 G1.2.2.1.2.2.1.2 fun s2 g2 => ?_
  have G2 := g2.gd G1
  simp +decide only [w100_306, w100_308, w100_309, w100_316, w100_318, w100_323, w100_324, w100_325, w100_326, isO_put, Option.toList_some, List.cons_append, List.nil_append, true_and, and_true, ↓reduceIte, hl]
  refine q14 (X := 2) G2 (by decide) G2.2.2.1.2.2.2.1.1 G2.2.2.1.2.2.2.1.2 fun s3 g3 => ?_
  have G3 := g3.gd G2
  simp +decide only [w100_329, w100_331, w100_332, w100_335, w100_336, w100_341, w100_346, w100_347, w100_348, isO_put, Option.toList_some, List.cons_append, List.nil_append, true_and, and_true, ↓reduceIte]
  refine q15 (X := 0) G3 (by decide) fun s4 g4 => ?_
  have G4 := g4.gd G3
  simp +decide only [w100_351, w100_353, w100_356, w100_358, w100_363, w100_368, w100_369, w100_370, isO_put, Option.toList_some, List.cons_append, List.nil_append, true_and, and_true, ↓reduceIte]
  refine q15 (X := 1) G4 (by decide) fun s5 g5 => ?_
  have G5 := g5.gd G4
  simp +decide only [w100_373, w100_375, w100_376, w100_384, w100_386, w100_391, w100_392, w100_393, isO_put, Option.toList_some, List.cons_append, List.nil_append, true_and, and_true, ↓reduceIte]
  refine q15 (X := 2) G5 (by decide) fun s6 g6 => ?_
  have G6 := g6.gd G5
  have e0 : wtf 0 w0 w1 w2 = w0 := rfl
  simp +decide only [w100_396, w100_398, w100_399, w100_402, w100_404, w100_409, w100_414, w100_416, w100_423, w100_424, w100_426, w100_428, w100_430, w100_432, w100_434, w100_437, w100_438uu, w100_440, w100_441, w100_443, isO_put, Option.toList_some, List.cons_append, List.nil_append, true_and, and_true, ↓reduceIte, s103, e0]
  obtain ⟨m1, m2, m3, m4, m5, m6, m7⟩ := G6.rm (X := 0) (by decide) (by decide)
  refine t3 G6.1.1.1 G6.1.1.2.1 G6.1.1.2.2.1 ?_
  rw [show pr s6 0 = true from m1]
  have m7' : sJ (rmS s6 0) 14 = w0.toInt64 + w1.toInt64 + w2.toInt64 - w0.toInt64 := m7.trans L0
  have m2' : sI (rmS s6 0) 16 = 0 := m2
  have m3' : sI (rmS s6 0) 15 = 1 := m3
  have m4' : tr (rmS s6 0) 1 = true := m4
  have m5' : sI (rmS s6 0) 0 = 3 := m5
  have m6' : sI (rmS s6 0) 13 = 2 := m6
  simp +decide only [w100_446, w100_451, w100_452, w100_455, w100_457, w100_462, w100_463, w100_466, w100_468, w100_473, w100_474, w100_476, w100_479, w100_484, w100_485, w100_488, w100_490, w100_492, w100_493, w100_494, w100_499, w100_500, w100_503, w100_504, w100_507, w100_508, w100_512, isO_put, cmpL_eq, Option.toList_some, List.cons_append, List.nil_append, true_and, and_true, ↓reduceIte, Nat.reduceSub, Int32.reduceSub, Int64.reduceSub, g15, g16, c16, w16_0, w16_1, w16_4, c17, w17_0, w17_1, w17_4, t6, t10, t12, m2', m3', m4', m5', m6', m7', bz]
  exact hq _

set_option maxRecDepth 100000 in
set_option maxHeartbeats 1000000 in
theorem rest2 (G : GD s i j 2 w0 w1 w2) (h15 : sI s 15 = -1) (h16 : sI s 16 = -1) (hl : h01 = Int32.ofNat j) (hq : ∀ s', Q (some (.int 1)) (ob H p s')) :
    W (pj lw) 100 148 [.val (.int i0), .val (.int i1), .val (.int i2), .val (.ref p), .val (.int (-1)), .val (.int w0), .val (.int w1), .val (.int w2), .val (.int h01), .val (.int 2), .val (.int l12), .val (.int l02), .val (.long (w0.toInt64 + w1.toInt64 + w2.toInt64)), .second, .val (.long w2.toInt64), .second, .unset, .unset, .unset] [] kk nn (ob H p s) Q := by
  have t0 : tr s 0 = true := G.tr (X := 0) (by decide)
  have t1 : tr s 1 = true := G.tr (X := 1) (by decide)
  have t2 : tr s 2 = false := G.tr (X := 2) (by decide)
  have c1 : sI s 13 = 2 := G.cw.1
  have c2 : sJ s 14 = w0.toInt64 + w1.toInt64 + w2.toInt64 - w2.toInt64 := G.cw.2.trans L2
  have n0 : sI s 0 = 3 := G.2.2.1.1
  simp +decide only [w100_148, w100_149, w100_152, w100_154, w100_155, w100_158, w100_160, w100_164, w100_169, w100_170, w100_173, w100_175, w100_176, w100_179, w100_181, w100_186, w100_191, w100_192, w100_193, w100_196, w100_198, w100_201, w100_202, w100_206, w100_211, w100_212, w100_213, w100_216, w100_218, w100_219, w100_222, w100_223, w100_227, w100_232, w100_233, w100_234, w100_237, w100_239, w100_240, w100_247, w100_248, w100_253, w100_254, w100_257, w100_259, w100_261, w100_262, w100_263, w100_268, w100_269, w100_272, w100_273, w100_278, w100_279, w100_280, w100_281, isO_put, cmpL_eq, Option.toList_some, List.cons_append, List.nil_append, true_and, and_true, ↓reduceIte, Nat.reduceSub, Int32.reduceSub, Int64.reduceSub, g15, g16, c16, w16_0, w16_1, w16_4, c17, w17_0, w17_1, w17_4, t6, t10, t12, t0, t1, t2, c1, c2, n0, h15, h16, bz]
  refine q14 (X := 0) G (by decide) G.2.2.1.2.1.1 G.2.2.1.2.1.2 fun s1 g1 => ?_
  have G1 := g1.gd G
  simp +decide only [w100_284, w100_286, w100_289, w100_290, w100_295, w100_300, w100_301, w100_302, w100_303, isO_put, Option.toList_some, List.cons_append, List.nil_append, true_and, and_true, ↓reduceIte]
  refine q14 (X := 1) G1 (by decide) G1.2.2.1.2.2.1.1 G1.2.2.1.2.2.1.2 fun s2 g2 => ?_
  have G2 := g2.gd G1
  simp +decide only [w100_306, w100_308, w100_309, w100_312, w100_313, w100_318, w100_323, w100_324, w100_325, w100_326, isO_put, Option.toList_some, List.cons_append, List.nil_append, true_and, and_true, ↓reduceIte]
  refine q14 (X := 2) G2 (by decide) G2.2.2.1.2.2.2.1.1 G2.2.2.1.2.2.2.1.2 fun s3 g3 => ?_
  have G3 := g3.gd G2
  simp +decide only [w100_329, w100_331, w100_332, w100_339, w100_341, w100_346, w100_347, w100_348, isO_put, Option.toList_some, List.cons_append, List.nil_append, true_and, and_true, ↓reduceIte, hl]
  refine q15 (X := 0) G3 (by decide) fun s4 g4 => ?_
  have G4 := g4.gd G3
  simp +decide only [w100_351, w100_353, w100_356, w100_358, w100_363, w100_368, w100_369, w100_370, isO_put, Option.toList_some, List.cons_append, List.nil_append, true_and, and_true, ↓reduceIte]
  refine q15 (X := 1) G4 (by decide) fun s5 g5 => ?_
  have G5 := g5.gd G4
  simp +decide only [w100_373, w100_375, w100_376, w100_379, w100_381, w100_386, w100_391, w100_392, w100_393, isO_put, Option.toList_some, List.cons_append, List.nil_append, true_and, and_true, ↓reduceIte]
  refine q15 (X := 2) G5 (by decide) fun s6 g6 => ?_
  have G6 := g6.gd G5
  have e0 : wtf 0 w0 w1 w2 = w0 := rfl
  simp +decide only [w100_396, w100_398, w100_399, w100_407, w100_409, w100_414, w100_416, w100_423, w100_424, w100_426, w100_428, w100_430, w100_432, w100_434, w100_437, w100_438uu, w100_440, w100_441, w100_443, isO_put, Option.toList_some, List.cons_append, List.nil_append, true_and, and_true, ↓reduceIte, s103, e0]
  obtain ⟨m1, m2, m3, m4, m5, m6, m7⟩ := G6.rm (X := 0) (by decide) (by decide)
  refine t3 G6.1.1.1 G6.1.1.2.1 G6.1.1.2.2.1 ?_
  rw [show pr s6 0 = true from m1]
  have m7' : sJ (rmS s6 0) 14 = w0.toInt64 + w1.toInt64 + w2.toInt64 - w0.toInt64 := m7.trans L0
  have m2' : sI (rmS s6 0) 16 = 0 := m2
  have m3' : sI (rmS s6 0) 15 = 2 := m3
  have m4' : tr (rmS s6 0) 2 = true := m4
  have m5' : sI (rmS s6 0) 0 = 3 := m5
  have m6' : sI (rmS s6 0) 13 = 2 := m6
  simp +decide only [w100_446, w100_451, w100_452, w100_455, w100_457, w100_462, w100_463, w100_466, w100_468, w100_473, w100_474, w100_476, w100_479, w100_484, w100_485, w100_488, w100_490, w100_492, w100_493, w100_494, w100_499, w100_500, w100_503, w100_504, w100_507, w100_508, w100_512, isO_put, cmpL_eq, Option.toList_some, List.cons_append, List.nil_append, true_and, and_true, ↓reduceIte, Nat.reduceSub, Int32.reduceSub, Int64.reduceSub, g15, g16, c16, w16_0, w16_1, w16_4, c17, w17_0, w17_1, w17_4, t6, t10, t12, m2', m3', m4', m5', m6', m7', bz]
  exact hq _

theorem gR_le {a b : Nat} (hab : a < b) (hb : b < 3) (h : ¬ sA s 3 b < sA s 3 a) : gR s a < gR s b := by
  unfold gR; rw [lt32] at h
  have := Int32.le_toInt (sA s 3 a)
  have := Int32.le_toInt (sA s 3 b)
  omega
theorem gR_gt {a b : Nat} (hb : b < 3) (h : sA s 3 b < sA s 3 a) : gR s b < gR s a := by
  unfold gR; rw [lt32] at h
  have := Int32.le_toInt (sA s 3 a)
  have := Int32.le_toInt (sA s 3 b)
  omega
set_option maxRecDepth 100000 in
set_option maxHeartbeats 1000000 in
theorem law_ok (i0 i1 i2 : Int32) (N : Nat) : Cl (pj lw) 100 [.int i0, .int i1, .int i2] (H0 N) (fun v _ => v = some (.int 1)) := by
  rw [c100]
  have hv : ∀ {s : St} {u : Int32}, sI s 0 = 3 → (0 ≤ u.toInt ∧ u.toInt < 3) → vv s u = true := fun {s u} h1 h2 => vv_t (by rw [h1]; exact h2) (by rw [h1]; decide)
  obtain ⟨a1, a2, a3, a4, a5, -⟩ := Iv_ini (a := 3) (by decide)
  have n0 : sI (ini0 3) 0 = 3 := by rw [a5]; rfl
  obtain ⟨b1, b2, b3, b4, -⟩ := S1_ok (a := i0)
  obtain ⟨d1, d2, d3, d4, -⟩ := S2_ok (a := i0) (b := i1)
  obtain ⟨f1, f2, f3, f4⟩ := S3_ok (a := i0) (b := i1) (c := i2)
  have S15 := fun i j k => S3_15 (a := i0) (b := i1) (c := i2) (i := i) (j := j) (k := k)
  simp +decide only [w100_0, w100_3, w100_4, w100_5, w100_8, w100_9, w100_10, w100_12, w100_13, w100_16, w100_18, w100_19, w100_22, w100_24, w100_25, w100_28, w100_30, w100_31, w100_32, w100_34, w100_36, w100_38, w100_41, w100_43, w100_45, w100_46, w100_48, w100_50, w100_52, w100_55, w100_57, w100_58, w100_59, w100_61, w100_63, w100_65, w100_68, w100_70, w100_71, w100_72, w100_74, w100_76, w100_78, w100_81, w100_83, w100_85, w100_86, w100_88, w100_89, w100_90, w100_92, w100_93, w100_94uu, w100_96, w100_98, w100_100, w100_102, w100_104, w100_107, w100_108uu, w100_110, w100_111, w100_112, w100_113, w100_114, isO_put, cs_nil, cs_ref, Option.toList_some, Option.toList_none, List.cons_append, List.nil_append, true_and, and_true, Nat.reduceAdd, Nat.reduceLeDiff, Int32.reduceAdd, Int64.reduceAdd, Nat.add_zero, Nat.zero_add, mkO_ob, t1, H0, s102, s103, s104]
  refine t2 (f := 0) (by decide) (a2 0) (fun i hi => absurd hi (by omega)) (hv n0 (by decide)) (hv n0 (by decide)) (by decide) a1.1 a1.2.1 a1.2.2.1 ?_
  rw [show adS (ini0 3) 0 0 1 i0 = S1 i0 from rfl]
  simp +decide only [w100_117, w100_122, w100_123, w100_124, w100_125, w100_126, isO_put, Option.toList_some, List.cons_append, List.nil_append, true_and, and_true, ↓reduceIte]
  refine t2 (f := 1) (by decide) (by rw [b4]; rfl) (fun i hi => by rw [b4, if_pos (by omega)]; decide) (hv b3 (by decide)) (hv b3 (by decide)) (by decide) b1.1.1 b1.1.2.1 b1.1.2.2.1 ?_
  rw [show adS (S1 i0) 1 1 2 i1 = S2 i0 i1 from rfl]
  simp +decide only [w100_129, w100_130, w100_135, w100_136, w100_137, w100_138, w100_139, isO_put, Option.toList_some, List.cons_append, List.nil_append, true_and, and_true, ↓reduceIte]
  refine t2 (f := 2) (by decide) (by rw [d4]; rfl) (fun i hi => by rw [d4, if_pos (by omega)]; decide) (hv d3 (by decide)) (hv d3 (by decide)) (by decide) d1.1.1 d1.1.2.1 d1.1.2.2.1 ?_
  rw [show adS (S2 i0 i1) 2 0 2 i2 = S3 i0 i1 i2 from rfl]
  simp +decide only [w100_142, w100_143, Option.toList_some, List.cons_append, List.nil_append, ↓reduceIte]
  generalize cl (-1000000) 1000000 i0 = w0 at *
  generalize cl (-1000000) 1000000 i1 = w1 at *
  generalize cl (-1000000) 1000000 i2 = w2 at *
  generalize S3 i0 i1 i2 = s at *
  obtain ⟨-, -, -, -, x0, x1, x2⟩ := id f3
  have g01 : ¬ w1 < w0 → gR s 0 < gR s 1 := fun h => gR_le (by decide) (by decide) (by rw [x0, x1]; exact h)
  have g12 : ¬ w2 < w1 → gR s 1 < gR s 2 := fun h => gR_le (by decide) (by decide) (by rw [x1, x2]; exact h)
  have g02 : ¬ w2 < w0 → gR s 0 < gR s 2 := fun h => gR_le (by decide) (by decide) (by rw [x0, x2]; exact h)
  have g10 : w1 < w0 → gR s 1 < gR s 0 := fun h => gR_gt (by decide) (by rw [x0, x1]; exact h)
  have g21 : w2 < w1 → gR s 2 < gR s 1 := fun h => gR_gt (by decide) (by rw [x1, x2]; exact h)
  have g20 : w2 < w0 → gR s 2 < gR s 0 := fun h => gR_gt (by decide) (by rw [x0, x2]; exact h)
  have v0 : wtf 0 w0 w1 w2 = w0 := by unfold wtf; rw [if_pos rfl]
  have v1 : wtf 1 w0 w1 w2 = w1 := by unfold wtf; rw [if_neg (by decide), if_pos rfl]
  have v2 : wtf 2 w0 w1 w2 = w2 := by unfold wtf; rw [if_neg (by decide), if_neg (by decide)]
  have y01 : ltr 0 1 w0 w1 w2 = if w1 < w0 then 0 else 1 := by have := ltr_c (x := 0) (y := 1) (w0 := w0) (w1 := w1) (w2 := w2) (by decide); rw [v0, v1] at this; exact this
  have y12 : ltr 1 2 w0 w1 w2 = if w2 < w1 then 1 else 2 := by have := ltr_c (x := 1) (y := 2) (w0 := w0) (w1 := w1) (w2 := w2) (by decide); rw [v1, v2] at this; exact this
  have y02 : ltr 0 2 w0 w1 w2 = if w2 < w0 then 0 else 2 := by have := ltr_c (x := 0) (y := 2) (w0 := w0) (w1 := w1) (w2 := w2) (by decide); rw [v0, v2] at this; exact this

  by_cases d01 : w1 < w0
  · by_cases d02 : w2 < w0
    · by_cases d12 : w2 < w1
      · simp only [y01, y12, y02, eq_true d01, eq_true d02, eq_true d12, if_true, v0, v1, v2]
        have G : GD s 2 1 0 w0 w1 w2 := ⟨f1, f2, f3, f4, ⟨by decide, by decide⟩, g21 d12, g10 d01⟩
        have e := S15 2 1 0 G
        exact rest0 G e.1 e.2 rfl fun _ => rfl
      · simp only [y01, y12, y02, eq_true d01, eq_true d02, eq_false d12, if_true, if_false, v0, v1, v2]
        have G : GD s 1 2 0 w0 w1 w2 := ⟨f1, f2, f3, f4, ⟨by decide, by decide⟩, g12 d12, g20 d02⟩
        have e := S15 1 2 0 G
        exact rest0 G e.1 e.2 rfl fun _ => rfl
    · simp only [y01, y12, y02, eq_true d01, eq_false d02, if_true, if_false, v0, v1, v2]
      have G : GD s 1 0 2 w0 w1 w2 := ⟨f1, f2, f3, f4, ⟨by decide, by decide⟩, g10 d01, g02 d02⟩
      have e := S15 1 0 2 G
      exact rest2 G e.1 e.2 rfl fun _ => rfl
  · by_cases d12 : w2 < w1
    · by_cases d02 : w2 < w0
      · simp only [y01, y12, y02, eq_false d01, eq_true d02, eq_true d12, if_true, if_false, v0, v1, v2]
        have G : GD s 2 0 1 w0 w1 w2 := ⟨f1, f2, f3, f4, ⟨by decide, by decide⟩, g20 d02, g01 d01⟩
        have e := S15 2 0 1 G
        exact rest1 G e.1 e.2 rfl fun _ => rfl
      · simp only [y01, y12, y02, eq_false d01, eq_false d02, eq_true d12, if_true, if_false, v0, v1, v2]
        have G : GD s 0 2 1 w0 w1 w2 := ⟨f1, f2, f3, f4, ⟨by decide, by decide⟩, g02 d02, g21 d12⟩
        have e := S15 0 2 1 G
        exact rest1 G e.1 e.2 rfl fun _ => rfl
    · simp only [y01, y12, y02, eq_false d01, eq_false d12, if_true, if_false, v0, v1, v2]
      have G : GD s 0 1 2 w0 w1 w2 := ⟨f1, f2, f3, f4, ⟨by decide, by decide⟩, g01 d01, g12 d12⟩
      have e := S15 0 1 2 G
      exact rest2 G e.1 e.2 rfl fun _ => rfl
end X5

end Jvm.JX.Lw
namespace Jvm.Pilot.@@N@@
open Jvm Jvm.ClassFile Sem Op Lib Jvm.Free Jvm.Stand Jvm.LawKit Jvm.RoadKit Bundle Jvm.Pilot.@@N@@.Jvm.D Jvm.JX Jvm.JX.Pj Jvm.JX.Lw
def nmL : List (Nat × MethodName) := [(1, ⟨"DynamicMinForest", "<init>", "(I)V"⟩), (2, ⟨"DynamicMinForest", "addEdge", "(III)I"⟩), (3, ⟨"DynamicMinForest", "removeEdge", "(I)Z"⟩), (5, ⟨"DynamicMinForest", "isPresent", "(I)Z"⟩), (6, ⟨"DynamicMinForest", "isTreeEdge", "(I)Z"⟩), (10, ⟨"DynamicMinForest", "forestWeight", "()J"⟩), (12, ⟨"DynamicMinForest", "componentCount", "()I"⟩), (14, ⟨"DynamicMinForest", "pathMaxEdge", "(II)I"⟩), (15, ⟨"DynamicMinForest", "replacementFor", "(I)I"⟩), (16, ⟨"DynamicMinForest", "lastEntered", "()I"⟩), (17, ⟨"DynamicMinForest", "lastLeft", "()I"⟩), (18, ⟨"DynamicMinForest", "insertUpdate", "(I)V"⟩), (19, ⟨"DynamicMinForest", "cutTreeEdge", "(I)V"⟩), (21, ⟨"DynamicMinForest", "setLast", "(II)V"⟩), (22, ⟨"DynamicMinForest", "lowestFreeSlot", "()I"⟩), (23, ⟨"DynamicMinForest", "storeEdge", "(IIII)V"⟩), (24, ⟨"DynamicMinForest", "freeSlot", "(I)V"⟩), (25, ⟨"DynamicMinForest", "joinTree", "(I)V"⟩), (26, ⟨"DynamicMinForest", "leaveTree", "(I)V"⟩), (27, ⟨"DynamicMinForest", "addAdjacent", "(II)V"⟩), (28, ⟨"DynamicMinForest", "removeAdjacent", "(II)V"⟩), (29, ⟨"DynamicMinForest", "resetSearch", "()V"⟩), (30, ⟨"DynamicMinForest", "explore", "(II)I"⟩), (31, ⟨"DynamicMinForest", "visitNeighbours", "(III)I"⟩), (32, ⟨"DynamicMinForest", "heaviestOnPathTo", "(I)I"⟩), (33, ⟨"DynamicMinForest", "lightestCrossing", "()I"⟩), (34, ⟨"DynamicMinForest", "crosses", "(I)Z"⟩), (35, ⟨"DynamicMinForest", "otherEnd", "(II)I"⟩), (36, ⟨"DynamicMinForest", "precedes", "(II)Z"⟩), (37, ⟨"DynamicMinForest", "lighter", "(II)I"⟩), (38, ⟨"DynamicMinForest", "heavier", "(II)I"⟩), (39, ⟨"DynamicMinForest", "validVertex", "(I)Z"⟩), (40, ⟨"DynamicMinForest", "validId", "(I)Z"⟩), (41, ⟨"DynamicMinForest", "clampWeight", "(I)I"⟩), (100, ⟨"DynamicMinForestL3", "law", "(III)Z"⟩), (102, ⟨"DynamicMinForestL3", "cl", "(I)I"⟩), (103, ⟨"DynamicMinForestL3", "wt", "(IIII)I"⟩), (104, ⟨"DynamicMinForestL3", "later", "(IIIII)I"⟩)]
def nm (m : Nat) : MethodName := (nmL.lookup m).getD ⟨"", "", ""⟩
def btL : List (Nat × ByteArray) := [(1, prog_1_method_1_code), (2, prog_1_method_2_code), (3, prog_1_method_3_code), (5, prog_1_method_5_code), (6, prog_1_method_6_code), (10, prog_1_method_10_code), (12, prog_1_method_12_code), (14, prog_1_method_14_code), (15, prog_1_method_15_code), (16, prog_1_method_16_code), (17, prog_1_method_17_code), (18, prog_1_method_18_code), (19, prog_1_method_19_code), (21, prog_1_method_21_code), (22, prog_1_method_22_code), (23, prog_1_method_23_code), (24, prog_1_method_24_code), (25, prog_1_method_25_code), (26, prog_1_method_26_code), (27, prog_1_method_27_code), (28, prog_1_method_28_code), (29, prog_1_method_29_code), (30, prog_1_method_30_code), (31, prog_1_method_31_code), (32, prog_1_method_32_code), (33, prog_1_method_33_code), (34, prog_1_method_34_code), (35, prog_1_method_35_code), (36, prog_1_method_36_code), (37, prog_1_method_37_code), (38, prog_1_method_38_code), (39, prog_1_method_39_code), (40, prog_1_method_40_code), (41, prog_1_method_41_code), (100, code), (102, method_2_code), (103, method_3_code), (104, method_4_code)]
def bt (m : Nat) : ByteArray := (btL.lookup m).getD ⟨#[]⟩
def fnL : List (String × String) := [("n", "I"), ("endA", "[I"), ("endB", "[I"), ("weight", "[I"), ("used", "[Z"), ("inTree", "[Z"), ("adj", "[I"), ("deg", "[I"), ("seen", "[Z"), ("parentEdge", "[I"), ("parentVertex", "[I"), ("queue", "[I"), ("presentCount", "I"), ("treeCount", "I"), ("treeWeight", "J"), ("entered", "I"), ("left", "I")]
def fn (k : Nat) : String × String := fnL.getD k ("", "")
def RL : List Nat := [1, 2, 3, 5, 6, 10, 12, 14, 15, 16, 17, 18, 19, 21, 22, 23, 24, 25, 26, 27, 28, 29, 30, 31, 32, 33, 34, 35, 36, 37, 38, 39, 40, 41, 100, 102, 103, 104]
def FS : List Nat := [0, 1, 2, 3, 4, 5, 6, 7, 8, 9, 10, 11, 12, 13, 14, 15, 16]
def WF : List Nat := [0, 1, 2, 3, 4, 5, 6, 7, 8, 9, 10, 11, 12, 13, 14, 15, 16]
def FL : List (Nat × Nat × Nat) := [(0, 7, 1), (0, 13, 2), (0, 16, 3), (0, 19, 4), (0, 23, 5), (0, 26, 6), (0, 29, 7), (0, 32, 8), (0, 35, 9), (0, 38, 10), (0, 41, 11), (0, 44, 0), (0, 48, 12), (0, 51, 13), (0, 54, 14), (0, 58, 15), (0, 61, 16)]
def ML : List (Nat × Nat × Nat) := [(0, 64, 29), (0, 67, 39), (0, 71, 22), (0, 75, 41), (0, 79, 23), (0, 83, 18), (0, 87, 5), (0, 90, 24), (0, 93, 21), (0, 97, 19), (0, 103, 40), (0, 106, 30), (0, 110, 32), (0, 113, 6), (0, 116, 33), (0, 119, 25), (0, 122, 36), (0, 126, 26), (0, 129, 27), (0, 132, 28), (0, 135, 31), (0, 139, 35), (0, 142, 38), (0, 145, 34), (0, 148, 37), (1, 17, 1), (1, 20, 102), (1, 24, 104), (1, 11, 103), (1, 28, 2), (1, 32, 16), (1, 36, 17), (1, 39, 6), (1, 43, 10), (1, 47, 12), (1, 50, 14), (1, 54, 15), (1, 57, 3)]
def KI : List (Nat × Nat × Int) := [(0, 151, -1000000), (0, 152, 1000000), (1, 9, -1000000), (1, 10, 1000000)]
def KJ : List (Nat × Nat × Int) := []
def ATL : List FieldType := [.boolean, .int]
def cn (j : Nat) : String := if j = 0 then "DynamicMinForest" else "DynamicMinForestL3"
def own (m : Nat) : Nat := if m < 100 then 0 else 1
def ini (m : Nat) : Bool := m == 1
def rowsOf (m : Nat) : List Jvm.JX.Row := if m < 100 then prows.getD m [] else lrows.getD (m - 100) []
theorem hFL : ∀ t ∈ FL, t.2.2 ∈ FS ∧ Jvm.Cond.fieldLink (cn t.1) t.2.1 "DynamicMinForest" (fn t.2.2).1 (fn t.2.2).2 ∈ tables_1 := (faS ⟨by decide, (List.mem_of_getElem? (i := 10) rfl)⟩ (faS ⟨by decide, (List.mem_of_getElem? (i := 12) rfl)⟩ (faS ⟨by decide, (List.mem_of_getElem? (i := 14) rfl)⟩ (faS ⟨by decide, (List.mem_of_getElem? (i := 17) rfl)⟩ (faS ⟨by decide, (List.mem_of_getElem? (i := 19) rfl)⟩ (faS ⟨by decide, (List.mem_of_getElem? (i := 21) rfl)⟩ (faS ⟨by decide, (List.mem_of_getElem? (i := 23) rfl)⟩ (faS ⟨by decide, (List.mem_of_getElem? (i := 25) rfl)⟩ (faS ⟨by decide, (List.mem_of_getElem? (i := 27) rfl)⟩ (faS ⟨by decide, (List.mem_of_getElem? (i := 29) rfl)⟩ (faS ⟨by decide, (List.mem_of_getElem? (i := 31) rfl)⟩ (faS ⟨by decide, (List.mem_of_getElem? (i := 33) rfl)⟩ (faS ⟨by decide, (List.mem_of_getElem? (i := 35) rfl)⟩ (faS ⟨by decide, (List.mem_of_getElem? (i := 37) rfl)⟩ (faS ⟨by decide, (List.mem_of_getElem? (i := 39) rfl)⟩ (faS ⟨by decide, (List.mem_of_getElem? (i := 41) rfl)⟩ (faS ⟨by decide, (List.mem_of_getElem? (i := 43) rfl)⟩ fa0)))))))))))))))))
theorem hWF : ∀ k ∈ WF, Jvm.Cond.lays "DynamicMinForest" "DynamicMinForest" (fn k).1 (fn k).2 ∈ tables_1 := (faS (List.mem_of_getElem? (i := 34) rfl) (faS (List.mem_of_getElem? (i := 11) rfl) (faS (List.mem_of_getElem? (i := 13) rfl) (faS (List.mem_of_getElem? (i := 15) rfl) (faS (List.mem_of_getElem? (i := 18) rfl) (faS (List.mem_of_getElem? (i := 20) rfl) (faS (List.mem_of_getElem? (i := 22) rfl) (faS (List.mem_of_getElem? (i := 24) rfl) (faS (List.mem_of_getElem? (i := 26) rfl) (faS (List.mem_of_getElem? (i := 28) rfl) (faS (List.mem_of_getElem? (i := 30) rfl) (faS (List.mem_of_getElem? (i := 32) rfl) (faS (List.mem_of_getElem? (i := 36) rfl) (faS (List.mem_of_getElem? (i := 38) rfl) (faS (List.mem_of_getElem? (i := 40) rfl) (faS (List.mem_of_getElem? (i := 42) rfl) (faS (List.mem_of_getElem? (i := 44) rfl) fa0)))))))))))))))))
theorem hML : ∀ t ∈ ML, t.2.2 ∈ RL ∧ Jvm.Cond.methodLink (cn t.1) t.2.1 (nm t.2.2) ∈ tables_1 := (faS ⟨by decide, (List.mem_of_getElem? (i := 45) rfl)⟩ (faS ⟨by decide, (List.mem_of_getElem? (i := 66) rfl)⟩ (faS ⟨by decide, (List.mem_of_getElem? (i := 70) rfl)⟩ (faS ⟨by decide, (List.mem_of_getElem? (i := 74) rfl)⟩ (faS ⟨by decide, (List.mem_of_getElem? (i := 80) rfl)⟩ (faS ⟨by decide, (List.mem_of_getElem? (i := 84) rfl)⟩ (faS ⟨by decide, (List.mem_of_getElem? (i := 189) rfl)⟩ (faS ⟨by decide, (List.mem_of_getElem? (i := 198) rfl)⟩ (faS ⟨by decide, (List.mem_of_getElem? (i := 108) rfl)⟩ (faS ⟨by decide, (List.mem_of_getElem? (i := 194) rfl)⟩ (faS ⟨by decide, (List.mem_of_getElem? (i := 100) rfl)⟩ (faS ⟨by decide, (List.mem_of_getElem? (i := 88) rfl)⟩ (faS ⟨by decide, (List.mem_of_getElem? (i := 116) rfl)⟩ (faS ⟨by decide, (List.mem_of_getElem? (i := 171) rfl)⟩ (faS ⟨by decide, (List.mem_of_getElem? (i := 172) rfl)⟩ (faS ⟨by decide, (List.mem_of_getElem? (i := 96) rfl)⟩ (faS ⟨by decide, (List.mem_of_getElem? (i := 124) rfl)⟩ (faS ⟨by decide, (List.mem_of_getElem? (i := 128) rfl)⟩ (faS ⟨by decide, (List.mem_of_getElem? (i := 104) rfl)⟩ (faS ⟨by decide, (List.mem_of_getElem? (i := 132) rfl)⟩ (faS ⟨by decide, (List.mem_of_getElem? (i := 92) rfl)⟩ (faS ⟨by decide, (List.mem_of_getElem? (i := 112) rfl)⟩ (faS ⟨by decide, (List.mem_of_getElem? (i := 120) rfl)⟩ (faS ⟨by decide, (List.mem_of_getElem? (i := 176) rfl)⟩ (faS ⟨by decide, (List.mem_of_getElem? (i := 180) rfl)⟩ (faS ⟨by decide, (List.mem_of_getElem? (i := 3) rfl)⟩ (faS ⟨by decide, (List.mem_of_getElem? (i := 49) rfl)⟩ (faS ⟨by decide, (List.mem_of_getElem? (i := 55) rfl)⟩ (faS ⟨by decide, (List.mem_of_getElem? (i := 58) rfl)⟩ (faS ⟨by decide, (List.mem_of_getElem? (i := 61) rfl)⟩ (faS ⟨by decide, (List.mem_of_getElem? (i := 136) rfl)⟩ (faS ⟨by decide, (List.mem_of_getElem? (i := 141) rfl)⟩ (faS ⟨by decide, (List.mem_of_getElem? (i := 146) rfl)⟩ (faS ⟨by decide, (List.mem_of_getElem? (i := 151) rfl)⟩ (faS ⟨by decide, (List.mem_of_getElem? (i := 156) rfl)⟩ (faS ⟨by decide, (List.mem_of_getElem? (i := 161) rfl)⟩ (faS ⟨by decide, (List.mem_of_getElem? (i := 166) rfl)⟩ (faS ⟨by decide, (List.mem_of_getElem? (i := 184) rfl)⟩ fa0))))))))))))))))))))))))))))))))))))))
theorem hKI : ∀ t ∈ KI, Jvm.Cond.constant (cn t.1) t.2.1 (Int32.ofInt t.2.2) ∈ tables_1 := (faS (List.mem_of_getElem? (i := 78) rfl) (faS (List.mem_of_getElem? (i := 79) rfl) (faS (List.mem_of_getElem? (i := 53) rfl) (faS (List.mem_of_getElem? (i := 54) rfl) fa0))))
theorem hKJ : ∀ t ∈ KJ, Jvm.Cond.constantLong (cn t.1) t.2.1 (Int64.ofInt t.2.2) ∈ tables_1 := fa0
theorem hAT : ∀ t ∈ ATL, Jvm.Cond.arrayClass t ∈ tables_1 := (faS (List.mem_of_getElem? (i := 16) rfl) (faS (List.mem_of_getElem? (i := 9) rfl) fa0))
theorem hr1x0 : ((rowsOf 1).take 40).all (rowOne FL ML KI KJ ATL WF 17 7 bt own ini 1) = true := by decide +kernel
theorem hr1x1 : (((rowsOf 1).drop 40).take 40).all (rowOne FL ML KI KJ ATL WF 17 7 bt own ini 1) = true := by decide +kernel
theorem hr1x2 : (((rowsOf 1).drop 40).drop 40).all (rowOne FL ML KI KJ ATL WF 17 7 bt own ini 1) = true := by decide +kernel
theorem hr1 : (rowsOf 1).all (rowOne FL ML KI KJ ATL WF 17 7 bt own ini 1) = true := (all_td 40 hr1x0 (all_td 40 hr1x1 hr1x2))
theorem hr2 : (rowsOf 2).all (rowOne FL ML KI KJ ATL WF 17 7 bt own ini 2) = true := by decide +kernel
theorem hr3 : (rowsOf 3).all (rowOne FL ML KI KJ ATL WF 17 7 bt own ini 3) = true := by decide +kernel
theorem hr5 : (rowsOf 5).all (rowOne FL ML KI KJ ATL WF 17 7 bt own ini 5) = true := by decide +kernel
theorem hr6 : (rowsOf 6).all (rowOne FL ML KI KJ ATL WF 17 7 bt own ini 6) = true := by decide +kernel
theorem hr10 : (rowsOf 10).all (rowOne FL ML KI KJ ATL WF 17 7 bt own ini 10) = true := by decide +kernel
theorem hr12 : (rowsOf 12).all (rowOne FL ML KI KJ ATL WF 17 7 bt own ini 12) = true := by decide +kernel
theorem hr14 : (rowsOf 14).all (rowOne FL ML KI KJ ATL WF 17 7 bt own ini 14) = true := by decide +kernel
theorem hr15 : (rowsOf 15).all (rowOne FL ML KI KJ ATL WF 17 7 bt own ini 15) = true := by decide +kernel
theorem hr16 : (rowsOf 16).all (rowOne FL ML KI KJ ATL WF 17 7 bt own ini 16) = true := by decide +kernel
theorem hr17 : (rowsOf 17).all (rowOne FL ML KI KJ ATL WF 17 7 bt own ini 17) = true := by decide +kernel
theorem hr18 : (rowsOf 18).all (rowOne FL ML KI KJ ATL WF 17 7 bt own ini 18) = true := by decide +kernel
theorem hr19 : (rowsOf 19).all (rowOne FL ML KI KJ ATL WF 17 7 bt own ini 19) = true := by decide +kernel
theorem hr21 : (rowsOf 21).all (rowOne FL ML KI KJ ATL WF 17 7 bt own ini 21) = true := by decide +kernel
theorem hr22 : (rowsOf 22).all (rowOne FL ML KI KJ ATL WF 17 7 bt own ini 22) = true := by decide +kernel
theorem hr23 : (rowsOf 23).all (rowOne FL ML KI KJ ATL WF 17 7 bt own ini 23) = true := by decide +kernel
theorem hr24 : (rowsOf 24).all (rowOne FL ML KI KJ ATL WF 17 7 bt own ini 24) = true := by decide +kernel
theorem hr25 : (rowsOf 25).all (rowOne FL ML KI KJ ATL WF 17 7 bt own ini 25) = true := by decide +kernel
theorem hr26 : (rowsOf 26).all (rowOne FL ML KI KJ ATL WF 17 7 bt own ini 26) = true := by decide +kernel
theorem hr27 : (rowsOf 27).all (rowOne FL ML KI KJ ATL WF 17 7 bt own ini 27) = true := by decide +kernel
theorem hr28 : (rowsOf 28).all (rowOne FL ML KI KJ ATL WF 17 7 bt own ini 28) = true := by decide +kernel
theorem hr29 : (rowsOf 29).all (rowOne FL ML KI KJ ATL WF 17 7 bt own ini 29) = true := by decide +kernel
theorem hr30 : (rowsOf 30).all (rowOne FL ML KI KJ ATL WF 17 7 bt own ini 30) = true := by decide +kernel
theorem hr31x0 : ((rowsOf 31).take 40).all (rowOne FL ML KI KJ ATL WF 17 7 bt own ini 31) = true := by decide +kernel
theorem hr31x1 : (((rowsOf 31).drop 40).take 40).all (rowOne FL ML KI KJ ATL WF 17 7 bt own ini 31) = true := by decide +kernel
theorem hr31x2 : (((rowsOf 31).drop 40).drop 40).all (rowOne FL ML KI KJ ATL WF 17 7 bt own ini 31) = true := by decide +kernel
theorem hr31 : (rowsOf 31).all (rowOne FL ML KI KJ ATL WF 17 7 bt own ini 31) = true := (all_td 40 hr31x0 (all_td 40 hr31x1 hr31x2))
theorem hr32 : (rowsOf 32).all (rowOne FL ML KI KJ ATL WF 17 7 bt own ini 32) = true := by decide +kernel
theorem hr33 : (rowsOf 33).all (rowOne FL ML KI KJ ATL WF 17 7 bt own ini 33) = true := by decide +kernel
theorem hr34 : (rowsOf 34).all (rowOne FL ML KI KJ ATL WF 17 7 bt own ini 34) = true := by decide +kernel
theorem hr35 : (rowsOf 35).all (rowOne FL ML KI KJ ATL WF 17 7 bt own ini 35) = true := by decide +kernel
theorem hr36 : (rowsOf 36).all (rowOne FL ML KI KJ ATL WF 17 7 bt own ini 36) = true := by decide +kernel
theorem hr37 : (rowsOf 37).all (rowOne FL ML KI KJ ATL WF 17 7 bt own ini 37) = true := by decide +kernel
theorem hr38 : (rowsOf 38).all (rowOne FL ML KI KJ ATL WF 17 7 bt own ini 38) = true := by decide +kernel
theorem hr39 : (rowsOf 39).all (rowOne FL ML KI KJ ATL WF 17 7 bt own ini 39) = true := by decide +kernel
theorem hr40 : (rowsOf 40).all (rowOne FL ML KI KJ ATL WF 17 7 bt own ini 40) = true := by decide +kernel
theorem hr41 : (rowsOf 41).all (rowOne FL ML KI KJ ATL WF 17 7 bt own ini 41) = true := by decide +kernel
theorem hr100x0 : ((rowsOf 100).take 40).all (rowOne FL ML KI KJ ATL WF 17 7 bt own ini 100) = true := by decide +kernel
theorem hr100x1 : (((rowsOf 100).drop 40).take 40).all (rowOne FL ML KI KJ ATL WF 17 7 bt own ini 100) = true := by decide +kernel
theorem hr100x2 : ((((rowsOf 100).drop 40).drop 40).take 40).all (rowOne FL ML KI KJ ATL WF 17 7 bt own ini 100) = true := by decide +kernel
theorem hr100x3 : (((((rowsOf 100).drop 40).drop 40).drop 40).take 40).all (rowOne FL ML KI KJ ATL WF 17 7 bt own ini 100) = true := by decide +kernel
theorem hr100x4 : ((((((rowsOf 100).drop 40).drop 40).drop 40).drop 40).take 40).all (rowOne FL ML KI KJ ATL WF 17 7 bt own ini 100) = true := by decide +kernel
theorem hr100x5 : (((((((rowsOf 100).drop 40).drop 40).drop 40).drop 40).drop 40).take 40).all (rowOne FL ML KI KJ ATL WF 17 7 bt own ini 100) = true := by decide +kernel
theorem hr100x6 : ((((((((rowsOf 100).drop 40).drop 40).drop 40).drop 40).drop 40).drop 40).take 40).all (rowOne FL ML KI KJ ATL WF 17 7 bt own ini 100) = true := by decide +kernel
theorem hr100x7 : ((((((((rowsOf 100).drop 40).drop 40).drop 40).drop 40).drop 40).drop 40).drop 40).all (rowOne FL ML KI KJ ATL WF 17 7 bt own ini 100) = true := by decide +kernel
theorem hr100 : (rowsOf 100).all (rowOne FL ML KI KJ ATL WF 17 7 bt own ini 100) = true := (all_td 40 hr100x0 (all_td 40 hr100x1 (all_td 40 hr100x2 (all_td 40 hr100x3 (all_td 40 hr100x4 (all_td 40 hr100x5 (all_td 40 hr100x6 hr100x7)))))))
theorem hr102 : (rowsOf 102).all (rowOne FL ML KI KJ ATL WF 17 7 bt own ini 102) = true := by decide +kernel
theorem hr103 : (rowsOf 103).all (rowOne FL ML KI KJ ATL WF 17 7 bt own ini 103) = true := by decide +kernel
theorem hr104 : (rowsOf 104).all (rowOne FL ML KI KJ ATL WF 17 7 bt own ini 104) = true := by decide +kernel
theorem hrows : RL.all (fun m => (rowsOf m).all (rowOne FL ML KI KJ ATL WF 17 7 bt own ini m)) = true := (all_c hr1 (all_c hr2 (all_c hr3 (all_c hr5 (all_c hr6 (all_c hr10 (all_c hr12 (all_c hr14 (all_c hr15 (all_c hr16 (all_c hr17 (all_c hr18 (all_c hr19 (all_c hr21 (all_c hr22 (all_c hr23 (all_c hr24 (all_c hr25 (all_c hr26 (all_c hr27 (all_c hr28 (all_c hr29 (all_c hr30 (all_c hr31 (all_c hr32 (all_c hr33 (all_c hr34 (all_c hr35 (all_c hr36 (all_c hr37 (all_c hr38 (all_c hr39 (all_c hr40 (all_c hr41 (all_c hr100 (all_c hr102 (all_c hr103 (all_c hr104 all_n))))))))))))))))))))))))))))))))))))))
theorem cal1 : CalOk (pj lw) tables_1 "DynamicMinForest" nm bt 1 := ⟨(List.mem_of_getElem? (i := 5) rfl), (List.mem_of_getElem? (i := 2) rfl), ⟨[.int], none, by decide +kernel, rfl⟩, fun h => absurd h (by decide), fun _ => ⟨rfl, (List.mem_of_getElem? (i := 4) rfl)⟩, fun h => absurd h (by decide), fun h => absurd h (by decide), fun _ => ⟨rfl, rfl⟩⟩
theorem cal2 : CalOk (pj lw) tables_1 "DynamicMinForest" nm bt 2 := ⟨(List.mem_of_getElem? (i := 65) rfl), (List.mem_of_getElem? (i := 2) rfl), ⟨[.int, .int, .int], some .int, by decide +kernel, rfl⟩, fun h => absurd h (by decide), fun _ => ⟨rfl, (List.mem_of_getElem? (i := 63) rfl)⟩, fun _ => ⟨(List.mem_of_getElem? (i := 62) rfl), (List.mem_of_getElem? (i := 64) rfl)⟩, fun h => absurd h (by decide), fun h => absurd h (by decide)⟩
theorem cal3 : CalOk (pj lw) tables_1 "DynamicMinForest" nm bt 3 := ⟨(List.mem_of_getElem? (i := 188) rfl), (List.mem_of_getElem? (i := 2) rfl), ⟨[.int], some .boolean, by decide +kernel, rfl⟩, fun h => absurd h (by decide), fun _ => ⟨rfl, (List.mem_of_getElem? (i := 186) rfl)⟩, fun _ => ⟨(List.mem_of_getElem? (i := 185) rfl), (List.mem_of_getElem? (i := 187) rfl)⟩, fun h => absurd h (by decide), fun h => absurd h (by decide)⟩
theorem cal5 : CalOk (pj lw) tables_1 "DynamicMinForest" nm bt 5 := ⟨(List.mem_of_getElem? (i := 193) rfl), (List.mem_of_getElem? (i := 2) rfl), ⟨[.int], some .boolean, by decide +kernel, rfl⟩, fun h => absurd h (by decide), fun _ => ⟨rfl, (List.mem_of_getElem? (i := 191) rfl)⟩, fun _ => ⟨(List.mem_of_getElem? (i := 190) rfl), (List.mem_of_getElem? (i := 192) rfl)⟩, fun h => absurd h (by decide), fun h => absurd h (by decide)⟩
theorem cal6 : CalOk (pj lw) tables_1 "DynamicMinForest" nm bt 6 := ⟨(List.mem_of_getElem? (i := 150) rfl), (List.mem_of_getElem? (i := 2) rfl), ⟨[.int], some .boolean, by decide +kernel, rfl⟩, fun h => absurd h (by decide), fun _ => ⟨rfl, (List.mem_of_getElem? (i := 148) rfl)⟩, fun _ => ⟨(List.mem_of_getElem? (i := 147) rfl), (List.mem_of_getElem? (i := 149) rfl)⟩, fun h => absurd h (by decide), fun h => absurd h (by decide)⟩
theorem cal10 : CalOk (pj lw) tables_1 "DynamicMinForest" nm bt 10 := ⟨(List.mem_of_getElem? (i := 155) rfl), (List.mem_of_getElem? (i := 2) rfl), ⟨[], some .long, by decide +kernel, rfl⟩, fun h => absurd h (by decide), fun _ => ⟨rfl, (List.mem_of_getElem? (i := 153) rfl)⟩, fun _ => ⟨(List.mem_of_getElem? (i := 152) rfl), (List.mem_of_getElem? (i := 154) rfl)⟩, fun h => absurd h (by decide), fun h => absurd h (by decide)⟩
theorem cal12 : CalOk (pj lw) tables_1 "DynamicMinForest" nm bt 12 := ⟨(List.mem_of_getElem? (i := 160) rfl), (List.mem_of_getElem? (i := 2) rfl), ⟨[], some .int, by decide +kernel, rfl⟩, fun h => absurd h (by decide), fun _ => ⟨rfl, (List.mem_of_getElem? (i := 158) rfl)⟩, fun _ => ⟨(List.mem_of_getElem? (i := 157) rfl), (List.mem_of_getElem? (i := 159) rfl)⟩, fun h => absurd h (by decide), fun h => absurd h (by decide)⟩
theorem cal14 : CalOk (pj lw) tables_1 "DynamicMinForest" nm bt 14 := ⟨(List.mem_of_getElem? (i := 165) rfl), (List.mem_of_getElem? (i := 2) rfl), ⟨[.int, .int], some .int, by decide +kernel, rfl⟩, fun h => absurd h (by decide), fun _ => ⟨rfl, (List.mem_of_getElem? (i := 163) rfl)⟩, fun _ => ⟨(List.mem_of_getElem? (i := 162) rfl), (List.mem_of_getElem? (i := 164) rfl)⟩, fun h => absurd h (by decide), fun h => absurd h (by decide)⟩
theorem cal15 : CalOk (pj lw) tables_1 "DynamicMinForest" nm bt 15 := ⟨(List.mem_of_getElem? (i := 170) rfl), (List.mem_of_getElem? (i := 2) rfl), ⟨[.int], some .int, by decide +kernel, rfl⟩, fun h => absurd h (by decide), fun _ => ⟨rfl, (List.mem_of_getElem? (i := 168) rfl)⟩, fun _ => ⟨(List.mem_of_getElem? (i := 167) rfl), (List.mem_of_getElem? (i := 169) rfl)⟩, fun h => absurd h (by decide), fun h => absurd h (by decide)⟩
theorem cal16 : CalOk (pj lw) tables_1 "DynamicMinForest" nm bt 16 := ⟨(List.mem_of_getElem? (i := 140) rfl), (List.mem_of_getElem? (i := 2) rfl), ⟨[], some .int, by decide +kernel, rfl⟩, fun h => absurd h (by decide), fun _ => ⟨rfl, (List.mem_of_getElem? (i := 138) rfl)⟩, fun _ => ⟨(List.mem_of_getElem? (i := 137) rfl), (List.mem_of_getElem? (i := 139) rfl)⟩, fun h => absurd h (by decide), fun h => absurd h (by decide)⟩
theorem cal17 : CalOk (pj lw) tables_1 "DynamicMinForest" nm bt 17 := ⟨(List.mem_of_getElem? (i := 145) rfl), (List.mem_of_getElem? (i := 2) rfl), ⟨[], some .int, by decide +kernel, rfl⟩, fun h => absurd h (by decide), fun _ => ⟨rfl, (List.mem_of_getElem? (i := 143) rfl)⟩, fun _ => ⟨(List.mem_of_getElem? (i := 142) rfl), (List.mem_of_getElem? (i := 144) rfl)⟩, fun h => absurd h (by decide), fun h => absurd h (by decide)⟩
theorem cal18 : CalOk (pj lw) tables_1 "DynamicMinForest" nm bt 18 := ⟨(List.mem_of_getElem? (i := 87) rfl), (List.mem_of_getElem? (i := 2) rfl), ⟨[.int], none, by decide +kernel, rfl⟩, fun h => absurd h (by decide), fun _ => ⟨rfl, (List.mem_of_getElem? (i := 85) rfl)⟩, fun h => absurd h (by decide), fun _ => (List.mem_of_getElem? (i := 86) rfl), fun h => absurd h (by decide)⟩
theorem cal19 : CalOk (pj lw) tables_1 "DynamicMinForest" nm bt 19 := ⟨(List.mem_of_getElem? (i := 197) rfl), (List.mem_of_getElem? (i := 2) rfl), ⟨[.int], none, by decide +kernel, rfl⟩, fun h => absurd h (by decide), fun _ => ⟨rfl, (List.mem_of_getElem? (i := 195) rfl)⟩, fun h => absurd h (by decide), fun _ => (List.mem_of_getElem? (i := 196) rfl), fun h => absurd h (by decide)⟩
theorem cal21 : CalOk (pj lw) tables_1 "DynamicMinForest" nm bt 21 := ⟨(List.mem_of_getElem? (i := 111) rfl), (List.mem_of_getElem? (i := 2) rfl), ⟨[.int, .int], none, by decide +kernel, rfl⟩, fun h => absurd h (by decide), fun _ => ⟨rfl, (List.mem_of_getElem? (i := 109) rfl)⟩, fun h => absurd h (by decide), fun _ => (List.mem_of_getElem? (i := 110) rfl), fun h => absurd h (by decide)⟩
theorem cal22 : CalOk (pj lw) tables_1 "DynamicMinForest" nm bt 22 := ⟨(List.mem_of_getElem? (i := 73) rfl), (List.mem_of_getElem? (i := 2) rfl), ⟨[], some .int, by decide +kernel, rfl⟩, fun h => absurd h (by decide), fun _ => ⟨rfl, (List.mem_of_getElem? (i := 71) rfl)⟩, fun h => absurd h (by decide), fun _ => (List.mem_of_getElem? (i := 72) rfl), fun h => absurd h (by decide)⟩
theorem cal23 : CalOk (pj lw) tables_1 "DynamicMinForest" nm bt 23 := ⟨(List.mem_of_getElem? (i := 83) rfl), (List.mem_of_getElem? (i := 2) rfl), ⟨[.int, .int, .int, .int], none, by decide +kernel, rfl⟩, fun h => absurd h (by decide), fun _ => ⟨rfl, (List.mem_of_getElem? (i := 81) rfl)⟩, fun h => absurd h (by decide), fun _ => (List.mem_of_getElem? (i := 82) rfl), fun h => absurd h (by decide)⟩
theorem cal24 : CalOk (pj lw) tables_1 "DynamicMinForest" nm bt 24 := ⟨(List.mem_of_getElem? (i := 201) rfl), (List.mem_of_getElem? (i := 2) rfl), ⟨[.int], none, by decide +kernel, rfl⟩, fun h => absurd h (by decide), fun _ => ⟨rfl, (List.mem_of_getElem? (i := 199) rfl)⟩, fun h => absurd h (by decide), fun _ => (List.mem_of_getElem? (i := 200) rfl), fun h => absurd h (by decide)⟩
theorem cal25 : CalOk (pj lw) tables_1 "DynamicMinForest" nm bt 25 := ⟨(List.mem_of_getElem? (i := 99) rfl), (List.mem_of_getElem? (i := 2) rfl), ⟨[.int], none, by decide +kernel, rfl⟩, fun h => absurd h (by decide), fun _ => ⟨rfl, (List.mem_of_getElem? (i := 97) rfl)⟩, fun h => absurd h (by decide), fun _ => (List.mem_of_getElem? (i := 98) rfl), fun h => absurd h (by decide)⟩
theorem cal26 : CalOk (pj lw) tables_1 "DynamicMinForest" nm bt 26 := ⟨(List.mem_of_getElem? (i := 131) rfl), (List.mem_of_getElem? (i := 2) rfl), ⟨[.int], none, by decide +kernel, rfl⟩, fun h => absurd h (by decide), fun _ => ⟨rfl, (List.mem_of_getElem? (i := 129) rfl)⟩, fun h => absurd h (by decide), fun _ => (List.mem_of_getElem? (i := 130) rfl), fun h => absurd h (by decide)⟩
theorem cal27 : CalOk (pj lw) tables_1 "DynamicMinForest" nm bt 27 := ⟨(List.mem_of_getElem? (i := 107) rfl), (List.mem_of_getElem? (i := 2) rfl), ⟨[.int, .int], none, by decide +kernel, rfl⟩, fun h => absurd h (by decide), fun _ => ⟨rfl, (List.mem_of_getElem? (i := 105) rfl)⟩, fun h => absurd h (by decide), fun _ => (List.mem_of_getElem? (i := 106) rfl), fun h => absurd h (by decide)⟩
theorem cal28 : CalOk (pj lw) tables_1 "DynamicMinForest" nm bt 28 := ⟨(List.mem_of_getElem? (i := 135) rfl), (List.mem_of_getElem? (i := 2) rfl), ⟨[.int, .int], none, by decide +kernel, rfl⟩, fun h => absurd h (by decide), fun _ => ⟨rfl, (List.mem_of_getElem? (i := 133) rfl)⟩, fun h => absurd h (by decide), fun _ => (List.mem_of_getElem? (i := 134) rfl), fun h => absurd h (by decide)⟩
theorem cal29 : CalOk (pj lw) tables_1 "DynamicMinForest" nm bt 29 := ⟨(List.mem_of_getElem? (i := 48) rfl), (List.mem_of_getElem? (i := 2) rfl), ⟨[], none, by decide +kernel, rfl⟩, fun h => absurd h (by decide), fun _ => ⟨rfl, (List.mem_of_getElem? (i := 46) rfl)⟩, fun h => absurd h (by decide), fun _ => (List.mem_of_getElem? (i := 47) rfl), fun h => absurd h (by decide)⟩
theorem cal30 : CalOk (pj lw) tables_1 "DynamicMinForest" nm bt 30 := ⟨(List.mem_of_getElem? (i := 91) rfl), (List.mem_of_getElem? (i := 2) rfl), ⟨[.int, .int], some .int, by decide +kernel, rfl⟩, fun h => absurd h (by decide), fun _ => ⟨rfl, (List.mem_of_getElem? (i := 89) rfl)⟩, fun h => absurd h (by decide), fun _ => (List.mem_of_getElem? (i := 90) rfl), fun h => absurd h (by decide)⟩
theorem cal31 : CalOk (pj lw) tables_1 "DynamicMinForest" nm bt 31 := ⟨(List.mem_of_getElem? (i := 95) rfl), (List.mem_of_getElem? (i := 2) rfl), ⟨[.int, .int, .int], some .int, by decide +kernel, rfl⟩, fun h => absurd h (by decide), fun _ => ⟨rfl, (List.mem_of_getElem? (i := 93) rfl)⟩, fun h => absurd h (by decide), fun _ => (List.mem_of_getElem? (i := 94) rfl), fun h => absurd h (by decide)⟩
theorem cal32 : CalOk (pj lw) tables_1 "DynamicMinForest" nm bt 32 := ⟨(List.mem_of_getElem? (i := 119) rfl), (List.mem_of_getElem? (i := 2) rfl), ⟨[.int], some .int, by decide +kernel, rfl⟩, fun h => absurd h (by decide), fun _ => ⟨rfl, (List.mem_of_getElem? (i := 117) rfl)⟩, fun h => absurd h (by decide), fun _ => (List.mem_of_getElem? (i := 118) rfl), fun h => absurd h (by decide)⟩
theorem cal33 : CalOk (pj lw) tables_1 "DynamicMinForest" nm bt 33 := ⟨(List.mem_of_getElem? (i := 175) rfl), (List.mem_of_getElem? (i := 2) rfl), ⟨[], some .int, by decide +kernel, rfl⟩, fun h => absurd h (by decide), fun _ => ⟨rfl, (List.mem_of_getElem? (i := 173) rfl)⟩, fun h => absurd h (by decide), fun _ => (List.mem_of_getElem? (i := 174) rfl), fun h => absurd h (by decide)⟩
theorem cal34 : CalOk (pj lw) tables_1 "DynamicMinForest" nm bt 34 := ⟨(List.mem_of_getElem? (i := 179) rfl), (List.mem_of_getElem? (i := 2) rfl), ⟨[.int], some .boolean, by decide +kernel, rfl⟩, fun h => absurd h (by decide), fun _ => ⟨rfl, (List.mem_of_getElem? (i := 177) rfl)⟩, fun h => absurd h (by decide), fun _ => (List.mem_of_getElem? (i := 178) rfl), fun h => absurd h (by decide)⟩
theorem cal35 : CalOk (pj lw) tables_1 "DynamicMinForest" nm bt 35 := ⟨(List.mem_of_getElem? (i := 115) rfl), (List.mem_of_getElem? (i := 2) rfl), ⟨[.int, .int], some .int, by decide +kernel, rfl⟩, fun h => absurd h (by decide), fun _ => ⟨rfl, (List.mem_of_getElem? (i := 113) rfl)⟩, fun h => absurd h (by decide), fun _ => (List.mem_of_getElem? (i := 114) rfl), fun h => absurd h (by decide)⟩
theorem cal36 : CalOk (pj lw) tables_1 "DynamicMinForest" nm bt 36 := ⟨(List.mem_of_getElem? (i := 127) rfl), (List.mem_of_getElem? (i := 2) rfl), ⟨[.int, .int], some .boolean, by decide +kernel, rfl⟩, fun h => absurd h (by decide), fun _ => ⟨rfl, (List.mem_of_getElem? (i := 125) rfl)⟩, fun h => absurd h (by decide), fun _ => (List.mem_of_getElem? (i := 126) rfl), fun h => absurd h (by decide)⟩
theorem cal37 : CalOk (pj lw) tables_1 "DynamicMinForest" nm bt 37 := ⟨(List.mem_of_getElem? (i := 183) rfl), (List.mem_of_getElem? (i := 2) rfl), ⟨[.int, .int], some .int, by decide +kernel, rfl⟩, fun h => absurd h (by decide), fun _ => ⟨rfl, (List.mem_of_getElem? (i := 181) rfl)⟩, fun h => absurd h (by decide), fun _ => (List.mem_of_getElem? (i := 182) rfl), fun h => absurd h (by decide)⟩
theorem cal38 : CalOk (pj lw) tables_1 "DynamicMinForest" nm bt 38 := ⟨(List.mem_of_getElem? (i := 123) rfl), (List.mem_of_getElem? (i := 2) rfl), ⟨[.int, .int], some .int, by decide +kernel, rfl⟩, fun h => absurd h (by decide), fun _ => ⟨rfl, (List.mem_of_getElem? (i := 121) rfl)⟩, fun h => absurd h (by decide), fun _ => (List.mem_of_getElem? (i := 122) rfl), fun h => absurd h (by decide)⟩
theorem cal39 : CalOk (pj lw) tables_1 "DynamicMinForest" nm bt 39 := ⟨(List.mem_of_getElem? (i := 69) rfl), (List.mem_of_getElem? (i := 2) rfl), ⟨[.int], some .boolean, by decide +kernel, rfl⟩, fun h => absurd h (by decide), fun _ => ⟨rfl, (List.mem_of_getElem? (i := 67) rfl)⟩, fun h => absurd h (by decide), fun _ => (List.mem_of_getElem? (i := 68) rfl), fun h => absurd h (by decide)⟩
theorem cal40 : CalOk (pj lw) tables_1 "DynamicMinForest" nm bt 40 := ⟨(List.mem_of_getElem? (i := 103) rfl), (List.mem_of_getElem? (i := 2) rfl), ⟨[.int], some .boolean, by decide +kernel, rfl⟩, fun h => absurd h (by decide), fun _ => ⟨rfl, (List.mem_of_getElem? (i := 101) rfl)⟩, fun h => absurd h (by decide), fun _ => (List.mem_of_getElem? (i := 102) rfl), fun h => absurd h (by decide)⟩
theorem cal41 : CalOk (pj lw) tables_1 "DynamicMinForest" nm bt 41 := ⟨(List.mem_of_getElem? (i := 77) rfl), (List.mem_of_getElem? (i := 2) rfl), ⟨[.int], some .int, by decide +kernel, rfl⟩, fun h => absurd h (by decide), fun _ => ⟨rfl, (List.mem_of_getElem? (i := 75) rfl)⟩, fun h => absurd h (by decide), fun _ => (List.mem_of_getElem? (i := 76) rfl), fun h => absurd h (by decide)⟩
theorem cal102 : CalOk (pj lw) tables_1 "DynamicMinForest" nm bt 102 := ⟨(List.mem_of_getElem? (i := 52) rfl), (List.mem_of_getElem? (i := 51) rfl), ⟨[.int], some .int, by decide +kernel, rfl⟩, fun _ => (List.mem_of_getElem? (i := 50) rfl), fun h => absurd rfl h, fun h => absurd h (by decide), fun h => absurd h (by decide), fun h => absurd h (by decide)⟩
theorem cal103 : CalOk (pj lw) tables_1 "DynamicMinForest" nm bt 103 := ⟨(List.mem_of_getElem? (i := 60) rfl), (List.mem_of_getElem? (i := 51) rfl), ⟨[.int, .int, .int, .int], some .int, by decide +kernel, rfl⟩, fun _ => (List.mem_of_getElem? (i := 59) rfl), fun h => absurd rfl h, fun h => absurd h (by decide), fun h => absurd h (by decide), fun h => absurd h (by decide)⟩
theorem cal104 : CalOk (pj lw) tables_1 "DynamicMinForest" nm bt 104 := ⟨(List.mem_of_getElem? (i := 57) rfl), (List.mem_of_getElem? (i := 51) rfl), ⟨[.int, .int, .int, .int, .int], some .int, by decide +kernel, rfl⟩, fun _ => (List.mem_of_getElem? (i := 56) rfl), fun h => absurd rfl h, fun h => absurd h (by decide), fun h => absurd h (by decide), fun h => absurd h (by decide)⟩
theorem hcal : ∀ m ∈ RL, m ≠ 100 → CalOk (pj lw) tables_1 "DynamicMinForest" nm bt m := (faS (fun _ => cal1) (faS (fun _ => cal2) (faS (fun _ => cal3) (faS (fun _ => cal5) (faS (fun _ => cal6) (faS (fun _ => cal10) (faS (fun _ => cal12) (faS (fun _ => cal14) (faS (fun _ => cal15) (faS (fun _ => cal16) (faS (fun _ => cal17) (faS (fun _ => cal18) (faS (fun _ => cal19) (faS (fun _ => cal21) (faS (fun _ => cal22) (faS (fun _ => cal23) (faS (fun _ => cal24) (faS (fun _ => cal25) (faS (fun _ => cal26) (faS (fun _ => cal27) (faS (fun _ => cal28) (faS (fun _ => cal29) (faS (fun _ => cal30) (faS (fun _ => cal31) (faS (fun _ => cal32) (faS (fun _ => cal33) (faS (fun _ => cal34) (faS (fun _ => cal35) (faS (fun _ => cal36) (faS (fun _ => cal37) (faS (fun _ => cal38) (faS (fun _ => cal39) (faS (fun _ => cal40) (faS (fun _ => cal41) (faS (fun h => absurd rfl h) (faS (fun _ => cal102) (faS (fun _ => cal103) (faS (fun _ => cal104) fa0))))))))))))))))))))))))))))))))))))))
theorem hfld : ∀ k ∈ FS, parseFieldDescriptor (fn k).2 = some ((pj lw).2.2.1 k) ∧ (Jvm.Cond.lays "DynamicMinForest" "DynamicMinForest" (fn k).1 (fn k).2 ∈ tables_1 ∨ Jvm.Cond.laysFinal "DynamicMinForest" "DynamicMinForest" (fn k).1 (fn k).2 ∈ tables_1) := (faS ⟨by decide +kernel, Or.inl (List.mem_of_getElem? (i := 34) rfl)⟩ (faS ⟨by decide +kernel, Or.inl (List.mem_of_getElem? (i := 11) rfl)⟩ (faS ⟨by decide +kernel, Or.inl (List.mem_of_getElem? (i := 13) rfl)⟩ (faS ⟨by decide +kernel, Or.inl (List.mem_of_getElem? (i := 15) rfl)⟩ (faS ⟨by decide +kernel, Or.inl (List.mem_of_getElem? (i := 18) rfl)⟩ (faS ⟨by decide +kernel, Or.inl (List.mem_of_getElem? (i := 20) rfl)⟩ (faS ⟨by decide +kernel, Or.inl (List.mem_of_getElem? (i := 22) rfl)⟩ (faS ⟨by decide +kernel, Or.inl (List.mem_of_getElem? (i := 24) rfl)⟩ (faS ⟨by decide +kernel, Or.inl (List.mem_of_getElem? (i := 26) rfl)⟩ (faS ⟨by decide +kernel, Or.inl (List.mem_of_getElem? (i := 28) rfl)⟩ (faS ⟨by decide +kernel, Or.inl (List.mem_of_getElem? (i := 30) rfl)⟩ (faS ⟨by decide +kernel, Or.inl (List.mem_of_getElem? (i := 32) rfl)⟩ (faS ⟨by decide +kernel, Or.inl (List.mem_of_getElem? (i := 36) rfl)⟩ (faS ⟨by decide +kernel, Or.inl (List.mem_of_getElem? (i := 38) rfl)⟩ (faS ⟨by decide +kernel, Or.inl (List.mem_of_getElem? (i := 40) rfl)⟩ (faS ⟨by decide +kernel, Or.inl (List.mem_of_getElem? (i := 42) rfl)⟩ (faS ⟨by decide +kernel, Or.inl (List.mem_of_getElem? (i := 44) rfl)⟩ fa0)))))))))))))))))
theorem good : Good (pj lw) tables_1 "DynamicMinForest" fn FS 17 nm bt RL 100 := by
  refine ⟨(List.mem_of_getElem? (i := 1) rfl), (List.mem_of_getElem? (i := 2) rfl), hfld, by decide +kernel, fun m hm => ?_, hcal, fun m _ pc ins len aux _ _ => by cases ins <;> rfl⟩
  have hpl : plainName "DynamicMinForest" = true ∧ plainName "DynamicMinForestL3" = true := ⟨by first | (simp [plainName, overriddenIn]; done) | decide +kernel, by first | (simp [plainName, overriddenIn]; done) | decide +kernel⟩
  have hcn : ∀ m ∈ RL, (nm m).cls = cn (own m) := by decide +kernel
  have hin : ∀ m ∈ RL, ini m = true → (nm m).cls = "DynamicMinForest" ∧ (nm m).name = "<init>" := by decide +kernel
  have hor : (nm m).cls = "DynamicMinForest" ∨ (nm m).cls = "DynamicMinForestL3" := by rw [hcn m hm]; unfold cn; split <;> simp
  refine ⟨by rcases hor with h | h <;> rw [h] <;> simp [hpl], by rcases hor with h | h <;> rw [h] <;> decide, fun pc ins len aux h => ?_⟩
  have hmem : (pc, ins, len, aux) ∈ rowsOf m := by
    unfold rowsOf
    by_cases g : m < 100
    · rw [if_pos g]; exact lookup_mem (by simpa [pj, g] using h)
    · rw [if_neg g]; exact lookup_mem (by simpa [pj, lw, g] using h)
  have hrow := List.all_eq_true.mp (List.all_eq_true.mp hrows m hm) _ hmem
  simp only [rowOne, Bool.and_eq_true, decide_eq_true_eq] at hrow
  exact ⟨hrow.1.1, hrow.1.2, row_ok (hcn m hm) (hin m hm) hFL hWF hML hKI hKJ hAT (List.mem_of_getElem? (i := 0) rfl) ⟨(List.mem_of_getElem? (i := 6) rfl), (List.mem_of_getElem? (i := 7) rfl), (List.mem_of_getElem? (i := 8) rfl)⟩ hrow.2⟩
set_option maxRecDepth 65536 in
set_option maxHeartbeats 40000000 in
theorem comes_1 {Post : Tables → Env → Array Value → State → Outcome → State → Prop} (hpost : ∀ tb e args s v u, (limb_1_1.after args s (.returned v) u = true ∧ limb_1_2.after args s (.returned v) u = true ∧ True) → FrameEnd s (.returned v) u (Jvm.fieldLocs frame_1_writes args s ++ Jvm.arrayLocs frame_1_arrays args s ++ Jvm.staticLocs frame_1_statics s) 32 3776 → Post tb e args s (.returned v) u) :
    ArmFor flags0 classFile x code maxLocals ret World_1 tables_1 room_1 Calls_1 rest_1 Pre_1 Post := by
  intro l hfl _ _ p e ha hc hk s m args below hf hA hF happ hP
  obtain ⟨hcalls, hrest, hpre⟩ := hP
  obtain ⟨-, -, -, hnamed, -, -, -, hat⟩ := (Spec.applies_iff hf).mp happ
  obtain ⟨hg, hn⟩ := and_e (Cond.before_iff.mp (show (Jvm.Cond.and given_1 narrow_1).before args s = true from hpre))
  have hw := fun d (hd : d ∈ tables_1) => atoms_spec (ws := Jvm.Cond.code x code maxLocals ret :: tables_1) hat d (List.mem_cons_of_mem _ hd)
  obtain ⟨g0, r0⟩ := and_e hg
  obtain ⟨w0, w1, w2, rfl⟩ : ∃ w0 w1 w2 : Value, args = #[w0, w1, w2] := by
    have hs : args.size = 3 := by simpa [Cond.value, given_1] using g0
    obtain ⟨L⟩ := args
    match L, hs with
    | [w0, w1, w2], _ => exact ⟨w0, w1, w2, rfl⟩
  obtain ⟨g1, r1⟩ := and_e r0
  obtain ⟨g2, r2⟩ := and_e r1
  have g3 := r2
  obtain ⟨i0, e0⟩ := is_v g1
  obtain rfl : w0 = (.int i0) := Option.some.inj e0
  obtain ⟨i1, e1⟩ := is_v g2
  obtain rfl : w1 = (.int i1) := Option.some.inj e1
  obtain ⟨i2, e2⟩ := is_v g3
  obtain rfl : w2 = (.int i2) := Option.some.inj e2
  obtain ⟨n, o, h1, h2, h3, _, L, rfl, ⟨N, H2, rfl⟩, hq⟩ := law_met (l := l) (Z := s) (a0 := _) (n0 := s.heap.size) good hw (as := [.int i0, .int i1, .int i2]) (h := s.heap) tables_1 (by decide) (by simp [Sym.laidSlots, Value.category]; decide) (rel_H0 s.heap) (law_ok i0 i1 i2 s.heap.size) p e ha hc hk s m _ below hf ((Spec.applies_iff_loose hf).mp happ).1 ⟨rfl, State.Warmed39.refl s, rfl⟩ trivial
  exact ⟨n, _, h1, h2, h3, hpost _ _ _ _ _ _ ⟨Cond.after_iff.mpr rfl, Cond.after_iff.mpr (eq_i res_at (Term.int_eval (1)) rfl), trivial⟩ ⟨hq.1, hq.2.1, (hq.2.2.sift fun y hy => Or.inr (N y hy)).mono (by decide) (by decide)⟩⟩
theorem main_1_1 : Claimed_1_1 := comes_1 fun _ _ _ _ _ _ h hF => ⟨h.1, hF⟩
theorem main_1_2 : Claimed_1_2 := comes_1 fun _ _ _ _ _ _ h hF => ⟨h.2.1, hF⟩
end Jvm.Pilot.@@N@@
namespace Jvm.Pilot.@@N@@
open Jvm Jvm.ClassFile Sem Op Lib Jvm.Free Jvm.Stand Jvm.Pilot.@@N@@.Jvm.D
/-! MADE BY PROGRAM (witnessworld.py) out of the Statement's table words and the real class files: 11 classes; the members and pool entries that the words name. The judged class is class 1, her method 4. -/
namespace start1
open Jvm.ClassFile
def u (s : String) : CpInfo := .utf8 (stringToUtf16 s)
/-- a pool by its gaps: so many unusable entries, then the entry; so many at the end -/
def gap : Nat → List CpInfo → List CpInfo
  | 0, r => r
  | n + 1, r => .unusable :: gap n r
def poolList (es : List (Nat × CpInfo)) (last : Nat) : List CpInfo := es.foldr (fun e r => gap e.1 (e.2 :: r)) (gap last [])
def pool (es : List (Nat × CpInfo)) (last : Nat) : Array CpInfo := ⟨poolList es last⟩
def fileOf (pool : Array CpInfo) (this : Nat) (attrs : Array Attribute := #[]) (ms : Array MethodInfo := #[]) (fl : Nat := 33) (sup : Nat := 0) (ifs : Array Nat := #[]) (fds : Array FieldInfo := #[]) : ClassFile where
  minorVersion := 0
  majorVersion := 65
  constantPool := pool
  accessFlags := fl
  thisClass := this
  superClass := sup
  interfaces := ifs
  fields := fds
  methods := ms
  attributes := attrs
def plain (name : String) (sup : Option ClassId) : Class where
  name := name
  kind := .ordinary
  loader := none
  accessFlags := 33
  super := sup
  interfaces := #[]
  cf := none
  fields := #[]
  methods := #[]
  instanceTypes := #[]
  staticTypes := #[]
  resolved := #[]
  callSites := []
  init := .initialized
  statics := none
  mirror := none

def pool0 : Array CpInfo := pool [(5, u "<init>"), (0, u "()V"), (1, .class_ 10), (1, u "java/lang/Object")] 113

def k0c0 : Code := { maxStack := 0, maxLocals := 1, code := object_method_1_code, exceptionTable := #[], attributes := #[] }
def k0m0 : Method := { name := "<init>", desc := "()V", sig := { parameters := [], returnType := none }, accessFlags := 1, code := some k0c0 }
/-- java/lang/Object -/
def k0 : Class := { plain "java/lang/Object" none with
  accessFlags := 33
  interfaces := #[]
  cf := some (fileOf pool0 8 #[] #[{ accessFlags := 1, nameIndex := 5, descriptorIndex := 6, attributes := #[] }] 33 0 #[] #[])
  fields := #[]
  methods := #[k0m0]
  instanceTypes := #[]
  staticTypes := #[]
  resolved := Array.replicate 124 none
  statics := none }

def pool1 : Array CpInfo := pool [(2, .class_ 4), (1, u "java/lang/Object"), (0, u "<init>"), (0, u "()V"), (0, .class_ 8), (0, u "DynamicMinForest"), (0, .integer 4293967296), (0, .integer 1000000), (0, .methodref 12 13), (0, .class_ 14), (0, .nameAndType 15 16), (0, u "DynamicMinForestL3"), (0, u "wt"), (0, u "(IIII)I"), (0, .methodref 7 18), (0, .nameAndType 5 19), (0, u "(I)V"), (0, .methodref 12 21), (0, .nameAndType 22 23), (0, u "cl"), (0, u "(I)I"), (0, .methodref 12 25), (0, .nameAndType 26 27), (0, u "later"), (0, u "(IIIII)I"), (0, .methodref 7 29), (0, .nameAndType 30 31), (0, u "addEdge"), (0, u "(III)I"), (0, .methodref 7 33), (0, .nameAndType 34 35), (0, u "lastEntered"), (0, u "()I"), (0, .methodref 7 37), (0, .nameAndType 38 35), (0, u "lastLeft"), (0, .methodref 7 40), (0, .nameAndType 41 42), (0, u "isTreeEdge"), (0, u "(I)Z"), (0, .methodref 7 44), (0, .nameAndType 45 46), (0, u "forestWeight"), (0, u "()J"), (0, .methodref 7 48), (0, .nameAndType 49 35), (0, u "componentCount"), (0, .methodref 7 51), (0, .nameAndType 52 53), (0, u "pathMaxEdge"), (0, u "(II)I"), (0, .methodref 7 55), (0, .nameAndType 56 23), (0, u "replacementFor"), (0, .methodref 7 58), (0, .nameAndType 59 42), (0, u "removeEdge"), (3, u "law"), (0, u "(III)Z")] 2

def k1m0 : Method := { name := "<init>", desc := "()V", sig := { parameters := [], returnType := none }, accessFlags := 1, code := none }
def k1c1 : Code := { maxStack := 2, maxLocals := 3, code := method_2_code, exceptionTable := #[], attributes := #[] }
def k1m1 : Method := { name := "cl", desc := "(I)I", sig := { parameters := [.int], returnType := some .int }, accessFlags := 10, code := some k1c1 }
def k1c2 : Code := { maxStack := 2, maxLocals := 4, code := method_3_code, exceptionTable := #[], attributes := #[] }
def k1m2 : Method := { name := "wt", desc := "(IIII)I", sig := { parameters := [.int, .int, .int, .int], returnType := some .int }, accessFlags := 10, code := some k1c2 }
def k1c3 : Code := { maxStack := 4, maxLocals := 8, code := method_4_code, exceptionTable := #[], attributes := #[] }
def k1m3 : Method := { name := "later", desc := "(IIIII)I", sig := { parameters := [.int, .int, .int, .int, .int], returnType := some .int }, accessFlags := 10, code := some k1c3 }
def k1c4 : Code := { maxStack := 6, maxLocals := 19, code := code, exceptionTable := #[], attributes := #[] }
def k1m4 : Method := { name := "law", desc := "(III)Z", sig := { parameters := [.int, .int, .int], returnType := some .boolean }, accessFlags := 9, code := some k1c4 }
/-- DynamicMinForestL3 -/
def k1 : Class := { plain "DynamicMinForestL3" (some 0) with
  accessFlags := 49
  interfaces := #[]
  cf := some (fileOf pool1 12 #[] #[{ accessFlags := 1, nameIndex := 5, descriptorIndex := 6, attributes := #[] }, { accessFlags := 10, nameIndex := 22, descriptorIndex := 23, attributes := #[] }, { accessFlags := 10, nameIndex := 15, descriptorIndex := 16, attributes := #[] }, { accessFlags := 10, nameIndex := 26, descriptorIndex := 27, attributes := #[] }, { accessFlags := 9, nameIndex := 63, descriptorIndex := 64, attributes := #[] }] 49 2 #[] #[])
  fields := #[]
  methods := #[k1m0, k1m1, k1m2, k1m3, k1m4]
  instanceTypes := #[]
  staticTypes := #[]
  resolved := Array.replicate 67 none
  statics := none }

def pool2 : Array CpInfo := pool [(1, .methodref 2 3), (0, .class_ 4), (0, .nameAndType 5 6), (0, u "java/lang/Object"), (0, u "<init>"), (0, u "()V"), (0, .fieldref 8 9), (0, .class_ 10), (0, .nameAndType 11 12), (0, u "DynamicMinForest"), (0, u "endA"), (0, u "[I"), (0, .fieldref 8 14), (0, .nameAndType 15 12), (0, u "endB"), (0, .fieldref 8 17), (0, .nameAndType 18 12), (0, u "weight"), (0, .fieldref 8 20), (0, .nameAndType 21 22), (0, u "used"), (0, u "[Z"), (0, .fieldref 8 24), (0, .nameAndType 25 22), (0, u "inTree"), (0, .fieldref 8 27), (0, .nameAndType 28 12), (0, u "adj"), (0, .fieldref 8 30), (0, .nameAndType 31 12), (0, u "deg"), (0, .fieldref 8 33), (0, .nameAndType 34 22), (0, u "seen"), (0, .fieldref 8 36), (0, .nameAndType 37 12), (0, u "parentEdge"), (0, .fieldref 8 39), (0, .nameAndType 40 12), (0, u "parentVertex"), (0, .fieldref 8 42), (0, .nameAndType 43 12), (0, u "queue"), (0, .fieldref 8 45), (0, .nameAndType 46 47), (0, u "n"), (0, u "I"), (0, .fieldref 8 49), (0, .nameAndType 50 47), (0, u "presentCount"), (0, .fieldref 8 52), (0, .nameAndType 53 47), (0, u "treeCount"), (0, .fieldref 8 55), (0, .nameAndType 56 57), (0, u "treeWeight"), (0, u "J"), (0, .fieldref 8 59), (0, .nameAndType 60 47), (0, u "entered"), (0, .fieldref 8 62), (0, .nameAndType 63 47), (0, u "left"), (0, .methodref 8 65), (0, .nameAndType 66 6), (0, u "resetSearch"), (0, .methodref 8 68), (0, .nameAndType 69 70), (0, u "validVertex"), (0, u "(I)Z"), (0, .methodref 8 72), (0, .nameAndType 73 74), (0, u "lowestFreeSlot"), (0, u "()I"), (0, .methodref 8 76), (0, .nameAndType 77 78), (0, u "clampWeight"), (0, u "(I)I"), (0, .methodref 8 80), (0, .nameAndType 81 82), (0, u "storeEdge"), (0, u "(IIII)V"), (0, .methodref 8 84), (0, .nameAndType 85 86), (0, u "insertUpdate"), (0, u "(I)V"), (0, .methodref 8 88), (0, .nameAndType 89 70), (0, u "isPresent"), (0, .methodref 8 91), (0, .nameAndType 92 86), (0, u "freeSlot"), (0, .methodref 8 94), (0, .nameAndType 95 96), (0, u "setLast"), (0, u "(II)V"), (0, .methodref 8 98), (0, .nameAndType 99 86), (0, u "cutTreeEdge"), (3, .methodref 8 104), (0, .nameAndType 105 70), (0, u "validId"), (0, .methodref 8 107), (0, .nameAndType 108 109), (0, u "explore"), (0, u "(II)I"), (0, .methodref 8 111), (0, .nameAndType 112 78), (0, u "heaviestOnPathTo"), (0, .methodref 8 114), (0, .nameAndType 115 70), (0, u "isTreeEdge"), (0, .methodref 8 117), (0, .nameAndType 118 74), (0, u "lightestCrossing"), (0, .methodref 8 120), (0, .nameAndType 121 86), (0, u "joinTree"), (0, .methodref 8 123), (0, .nameAndType 124 125), (0, u "precedes"), (0, u "(II)Z"), (0, .methodref 8 127), (0, .nameAndType 128 86), (0, u "leaveTree"), (0, .methodref 8 130), (0, .nameAndType 131 96), (0, u "addAdjacent"), (0, .methodref 8 133), (0, .nameAndType 134 96), (0, u "removeAdjacent"), (0, .methodref 8 136), (0, .nameAndType 137 138), (0, u "visitNeighbours"), (0, u "(III)I"), (0, .methodref 8 140), (0, .nameAndType 141 109), (0, u "otherEnd"), (0, .methodref 8 143), (0, .nameAndType 144 109), (0, u "heavier"), (0, .methodref 8 146), (0, .nameAndType 147 70), (0, u "crosses"), (0, .methodref 8 149), (0, .nameAndType 150 109), (0, u "lighter"), (0, .integer 4293967296), (0, .integer 1000000), (0, u "MIN_VERTICES"), (2, u "MAX_VERTICES"), (1, u "MAX_EDGES"), (1, u "MIN_WEIGHT"), (0, u "MAX_WEIGHT"), (0, u "NONE"), (1, u "ERR_VERTEX"), (1, u "ERR_LOOP"), (1, u "ERR_FULL"), (4, u "addEdge"), (0, u "removeEdge"), (4, u "forestWeight"), (0, u "()J"), (1, u "componentCount"), (1, u "pathMaxEdge"), (0, u "replacementFor"), (0, u "lastEntered"), (0, u "lastLeft")] 2

def k2c0 : Code := { maxStack := 3, maxLocals := 4, code := prog_1_method_1_code, exceptionTable := #[], attributes := #[] }
def k2m0 : Method := { name := "<init>", desc := "(I)V", sig := { parameters := [.int], returnType := none }, accessFlags := 1, code := some k2c0 }
def k2c1 : Code := { maxStack := 5, maxLocals := 6, code := prog_1_method_2_code, exceptionTable := #[], attributes := #[] }
def k2m1 : Method := { name := "addEdge", desc := "(III)I", sig := { parameters := [.int, .int, .int], returnType := some .int }, accessFlags := 1, code := some k2c1 }
def k2c2 : Code := { maxStack := 3, maxLocals := 2, code := prog_1_method_3_code, exceptionTable := #[], attributes := #[] }
def k2m2 : Method := { name := "removeEdge", desc := "(I)Z", sig := { parameters := [.int], returnType := some .boolean }, accessFlags := 1, code := some k2c2 }
def k2c3 : Code := { maxStack := 2, maxLocals := 2, code := prog_1_method_5_code, exceptionTable := #[], attributes := #[] }
def k2m3 : Method := { name := "isPresent", desc := "(I)Z", sig := { parameters := [.int], returnType := some .boolean }, accessFlags := 1, code := some k2c3 }
def k2c4 : Code := { maxStack := 2, maxLocals := 2, code := prog_1_method_6_code, exceptionTable := #[], attributes := #[] }
def k2m4 : Method := { name := "isTreeEdge", desc := "(I)Z", sig := { parameters := [.int], returnType := some .boolean }, accessFlags := 1, code := some k2c4 }
def k2c5 : Code := { maxStack := 2, maxLocals := 1, code := prog_1_method_10_code, exceptionTable := #[], attributes := #[] }
def k2m5 : Method := { name := "forestWeight", desc := "()J", sig := { parameters := [], returnType := some .long }, accessFlags := 1, code := some k2c5 }
def k2c6 : Code := { maxStack := 2, maxLocals := 1, code := prog_1_method_12_code, exceptionTable := #[], attributes := #[] }
def k2m6 : Method := { name := "componentCount", desc := "()I", sig := { parameters := [], returnType := some .int }, accessFlags := 1, code := some k2c6 }
def k2c7 : Code := { maxStack := 3, maxLocals := 3, code := prog_1_method_14_code, exceptionTable := #[], attributes := #[] }
def k2m7 : Method := { name := "pathMaxEdge", desc := "(II)I", sig := { parameters := [.int, .int], returnType := some .int }, accessFlags := 1, code := some k2c7 }
def k2c8 : Code := { maxStack := 3, maxLocals := 2, code := prog_1_method_15_code, exceptionTable := #[], attributes := #[] }
def k2m8 : Method := { name := "replacementFor", desc := "(I)I", sig := { parameters := [.int], returnType := some .int }, accessFlags := 1, code := some k2c8 }
def k2c9 : Code := { maxStack := 1, maxLocals := 1, code := prog_1_method_16_code, exceptionTable := #[], attributes := #[] }
def k2m9 : Method := { name := "lastEntered", desc := "()I", sig := { parameters := [], returnType := some .int }, accessFlags := 1, code := some k2c9 }
def k2c10 : Code := { maxStack := 1, maxLocals := 1, code := prog_1_method_17_code, exceptionTable := #[], attributes := #[] }
def k2m10 : Method := { name := "lastLeft", desc := "()I", sig := { parameters := [], returnType := some .int }, accessFlags := 1, code := some k2c10 }
def k2c11 : Code := { maxStack := 3, maxLocals := 4, code := prog_1_method_18_code, exceptionTable := #[], attributes := #[] }
def k2m11 : Method := { name := "insertUpdate", desc := "(I)V", sig := { parameters := [.int], returnType := none }, accessFlags := 2, code := some k2c11 }
def k2c12 : Code := { maxStack := 3, maxLocals := 3, code := prog_1_method_19_code, exceptionTable := #[], attributes := #[] }
def k2m12 : Method := { name := "cutTreeEdge", desc := "(I)V", sig := { parameters := [.int], returnType := none }, accessFlags := 2, code := some k2c12 }
def k2c13 : Code := { maxStack := 2, maxLocals := 3, code := prog_1_method_21_code, exceptionTable := #[], attributes := #[] }
def k2m13 : Method := { name := "setLast", desc := "(II)V", sig := { parameters := [.int, .int], returnType := none }, accessFlags := 2, code := some k2c13 }
def k2c14 : Code := { maxStack := 2, maxLocals := 2, code := prog_1_method_22_code, exceptionTable := #[], attributes := #[] }
def k2m14 : Method := { name := "lowestFreeSlot", desc := "()I", sig := { parameters := [], returnType := some .int }, accessFlags := 2, code := some k2c14 }
def k2c15 : Code := { maxStack := 3, maxLocals := 5, code := prog_1_method_23_code, exceptionTable := #[], attributes := #[] }
def k2m15 : Method := { name := "storeEdge", desc := "(IIII)V", sig := { parameters := [.int, .int, .int, .int], returnType := none }, accessFlags := 2, code := some k2c15 }
def k2c16 : Code := { maxStack := 3, maxLocals := 2, code := prog_1_method_24_code, exceptionTable := #[], attributes := #[] }
def k2m16 : Method := { name := "freeSlot", desc := "(I)V", sig := { parameters := [.int], returnType := none }, accessFlags := 2, code := some k2c16 }
def k2c17 : Code := { maxStack := 5, maxLocals := 2, code := prog_1_method_25_code, exceptionTable := #[], attributes := #[] }
def k2m17 : Method := { name := "joinTree", desc := "(I)V", sig := { parameters := [.int], returnType := none }, accessFlags := 2, code := some k2c17 }
def k2c18 : Code := { maxStack := 5, maxLocals := 2, code := prog_1_method_26_code, exceptionTable := #[], attributes := #[] }
def k2m18 : Method := { name := "leaveTree", desc := "(I)V", sig := { parameters := [.int], returnType := none }, accessFlags := 2, code := some k2c18 }
def k2c19 : Code := { maxStack := 4, maxLocals := 3, code := prog_1_method_27_code, exceptionTable := #[], attributes := #[] }
def k2m19 : Method := { name := "addAdjacent", desc := "(II)V", sig := { parameters := [.int, .int], returnType := none }, accessFlags := 2, code := some k2c19 }
def k2c20 : Code := { maxStack := 6, maxLocals := 5, code := prog_1_method_28_code, exceptionTable := #[], attributes := #[] }
def k2m20 : Method := { name := "removeAdjacent", desc := "(II)V", sig := { parameters := [.int, .int], returnType := none }, accessFlags := 2, code := some k2c20 }
def k2c21 : Code := { maxStack := 3, maxLocals := 2, code := prog_1_method_29_code, exceptionTable := #[], attributes := #[] }
def k2m21 : Method := { name := "resetSearch", desc := "()V", sig := { parameters := [], returnType := none }, accessFlags := 2, code := some k2c21 }
def k2c22 : Code := { maxStack := 4, maxLocals := 5, code := prog_1_method_30_code, exceptionTable := #[], attributes := #[] }
def k2m22 : Method := { name := "explore", desc := "(II)I", sig := { parameters := [.int, .int], returnType := some .int }, accessFlags := 2, code := some k2c22 }
def k2c23 : Code := { maxStack := 3, maxLocals := 9, code := prog_1_method_31_code, exceptionTable := #[], attributes := #[] }
def k2m23 : Method := { name := "visitNeighbours", desc := "(III)I", sig := { parameters := [.int, .int, .int], returnType := some .int }, accessFlags := 2, code := some k2c23 }
def k2c24 : Code := { maxStack := 3, maxLocals := 6, code := prog_1_method_32_code, exceptionTable := #[], attributes := #[] }
def k2m24 : Method := { name := "heaviestOnPathTo", desc := "(I)I", sig := { parameters := [.int], returnType := some .int }, accessFlags := 2, code := some k2c24 }
def k2c25 : Code := { maxStack := 3, maxLocals := 3, code := prog_1_method_33_code, exceptionTable := #[], attributes := #[] }
def k2m25 : Method := { name := "lightestCrossing", desc := "()I", sig := { parameters := [], returnType := some .int }, accessFlags := 2, code := some k2c25 }
def k2c26 : Code := { maxStack := 3, maxLocals := 4, code := prog_1_method_34_code, exceptionTable := #[], attributes := #[] }
def k2m26 : Method := { name := "crosses", desc := "(I)Z", sig := { parameters := [.int], returnType := some .boolean }, accessFlags := 2, code := some k2c26 }
def k2c27 : Code := { maxStack := 2, maxLocals := 3, code := prog_1_method_35_code, exceptionTable := #[], attributes := #[] }
def k2m27 : Method := { name := "otherEnd", desc := "(II)I", sig := { parameters := [.int, .int], returnType := some .int }, accessFlags := 2, code := some k2c27 }
def k2c28 : Code := { maxStack := 3, maxLocals := 3, code := prog_1_method_36_code, exceptionTable := #[], attributes := #[] }
def k2m28 : Method := { name := "precedes", desc := "(II)Z", sig := { parameters := [.int, .int], returnType := some .boolean }, accessFlags := 2, code := some k2c28 }
def k2c29 : Code := { maxStack := 3, maxLocals := 3, code := prog_1_method_37_code, exceptionTable := #[], attributes := #[] }
def k2m29 : Method := { name := "lighter", desc := "(II)I", sig := { parameters := [.int, .int], returnType := some .int }, accessFlags := 2, code := some k2c29 }
def k2c30 : Code := { maxStack := 3, maxLocals := 3, code := prog_1_method_38_code, exceptionTable := #[], attributes := #[] }
def k2m30 : Method := { name := "heavier", desc := "(II)I", sig := { parameters := [.int, .int], returnType := some .int }, accessFlags := 2, code := some k2c30 }
def k2c31 : Code := { maxStack := 2, maxLocals := 2, code := prog_1_method_39_code, exceptionTable := #[], attributes := #[] }
def k2m31 : Method := { name := "validVertex", desc := "(I)Z", sig := { parameters := [.int], returnType := some .boolean }, accessFlags := 2, code := some k2c31 }
def k2c32 : Code := { maxStack := 2, maxLocals := 2, code := prog_1_method_40_code, exceptionTable := #[], attributes := #[] }
def k2m32 : Method := { name := "validId", desc := "(I)Z", sig := { parameters := [.int], returnType := some .boolean }, accessFlags := 2, code := some k2c32 }
def k2c33 : Code := { maxStack := 2, maxLocals := 2, code := prog_1_method_41_code, exceptionTable := #[], attributes := #[] }
def k2m33 : Method := { name := "clampWeight", desc := "(I)I", sig := { parameters := [.int], returnType := some .int }, accessFlags := 2, code := some k2c33 }
/-- DynamicMinForest -/
def k2 : Class := { plain "DynamicMinForest" (some 0) with
  accessFlags := 49
  interfaces := #[]
  cf := some (fileOf pool2 8 #[] #[{ accessFlags := 1, nameIndex := 5, descriptorIndex := 86, attributes := #[] }, { accessFlags := 1, nameIndex := 173, descriptorIndex := 138, attributes := #[] }, { accessFlags := 1, nameIndex := 174, descriptorIndex := 70, attributes := #[] }, { accessFlags := 1, nameIndex := 89, descriptorIndex := 70, attributes := #[] }, { accessFlags := 1, nameIndex := 115, descriptorIndex := 70, attributes := #[] }, { accessFlags := 1, nameIndex := 179, descriptorIndex := 180, attributes := #[] }, { accessFlags := 1, nameIndex := 182, descriptorIndex := 74, attributes := #[] }, { accessFlags := 1, nameIndex := 184, descriptorIndex := 109, attributes := #[] }, { accessFlags := 1, nameIndex := 185, descriptorIndex := 78, attributes := #[] }, { accessFlags := 1, nameIndex := 186, descriptorIndex := 74, attributes := #[] }, { accessFlags := 1, nameIndex := 187, descriptorIndex := 74, attributes := #[] }, { accessFlags := 2, nameIndex := 85, descriptorIndex := 86, attributes := #[] }, { accessFlags := 2, nameIndex := 99, descriptorIndex := 86, attributes := #[] }, { accessFlags := 2, nameIndex := 95, descriptorIndex := 96, attributes := #[] }, { accessFlags := 2, nameIndex := 73, descriptorIndex := 74, attributes := #[] }, { accessFlags := 2, nameIndex := 81, descriptorIndex := 82, attributes := #[] }, { accessFlags := 2, nameIndex := 92, descriptorIndex := 86, attributes := #[] }, { accessFlags := 2, nameIndex := 121, descriptorIndex := 86, attributes := #[] }, { accessFlags := 2, nameIndex := 128, descriptorIndex := 86, attributes := #[] }, { accessFlags := 2, nameIndex := 131, descriptorIndex := 96, attributes := #[] }, { accessFlags := 2, nameIndex := 134, descriptorIndex := 96, attributes := #[] }, { accessFlags := 2, nameIndex := 66, descriptorIndex := 6, attributes := #[] }, { accessFlags := 2, nameIndex := 108, descriptorIndex := 109, attributes := #[] }, { accessFlags := 2, nameIndex := 137, descriptorIndex := 138, attributes := #[] }, { accessFlags := 2, nameIndex := 112, descriptorIndex := 78, attributes := #[] }, { accessFlags := 2, nameIndex := 118, descriptorIndex := 74, attributes := #[] }, { accessFlags := 2, nameIndex := 147, descriptorIndex := 70, attributes := #[] }, { accessFlags := 2, nameIndex := 141, descriptorIndex := 109, attributes := #[] }, { accessFlags := 2, nameIndex := 124, descriptorIndex := 125, attributes := #[] }, { accessFlags := 2, nameIndex := 150, descriptorIndex := 109, attributes := #[] }, { accessFlags := 2, nameIndex := 144, descriptorIndex := 109, attributes := #[] }, { accessFlags := 2, nameIndex := 69, descriptorIndex := 70, attributes := #[] }, { accessFlags := 2, nameIndex := 105, descriptorIndex := 70, attributes := #[] }, { accessFlags := 2, nameIndex := 77, descriptorIndex := 78, attributes := #[] }] 49 2 #[] #[{ accessFlags := 25, nameIndex := 153, descriptorIndex := 47, attributes := #[] }, { accessFlags := 25, nameIndex := 156, descriptorIndex := 47, attributes := #[] }, { accessFlags := 25, nameIndex := 158, descriptorIndex := 47, attributes := #[] }, { accessFlags := 25, nameIndex := 160, descriptorIndex := 47, attributes := #[] }, { accessFlags := 25, nameIndex := 161, descriptorIndex := 47, attributes := #[] }, { accessFlags := 25, nameIndex := 162, descriptorIndex := 47, attributes := #[] }, { accessFlags := 25, nameIndex := 164, descriptorIndex := 47, attributes := #[] }, { accessFlags := 25, nameIndex := 166, descriptorIndex := 47, attributes := #[] }, { accessFlags := 25, nameIndex := 168, descriptorIndex := 47, attributes := #[] }, { accessFlags := 2, nameIndex := 46, descriptorIndex := 47, attributes := #[] }, { accessFlags := 2, nameIndex := 11, descriptorIndex := 12, attributes := #[] }, { accessFlags := 2, nameIndex := 15, descriptorIndex := 12, attributes := #[] }, { accessFlags := 2, nameIndex := 18, descriptorIndex := 12, attributes := #[] }, { accessFlags := 2, nameIndex := 21, descriptorIndex := 22, attributes := #[] }, { accessFlags := 2, nameIndex := 25, descriptorIndex := 22, attributes := #[] }, { accessFlags := 2, nameIndex := 28, descriptorIndex := 12, attributes := #[] }, { accessFlags := 2, nameIndex := 31, descriptorIndex := 12, attributes := #[] }, { accessFlags := 2, nameIndex := 34, descriptorIndex := 22, attributes := #[] }, { accessFlags := 2, nameIndex := 37, descriptorIndex := 12, attributes := #[] }, { accessFlags := 2, nameIndex := 40, descriptorIndex := 12, attributes := #[] }, { accessFlags := 2, nameIndex := 43, descriptorIndex := 12, attributes := #[] }, { accessFlags := 2, nameIndex := 50, descriptorIndex := 47, attributes := #[] }, { accessFlags := 2, nameIndex := 53, descriptorIndex := 47, attributes := #[] }, { accessFlags := 2, nameIndex := 56, descriptorIndex := 57, attributes := #[] }, { accessFlags := 2, nameIndex := 60, descriptorIndex := 47, attributes := #[] }, { accessFlags := 2, nameIndex := 63, descriptorIndex := 47, attributes := #[] }])
  fields := #[{ name := "MIN_VERTICES", type := .int, accessFlags := 25, slot := 0, constantValue := 0 }, { name := "MAX_VERTICES", type := .int, accessFlags := 25, slot := 1, constantValue := 0 }, { name := "MAX_EDGES", type := .int, accessFlags := 25, slot := 2, constantValue := 0 }, { name := "MIN_WEIGHT", type := .int, accessFlags := 25, slot := 3, constantValue := 0 }, { name := "MAX_WEIGHT", type := .int, accessFlags := 25, slot := 4, constantValue := 0 }, { name := "NONE", type := .int, accessFlags := 25, slot := 5, constantValue := 0 }, { name := "ERR_VERTEX", type := .int, accessFlags := 25, slot := 6, constantValue := 0 }, { name := "ERR_LOOP", type := .int, accessFlags := 25, slot := 7, constantValue := 0 }, { name := "ERR_FULL", type := .int, accessFlags := 25, slot := 8, constantValue := 0 }, { name := "n", type := .int, accessFlags := 2, slot := 0, constantValue := 0 }, { name := "endA", type := (.array .int), accessFlags := 2, slot := 1, constantValue := 0 }, { name := "endB", type := (.array .int), accessFlags := 2, slot := 2, constantValue := 0 }, { name := "weight", type := (.array .int), accessFlags := 2, slot := 3, constantValue := 0 }, { name := "used", type := (.array .boolean), accessFlags := 2, slot := 4, constantValue := 0 }, { name := "inTree", type := (.array .boolean), accessFlags := 2, slot := 5, constantValue := 0 }, { name := "adj", type := (.array .int), accessFlags := 2, slot := 6, constantValue := 0 }, { name := "deg", type := (.array .int), accessFlags := 2, slot := 7, constantValue := 0 }, { name := "seen", type := (.array .boolean), accessFlags := 2, slot := 8, constantValue := 0 }, { name := "parentEdge", type := (.array .int), accessFlags := 2, slot := 9, constantValue := 0 }, { name := "parentVertex", type := (.array .int), accessFlags := 2, slot := 10, constantValue := 0 }, { name := "queue", type := (.array .int), accessFlags := 2, slot := 11, constantValue := 0 }, { name := "presentCount", type := .int, accessFlags := 2, slot := 12, constantValue := 0 }, { name := "treeCount", type := .int, accessFlags := 2, slot := 13, constantValue := 0 }, { name := "treeWeight", type := .long, accessFlags := 2, slot := 14, constantValue := 0 }, { name := "entered", type := .int, accessFlags := 2, slot := 15, constantValue := 0 }, { name := "left", type := .int, accessFlags := 2, slot := 16, constantValue := 0 }]
  methods := #[k2m0, k2m1, k2m2, k2m3, k2m4, k2m5, k2m6, k2m7, k2m8, k2m9, k2m10, k2m11, k2m12, k2m13, k2m14, k2m15, k2m16, k2m17, k2m18, k2m19, k2m20, k2m21, k2m22, k2m23, k2m24, k2m25, k2m26, k2m27, k2m28, k2m29, k2m30, k2m31, k2m32, k2m33]
  instanceTypes := #[.int, (.array .int), (.array .int), (.array .int), (.array .boolean), (.array .boolean), (.array .int), (.array .int), (.array .boolean), (.array .int), (.array .int), (.array .int), .int, .int, .long, .int, .int]
  staticTypes := #[.int, .int, .int, .int, .int, .int, .int, .int, .int]
  resolved := Array.replicate 190 none
  statics := none }

def pool3 : Array CpInfo := pool [(1, u "java/lang/Cloneable"), (0, .class_ 1), (0, u "java/lang/Object"), (0, .class_ 3)] 3

/-- java/lang/Cloneable -/
def k3 : Class := { plain "java/lang/Cloneable" (some 0) with
  accessFlags := 1537
  interfaces := #[]
  cf := some (fileOf pool3 2 #[] #[] 1537 4 #[] #[])
  fields := #[]
  methods := #[]
  instanceTypes := #[]
  staticTypes := #[]
  resolved := Array.replicate 8 none
  statics := none }

def pool4 : Array CpInfo := pool [(1, u "java/io/Serializable"), (0, .class_ 1), (0, u "java/lang/Object"), (0, .class_ 3)] 3

/-- java/io/Serializable -/
def k4 : Class := { plain "java/io/Serializable" (some 0) with
  accessFlags := 1537
  interfaces := #[]
  cf := some (fileOf pool4 2 #[] #[] 1537 4 #[] #[])
  fields := #[]
  methods := #[]
  instanceTypes := #[]
  staticTypes := #[]
  resolved := Array.replicate 8 none
  statics := none }

/-- the primitive boolean -/
def k5 : Class := { plain "boolean" none with kind := .primitive 'Z', accessFlags := 0x411 }
/-- [Z -/
def k6 : Class := { plain "[Z" (some 0) with kind := .array 5 .boolean, interfaces := #[3, 4], accessFlags := 1041 }

/-- the primitive byte -/
def k7 : Class := { plain "byte" none with kind := .primitive 'B', accessFlags := 0x411 }
/-- [B -/
def k8 : Class := { plain "[B" (some 0) with kind := .array 7 .byte, interfaces := #[3, 4], accessFlags := 1041 }

/-- the primitive int -/
def k9 : Class := { plain "int" none with kind := .primitive 'I', accessFlags := 0x411 }
/-- [I -/
def k10 : Class := { plain "[I" (some 0) with kind := .array 9 .int, interfaces := #[3, 4], accessFlags := 1041 }

def heap : Heap := #[]
def classes : Array Class := #[k0, k1, k2, k3, k4, k5, k6, k7, k8, k9, k10]
def interned : List (Array UInt16 × Addr) := []
def slotsUsed : Nat := 0
def theMethod : MethodId := ⟨1, 4⟩
def args0 : Array Value := #[.int 5, .int 2, .int 3]
def aboutOver (below : List Frame) : State where
  vm := { classes := classes, interned := interned.toArray }
  heap := heap
  slotsUsed := slotsUsed
  threads := #[{ frames := .invoking theMethod args0 :: below }]
def below0 : List Frame := [.native { method := ⟨0, 0⟩, args := #[] }]
def about1 : State := aboutOver below0
def p0 : Program := .bare "" "" ""
def e0 : Env := launch0.env 0 0 0
theorem w_frames : about1.frames = Frame.invoking theMethod args0 :: below0 := rfl
set_option maxRecDepth 65536 in
theorem w_args : argsFit about1.vm theMethod args0 = true := by decide +kernel
set_option maxRecDepth 65536 in
theorem w_heap : heapFits about1 = true := by decide +kernel
set_option maxRecDepth 65536 in
theorem w_runnable : about1.curStatus? = some .runnable := by decide +kernel
set_option maxRecDepth 65536 in
theorem w_alone : about1.alone = true := by decide +kernel
set_option maxRecDepth 65536 in
theorem w_named : about1.methodNamed? x = some theMethod := by decide +kernel
set_option maxRecDepth 65536 in
theorem w_hears : about1.hears theMethod below0 = true := by decide +kernel
set_option maxRecDepth 65536 in
theorem w_ripe : about1.ripe theMethod args0 below0 = true := by decide +kernel
theorem w_running : about1.status = .running := rfl
set_option maxRecDepth 65536 in
theorem w_room : about1.hasRoom e0.platform room_1 = true :=
  launch0.hasRoom_least _ room_1 (by decide +kernel) (by decide +kernel) (by decide +kernel) (by decide +kernel) (by decide +kernel) (by decide +kernel)
theorem allAtoms_all (ts : List Jvm.Cond) (a : Array Jvm.Value) (st : Jvm.State) : (allAtoms ts).before a st = ts.all (fun c => c.before a st) := by
  induction ts with
  | nil => rfl
  | cons c t ih =>
    show (Jvm.Cond.and c (allAtoms t)).before a st = _
    rw [Jvm.Cond.before_and, ih, List.all_cons]
def words1 : List Jvm.Cond := Jvm.Cond.code x code maxLocals ret :: tables_1
/-- a 'code' word, met by the world's own term for the bytes: nothing is compared byte by byte -/
theorem code_word {y : MethodName} {bytes : ByteArray} {mx : Nat} {rt : Option FieldType} {a : Array Value} {s : State} {m : MethodId} {meth : Method} {c : Code} (h1 : s.methodNamed? y = some m) (h2 : s.vm.method? m = some meth) (h3 : meth.code = some c) (h4 : c.code = bytes)
    (h5 : (c.maxLocals == mx && c.exceptionTable.isEmpty && decide (c.maxStack ≤ mostOperands) && decide (meth.sig.returnType = rt) && !meth.locks && decide (parseMethodDescriptor y.desc = some meth.sig)) = true) : (Jvm.Cond.code y bytes mx rt).before a s = true := by
  simp only [Bool.and_eq_true, beq_iff_eq, Bool.not_eq_true', decide_eq_true_eq] at h5
  obtain ⟨⟨⟨⟨⟨g1, g2⟩, g3⟩, g4⟩, g5⟩, g6⟩ := h5
  simp [Cond.before, Cond.holds, Cond.value, h1, h2, h3, h4, g1, g2, g3, g4, g5, g6]
def isCode : Jvm.Cond → Bool
  | .code _ _ _ _ => true
  | _ => false
theorem all_split {L : List Jvm.Cond} {P : Jvm.Cond → Bool} (h1 : L.all (fun c => isCode c || P c) = true) (h2 : ∀ c ∈ L.filter isCode, P c = true) : L.all P = true := by
  refine List.all_eq_true.mpr fun c hc => ?_
  have h := List.all_eq_true.mp h1 c hc
  rcases Bool.eq_false_or_eq_true (isCode c) with hi | hi
  · exact h2 c (List.mem_filter.mpr ⟨hc, hi⟩)
  · simpa [hi] using h
set_option maxRecDepth 65536 in
theorem w_c0 : (Jvm.Cond.code x code maxLocals ret).before args0 about1 = true := code_word (m := ⟨1, 4⟩) (meth := k1m4) (c := k1c4) (by decide +kernel) rfl rfl rfl (by decide +kernel)
set_option maxRecDepth 65536 in
theorem w_c1 : (Jvm.Cond.code ({ cls := "DynamicMinForest", name := "<init>", desc := "(I)V" } : Jvm.MethodName) prog_1_method_1_code (4 : Nat) (Option.none : Option Jvm.ClassFile.FieldType)).before args0 about1 = true := code_word (m := ⟨2, 0⟩) (meth := k2m0) (c := k2c0) (by decide +kernel) rfl rfl rfl (by decide +kernel)
set_option maxRecDepth 65536 in
theorem w_c2 : (Jvm.Cond.code ({ cls := "java/lang/Object", name := "<init>", desc := "()V" } : Jvm.MethodName) object_method_1_code (1 : Nat) (Option.none : Option Jvm.ClassFile.FieldType)).before args0 about1 = true := code_word (m := ⟨0, 0⟩) (meth := k0m0) (c := k0c0) (by decide +kernel) rfl rfl rfl (by decide +kernel)
set_option maxRecDepth 65536 in
theorem w_c3 : (Jvm.Cond.code ({ cls := "DynamicMinForest", name := "resetSearch", desc := "()V" } : Jvm.MethodName) prog_1_method_29_code (2 : Nat) (Option.none : Option Jvm.ClassFile.FieldType)).before args0 about1 = true := code_word (m := ⟨2, 21⟩) (meth := k2m21) (c := k2c21) (by decide +kernel) rfl rfl rfl (by decide +kernel)
set_option maxRecDepth 65536 in
theorem w_c4 : (Jvm.Cond.code ({ cls := "DynamicMinForestL3", name := "cl", desc := "(I)I" } : Jvm.MethodName) method_2_code (3 : Nat) (Option.some Jvm.ClassFile.FieldType.int)).before args0 about1 = true := code_word (m := ⟨1, 1⟩) (meth := k1m1) (c := k1c1) (by decide +kernel) rfl rfl rfl (by decide +kernel)
set_option maxRecDepth 65536 in
theorem w_c5 : (Jvm.Cond.code ({ cls := "DynamicMinForestL3", name := "later", desc := "(IIIII)I" } : Jvm.MethodName) method_4_code (8 : Nat) (Option.some Jvm.ClassFile.FieldType.int)).before args0 about1 = true := code_word (m := ⟨1, 3⟩) (meth := k1m3) (c := k1c3) (by decide +kernel) rfl rfl rfl (by decide +kernel)
set_option maxRecDepth 65536 in
theorem w_c6 : (Jvm.Cond.code ({ cls := "DynamicMinForestL3", name := "wt", desc := "(IIII)I" } : Jvm.MethodName) method_3_code (4 : Nat) (Option.some Jvm.ClassFile.FieldType.int)).before args0 about1 = true := code_word (m := ⟨1, 2⟩) (meth := k1m2) (c := k1c2) (by decide +kernel) rfl rfl rfl (by decide +kernel)
set_option maxRecDepth 65536 in
theorem w_c7 : (Jvm.Cond.code ({ cls := "DynamicMinForest", name := "addEdge", desc := "(III)I" } : Jvm.MethodName) prog_1_method_2_code (6 : Nat) (Option.some Jvm.ClassFile.FieldType.int)).before args0 about1 = true := code_word (m := ⟨2, 1⟩) (meth := k2m1) (c := k2c1) (by decide +kernel) rfl rfl rfl (by decide +kernel)
set_option maxRecDepth 65536 in
theorem w_c8 : (Jvm.Cond.code ({ cls := "DynamicMinForest", name := "validVertex", desc := "(I)Z" } : Jvm.MethodName) prog_1_method_39_code (2 : Nat) (Option.some Jvm.ClassFile.FieldType.boolean)).before args0 about1 = true := code_word (m := ⟨2, 31⟩) (meth := k2m31) (c := k2c31) (by decide +kernel) rfl rfl rfl (by decide +kernel)
set_option maxRecDepth 65536 in
theorem w_c9 : (Jvm.Cond.code ({ cls := "DynamicMinForest", name := "lowestFreeSlot", desc := "()I" } : Jvm.MethodName) prog_1_method_22_code (2 : Nat) (Option.some Jvm.ClassFile.FieldType.int)).before args0 about1 = true := code_word (m := ⟨2, 14⟩) (meth := k2m14) (c := k2c14) (by decide +kernel) rfl rfl rfl (by decide +kernel)
set_option maxRecDepth 65536 in
theorem w_c10 : (Jvm.Cond.code ({ cls := "DynamicMinForest", name := "clampWeight", desc := "(I)I" } : Jvm.MethodName) prog_1_method_41_code (2 : Nat) (Option.some Jvm.ClassFile.FieldType.int)).before args0 about1 = true := code_word (m := ⟨2, 33⟩) (meth := k2m33) (c := k2c33) (by decide +kernel) rfl rfl rfl (by decide +kernel)
set_option maxRecDepth 65536 in
theorem w_c11 : (Jvm.Cond.code ({ cls := "DynamicMinForest", name := "storeEdge", desc := "(IIII)V" } : Jvm.MethodName) prog_1_method_23_code (5 : Nat) (Option.none : Option Jvm.ClassFile.FieldType)).before args0 about1 = true := code_word (m := ⟨2, 15⟩) (meth := k2m15) (c := k2c15) (by decide +kernel) rfl rfl rfl (by decide +kernel)
set_option maxRecDepth 65536 in
theorem w_c12 : (Jvm.Cond.code ({ cls := "DynamicMinForest", name := "insertUpdate", desc := "(I)V" } : Jvm.MethodName) prog_1_method_18_code (4 : Nat) (Option.none : Option Jvm.ClassFile.FieldType)).before args0 about1 = true := code_word (m := ⟨2, 11⟩) (meth := k2m11) (c := k2c11) (by decide +kernel) rfl rfl rfl (by decide +kernel)
set_option maxRecDepth 65536 in
theorem w_c13 : (Jvm.Cond.code ({ cls := "DynamicMinForest", name := "explore", desc := "(II)I" } : Jvm.MethodName) prog_1_method_30_code (5 : Nat) (Option.some Jvm.ClassFile.FieldType.int)).before args0 about1 = true := code_word (m := ⟨2, 22⟩) (meth := k2m22) (c := k2c22) (by decide +kernel) rfl rfl rfl (by decide +kernel)
set_option maxRecDepth 65536 in
theorem w_c14 : (Jvm.Cond.code ({ cls := "DynamicMinForest", name := "visitNeighbours", desc := "(III)I" } : Jvm.MethodName) prog_1_method_31_code (9 : Nat) (Option.some Jvm.ClassFile.FieldType.int)).before args0 about1 = true := code_word (m := ⟨2, 23⟩) (meth := k2m23) (c := k2c23) (by decide +kernel) rfl rfl rfl (by decide +kernel)
set_option maxRecDepth 65536 in
theorem w_c15 : (Jvm.Cond.code ({ cls := "DynamicMinForest", name := "joinTree", desc := "(I)V" } : Jvm.MethodName) prog_1_method_25_code (2 : Nat) (Option.none : Option Jvm.ClassFile.FieldType)).before args0 about1 = true := code_word (m := ⟨2, 17⟩) (meth := k2m17) (c := k2c17) (by decide +kernel) rfl rfl rfl (by decide +kernel)
set_option maxRecDepth 65536 in
theorem w_c16 : (Jvm.Cond.code ({ cls := "DynamicMinForest", name := "validId", desc := "(I)Z" } : Jvm.MethodName) prog_1_method_40_code (2 : Nat) (Option.some Jvm.ClassFile.FieldType.boolean)).before args0 about1 = true := code_word (m := ⟨2, 32⟩) (meth := k2m32) (c := k2c32) (by decide +kernel) rfl rfl rfl (by decide +kernel)
set_option maxRecDepth 65536 in
theorem w_c17 : (Jvm.Cond.code ({ cls := "DynamicMinForest", name := "addAdjacent", desc := "(II)V" } : Jvm.MethodName) prog_1_method_27_code (3 : Nat) (Option.none : Option Jvm.ClassFile.FieldType)).before args0 about1 = true := code_word (m := ⟨2, 19⟩) (meth := k2m19) (c := k2c19) (by decide +kernel) rfl rfl rfl (by decide +kernel)
set_option maxRecDepth 65536 in
theorem w_c18 : (Jvm.Cond.code ({ cls := "DynamicMinForest", name := "setLast", desc := "(II)V" } : Jvm.MethodName) prog_1_method_21_code (3 : Nat) (Option.none : Option Jvm.ClassFile.FieldType)).before args0 about1 = true := code_word (m := ⟨2, 13⟩) (meth := k2m13) (c := k2c13) (by decide +kernel) rfl rfl rfl (by decide +kernel)
set_option maxRecDepth 65536 in
theorem w_c19 : (Jvm.Cond.code ({ cls := "DynamicMinForest", name := "otherEnd", desc := "(II)I" } : Jvm.MethodName) prog_1_method_35_code (3 : Nat) (Option.some Jvm.ClassFile.FieldType.int)).before args0 about1 = true := code_word (m := ⟨2, 27⟩) (meth := k2m27) (c := k2c27) (by decide +kernel) rfl rfl rfl (by decide +kernel)
set_option maxRecDepth 65536 in
theorem w_c20 : (Jvm.Cond.code ({ cls := "DynamicMinForest", name := "heaviestOnPathTo", desc := "(I)I" } : Jvm.MethodName) prog_1_method_32_code (6 : Nat) (Option.some Jvm.ClassFile.FieldType.int)).before args0 about1 = true := code_word (m := ⟨2, 24⟩) (meth := k2m24) (c := k2c24) (by decide +kernel) rfl rfl rfl (by decide +kernel)
set_option maxRecDepth 65536 in
theorem w_c21 : (Jvm.Cond.code ({ cls := "DynamicMinForest", name := "heavier", desc := "(II)I" } : Jvm.MethodName) prog_1_method_38_code (3 : Nat) (Option.some Jvm.ClassFile.FieldType.int)).before args0 about1 = true := code_word (m := ⟨2, 30⟩) (meth := k2m30) (c := k2c30) (by decide +kernel) rfl rfl rfl (by decide +kernel)
set_option maxRecDepth 65536 in
theorem w_c22 : (Jvm.Cond.code ({ cls := "DynamicMinForest", name := "precedes", desc := "(II)Z" } : Jvm.MethodName) prog_1_method_36_code (3 : Nat) (Option.some Jvm.ClassFile.FieldType.boolean)).before args0 about1 = true := code_word (m := ⟨2, 28⟩) (meth := k2m28) (c := k2c28) (by decide +kernel) rfl rfl rfl (by decide +kernel)
set_option maxRecDepth 65536 in
theorem w_c23 : (Jvm.Cond.code ({ cls := "DynamicMinForest", name := "leaveTree", desc := "(I)V" } : Jvm.MethodName) prog_1_method_26_code (2 : Nat) (Option.none : Option Jvm.ClassFile.FieldType)).before args0 about1 = true := code_word (m := ⟨2, 18⟩) (meth := k2m18) (c := k2c18) (by decide +kernel) rfl rfl rfl (by decide +kernel)
set_option maxRecDepth 65536 in
theorem w_c24 : (Jvm.Cond.code ({ cls := "DynamicMinForest", name := "removeAdjacent", desc := "(II)V" } : Jvm.MethodName) prog_1_method_28_code (5 : Nat) (Option.none : Option Jvm.ClassFile.FieldType)).before args0 about1 = true := code_word (m := ⟨2, 20⟩) (meth := k2m20) (c := k2c20) (by decide +kernel) rfl rfl rfl (by decide +kernel)
set_option maxRecDepth 65536 in
theorem w_c25 : (Jvm.Cond.code ({ cls := "DynamicMinForest", name := "lastEntered", desc := "()I" } : Jvm.MethodName) prog_1_method_16_code (1 : Nat) (Option.some Jvm.ClassFile.FieldType.int)).before args0 about1 = true := code_word (m := ⟨2, 9⟩) (meth := k2m9) (c := k2c9) (by decide +kernel) rfl rfl rfl (by decide +kernel)
set_option maxRecDepth 65536 in
theorem w_c26 : (Jvm.Cond.code ({ cls := "DynamicMinForest", name := "lastLeft", desc := "()I" } : Jvm.MethodName) prog_1_method_17_code (1 : Nat) (Option.some Jvm.ClassFile.FieldType.int)).before args0 about1 = true := code_word (m := ⟨2, 10⟩) (meth := k2m10) (c := k2c10) (by decide +kernel) rfl rfl rfl (by decide +kernel)
set_option maxRecDepth 65536 in
theorem w_c27 : (Jvm.Cond.code ({ cls := "DynamicMinForest", name := "isTreeEdge", desc := "(I)Z" } : Jvm.MethodName) prog_1_method_6_code (2 : Nat) (Option.some Jvm.ClassFile.FieldType.boolean)).before args0 about1 = true := code_word (m := ⟨2, 4⟩) (meth := k2m4) (c := k2c4) (by decide +kernel) rfl rfl rfl (by decide +kernel)
set_option maxRecDepth 65536 in
theorem w_c28 : (Jvm.Cond.code ({ cls := "DynamicMinForest", name := "forestWeight", desc := "()J" } : Jvm.MethodName) prog_1_method_10_code (1 : Nat) (Option.some Jvm.ClassFile.FieldType.long)).before args0 about1 = true := code_word (m := ⟨2, 5⟩) (meth := k2m5) (c := k2c5) (by decide +kernel) rfl rfl rfl (by decide +kernel)
set_option maxRecDepth 65536 in
theorem w_c29 : (Jvm.Cond.code ({ cls := "DynamicMinForest", name := "componentCount", desc := "()I" } : Jvm.MethodName) prog_1_method_12_code (1 : Nat) (Option.some Jvm.ClassFile.FieldType.int)).before args0 about1 = true := code_word (m := ⟨2, 6⟩) (meth := k2m6) (c := k2c6) (by decide +kernel) rfl rfl rfl (by decide +kernel)
set_option maxRecDepth 65536 in
theorem w_c30 : (Jvm.Cond.code ({ cls := "DynamicMinForest", name := "pathMaxEdge", desc := "(II)I" } : Jvm.MethodName) prog_1_method_14_code (3 : Nat) (Option.some Jvm.ClassFile.FieldType.int)).before args0 about1 = true := code_word (m := ⟨2, 7⟩) (meth := k2m7) (c := k2c7) (by decide +kernel) rfl rfl rfl (by decide +kernel)
set_option maxRecDepth 65536 in
theorem w_c31 : (Jvm.Cond.code ({ cls := "DynamicMinForest", name := "replacementFor", desc := "(I)I" } : Jvm.MethodName) prog_1_method_15_code (2 : Nat) (Option.some Jvm.ClassFile.FieldType.int)).before args0 about1 = true := code_word (m := ⟨2, 8⟩) (meth := k2m8) (c := k2c8) (by decide +kernel) rfl rfl rfl (by decide +kernel)
set_option maxRecDepth 65536 in
theorem w_c32 : (Jvm.Cond.code ({ cls := "DynamicMinForest", name := "lightestCrossing", desc := "()I" } : Jvm.MethodName) prog_1_method_33_code (3 : Nat) (Option.some Jvm.ClassFile.FieldType.int)).before args0 about1 = true := code_word (m := ⟨2, 25⟩) (meth := k2m25) (c := k2c25) (by decide +kernel) rfl rfl rfl (by decide +kernel)
set_option maxRecDepth 65536 in
theorem w_c33 : (Jvm.Cond.code ({ cls := "DynamicMinForest", name := "crosses", desc := "(I)Z" } : Jvm.MethodName) prog_1_method_34_code (4 : Nat) (Option.some Jvm.ClassFile.FieldType.boolean)).before args0 about1 = true := code_word (m := ⟨2, 26⟩) (meth := k2m26) (c := k2c26) (by decide +kernel) rfl rfl rfl (by decide +kernel)
set_option maxRecDepth 65536 in
theorem w_c34 : (Jvm.Cond.code ({ cls := "DynamicMinForest", name := "lighter", desc := "(II)I" } : Jvm.MethodName) prog_1_method_37_code (3 : Nat) (Option.some Jvm.ClassFile.FieldType.int)).before args0 about1 = true := code_word (m := ⟨2, 29⟩) (meth := k2m29) (c := k2c29) (by decide +kernel) rfl rfl rfl (by decide +kernel)
set_option maxRecDepth 65536 in
theorem w_c35 : (Jvm.Cond.code ({ cls := "DynamicMinForest", name := "removeEdge", desc := "(I)Z" } : Jvm.MethodName) prog_1_method_3_code (2 : Nat) (Option.some Jvm.ClassFile.FieldType.boolean)).before args0 about1 = true := code_word (m := ⟨2, 2⟩) (meth := k2m2) (c := k2c2) (by decide +kernel) rfl rfl rfl (by decide +kernel)
set_option maxRecDepth 65536 in
theorem w_c36 : (Jvm.Cond.code ({ cls := "DynamicMinForest", name := "isPresent", desc := "(I)Z" } : Jvm.MethodName) prog_1_method_5_code (2 : Nat) (Option.some Jvm.ClassFile.FieldType.boolean)).before args0 about1 = true := code_word (m := ⟨2, 3⟩) (meth := k2m3) (c := k2c3) (by decide +kernel) rfl rfl rfl (by decide +kernel)
set_option maxRecDepth 65536 in
theorem w_c37 : (Jvm.Cond.code ({ cls := "DynamicMinForest", name := "cutTreeEdge", desc := "(I)V" } : Jvm.MethodName) prog_1_method_19_code (3 : Nat) (Option.none : Option Jvm.ClassFile.FieldType)).before args0 about1 = true := code_word (m := ⟨2, 12⟩) (meth := k2m12) (c := k2c12) (by decide +kernel) rfl rfl rfl (by decide +kernel)
set_option maxRecDepth 65536 in
theorem w_c38 : (Jvm.Cond.code ({ cls := "DynamicMinForest", name := "freeSlot", desc := "(I)V" } : Jvm.MethodName) prog_1_method_24_code (2 : Nat) (Option.none : Option Jvm.ClassFile.FieldType)).before args0 about1 = true := code_word (m := ⟨2, 16⟩) (meth := k2m16) (c := k2c16) (by decide +kernel) rfl rfl rfl (by decide +kernel)
def codes1 : List Jvm.Cond := [Jvm.Cond.code x code maxLocals ret, Jvm.Cond.code ({ cls := "DynamicMinForest", name := "<init>", desc := "(I)V" } : Jvm.MethodName) prog_1_method_1_code (4 : Nat) (Option.none : Option Jvm.ClassFile.FieldType), Jvm.Cond.code ({ cls := "java/lang/Object", name := "<init>", desc := "()V" } : Jvm.MethodName) object_method_1_code (1 : Nat) (Option.none : Option Jvm.ClassFile.FieldType), Jvm.Cond.code ({ cls := "DynamicMinForest", name := "resetSearch", desc := "()V" } : Jvm.MethodName) prog_1_method_29_code (2 : Nat) (Option.none : Option Jvm.ClassFile.FieldType), Jvm.Cond.code ({ cls := "DynamicMinForestL3", name := "cl", desc := "(I)I" } : Jvm.MethodName) method_2_code (3 : Nat) (Option.some Jvm.ClassFile.FieldType.int), Jvm.Cond.code ({ cls := "DynamicMinForestL3", name := "later", desc := "(IIIII)I" } : Jvm.MethodName) method_4_code (8 : Nat) (Option.some Jvm.ClassFile.FieldType.int), Jvm.Cond.code ({ cls := "DynamicMinForestL3", name := "wt", desc := "(IIII)I" } : Jvm.MethodName) method_3_code (4 : Nat) (Option.some Jvm.ClassFile.FieldType.int), Jvm.Cond.code ({ cls := "DynamicMinForest", name := "addEdge", desc := "(III)I" } : Jvm.MethodName) prog_1_method_2_code (6 : Nat) (Option.some Jvm.ClassFile.FieldType.int), Jvm.Cond.code ({ cls := "DynamicMinForest", name := "validVertex", desc := "(I)Z" } : Jvm.MethodName) prog_1_method_39_code (2 : Nat) (Option.some Jvm.ClassFile.FieldType.boolean), Jvm.Cond.code ({ cls := "DynamicMinForest", name := "lowestFreeSlot", desc := "()I" } : Jvm.MethodName) prog_1_method_22_code (2 : Nat) (Option.some Jvm.ClassFile.FieldType.int), Jvm.Cond.code ({ cls := "DynamicMinForest", name := "clampWeight", desc := "(I)I" } : Jvm.MethodName) prog_1_method_41_code (2 : Nat) (Option.some Jvm.ClassFile.FieldType.int), Jvm.Cond.code ({ cls := "DynamicMinForest", name := "storeEdge", desc := "(IIII)V" } : Jvm.MethodName) prog_1_method_23_code (5 : Nat) (Option.none : Option Jvm.ClassFile.FieldType), Jvm.Cond.code ({ cls := "DynamicMinForest", name := "insertUpdate", desc := "(I)V" } : Jvm.MethodName) prog_1_method_18_code (4 : Nat) (Option.none : Option Jvm.ClassFile.FieldType), Jvm.Cond.code ({ cls := "DynamicMinForest", name := "explore", desc := "(II)I" } : Jvm.MethodName) prog_1_method_30_code (5 : Nat) (Option.some Jvm.ClassFile.FieldType.int), Jvm.Cond.code ({ cls := "DynamicMinForest", name := "visitNeighbours", desc := "(III)I" } : Jvm.MethodName) prog_1_method_31_code (9 : Nat) (Option.some Jvm.ClassFile.FieldType.int), Jvm.Cond.code ({ cls := "DynamicMinForest", name := "joinTree", desc := "(I)V" } : Jvm.MethodName) prog_1_method_25_code (2 : Nat) (Option.none : Option Jvm.ClassFile.FieldType), Jvm.Cond.code ({ cls := "DynamicMinForest", name := "validId", desc := "(I)Z" } : Jvm.MethodName) prog_1_method_40_code (2 : Nat) (Option.some Jvm.ClassFile.FieldType.boolean), Jvm.Cond.code ({ cls := "DynamicMinForest", name := "addAdjacent", desc := "(II)V" } : Jvm.MethodName) prog_1_method_27_code (3 : Nat) (Option.none : Option Jvm.ClassFile.FieldType), Jvm.Cond.code ({ cls := "DynamicMinForest", name := "setLast", desc := "(II)V" } : Jvm.MethodName) prog_1_method_21_code (3 : Nat) (Option.none : Option Jvm.ClassFile.FieldType), Jvm.Cond.code ({ cls := "DynamicMinForest", name := "otherEnd", desc := "(II)I" } : Jvm.MethodName) prog_1_method_35_code (3 : Nat) (Option.some Jvm.ClassFile.FieldType.int), Jvm.Cond.code ({ cls := "DynamicMinForest", name := "heaviestOnPathTo", desc := "(I)I" } : Jvm.MethodName) prog_1_method_32_code (6 : Nat) (Option.some Jvm.ClassFile.FieldType.int), Jvm.Cond.code ({ cls := "DynamicMinForest", name := "heavier", desc := "(II)I" } : Jvm.MethodName) prog_1_method_38_code (3 : Nat) (Option.some Jvm.ClassFile.FieldType.int), Jvm.Cond.code ({ cls := "DynamicMinForest", name := "precedes", desc := "(II)Z" } : Jvm.MethodName) prog_1_method_36_code (3 : Nat) (Option.some Jvm.ClassFile.FieldType.boolean), Jvm.Cond.code ({ cls := "DynamicMinForest", name := "leaveTree", desc := "(I)V" } : Jvm.MethodName) prog_1_method_26_code (2 : Nat) (Option.none : Option Jvm.ClassFile.FieldType), Jvm.Cond.code ({ cls := "DynamicMinForest", name := "removeAdjacent", desc := "(II)V" } : Jvm.MethodName) prog_1_method_28_code (5 : Nat) (Option.none : Option Jvm.ClassFile.FieldType), Jvm.Cond.code ({ cls := "DynamicMinForest", name := "lastEntered", desc := "()I" } : Jvm.MethodName) prog_1_method_16_code (1 : Nat) (Option.some Jvm.ClassFile.FieldType.int), Jvm.Cond.code ({ cls := "DynamicMinForest", name := "lastLeft", desc := "()I" } : Jvm.MethodName) prog_1_method_17_code (1 : Nat) (Option.some Jvm.ClassFile.FieldType.int), Jvm.Cond.code ({ cls := "DynamicMinForest", name := "isTreeEdge", desc := "(I)Z" } : Jvm.MethodName) prog_1_method_6_code (2 : Nat) (Option.some Jvm.ClassFile.FieldType.boolean), Jvm.Cond.code ({ cls := "DynamicMinForest", name := "forestWeight", desc := "()J" } : Jvm.MethodName) prog_1_method_10_code (1 : Nat) (Option.some Jvm.ClassFile.FieldType.long), Jvm.Cond.code ({ cls := "DynamicMinForest", name := "componentCount", desc := "()I" } : Jvm.MethodName) prog_1_method_12_code (1 : Nat) (Option.some Jvm.ClassFile.FieldType.int), Jvm.Cond.code ({ cls := "DynamicMinForest", name := "pathMaxEdge", desc := "(II)I" } : Jvm.MethodName) prog_1_method_14_code (3 : Nat) (Option.some Jvm.ClassFile.FieldType.int), Jvm.Cond.code ({ cls := "DynamicMinForest", name := "replacementFor", desc := "(I)I" } : Jvm.MethodName) prog_1_method_15_code (2 : Nat) (Option.some Jvm.ClassFile.FieldType.int), Jvm.Cond.code ({ cls := "DynamicMinForest", name := "lightestCrossing", desc := "()I" } : Jvm.MethodName) prog_1_method_33_code (3 : Nat) (Option.some Jvm.ClassFile.FieldType.int), Jvm.Cond.code ({ cls := "DynamicMinForest", name := "crosses", desc := "(I)Z" } : Jvm.MethodName) prog_1_method_34_code (4 : Nat) (Option.some Jvm.ClassFile.FieldType.boolean), Jvm.Cond.code ({ cls := "DynamicMinForest", name := "lighter", desc := "(II)I" } : Jvm.MethodName) prog_1_method_37_code (3 : Nat) (Option.some Jvm.ClassFile.FieldType.int), Jvm.Cond.code ({ cls := "DynamicMinForest", name := "removeEdge", desc := "(I)Z" } : Jvm.MethodName) prog_1_method_3_code (2 : Nat) (Option.some Jvm.ClassFile.FieldType.boolean), Jvm.Cond.code ({ cls := "DynamicMinForest", name := "isPresent", desc := "(I)Z" } : Jvm.MethodName) prog_1_method_5_code (2 : Nat) (Option.some Jvm.ClassFile.FieldType.boolean), Jvm.Cond.code ({ cls := "DynamicMinForest", name := "cutTreeEdge", desc := "(I)V" } : Jvm.MethodName) prog_1_method_19_code (3 : Nat) (Option.none : Option Jvm.ClassFile.FieldType), Jvm.Cond.code ({ cls := "DynamicMinForest", name := "freeSlot", desc := "(I)V" } : Jvm.MethodName) prog_1_method_24_code (2 : Nat) (Option.none : Option Jvm.ClassFile.FieldType)]
set_option maxRecDepth 65536 in
theorem codes_eq : words1.filter isCode = codes1 := rfl
theorem w_codes : ∀ c ∈ words1.filter isCode, c.before args0 about1 = true := by
  rw [codes_eq]
  intro c hc
  simp only [codes1, List.mem_cons, List.not_mem_nil, or_false] at hc
  rcases hc with rfl | rfl | rfl | rfl | rfl | rfl | rfl | rfl | rfl | rfl | rfl | rfl | rfl | rfl | rfl | rfl | rfl | rfl | rfl | rfl | rfl | rfl | rfl | rfl | rfl | rfl | rfl | rfl | rfl | rfl | rfl | rfl | rfl | rfl | rfl | rfl | rfl | rfl | rfl
  · exact w_c0
  · exact w_c1
  · exact w_c2
  · exact w_c3
  · exact w_c4
  · exact w_c5
  · exact w_c6
  · exact w_c7
  · exact w_c8
  · exact w_c9
  · exact w_c10
  · exact w_c11
  · exact w_c12
  · exact w_c13
  · exact w_c14
  · exact w_c15
  · exact w_c16
  · exact w_c17
  · exact w_c18
  · exact w_c19
  · exact w_c20
  · exact w_c21
  · exact w_c22
  · exact w_c23
  · exact w_c24
  · exact w_c25
  · exact w_c26
  · exact w_c27
  · exact w_c28
  · exact w_c29
  · exact w_c30
  · exact w_c31
  · exact w_c32
  · exact w_c33
  · exact w_c34
  · exact w_c35
  · exact w_c36
  · exact w_c37
  · exact w_c38
set_option maxRecDepth 65536 in
theorem w_t1 : (words1.take 24).all (fun c => isCode c || c.before args0 about1) = true := by decide +kernel
set_option maxRecDepth 65536 in
theorem w_t2 : ((words1.drop 24).take 24).all (fun c => isCode c || c.before args0 about1) = true := by decide +kernel
set_option maxRecDepth 65536 in
theorem w_t3 : (((words1.drop 24).drop 24).take 24).all (fun c => isCode c || c.before args0 about1) = true := by decide +kernel
set_option maxRecDepth 65536 in
theorem w_t4 : ((((words1.drop 24).drop 24).drop 24).take 24).all (fun c => isCode c || c.before args0 about1) = true := by decide +kernel
set_option maxRecDepth 65536 in
theorem w_t5 : (((((words1.drop 24).drop 24).drop 24).drop 24).take 24).all (fun c => isCode c || c.before args0 about1) = true := by decide +kernel
set_option maxRecDepth 65536 in
theorem w_t6 : ((((((words1.drop 24).drop 24).drop 24).drop 24).drop 24).take 24).all (fun c => isCode c || c.before args0 about1) = true := by decide +kernel
set_option maxRecDepth 65536 in
theorem w_t7 : (((((((words1.drop 24).drop 24).drop 24).drop 24).drop 24).drop 24).take 24).all (fun c => isCode c || c.before args0 about1) = true := by decide +kernel
set_option maxRecDepth 65536 in
theorem w_t8 : ((((((((words1.drop 24).drop 24).drop 24).drop 24).drop 24).drop 24).drop 24).take 24).all (fun c => isCode c || c.before args0 about1) = true := by decide +kernel
set_option maxRecDepth 65536 in
theorem w_t9 : ((((((((words1.drop 24).drop 24).drop 24).drop 24).drop 24).drop 24).drop 24).drop 24).all (fun c => isCode c || c.before args0 about1) = true := by decide +kernel
theorem w_tables : (allAtoms (Jvm.Cond.code x code maxLocals ret :: tables_1)).before args0 about1 = true := by
  rw [allAtoms_all]
  show words1.all (fun c => c.before args0 about1) = true
  refine all_split ?_ w_codes
  rw [← List.take_append_drop 24 words1, List.all_append, w_t1, ← List.take_append_drop 24 (words1.drop 24), List.all_append, w_t2, ← List.take_append_drop 24 ((words1.drop 24).drop 24), List.all_append, w_t3, ← List.take_append_drop 24 (((words1.drop 24).drop 24).drop 24), List.all_append, w_t4, ← List.take_append_drop 24 ((((words1.drop 24).drop 24).drop 24).drop 24), List.all_append, w_t5, ← List.take_append_drop 24 (((((words1.drop 24).drop 24).drop 24).drop 24).drop 24), List.all_append, w_t6, ← List.take_append_drop 24 ((((((words1.drop 24).drop 24).drop 24).drop 24).drop 24).drop 24), List.all_append, w_t7, ← List.take_append_drop 24 (((((((words1.drop 24).drop 24).drop 24).drop 24).drop 24).drop 24).drop 24), List.all_append, w_t8, w_t9]
  rfl
set_option maxRecDepth 65536 in
theorem w_case : (Jvm.Cond.and given_1 narrow_1).before args0 about1 = true := by decide +kernel
theorem w_applies : (headSpec (Jvm.Cond.code x code maxLocals ret :: tables_1) room_1).applies x e0.platform about1 = true :=
  (Spec.applies_iff w_frames).mpr ⟨w_running, w_runnable, w_alone, w_named, w_hears, w_ripe, w_room, w_tables⟩
theorem atStart : AtStart classFile x code maxLocals ret World_1 tables_1 room_1 Calls_1 rest_1 Pre_1 launch0 p0 e0 about1 theMethod args0 below0 :=
  ⟨lists_1, trivial, launch0.admits_env _ _ _, launch0.least_env, fairChoices_fair.cas, fairChoices_fair.clock, w_frames, w_args, w_heap, w_applies, trivial, trivial, w_case⟩
end start1
theorem witness_1 : WitnessClaimed_1 := ⟨start1.p0, start1.e0, start1.about1, start1.theMethod, start1.args0, start1.below0, start1.atStart⟩
end Jvm.Pilot.@@N@@
