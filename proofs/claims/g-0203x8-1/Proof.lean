import JvmDerived
import JvmDerived.Pilot.@@N@@Statement
import JvmDerived.Pilot.@@N@@Code
set_option linter.unusedVariables false
set_option linter.unusedSimpArgs false
set_option maxRecDepth 20000
namespace Jvm.JX
open Sem ClassFile Op Lib
abbrev Cel : Type := FieldType × Nat × Bool × (Nat → Value)
abbrev AH : Type := Nat × (Nat → Cel)
abbrev MInfo : Type := Nat × Nat × Nat × Option FieldType × Jvm.Room
abbrev Prog : Type := (Nat → Nat → Option (Instr × Nat × Int)) × (Nat → MInfo) × (Nat → FieldType) × Nat
abbrev Fm : Type := Nat × List Slot × List Value × Nat × Nat × AH
def na (P : Prog) (m : Nat) : Nat := (P.2.1 m).1
def ml (P : Prog) (m : Nat) : Nat := (P.2.1 m).2.1
def kd (P : Prog) (m : Nat) : Nat := (P.2.1 m).2.2.1
def rt (P : Prog) (m : Nat) : Option FieldType := (P.2.1 m).2.2.2.1
def rm (P : Prog) (m : Nat) : Jvm.Room := (P.2.1 m).2.2.2.2
def isO (H : AH) (a : Nat) : Bool := match (H.2 a).1 with | .object _ => true | _ => false
def isOw (H : AH) (a : Nat) : Bool := isO H a && (H.2 a).2.2.1
def inA (H : AH) (a : Nat) (t : FieldType) (i : Int32) : Bool := decide ((H.2 a).1 = .array t) && !decide (i < 0) && decide (i.toNatClampNeg < (H.2 a).2.1)
def inAw (H : AH) (a : Nat) (t : FieldType) (i : Int32) : Bool := inA H a t i && (H.2 a).2.2.1
def isA (H : AH) (a : Nat) : Bool := match (H.2 a).1 with | .array _ => true | _ => false
def elt (H : AH) (a : Nat) (i : Int32) : Value := (H.2 a).2.2.2 i.toNatClampNeg
def fld (H : AH) (a k : Nat) : Value := (H.2 a).2.2.2 k
def alen (H : AH) (a : Nat) : Nat := (H.2 a).2.1
def wr (H : AH) (a j : Nat) (v : Value) : AH := (H.1, fun b => if b = a then ((H.2 a).1, (H.2 a).2.1, (H.2 a).2.2.1, fun i => if i = j then v else (H.2 a).2.2.2 i) else H.2 b)
def okv : FieldType → Value → Bool
  | .int, .int _ => true
  | .boolean, .int z => z == 0 || z == 1
  | .byte, .int z => z.toInt8.toInt32 == z
  | .long, .long _ => true
  | .array _, .ref _ => true
  | _, _ => false
def mkO (P : Prog) (H : AH) : AH := (H.1 + 1, fun b => if b = H.1 then (.object "", P.2.2.2, true, fun k => defaultValue (P.2.2.1 k)) else H.2 b)
def mkA (t : FieldType) (n : Nat) (H : AH) : AH := (H.1 + 1, fun b => if b = H.1 then (.array t, n, true, fun _ => defaultValue t) else H.2 b)
def cat1 : Slot → Bool | .unset => true | .val v => v.category == 1 | .second => false
def cs (S : List Value) : Nat := (S.map fun v => v.category).sum
def stl (L : List Slot) (i : Nat) (v : Value) : Option (List Slot) :=
  match L[i]? with
  | some .unset => some (L.set i (.val v))
  | some (.val w) => if w.category = 1 then some (L.set i (.val v)) else if i + 1 < L.length then some ((L.set (i + 1) .unset).set i (.val v)) else none
  | some .second => if 1 ≤ i then some ((L.set (i - 1) .unset).set i (.val v)) else none
  | none => none
def lng : Slot → Bool | .val v => v.category == 2 | _ => false
def stL (L : List Slot) (i : Nat) (v : Value) : Option (List Slot) :=
  match L[i]?, L[i + 1]? with
  | some (.val w), some o2 => if w.category = 2 then some ((L.set i (.val v)).set (i + 1) .second) else if cat1 o2 = true then some ((L.set i (.val v)).set (i + 1) .second) else if lng o2 = true ∧ i + 2 < L.length then some (((L.set i (.val v)).set (i + 2) .unset).set (i + 1) .second) else none
  | some .unset, some o2 => if cat1 o2 = true then some ((L.set i (.val v)).set (i + 1) .second) else if lng o2 = true ∧ i + 2 < L.length then some (((L.set i (.val v)).set (i + 2) .unset).set (i + 1) .second) else none
  | some .second, some o2 => if 1 ≤ i then (if cat1 o2 = true then some (((L.set (i - 1) .unset).set i (.val v)).set (i + 1) .second) else if lng o2 = true ∧ i + 2 < L.length then some ((((L.set (i - 1) .unset).set i (.val v)).set (i + 2) .unset).set (i + 1) .second) else none) else none
  | _, _ => none
def ent (P : Prog) (m : Nat) (a : List Value) : List Slot := Sym.laidSlots a ++ List.replicate (ml P m - (Sym.laidSlots a).length) .unset
def ilen : Instr → Nat
  | .bipush _ | .iload _ | .istore _ | .aload _ | .astore _ | .lload _ | .lstore _ | .newarray _ | .ldc _ => 2
  | .sipush _ | .getfield _ | .putfield _ | .new _ | .invokevirtual _ | .invokestatic _ | .invokespecial _ | .ldc2_w _ | .goto _ | .ifCond _ _ | .if_icmp _ _ | .iinc _ _ => 3
  | _ => 1
def ldI (L : List Slot) (i : Nat) : Option Value := match L[i]? with | some (.val (.int x)) => some (.int x) | _ => none
def ldJ (L : List Slot) (i : Nat) : Option Value := match L[i]? with | some (.val (.long x)) => some (.long x) | _ => none
def ldR (L : List Slot) (i : Nat) : Option Value := match L[i]? with | some (.val (.ref x)) => some (.ref x) | _ => none
def jmp (pc : Nat) (o : Int) : Option Nat := if 0 ≤ (pc : Int) + o then some ((pc : Int) + o).toNat else none
def ret (P : Prog) (m : Nat) (ins : Instr) (S : List Value) : Option (Option Value) :=
  match ins with
  | .return_ => if rt P m = none ∧ S = [] then some none else none
  | .ireturn => match S, rt P m with
    | .int z :: _, some .int => some (some (.int z))
    | .int z :: _, some .boolean => if z = 0 ∨ z = 1 then some (some (.int z)) else none
    | _, _ => none
  | .lreturn => match S, rt P m with
    | .long z :: _, some .long => some (some (.long z))
    | _, _ => none
  | _ => none
def rcv (H : AH) : List Value → Bool | .ref a :: _ => isO H a | _ => false
def may (P : Prog) (m m' : Nat) (a r : List Value) (k n : Nat) (H : AH) : Bool :=
  decide ((Sym.laidSlots a).length ≤ ml P m') && decide (a.length = na P m') && decide ((rm P m').frames + 1 ≤ (rm P m).frames) && decide (cs r + (ml P m' + 11) + (rm P m').locals ≤ (rm P m).locals)
    && (decide ((rm P m').cells = 0 ∧ (rm P m').slots = 0) || decide (k + (rm P m').cells ≤ (rm P m).cells ∧ n + (rm P m').slots ≤ (rm P m).slots))
    && (decide (kd P m' = 0) || rcv H a)
def kindOk : Instr → Nat → Bool
  | .invokevirtual _, k => k == 1 || k == 2
  | .invokestatic _, k => k == 0
  | .invokespecial _, k => k == 3
  | _, _ => false
def cal1 (P : Prog) (m : Nat) (ins : Instr) (aux : Int) (S : List Value) (k n : Nat) (H : AH) : Option (Nat × List Value × List Value) :=
  if 0 ≤ aux ∧ kindOk ins (kd P aux.toNat) = true ∧ may P m aux.toNat (S.take (na P aux.toNat)).reverse (S.drop (na P aux.toNat)) k n H = true
  then some (aux.toNat, (S.take (na P aux.toNat)).reverse, S.drop (na P aux.toNat)) else none
def cal (P : Prog) (m : Nat) (ins : Instr) (aux : Int) (S : List Value) (k n : Nat) (H : AH) : Option (Nat × List Value × List Value) :=
  match ins with
  | .invokevirtual _ | .invokestatic _ | .invokespecial _ => cal1 P m ins aux S k n H
  | _ => none
def opI : Instr → Option (Int32 → Int32 → Int32)
  | .iadd => some fun x y => x + y
  | .isub => some fun x y => x - y
  | .imul => some fun x y => x * y
  | .iand => some fun x y => x &&& y
  | .ior => some fun x y => x ||| y
  | .ixor => some fun x y => x ^^^ y
  | .ishl => some fun x y => x <<< (y &&& 31)
  | .ishr => some fun x y => x >>> (y &&& 31)
  | .iushr => some Jvm.Free.XT.ushr
  | _ => none
def opJ : Instr → Option (Int64 → Int64 → Int64)
  | .ladd => some fun x y => x + y
  | .lsub => some fun x y => x - y
  | .lmul => some fun x y => x * y
  | .land => some fun x y => x &&& y
  | .lor => some fun x y => x ||| y
  | .lxor => some fun x y => x ^^^ y
  | _ => none
def opS : Instr → Option (Int64 → Int32 → Int64)
  | .lshl => some fun x y => x <<< (y.toInt64 &&& 63)
  | .lshr => some fun x y => x >>> (y.toInt64 &&& 63)
  | .lushr => some Jvm.Free.XT.ushrL
  | _ => none
def stp (P : Prog) (m : Nat) (ins : Instr) (len : Nat) (aux : Int) (pc : Nat) (L : List Slot) (S : List Value) (k n : Nat) (H : AH) : Option Fm :=
  match ins with
  | .iconst i => some (pc + len, L, .int (Int32.ofInt i) :: S, k, n, H)
  | .bipush i => some (pc + len, L, .int (Int8.ofInt i).toInt32 :: S, k, n, H)
  | .sipush i => some (pc + len, L, .int (Int16.ofInt i).toInt32 :: S, k, n, H)
  | .lconst i => some (pc + len, L, .long (Int64.ofNat i) :: S, k, n, H)
  | .ldc _ => some (pc + len, L, .int (Int32.ofInt aux) :: S, k, n, H)
  | .ldc2_w _ => some (pc + len, L, .long (Int64.ofInt aux) :: S, k, n, H)
  | .iload i => (ldI L i).map fun v => (pc + len, L, v :: S, k, n, H)
  | .iload_n i => (ldI L i.val).map fun v => (pc + len, L, v :: S, k, n, H)
  | .lload i => (ldJ L i).map fun v => (pc + len, L, v :: S, k, n, H)
  | .lload_n i => (ldJ L i.val).map fun v => (pc + len, L, v :: S, k, n, H)
  | .aload i => (ldR L i).map fun v => (pc + len, L, v :: S, k, n, H)
  | .aload_n i => (ldR L i.val).map fun v => (pc + len, L, v :: S, k, n, H)
  | .istore i => match S with | .int x :: S => (stl L i (.int x)).map fun L => (pc + len, L, S, k, n, H) | _ => none
  | .istore_n i => match S with | .int x :: S => (stl L i.val (.int x)).map fun L => (pc + len, L, S, k, n, H) | _ => none
  | .astore i => match S with | .ref x :: S => (stl L i (.ref x)).map fun L => (pc + len, L, S, k, n, H) | _ => none
  | .astore_n i => match S with | .ref x :: S => (stl L i.val (.ref x)).map fun L => (pc + len, L, S, k, n, H) | _ => none
  | .lstore i => match S with | .long x :: S => (stL L i (.long x)).map fun L => (pc + len, L, S, k, n, H) | _ => none
  | .lstore_n i => match S with | .long x :: S => (stL L i.val (.long x)).map fun L => (pc + len, L, S, k, n, H) | _ => none
  | .iinc i c => match L[i]? with | some (.val (.int x)) => some (pc + len, L.set i (.val (.int (x + Int32.ofInt c))), S, k, n, H) | _ => none
  | .iadd | .isub | .imul | .iand | .ior | .ixor | .ishl | .ishr | .iushr => match S with | .int y :: .int x :: S => (opI ins).map fun f => (pc + len, L, .int (f x y) :: S, k, n, H) | _ => none
  | .ladd | .lsub | .lmul | .land | .lor | .lxor => match S with | .long y :: .long x :: S => (opJ ins).map fun f => (pc + len, L, .long (f x y) :: S, k, n, H) | _ => none
  | .lshl | .lshr | .lushr => match S with | .int y :: .long x :: S => (opS ins).map fun f => (pc + len, L, .long (f x y) :: S, k, n, H) | _ => none
  | .idiv => match S with | .int y :: .int x :: S => if y = 0 then none else some (pc + len, L, .int (x / y) :: S, k, n, H) | _ => none
  | .irem => match S with | .int y :: .int x :: S => if y = 0 then none else some (pc + len, L, .int (x % y) :: S, k, n, H) | _ => none
  | .ldiv => match S with | .long y :: .long x :: S => if y = 0 then none else some (pc + len, L, .long (x / y) :: S, k, n, H) | _ => none
  | .lrem => match S with | .long y :: .long x :: S => if y = 0 then none else some (pc + len, L, .long (x % y) :: S, k, n, H) | _ => none
  | .ineg => match S with | .int x :: S => some (pc + len, L, .int (-x) :: S, k, n, H) | _ => none
  | .lneg => match S with | .long x :: S => some (pc + len, L, .long (-x) :: S, k, n, H) | _ => none
  | .i2l => match S with | .int x :: S => some (pc + len, L, .long x.toInt64 :: S, k, n, H) | _ => none
  | .l2i => match S with | .long x :: S => some (pc + len, L, .int x.toInt32 :: S, k, n, H) | _ => none
  | .i2b => match S with | .int x :: S => some (pc + len, L, .int x.toInt8.toInt32 :: S, k, n, H) | _ => none
  | .lcmp => match S with | .long y :: .long x :: S => some (pc + len, L, .int (Jvm.Free.XT.cmpL x y) :: S, k, n, H) | _ => none
  | .dup => match S with | v :: S => if v.category = 1 then some (pc + len, L, v :: v :: S, k, n, H) else none | _ => none
  | .dup2 => match S with
    | .long x :: S => some (pc + len, L, .long x :: .long x :: S, k, n, H)
    | v :: w :: S => if v.category = 1 ∧ w.category = 1 then some (pc + len, L, v :: w :: v :: w :: S, k, n, H) else none
    | _ => none
  | .pop => match S with | v :: S => if v.category = 1 then some (pc + len, L, S, k, n, H) else none | _ => none
  | .goto o => (jmp pc o).map fun q => (q, L, S, k, n, H)
  | .ifCond c o => match S with | .int x :: S => if ifCond.holds c x = true then (jmp pc o).map fun q => (q, L, S, k, n, H) else some (pc + len, L, S, k, n, H) | _ => none
  | .if_icmp c o => match S with | .int y :: .int x :: S => if if_icmp.holds c x y = true then (jmp pc o).map fun q => (q, L, S, k, n, H) else some (pc + len, L, S, k, n, H) | _ => none
  | .tableswitch d lo hi os => match S with
    | .int x :: S => if x.toInt < lo ∨ x.toInt > hi then (jmp pc d).map fun q => (q, L, S, k, n, H) else (os[(x.toInt - lo).toNat]?).bind fun o => (jmp pc o).map fun q => (q, L, S, k, n, H)
    | _ => none
  | .getfield _ => match S with | .ref a :: S => if isO H a = true then some (pc + len, L, fld H a aux.toNat :: S, k, n, H) else none | _ => none
  | .putfield _ => match S with | v :: .ref a :: S => if isOw H a = true ∧ okv (P.2.2.1 aux.toNat) v = true then some (pc + len, L, S, k, n, wr H a aux.toNat v) else none | _ => none
  | .iaload => match S with | .int i :: .ref a :: S => if inA H a .int i = true then some (pc + len, L, elt H a i :: S, k, n, H) else none | _ => none
  | .laload => match S with | .int i :: .ref a :: S => if inA H a .long i = true then some (pc + len, L, elt H a i :: S, k, n, H) else none | _ => none
  | .baload => match S with | .int i :: .ref a :: S => if inA H a .byte i = true ∨ inA H a .boolean i = true then some (pc + len, L, elt H a i :: S, k, n, H) else none | _ => none
  | .iastore => match S with | .int x :: .int i :: .ref a :: S => if inAw H a .int i = true then some (pc + len, L, S, k, n, wr H a i.toNatClampNeg (.int x)) else none | _ => none
  | .lastore => match S with | .long x :: .int i :: .ref a :: S => if inAw H a .long i = true then some (pc + len, L, S, k, n, wr H a i.toNatClampNeg (.long x)) else none | _ => none
  | .bastore => match S with
    | .int x :: .int i :: .ref a :: S => if (inAw H a .byte i = true ∧ okv .byte (.int x) = true) ∨ (inAw H a .boolean i = true ∧ okv .boolean (.int x) = true) then some (pc + len, L, S, k, n, wr H a i.toNatClampNeg (.int x)) else none
    | _ => none
  | .arraylength => match S with | .ref a :: S => if isA H a = true then some (pc + len, L, .int (alen H a).toInt32 :: S, k, n, H) else none | _ => none
  | .newarray t => match S with | .int c :: S => if ¬ c < 0 ∧ c.toNatClampNeg * 8 ≤ 536870912 ∧ k + 1 ≤ (rm P m).cells ∧ n + c.toNatClampNeg ≤ (rm P m).slots then some (pc + len, L, .ref H.1 :: S, k + 1, n + c.toNatClampNeg, mkA (newarray.typeOf t) c.toNatClampNeg H) else none | _ => none
  | .new _ => if 0 ≤ aux ∧ k + 1 ≤ (rm P m).cells ∧ n + aux.toNat ≤ (rm P m).slots then some (pc + len, L, .ref H.1 :: S, k + 1, n + aux.toNat, mkO P H) else none
  | .invokespecial _ => match S with | .ref a :: S => if aux = -1 ∧ 1 ≤ (rm P m).frames ∧ cs S + 12 ≤ (rm P m).locals then some (pc + len, L, S, k, n, H) else none | _ => none
  | _ => none
def run (P : Prog) : Nat → Nat → Nat → List Slot → List Value → Nat → Nat → AH → Option (Option Value × AH)
  | 0, _, _, _, _, _, _, _ => none
  | f + 1, m, pc, L, S, k, n, H =>
    match P.1 m pc with
    | none => none
    | some d =>
      match ret P m d.1 S with
      | some v => some (v, H)
      | none => match cal P m d.1 d.2.2 S k n H with
        | some c => match run P f c.1 0 (ent P c.1 c.2.1) [] 0 0 H with
          | none => none
          | some r => run P f m (pc + d.2.1) L (r.1.toList ++ c.2.2) (k + (rm P c.1).cells) (n + (rm P c.1).slots) r.2
        | none => match stp P m d.1 d.2.1 d.2.2 pc L S k n H with
          | none => none
          | some q => run P f m q.1 q.2.1 q.2.2.1 q.2.2.2.1 q.2.2.2.2.1 q.2.2.2.2.2
end Jvm.JX

namespace Jvm.JX
open Sem ClassFile Op Lib
section
variable {P : Prog}
theorem run_succ (f m pc : Nat) (L : List Slot) (S : List Value) (k n : Nat) (H : AH) : run P (f + 1) m pc L S k n H =
    match P.1 m pc with
    | none => none
    | some d =>
      match ret P m d.1 S with
      | some v => some (v, H)
      | none => match cal P m d.1 d.2.2 S k n H with
        | some c => match run P f c.1 0 (ent P c.1 c.2.1) [] 0 0 H with
          | none => none
          | some r => run P f m (pc + d.2.1) L (r.1.toList ++ c.2.2) (k + (rm P c.1).cells) (n + (rm P c.1).slots) r.2
        | none => match stp P m d.1 d.2.1 d.2.2 pc L S k n H with
          | none => none
          | some q => run P f m q.1 q.2.1 q.2.2.1 q.2.2.2.1 q.2.2.2.2.1 q.2.2.2.2.2 := rfl
theorem run_mono : ∀ (f m pc : Nat) (L : List Slot) (S : List Value) (k n : Nat) (H : AH) (r : Option Value × AH), run P f m pc L S k n H = some r → run P (f + 1) m pc L S k n H = some r := by
  intro f
  induction f with
  | zero => intro m pc L S k n H r h; cases h
  | succ f ih =>
    intro m pc L S k n H r h
    rw [run_succ] at h ⊢
    cases hd : P.1 m pc with
    | none => rw [hd] at h; cases h
    | some d =>
      rw [hd] at h
      simp only at h ⊢
      cases hr : ret P m d.1 S with
      | some v => rw [hr] at h; exact h
      | none =>
        rw [hr] at h
        simp only at h ⊢
        cases hc : cal P m d.1 d.2.2 S k n H with
        | some c =>
          rw [hc] at h
          simp only at h ⊢
          cases hq : run P f c.1 0 (ent P c.1 c.2.1) [] 0 0 H with
          | none => rw [hq] at h; cases h
          | some q =>
            rw [hq] at h
            rw [ih _ _ _ _ _ _ _ _ hq]
            exact ih _ _ _ _ _ _ _ _ h
        | none =>
          rw [hc] at h
          simp only at h ⊢
          cases hs : stp P m d.1 d.2.1 d.2.2 pc L S k n H with
          | none => rw [hs] at h; cases h
          | some q => rw [hs] at h; exact ih _ _ _ _ _ _ _ _ h
theorem run_le {f g : Nat} (hfg : f ≤ g) {m pc : Nat} {L : List Slot} {S : List Value} {k n : Nat} {H : AH} {r : Option Value × AH} (h : run P f m pc L S k n H = some r) : run P g m pc L S k n H = some r := by
  induction hfg with
  | refl => exact h
  | step _ ih => exact run_mono _ _ _ _ _ _ _ _ _ ih
end
def W (P : Prog) (m pc : Nat) (L : List Slot) (S : List Value) (k n : Nat) (H : AH) (Q : Option Value → AH → Prop) : Prop := ∃ f v H', run P f m pc L S k n H = some (v, H') ∧ Q v H'
def Cl (P : Prog) (m : Nat) (a : List Value) (H : AH) (Q : Option Value → AH → Prop) : Prop := W P m 0 (ent P m a) [] 0 0 H Q
section Rules
variable {P : Prog} {m pc : Nat} {L : List Slot} {S : List Value} {k n : Nat} {H : AH} {Q : Option Value → AH → Prop} {ins : Instr} {len : Nat} {aux : Int}
theorem W_r {v : Option Value} (hd : P.1 m pc = some (ins, len, aux)) (hr : ret P m ins S = some v) : W P m pc L S k n H Q ↔ Q v H := by
  constructor
  · rintro ⟨f, v', H', h1, h2⟩
    cases f with
    | zero => cases h1
    | succ f => rw [run_succ, hd] at h1; simp only [hr] at h1; cases h1; exact h2
  · intro h
    refine ⟨1, v, H, ?_, h⟩
    rw [run_succ, hd]; simp only [hr]
theorem W_c {m' : Nat} {a r : List Value} (hd : P.1 m pc = some (ins, len, aux)) (hr : ret P m ins S = none) (hc : cal P m ins aux S k n H = some (m', a, r)) :
    W P m pc L S k n H Q ↔ Cl P m' a H (fun v H' => W P m (pc + len) L (v.toList ++ r) (k + (rm P m').cells) (n + (rm P m').slots) H' Q) := by
  constructor
  · rintro ⟨f, v', H', h1, h2⟩
    cases f with
    | zero => cases h1
    | succ f =>
      rw [run_succ, hd] at h1; simp only [hr, hc] at h1
      cases hq : run P f m' 0 (ent P m' a) [] 0 0 H with
      | none => rw [hq] at h1; cases h1
      | some q => rw [hq] at h1; exact ⟨f, q.1, q.2, hq, f, v', H', h1, h2⟩
  · rintro ⟨f, v, H', h1, g, v', H'', h2, h3⟩
    refine ⟨max f g + 1, v', H'', ?_, h3⟩
    rw [run_succ, hd]; simp only [hr, hc]
    rw [run_le (Nat.le_max_left f g) h1]
    exact run_le (Nat.le_max_right f g) h2
theorem W_q (hd : P.1 m pc = some (ins, len, aux)) (hr : ret P m ins S = none) (hc : cal P m ins aux S k n H = none) :
    W P m pc L S k n H Q ↔ ∃ q, stp P m ins len aux pc L S k n H = some q ∧ W P m q.1 q.2.1 q.2.2.1 q.2.2.2.1 q.2.2.2.2.1 q.2.2.2.2.2 Q := by
  constructor
  · rintro ⟨f, v', H', h1, h2⟩
    cases f with
    | zero => cases h1
    | succ f =>
      rw [run_succ, hd] at h1; simp only [hr, hc] at h1
      cases hq : stp P m ins len aux pc L S k n H with
      | none => rw [hq] at h1; cases h1
      | some q => rw [hq] at h1; exact ⟨q, rfl, f, v', H', h1, h2⟩
  · rintro ⟨q, hq, f, v', H', h1, h2⟩
    refine ⟨f + 1, v', H', ?_, h2⟩
    rw [run_succ, hd]; simp only [hr, hc, hq]; exact h1
theorem W_s {pc' : Nat} {L' : List Slot} {S' : List Value} {k' n' : Nat} {H' : AH} (hd : P.1 m pc = some (ins, len, aux)) (hr : ret P m ins S = none) (hc : cal P m ins aux S k n H = none)
    (hs : stp P m ins len aux pc L S k n H = some (pc', L', S', k', n', H')) : W P m pc L S k n H Q ↔ W P m pc' L' S' k' n' H' Q := by
  rw [W_q hd hr hc, hs]
  exact ⟨fun ⟨q, e, h⟩ => by cases e; exact h, fun h => ⟨_, rfl, h⟩⟩
theorem W_g {G : Prop} [Decidable G] {pc' : Nat} {L' : List Slot} {S' : List Value} {k' n' : Nat} {H' : AH} (hd : P.1 m pc = some (ins, len, aux)) (hr : ret P m ins S = none) (hc : cal P m ins aux S k n H = none)
    (hs : stp P m ins len aux pc L S k n H = if G then some (pc', L', S', k', n', H') else none) : W P m pc L S k n H Q ↔ (G ∧ W P m pc' L' S' k' n' H' Q) := by
  rw [W_q hd hr hc, hs]
  by_cases g : G
  · rw [if_pos g]; exact ⟨fun ⟨q, e, h⟩ => by cases e; exact ⟨g, h⟩, fun h => ⟨_, rfl, h.2⟩⟩
  · rw [if_neg g]; exact ⟨fun ⟨q, e, h⟩ => (by cases e), fun h => absurd h.1 g⟩
theorem W_f {G : Prop} [Decidable G] {q1 q2 : Fm} (hd : P.1 m pc = some (ins, len, aux)) (hr : ret P m ins S = none) (hc : cal P m ins aux S k n H = none)
    (hs : stp P m ins len aux pc L S k n H = if G then some q1 else some q2) : W P m pc L S k n H Q ↔ (if G then W P m q1.1 q1.2.1 q1.2.2.1 q1.2.2.2.1 q1.2.2.2.2.1 q1.2.2.2.2.2 Q else W P m q2.1 q2.2.1 q2.2.2.1 q2.2.2.2.1 q2.2.2.2.2.1 q2.2.2.2.2.2 Q) := by
  rw [W_q hd hr hc, hs]
  by_cases g : G
  · rw [if_pos g, if_pos g]; exact ⟨fun ⟨q, e, h⟩ => by cases e; exact h, fun h => ⟨_, rfl, h⟩⟩
  · rw [if_neg g, if_neg g]; exact ⟨fun ⟨q, e, h⟩ => by cases e; exact h, fun h => ⟨_, rfl, h⟩⟩
section Cmp
variable {x y : Int32} {o : Int} {q : Nat}
theorem W_icmp_eq (hd : P.1 m pc = some (.if_icmp .eq o, len, aux)) (hj : jmp pc o = some q) : W P m pc L (.int y :: .int x :: S) k n H Q ↔ (if x = y then W P m q L S k n H Q else W P m (pc + len) L S k n H Q) :=
  W_f (G := x = y) (q1 := (q, L, S, k, n, H)) (q2 := (pc + len, L, S, k, n, H)) hd rfl rfl (by simp only [stp, hj, if_icmp.holds]; by_cases h : x = y <;> simp [h])
theorem W_icmp_ne (hd : P.1 m pc = some (.if_icmp .ne o, len, aux)) (hj : jmp pc o = some q) : W P m pc L (.int y :: .int x :: S) k n H Q ↔ (if x = y then W P m (pc + len) L S k n H Q else W P m q L S k n H Q) :=
  W_f (G := x = y) (q1 := (pc + len, L, S, k, n, H)) (q2 := (q, L, S, k, n, H)) hd rfl rfl (by simp only [stp, hj, if_icmp.holds]; by_cases h : x = y <;> simp [h])
theorem W_icmp_lt (hd : P.1 m pc = some (.if_icmp .lt o, len, aux)) (hj : jmp pc o = some q) : W P m pc L (.int y :: .int x :: S) k n H Q ↔ (if x < y then W P m q L S k n H Q else W P m (pc + len) L S k n H Q) :=
  W_f (G := x < y) (q1 := (q, L, S, k, n, H)) (q2 := (pc + len, L, S, k, n, H)) hd rfl rfl (by
    by_cases h : x < y
    · simp [stp, hj, Jvm.Free.XT.ii_lt_t h, h]
    · simp [stp, hj, Jvm.Free.XT.ii_lt_f h, h])
theorem W_icmp_ge (hd : P.1 m pc = some (.if_icmp .ge o, len, aux)) (hj : jmp pc o = some q) : W P m pc L (.int y :: .int x :: S) k n H Q ↔ (if x < y then W P m (pc + len) L S k n H Q else W P m q L S k n H Q) :=
  W_f (G := x < y) (q1 := (pc + len, L, S, k, n, H)) (q2 := (q, L, S, k, n, H)) hd rfl rfl (by
    by_cases h : x < y
    · simp [stp, hj, Jvm.Free.XT.ii_ge_f h, h]
    · simp [stp, hj, Jvm.Free.XT.ii_ge_t h, h])
theorem W_icmp_gt (hd : P.1 m pc = some (.if_icmp .gt o, len, aux)) (hj : jmp pc o = some q) : W P m pc L (.int y :: .int x :: S) k n H Q ↔ (if y < x then W P m q L S k n H Q else W P m (pc + len) L S k n H Q) :=
  W_f (G := y < x) (q1 := (q, L, S, k, n, H)) (q2 := (pc + len, L, S, k, n, H)) hd rfl rfl (by
    by_cases h : y < x
    · simp [stp, hj, Jvm.Free.XT.ii_gt_t h, h]
    · simp [stp, hj, Jvm.Free.XT.ii_gt_f h, h])
theorem W_icmp_le (hd : P.1 m pc = some (.if_icmp .le o, len, aux)) (hj : jmp pc o = some q) : W P m pc L (.int y :: .int x :: S) k n H Q ↔ (if y < x then W P m (pc + len) L S k n H Q else W P m q L S k n H Q) :=
  W_f (G := y < x) (q1 := (pc + len, L, S, k, n, H)) (q2 := (q, L, S, k, n, H)) hd rfl rfl (by
    by_cases h : y < x
    · simp [stp, hj, Jvm.Free.XT.ii_le_f h, h]
    · simp [stp, hj, Jvm.Free.XT.ii_le_t h, h])
theorem W_if_eq (hd : P.1 m pc = some (.ifCond .eq o, len, aux)) (hj : jmp pc o = some q) : W P m pc L (.int x :: S) k n H Q ↔ (if x = 0 then W P m q L S k n H Q else W P m (pc + len) L S k n H Q) :=
  W_f (G := x = 0) (q1 := (q, L, S, k, n, H)) (q2 := (pc + len, L, S, k, n, H)) hd rfl rfl (by
    by_cases h : x = 0
    · have e := Jvm.Free.XT.i0_eq_t h; simp only [stp, hj, e, if_pos h, if_true, Option.map_some]
    · simp [stp, hj, Jvm.Free.XT.i0_eq_f h, h])
theorem W_if_ne (hd : P.1 m pc = some (.ifCond .ne o, len, aux)) (hj : jmp pc o = some q) : W P m pc L (.int x :: S) k n H Q ↔ (if x = 0 then W P m (pc + len) L S k n H Q else W P m q L S k n H Q) :=
  W_f (G := x = 0) (q1 := (pc + len, L, S, k, n, H)) (q2 := (q, L, S, k, n, H)) hd rfl rfl (by
    by_cases h : x = 0
    · have e := Jvm.Free.XT.i0_ne_f h; simp only [stp, hj, e, if_pos h, Bool.false_eq_true, if_false]
    · simp [stp, hj, Jvm.Free.XT.i0_ne_t h, h])
theorem W_if_lt (hd : P.1 m pc = some (.ifCond .lt o, len, aux)) (hj : jmp pc o = some q) : W P m pc L (.int x :: S) k n H Q ↔ (if x < 0 then W P m q L S k n H Q else W P m (pc + len) L S k n H Q) :=
  W_f (G := x < 0) (q1 := (q, L, S, k, n, H)) (q2 := (pc + len, L, S, k, n, H)) hd rfl rfl (by
    by_cases h : x < 0
    · simp [stp, hj, Jvm.Free.XT.i0_lt_t h, h]
    · simp [stp, hj, Jvm.Free.XT.i0_lt_f h, h])
theorem W_goto (hd : P.1 m pc = some (.goto o, len, aux)) (hj : jmp pc o = some q) : W P m pc L S k n H Q ↔ W P m q L S k n H Q := W_s hd rfl rfl (by simp [stp, hj])
end Cmp
section Sto
variable {i : Nat} {o o2 : Slot} {x y : Int32} {v : Value} {l : Int64} {a : Nat}
theorem stl_plain (h : L[i]? = some o) (ho : cat1 o = true) : stl L i v = some (L.set i (.val v)) := by
  unfold stl
  rw [h]
  cases o with
  | unset => rfl
  | second => cases ho
  | val w => simp only [cat1, beq_iff_eq] at ho; simp [ho]
theorem stL_plain (h : L[i]? = some o) (h2 : L[i + 1]? = some o2) (ho : cat1 o = true) (ho2 : cat1 o2 = true) : stL L i v = some ((L.set i (.val v)).set (i + 1) .second) := by
  unfold stL
  rw [h, h2]
  cases o with
  | unset => simp [ho2]
  | second => cases ho
  | val w => simp only [cat1, beq_iff_eq] at ho; simp [ho, ho2]
theorem stL_again (h : L[i]? = some (.val (.long l))) (h2 : L[i + 1]? = some o2) : stL L i v = some ((L.set i (.val v)).set (i + 1) .second) := by
  unfold stL
  rw [h, h2]; simp [Value.category]
theorem W_ist (hd : P.1 m pc = some (.istore i, len, aux)) (h : L[i]? = some o) (ho : cat1 o = true) : W P m pc L (.int x :: S) k n H Q ↔ W P m (pc + len) (L.set i (.val (.int x))) S k n H Q := W_s hd rfl rfl (by simp [stp, stl_plain h ho])
theorem W_istn {i : Fin 4} (hd : P.1 m pc = some (.istore_n i, len, aux)) (h : L[i.val]? = some o) (ho : cat1 o = true) : W P m pc L (.int x :: S) k n H Q ↔ W P m (pc + len) (L.set i.val (.val (.int x))) S k n H Q := W_s hd rfl rfl (by simp [stp, stl_plain h ho])
theorem W_astn {i : Fin 4} (hd : P.1 m pc = some (.astore_n i, len, aux)) (h : L[i.val]? = some o) (ho : cat1 o = true) : W P m pc L (.ref a :: S) k n H Q ↔ W P m (pc + len) (L.set i.val (.val (.ref a))) S k n H Q := W_s hd rfl rfl (by simp [stp, stl_plain h ho])
theorem W_lst (hd : P.1 m pc = some (.lstore i, len, aux)) (h : L[i]? = some o) (h2 : L[i + 1]? = some o2) (ho : cat1 o = true) (ho2 : cat1 o2 = true) : W P m pc L (.long l :: S) k n H Q ↔ W P m (pc + len) ((L.set i (.val (.long l))).set (i + 1) .second) S k n H Q := W_s hd rfl rfl (by simp [stp, stL_plain h h2 ho ho2])
theorem W_lst' {l' : Int64} (hd : P.1 m pc = some (.lstore i, len, aux)) (h : L[i]? = some (.val (.long l'))) (h2 : L[i + 1]? = some o2) : W P m pc L (.long l :: S) k n H Q ↔ W P m (pc + len) ((L.set i (.val (.long l))).set (i + 1) .second) S k n H Q := W_s hd rfl rfl (by simp [stp, stL_again h h2])
theorem cs_nil : cs [] = 0 := by simp [cs]
theorem cs_int : cs (.int x :: S) = 1 + cs S := by simp [cs, Value.category]
theorem cs_ref : cs (.ref a :: S) = 1 + cs S := by simp [cs, Value.category]
theorem cs_long : cs (.long l :: S) = 2 + cs S := by simp [cs, Value.category]
end Sto
section Heap
variable {a j : Nat} {i x c : Int32} {v : Value} {l : Int64}
theorem W_getf {ix : Nat} (hd : P.1 m pc = some (.getfield ix, len, aux)) : W P m pc L (.ref a :: S) k n H Q ↔ (isO H a = true ∧ W P m (pc + len) L (fld H a aux.toNat :: S) k n H Q) := W_g hd rfl rfl rfl
theorem W_putf {ix : Nat} (hd : P.1 m pc = some (.putfield ix, len, aux)) : W P m pc L (v :: .ref a :: S) k n H Q ↔ ((isOw H a = true ∧ okv (P.2.2.1 aux.toNat) v = true) ∧ W P m (pc + len) L S k n (wr H a aux.toNat v) Q) := W_g hd rfl rfl rfl
theorem W_iaload (hd : P.1 m pc = some (.iaload, len, aux)) : W P m pc L (.int i :: .ref a :: S) k n H Q ↔ (inA H a .int i = true ∧ W P m (pc + len) L (elt H a i :: S) k n H Q) := W_g hd rfl rfl rfl
theorem W_baload (hd : P.1 m pc = some (.baload, len, aux)) : W P m pc L (.int i :: .ref a :: S) k n H Q ↔ ((inA H a .byte i = true ∨ inA H a .boolean i = true) ∧ W P m (pc + len) L (elt H a i :: S) k n H Q) := W_g hd rfl rfl rfl
theorem W_iastore (hd : P.1 m pc = some (.iastore, len, aux)) : W P m pc L (.int x :: .int i :: .ref a :: S) k n H Q ↔ (inAw H a .int i = true ∧ W P m (pc + len) L S k n (wr H a i.toNatClampNeg (.int x)) Q) := W_g hd rfl rfl rfl
theorem W_bastore (hd : P.1 m pc = some (.bastore, len, aux)) : W P m pc L (.int x :: .int i :: .ref a :: S) k n H Q ↔ (((inAw H a .byte i = true ∧ okv .byte (.int x) = true) ∨ (inAw H a .boolean i = true ∧ okv .boolean (.int x) = true)) ∧ W P m (pc + len) L S k n (wr H a i.toNatClampNeg (.int x)) Q) := W_g hd rfl rfl rfl
theorem W_alen (hd : P.1 m pc = some (.arraylength, len, aux)) : W P m pc L (.ref a :: S) k n H Q ↔ (isA H a = true ∧ W P m (pc + len) L (.int (alen H a).toInt32 :: S) k n H Q) := W_g hd rfl rfl rfl
theorem W_newarr {t : ArrayType} (hd : P.1 m pc = some (.newarray t, len, aux)) : W P m pc L (.int c :: S) k n H Q ↔ ((¬ c < 0 ∧ c.toNatClampNeg * 8 ≤ 536870912 ∧ k + 1 ≤ (rm P m).cells ∧ n + c.toNatClampNeg ≤ (rm P m).slots) ∧ W P m (pc + len) L (.ref H.1 :: S) (k + 1) (n + c.toNatClampNeg) (mkA (newarray.typeOf t) c.toNatClampNeg H) Q) := W_g hd rfl rfl rfl
theorem W_new {ix : Nat} (hd : P.1 m pc = some (.new ix, len, aux)) : W P m pc L S k n H Q ↔ ((0 ≤ aux ∧ k + 1 ≤ (rm P m).cells ∧ n + aux.toNat ≤ (rm P m).slots) ∧ W P m (pc + len) L (.ref H.1 :: S) (k + 1) (n + aux.toNat) (mkO P H) Q) := W_g hd rfl rfl rfl
theorem W_oinit {ix : Nat} (hd : P.1 m pc = some (.invokespecial ix, len, -1)) : W P m pc L (.ref a :: S) k n H Q ↔ ((1 ≤ (rm P m).frames ∧ cs S + 12 ≤ (rm P m).locals) ∧ W P m (pc + len) L S k n H Q) :=
  W_g (G := 1 ≤ (rm P m).frames ∧ cs S + 12 ≤ (rm P m).locals) hd rfl (by simp [cal, cal1]) (by simp [stp])
end Heap
section Call
variable {m' : Nat} {a r : List Value} {b : Nat}
theorem cal_eq (hk : kindOk ins (kd P m') = true) (hl : a.length = na P m') : cal P m ins (m' : Int) (a.reverse ++ r) k n H = if may P m m' a r k n H = true then some (m', a, r) else none := by
  have e1 : (a.reverse ++ r).take (na P m') = a.reverse := by rw [← hl, ← List.length_reverse (as := a)]; exact List.take_left ..
  have e2 : (a.reverse ++ r).drop (na P m') = r := by rw [← hl, ← List.length_reverse (as := a)]; exact List.drop_left ..
  have key : cal1 P m ins (m' : Int) (a.reverse ++ r) k n H = if may P m m' a r k n H = true then some (m', a, r) else none := by
    unfold cal1
    rw [Int.toNat_natCast, e1, e2, List.reverse_reverse]
    simp [hk]
  cases ins <;> first | exact key | (cases hk)
theorem W_call (hd : P.1 m pc = some (ins, len, (m' : Int))) (hr : ret P m ins S = none) (hk : kindOk ins (kd P m') = true) (hl : a.length = na P m') (hS : S = a.reverse ++ r) (hns : stp P m ins len (m' : Int) pc L S k n H = none) :
    W P m pc L S k n H Q ↔ (may P m m' a r k n H = true ∧ Cl P m' a H (fun v H' => W P m (pc + len) L (v.toList ++ r) (k + (rm P m').cells) (n + (rm P m').slots) H' Q)) := by
  have hc : cal P m ins (m' : Int) S k n H = if may P m m' a r k n H = true then some (m', a, r) else none := by rw [hS]; exact cal_eq hk hl
  by_cases g : may P m m' a r k n H = true
  · rw [if_pos g] at hc
    rw [W_c hd hr hc]; simp [g]
  · rw [if_neg g] at hc
    rw [W_q hd hr hc, hns]
    exact ⟨fun ⟨q, e, h⟩ => (by cases e), fun h => absurd h.1 g⟩
theorem W_inst {ix : Nat} {as : List Value} (hd : P.1 m pc = some (.invokevirtual ix, len, (m' : Int))) (hk : kindOk (.invokevirtual ix) (kd P m') = true) (hl : as.length + 1 = na P m') (hS : S = as.reverse ++ .ref b :: r)
    (h1 : (Sym.laidSlots (.ref b :: as)).length ≤ ml P m') (h2 : (rm P m').frames + 1 ≤ (rm P m).frames) (h3 : (rm P m').cells = 0 ∧ (rm P m').slots = 0) :
    W P m pc L S k n H Q ↔ ((isO H b = true ∧ cs r + (ml P m' + 11) + (rm P m').locals ≤ (rm P m).locals) ∧ Cl P m' (.ref b :: as) H (fun v H' => W P m (pc + len) L (v.toList ++ r) k n H' Q)) := by
  rw [W_call (a := .ref b :: as) (r := r) hd rfl hk hl (by rw [hS]; simp) rfl]
  have e : may P m m' (.ref b :: as) r k n H = true ↔ (isO H b = true ∧ cs r + (ml P m' + 11) + (rm P m').locals ≤ (rm P m).locals) := by
    have hk0 : kd P m' ≠ 0 := by intro h; rw [h] at hk; cases hk
    simp [may, rcv, h1, h2, h3, ← hl, hk0]; exact And.comm
  rw [e, h3.1, h3.2]; rfl
theorem W_stat {ix : Nat} (hd : P.1 m pc = some (.invokestatic ix, len, (m' : Int))) (hk : kindOk (.invokestatic ix) (kd P m') = true) (hl : a.length = na P m') (hS : S = a.reverse ++ r)
    (h1 : (Sym.laidSlots a).length ≤ ml P m') (h2 : (rm P m').frames + 1 ≤ (rm P m).frames) (h3 : (rm P m').cells = 0 ∧ (rm P m').slots = 0) :
    W P m pc L S k n H Q ↔ ((cs r + (ml P m' + 11) + (rm P m').locals ≤ (rm P m).locals) ∧ Cl P m' a H (fun v H' => W P m (pc + len) L (v.toList ++ r) k n H' Q)) := by
  rw [W_call (a := a) (r := r) hd rfl hk hl hS rfl]
  have e : may P m m' a r k n H = true ↔ (cs r + (ml P m' + 11) + (rm P m').locals ≤ (rm P m).locals) := by
    have hk0 : kd P m' = 0 := by simpa [kindOk] using hk
    simp [may, h1, h2, h3, hl, hk0]
  rw [e, h3.1, h3.2]; rfl
theorem W_init {ix : Nat} {as : List Value} (hd : P.1 m pc = some (.invokespecial ix, len, (m' : Int))) (hk : kindOk (.invokespecial ix) (kd P m') = true) (hl : as.length + 1 = na P m') (hS : S = as.reverse ++ .ref b :: r)
    (h1 : (Sym.laidSlots (.ref b :: as)).length ≤ ml P m') (h2 : (rm P m').frames + 1 ≤ (rm P m).frames) (h3 : ¬ ((rm P m').cells = 0 ∧ (rm P m').slots = 0)) :
    W P m pc L S k n H Q ↔ ((isO H b = true ∧ cs r + (ml P m' + 11) + (rm P m').locals ≤ (rm P m).locals ∧ k + (rm P m').cells ≤ (rm P m).cells ∧ n + (rm P m').slots ≤ (rm P m).slots) ∧ Cl P m' (.ref b :: as) H (fun v H' => W P m (pc + len) L (v.toList ++ r) (k + (rm P m').cells) (n + (rm P m').slots) H' Q)) := by
  have hns : stp P m (.invokespecial ix) len (m' : Int) pc L S k n H = none := by
    dsimp only [stp]
    split
    · rw [if_neg]; omega
    · rfl
  rw [W_call (a := .ref b :: as) (r := r) hd rfl hk hl (by rw [hS]; simp) hns]
  have e : may P m m' (.ref b :: as) r k n H = true ↔ (isO H b = true ∧ cs r + (ml P m' + 11) + (rm P m').locals ≤ (rm P m).locals ∧ k + (rm P m').cells ≤ (rm P m).cells ∧ n + (rm P m').slots ≤ (rm P m).slots) := by
    have hk0 : kd P m' ≠ 0 := by intro h; rw [h] at hk; cases hk
    simp only [may, rcv, h1, h2, h3, ← hl, hk0, List.length_cons, decide_true, decide_false, Bool.true_and, Bool.false_or, Bool.and_eq_true, decide_eq_true_eq]
    constructor
    · rintro ⟨⟨q1, q2⟩, q3⟩; exact ⟨q3, q1, q2⟩
    · rintro ⟨q3, q1, q2⟩; exact ⟨⟨q1, q2⟩, q3⟩
  rw [e]
end Call
section Last
theorem W_rz {x : Int32} (hd : P.1 m pc = some (.ireturn, len, aux)) (hr : rt P m = some .boolean) : W P m pc L (.int x :: S) k n H Q ↔ ((x = 0 ∨ x = 1) ∧ Q (some (.int x)) H) := by
  by_cases g : x = 0 ∨ x = 1
  · rw [W_r hd (by simp only [ret, hr]; rw [if_pos g])]; simp [g]
  · rw [W_q hd (by simp only [ret, hr]; rw [if_neg g]) rfl]
    constructor
    · rintro ⟨q, e, -⟩; cases e
    · intro h; exact absurd h.1 g
theorem W_newarr' {t : ArrayType} {c : Int32} {N : Nat} (hd : P.1 m pc = some (.newarray t, len, aux)) (hN : c.toNatClampNeg = N) (h1 : ¬ c < 0) (h2 : N * 8 ≤ 536870912) :
    W P m pc L (.int c :: S) k n H Q ↔ ((k + 1 ≤ (rm P m).cells ∧ n + N ≤ (rm P m).slots) ∧ W P m (pc + len) L (.ref H.1 :: S) (k + 1) (n + N) (mkA (newarray.typeOf t) N H) Q) := by
  rw [W_newarr hd, hN]; simp [h1, h2]
theorem W_new' {ix : Nat} (hd : P.1 m pc = some (.new ix, len, aux)) (h0 : 0 ≤ aux) : W P m pc L S k n H Q ↔ ((k + 1 ≤ (rm P m).cells ∧ n + aux.toNat ≤ (rm P m).slots) ∧ W P m (pc + len) L (.ref H.1 :: S) (k + 1) (n + aux.toNat) (mkO P H) Q) := by
  rw [W_new hd]; simp [h0]
theorem cmpL_eq {x y : Int64} : Jvm.Free.XT.cmpL x y = 0 ↔ x = y := by
  unfold Jvm.Free.XT.cmpL
  by_cases h1 : y < x
  · rw [if_pos h1]; exact ⟨fun h => absurd h (by decide), fun h => by subst h; rw [Int64.lt_iff_toInt_lt] at h1; omega⟩
  · rw [if_neg h1]
    by_cases h2 : x = y
    · rw [if_pos h2]; exact ⟨fun _ => h2, fun _ => rfl⟩
    · rw [if_neg h2]; exact ⟨fun h => absurd h (by decide), fun h => absurd h h2⟩
end Last
end Rules
abbrev LW : Type := (Nat → Nat → Option (Instr × Nat × Int)) × (Nat → MInfo)
abbrev Row : Type := Nat × Instr × Nat × Int
end Jvm.JX

namespace Jvm.JX
open Sem ClassFile Op Lib
abbrev St : Type := (Nat → Int32) × (Nat → Int64) × (Nat → Nat → Int32) × (Nat → Nat → Int64)
abbrev Lay : Type := List (FieldType × Nat) × List (FieldType × Nat)
def sI (s : St) (k : Nat) : Int32 := s.1 k
def sJ (s : St) (k : Nat) : Int64 := s.2.1 k
def sA (s : St) (t i : Nat) : Int32 := s.2.2.1 t i
def sB (s : St) (t i : Nat) : Int64 := s.2.2.2 t i
def uI (s : St) (k : Nat) (v : Int32) : St := (fun j => if j = k then v else s.1 j, s.2.1, s.2.2.1, s.2.2.2)
def uJ (s : St) (k : Nat) (v : Int64) : St := (s.1, fun j => if j = k then v else s.2.1 j, s.2.2.1, s.2.2.2)
def uA (s : St) (t i : Nat) (v : Int32) : St := (s.1, s.2.1, fun t' i' => if t' = t ∧ i' = i then v else s.2.2.1 t' i', s.2.2.2)
def uB (s : St) (t i : Nat) (v : Int64) : St := (s.1, s.2.1, s.2.2.1, fun t' i' => if t' = t ∧ i' = i then v else s.2.2.2 t' i')
def z0 : St := (fun _ => 0, fun _ => 0, fun _ _ => 0, fun _ _ => 0)
section St
variable {s : St} {k j t i t' i' : Nat} {v : Int32} {w : Int64}
theorem sI_uI : sI (uI s k v) j = if j = k then v else sI s j := by simp [sI, sJ, sA, sB, uI, uJ, uA, uB, z0]
theorem sI_uJ : sI (uJ s k w) j = sI s j := by simp [sI, sJ, sA, sB, uI, uJ, uA, uB, z0]
theorem sI_uA : sI (uA s t i v) j = sI s j := by simp [sI, sJ, sA, sB, uI, uJ, uA, uB, z0]
theorem sJ_uI : sJ (uI s k v) j = sJ s j := by simp [sI, sJ, sA, sB, uI, uJ, uA, uB, z0]
theorem sJ_uJ : sJ (uJ s k w) j = if j = k then w else sJ s j := by simp [sI, sJ, sA, sB, uI, uJ, uA, uB, z0]
theorem sJ_uA : sJ (uA s t i v) j = sJ s j := by simp [sI, sJ, sA, sB, uI, uJ, uA, uB, z0]
theorem sA_uI : sA (uI s k v) t' i' = sA s t' i' := by simp [sI, sJ, sA, sB, uI, uJ, uA, uB, z0]
theorem sA_uJ : sA (uJ s k w) t' i' = sA s t' i' := by simp [sI, sJ, sA, sB, uI, uJ, uA, uB, z0]
theorem sA_uA : sA (uA s t i v) t' i' = if t' = t ∧ i' = i then v else sA s t' i' := by simp [sI, sJ, sA, sB, uI, uJ, uA, uB, z0]
theorem sB_uI : sB (uI s k v) t' i' = sB s t' i' := by simp [sI, sJ, sA, sB, uI, uJ, uA, uB, z0]
theorem sB_uJ : sB (uJ s k w) t' i' = sB s t' i' := by simp [sI, sJ, sA, sB, uI, uJ, uA, uB, z0]
theorem sB_uA : sB (uA s t i v) t' i' = sB s t' i' := by simp [sI, sJ, sA, sB, uI, uJ, uA, uB, z0]
theorem sA_z0 : sA z0 t i = 0 := by simp [sI, sJ, sA, sB, uI, uJ, uA, uB, z0]
theorem sB_z0 : sB z0 t i = 0 := by simp [sI, sJ, sA, sB, uI, uJ, uA, uB, z0]
theorem St_ext {s s' : St} (h1 : ∀ k, sI s k = sI s' k) (h2 : ∀ k, sJ s k = sJ s' k) (h3 : ∀ t i, sA s t i = sA s' t i) (h4 : ∀ t i, sB s t i = sB s' t i) : s = s' :=
  Prod.ext (funext h1) (Prod.ext (funext h2) (Prod.ext (funext fun t => funext (h3 t)) (funext fun t => funext (h4 t))))
end St
def zr (s : St) (t : Nat) : Prop := (∀ i, sA s t i = 0) ∧ ∀ i, sB s t i = 0
theorem zr_z0 {t : Nat} : zr z0 t = True := by simp [zr, sA_z0, sB_z0]
def fvl (y : Lay) (j p : Nat) (s : St) (k : Nat) : Value := match y.1[k]? with
  | some (.long, _) => .long (sJ s k)
  | some (.array _, t) => if t ≤ j then .ref (p + t) else .null
  | _ => .int (sI s k)
def blk (y : Lay) (j p : Nat) (s : St) : Nat → Cel
  | 0 => (.object "", y.1.length, true, fvl y j p s)
  | t + 1 => match y.2[t]? with
    | some (.long, n) => (.array .long, n, true, fun i => .long (sB s (t + 1) i))
    | some (ty, n) => (.array ty, n, true, fun i => .int (sA s (t + 1) i))
    | none => (.char, 0, false, fun _ => .null)
def put (y : Lay) (j : Nat) (H : AH) (p : Nat) (s : St) : AH := (H.1, fun a => if p ≤ a ∧ a ≤ p + j then blk y j p s (a - p) else H.2 a)
section Put
variable {y : Lay} {j : Nat} {H : AH} {p : Nat} {s : St} {k t n : Nat} {ty : FieldType} {i : Int32}
theorem put_0 : (put y j H p s).2 p = (.object "", y.1.length, true, fvl y j p s) := by simp [put, blk]
theorem put_t (ht : t ≤ j) : (put y j H p s).2 (p + t) = blk y j p s t := by simp [put, ht]
theorem put_ot {a : Nat} (h : a < p ∨ p + j < a) : (put y j H p s).2 a = H.2 a := by
  have : ¬ (p ≤ a ∧ a ≤ p + j) := by omega
  simp [put, this]
theorem isO_put : isO (put y j H p s) p = true := by simp [isO, put_0]
theorem isOw_put : isOw (put y j H p s) p = true := by simp [isOw, isO_put, put_0]
theorem fld_I (h : y.1[k]? = some (ty, t)) (hl : ty ≠ .long) (ha : ∀ e, ty ≠ .array e) : fld (put y j H p s) p k = .int (sI s k) := by
  simp only [fld, put_0, fvl, h]; cases ty <;> first | rfl | exact absurd rfl hl | exact absurd rfl (ha _)
theorem fld_J (h : y.1[k]? = some (.long, t)) : fld (put y j H p s) p k = .long (sJ s k) := by simp only [fld, put_0, fvl, h]
theorem fld_R (h : y.1[k]? = some (.array ty, t)) (ht : t ≤ j) : fld (put y j H p s) p k = .ref (p + t) := by simp only [fld, put_0, fvl, h, ht, if_true]
theorem blk_I (h : y.2[t]? = some (ty, n)) (hl : ty ≠ .long) : blk y j p s (t + 1) = (.array ty, n, true, fun i => .int (sA s (t + 1) i)) := by
  simp only [blk, h]
theorem clamp_lt {i : Int32} {n : Nat} : (¬ i < 0 ∧ i.toNatClampNeg < n) ↔ (0 ≤ i.toInt ∧ i.toInt < n) := by
  simp only [Int32.lt_iff_toInt_lt, Int32.toNatClampNeg, Int32.reduceToInt]; omega
theorem inA_I (h : y.2[t]? = some (ty, n)) (hl : ty ≠ .long) (ht : t + 1 ≤ j) : inA (put y j H p s) (p + (t + 1)) ty i = true ↔ (0 ≤ i.toInt ∧ i.toInt < n) := by
  rw [← clamp_lt]; simp [inA, put_t ht, blk_I h hl]
theorem inA_no {ty' : FieldType} (h : y.2[t]? = some (ty, n)) (hl : ty ≠ .long) (ht : t + 1 ≤ j) (hne : ty ≠ ty') : inA (put y j H p s) (p + (t + 1)) ty' i = true ↔ False := by
  simp [inA, put_t ht, blk_I h hl, hne]
theorem inAw_I (h : y.2[t]? = some (ty, n)) (hl : ty ≠ .long) (ht : t + 1 ≤ j) : inAw (put y j H p s) (p + (t + 1)) ty i = true ↔ (0 ≤ i.toInt ∧ i.toInt < n) := by
  rw [← inA_I (H := H) (p := p) (s := s) h hl ht]; simp [inAw, put_t ht, blk_I h hl]
theorem inAw_no {ty' : FieldType} (h : y.2[t]? = some (ty, n)) (hl : ty ≠ .long) (ht : t + 1 ≤ j) (hne : ty ≠ ty') : inAw (put y j H p s) (p + (t + 1)) ty' i = true ↔ False := by
  simp [inAw, inA, put_t ht, blk_I h hl, hne]
theorem elt_I (h : y.2[t]? = some (ty, n)) (hl : ty ≠ .long) (ht : t + 1 ≤ j) : elt (put y j H p s) (p + (t + 1)) i = .int (sA s (t + 1) i.toNatClampNeg) := by
  simp only [elt, put_t ht, blk_I h hl]
theorem put_wr {s' : St} {t q : Nat} {v : Value} (ht : t ≤ j) (hb : ∀ t', blk y j p s' t' = if t' = t then ((blk y j p s t).1, (blk y j p s t).2.1, (blk y j p s t).2.2.1, fun i => if i = q then v else (blk y j p s t).2.2.2 i) else blk y j p s t') :
    wr (put y j H p s) (p + t) q v = put y j H p s' := by
  refine Prod.ext rfl (funext fun a => ?_)
  simp only [wr, put_t ht]
  by_cases e : a = p + t
  · subst e; simp [put, ht, hb]
  · simp only [e, if_false, put]
    by_cases g : p ≤ a ∧ a ≤ p + j
    · have : a - p ≠ t := by omega
      simp [g, hb, this]
    · simp [g]
theorem fvl_uI {v : Int32} (h : y.1[k]? = some (ty, t)) (hl : ty ≠ .long) (ha : ∀ e, ty ≠ .array e) (i : Nat) : fvl y j p (uI s k v) i = if i = k then .int v else fvl y j p s i := by
  by_cases e : i = k
  · subst e; simp only [fvl, h, if_true]; cases ty <;> first | (simp [sI_uI]; done) | exact absurd rfl hl | exact absurd rfl (ha _)
  · simp only [fvl, e, if_false, sI_uI, sJ_uI]
theorem fvl_uJ {v : Int64} (h : y.1[k]? = some (.long, t)) (i : Nat) : fvl y j p (uJ s k v) i = if i = k then .long v else fvl y j p s i := by
  by_cases e : i = k
  · subst e; simp only [fvl, h, if_true, sJ_uJ]
  · simp only [fvl, e, if_false, sI_uJ, sJ_uJ]
theorem wr_I {v : Int32} (h : y.1[k]? = some (ty, t)) (hl : ty ≠ .long) (ha : ∀ e, ty ≠ .array e) : wr (put y j H p s) p k (.int v) = put y j H p (uI s k v) := by
  refine put_wr (t := 0) (Nat.zero_le _) fun t' => ?_
  cases t' with
  | zero => simp only [blk, if_true]; exact congrArg (fun f => (_, _, _, f)) (funext fun i => fvl_uI h hl ha i)
  | succ t' => simp [blk, sA_uI, sB_uI]
theorem wr_J {v : Int64} (h : y.1[k]? = some (.long, t)) : wr (put y j H p s) p k (.long v) = put y j H p (uJ s k v) := by
  refine put_wr (t := 0) (Nat.zero_le _) fun t' => ?_
  cases t' with
  | zero => simp only [blk, if_true]; exact congrArg (fun f => (_, _, _, f)) (funext fun i => fvl_uJ h i)
  | succ t' => simp [blk, sA_uJ, sB_uJ]
theorem wr_A {v : Int32} {q : Nat} (h : y.2[t]? = some (ty, n)) (hl : ty ≠ .long) (ht : t + 1 ≤ j) : wr (put y j H p s) (p + (t + 1)) q (.int v) = put y j H p (uA s (t + 1) q v) := by
  refine put_wr ht fun t' => ?_
  by_cases e : t' = t + 1
  · subst e
    simp only [blk_I h hl, if_true, sA_uA, true_and]
    exact congrArg (fun f => (_, _, _, f)) (funext fun i => by split <;> rfl)
  · simp only [e, if_false]
    cases t' with
    | zero => rfl
    | succ t' => have : ¬ t' = t := fun q => e (by rw [q]); simp [blk, sA_uA, sB_uA, this]
theorem mkO_put {P : Prog} (hn : P.2.2.2 = y.1.length) (hf : ∀ k, defaultValue (P.2.2.1 k) = fvl y 0 H.1 z0 k) : mkO P H = put y 0 (H.1 + 1, H.2) H.1 z0 := by
  refine Prod.ext rfl (funext fun a => ?_)
  by_cases e : a = H.1
  · subst e; simp only [mkO, if_true, put_0, hn]; exact congrArg (fun f => (_, _, _, f)) (funext fun k => hf k)
  · have : ¬ (H.1 ≤ a ∧ a ≤ H.1 + 0) := by omega
    simp only [mkO, put, e, if_false, if_neg this]
theorem mkA_put {h : Nat → Cel} (h1 : y.1[k]? = some (.array ty, j + 1)) (h2 : y.2[j]? = some (ty, n)) (hu : (List.range y.1.length).all (fun k' => decide (k' = k) || ((y.1.getD k' (.int, 0)).2 != j + 1)) = true) (hz : ∀ i, sA s (j + 1) i = 0) (hz' : ∀ i, sB s (j + 1) i = 0) (hty : ty = .int ∨ ty = .long ∨ ty = .byte ∨ ty = .boolean) :
    wr (mkA ty n (put y j (p + (j + 1), h) p s)) p k (.ref (p + (j + 1))) = put y (j + 1) (p + (j + 1) + 1, h) p s := by
  refine Prod.ext rfl (funext fun a => ?_)
  have hp : ¬ p = p + (j + 1) := by omega
  have hN : (put y j (p + (j + 1), h) p s).1 = p + (j + 1) := rfl
  by_cases e : a = p
  · subst e
    simp only [wr, mkA, hN, if_true, hp, if_false, put_0]
    refine congrArg (fun f => (_, _, _, f)) (funext fun i => ?_)
    by_cases e2 : i = k
    · subst e2; simp [fvl, h1]
    · simp only [e2, if_false, fvl]
      cases hq : y.1[i]? with
      | none => rfl
      | some x =>
        obtain ⟨x1, x2⟩ := x
        cases x1 <;> try rfl
        rename_i el
        have : x2 ≠ j + 1 := fun q => by
          have hlt : i < y.1.length := (List.getElem?_eq_some_iff.mp hq).1
          have u := List.all_eq_true.mp hu i (List.mem_range.mpr hlt)
          simp [e2, hq, q] at u
        have : (x2 ≤ j + 1) = (x2 ≤ j) := propext ⟨fun _ => by omega, fun _ => by omega⟩
        simp [this]
  · simp only [wr, mkA, hN, e, if_false]
    by_cases e2 : a = p + (j + 1)
    · subst e2
      simp only [if_true, put_t (Nat.le_refl (j + 1))]
      rcases hty with rfl | rfl | rfl | rfl
      · simp only [blk, h2, hz]; rfl
      · simp only [blk, h2, hz']; rfl
      · simp only [blk, h2, hz]; rfl
      · simp only [blk, h2, hz]; rfl
    · simp only [e2, if_false, put]
      by_cases g : p ≤ a ∧ a ≤ p + j
      · have g2 : p ≤ a ∧ a ≤ p + (j + 1) := by omega
        simp only [g, g2, and_self, if_true]
        obtain ⟨t, ht⟩ : ∃ t, a - p = t + 1 := ⟨a - p - 1, by omega⟩
        rw [ht]; rfl
      · have g2 : ¬ (p ≤ a ∧ a ≤ p + (j + 1)) := by omega
        simp only [g, g2, if_false]
theorem isOw_mk {h : Nat → Cel} {c : Nat} : isOw (mkA ty n (put y j (p + (c + 1), h) p s)) p = true := by
  have : ¬ p = p + (c + 1) := by omega
  have hN : (put y j (p + (c + 1), h) p s).1 = p + (c + 1) := rfl
  simp [isOw, isO, mkA, hN, this, put_0]
theorem put_fst : (put y j H p s).1 = H.1 := by simp [put]
theorem cl_unf {P : Prog} {m : Nat} {a : List Value} {L : List Slot} {Q : Option Value → AH → Prop} (h : ent P m a = L) : Cl P m a H Q ↔ W P m 0 L [] 0 0 H Q := by unfold Cl; rw [h]
theorem inA_ot {a : Nat} (h : a < p ∨ p + j < a) : inA (put y j H p s) a ty i = inA H a ty i := by simp only [inA, put_ot h]
theorem isA_ot {a : Nat} (h : a < p ∨ p + j < a) : isA (put y j H p s) a = isA H a := by simp only [isA, put_ot h]
theorem elt_ot {a : Nat} (h : a < p ∨ p + j < a) : elt (put y j H p s) a i = elt H a i := by simp only [elt, put_ot h]
theorem alen_ot {a : Nat} (h : a < p ∨ p + j < a) : alen (put y j H p s) a = alen H a := by simp only [alen, put_ot h]
end Put
def noc : Cel := (.char, 0, false, fun _ => .null)
def H1 (n a len : Nat) (f : Nat → Int32) : AH := (n, fun b => if b = a then (.array .int, len, false, fun i => .int (f i)) else noc)
theorem isA_H1 {n a len : Nat} {f : Nat → Int32} : isA (H1 n a len f) a = true := by simp [isA, H1]
theorem alen_H1 {n a len : Nat} {f : Nat → Int32} : alen (H1 n a len f) a = len := by simp [alen, H1]
theorem inA_H1 {n a len : Nat} {f : Nat → Int32} {i : Int32} : inA (H1 n a len f) a .int i = true ↔ (0 ≤ i.toInt ∧ i.toInt < len) := by rw [← clamp_lt]; simp [inA, H1]
theorem elt_H1 {n a len : Nat} {f : Nat → Int32} {i : Int32} : elt (H1 n a len f) a i = .int (f i.toNatClampNeg) := by simp [elt, H1]
def cl (lo hi v : Int32) : Int32 := if v < lo then lo else if hi < v then hi else v
theorem cl3 {lo hi : Int32} (v : Int32) (h : ¬ hi < lo) : (v < lo ∧ ¬ hi < v) ∨ (¬ v < lo ∧ hi < v) ∨ (¬ v < lo ∧ ¬ hi < v) := by
  by_cases h1 : v < lo
  · exact Or.inl ⟨h1, fun h2 => h (by rw [Int32.lt_iff_toInt_lt] at *; omega)⟩
  · by_cases h2 : hi < v
    · exact Or.inr (Or.inl ⟨h1, h2⟩)
    · exact Or.inr (Or.inr ⟨h1, h2⟩)
section Okv
variable {x : Int32} {l : Int64} {a : Nat} {t : FieldType}
theorem okv_int : (okv .int (.int x) = true) = True := by simp [okv]
theorem okv_long : (okv .long (.long l) = true) = True := by simp [okv]
theorem okv_ref : (okv (.array t) (.ref a) = true) = True := by simp [okv]
end Okv
end Jvm.JX

namespace Jvm.JX
open Sem ClassFile Op Lib
section Num
theorem ia {x y : Int32} (h1 : -2147483648 ≤ x.toInt + y.toInt) (h2 : x.toInt + y.toInt ≤ 2147483647) : (x + y).toInt = x.toInt + y.toInt := by
  rw [Int32.toInt_add]; exact Int.bmod_eq_of_le (by omega) (by omega)
theorem isb {x y : Int32} (h1 : -2147483648 ≤ x.toInt - y.toInt) (h2 : x.toInt - y.toInt ≤ 2147483647) : (x - y).toInt = x.toInt - y.toInt := by
  rw [Int32.toInt_sub]; exact Int.bmod_eq_of_le (by omega) (by omega)
theorem im {x y : Int32} (h1 : -2147483648 ≤ x.toInt * y.toInt) (h2 : x.toInt * y.toInt ≤ 2147483647) : (x * y).toInt = x.toInt * y.toInt := by
  rw [Int32.toInt_mul]; exact Int.bmod_eq_of_le (by omega) (by omega)
theorem jsb {x y : Int64} (h1 : -9223372036854775808 ≤ x.toInt - y.toInt) (h2 : x.toInt - y.toInt ≤ 9223372036854775807) : (x - y).toInt = x.toInt - y.toInt := by
  rw [Int64.toInt_sub]; exact Int.bmod_eq_of_le (by omega) (by omega)
theorem lt32 {x y : Int32} : x < y ↔ x.toInt < y.toInt := Int32.lt_iff_toInt_lt
theorem eq32 {x y : Int32} : x = y ↔ x.toInt = y.toInt := Int32.toInt_inj.symm
theorem eq64 {x y : Int64} : x = y ↔ x.toInt = y.toInt := Int64.toInt_inj.symm
theorem cln {i : Int32} : i.toNatClampNeg = i.toInt.toNat := rfl
theorem cl_rg {lo hi : Int32} (v : Int32) (h : lo.toInt ≤ hi.toInt) : lo.toInt ≤ (cl lo hi v).toInt ∧ (cl lo hi v).toInt ≤ hi.toInt := by
  unfold cl
  by_cases h1 : v < lo
  · rw [if_pos h1]; omega
  · rw [if_neg h1]
    by_cases h2 : hi < v
    · rw [if_pos h2]; omega
    · rw [if_neg h2]; rw [lt32] at h1 h2; omega
end Num
section Fill
def fA (s : St) (t lo hi : Nat) (v : Int32) : St := (s.1, s.2.1, fun t' i => if t' = t ∧ lo ≤ i ∧ i < hi then v else s.2.2.1 t' i, s.2.2.2)
variable {s : St} {t lo hi k i t' : Nat} {v : Int32}
theorem sI_fA : sI (fA s t lo hi v) k = sI s k := by simp [sI, fA]
theorem sJ_fA : sJ (fA s t lo hi v) k = sJ s k := by simp [sJ, fA]
theorem sA_fA : sA (fA s t lo hi v) t' i = if t' = t ∧ lo ≤ i ∧ i < hi then v else sA s t' i := by simp [sA, fA]
theorem sB_fA : sB (fA s t lo hi v) t' i = sB s t' i := by simp [sB, fA]
theorem fA_nil (h : hi ≤ lo) : fA s t lo hi v = s := by
  refine St_ext (fun k => sI_fA) (fun k => sJ_fA) (fun t' i => ?_) (fun t' i => sB_fA)
  rw [sA_fA, if_neg (by omega)]
theorem fA_step (h : lo < hi) : fA (uA s t lo v) t (lo + 1) hi v = fA s t lo hi v := by
  refine St_ext (fun k => by simp only [sI_fA, sI_uA]) (fun k => by simp only [sJ_fA, sJ_uA]) (fun t' i => ?_) (fun t' i => by simp only [sB_fA, sB_uA])
  simp only [sA_fA, sA_uA]
  by_cases h1 : t' = t ∧ lo + 1 ≤ i ∧ i < hi
  · rw [if_pos h1, if_pos (by omega)]
  · rw [if_neg h1]
    by_cases h2 : t' = t ∧ i = lo
    · rw [if_pos h2, if_pos (by omega)]
    · rw [if_neg h2, if_neg (by omega)]
end Fill
section Cnt
def cnt (f : Nat → Bool) : Nat → Nat → Nat
  | _, 0 => 0
  | j, k + 1 => (if f j = true then 1 else 0) + cnt f (j + 1) k
end Cnt
section Ite
variable {P : Prog} {m pc : Nat} {L : List Slot} {S : List Value} {k n : Nat} {H : AH} {Q : Option Value → AH → Prop} {c : Prop} [Decidable c]
end Ite
end Jvm.JX

namespace Jvm.JX
open Sem ClassFile Op Lib
section Forget
variable {P : Prog} {m pc len k n i : Nat} {aux : Int} {ins : Instr} {L L' M : List Slot} {S : List Value} {H : AH} {v : Value} {Q : Option Value → AH → Prop}
def lel (L L' : List Slot) : Prop := ∀ i : Nat, L[i]? = L'[i]? ∨ (L[i]? = some .unset ∧ ∃ o, L'[i]? = some o ∧ cat1 o = true)
theorem lel_refl : lel L L := fun _ => Or.inl rfl
theorem lel_cons {a : Slot} (h : lel L L') : lel (a :: L) (a :: L') := fun i => by cases i with
  | zero => exact Or.inl rfl
  | succ i => simpa using h i
theorem lel_un {o : Slot} (ho : cat1 o = true) (h : lel L L') : lel (.unset :: L) (o :: L') := fun i => by cases i with
  | zero => exact Or.inr ⟨rfl, o, rfl, ho⟩
  | succ i => simpa using h i
theorem lel_len (h : lel L L') : L.length = L'.length := by
  rcases Nat.lt_trichotomy L.length L'.length with g | g | g
  · have h1 : L[L.length]? = none := List.getElem?_eq_none (Nat.le_refl _)
    rcases h L.length with e | ⟨e, -⟩
    · rw [h1] at e; have := List.getElem?_eq_none_iff.mp e.symm; omega
    · rw [h1] at e; cases e
  · exact g
  · have h1 : L'[L'.length]? = none := List.getElem?_eq_none (Nat.le_refl _)
    rcases h L'.length with e | ⟨-, o, e, -⟩
    · rw [h1] at e; have := List.getElem?_eq_none_iff.mp e; omega
    · rw [h1] at e; cases e
theorem lel_set {a : Slot} (h : lel L L') : lel (L.set i a) (L'.set i a) := fun j => by
  rw [List.getElem?_set, List.getElem?_set, lel_len h]
  by_cases e : i = j
  · rw [if_pos e, if_pos e]; exact Or.inl rfl
  · rw [if_neg e, if_neg e]; exact h j
theorem ldI_le (h : lel L L') (e : ldI L i = some v) : ldI L' i = some v := by
  unfold ldI at *; rcases h i with g | ⟨g, -⟩
  · rw [← g]; exact e
  · rw [g] at e; cases e
theorem ldJ_le (h : lel L L') (e : ldJ L i = some v) : ldJ L' i = some v := by
  unfold ldJ at *; rcases h i with g | ⟨g, -⟩
  · rw [← g]; exact e
  · rw [g] at e; cases e
theorem ldR_le (h : lel L L') (e : ldR L i = some v) : ldR L' i = some v := by
  unfold ldR at *; rcases h i with g | ⟨g, -⟩
  · rw [← g]; exact e
  · rw [g] at e; cases e
theorem stl_le (h : lel L L') (e : stl L i v = some M) : ∃ M', stl L' i v = some M' ∧ lel M M' := by
  unfold stl at *
  rcases h i with g | ⟨g, o, g', ho⟩
  · rw [← g, ← lel_len h]
    revert e; generalize L[i]? = x; intro e
    match x, e with
    | some .unset, e => cases e; exact ⟨_, rfl, lel_set h⟩
    | some (.val w), e =>
      simp only at e ⊢
      by_cases c : w.category = 1
      · simp only [c, if_true] at e ⊢; cases e; exact ⟨_, rfl, lel_set h⟩
      · simp only [c, if_false] at e ⊢
        by_cases d : i + 1 < L.length
        · simp only [d, if_true] at e ⊢; cases e; exact ⟨_, rfl, lel_set (lel_set h)⟩
        · simp only [d, if_false] at e; cases e
    | some .second, e =>
      simp only at e ⊢
      by_cases d : 1 ≤ i
      · simp only [d, if_true] at e ⊢; cases e; exact ⟨_, rfl, lel_set (lel_set h)⟩
      · simp only [d, if_false] at e; cases e
    | none, e => cases e
  · rw [g] at e; cases e; rw [g']
    match o, ho with
    | .unset, _ => exact ⟨_, rfl, lel_set h⟩
    | .val w, ho =>
      have c : w.category = 1 := by simpa [cat1] using ho
      simp only [c, if_true]; exact ⟨_, rfl, lel_set h⟩
theorem stL_le (h : lel L L') (e : stL L i v = some M) : ∃ M', stL L' i v = some M' ∧ lel M M' := by
  have key : ∀ o2, L[i + 1]? = some o2 → ∃ o3, L'[i + 1]? = some o3 ∧ (cat1 o2 = true → cat1 o3 = true) ∧ (cat1 o2 = false → o3 = o2) := by
    intro o2 e2
    rcases h (i + 1) with g | ⟨g, o, g', ho⟩
    · exact ⟨o2, by rw [← g]; exact e2, id, fun _ => rfl⟩
    · exact ⟨o, g', fun _ => ho, fun z => by rw [e2] at g; cases g; cases z⟩
  unfold stL at *
  have hs : lel ((L.set i (.val v)).set (i + 1) .second) ((L'.set i (.val v)).set (i + 1) .second) := lel_set (lel_set h)
  have hs3 : lel (((L.set i (.val v)).set (i + 2) .unset).set (i + 1) .second) (((L'.set i (.val v)).set (i + 2) .unset).set (i + 1) .second) := lel_set (lel_set (lel_set h))
  cases e2 : L[i + 1]? with
  | none => rw [e2] at e; revert e; cases L[i]? with
    | none => intro e; cases e
    | some o => intro e; cases o <;> cases e
  | some o2 =>
    obtain ⟨o3, g3, c3, c4⟩ := key o2 e2
    rw [e2] at e; rw [g3, ← lel_len h]
    rcases h i with g | ⟨g, o, g', ho⟩
    · rw [← g]
      revert e; generalize L[i]? = x; intro e
      match x, e with
      | some .unset, e =>
        simp only at e ⊢
        by_cases c : cat1 o2 = true
        · simp only [c, if_true] at e; cases e; simp only [c3 c, if_true]; exact ⟨_, rfl, hs⟩
        · rw [if_neg c] at e
          have c' : cat1 o2 = false := by simpa using c
          rw [c4 c', if_neg c]
          by_cases l3 : lng o2 = true ∧ i + 2 < L.length
          · rw [if_pos l3] at e; cases e; rw [if_pos l3]; exact ⟨_, rfl, hs3⟩
          · rw [if_neg l3] at e; cases e
      | some (.val w), e =>
        simp only at e ⊢
        by_cases d : w.category = 2
        · simp only [d, if_true] at e ⊢; cases e; exact ⟨_, rfl, hs⟩
        · rw [if_neg d] at e ⊢
          by_cases c : cat1 o2 = true
          · simp only [c, if_true] at e; cases e; simp only [c3 c, if_true]; exact ⟨_, rfl, hs⟩
          · rw [if_neg c] at e
            have c' : cat1 o2 = false := by simpa using c
            rw [c4 c', if_neg c]
            by_cases l3 : lng o2 = true ∧ i + 2 < L.length
            · rw [if_pos l3] at e; cases e; rw [if_pos l3]; exact ⟨_, rfl, hs3⟩
            · rw [if_neg l3] at e; cases e
      | some .second, e =>
        simp only at e ⊢
        by_cases d : 1 ≤ i
        · rw [if_pos d] at e ⊢
          by_cases c : cat1 o2 = true
          · rw [if_pos c] at e; cases e; rw [if_pos (c3 c)]; exact ⟨_, rfl, lel_set (lel_set (lel_set h))⟩
          · rw [if_neg c] at e
            have c' : cat1 o2 = false := by simpa using c
            rw [c4 c', if_neg c]
            by_cases l3 : lng o2 = true ∧ i + 2 < L.length
            · rw [if_pos l3] at e; cases e; rw [if_pos l3]; exact ⟨_, rfl, lel_set (lel_set (lel_set (lel_set h)))⟩
            · rw [if_neg l3] at e; cases e
        · rw [if_neg d] at e; cases e
      | none, e => cases e
    · rw [g] at e; rw [g']
      simp only at e
      by_cases c : cat1 o2 = true
      · simp only [c, if_true] at e; cases e
        match o, ho with
        | .unset, _ => simp only [c3 c, if_true]; exact ⟨_, rfl, hs⟩
        | .val w, ho =>
          by_cases d : w.category = 2
          · simp only [d, if_true]; exact ⟨_, rfl, hs⟩
          · simp only [d, if_false, c3 c, if_true]; exact ⟨_, rfl, hs⟩
      · rw [if_neg c] at e
        have c' : cat1 o2 = false := by simpa using c
        rw [c4 c']
        by_cases l3 : lng o2 = true ∧ i + 2 < L.length
        · rw [if_pos l3] at e; cases e
          match o, ho with
          | .unset, _ => simp only [if_neg c, if_pos l3]; exact ⟨_, rfl, hs3⟩
          | .val w, ho =>
            have d : ¬ w.category = 2 := by simp only [cat1, beq_iff_eq] at ho; omega
            simp only [if_neg d, if_neg c, if_pos l3]; exact ⟨_, rfl, hs3⟩
        · rw [if_neg l3] at e; cases e
def loc : Instr → Bool
  | .iload _ | .iload_n _ | .lload _ | .lload_n _ | .aload _ | .aload_n _ | .istore _ | .istore_n _ | .astore _ | .astore_n _ | .lstore _ | .lstore_n _ | .iinc _ _ => true
  | _ => false
theorem stp_fr {q : Fm} (hl : loc ins = false) (e : stp P m ins len aux pc L S k n H = some q) : q.2.1 = L ∧ stp P m ins len aux pc L' S k n H = some (q.1, L', q.2.2) := by
  cases ins <;> first
    | (cases hl; done)
    | (simp only [stp] at e ⊢; cases e; done)
    | (simp only [stp] at e ⊢; cases e; exact ⟨rfl, rfl⟩)
    | (simp only [stp, Option.map_eq_some_iff] at e ⊢; (repeat' split at e) <;> first
        | (cases e; done)
        | (cases e; exact ⟨rfl, rfl⟩)
        | (obtain ⟨w, h1, h2⟩ := e; subst h2; exact ⟨rfl, w, h1, rfl⟩)
        | (simp_all; done)
        | (simp_all; subst e; simp; done)
        | (simp_all; obtain ⟨e1, e2, e3⟩ := e; subst e3; simp_all; done)
        | (simp only [Option.bind_eq_some_iff, Option.map_eq_some_iff] at e; obtain ⟨w, h1, u, h2, h3⟩ := e; subst h3; simp_all; done)
        | (simp only [Option.bind_eq_some_iff, Option.map_eq_some_iff] at e; obtain ⟨w, h1, u, h2, h3⟩ := e; subst h3; simp_all; omega))
theorem stp_le {q : Fm} (h : lel L L') (e : stp P m ins len aux pc L S k n H = some q) : ∃ M, stp P m ins len aux pc L' S k n H = some (q.1, M, q.2.2) ∧ lel q.2.1 M := by
  cases hl : loc ins with
  | false =>
    obtain ⟨h1, h2⟩ := stp_fr (L' := L') hl e
    exact ⟨L', h2, by rw [h1]; exact h⟩
  | true =>
    cases ins <;> first
      | (cases hl; done)
      | (simp only [stp, Option.map_eq_some_iff] at e ⊢; obtain ⟨w, h1, h2⟩ := e; subst h2; first
          | exact ⟨L', ⟨w, ldI_le h h1, rfl⟩, h⟩
          | exact ⟨L', ⟨w, ldJ_le h h1, rfl⟩, h⟩
          | exact ⟨L', ⟨w, ldR_le h h1, rfl⟩, h⟩)
      | (simp only [stp] at e ⊢; split at e
         · simp only [Option.map_eq_some_iff] at e ⊢
           obtain ⟨w, h1, h2⟩ := e; subst h2
           first
            | (obtain ⟨M, g1, g2⟩ := stl_le h h1; exact ⟨M, ⟨M, g1, rfl⟩, g2⟩)
            | (obtain ⟨M, g1, g2⟩ := stL_le h h1; exact ⟨M, ⟨M, g1, rfl⟩, g2⟩)
         · cases e)
      | (simp only [stp] at e ⊢; rename_i i c; rcases h i with g | ⟨g, -⟩
         · rw [← g]; revert e; generalize L[i]? = x; intro e
           split at e
           · cases e; exact ⟨_, rfl, lel_set h⟩
           · cases e
         · rw [g] at e; cases e)
theorem run_fg : ∀ (f m pc : Nat) (L L' : List Slot) (S : List Value) (k n : Nat) (H : AH) (r : Option Value × AH), lel L L' → run P f m pc L S k n H = some r → run P f m pc L' S k n H = some r
  | 0, _, _, _, _, _, _, _, _, _, _, e => by cases e
  | f + 1, m, pc, L, L', S, k, n, H, r, h, e => by
    unfold run at e ⊢
    cases hd : P.1 m pc with
    | none => rw [hd] at e; cases e
    | some d =>
      rw [hd] at e; simp only at e ⊢
      cases hr : ret P m d.1 S with
      | some v => rw [hr] at e; exact e
      | none =>
        rw [hr] at e; simp only at e ⊢
        cases hc : cal P m d.1 d.2.2 S k n H with
        | some c =>
          rw [hc] at e; simp only at e ⊢
          cases hx : run P f c.1 0 (ent P c.1 c.2.1) [] 0 0 H with
          | none => rw [hx] at e; cases e
          | some y => rw [hx] at e; simp only at e ⊢; exact run_fg f _ _ _ _ _ _ _ _ _ h e
        | none =>
          rw [hc] at e; simp only at e ⊢
          cases hs : stp P m d.1 d.2.1 d.2.2 pc L S k n H with
          | none => rw [hs] at e; cases e
          | some q =>
            rw [hs] at e; simp only at e
            obtain ⟨M, g1, g2⟩ := stp_le h hs
            rw [g1]; exact run_fg f _ _ _ _ _ _ _ _ _ g2 e
theorem W_fg (h : lel L L') (w : W P m pc L S k n H Q) : W P m pc L' S k n H Q := by
  obtain ⟨f, v, H', e, q⟩ := w
  exact ⟨f, v, H', run_fg f m pc L L' S k n H _ h e, q⟩
end Forget
section ForgetL
variable {P : Prog} {m pc len k n i j : Nat} {aux : Int} {ins : Instr} {L M N : List Slot} {S : List Value} {H : AH} {v : Value} {a : Slot} {Q : Option Value → AH → Prop}
def ff (j : Nat) (M : List Slot) : List Slot := (M.set j .unset).set (j + 1) .unset
def Gl (j : Nat) (M : List Slot) : Prop := (∃ w : Value, M[j]? = some (.val w) ∧ w.category = 2) ∧ M[j + 1]? = some .second ∧ (∀ i o, i + 1 = j → M[i]? = some o → lng o = false) ∧ M[j + 2]? ≠ some .second
def lfr (j : Nat) (L M : List Slot) : Prop := L = M ∨ (L = ff j M ∧ Gl j M)
theorem ff_set (h1 : i ≠ j) (h2 : i ≠ j + 1) : (ff j M).set i a = ff j (M.set i a) := by
  unfold ff; rw [List.set_comm _ _ (Ne.symm h2), List.set_comm _ _ (Ne.symm h1)]
theorem ff_get (h1 : i ≠ j) (h2 : i ≠ j + 1) : (ff j M)[i]? = M[i]? := by
  unfold ff; rw [List.getElem?_set_ne (Ne.symm h2), List.getElem?_set_ne (Ne.symm h1)]
theorem ff_len : (ff j M).length = M.length := by simp [ff]
theorem Gl_set (h : Gl j M) (h1 : i ≠ j) (h2 : i ≠ j + 1) (h3 : i + 1 = j → lng a = false) (h4 : i = j + 2 → a ≠ .second) : Gl j (M.set i a) := by
  obtain ⟨⟨w, g1, g2⟩, g3, g4, g5⟩ := h
  refine ⟨⟨w, ?_, g2⟩, ?_, ?_, ?_⟩
  · rw [List.getElem?_set_ne h1]; exact g1
  · rw [List.getElem?_set_ne h2]; exact g3
  · intro i' o e h
    by_cases c : i = i'
    · subst c
      rw [List.getElem?_set] at h
      simp only [if_true] at h
      split at h
      · cases h; exact h3 e
      · cases h
    · rw [List.getElem?_set_ne c] at h; exact g4 i' o e h
  · by_cases c : i = j + 2
    · rw [List.getElem?_set]; simp only [c, if_true]
      split
      · intro e; cases e; exact h4 c rfl
      · intro e; cases e
    · rw [List.getElem?_set_ne c]; exact g5
theorem Gl_lt (h : Gl j M) : j + 1 < M.length := (List.getElem?_eq_some_iff.mp h.2.1).1
theorem ff_j (h : Gl j M) : (ff j M)[j]? = some .unset ∧ (ff j M)[j + 1]? = some .unset := by
  have := Gl_lt h
  unfold ff; constructor
  · rw [List.getElem?_set_ne (by omega), List.getElem?_set]; simp only [if_true]; rw [if_pos (by omega)]
  · rw [List.getElem?_set]; simp only [if_true, List.length_set]; rw [if_pos (by omega)]
theorem ff_0 {b : Slot} : (ff j M).set j b = (M.set (j + 1) .unset).set j b := by
  unfold ff; rw [List.set_comm _ _ (by omega : j ≠ j + 1), List.set_set]
theorem ff_1 {b : Slot} : (ff j M).set (j + 1) b = (M.set j .unset).set (j + 1) b := by
  unfold ff; rw [List.set_set]
theorem stl_fr (hv : v.category = 1) (h : lfr j L M) (e : stl L i v = some N) : ∃ N', stl M i v = some N' ∧ lfr j N N' := by
  rcases h with rfl | ⟨rfl, h⟩
  · exact ⟨N, e, Or.inl rfl⟩
  have lv : lng (.val v) = false := by simp [lng, hv]
  obtain ⟨⟨w, g1, g2⟩, g3, g4, g5⟩ := id h
  have hl := Gl_lt h
  unfold stl at e ⊢
  by_cases c1 : i = j
  · subst c1
    rw [(ff_j h).1] at e; cases e
    rw [g1]; simp only [g2, hl, if_true]
    exact ⟨_, rfl, Or.inl ff_0⟩
  by_cases c2 : i = j + 1
  · subst c2
    rw [(ff_j h).2] at e; cases e
    rw [g3]; simp only [Nat.le_add_left, if_true]
    exact ⟨_, rfl, Or.inl ff_1⟩
  rw [ff_get c1 c2, ff_len] at e
  revert e; cases hx : M[i]? with
  | none => intro e; cases e
  | some o =>
    intro e
    have s1 : ∀ {M}, Gl j M → Gl j (M.set i (.val v)) := fun h => Gl_set h c1 c2 (fun _ => lv) (fun _ => by intro z; cases z)
    cases o with
    | unset => cases e; exact ⟨_, rfl, Or.inr ⟨ff_set c1 c2, s1 h⟩⟩
    | second =>
      simp only at e ⊢
      by_cases d : 1 ≤ i
      · rw [if_pos d] at e ⊢; cases e
        have c3 : i - 1 ≠ j := by omega
        have c4 : i - 1 ≠ j + 1 := by intro z; exact g5 (by rw [← hx]; congr 1; omega)
        exact ⟨_, rfl, Or.inr ⟨by rw [ff_set c3 c4, ff_set c1 c2], s1 (Gl_set h c3 c4 (fun _ => rfl) (fun _ => by intro z; cases z))⟩⟩
      · rw [if_neg d] at e; cases e
    | val x =>
      simp only at e ⊢
      by_cases d : x.category = 1
      · rw [if_pos d] at e ⊢; cases e; exact ⟨_, rfl, Or.inr ⟨ff_set c1 c2, s1 h⟩⟩
      · rw [if_neg d] at e ⊢
        by_cases d2 : i + 1 < M.length
        · rw [if_pos d2] at e ⊢; cases e
          have d3 : x.category = 2 := by cases x <;> simp [Value.category] at d ⊢
          have c3 : i + 1 ≠ j := by intro z; have := g4 i _ z hx; simp [lng, d3] at this
          exact ⟨_, rfl, Or.inr ⟨by rw [ff_set c3 (by omega), ff_set c1 c2], s1 (Gl_set h c3 (by omega) (fun _ => rfl) (fun _ => by intro z; cases z))⟩⟩
        · rw [if_neg d2] at e; cases e
theorem stL_fr (h : lfr j L M) (e : stL L i v = some N) : ∃ N', stL M i v = some N' ∧ lfr j N N' := by
  rcases h with rfl | ⟨rfl, h⟩
  · exact ⟨N, e, Or.inl rfl⟩
  obtain ⟨⟨w, g1, g2⟩, g3, g4, g5⟩ := id h
  have hl := Gl_lt h
  unfold stL at e ⊢
  by_cases c1 : i = j
  · subst c1
    rw [(ff_j h).1, (ff_j h).2] at e; simp only [cat1, if_true] at e; cases e
    rw [g1, g3]; simp only [g2, if_true]
    exact ⟨_, rfl, Or.inl (by rw [ff_0, List.set_comm _ _ (by omega : i + 1 ≠ i), List.set_set])⟩
  by_cases c2 : i = j + 1
  · subst c2
    rw [(ff_j h).2, ff_get (i := j + 1 + 1) (by omega) (by omega), ff_len, ff_1] at e
    rw [g3]
    revert e; cases hy : M[j + 1 + 1]? with
    | none => intro e; cases e
    | some o2 =>
      intro e; simp only [Nat.le_add_left, if_true, Nat.add_sub_cancel] at e ⊢
      exact ⟨N, e, Or.inl rfl⟩
  by_cases c3 : i + 1 = j
  · subst c3
    rw [ff_get c1 c2, (ff_j h).1] at e
    rw [g1]
    have w1 : ¬ cat1 (.val w) = true := by simp [cat1, g2]
    have w2 : lng (.val w) = true ∧ i + 2 < M.length := ⟨by simp [lng, g2], hl⟩
    have en : ∀ b : Slot, ((ff (i + 1) M).set i b).set (i + 1) .second = ((M.set i b).set (i + 2) .unset).set (i + 1) .second := fun b => by
      rw [ff_set (by omega) (by omega), ff_0]
    revert e; cases hx : M[i]? with
    | none => intro e; cases e
    | some o =>
      intro e
      have lo := g4 i o rfl hx
      cases o with
      | unset => simp only [cat1, if_true] at e; cases e; simp only [if_neg w1, if_pos w2]; exact ⟨_, rfl, Or.inl (en _)⟩
      | val x =>
        have x2 : ¬ x.category = 2 := by simpa [lng] using lo
        simp only [cat1, if_true, if_neg x2] at e; cases e; simp only [if_neg w1, if_pos w2, if_neg x2]; exact ⟨_, rfl, Or.inl (en _)⟩
      | second =>
        simp only [cat1, if_true] at e
        by_cases d : 1 ≤ i
        · simp only [if_pos d, if_neg w1, if_pos w2] at e ⊢; cases e
          exact ⟨_, rfl, Or.inl (by rw [ff_set (by omega) (by omega), ff_set (by omega) (by omega), ff_0])⟩
        · rw [if_neg d] at e; cases e
  rw [ff_get c1 c2, ff_get (i := i + 1) c3 (by omega), ff_len] at e
  revert e; cases hx : M[i]? with
  | none => intro e; cases e
  | some o =>
    cases hy : M[i + 1]? with
    | none => intro e; cases o <;> cases e
    | some o2 =>
      intro e
      have s1 : ∀ {M}, Gl j M → Gl j (M.set i (.val v)) := fun h => Gl_set h c1 c2 (fun z => absurd z c3) (fun _ => by intro z; cases z)
      have s2 : ∀ {M}, Gl j M → Gl j (M.set (i + 1) .second) := fun h => Gl_set h c3 (by omega) (fun _ => rfl) (fun z => absurd z (by omega))
      have f1 : ∀ {M : List Slot}, (ff j M).set i (.val v) = ff j (M.set i (.val v)) := ff_set c1 c2
      have f2 : ∀ {M : List Slot}, (ff j M).set (i + 1) .second = ff j (M.set (i + 1) .second) := ff_set c3 (by omega)
      have t3 : lng o2 = true → i + 2 ≠ j := fun l z => by have := g4 (i + 1) o2 (by omega) hy; rw [l] at this; cases this
      have s3 : lng o2 = true → ∀ {M}, Gl j M → Gl j (M.set (i + 2) .unset) := fun l _ h => Gl_set h (t3 l) (by omega) (fun _ => rfl) (fun _ => by intro z; cases z)
      have f3 : lng o2 = true → ∀ {M : List Slot}, (ff j M).set (i + 2) .unset = ff j (M.set (i + 2) .unset) := fun l _ => ff_set (t3 l) (by omega)
      cases o with
      | unset =>
        simp only at e ⊢
        by_cases c : cat1 o2 = true
        · rw [if_pos c] at e ⊢; cases e; exact ⟨_, rfl, Or.inr ⟨by rw [f1, f2], s2 (s1 h)⟩⟩
        · rw [if_neg c] at e ⊢
          by_cases l : lng o2 = true ∧ i + 2 < M.length
          · rw [if_pos l] at e ⊢; cases e; exact ⟨_, rfl, Or.inr ⟨by rw [f1, f3 l.1, f2], s2 (s3 l.1 (s1 h))⟩⟩
          · rw [if_neg l] at e; cases e
      | val x =>
        simp only at e ⊢
        by_cases d : x.category = 2
        · rw [if_pos d] at e ⊢; cases e; exact ⟨_, rfl, Or.inr ⟨by rw [f1, f2], s2 (s1 h)⟩⟩
        rw [if_neg d] at e ⊢
        by_cases c : cat1 o2 = true
        · rw [if_pos c] at e ⊢; cases e; exact ⟨_, rfl, Or.inr ⟨by rw [f1, f2], s2 (s1 h)⟩⟩
        · rw [if_neg c] at e ⊢
          by_cases l : lng o2 = true ∧ i + 2 < M.length
          · rw [if_pos l] at e ⊢; cases e; exact ⟨_, rfl, Or.inr ⟨by rw [f1, f3 l.1, f2], s2 (s3 l.1 (s1 h))⟩⟩
          · rw [if_neg l] at e; cases e
      | second =>
        simp only at e ⊢
        by_cases d : 1 ≤ i
        · rw [if_pos d] at e ⊢
          have t0 : i - 1 ≠ j := by omega
          have t1 : i - 1 ≠ j + 1 := by intro z; exact g5 (by rw [← hx]; congr 1; omega)
          have f0 : (ff j M).set (i - 1) .unset = ff j (M.set (i - 1) .unset) := ff_set t0 t1
          have s0 : Gl j (M.set (i - 1) .unset) := Gl_set h t0 t1 (fun _ => rfl) (fun _ => by intro z; cases z)
          by_cases c : cat1 o2 = true
          · rw [if_pos c] at e ⊢; cases e; exact ⟨_, rfl, Or.inr ⟨by rw [f0, f1, f2], s2 (s1 s0)⟩⟩
          · rw [if_neg c] at e ⊢
            by_cases l : lng o2 = true ∧ i + 2 < M.length
            · rw [if_pos l] at e ⊢; cases e; exact ⟨_, rfl, Or.inr ⟨by rw [f0, f1, f3 l.1, f2], s2 (s3 l.1 (s1 s0))⟩⟩
            · rw [if_neg l] at e; cases e
        · rw [if_neg d] at e; cases e
theorem get_fr {o : Slot} (h : lfr j L M) (e : L[i]? = some o) (ho : o ≠ .unset) : M[i]? = some o := by
  rcases h with rfl | ⟨rfl, h⟩
  · exact e
  by_cases c1 : i = j
  · subst c1; rw [(ff_j h).1] at e; cases e; exact absurd rfl ho
  by_cases c2 : i = j + 1
  · subst c2; rw [(ff_j h).2] at e; cases e; exact absurd rfl ho
  rw [ff_get c1 c2] at e; exact e
theorem ldI_fr (h : lfr j L M) (e : ldI L i = some v) : ldI M i = some v := by
  unfold ldI at *
  split at e
  · rename_i g; rw [get_fr h g (by intro z; cases z)]; exact e
  · cases e
theorem ldJ_fr (h : lfr j L M) (e : ldJ L i = some v) : ldJ M i = some v := by
  unfold ldJ at *
  split at e
  · rename_i g; rw [get_fr h g (by intro z; cases z)]; exact e
  · cases e
theorem ldR_fr (h : lfr j L M) (e : ldR L i = some v) : ldR M i = some v := by
  unfold ldR at *
  split at e
  · rename_i g; rw [get_fr h g (by intro z; cases z)]; exact e
  · cases e
theorem inc_fr {x : Int32} {b : Value} (hb : b.category = 1) (h : lfr j L M) (e : L[i]? = some (.val (.int x))) : lfr j (L.set i (.val b)) (M.set i (.val b)) := by
  have e' := get_fr h e (by intro z; cases z)
  rcases h with rfl | ⟨rfl, h⟩
  · exact Or.inl rfl
  have c1 : i ≠ j := by intro z; subst z; rw [(ff_j h).1] at e; cases e
  have c2 : i ≠ j + 1 := by intro z; subst z; rw [(ff_j h).2] at e; cases e
  exact Or.inr ⟨ff_set c1 c2, Gl_set h c1 c2 (fun _ => by simp [lng, hb]) (fun _ => by intro z; cases z)⟩
theorem stp_fl {q : Fm} (h : lfr j L M) (e : stp P m ins len aux pc L S k n H = some q) : ∃ M', stp P m ins len aux pc M S k n H = some (q.1, M', q.2.2) ∧ lfr j q.2.1 M' := by
  cases hl : loc ins with
  | false =>
    obtain ⟨h1, h2⟩ := stp_fr (L' := M) hl e
    exact ⟨M, h2, by rw [h1]; exact h⟩
  | true =>
    cases ins <;> first
      | (cases hl; done)
      | (simp only [stp, Option.map_eq_some_iff] at e ⊢; obtain ⟨w, h1, h2⟩ := e; subst h2; first
          | exact ⟨M, ⟨w, ldI_fr h h1, rfl⟩, h⟩
          | exact ⟨M, ⟨w, ldJ_fr h h1, rfl⟩, h⟩
          | exact ⟨M, ⟨w, ldR_fr h h1, rfl⟩, h⟩)
      | (simp only [stp] at e ⊢; split at e
         · simp only [Option.map_eq_some_iff] at e ⊢
           obtain ⟨w, h1, h2⟩ := e; subst h2
           first
            | (obtain ⟨M, g1, g2⟩ := stl_fr rfl h h1; exact ⟨M, ⟨M, g1, rfl⟩, g2⟩)
            | (obtain ⟨M, g1, g2⟩ := stL_fr h h1; exact ⟨M, ⟨M, g1, rfl⟩, g2⟩)
         · cases e)
      | (simp only [stp] at e ⊢; rename_i i c
         revert e; cases hx : L[i]? with
         | none => intro e; cases e
         | some o =>
           intro e
           split at e
           · rename_i x g; cases g
             rw [get_fr h hx (by intro z; cases z)]
             cases e; exact ⟨_, rfl, inc_fr rfl h hx⟩
           · cases e)
theorem run_fl : ∀ (f m pc : Nat) (L L' : List Slot) (S : List Value) (k n : Nat) (H : AH) (r : Option Value × AH), lfr j L L' → run P f m pc L S k n H = some r → run P f m pc L' S k n H = some r
  | 0, _, _, _, _, _, _, _, _, _, _, e => by cases e
  | f + 1, m, pc, L, L', S, k, n, H, r, h, e => by
    unfold run at e ⊢
    cases hd : P.1 m pc with
    | none => rw [hd] at e; cases e
    | some d =>
      rw [hd] at e; simp only at e ⊢
      cases hr : ret P m d.1 S with
      | some v => rw [hr] at e; exact e
      | none =>
        rw [hr] at e; simp only at e ⊢
        cases hc : cal P m d.1 d.2.2 S k n H with
        | some c =>
          rw [hc] at e; simp only at e ⊢
          cases hx : run P f c.1 0 (ent P c.1 c.2.1) [] 0 0 H with
          | none => rw [hx] at e; cases e
          | some y => rw [hx] at e; simp only at e ⊢; exact run_fl f _ _ _ _ _ _ _ _ _ h e
        | none =>
          rw [hc] at e; simp only at e ⊢
          cases hs : stp P m d.1 d.2.1 d.2.2 pc L S k n H with
          | none => rw [hs] at e; cases e
          | some q =>
            rw [hs] at e; simp only at e
            obtain ⟨M, g1, g2⟩ := stp_fl h hs
            rw [g1]; exact run_fl f _ _ _ _ _ _ _ _ _ g2 e
theorem W_fl (j : Nat) (h : Gl j L) (w : W P m pc (ff j L) S k n H Q) : W P m pc L S k n H Q := by
  obtain ⟨f, v, H', e, q⟩ := w
  exact ⟨f, v, H', run_fl f m pc _ L S k n H _ (Or.inr ⟨rfl, h⟩) e, q⟩
def wfb : List Slot → Bool
  | [] => true
  | .second :: _ => false
  | .unset :: L => wfb L
  | .val v :: L => if v.category = 2 then (match L with | .second :: L => wfb L | _ => false) else if v.category = 1 then wfb L else false
theorem lel_app : ∀ (A : List Slot) {C D : List Slot}, lel C D → lel (A ++ C) (A ++ D)
  | [], _, _, h => h
  | a :: A, _, _, h => lel_cons (lel_app A h)
theorem ff_app {A B : List Slot} {x y : Slot} : ff A.length (A ++ x :: y :: B) = A ++ .unset :: .unset :: B := by
  unfold ff
  rw [List.set_append_right _ _ (Nat.le_refl _), List.set_append_right _ _ (by omega)]
  simp
theorem wfb_hd {B : List Slot} (h : wfb B = true) : B[0]? ≠ some .second := by
  cases B with
  | nil => intro e; cases e
  | cons b B => intro e; cases b <;> cases e; cases h
theorem W_fB : ∀ (c : Nat) (A B : List Slot), B.length ≤ c → wfb B = true → (∀ i o, i + 1 = A.length → A[i]? = some o → lng o = false) → W P m pc (A ++ B.map fun _ => .unset) S k n H Q → W P m pc (A ++ B) S k n H Q
  | 0, A, B, hc, hw, ha, w => by
    have : B = [] := List.eq_nil_of_length_eq_zero (by omega)
    subst this; exact w
  | c + 1, A, [], hc, hw, ha, w => w
  | c + 1, A, .second :: B, hc, hw, ha, w => by cases hw
  | c + 1, A, .unset :: B, hc, hw, ha, w => by
    have := W_fB c (A ++ [.unset]) B (by simpa using hc) hw (fun i o e h => by
      rw [List.length_append, List.length_singleton] at e
      have : i = A.length := by omega
      subst this; rw [List.getElem?_concat_length] at h; cases h; rfl) (by simpa using w)
    simpa using this
  | c + 1, A, .val v :: B, hc, hw, ha, w => by
    by_cases d : v.category = 2
    · unfold wfb at hw; rw [if_pos d] at hw
      cases B with
      | nil => cases hw
      | cons b B =>
        cases b with
        | unset => cases hw
        | val u => cases hw
        | second =>
          simp only at hw
          refine W_fl A.length ⟨⟨v, by simp, d⟩, by simp, fun i o e h => ?_, ?_⟩ ?_
          · rw [List.getElem?_append_left (by omega)] at h; exact ha i o e h
          · have := wfb_hd hw
            rw [List.getElem?_append_right (by omega)]; simpa using this
          · rw [ff_app]
            have := W_fB c (A ++ [.unset, .unset]) B (by simp only [List.length_cons] at hc; omega) hw (fun i o e h => by
              rw [List.length_append] at e; simp only [List.length_cons, List.length_nil] at e
              have : i = A.length + 1 := by omega
              subst this; rw [List.getElem?_append_right (by omega)] at h; simp at h; subst h; rfl) (by simpa using w)
            simpa using this
    · have d1 : v.category = 1 := by cases v <;> simp [Value.category] at d ⊢
      unfold wfb at hw; rw [if_neg d, if_pos d1] at hw
      have := W_fB c (A ++ [.val v]) B (by simpa using hc) (by simpa using hw) (fun i o e h => by
        rw [List.length_append, List.length_singleton] at e
        have : i = A.length := by omega
        subst this; rw [List.getElem?_concat_length] at h; cases h; simp [lng, d1]) (by
          rw [List.append_assoc]
          refine W_fg (lel_app A ?_) w
          exact lel_un (by simp [cat1, d1]) lel_refl)
      simpa using this
def okf (c : Nat) (L : List Slot) : Bool := decide (c ≤ L.length) && (wfb (L.drop c) && (match c with | 0 => true | c + 1 => match L[c]? with | some o => !lng o | none => true))
theorem W_fa (c : Nat) (h : okf c L = true) (w : W P m pc (L.take c ++ (L.drop c).map fun _ => .unset) S k n H Q) : W P m pc L S k n H Q := by
  unfold okf at h; rw [Bool.and_eq_true, Bool.and_eq_true, decide_eq_true_eq] at h
  have := W_fB _ (L.take c) (L.drop c) (Nat.le_refl _) h.2.1 (fun i o e h' => by
    rw [List.length_take, Nat.min_eq_left h.1] at e; subst e
    rw [List.getElem?_take_of_lt (by omega)] at h'
    have h2 := h.2.2; simp only [h'] at h2; simpa using h2) w
  rwa [List.take_append_drop] at this
end ForgetL
section Ist
variable {P : Prog} {m pc len k n i : Nat} {aux : Int} {L : List Slot} {S : List Value} {H : AH} {Q : Option Value → AH → Prop} {x : Int32} {l : Int64}
end Ist
section Num2
theorem nn32 {x : Int32} (h : 0 ≤ x.toInt) : x.toInt = (x.toBitVec.toNat : Int) ∧ x.toBitVec.toNat < 2147483648 := by
  have e : x.toInt = x.toBitVec.toInt := rfl
  rw [e, BitVec.toInt_eq_toNat_cond] at h ⊢
  have := x.toBitVec.isLt
  split at h
  · rename_i g; rw [if_pos g]; exact ⟨rfl, by omega⟩
  · omega
theorem of_nn {x : Int32} (h : x.toBitVec.toNat < 2147483648) : x.toInt = (x.toBitVec.toNat : Int) := by
  have e : x.toInt = x.toBitVec.toInt := rfl
  rw [e, BitVec.toInt_eq_toNat_cond, if_pos (by omega)]
theorem and_rg {x m : Int32} (h : 0 ≤ m.toInt) : 0 ≤ (x &&& m).toInt ∧ (x &&& m).toInt ≤ m.toInt := by
  obtain ⟨e, hm⟩ := nn32 h
  have h1 : (x &&& m).toBitVec.toNat ≤ m.toBitVec.toNat := by
    rw [Int32.toBitVec_and, BitVec.toNat_and]; exact Nat.and_le_right
  rw [of_nn (x := x &&& m) (by omega), e]; omega
theorem len32 {n : Nat} (h : n < 2147483648) : (n.toInt32).toInt = n := by
  rw [show n.toInt32 = Int32.ofNat n from rfl, Int32.toInt_ofNat_of_lt (by omega)]
end Num2
end Jvm.JX

namespace Jvm.JX
open Sem ClassFile Op Lib
theorem bitk (k : Int32) (h : 0 ≤ k.toInt ∧ k.toInt < 64) : ((1 : Int64) <<< (k.toInt64 &&& 63)).toBitVec = 1#64 <<< k.toInt.toNat := by
  have key : ∀ j : Fin 64, ((1 : Int64) <<< ((Int32.ofNat j.val).toInt64 &&& 63)).toBitVec = 1#64 <<< j.val := by decide +kernel
  have := key ⟨k.toInt.toNat, by omega⟩
  simp only at this
  rw [← this, show Int32.ofNat k.toInt.toNat = k by rw [eq32, Int32.toInt_ofNat_of_lt (by omega)]; omega]
theorem shl1 {κ i : Nat} (h : κ < 64) : (1#64 <<< κ).getLsbD i = decide (i = κ) := by
  rw [BitVec.getLsbD_shiftLeft, BitVec.getLsbD_one, Bool.eq_iff_iff]; simp; omega
theorem bit_or {P : Int64} (k : Int32) (h : 0 ≤ k.toInt ∧ k.toInt < 64) (i : Nat) : (P ||| ((1 : Int64) <<< (k.toInt64 &&& 63))).toBitVec.getLsbD i = (P.toBitVec.getLsbD i || decide (i = k.toInt.toNat)) := by
  rw [Int64.toBitVec_or, bitk k h, BitVec.getLsbD_or, shl1 (by omega)]
theorem ushrL_bv {P : Int64} {k : Int32} (h : 0 ≤ k.toInt ∧ k.toInt < 64) : (Jvm.Free.XT.ushrL P k).toBitVec = P.toBitVec >>> k.toInt.toNat := by
  have key : ∀ j : Fin 64, ((Int32.ofNat j.val).toInt64.toUInt64 &&& Int64.toUInt64 63) = UInt64.ofNat j.val := by decide +kernel
  have hk := key ⟨k.toInt.toNat, by omega⟩
  simp only at hk
  rw [show Int32.ofNat k.toInt.toNat = k by rw [eq32, Int32.toInt_ofNat_of_lt (by omega)]; omega] at hk
  unfold Jvm.Free.XT.ushrL
  rw [hk]
  have h64 : k.toInt.toNat < 64 := by omega
  generalize k.toInt.toNat = κ at *
  show (P.toUInt64 >>> UInt64.ofNat κ).toBitVec = _
  rw [UInt64.toBitVec_shiftRight]
  have e : (UInt64.ofNat κ).toBitVec % 64 = BitVec.ofNat 64 κ := by
    apply BitVec.eq_of_toNat_eq
    simp
    omega
  rw [e]
  apply BitVec.eq_of_toNat_eq
  simp
  rw [Nat.mod_eq_of_lt (by omega)]
theorem and1 {P : Int64} {k : Int32} (h : 0 ≤ k.toInt ∧ k.toInt < 64) : Jvm.Free.XT.ushrL P k &&& 1 = 0 ↔ P.toBitVec.getLsbD k.toInt.toNat = false := by
  rw [← Int64.toBitVec_inj, Int64.toBitVec_and, ushrL_bv h]
  generalize k.toInt.toNat = κ
  constructor
  · intro e
    have := congrArg (fun v => v.getLsbD 0) e
    simpa using this
  · intro e
    apply BitVec.eq_of_getLsbD_eq
    intro i hi
    rw [BitVec.getLsbD_and]
    by_cases g : i = 0
    · subst g; simp [e]
    · have : (1 : Int64).toBitVec.getLsbD i = false := by
        rw [show (1 : Int64).toBitVec = 1#64 from rfl, BitVec.getLsbD_one]; simp [g]
      rw [this]; simp
end Jvm.JX

namespace Jvm.JX
open Sem ClassFile Op Lib Jvm.Stand Jvm.Free Jvm.LawKit Jvm.RoadKit
def CRel (C : String) (fn : Nat → String × String) (F : List Nat) (Z : State) (n0 : Nat) (h : Heap) (a : Nat) (c : Cel) : Prop :=
  (c.2.2.1 = true → n0 ≤ a) ∧
  match c.1 with
  | .object _ => Exa Z h a C ∧ ∀ k ∈ F, Fld Z h a C (fn k).1 (fn k).2 (c.2.2.2 k)
  | .array t => c.2.1 < 2 ^ 31 ∧ ∃ cl : Cell, Arr Z h a cl t ∧ cl.slots.size = c.2.1 ∧ ∀ i, i < c.2.1 → cl.slots[i]? = some (c.2.2.2 i)
  | _ => True
def RelH (C : String) (fn : Nat → String × String) (F : List Nat) (Z : State) (n0 : Nat) (h : Heap) (H : AH) : Prop := h.size = H.1 ∧ n0 ≤ H.1 ∧ ∀ a, CRel C fn F Z n0 h a (H.2 a)
def ilen2 : Instr → Nat → Nat
  | .tableswitch _ _ _ _, l => l
  | i, _ => ilen i
def RowOk (P : Prog) (tb : List Jvm.Cond) (C : String) (fn : Nat → String × String) (F : List Nat) (nsl : Nat) (nm : Nat → MethodName) (R : List Nat) (m : Nat) (ins : Instr) (aux : Int) : Prop :=
  match ins with
  | .getfield i => aux.toNat ∈ F ∧ Jvm.Cond.fieldLink (nm m).cls i C (fn aux.toNat).1 (fn aux.toNat).2 ∈ tb
  | .putfield i => aux.toNat ∈ F ∧ Jvm.Cond.fieldLink (nm m).cls i C (fn aux.toNat).1 (fn aux.toNat).2 ∈ tb ∧ (Jvm.Cond.lays C C (fn aux.toNat).1 (fn aux.toNat).2 ∈ tb ∨ (nm m).cls = C ∧ (nm m).name = "<init>")
  | .new i => aux.toNat = nsl ∧ Jvm.Cond.classLink (nm m).cls i C ∈ tb
  | .newarray t => Jvm.Cond.arrayClass (newarray.typeOf t) ∈ tb
  | .ldc i => Jvm.Cond.constant (nm m).cls i (Int32.ofInt aux) ∈ tb
  | .ldc2_w i => Jvm.Cond.constantLong (nm m).cls i (Int64.ofInt aux) ∈ tb
  | .invokevirtual i => aux.toNat ∈ R ∧ Jvm.Cond.methodLink (nm m).cls i (nm aux.toNat) ∈ tb
  | .invokestatic i => aux.toNat ∈ R ∧ Jvm.Cond.methodLink (nm m).cls i (nm aux.toNat) ∈ tb
  | .invokespecial i => (aux = -1 → Jvm.Cond.methodLink (nm m).cls i Lib.objectInit ∈ tb ∧ Jvm.Cond.instanceMethod Lib.objectInit ∈ tb ∧ Jvm.Cond.code Lib.objectInit ⟨#[0xb1]⟩ 1 none ∈ tb) ∧ (0 ≤ aux → aux.toNat ∈ R ∧ Jvm.Cond.methodLink (nm m).cls i (nm aux.toNat) ∈ tb)
  | _ => True
def CalOk (P : Prog) (tb : List Jvm.Cond) (C : String) (nm : Nat → MethodName) (bt : Nat → ByteArray) (m : Nat) : Prop :=
  Jvm.Cond.code (nm m) (bt m) (ml P m) (rt P m) ∈ tb ∧ Jvm.Cond.initialized (nm m).cls ∈ tb ∧ (∃ ps r, parseMethodDescriptor (nm m).desc = some ⟨ps, r⟩ ∧ ps.length + (if kd P m = 0 then 0 else 1) = na P m) ∧
  (kd P m = 0 → Jvm.Cond.static (nm m) ∈ tb) ∧
  (kd P m ≠ 0 → (nm m).cls = C ∧ Jvm.Cond.instanceMethod (nm m) ∈ tb) ∧
  (kd P m = 1 → Jvm.Cond.declares (nm m) ∈ tb ∧ Jvm.Cond.selects C (nm m) (nm m) ∈ tb) ∧
  (kd P m = 2 → Jvm.Cond.privateMethod (nm m) ∈ tb) ∧
  (kd P m = 3 → (nm m).name = "<init>" ∧ rt P m = none)
def Good (P : Prog) (tb : List Jvm.Cond) (C : String) (fn : Nat → String × String) (F : List Nat) (nsl : Nat) (nm : Nat → MethodName) (bt : Nat → ByteArray) (R : List Nat) (top : Nat) : Prop :=
  Jvm.Cond.instantiable C nsl ∈ tb ∧ Jvm.Cond.initialized C ∈ tb ∧
  (∀ k ∈ F, parseFieldDescriptor (fn k).2 = some (P.2.2.1 k) ∧ (Jvm.Cond.lays C C (fn k).1 (fn k).2 ∈ tb ∨ Jvm.Cond.laysFinal C C (fn k).1 (fn k).2 ∈ tb)) ∧
  (∀ j ∈ F, ∀ k ∈ F, (fn j).1 = (fn k).1 → j = k) ∧
  (∀ m ∈ R, plainName (nm m).cls = true ∧ ((nm m).cls ≠ "java/lang/invoke/MethodHandle" ∧ (nm m).cls ≠ "java/lang/invoke/VarHandle") ∧
    ∀ pc ins len aux, P.1 m pc = some (ins, len, aux) → decode (bt m) pc = .ok (ins, len) ∧ len = ilen2 ins len ∧ RowOk P tb C fn F nsl nm R m ins aux) ∧
  (∀ m ∈ R, m ≠ top → CalOk P tb C nm bt m) ∧
  (∀ m ∈ R, ∀ pc ins len aux, P.1 m pc = some (ins, len, aux) → aux = (top : Int) → kindOk ins (kd P top) = false)
section Rel
variable {C : String} {fn : Nat → String × String} {F : List Nat} {Z : State} {n0 : Nat} {h h' : Heap} {H : AH}
theorem RelH.obj (r : RelH C fn F Z n0 h H) {a : Nat} (ha : isO H a = true) : Exa Z h a C ∧ ∀ k ∈ F, Fld Z h a C (fn k).1 (fn k).2 (fld H a k) := by
  have q := (r.2.2 a).2
  unfold isO at ha
  cases hk : (H.2 a).1 <;> rw [hk] at ha <;> first | (cases ha; done) | (simp only [hk] at q; exact q)
theorem RelH.own (r : RelH C fn F Z n0 h H) {a : Nat} (ha : (H.2 a).2.2.1 = true) : n0 ≤ a := (r.2.2 a).1 ha
theorem RelH.arr (r : RelH C fn F Z n0 h H) {a : Nat} {t : FieldType} (ha : (H.2 a).1 = .array t) : (H.2 a).2.1 < 2 ^ 31 ∧ ∃ cl : Cell, Arr Z h a cl t ∧ cl.slots.size = (H.2 a).2.1 ∧ ∀ i, i < (H.2 a).2.1 → cl.slots[i]? = some ((H.2 a).2.2.2 i) := by
  have q := (r.2.2 a).2
  simp only [ha] at q; exact q
theorem RelH.ext (r : RelH C fn F Z n0 h H) (E : Ext h h') {c : Cel} (hs : h'.size = h.size + 1) (hc : CRel C fn F Z n0 h' h.size c) : RelH C fn F Z n0 h' (H.1 + 1, fun b => if b = H.1 then c else H.2 b) := by
  refine ⟨by rw [hs, r.1], Nat.le_succ_of_le r.2.1, fun a => ?_⟩
  by_cases e : a = H.1
  · subst e; simp only [if_true]; rw [← r.1]; exact hc
  · simp only [e, if_false]
    obtain ⟨q1, q2⟩ := r.2.2 a
    refine ⟨q1, ?_⟩
    cases hk : (H.2 a).1 <;> simp only [hk] at q2 ⊢
    · exact ⟨q2.1.ext E, fun k hk => (q2.2 k hk).ext E⟩
    · obtain ⟨q3, cl, q4, q5⟩ := q2; exact ⟨q3, cl, q4.ext E, q5⟩
end Rel
def Go (C : String) (fn : Nat → String × String) (F : List Nat) (Z : State) (n0 : Nat) (p : Program) (l : Launch) (e : Env) (R : Jvm.Room) (s : State) (mid : MethodId) (args : Array Value) (below : List Frame) (meth : Method) (c : Code) (start : State) (nl : Nat) (q : Fm) : Prop :=
  ∃ T' locs', Stand p l e R s mid args below meth c T' locs' q.2.2.2.1 q.2.2.2.2.1 ∧ RelH C fn F Z n0 T'.heap q.2.2.2.2.2 ∧ Fr n0 locs' ∧ q.2.2.2.1 ≤ R.cells ∧ q.2.2.2.2.1 ≤ R.slots ∧ q.2.1.length = nl ∧
    ∀ target, Steps p.tables e below (T'.setTop (mkF mid q.1 q.2.1.toArray q.2.2.1)) target → Steps p.tables e below start target
theorem lrem_mod (x y : Int64) : x - (x / y) * y = x % y := by
  apply Int64.toInt_inj.mp
  have h1 := Int64.le_toInt (x % y)
  have h2 := Int64.toInt_lt (x % y)
  rw [Int64.toInt_sub, Int64.toInt_mul, Int64.toInt_div, Int.bmod_mul_bmod, Int.sub_bmod_bmod, Int.mul_comm (x.toInt.tdiv y.toInt), ← Int.tmod_def, ← Int64.toInt_mod]
  exact Int.bmod_eq_of_le_mul_two (by omega) (by omega)
theorem arr_get {L : List Slot} {i : Nat} {o : Slot} (h : L[i]? = some o) : L.toArray[i]? = some o := by simpa using h
theorem stl_ok {L L' : List Slot} {i : Nat} {v : Value} (hv : v.category = 1) (h : stl L i v = some L') : storeLocals L.toArray i v = some L'.toArray ∧ L'.length = L.length := by
  unfold stl at h
  unfold storeLocals
  cases hi : L[i]? with
  | none => rw [hi] at h; cases h
  | some o =>
    have hlt : i < L.length := (List.getElem?_eq_some_iff.mp hi).1
    rw [hi] at h
    rw [arr_get hi]
    cases o with
    | unset => cases h; simp [storeSelf, setAt, hlt, hv]
    | second =>
      simp only at h
      split at h
      · cases h; simp [storeSelf, setAt, hv, hlt, Nat.lt_of_le_of_lt (Nat.sub_le i 1) hlt]
      · cases h
    | val w =>
      simp only at h
      split at h
      · rename_i hw; cases h; simp [storeSelf, setAt, hv, hlt, hw]
      · rename_i hw
        split at h
        · rename_i h1
          have hw2 : w.category = 2 := by cases w <;> simp [Value.category] at hw ⊢
          cases h; simp [storeSelf, setAt, hv, hlt, hw2, h1]
        · cases h
theorem stL_ok {L L' : List Slot} {i : Nat} {v : Value} (hv : v.category = 2) (h : stL L i v = some L') : storeLocals L.toArray i v = some L'.toArray ∧ L'.length = L.length := by
  unfold stL at h
  unfold storeLocals
  cases hi : L[i]? with
  | none => rw [hi] at h; cases h
  | some o =>
    cases hi2 : L[i + 1]? with
    | none => rw [hi, hi2] at h; cases o <;> cases h
    | some o2 =>
      have hlt : i < L.length := (List.getElem?_eq_some_iff.mp hi).1
      have hlt2 : i + 1 < L.length := (List.getElem?_eq_some_iff.mp hi2).1
      rw [hi, hi2] at h
      rw [arr_get hi]
      have g2 : (L.set i (.val v))[i + 1]? = some o2 := by rw [List.getElem?_set_ne (by omega)]; exact hi2
      have g4 : L[i + 1] = o2 := (List.getElem?_eq_some_iff.mp hi2).2
      cases o with
      | second =>
        simp only at h
        have h0 : i - 1 < L.length := by omega
        split at h
        · rename_i h1
          have g2' : ((L.set (i - 1) .unset).set i (.val v))[i + 1]? = some o2 := by rw [List.getElem?_set_ne (by omega), List.getElem?_set_ne (by omega)]; exact hi2
          have g4' : ((L.set (i - 1) .unset).set i (.val v))[i + 1]'(by simpa using hlt2) = o2 := (List.getElem?_eq_some_iff.mp g2').2
          split at h
          · rename_i hc
            cases h
            cases o2 with
            | second => cases hc
            | unset => simp [storeSelf, setAt, hv, hlt, hlt2, h0, g4']
            | val w => simp only [cat1, beq_iff_eq] at hc; simp [storeSelf, setAt, hv, hlt, hlt2, h0, g4', hc]
          · split at h
            · rename_i hc
              cases h
              obtain ⟨hc, hlt3⟩ := hc
              cases o2 with
              | second => cases hc
              | unset => cases hc
              | val w => simp only [lng, beq_iff_eq] at hc; simp [storeSelf, setAt, hv, hlt, hlt2, hlt3, h0, g4', hc]
            · cases h
        · cases h
      | unset =>
        simp only at h
        split at h
        · rename_i hc
          cases h
          cases o2 with
          | second => cases hc
          | unset => simp [storeSelf, setAt, hv, hlt, hlt2, g2, g4]
          | val w => simp only [cat1, beq_iff_eq] at hc; simp [storeSelf, setAt, hv, hlt, hlt2, g2, g4, hc]
        · split at h
          · rename_i hc
            cases h
            obtain ⟨hc, hlt3⟩ := hc
            cases o2 with
            | second => cases hc
            | unset => cases hc
            | val w => simp only [lng, beq_iff_eq] at hc; simp [storeSelf, setAt, hv, hlt, hlt2, hlt3, g2, g4, hc]
          · cases h
      | val w =>
        simp only at h
        split at h
        · rename_i hw
          cases h
          have g3 : ((L.set (i + 1) .unset).set i (.val v))[i + 1]? = some .unset := by rw [List.getElem?_set_ne (by omega)]; simp [hlt2]
          simp [storeSelf, setAt, hv, hlt, hlt2, hw, g3]
          rw [List.set_comm _ _ (by omega), List.set_set, List.set_comm _ _ (by omega)]
        · rename_i hw
          have hw1 : ¬ w.category = 2 := hw
          split at h
          · rename_i hc
            cases h
            cases o2 with
            | second => cases hc
            | unset => simp [storeSelf, setAt, hv, hlt, hlt2, g2, g4, hw1]
            | val w => simp only [cat1, beq_iff_eq] at hc; simp [storeSelf, setAt, hv, hlt, hlt2, g2, g4, hw1, hc]
          · split at h
            · rename_i hc
              cases h
              obtain ⟨hc, hlt3⟩ := hc
              cases o2 with
              | second => cases hc
              | unset => cases hc
              | val w2 => simp only [lng, beq_iff_eq] at hc; simp [storeSelf, setAt, hv, hlt, hlt2, hlt3, g2, g4, hw1, hc]
            · cases h
theorem jmp_ok {pc q : Nat} {o : Int} (h : jmp pc o = some q) : 0 ≤ (pc : Int) + o ∧ ((pc : Int) + o).toNat = q := by
  unfold jmp at h
  split at h
  · rename_i g; cases h; exact ⟨g, rfl⟩
  · cases h
theorem ldI_ok {L : List Slot} {i : Nat} {v : Value} (h : ldI L i = some v) : ∃ x, v = .int x ∧ L.toArray[i]? = some (.val (.int x)) := by
  unfold ldI at h
  split at h
  · rename_i x e; cases h; exact ⟨x, rfl, arr_get e⟩
  · cases h
theorem ldJ_ok {L : List Slot} {i : Nat} {v : Value} (h : ldJ L i = some v) : ∃ x, v = .long x ∧ L.toArray[i]? = some (.val (.long x)) := by
  unfold ldJ at h
  split at h
  · rename_i x e; cases h; exact ⟨x, rfl, arr_get e⟩
  · cases h
theorem ldR_ok {L : List Slot} {i : Nat} {v : Value} (h : ldR L i = some v) : ∃ x, v = .ref x ∧ L.toArray[i]? = some (.val (.ref x)) := by
  unfold ldR at h
  split at h
  · rename_i x e; cases h; exact ⟨x, rfl, arr_get e⟩
  · cases h
theorem okv_ok {t : FieldType} {v : Value} (h : okv t v = true) : narrow t v = v ∧ fits t v = true := by
  unfold okv at h
  split at h
  · exact ⟨rfl, rfl⟩
  · rename_i z
    simp only [Bool.or_eq_true, beq_iff_eq] at h
    rcases h with rfl | rfl <;> exact ⟨rfl, rfl⟩
  · rename_i z
    simp only [beq_iff_eq] at h
    have q := fits_nar_byte z
    rw [h] at q
    exact ⟨by show Value.int _ = _; rw [h], q⟩
  · exact ⟨rfl, rfl⟩
  · exact ⟨rfl, rfl⟩
  · cases h
end Jvm.JX

namespace Jvm.JX
open Sem ClassFile Op Lib Jvm.Stand Jvm.Free Jvm.LawKit Jvm.RoadKit
section Step
variable {P : Prog} {tb : List Jvm.Cond} {C : String} {fn : Nat → String × String} {F : List Nat} {nsl : Nat} {nm : Nat → MethodName} {bt : Nat → ByteArray} {R : List Nat} {top : Nat}
variable {l : Launch} {Z : State} {a0 : Array Value} {n0 : Nat} {m pc len k n : Nat} {aux : Int} {L : List Slot} {S : List Value} {H : AH} {ins : Instr} {q : Fm}
variable {p : Program} {e : Env} {s : State} {mid : MethodId} {args : Array Value} {below : List Frame} {meth : Method} {c : Code} {T : State} {locs : List Loc} {Rm : Jvm.Room}
theorem go_same {start : State} {nl pc' : Nat} {L' : List Slot} {S' : List Value} (X : Stand p l e Rm s mid args below meth c T locs k n) (r : RelH C fn F Z n0 T.heap H) (N : Fr n0 locs) (hk : k ≤ Rm.cells) (hn : n ≤ Rm.slots) (hL : L'.length = nl)
    (st : ∀ target, Steps p.tables e below (T.setTop (mkF mid pc' L'.toArray S')) target → Steps p.tables e below start target) : Go C fn F Z n0 p l e Rm s mid args below meth c start nl (pc', L', S', k, n, H) := ⟨T, locs, X, r, N, hk, hn, hL, st⟩
theorem go_heap {start : State} {nl pc' : Nat} {L' : List Slot} {S' : List Value} {T' : State} (X : Stand p l e Rm s mid args below meth c T' locs k n) (r : RelH C fn F Z n0 T.heap H) (hh : T'.heap = T.heap) (N : Fr n0 locs) (hk : k ≤ Rm.cells) (hn : n ≤ Rm.slots) (hL : L'.length = nl)
    (st : ∀ target, Steps p.tables e below (T'.setTop (mkF mid pc' L'.toArray S')) target → Steps p.tables e below start target) : Go C fn F Z n0 p l e Rm s mid args below meth c start nl (pc', L', S', k, n, H) := ⟨T', locs, X, by rw [hh]; exact r, N, hk, hn, hL, st⟩
theorem idx_not {i : Int32} {n : Nat} (h1 : ¬ i < 0) (h2 : i.toNatClampNeg < n) : ¬ (i < 0 ∨ n ≤ i.toNatClampNeg) := fun h => h.elim h1 (Nat.not_le.mpr h2)
theorem inA_ok {a : Nat} {t : FieldType} {i : Int32} (h : inA H a t i = true) : (H.2 a).1 = .array t ∧ ¬ i < 0 ∧ i.toNatClampNeg < (H.2 a).2.1 := by
  simpa [inA, and_assoc] using h
theorem inAw_ok {a : Nat} {t : FieldType} {i : Int32} (h : inAw H a t i = true) : inA H a t i = true ∧ (H.2 a).2.2.1 = true := by
  simpa [inAw] using h
theorem isOw_ok {a : Nat} (h : isOw H a = true) : isO H a = true ∧ (H.2 a).2.2.1 = true := by simpa [isOw] using h
theorem RelH.wrF {h h' : Heap} {a j : Nat} {v : Value} (hG : Good P tb C fn F nsl nm bt R top) (hw : ∀ d ∈ tb, d.before a0 Z = true) (r : RelH C fn F Z n0 h H) (ha : isO H a = true) (hj : j ∈ F) (Wt : Wr h h' a (Jvm.RoadKit.slotOf Z C (fn j).1 (fn j).2) v) : RelH C fn F Z n0 h' (wr H a j v) := by
  refine ⟨by rw [Wt.size]; exact r.1, r.2.1, fun b => ?_⟩
  by_cases e : b = a
  · subst e
    obtain ⟨q1, q2⟩ := r.2.2 b
    obtain ⟨E, Fs⟩ := r.obj ha
    simp only [wr, if_true]
    refine ⟨q1, ?_⟩
    unfold isO at ha
    cases hk : (H.2 b).1 <;> rw [hk] at ha <;> try (cases ha; done)
    simp only
    refine ⟨E.wr Wt, fun i hi => ?_⟩
    by_cases e2 : i = j
    · subst e2; simp only [if_true]; exact (Fs i hi).same Wt
    · simp only [e2, if_false]
      refine (Fs i hi).other Wt (Or.inr ?_)
      have lw : ∀ k ∈ F, Laid Z a0 C C (fn k).1 (fn k).2 := fun k hk => ((hG.2.2.1 k hk).2).imp (hw _) (hw _)
      exact slot_ne (lw i hi) (lw j hj) (fun q => e2 (hG.2.2.2.1 i hi j hj q)) (hG.2.2.1 i hi).1 (hG.2.2.1 j hj).1
  · simp only [wr, e, if_false]
    obtain ⟨q1, q2⟩ := r.2.2 b
    refine ⟨q1, ?_⟩
    cases hk : (H.2 b).1 <;> simp only [hk] at q2 ⊢
    · exact ⟨q2.1.wr Wt, fun k hk => (q2.2 k hk).other Wt (Or.inl e)⟩
    · obtain ⟨q3, cl, q4, q5⟩ := q2; exact ⟨q3, cl, q4.other Wt e, q5⟩
theorem RelH.wrA {h h' : Heap} {a j : Nat} {t : FieldType} {v : Value} (r : RelH C fn F Z n0 h H) (ha : (H.2 a).1 = .array t) (hj : j < (H.2 a).2.1) (Wt : Wr h h' a j v) : RelH C fn F Z n0 h' (wr H a j v) := by
  refine ⟨by rw [Wt.size]; exact r.1, r.2.1, fun b => ?_⟩
  by_cases e : b = a
  · subst e
    obtain ⟨q1, q2⟩ := r.2.2 b
    obtain ⟨g1, cl, g2, g3, g4⟩ := r.arr ha
    simp only [wr, if_true]
    refine ⟨q1, ?_⟩
    simp only [ha]
    refine ⟨g1, cl.setSlot j v, g2.same Wt, by rw [sz_set]; exact g3, fun i hi => ?_⟩
    by_cases e2 : i = j
    · subst e2; simp [Cell.setSlot, g3, hj]
    · simp only [e2, if_false]; rw [← g4 i hi]; exact Array.getElem?_setIfInBounds_ne (Ne.symm e2)
  · simp only [wr, e, if_false]
    obtain ⟨q1, q2⟩ := r.2.2 b
    refine ⟨q1, ?_⟩
    cases hk : (H.2 b).1 <;> simp only [hk] at q2 ⊢
    · exact ⟨q2.1.wr Wt, fun k hk => (q2.2 k hk).other Wt (Or.inl e)⟩
    · obtain ⟨q3, cl, q4, q5⟩ := q2; exact ⟨q3, cl, q4.other Wt e, q5⟩
theorem ext_push (h : Heap) (x : Cell) : Ext h (h.push x) := ⟨by simp, fun a c q => by rw [Array.getElem?_push_lt (Array.getElem?_eq_some_iff.mp q).1]; exact (Array.getElem?_eq_getElem _).symm.trans q⟩
theorem made_obj {h : Heap} {cC : ClassId} {kC : Class} (hZ : Z.Warmed39 s.vm) (h1 : s.vm.findClass C = some cC) (h2 : s.vm.classes[cC]? = some kC) :
    Exa Z (h.push { cls := cC, slots := kC.instanceTypes.map defaultValue, vm := .none }) h.size C ∧ ∀ {nm d : String} {ty : FieldType}, Laid Z a0 C C nm d → parseFieldDescriptor d = some ty → Fld Z (h.push { cls := cC, slots := kC.instanceTypes.map defaultValue, vm := .none }) h.size C nm d (defaultValue ty) := by
  rw [hZ.alike.findClass] at h1
  obtain ⟨kZ, z1, -⟩ := Vm.findClass_spec h1
  obtain ⟨k', z2, z3⟩ := hZ.alike.2.2 _ _ z1
  cases h2.symm.trans z2
  have ei : kC.instanceTypes = kZ.instanceTypes := by rw [z3]
  have hN : ∀ x : Cell, (h.push x)[h.size]? = some x := fun x => by simp
  refine ⟨⟨_, kZ, hN _, h1, z1, rfl, fun _ => by simp [ei]⟩, fun {nm d ty} lw ht => ?_⟩
  obtain ⟨c1, k1, cf, kf, i, f, a1, a2, a3, a4, a5, a6, -⟩ := lw.spec
  cases h1.symm.trans a1
  cases z1.symm.trans a2
  exact ⟨_, cf, kf, i, f, hN _, a3, a4, by simp, rfl, a5, by simp [ei, a6, (State.fieldFound?_type a3 ht).2]⟩
theorem made_arr {h : Heap} {t : FieldType} {cA comp : ClassId} {kA : Class} {xs : Array Value} (hZ : Z.Warmed39 s.vm) (h1 : s.vm.findClass ("[" ++ t.toString) = some cA) (h2 : s.vm.classes[cA]? = some kA) (h3 : kA.kind = .array comp t) : Arr Z (h.push { cls := cA, slots := xs, vm := .none }) h.size { cls := cA, slots := xs, vm := .none } t := by
  rw [hZ.alike.findClass] at h1
  obtain ⟨kZ, z1, -⟩ := Vm.findClass_spec h1
  obtain ⟨k', z2, z3⟩ := hZ.alike.2.2 _ _ z1
  cases h2.symm.trans z2
  exact ⟨by simp, ⟨by simp, kZ, z1, comp, by rw [← h3, z3]⟩, by simp⟩
set_option maxHeartbeats 4000000 in
theorem stp_go (hG : Good P tb C fn F nsl nm bt R top) (hw : ∀ d ∈ tb, d.before a0 Z = true) (hm : m ∈ R) (hrow : P.1 m pc = some (ins, len, aux)) (h : stp P m ins len aux pc L S k n H = some q) (X : Stand p l e (rm P m) s mid args below meth c T locs k n) (hx : p.tables.exec = Jvm.exec) (hZ : Z.Warmed39 s.vm)
    (hby : c.code = bt m) (hml : c.maxLocals = ml P m) (hown : s.vm.findClass (nm m).cls = some mid.cls) (hnm : meth.name = (nm m).name) (hL : L.length = ml P m) (r : RelH C fn F Z n0 T.heap H) (N : Fr n0 locs) (hk : k ≤ (rm P m).cells) (hn : n ≤ (rm P m).slots) :
    Go C fn F Z n0 p l e (rm P m) s mid args below meth c (T.setTop (mkF mid pc L.toArray S)) (ml P m) q := by
  obtain ⟨hd, hl, ho⟩ := (hG.2.2.2.2.1 m hm).2.2 pc ins len aux hrow
  replace hd := hb hby hd
  cases ins with
  | iconst i =>
    have hl : len = 1 := hl; subst hl
    obtain rfl := Option.some.inj h
    exact go_same X r N hk hn hL fun t g => XS.iconst X.here hx rfl hd g
  | bipush i =>
    have hl : len = 2 := hl; subst hl
    obtain rfl := Option.some.inj h
    exact go_same X r N hk hn hL fun t g => XS.bipush X.here hx rfl hd g
  | sipush i =>
    have hl : len = 3 := hl; subst hl
    obtain rfl := Option.some.inj h
    exact go_same X r N hk hn hL fun t g => XS.sipush X.here hx rfl hd g
  | lconst i =>
    have hl : len = 1 := hl; subst hl
    obtain rfl := Option.some.inj h
    exact go_same X r N hk hn hL fun t g => XT.lconst X.here hx rfl hd g
  | ldc i =>
    have hl : len = 2 := hl; subst hl
    obtain rfl := Option.some.inj h
    exact go_same X r N hk hn hL fun t g => X.ldcI hx hown (mv hZ (hw _ ho)) rfl hd g
  | ldc2_w i =>
    have hl : len = 3 := hl; subst hl
    obtain rfl := Option.some.inj h
    exact go_same X r N hk hn hL fun t g => X.ldc2J hx hown (mv hZ (hw _ ho)) rfl hd g
  | iload i =>
    have hl : len = 2 := hl; subst hl
    obtain ⟨v, hv, rfl⟩ := Option.map_eq_some_iff.mp h
    obtain ⟨x, rfl, hg⟩ := ldI_ok hv
    exact go_same X r N hk hn hL fun t g => XS.iload X.here hx rfl hd hg g
  | iload_n i =>
    have hl : len = 1 := hl; subst hl
    obtain ⟨v, hv, rfl⟩ := Option.map_eq_some_iff.mp h
    obtain ⟨x, rfl, hg⟩ := ldI_ok hv
    exact go_same X r N hk hn hL fun t g => XS.iloadN X.here hx rfl hd hg g
  | lload i =>
    have hl : len = 2 := hl; subst hl
    obtain ⟨v, hv, rfl⟩ := Option.map_eq_some_iff.mp h
    obtain ⟨x, rfl, hg⟩ := ldJ_ok hv
    exact go_same X r N hk hn hL fun t g => XT.lload X.here hx rfl hd hg g
  | lload_n i =>
    have hl : len = 1 := hl; subst hl
    obtain ⟨v, hv, rfl⟩ := Option.map_eq_some_iff.mp h
    obtain ⟨x, rfl, hg⟩ := ldJ_ok hv
    exact go_same X r N hk hn hL fun t g => XT.lloadN X.here hx rfl hd hg g
  | aload i =>
    have hl : len = 2 := hl; subst hl
    obtain ⟨v, hv, rfl⟩ := Option.map_eq_some_iff.mp h
    obtain ⟨x, rfl, hg⟩ := ldR_ok hv
    exact go_same X r N hk hn hL fun t g => XS.aload X.here hx rfl hd hg rfl g
  | aload_n i =>
    have hl : len = 1 := hl; subst hl
    obtain ⟨v, hv, rfl⟩ := Option.map_eq_some_iff.mp h
    obtain ⟨x, rfl, hg⟩ := ldR_ok hv
    exact go_same X r N hk hn hL fun t g => XS.aloadN X.here hx rfl hd hg rfl g
  | istore i =>
    have hl : len = 2 := hl; subst hl
    dsimp only [stp] at h
    split at h
    · rename_i x S'
      obtain ⟨L', hv, rfl⟩ := Option.map_eq_some_iff.mp h
      obtain ⟨g1, g2⟩ := stl_ok rfl hv
      exact go_same X r N hk hn (g2.trans hL) fun t g => XS.istore X.here hx rfl hd rfl g1 g
    · cases h
  | istore_n i =>
    have hl : len = 1 := hl; subst hl
    dsimp only [stp] at h
    split at h
    · rename_i x S'
      obtain ⟨L', hv, rfl⟩ := Option.map_eq_some_iff.mp h
      obtain ⟨g1, g2⟩ := stl_ok rfl hv
      exact go_same X r N hk hn (g2.trans hL) fun t g => XS.istoreN X.here hx rfl hd rfl g1 g
    · cases h
  | astore i =>
    have hl : len = 2 := hl; subst hl
    dsimp only [stp] at h
    split at h
    · rename_i x S'
      obtain ⟨L', hv, rfl⟩ := Option.map_eq_some_iff.mp h
      obtain ⟨g1, g2⟩ := stl_ok rfl hv
      exact go_same X r N hk hn (g2.trans hL) fun t g => XS.astore X.here hx rfl hd rfl rfl g1 g
    · cases h
  | astore_n i =>
    have hl : len = 1 := hl; subst hl
    dsimp only [stp] at h
    split at h
    · rename_i x S'
      obtain ⟨L', hv, rfl⟩ := Option.map_eq_some_iff.mp h
      obtain ⟨g1, g2⟩ := stl_ok rfl hv
      exact go_same X r N hk hn (g2.trans hL) fun t g => XS.astoreN X.here hx rfl hd rfl rfl g1 g
    · cases h
  | lstore i =>
    have hl : len = 2 := hl; subst hl
    dsimp only [stp] at h
    split at h
    · rename_i x S'
      obtain ⟨L', hv, rfl⟩ := Option.map_eq_some_iff.mp h
      obtain ⟨g1, g2⟩ := stL_ok rfl hv
      exact go_same X r N hk hn (g2.trans hL) fun t g => XT.lstore X.here hx rfl hd rfl g1 g
    · cases h
  | lstore_n i =>
    have hl : len = 1 := hl; subst hl
    dsimp only [stp] at h
    split at h
    · rename_i x S'
      obtain ⟨L', hv, rfl⟩ := Option.map_eq_some_iff.mp h
      obtain ⟨g1, g2⟩ := stL_ok rfl hv
      exact go_same X r N hk hn (g2.trans hL) fun t g => XT.lstoreN X.here hx rfl hd rfl g1 g
    · cases h
  | iinc i cst =>
    have hl : len = 3 := hl; subst hl
    dsimp only [stp] at h
    split at h
    · rename_i x hx1
      obtain rfl := Option.some.inj h
      have g1 : storeLocals L.toArray i (.int (x + Int32.ofInt cst)) = some (L.set i (.val (.int (x + Int32.ofInt cst)))).toArray := (stl_ok rfl (stl_plain hx1 rfl)).1
      exact go_same X r N hk hn (by simpa using hL) fun t g => XS.iinc X.here hx rfl hd (arr_get hx1) g1 g
    · cases h
  | iadd =>
    have hl : len = 1 := hl; subst hl
    dsimp only [stp] at h
    split at h
    · rename_i y x S'
      obtain rfl := Option.some.inj h
      exact go_same X r N hk hn hL fun t g => XS.iadd X.here hx rfl hd rfl g
    · cases h
  | isub =>
    have hl : len = 1 := hl; subst hl
    dsimp only [stp] at h
    split at h
    · rename_i y x S'
      obtain rfl := Option.some.inj h
      exact go_same X r N hk hn hL fun t g => XS.isub X.here hx rfl hd rfl g
    · cases h
  | imul =>
    have hl : len = 1 := hl; subst hl
    dsimp only [stp] at h
    split at h
    · rename_i y x S'
      obtain rfl := Option.some.inj h
      exact go_same X r N hk hn hL fun t g => XS.imul X.here hx rfl hd rfl g
    · cases h
  | iand =>
    have hl : len = 1 := hl; subst hl
    dsimp only [stp] at h
    split at h
    · rename_i y x S'
      obtain rfl := Option.some.inj h
      exact go_same X r N hk hn hL fun t g => XS.iand X.here hx rfl hd rfl g
    · cases h
  | ior =>
    have hl : len = 1 := hl; subst hl
    dsimp only [stp] at h
    split at h
    · rename_i y x S'
      obtain rfl := Option.some.inj h
      exact go_same X r N hk hn hL fun t g => XT.ior X.here hx rfl hd rfl g
    · cases h
  | ixor =>
    have hl : len = 1 := hl; subst hl
    dsimp only [stp] at h
    split at h
    · rename_i y x S'
      obtain rfl := Option.some.inj h
      exact go_same X r N hk hn hL fun t g => XT.ixor X.here hx rfl hd rfl g
    · cases h
  | ishl =>
    have hl : len = 1 := hl; subst hl
    dsimp only [stp] at h
    split at h
    · rename_i y x S'
      obtain rfl := Option.some.inj h
      exact go_same X r N hk hn hL fun t g => XT.ishl X.here hx rfl hd rfl g
    · cases h
  | ishr =>
    have hl : len = 1 := hl; subst hl
    dsimp only [stp] at h
    split at h
    · rename_i y x S'
      obtain rfl := Option.some.inj h
      exact go_same X r N hk hn hL fun t g => XT.ishr X.here hx rfl hd rfl g
    · cases h
  | iushr =>
    have hl : len = 1 := hl; subst hl
    dsimp only [stp] at h
    split at h
    · rename_i y x S'
      obtain rfl := Option.some.inj h
      exact go_same X r N hk hn hL fun t g => XT.iushr X.here hx rfl hd rfl g
    · cases h
  | ladd =>
    have hl : len = 1 := hl; subst hl
    dsimp only [stp] at h
    split at h
    · rename_i y x S'
      obtain rfl := Option.some.inj h
      exact go_same X r N hk hn hL fun t g => XT.ladd X.here hx rfl hd rfl g
    · cases h
  | lsub =>
    have hl : len = 1 := hl; subst hl
    dsimp only [stp] at h
    split at h
    · rename_i y x S'
      obtain rfl := Option.some.inj h
      exact go_same X r N hk hn hL fun t g => XT.lsub X.here hx rfl hd rfl g
    · cases h
  | lmul =>
    have hl : len = 1 := hl; subst hl
    dsimp only [stp] at h
    split at h
    · rename_i y x S'
      obtain rfl := Option.some.inj h
      exact go_same X r N hk hn hL fun t g => XT.lmul X.here hx rfl hd rfl g
    · cases h
  | land =>
    have hl : len = 1 := hl; subst hl
    dsimp only [stp] at h
    split at h
    · rename_i y x S'
      obtain rfl := Option.some.inj h
      exact go_same X r N hk hn hL fun t g => XT.land X.here hx rfl hd rfl g
    · cases h
  | lor =>
    have hl : len = 1 := hl; subst hl
    dsimp only [stp] at h
    split at h
    · rename_i y x S'
      obtain rfl := Option.some.inj h
      exact go_same X r N hk hn hL fun t g => XT.lor X.here hx rfl hd rfl g
    · cases h
  | lxor =>
    have hl : len = 1 := hl; subst hl
    dsimp only [stp] at h
    split at h
    · rename_i y x S'
      obtain rfl := Option.some.inj h
      exact go_same X r N hk hn hL fun t g => XT.lxor X.here hx rfl hd rfl g
    · cases h
  | lshl =>
    have hl : len = 1 := hl; subst hl
    dsimp only [stp] at h
    split at h
    · rename_i y x S'
      obtain rfl := Option.some.inj h
      exact go_same X r N hk hn hL fun t g => XT.lshl X.here hx rfl hd rfl g
    · cases h
  | lshr =>
    have hl : len = 1 := hl; subst hl
    dsimp only [stp] at h
    split at h
    · rename_i y x S'
      obtain rfl := Option.some.inj h
      exact go_same X r N hk hn hL fun t g => XT.lshr X.here hx rfl hd rfl g
    · cases h
  | lushr =>
    have hl : len = 1 := hl; subst hl
    dsimp only [stp] at h
    split at h
    · rename_i y x S'
      obtain rfl := Option.some.inj h
      exact go_same X r N hk hn hL fun t g => XT.lushr X.here hx rfl hd rfl g
    · cases h
  | idiv =>
    have hl : len = 1 := hl; subst hl
    dsimp only [stp] at h
    split at h
    · rename_i y x S'
      split at h
      · cases h
      · rename_i g0
        obtain rfl := Option.some.inj h
        exact go_same X r N hk hn hL fun t g => XS.idiv X.here hx rfl hd rfl g0 g
    · cases h
  | irem =>
    have hl : len = 1 := hl; subst hl
    dsimp only [stp] at h
    split at h
    · rename_i y x S'
      split at h
      · cases h
      · rename_i g0
        obtain rfl := Option.some.inj h
        exact go_same X r N hk hn hL fun t g => iremM X hx rfl hd rfl g0 g
    · cases h
  | ldiv =>
    have hl : len = 1 := hl; subst hl
    dsimp only [stp] at h
    split at h
    · rename_i y x S'
      split at h
      · cases h
      · rename_i g0
        obtain rfl := Option.some.inj h
        exact go_same X r N hk hn hL fun t g => XT.ldiv X.here hx rfl hd rfl g0 g
    · cases h
  | lrem =>
    have hl : len = 1 := hl; subst hl
    dsimp only [stp] at h
    split at h
    · rename_i y x S'
      split at h
      · cases h
      · rename_i g0
        obtain rfl := Option.some.inj h
        exact go_same X r N hk hn hL fun t g => XT.lrem X.here hx rfl hd rfl g0 (by rw [lrem_mod]; exact g)
    · cases h
  | ineg =>
    have hl : len = 1 := hl; subst hl
    dsimp only [stp] at h
    split at h
    · rename_i x S'
      obtain rfl := Option.some.inj h
      exact go_same X r N hk hn hL fun t g => XS.ineg X.here hx rfl hd rfl g
    · cases h
  | lneg =>
    have hl : len = 1 := hl; subst hl
    dsimp only [stp] at h
    split at h
    · rename_i x S'
      obtain rfl := Option.some.inj h
      exact go_same X r N hk hn hL fun t g => XT.lneg X.here hx rfl hd rfl g
    · cases h
  | i2l =>
    have hl : len = 1 := hl; subst hl
    dsimp only [stp] at h
    split at h
    · rename_i x S'
      obtain rfl := Option.some.inj h
      exact go_same X r N hk hn hL fun t g => XT.i2l X.here hx rfl hd rfl g
    · cases h
  | l2i =>
    have hl : len = 1 := hl; subst hl
    dsimp only [stp] at h
    split at h
    · rename_i x S'
      obtain rfl := Option.some.inj h
      exact go_same X r N hk hn hL fun t g => XT.l2i X.here hx rfl hd rfl g
    · cases h
  | i2b =>
    have hl : len = 1 := hl; subst hl
    dsimp only [stp] at h
    split at h
    · rename_i x S'
      obtain rfl := Option.some.inj h
      exact go_same X r N hk hn hL fun t g => XT.i2b X.here hx rfl hd rfl g
    · cases h
  | lcmp =>
    have hl : len = 1 := hl; subst hl
    dsimp only [stp] at h
    split at h
    · rename_i y x S'
      obtain rfl := Option.some.inj h
      exact go_same X r N hk hn hL fun t g => XT.lcmp X.here hx rfl hd rfl g
    · cases h
  | dup =>
    have hl : len = 1 := hl; subst hl
    dsimp only [stp] at h
    split at h
    · rename_i v S'
      split at h
      · rename_i g0
        obtain rfl := Option.some.inj h
        exact go_same X r N hk hn hL fun t g => XS.dup X.here hx rfl hd rfl g0 g
      · cases h
    · cases h
  | pop =>
    have hl : len = 1 := hl; subst hl
    dsimp only [stp] at h
    split at h
    · rename_i v S'
      split at h
      · rename_i g0
        obtain rfl := Option.some.inj h
        exact go_same X r N hk hn hL fun t g => XT.pop X.here hx rfl hd rfl g0 g
      · cases h
    · cases h
  | dup2 =>
    have hl : len = 1 := hl; subst hl
    dsimp only [stp] at h
    split at h
    · rename_i x S'
      obtain rfl := Option.some.inj h
      exact go_same X r N hk hn hL fun t g => XT.dup2L X.here hx rfl hd rfl g
    · rename_i v w S' _
      split at h
      · rename_i g0
        obtain rfl := Option.some.inj h
        exact go_same X r N hk hn hL fun t g => XT.dup2 X.here hx rfl hd rfl g0.1 g0.2 g
      · cases h
    · cases h
  | goto o =>
    have hl : len = 3 := hl; subst hl
    obtain ⟨v, hv, rfl⟩ := Option.map_eq_some_iff.mp h
    obtain ⟨g1, g2⟩ := jmp_ok hv
    exact go_same X r N hk hn hL fun t g => XS.goto X.here hx rfl rfl hd g1 g2 g
  | ifCond cd o =>
    have hl : len = 3 := hl; subst hl
    dsimp only [stp] at h
    split at h
    · rename_i x S'
      split at h
      · rename_i g0
        obtain ⟨v, hv, rfl⟩ := Option.map_eq_some_iff.mp h
        obtain ⟨g1, g2⟩ := jmp_ok hv
        exact go_same X r N hk hn hL fun t g => XS.ifYes X.here hx rfl rfl hd rfl g0 g1 g2 g
      · rename_i g0
        obtain rfl := Option.some.inj h
        exact go_same X r N hk hn hL fun t g => XS.ifNo X.here hx rfl hd rfl (by simpa using g0) g
    · cases h
  | if_icmp cd o =>
    have hl : len = 3 := hl; subst hl
    dsimp only [stp] at h
    split at h
    · rename_i y x S'
      split at h
      · rename_i g0
        obtain ⟨v, hv, rfl⟩ := Option.map_eq_some_iff.mp h
        obtain ⟨g1, g2⟩ := jmp_ok hv
        exact go_same X r N hk hn hL fun t g => XS.icmpYes X.here hx rfl rfl hd rfl g0 g1 g2 g
      · rename_i g0
        obtain rfl := Option.some.inj h
        exact go_same X r N hk hn hL fun t g => XS.icmpNo X.here hx rfl hd rfl (by simpa using g0) g
    · cases h
  | tableswitch d lo hi os =>
    dsimp only [stp] at h
    split at h
    · rename_i x S'
      split at h
      · rename_i g0
        obtain ⟨v, hv, rfl⟩ := Option.map_eq_some_iff.mp h
        obtain ⟨g1, g2⟩ := jmp_ok hv
        exact go_same X r N hk hn hL fun t g => XS.tswOut X.here hx rfl rfl hd rfl g0 g1 g2 g
      · rename_i g0
        obtain ⟨o, ho1, h⟩ := Option.bind_eq_some_iff.mp h
        obtain ⟨v, hv, rfl⟩ := Option.map_eq_some_iff.mp h
        obtain ⟨g1, g2⟩ := jmp_ok hv
        exact go_same X r N hk hn hL fun t g => XS.tswIn X.here hx rfl rfl hd rfl g0 ho1 g1 g2 g
    · cases h
  | getfield i =>
    have hl : len = 3 := hl; subst hl
    dsimp only [stp] at h
    split at h
    · rename_i a S'
      split at h
      · rename_i g0
        obtain rfl := Option.some.inj h
        obtain ⟨T1, X1, e1, st1⟩ := getF X hx hZ hown (host := "") (Or.inl (hw _ ho.2)) Via.refl rfl ((r.obj g0).2 _ ho.1) (g := mkF mid pc L.toArray (.ref a :: S')) rfl rfl hd
        exact go_heap X1 r e1 N hk hn hL fun t g => st1 t g
      · cases h
    · cases h
  | putfield i =>
    have hl : len = 3 := hl; subst hl
    dsimp only [stp] at h
    split at h
    · rename_i v a S'
      split at h
      · rename_i g0
        obtain rfl := Option.some.inj h
        obtain ⟨o1, o2, o3⟩ := ho
        obtain ⟨w1, w2⟩ := isOw_ok g0.1
        obtain ⟨n1, n2⟩ := okv_ok g0.2
        have hlay : (Jvm.Cond.lays C C (fn aux.toNat).1 (fn aux.toNat).2).before a0 Z = true ∨ ((Jvm.Cond.laysFinal C C (fn aux.toNat).1 (fn aux.toNat).2).before a0 Z = true ∧ (nm m).cls = C ∧ meth.name = "<init>") := by
          rcases o3 with q | ⟨q1, q2⟩
          · exact Or.inl (hw _ q)
          · rcases (hG.2.2.1 _ o1).2 with q | q
            · exact Or.inl (hw _ q)
            · exact Or.inr ⟨hw _ q, q1, hnm.trans q2⟩
        obtain ⟨T1, h1, X1, e1, W1, st1⟩ := putF X hx hZ hown (host := "") (Or.inl (hw _ o2)) Via.refl rfl ((r.obj w1).2 _ o1) (r.obj w1).1 hlay (hw _ hG.1) (hG.2.2.1 _ o1).1 n1 n2 (g := mkF mid pc L.toArray (v :: .ref a :: S')) rfl rfl hd
        exact ⟨T1, _, X1, by rw [e1]; exact r.wrF hG hw w1 o1 W1, Fr.snoc X1 N (r.own w2), hk, hn, hL, st1⟩
      · cases h
    · cases h
  | iaload =>
    have hl : len = 1 := hl; subst hl
    dsimp only [stp] at h
    split at h
    · rename_i i a S'
      split at h
      · rename_i g0
        obtain rfl := Option.some.inj h
        obtain ⟨w1, w2, w3⟩ := inA_ok g0
        obtain ⟨b1, cl, b2, b3, b4⟩ := r.arr w1
        exact go_same X r N hk hn hL fun t g => X.iaload hx (g := mkF mid pc L.toArray (.int i :: .ref a :: S')) b2.1 (State.isArrayOf_alike hZ.alike b2.2.1) b2.2.2 (by rw [b3]; exact idx_not w2 w3) (b4 _ w3) rfl rfl hd t g
      · cases h
    · cases h
  | laload =>
    have hl : len = 1 := hl; subst hl
    dsimp only [stp] at h
    split at h
    · rename_i i a S'
      split at h
      · rename_i g0
        obtain rfl := Option.some.inj h
        obtain ⟨w1, w2, w3⟩ := inA_ok g0
        obtain ⟨b1, cl, b2, b3, b4⟩ := r.arr w1
        exact go_same X r N hk hn hL fun t g => X.laload hx (g := mkF mid pc L.toArray (.int i :: .ref a :: S')) b2.1 (State.isArrayOf_alike hZ.alike b2.2.1) b2.2.2 (by rw [b3]; exact idx_not w2 w3) (b4 _ w3) rfl rfl hd t g
      · cases h
    · cases h
  | baload =>
    have hl : len = 1 := hl; subst hl
    dsimp only [stp] at h
    split at h
    · rename_i i a S'
      split at h
      · rename_i g0
        obtain rfl := Option.some.inj h
        rcases g0 with g0 | g0
        · obtain ⟨w1, w2, w3⟩ := inA_ok g0
          obtain ⟨b1, cl, b2, b3, b4⟩ := r.arr w1
          exact go_same X r N hk hn hL fun t g => X.baloadBytes hx (g := mkF mid pc L.toArray (.int i :: .ref a :: S')) b2.1 (State.isArrayOf_alike hZ.alike b2.2.1) b2.2.2 (by rw [b3]; exact idx_not w2 w3) (b4 _ w3) rfl rfl hd t g
        · obtain ⟨w1, w2, w3⟩ := inA_ok g0
          obtain ⟨b1, cl, b2, b3, b4⟩ := r.arr w1
          exact go_same X r N hk hn hL fun t g => X.baloadBooleans hx (g := mkF mid pc L.toArray (.int i :: .ref a :: S')) b2.1 (State.isArrayOf_alike hZ.alike b2.2.1) b2.2.2 (by rw [b3]; exact idx_not w2 w3) (b4 _ w3) rfl rfl hd t g
      · cases h
    · cases h
  | iastore =>
    have hl : len = 1 := hl; subst hl
    dsimp only [stp] at h
    split at h
    · rename_i x i a S'
      split at h
      · rename_i g0
        obtain rfl := Option.some.inj h
        obtain ⟨g1, g2⟩ := inAw_ok g0
        obtain ⟨w1, w2, w3⟩ := inA_ok g1
        obtain ⟨b1, cl, b2, b3, b4⟩ := r.arr w1
        obtain ⟨T1, h1, X1, e1, W1, st1⟩ := stI X hx hZ rfl b2 (j := i) (x := x) (by rw [b3]; exact idx_not w2 w3) (g := mkF mid pc L.toArray (.int x :: .int i :: .ref a :: S')) rfl rfl hd
        exact ⟨T1, _, X1, by rw [e1]; exact r.wrA w1 w3 W1, Fr.snoc X1 N (r.own g2), hk, hn, hL, st1⟩
      · cases h
    · cases h
  | lastore =>
    have hl : len = 1 := hl; subst hl
    dsimp only [stp] at h
    split at h
    · rename_i x i a S'
      split at h
      · rename_i g0
        obtain rfl := Option.some.inj h
        obtain ⟨g1, g2⟩ := inAw_ok g0
        obtain ⟨w1, w2, w3⟩ := inA_ok g1
        obtain ⟨b1, cl, b2, b3, b4⟩ := r.arr w1
        obtain ⟨T1, h1, X1, e1, W1, st1⟩ := stJ X hx hZ rfl b2 (j := i) (x := x) (by rw [b3]; exact idx_not w2 w3) (g := mkF mid pc L.toArray (.long x :: .int i :: .ref a :: S')) rfl rfl hd
        exact ⟨T1, _, X1, by rw [e1]; exact r.wrA w1 w3 W1, Fr.snoc X1 N (r.own g2), hk, hn, hL, st1⟩
      · cases h
    · cases h
  | bastore =>
    have hl : len = 1 := hl; subst hl
    dsimp only [stp] at h
    split at h
    · rename_i x i a S'
      split at h
      · rename_i g0
        obtain rfl := Option.some.inj h
        rcases g0 with ⟨g0, gx⟩ | ⟨g0, gx⟩
        · obtain ⟨g1, g2⟩ := inAw_ok g0
          obtain ⟨w1, w2, w3⟩ := inA_ok g1
          obtain ⟨b1, cl, b2, b3, b4⟩ := r.arr w1
          have hx2 : nar .byte x = x := Value.int.inj (okv_ok gx).1
          obtain ⟨T1, h1, X1, e1, W1, st1⟩ := stB X hx hZ rfl b2 (j := i) (x := x) (by rw [b3]; exact idx_not w2 w3) (g := mkF mid pc L.toArray (.int x :: .int i :: .ref a :: S')) rfl rfl hd
          rw [hx2] at W1
          exact ⟨T1, _, X1, by rw [e1]; exact r.wrA w1 w3 W1, Fr.snoc X1 N (r.own g2), hk, hn, hL, st1⟩
        · obtain ⟨g1, g2⟩ := inAw_ok g0
          obtain ⟨w1, w2, w3⟩ := inA_ok g1
          obtain ⟨b1, cl, b2, b3, b4⟩ := r.arr w1
          have hx2 : nar .boolean x = x := Value.int.inj (okv_ok gx).1
          obtain ⟨T1, h1, X1, e1, W1, st1⟩ := stZ X hx hZ rfl b2 (j := i) (x := x) (by rw [b3]; exact idx_not w2 w3) (g := mkF mid pc L.toArray (.int x :: .int i :: .ref a :: S')) rfl rfl hd
          rw [hx2] at W1
          exact ⟨T1, _, X1, by rw [e1]; exact r.wrA w1 w3 W1, Fr.snoc X1 N (r.own g2), hk, hn, hL, st1⟩
      · cases h
    · cases h
  | arraylength =>
    have hl : len = 1 := hl; subst hl
    dsimp only [stp] at h
    split at h
    · rename_i a S'
      split at h
      · rename_i g0
        obtain rfl := Option.some.inj h
        obtain ⟨t0, w1⟩ : ∃ t0, (H.2 a).1 = .array t0 := by unfold isA at g0; cases hq : (H.2 a).1 <;> rw [hq] at g0 <;> first | (cases g0; done) | exact ⟨_, rfl⟩
        obtain ⟨b1, cl, b2, b3, b4⟩ := r.arr w1
        refine go_same X r N hk hn hL fun t g => X.arraylength hx (g := mkF mid pc L.toArray (.ref a :: S')) b2.1 (State.isArrayOf_alike hZ.alike b2.2.1) rfl rfl hd t ?_
        rw [b3]; exact g
      · cases h
    · cases h
  | newarray t =>
    have hl : len = 2 := hl; subst hl
    dsimp only [stp] at h
    split at h
    · rename_i cnt S'
      split at h
      · rename_i g0
        obtain rfl := Option.some.inj h
        obtain ⟨z1, z2, z3, z4⟩ := g0
        have hcb : componentBytes (newarray.typeOf t) ≤ 8 := by cases t <;> decide
        obtain ⟨cA, kA, comp, h1, h2, h3, X1, st1⟩ := X.newarrayPrim hx (mvA hZ (hw _ ho)) (g := mkF mid pc L.toArray (.int cnt :: S')) rfl hd rfl z1 (Nat.le_trans (Nat.mul_le_mul_left _ hcb) z2) z3 z4
        refine ⟨_, locs, X1, ?_, N, z3, z4, hL, fun t g => st1 t (by rw [r.1]; exact g)⟩
        exact r.ext (ext_push _ _) (by show (T.heap.push _).size = _; simp) ⟨fun _ => by rw [r.1]; exact r.2.1, (back32 z1).2, _, made_arr hZ h1 h2 h3, by simp, fun i hi => by simp [hi]⟩
      · cases h
    · cases h
  | new i =>
    have hl : len = 3 := hl; subst hl
    dsimp only [stp] at h
    split at h
    · rename_i g0
      obtain rfl := Option.some.inj h
      obtain ⟨z1, z2, z3⟩ := g0
      rw [ho.1] at z3 ⊢
      obtain ⟨vm1, cC, kC, h1, h2, h3, h4, X1, st1⟩ := X.newCold hx hown (mv hZ (hw _ ho.2)) (mv hZ (hw _ hG.1)) (mv hZ (hw _ hG.2.1)) (g := mkF mid pc L.toArray S) rfl hd z2 z3
      obtain ⟨A1, D1⟩ := made_obj (h := T.heap) (a0 := a0) hZ h1 h2
      refine ⟨_, locs, X1, ?_, N, z2, z3, hL, fun t g => st1 t (by rw [r.1]; exact g)⟩
      exact r.ext (ext_push _ _) (by show (T.heap.push _).size = _; simp) ⟨fun _ => by rw [r.1]; exact r.2.1, A1, fun j hj => D1 (((hG.2.2.1 j hj).2).imp (hw _) (hw _)) (hG.2.2.1 j hj).1⟩
    · cases h
  | invokespecial i =>
    have hl : len = 3 := hl; subst hl
    dsimp only [stp] at h
    split at h
    · rename_i a S'
      split at h
      · rename_i g0
        obtain rfl := Option.some.inj h
        obtain ⟨rfl, z2, z3⟩ := g0
        obtain ⟨o1, o2, o3⟩ := ho.1 rfl
        obtain ⟨T1, X1, e1, st1⟩ := initO X hx hZ hown (hw _ o1) (hw _ o2) (hw _ o3) rfl (g := mkF mid pc L.toArray (.ref a :: S')) rfl (by rw [hml, ← hL]; simp) rfl hd z2 (W := cs S') (by show 2 * 0 + _ ≤ _; exact Nat.le_of_eq (Nat.zero_add _)) z3
        exact go_heap X1 r e1 N hk hn hL fun t g => st1 t g
      · cases h
    · cases h
  | _ => exact absurd (show (none : Option Fm) = some q from h) (by simp)
end Step
end Jvm.JX

namespace Jvm.JX
open Sem ClassFile Op Lib Jvm.Stand Jvm.Free Jvm.LawKit Jvm.RoadKit
section Sound
variable {P : Prog} {tb : List Jvm.Cond} {C : String} {fn : Nat → String × String} {F : List Nat} {nsl : Nat} {nm : Nat → MethodName} {bt : Nat → ByteArray} {R : List Nat} {top : Nat}
variable {l : Launch} {Z : State} {a0 : Array Value} {n0 : Nat}
def Endd (C : String) (fn : Nat → String × String) (F : List Nat) (Z : State) (n0 : Nat) (p : Program) (l : Launch) (e : Env) (Rm : Jvm.Room) (s : State) (mid : MethodId) (args : Array Value) (below : List Frame) (meth : Method) (c : Code) (rt0 : Option FieldType) (start : State) (v : Option Value) (H' : AH) : Prop :=
  ∃ T' locs' k' n', Stand p l e Rm s mid args below meth c T' locs' k' n' ∧ RelH C fn F Z n0 T'.heap H' ∧ Fr n0 locs' ∧ k' ≤ Rm.cells ∧ n' ≤ Rm.slots ∧ (rt0 = none → v = none) ∧
    ∀ fs, (∀ (f : JFrame) (acts : List Action), f.method = mid → f.locked = none → f.entered = [] → (doReturn e (T'.setTop f) acts v).1 = T'.setFrames fs) → Steps p.tables e below start (T'.setFrames fs)
def Says (P : Prog) (C : String) (fn : Nat → String × String) (F : List Nat) (nm : Nat → MethodName) (bt : Nat → ByteArray) (l : Launch) (Z : State) (n0 m pc : Nat) (L : List Slot) (S : List Value) (k n : Nat) (H : AH) (v : Option Value) (H' : AH) : Prop :=
  ∀ (p : Program) (e : Env) (s : State) (mid : MethodId) (args : Array Value) (below : List Frame) (meth : Method) (c : Code) (T : State) (locs : List Loc), Stand p l e (rm P m) s mid args below meth c T locs k n → p.tables.exec = Jvm.exec → Z.Warmed39 s.vm → c.code = bt m → c.maxLocals = ml P m →
    s.vm.findClass (nm m).cls = some mid.cls → meth.name = (nm m).name → meth.sig.returnType = rt P m → L.length = ml P m → RelH C fn F Z n0 T.heap H → Fr n0 locs → k ≤ (rm P m).cells → n ≤ (rm P m).slots →
    Endd C fn F Z n0 p l e (rm P m) s mid args below meth c (rt P m) (T.setTop (mkF mid pc L.toArray S)) v H'
theorem Endd.back {p : Program} {e : Env} {Rm : Jvm.Room} {s : State} {mid : MethodId} {args : Array Value} {below : List Frame} {meth : Method} {c : Code} {rt0 : Option FieldType} {start start' : State} {v : Option Value} {H' : AH}
    (h : Endd C fn F Z n0 p l e Rm s mid args below meth c rt0 start' v H') (st : ∀ t, Steps p.tables e below start' t → Steps p.tables e below start t) : Endd C fn F Z n0 p l e Rm s mid args below meth c rt0 start v H' := by
  obtain ⟨T', locs', k', n', h1, h2, h3, h4, h5, h6, h7⟩ := h
  exact ⟨T', locs', k', n', h1, h2, h3, h4, h5, h6, fun fs g => st _ (h7 fs g)⟩
theorem met_of {m : Nat} {as : List Value} {H H' : AH} {v : Option Value} {h : Heap} (ws : List Jvm.Cond) (hp : plainName (nm m).cls = true) (hl : (Sym.laidSlots as).length ≤ ml P m) (r : RelH C fn F Z n0 h H)
    (hS : Says P C fn F nm bt l Z n0 m 0 (ent P m as) [] 0 0 H v H') :
    MetFree l (nm m) (head1 (Jvm.Cond.code (nm m) (bt m) (ml P m) (rt P m) :: ws) (rm P m)) (fun a U => a = as.toArray ∧ Z.Warmed39 U.vm ∧ U.heap = h) (fun _ _ _ _ _ => True)
      (fun _ U o U' => ∃ v' L, o = .returned v' ∧ (v' = v ∧ Fr n0 L ∧ RelH C fn F Z n0 U'.heap H') ∧ FrameEnd U o U' L (rm P m).cells (rm P m).slots) := by
  refine MetFree.of_bodySF (plainFor_of_name hp) hisR ?_
  intro p e s mid args below meth c s₁ Bd hml0 hP hK
  obtain ⟨rfl, hZ, hh⟩ := hP
  have X0 : Stand p l e (rm P m) s mid as.toArray below meth c s₁ [] 0 0 := Stand.of_body Bd
  have e0 : s₁.heap = h := by rw [← hh, Bd.state]; rfl
  have hle : (ent P m as).length = ml P m := by simp [ent]; omega
  obtain ⟨T', locs', k', n', X1, r1, N1, hk1, hn1, hv1, st1⟩ := hS p e s mid as.toArray below meth c s₁ [] X0 Bd.exec hZ Bd.bytes hml0 (findClass_of_methodNamed Bd.named) (name_of_methodNamed Bd.named Bd.method).1 Bd.returns hle (by rw [e0]; exact r) (Fr.nil n0) (Nat.zero_le _) (Nat.zero_le _)
  obtain ⟨fs, hr, hrun, hended, hW, hsame⟩ := X1.leave (v := v) (fun q => hv1 (Bd.returns.symm.trans q))
  refine ⟨_, _, (Jvm.Free.XT.entry (Ls := (ent P m as).toArray) (by simp [ent])).trans (st1 fs hr), hrun, hended, v, locs', rfl, ⟨rfl, N1, r1⟩, ⟨_, rfl⟩, hW, hsame.mono hk1 hn1⟩
theorem ret_ok {m : Nat} {ins : Instr} {S : List Value} {v : Option Value} (h : ret P m ins S = some v) : (rt P m = none ∧ v = none ∧ ins = .return_ ∧ S = []) ∨ ∃ t w rest, rt P m = some t ∧ v = some w ∧ S = w :: rest ∧ narrow t w = w ∧
    ((ins = .ireturn ∧ (t = .int ∨ t = .boolean ∨ t = .byte ∨ t = .char ∨ t = .short) ∧ ∃ z, w = .int z) ∨ (ins = .lreturn ∧ t = .long ∧ ∃ z, w = .long z)) := by
  unfold ret at h
  split at h
  · split at h
    · rename_i g; cases h; exact Or.inl ⟨g.1, rfl, rfl, g.2⟩
    · cases h
  · split at h
    · rename_i z rest g; cases h; exact Or.inr ⟨.int, _, rest, g, rfl, rfl, rfl, Or.inl ⟨rfl, Or.inl rfl, z, rfl⟩⟩
    · rename_i z rest g
      split at h
      · rename_i g0
        cases h
        refine Or.inr ⟨.boolean, _, rest, g, rfl, rfl, ?_, Or.inl ⟨rfl, Or.inr (Or.inl rfl), z, rfl⟩⟩
        rcases g0 with rfl | rfl <;> rfl
      · cases h
    · cases h
  · split at h
    · rename_i z rest g; cases h; exact Or.inr ⟨.long, _, rest, g, rfl, rfl, rfl, Or.inr ⟨rfl, rfl, z, rfl⟩⟩
    · cases h
  · cases h
theorem cal_ok {m m' k n : Nat} {ins : Instr} {aux : Int} {S a r : List Value} {H : AH} (h : cal P m ins aux S k n H = some (m', a, r)) : aux = (m' : Int) ∧ kindOk ins (kd P m') = true ∧ may P m m' a r k n H = true ∧ S = a.reverse ++ r := by
  have h1 : cal1 P m ins aux S k n H = some (m', a, r) := by
    unfold cal at h
    split at h <;> first | exact h | (cases h)
  unfold cal1 at h1
  split at h1
  · rename_i g
    cases h1
    exact ⟨by omega, g.2.1, g.2.2, by rw [List.reverse_reverse]; exact (List.take_append_drop ..).symm⟩
  · cases h1
end Sound
end Jvm.JX

namespace Jvm.JX
open Sem ClassFile Op Lib Jvm.Stand Jvm.Free Jvm.LawKit Jvm.RoadKit
section Sound
variable {P : Prog} {tb : List Jvm.Cond} {C : String} {fn : Nat → String × String} {F : List Nat} {nsl : Nat} {nm : Nat → MethodName} {bt : Nat → ByteArray} {R : List Nat} {top : Nat}
variable {l : Launch} {Z : State} {a0 : Array Value} {n0 : Nat}
theorem may_ok {m m' k n : Nat} {a r : List Value} {H : AH} (h : may P m m' a r k n H = true) : (Sym.laidSlots a).length ≤ ml P m' ∧ a.length = na P m' ∧ (rm P m').frames + 1 ≤ (rm P m).frames ∧ cs r + (ml P m' + 11) + (rm P m').locals ≤ (rm P m).locals ∧
    (((rm P m').cells = 0 ∧ (rm P m').slots = 0) ∨ (k + (rm P m').cells ≤ (rm P m).cells ∧ n + (rm P m').slots ≤ (rm P m).slots)) ∧ (kd P m' = 0 ∨ rcv H a = true) := by
  simpa [may, and_assoc] using h
theorem rcv_ok {H : AH} {a : List Value} (h : rcv H a = true) : ∃ b as, a = .ref b :: as ∧ isO H b = true := by
  unfold rcv at h
  split at h
  · exact ⟨_, _, rfl, h⟩
  · cases h
set_option maxHeartbeats 1000000 in
theorem call_go {m pc len k n m' : Nat} {aux : Int} {L : List Slot} {S a r : List Value} {H H1 : AH} {ins : Instr} {v1 : Option Value} {p : Program} {e : Env} {s : State} {mid : MethodId} {args : Array Value} {below : List Frame} {meth : Method} {c : Code} {T : State} {locs : List Loc}
    (hG : Good P tb C fn F nsl nm bt R top) (hw : ∀ d ∈ tb, d.before a0 Z = true) (hm : m ∈ R) (hrow : P.1 m pc = some (ins, len, aux)) (hc : cal P m ins aux S k n H = some (m', a, r)) (hS : m' ∈ R → Says P C fn F nm bt l Z n0 m' 0 (ent P m' a) [] 0 0 H v1 H1)
    (X : Stand p l e (rm P m) s mid args below meth c T locs k n) (hx : p.tables.exec = Jvm.exec) (hZ : Z.Warmed39 s.vm)
    (hby : c.code = bt m) (hml : c.maxLocals = ml P m) (hown : s.vm.findClass (nm m).cls = some mid.cls) (hL : L.length = ml P m) (rr : RelH C fn F Z n0 T.heap H) (N : Fr n0 locs) (hk : k ≤ (rm P m).cells) (hn : n ≤ (rm P m).slots) :
    Go C fn F Z n0 p l e (rm P m) s mid args below meth c (T.setTop (mkF mid pc L.toArray S)) (ml P m) (pc + len, L, v1.toList ++ r, k + (rm P m').cells, n + (rm P m').slots, H1) := by
  obtain ⟨hd, hl, ho⟩ := (hG.2.2.2.2.1 m hm).2.2 pc ins len aux hrow
  replace hd := hb hby hd
  obtain ⟨e1, e2, e3, e4⟩ := cal_ok hc
  obtain ⟨y1, y2, y3, y4, y5, y6⟩ := may_ok e3
  have hnt : m' ≠ top := fun q => by
    have := hG.2.2.2.2.2.2 m hm pc ins len aux hrow (by rw [e1, q])
    rw [q, this] at e2; cases e2
  have y5' : k + (rm P m').cells ≤ (rm P m).cells ∧ n + (rm P m').slots ≤ (rm P m).slots := by rcases y5 with ⟨q1, q2⟩ | q <;> omega
  have hsize : (mkF mid pc L.toArray S).locals.size = c.maxLocals := by rw [hml, ← hL]; simp
  have hcs : 2 * (mkF mid pc L.toArray S).monitorRoom + (r.map fun v => v.category).sum ≤ cs r := by show 2 * 0 + _ ≤ _; exact Nat.le_of_eq (Nat.zero_add _)
  subst e1
  cases ins with
  | invokevirtual ix =>
    have hl : len = 3 := hl
    subst hl
    obtain ⟨mR, lnk⟩ := ho
    rw [Int.toNat_natCast] at mR lnk
    obtain ⟨c1, c2, ⟨ps, rr0, c3, c4⟩, c5, c6, c7, c8, c9⟩ := hG.2.2.2.2.2.1 m' mR hnt
    have hk0 : kd P m' ≠ 0 := fun q => by rw [q] at e2; cases e2
    obtain ⟨hcls, hinst⟩ := c6 hk0
    obtain ⟨b, as, rfl, hb⟩ := rcv_ok (y6.resolve_left hk0)
    obtain ⟨Eb, -⟩ := rr.obj hb
    have hlen : as.length = ps.length := by rw [if_neg hk0] at c4; simp only [List.length_cons] at y2; omega
    have eS : S = as.reverse ++ .ref b :: r := by rw [e4]; simp
    subst eS
    obtain ⟨pn, hy, -⟩ := hG.2.2.2.2.1 m' mR
    have BK := backOf (Q := fun v' h' L' => v' = v1 ∧ Fr n0 L' ∧ RelH C fn F Z n0 h' H1) (R := rm P m) (W := cs r) (p := p) (e := e) (below := below) (s := s) (args := args) (len := 3) (met_of [] pn y1 rr (hS mR)) hZ (hw _ c1) (hw _ c2) y3 y4
    have hkk : kd P m' = 1 ∨ kd P m' = 2 := by simpa [kindOk] using e2
    rcases hkk with hkk | hkk
    · obtain ⟨d1, d2⟩ := c7 hkk
      obtain ⟨cB, kB, q1, q2, q3⟩ := isOf (T := T) hZ rfl Eb
      obtain ⟨v, vm1, ⟨T1, L1, k1, n1⟩, -, X1, ⟨Lc, hQ, l1, z1, z2⟩, st⟩ := X.virtualBack hx (y := nm m') (z := nm m') hown (mvT hZ (hw _ lnk)) (mvT hZ (hw _ d1)) (notFace_of_selects (args := #[]) (mvT hZ (hw _ d2))) (mvT hZ (hw _ d2)) (mvT hZ (hw _ hinst)) hy BK q1 q3 (g := mkF mid pc L.toArray (as.reverse ++ .ref b :: r)) rfl hsize (Steps.refl _) (argsL := as) (rest := r) (lenOf c3 hlen) rfl hcs hd (fun _ _ => ⟨rfl, rfl, y5'.1, y5'.2⟩)
      dsimp only [Pt.U, Pt.locs, Pt.cells, Pt.slots] at X1 l1 z1 z2 st hQ
      subst l1 z1 z2
      obtain ⟨rfl, N1, r1⟩ := hQ
      exact ⟨T1, _, X1, r1, Fr.app N N1, y5'.1, y5'.2, hL, fun t g => st.trans g⟩
    · obtain ⟨ci, ki, i1, i2, i3, i4, -⟩ := Cond.instantiable_spec (show (Jvm.Cond.instantiable C nsl).before args s = true from mv hZ (hw _ hG.1))
      have hni : ki.isInterface = false := (Bool.or_eq_false_iff.mp i4).1
      have hpriv := Cond.privateMethod_at (mvP hZ (hw _ (c8 hkk)) (args := #[]))
      have hsel : (Jvm.Cond.selects (nm m').cls (nm m') (nm m')).before args s = true := selects_self_of_private (by rw [hcls]; exact i1) i2 hni hpriv (mvT hZ (hw _ hinst)) hy
      obtain ⟨cl, hcl, hcl'⟩ := Eb.cell
      obtain ⟨v, vm1, ⟨T1, L1, k1, n1⟩, -, X1, ⟨Lc, hQ, l1, z1, z2⟩, st⟩ := X.privateBack hx (y := nm m') hown (mvT hZ (hw _ lnk)) (mvT hZ (hw _ hinst)) hsel hpriv (mvT hZ (hw _ c1)) hy BK (g := mkF mid pc L.toArray (as.reverse ++ .ref b :: r)) rfl hsize (Steps.refl _) (a := b) hcl hcl' (argsL := as) (rest := r) (lenOf c3 hlen) rfl hcs hd (fun _ _ => ⟨rfl, rfl, y5'.1, y5'.2⟩)
      dsimp only [Pt.U, Pt.locs, Pt.cells, Pt.slots] at X1 l1 z1 z2 st hQ
      subst l1 z1 z2
      obtain ⟨rfl, N1, r1⟩ := hQ
      exact ⟨T1, _, X1, r1, Fr.app N N1, y5'.1, y5'.2, hL, fun t g => st.trans g⟩
  | invokestatic ix =>
    have hl : len = 3 := hl
    subst hl
    obtain ⟨mR, lnk⟩ := ho
    rw [Int.toNat_natCast] at mR lnk
    obtain ⟨c1, c2, ⟨ps, rr0, c3, c4⟩, c5, c6, c7, c8, c9⟩ := hG.2.2.2.2.2.1 m' mR hnt
    have hk0 : kd P m' = 0 := by simpa [kindOk] using e2
    have hlen : a.length = ps.length := by rw [if_pos hk0] at c4; omega
    subst e4
    obtain ⟨pn, hy, -⟩ := hG.2.2.2.2.1 m' mR
    have BK := backOf (Q := fun v' h' L' => v' = v1 ∧ Fr n0 L' ∧ RelH C fn F Z n0 h' H1) (R := rm P m) (W := cs r) (p := p) (e := e) (below := below) (s := s) (args := args) (len := 3) (met_of [] pn y1 rr (hS mR)) hZ (hw _ c1) (hw _ c2) y3 y4
    obtain ⟨v, vm1, ⟨T1, L1, k1, n1⟩, -, X1, ⟨Lc, hQ, l1, z1, z2⟩, st⟩ := Jvm.LawKit.callS X hx (y := nm m') hown (mvT hZ (hw _ lnk)) (mvT hZ (hw _ (c5 hk0))) (mvT hZ (hw _ c2)) (mvT hZ (hw _ c1)) hy BK (g := mkF mid pc L.toArray (a.reverse ++ r)) rfl hsize (argsL := a) (rest := r) (lenOf c3 hlen) rfl hcs hd (fun _ _ => ⟨rfl, rfl, y5'.1, y5'.2⟩)
    dsimp only [Pt.U, Pt.locs, Pt.cells, Pt.slots] at X1 l1 z1 z2 st hQ
    subst l1 z1 z2
    obtain ⟨rfl, N1, r1⟩ := hQ
    exact ⟨T1, _, X1, r1, Fr.app N N1, y5'.1, y5'.2, hL, fun t g => st t g⟩
  | invokespecial ix =>
    have hl : len = 3 := hl
    subst hl
    obtain ⟨mR, lnk⟩ := ho.2 (by omega)
    rw [Int.toNat_natCast] at mR lnk
    obtain ⟨c1, c2, ⟨ps, rr0, c3, c4⟩, c5, c6, c7, c8, c9⟩ := hG.2.2.2.2.2.1 m' mR hnt
    have hk3 : kd P m' = 3 := by simpa [kindOk] using e2
    have hk0 : kd P m' ≠ 0 := by omega
    obtain ⟨hcls, hinst⟩ := c6 hk0
    obtain ⟨hn3, hr3⟩ := c9 hk3
    obtain ⟨b, as, rfl, hb⟩ := rcv_ok (y6.resolve_left hk0)
    have hlen : as.length = ps.length := by rw [if_neg hk0] at c4; simp only [List.length_cons] at y2; omega
    have eS : S = as.reverse ++ .ref b :: r := by rw [e4]; simp
    subst eS
    obtain ⟨pn, hy, -⟩ := hG.2.2.2.2.1 m' mR
    have BK := backOf (Q := fun v' h' L' => v' = v1 ∧ Fr n0 L' ∧ RelH C fn F Z n0 h' H1) (R := rm P m) (W := cs r) (p := p) (e := e) (below := below) (s := s) (args := args) (len := 3) (met_of [] pn y1 rr (hS mR)) hZ (hw _ c1) (hw _ c2) y3 y4
    rw [hr3] at c1
    obtain ⟨v, vm1, ⟨T1, L1, k1, n1⟩, -, X1, ⟨Lc, hQ, l1, z1, z2⟩, st⟩ := X.specialBack hx (y := nm m') hn3 hown (mvT hZ (hw _ lnk)) (mvT hZ (hw _ hinst)) (mvT hZ (hw _ c1)) hy BK (g := mkF mid pc L.toArray (as.reverse ++ .ref b :: r)) rfl hsize (Steps.refl _) (a := b) (argsL := as) (rest := r) (lenOf c3 hlen) rfl hcs hd (fun _ _ => ⟨rfl, rfl, y5'.1, y5'.2⟩)
    dsimp only [Pt.U, Pt.locs, Pt.cells, Pt.slots] at X1 l1 z1 z2 st hQ
    subst l1 z1 z2
    obtain ⟨rfl, N1, r1⟩ := hQ
    exact ⟨T1, _, X1, r1, Fr.app N N1, y5'.1, y5'.2, hL, fun t g => st.trans g⟩
  | _ => cases e2
theorem sound (hG : Good P tb C fn F nsl nm bt R top) (hw : ∀ d ∈ tb, d.before a0 Z = true) : ∀ (f m : Nat), m ∈ R → ∀ (pc : Nat) (L : List Slot) (S : List Value) (k n : Nat) (H : AH) (v : Option Value) (H' : AH), run P f m pc L S k n H = some (v, H') → Says P C fn F nm bt l Z n0 m pc L S k n H v H' := by
  intro f
  induction f with
  | zero => intro m _ pc L S k n H v H' h; cases h
  | succ f ih =>
    intro m hm pc L S k n H v H' h p e s mid args below meth c T locs X hx hZ hby hml hown hnm hret hL r N hk hn
    rw [run_succ] at h
    cases hd : P.1 m pc with
    | none => rw [hd] at h; cases h
    | some d =>
      obtain ⟨ins, len, aux⟩ := d
      rw [hd] at h
      simp only at h
      cases hr : ret P m ins S with
      | some v1 =>
        rw [hr] at h
        cases h
        obtain ⟨hdec, hl, -⟩ := (hG.2.2.2.2.1 m hm).2.2 pc ins len aux hd
        replace hdec := hb hby hdec
        rcases ret_ok hr with ⟨q1, rfl, rfl, q0⟩ | ⟨t, w, rest, q1, rfl, rfl, q4, q5⟩
        · have hl : len = 1 := hl
          subst hl
          exact ⟨T, locs, k, n, X, r, N, hk, hn, fun _ => rfl, fun fs g => by subst q0; exact X.returnOut hx (hret.trans q1) hdec g⟩
        · refine ⟨T, locs, k, n, X, r, N, hk, hn, fun q => absurd (q1.symm.trans q) (by simp), fun fs g => ?_⟩
          have hl1 : len = 1 := by
            rcases q5 with ⟨rfl, -⟩ | ⟨rfl, -⟩ <;> exact hl
          subst hl1
          exact retOut X hx (hret.trans q1) q4 (q5.elim (fun u => Or.inl u) (fun u => Or.inr (Or.inl u))) hdec g
      | none =>
        rw [hr] at h
        simp only at h
        cases hc : cal P m ins aux S k n H with
        | some cc =>
          obtain ⟨m', a, rs⟩ := cc
          rw [hc] at h
          simp only at h
          cases hq : run P f m' 0 (ent P m' a) [] 0 0 H with
          | none => rw [hq] at h; cases h
          | some q =>
            obtain ⟨v1, H1⟩ := q
            rw [hq] at h
            obtain ⟨T1, locs1, X1, r1, N1, hk1, hn1, hL1, st⟩ := call_go hG hw hm hd hc (fun mR => ih m' mR _ _ _ _ _ _ _ _ hq) X hx hZ hby hml hown hL r N hk hn
            exact (ih m hm _ _ _ _ _ _ _ _ h p e s mid args below meth c T1 locs1 X1 hx hZ hby hml hown hnm hret hL1 r1 N1 hk1 hn1).back st
        | none =>
          rw [hc] at h
          simp only at h
          cases hs : stp P m ins len aux pc L S k n H with
          | none => rw [hs] at h; cases h
          | some q =>
            rw [hs] at h
            obtain ⟨T1, locs1, X1, r1, N1, hk1, hn1, hL1, st⟩ := stp_go hG hw hm hd hs X hx hZ hby hml hown hnm hL r N hk hn
            exact (ih m hm _ _ _ _ _ _ _ _ h p e s mid args below meth c T1 locs1 X1 hx hZ hby hml hown hnm hret hL1 r1 N1 hk1 hn1).back st
theorem law_met (hG : Good P tb C fn F nsl nm bt R top) (hw : ∀ d ∈ tb, d.before a0 Z = true) {as : List Value} {H : AH} {h : Heap} {Q : Option Value → AH → Prop} (ws : List Jvm.Cond) (ht : top ∈ R) (hl : (Sym.laidSlots as).length ≤ ml P top) (r : RelH C fn F Z n0 h H) (hC : Cl P top as H Q) :
    MetFree l (nm top) (head1 (Jvm.Cond.code (nm top) (bt top) (ml P top) (rt P top) :: ws) (rm P top)) (fun a U => a = as.toArray ∧ Z.Warmed39 U.vm ∧ U.heap = h) (fun _ _ _ _ _ => True)
      (fun _ U o U' => ∃ v' L, o = .returned v' ∧ (Fr n0 L ∧ ∃ H', Q v' H') ∧ FrameEnd U o U' L (rm P top).cells (rm P top).slots) := by
  obtain ⟨f, v, H', h1, h2⟩ := hC
  have hM := met_of (l := l) (h := h) ws (hG.2.2.2.2.1 top ht).1 hl r (sound hG hw f top ht _ _ _ _ _ _ _ _ h1)
  intro p e ha hc hk s m args below hf happ hP hK
  obtain ⟨n, o, q1, q2, q3, v', L, q4, ⟨q5, q6, q7⟩, q8⟩ := hM p e ha hc hk s m args below hf happ hP hK
  exact ⟨n, o, q1, q2, q3, v', L, q4, ⟨q6, H', by rw [q5]; exact h2⟩, q8⟩
end Sound
end Jvm.JX
namespace Jvm.JX
open Sem ClassFile Op Lib Jvm.Stand Jvm.Free Jvm.LawKit Jvm.RoadKit
theorem fa0 {α : Type} {p : α → Prop} : ∀ x ∈ ([] : List α), p x := fun _ q => nomatch q
theorem faS {α : Type} {p : α → Prop} {y : α} {L : List α} (q : p y) (r : ∀ x ∈ L, p x) : ∀ x ∈ y :: L, p x := fun x z => (List.mem_cons.mp z).elim (fun u => u ▸ q) (r x)
def rowChk (FL ML : List (Nat × Nat × Nat)) (KI KJ : List (Nat × Nat × Int)) (AT : List FieldType) (WF : List Nat) (nsl nw : Nat) (own : Nat) (ini : Bool) (ins : Instr) (aux : Int) : Bool :=
  match ins with
  | .getfield i => FL.contains (own, i, aux.toNat)
  | .putfield i => FL.contains (own, i, aux.toNat) && (WF.contains aux.toNat || ini)
  | .new i => decide (aux.toNat = nsl) && decide (own = 1) && decide (i = nw)
  | .newarray t => decide (newarray.typeOf t ∈ AT)
  | .ldc i => KI.contains (own, i, aux)
  | .ldc2_w i => KJ.contains (own, i, aux)
  | .invokevirtual i => ML.contains (own, i, aux.toNat)
  | .invokestatic i => ML.contains (own, i, aux.toNat)
  | .invokespecial i => if aux = -1 then decide (own = 0) && decide (i = 1) else ML.contains (own, i, aux.toNat)
  | _ => true
def rowOne (FL ML : List (Nat × Nat × Nat)) (KI KJ : List (Nat × Nat × Int)) (AT : List FieldType) (WF : List Nat) (nsl nw : Nat) (bt : Nat → ByteArray) (own : Nat → Nat) (ini : Nat → Bool) (m : Nat) (r : Row) : Bool :=
  decide (decode (bt m) r.1 = .ok (r.2.1, r.2.2.1)) && decide (r.2.2.1 = ilen2 r.2.1 r.2.2.1) && rowChk FL ML KI KJ AT WF nsl nw (own m) (ini m) r.2.1 r.2.2.2
theorem all_td {α : Type} {p : α → Bool} {l : List α} (c : Nat) (h1 : (l.take c).all p = true) (h2 : (l.drop c).all p = true) : l.all p = true := by
  rw [← List.take_append_drop c l, List.all_append, h1, h2]; rfl
theorem all_c {α : Type} {p : α → Bool} {l : List α} {a : α} (h1 : p a = true) (h2 : l.all p = true) : (a :: l).all p = true := by
  rw [List.all_cons, h1, h2]; rfl
theorem all_n {α : Type} {p : α → Bool} : ([] : List α).all p = true := rfl
theorem lookup_mem {L : List Row} {pc : Nat} {d : Instr × Nat × Int} (h : L.lookup pc = some d) : (pc, d) ∈ L := by
  induction L with
  | nil => cases h
  | cons x L ih =>
    obtain ⟨k, v⟩ := x
    rw [List.lookup_cons] at h
    by_cases e : pc = k
    · subst e; simp at h; subst h; exact List.mem_cons_self ..
    · have : (pc == k) = false := by simpa using e
      rw [this] at h; exact List.mem_cons_of_mem _ (ih h)
theorem row_ok {P : Prog} {tb : List Jvm.Cond} {C : String} {fn : Nat → String × String} {F : List Nat} {nsl nw : Nat} {nm : Nat → MethodName} {R : List Nat} {cn : Nat → String} {own : Nat → Nat} {ini : Nat → Bool}
    {FL ML : List (Nat × Nat × Nat)} {KI KJ : List (Nat × Nat × Int)} {AT : List FieldType} {WF : List Nat} {m : Nat} {ins : Instr} {aux : Int}
    (hown : (nm m).cls = cn (own m)) (hini : ini m = true → (nm m).cls = C ∧ (nm m).name = "<init>")
    (hFL : ∀ t ∈ FL, t.2.2 ∈ F ∧ Jvm.Cond.fieldLink (cn t.1) t.2.1 C (fn t.2.2).1 (fn t.2.2).2 ∈ tb) (hWF : ∀ k ∈ WF, Jvm.Cond.lays C C (fn k).1 (fn k).2 ∈ tb)
    (hML : ∀ t ∈ ML, t.2.2 ∈ R ∧ Jvm.Cond.methodLink (cn t.1) t.2.1 (nm t.2.2) ∈ tb) (hKI : ∀ t ∈ KI, Jvm.Cond.constant (cn t.1) t.2.1 (Int32.ofInt t.2.2) ∈ tb) (hKJ : ∀ t ∈ KJ, Jvm.Cond.constantLong (cn t.1) t.2.1 (Int64.ofInt t.2.2) ∈ tb)
    (hAT : ∀ t ∈ AT, Jvm.Cond.arrayClass t ∈ tb) (hN : Jvm.Cond.classLink (cn 1) nw C ∈ tb)
    (hO : Jvm.Cond.methodLink (cn 0) 1 Lib.objectInit ∈ tb ∧ Jvm.Cond.instanceMethod Lib.objectInit ∈ tb ∧ Jvm.Cond.code Lib.objectInit ⟨#[0xb1]⟩ 1 none ∈ tb)
    (h : rowChk FL ML KI KJ AT WF nsl nw (own m) (ini m) ins aux = true) : RowOk P tb C fn F nsl nm R m ins aux := by
  cases ins <;> first | trivial | skip
  case getfield i => have q := hFL _ (List.contains_iff_mem.mp h); exact ⟨q.1, by rw [hown]; exact q.2⟩
  case putfield i =>
    simp only [rowChk, Bool.and_eq_true, Bool.or_eq_true] at h
    have q := hFL _ (List.contains_iff_mem.mp h.1)
    exact ⟨q.1, by rw [hown]; exact q.2, h.2.imp (fun u => hWF _ (List.contains_iff_mem.mp u)) hini⟩
  case new i =>
    simp only [rowChk, Bool.and_eq_true, decide_eq_true_eq] at h
    obtain ⟨⟨h1, h2⟩, h3⟩ := h
    exact ⟨h1, by rw [hown, h2, h3]; exact hN⟩
  case newarray t => exact hAT _ (of_decide_eq_true h)
  case ldc i => have q := hKI _ (List.contains_iff_mem.mp h); show _ ∈ tb; rw [hown]; exact q
  case ldc2_w i => have q := hKJ _ (List.contains_iff_mem.mp h); show _ ∈ tb; rw [hown]; exact q
  case invokevirtual i => have q := hML _ (List.contains_iff_mem.mp h); exact ⟨q.1, by rw [hown]; exact q.2⟩
  case invokestatic i => have q := hML _ (List.contains_iff_mem.mp h); exact ⟨q.1, by rw [hown]; exact q.2⟩
  case invokespecial i =>
    simp only [rowChk] at h
    refine ⟨fun e => ?_, fun e => ?_⟩
    · rw [if_pos e] at h
      simp only [Bool.and_eq_true, decide_eq_true_eq] at h
      rw [hown, h.1, h.2]; exact hO
    · rw [if_neg (by omega)] at h
      have q := hML _ (List.contains_iff_mem.mp h)
      exact ⟨q.1, by rw [hown]; exact q.2⟩
theorem rel_H1 {C : String} {fn : Nat → String × String} {F : List Nat} {s : State} {a : Addr} {cl : Cell} (hf : Fit s) (A : Arr s s.heap a cl .int) (hl : cl.slots.size < 2 ^ 31) :
    ∃ f : Nat → Int32, RelH C fn F s s.heap.size s.heap (H1 s.heap.size a cl.slots.size f) := by
  refine ⟨fun i => match cl.slots[i]? with | some (.int x) => x | _ => 0, rfl, Nat.le_refl _, fun b => ?_⟩
  simp only [H1]
  by_cases e : b = a
  · subst e
    simp only [if_true]
    refine ⟨fun q => (by cases q), hl, cl, A, rfl, fun i hi => ?_⟩
    have hi : i < cl.slots.size := hi
    have hj := idx_in hi hl
    obtain ⟨v, q1, q2⟩ := elem_fit hf A hj
    have e2 : (i.toInt32).toNatClampNeg = i := by
      have := len_toInt (n := i) (by omega)
      simp only [Int32.toNatClampNeg, this]; omega
    rw [e2] at q1
    obtain ⟨x, rfl⟩ := fit_I q2 (Or.inl rfl)
    show _ = some (Value.int (match cl.slots[i]? with | some (.int x) => x | _ => 0))
    rw [q1]
  · simp only [e, if_false]; exact ⟨fun q => (by cases q), trivial⟩
end Jvm.JX

namespace Jvm.JX.Pj
open Jvm Jvm.ClassFile Sem Op Lib Jvm.JX
def r1 : List Row := [(0, .aload_n 0, 1, 0), (1, .invokespecial 1, 3, (-1)), (4, .aload_n 0, 1, 0), (5, .sipush 128, 3, 0), (8, .newarray .int, 2, 0), (10, .putfield 7, 3, 1), (13, .aload_n 0, 1, 0), (14, .sipush 128, 3, 0), (17, .newarray .int, 2, 0), (19, .putfield 13, 3, 2), (22, .aload_n 0, 1, 0), (23, .sipush 128, 3, 0), (26, .newarray .int, 2, 0), (28, .putfield 16, 3, 3), (31, .aload_n 0, 1, 0), (32, .sipush 128, 3, 0), (35, .newarray .boolean, 2, 0), (37, .putfield 19, 3, 4), (40, .aload_n 0, 1, 0), (41, .sipush 128, 3, 0), (44, .newarray .boolean, 2, 0), (46, .putfield 23, 3, 5), (49, .aload_n 0, 1, 0), (50, .sipush 1024, 3, 0), (53, .newarray .int, 2, 0), (55, .putfield 26, 3, 6), (58, .aload_n 0, 1, 0), (59, .bipush 32, 2, 0), (61, .newarray .int, 2, 0), (63, .putfield 29, 3, 7), (66, .aload_n 0, 1, 0), (67, .bipush 32, 2, 0), (69, .newarray .boolean, 2, 0), (71, .putfield 32, 3, 8), (74, .aload_n 0, 1, 0), (75, .bipush 32, 2, 0), (77, .newarray .int, 2, 0), (79, .putfield 35, 3, 9), (82, .aload_n 0, 1, 0), (83, .bipush 32, 2, 0), (85, .newarray .int, 2, 0), (87, .putfield 38, 3, 10), (90, .aload_n 0, 1, 0), (91, .bipush 32, 2, 0), (93, .newarray .int, 2, 0), (95, .putfield 41, 3, 11), (98, .iload_n 1, 1, 0), (99, .istore_n 2, 1, 0), (100, .iload_n 2, 1, 0), (101, .iconst 2, 1, 0), (102, .if_icmp .ge 5, 3, 0), (105, .iconst 2, 1, 0), (106, .istore_n 2, 1, 0), (107, .iload_n 2, 1, 0), (108, .bipush 32, 2, 0), (110, .if_icmp .le 6, 3, 0), (113, .bipush 32, 2, 0), (115, .istore_n 2, 1, 0), (116, .aload_n 0, 1, 0), (117, .iload_n 2, 1, 0), (118, .putfield 44, 3, 0), (121, .aload_n 0, 1, 0), (122, .iconst 0, 1, 0), (123, .putfield 48, 3, 12), (126, .aload_n 0, 1, 0), (127, .iconst 0, 1, 0), (128, .putfield 51, 3, 13), (131, .aload_n 0, 1, 0), (132, .lconst 0, 1, 0), (133, .putfield 54, 3, 14), (136, .aload_n 0, 1, 0), (137, .iconst (-1), 1, 0), (138, .putfield 58, 3, 15), (141, .aload_n 0, 1, 0), (142, .iconst (-1), 1, 0), (143, .putfield 61, 3, 16), (146, .iconst 0, 1, 0), (147, .istore_n 3, 1, 0), (148, .iload_n 3, 1, 0), (149, .bipush 32, 2, 0), (151, .if_icmp .ge 16, 3, 0), (154, .aload_n 0, 1, 0), (155, .getfield 29, 3, 7), (158, .iload_n 3, 1, 0), (159, .iconst 0, 1, 0), (160, .iastore, 1, 0), (161, .iinc 3 1, 3, 0), (164, .goto (-16), 3, 0), (167, .aload_n 0, 1, 0), (168, .invokevirtual 64, 3, 29), (171, .return_, 1, 0)]
def r2 : List Row := [(0, .aload_n 0, 1, 0), (1, .iload_n 1, 1, 0), (2, .invokevirtual 67, 3, 39), (5, .ifCond .eq 11, 3, 0), (8, .aload_n 0, 1, 0), (9, .iload_n 2, 1, 0), (10, .invokevirtual 67, 3, 39), (13, .ifCond .ne 6, 3, 0), (16, .bipush (-2), 2, 0), (18, .ireturn, 1, 0), (19, .iload_n 1, 1, 0), (20, .iload_n 2, 1, 0), (21, .if_icmp .ne 6, 3, 0), (24, .bipush (-3), 2, 0), (26, .ireturn, 1, 0), (27, .aload_n 0, 1, 0), (28, .invokevirtual 71, 3, 22), (31, .istore 4, 2, 0), (33, .iload 4, 2, 0), (35, .iconst (-1), 1, 0), (36, .if_icmp .ne 6, 3, 0), (39, .bipush (-4), 2, 0), (41, .ireturn, 1, 0), (42, .aload_n 0, 1, 0), (43, .iload_n 3, 1, 0), (44, .invokevirtual 75, 3, 41), (47, .istore 5, 2, 0), (49, .aload_n 0, 1, 0), (50, .iload 4, 2, 0), (52, .iload_n 1, 1, 0), (53, .iload_n 2, 1, 0), (54, .iload 5, 2, 0), (56, .invokevirtual 79, 3, 23), (59, .aload_n 0, 1, 0), (60, .iload 4, 2, 0), (62, .invokevirtual 83, 3, 18), (65, .iload 4, 2, 0), (67, .ireturn, 1, 0)]
def r3 : List Row := [(0, .aload_n 0, 1, 0), (1, .iload_n 1, 1, 0), (2, .invokevirtual 87, 3, 5), (5, .ifCond .ne 5, 3, 0), (8, .iconst 0, 1, 0), (9, .ireturn, 1, 0), (10, .aload_n 0, 1, 0), (11, .getfield 23, 3, 5), (14, .iload_n 1, 1, 0), (15, .baload, 1, 0), (16, .ifCond .ne 16, 3, 0), (19, .aload_n 0, 1, 0), (20, .iload_n 1, 1, 0), (21, .invokevirtual 90, 3, 24), (24, .aload_n 0, 1, 0), (25, .iconst (-1), 1, 0), (26, .iconst (-1), 1, 0), (27, .invokevirtual 93, 3, 21), (30, .iconst 1, 1, 0), (31, .ireturn, 1, 0), (32, .aload_n 0, 1, 0), (33, .iload_n 1, 1, 0), (34, .invokevirtual 97, 3, 19), (37, .iconst 1, 1, 0), (38, .ireturn, 1, 0)]
def r4 : List Row := [(0, .aload_n 0, 1, 0), (1, .iload_n 1, 1, 0), (2, .invokevirtual 87, 3, 5), (5, .ifCond .ne 5, 3, 0), (8, .iconst 0, 1, 0), (9, .ireturn, 1, 0), (10, .aload_n 0, 1, 0), (11, .iload_n 2, 1, 0), (12, .invokevirtual 75, 3, 41), (15, .istore_n 3, 1, 0), (16, .aload_n 0, 1, 0), (17, .getfield 23, 3, 5), (20, .iload_n 1, 1, 0), (21, .baload, 1, 0), (22, .ifCond .eq 12, 3, 0), (25, .aload_n 0, 1, 0), (26, .iload_n 1, 1, 0), (27, .iload_n 3, 1, 0), (28, .invokevirtual 100, 3, 20), (31, .goto 15, 3, 0), (34, .aload_n 0, 1, 0), (35, .getfield 16, 3, 3), (38, .iload_n 1, 1, 0), (39, .iload_n 3, 1, 0), (40, .iastore, 1, 0), (41, .aload_n 0, 1, 0), (42, .iload_n 1, 1, 0), (43, .invokevirtual 83, 3, 18), (46, .iconst 1, 1, 0), (47, .ireturn, 1, 0)]
def r5 : List Row := [(0, .aload_n 0, 1, 0), (1, .iload_n 1, 1, 0), (2, .invokevirtual 103, 3, 40), (5, .ifCond .eq 16, 3, 0), (8, .aload_n 0, 1, 0), (9, .getfield 19, 3, 4), (12, .iload_n 1, 1, 0), (13, .baload, 1, 0), (14, .ifCond .eq 7, 3, 0), (17, .iconst 1, 1, 0), (18, .goto 4, 3, 0), (21, .iconst 0, 1, 0), (22, .ireturn, 1, 0)]
def r6 : List Row := [(0, .aload_n 0, 1, 0), (1, .iload_n 1, 1, 0), (2, .invokevirtual 103, 3, 40), (5, .ifCond .eq 25, 3, 0), (8, .aload_n 0, 1, 0), (9, .getfield 19, 3, 4), (12, .iload_n 1, 1, 0), (13, .baload, 1, 0), (14, .ifCond .eq 16, 3, 0), (17, .aload_n 0, 1, 0), (18, .getfield 23, 3, 5), (21, .iload_n 1, 1, 0), (22, .baload, 1, 0), (23, .ifCond .eq 7, 3, 0), (26, .iconst 1, 1, 0), (27, .goto 4, 3, 0), (30, .iconst 0, 1, 0), (31, .ireturn, 1, 0)]
def r7 : List Row := [(0, .aload_n 0, 1, 0), (1, .iload_n 1, 1, 0), (2, .invokevirtual 87, 3, 5), (5, .ifCond .ne 5, 3, 0), (8, .iconst (-1), 1, 0), (9, .ireturn, 1, 0), (10, .iload_n 2, 1, 0), (11, .ifCond .ne 10, 3, 0), (14, .aload_n 0, 1, 0), (15, .getfield 7, 3, 1), (18, .iload_n 1, 1, 0), (19, .iaload, 1, 0), (20, .ireturn, 1, 0), (21, .iload_n 2, 1, 0), (22, .iconst 1, 1, 0), (23, .if_icmp .ne 10, 3, 0), (26, .aload_n 0, 1, 0), (27, .getfield 13, 3, 2), (30, .iload_n 1, 1, 0), (31, .iaload, 1, 0), (32, .ireturn, 1, 0), (33, .iconst (-1), 1, 0), (34, .ireturn, 1, 0)]
def r8 : List Row := [(0, .aload_n 0, 1, 0), (1, .iload_n 1, 1, 0), (2, .invokevirtual 87, 3, 5), (5, .ifCond .ne 5, 3, 0), (8, .iconst 0, 1, 0), (9, .ireturn, 1, 0), (10, .aload_n 0, 1, 0), (11, .getfield 16, 3, 3), (14, .iload_n 1, 1, 0), (15, .iaload, 1, 0), (16, .ireturn, 1, 0)]
def r9 : List Row := [(0, .aload_n 0, 1, 0), (1, .getfield 48, 3, 12), (4, .ireturn, 1, 0)]
def r10 : List Row := [(0, .aload_n 0, 1, 0), (1, .getfield 54, 3, 14), (4, .lreturn, 1, 0)]
def r11 : List Row := [(0, .aload_n 0, 1, 0), (1, .getfield 51, 3, 13), (4, .ireturn, 1, 0)]
def r12 : List Row := [(0, .aload_n 0, 1, 0), (1, .getfield 44, 3, 0), (4, .aload_n 0, 1, 0), (5, .getfield 51, 3, 13), (8, .isub, 1, 0), (9, .ireturn, 1, 0)]
def r16 : List Row := [(0, .aload_n 0, 1, 0), (1, .getfield 58, 3, 15), (4, .ireturn, 1, 0)]
def r17 : List Row := [(0, .aload_n 0, 1, 0), (1, .getfield 61, 3, 16), (4, .ireturn, 1, 0)]
def r18 : List Row := [(0, .aload_n 0, 1, 0), (1, .aload_n 0, 1, 0), (2, .getfield 7, 3, 1), (5, .iload_n 1, 1, 0), (6, .iaload, 1, 0), (7, .iconst (-1), 1, 0), (8, .invokevirtual 106, 3, 30), (11, .pop, 1, 0), (12, .aload_n 0, 1, 0), (13, .getfield 13, 3, 2), (16, .iload_n 1, 1, 0), (17, .iaload, 1, 0), (18, .istore_n 2, 1, 0), (19, .aload_n 0, 1, 0), (20, .iload_n 2, 1, 0), (21, .invokevirtual 67, 3, 39), (24, .ifCond .eq 12, 3, 0), (27, .aload_n 0, 1, 0), (28, .getfield 32, 3, 8), (31, .iload_n 2, 1, 0), (32, .baload, 1, 0), (33, .ifCond .ne 15, 3, 0), (36, .aload_n 0, 1, 0), (37, .iload_n 1, 1, 0), (38, .invokevirtual 119, 3, 25), (41, .aload_n 0, 1, 0), (42, .iload_n 1, 1, 0), (43, .iconst (-1), 1, 0), (44, .invokevirtual 93, 3, 21), (47, .return_, 1, 0), (48, .aload_n 0, 1, 0), (49, .iload_n 2, 1, 0), (50, .invokevirtual 110, 3, 32), (53, .istore_n 3, 1, 0), (54, .iload_n 3, 1, 0), (55, .iconst (-1), 1, 0), (56, .if_icmp .eq 29, 3, 0), (59, .aload_n 0, 1, 0), (60, .iload_n 1, 1, 0), (61, .iload_n 3, 1, 0), (62, .invokevirtual 122, 3, 36), (65, .ifCond .eq 20, 3, 0), (68, .aload_n 0, 1, 0), (69, .iload_n 3, 1, 0), (70, .invokevirtual 126, 3, 26), (73, .aload_n 0, 1, 0), (74, .iload_n 1, 1, 0), (75, .invokevirtual 119, 3, 25), (78, .aload_n 0, 1, 0), (79, .iload_n 1, 1, 0), (80, .iload_n 3, 1, 0), (81, .invokevirtual 93, 3, 21), (84, .return_, 1, 0), (85, .aload_n 0, 1, 0), (86, .iconst (-1), 1, 0), (87, .iconst (-1), 1, 0), (88, .invokevirtual 93, 3, 21), (91, .return_, 1, 0)]
def r19 : List Row := [(0, .aload_n 0, 1, 0), (1, .iload_n 1, 1, 0), (2, .invokevirtual 126, 3, 26), (5, .aload_n 0, 1, 0), (6, .iload_n 1, 1, 0), (7, .invokevirtual 90, 3, 24), (10, .aload_n 0, 1, 0), (11, .aload_n 0, 1, 0), (12, .getfield 7, 3, 1), (15, .iload_n 1, 1, 0), (16, .iaload, 1, 0), (17, .iconst (-1), 1, 0), (18, .invokevirtual 106, 3, 30), (21, .pop, 1, 0), (22, .aload_n 0, 1, 0), (23, .invokevirtual 116, 3, 33), (26, .istore_n 2, 1, 0), (27, .iload_n 2, 1, 0), (28, .iconst (-1), 1, 0), (29, .if_icmp .eq 8, 3, 0), (32, .aload_n 0, 1, 0), (33, .iload_n 2, 1, 0), (34, .invokevirtual 119, 3, 25), (37, .aload_n 0, 1, 0), (38, .iload_n 2, 1, 0), (39, .iload_n 1, 1, 0), (40, .invokevirtual 93, 3, 21), (43, .return_, 1, 0)]
def r20 : List Row := [(0, .aload_n 0, 1, 0), (1, .iload_n 1, 1, 0), (2, .invokevirtual 126, 3, 26), (5, .aload_n 0, 1, 0), (6, .getfield 16, 3, 3), (9, .iload_n 1, 1, 0), (10, .iload_n 2, 1, 0), (11, .iastore, 1, 0), (12, .aload_n 0, 1, 0), (13, .aload_n 0, 1, 0), (14, .getfield 7, 3, 1), (17, .iload_n 1, 1, 0), (18, .iaload, 1, 0), (19, .iconst (-1), 1, 0), (20, .invokevirtual 106, 3, 30), (23, .pop, 1, 0), (24, .aload_n 0, 1, 0), (25, .invokevirtual 116, 3, 33), (28, .istore_n 3, 1, 0), (29, .iload_n 3, 1, 0), (30, .iconst (-1), 1, 0), (31, .if_icmp .eq 8, 3, 0), (34, .iload_n 3, 1, 0), (35, .iload_n 1, 1, 0), (36, .if_icmp .ne 15, 3, 0), (39, .aload_n 0, 1, 0), (40, .iload_n 1, 1, 0), (41, .invokevirtual 119, 3, 25), (44, .aload_n 0, 1, 0), (45, .iconst (-1), 1, 0), (46, .iconst (-1), 1, 0), (47, .invokevirtual 93, 3, 21), (50, .return_, 1, 0), (51, .aload_n 0, 1, 0), (52, .iload_n 3, 1, 0), (53, .invokevirtual 119, 3, 25), (56, .aload_n 0, 1, 0), (57, .iload_n 3, 1, 0), (58, .iload_n 1, 1, 0), (59, .invokevirtual 93, 3, 21), (62, .return_, 1, 0)]
def r21 : List Row := [(0, .aload_n 0, 1, 0), (1, .iload_n 1, 1, 0), (2, .putfield 58, 3, 15), (5, .aload_n 0, 1, 0), (6, .iload_n 2, 1, 0), (7, .putfield 61, 3, 16), (10, .return_, 1, 0)]
def r22 : List Row := [(0, .iconst 0, 1, 0), (1, .istore_n 1, 1, 0), (2, .iload_n 1, 1, 0), (3, .sipush 128, 3, 0), (6, .if_icmp .ge 20, 3, 0), (9, .aload_n 0, 1, 0), (10, .getfield 19, 3, 4), (13, .iload_n 1, 1, 0), (14, .baload, 1, 0), (15, .ifCond .ne 5, 3, 0), (18, .iload_n 1, 1, 0), (19, .ireturn, 1, 0), (20, .iinc 1 1, 3, 0), (23, .goto (-21), 3, 0), (26, .iconst (-1), 1, 0), (27, .ireturn, 1, 0)]
def r23 : List Row := [(0, .aload_n 0, 1, 0), (1, .getfield 7, 3, 1), (4, .iload_n 1, 1, 0), (5, .iload_n 2, 1, 0), (6, .iastore, 1, 0), (7, .aload_n 0, 1, 0), (8, .getfield 13, 3, 2), (11, .iload_n 1, 1, 0), (12, .iload_n 3, 1, 0), (13, .iastore, 1, 0), (14, .aload_n 0, 1, 0), (15, .getfield 16, 3, 3), (18, .iload_n 1, 1, 0), (19, .iload 4, 2, 0), (21, .iastore, 1, 0), (22, .aload_n 0, 1, 0), (23, .getfield 19, 3, 4), (26, .iload_n 1, 1, 0), (27, .iconst 1, 1, 0), (28, .bastore, 1, 0), (29, .aload_n 0, 1, 0), (30, .getfield 23, 3, 5), (33, .iload_n 1, 1, 0), (34, .iconst 0, 1, 0), (35, .bastore, 1, 0), (36, .aload_n 0, 1, 0), (37, .dup, 1, 0), (38, .getfield 48, 3, 12), (41, .iconst 1, 1, 0), (42, .iadd, 1, 0), (43, .putfield 48, 3, 12), (46, .return_, 1, 0)]
def r24 : List Row := [(0, .aload_n 0, 1, 0), (1, .getfield 19, 3, 4), (4, .iload_n 1, 1, 0), (5, .iconst 0, 1, 0), (6, .bastore, 1, 0), (7, .aload_n 0, 1, 0), (8, .getfield 23, 3, 5), (11, .iload_n 1, 1, 0), (12, .iconst 0, 1, 0), (13, .bastore, 1, 0), (14, .aload_n 0, 1, 0), (15, .dup, 1, 0), (16, .getfield 48, 3, 12), (19, .iconst 1, 1, 0), (20, .isub, 1, 0), (21, .putfield 48, 3, 12), (24, .return_, 1, 0)]
def r25 : List Row := [(0, .aload_n 0, 1, 0), (1, .iload_n 1, 1, 0), (2, .invokevirtual 103, 3, 40), (5, .ifCond .eq 12, 3, 0), (8, .aload_n 0, 1, 0), (9, .getfield 23, 3, 5), (12, .iload_n 1, 1, 0), (13, .baload, 1, 0), (14, .ifCond .eq 4, 3, 0), (17, .return_, 1, 0), (18, .aload_n 0, 1, 0), (19, .getfield 23, 3, 5), (22, .iload_n 1, 1, 0), (23, .iconst 1, 1, 0), (24, .bastore, 1, 0), (25, .aload_n 0, 1, 0), (26, .dup, 1, 0), (27, .getfield 51, 3, 13), (30, .iconst 1, 1, 0), (31, .iadd, 1, 0), (32, .putfield 51, 3, 13), (35, .aload_n 0, 1, 0), (36, .dup, 1, 0), (37, .getfield 54, 3, 14), (40, .aload_n 0, 1, 0), (41, .getfield 16, 3, 3), (44, .iload_n 1, 1, 0), (45, .iaload, 1, 0), (46, .i2l, 1, 0), (47, .ladd, 1, 0), (48, .putfield 54, 3, 14), (51, .aload_n 0, 1, 0), (52, .aload_n 0, 1, 0), (53, .getfield 7, 3, 1), (56, .iload_n 1, 1, 0), (57, .iaload, 1, 0), (58, .iload_n 1, 1, 0), (59, .invokevirtual 129, 3, 27), (62, .aload_n 0, 1, 0), (63, .aload_n 0, 1, 0), (64, .getfield 13, 3, 2), (67, .iload_n 1, 1, 0), (68, .iaload, 1, 0), (69, .iload_n 1, 1, 0), (70, .invokevirtual 129, 3, 27), (73, .return_, 1, 0)]
def r26 : List Row := [(0, .aload_n 0, 1, 0), (1, .iload_n 1, 1, 0), (2, .invokevirtual 103, 3, 40), (5, .ifCond .eq 12, 3, 0), (8, .aload_n 0, 1, 0), (9, .getfield 23, 3, 5), (12, .iload_n 1, 1, 0), (13, .baload, 1, 0), (14, .ifCond .ne 4, 3, 0), (17, .return_, 1, 0), (18, .aload_n 0, 1, 0), (19, .getfield 23, 3, 5), (22, .iload_n 1, 1, 0), (23, .iconst 0, 1, 0), (24, .bastore, 1, 0), (25, .aload_n 0, 1, 0), (26, .dup, 1, 0), (27, .getfield 51, 3, 13), (30, .iconst 1, 1, 0), (31, .isub, 1, 0), (32, .putfield 51, 3, 13), (35, .aload_n 0, 1, 0), (36, .dup, 1, 0), (37, .getfield 54, 3, 14), (40, .aload_n 0, 1, 0), (41, .getfield 16, 3, 3), (44, .iload_n 1, 1, 0), (45, .iaload, 1, 0), (46, .i2l, 1, 0), (47, .lsub, 1, 0), (48, .putfield 54, 3, 14), (51, .aload_n 0, 1, 0), (52, .aload_n 0, 1, 0), (53, .getfield 7, 3, 1), (56, .iload_n 1, 1, 0), (57, .iaload, 1, 0), (58, .iload_n 1, 1, 0), (59, .invokevirtual 132, 3, 28), (62, .aload_n 0, 1, 0), (63, .aload_n 0, 1, 0), (64, .getfield 13, 3, 2), (67, .iload_n 1, 1, 0), (68, .iaload, 1, 0), (69, .iload_n 1, 1, 0), (70, .invokevirtual 132, 3, 28), (73, .return_, 1, 0)]
def r27 : List Row := [(0, .iload_n 1, 1, 0), (1, .ifCond .lt 9, 3, 0), (4, .iload_n 1, 1, 0), (5, .bipush 32, 2, 0), (7, .if_icmp .lt 4, 3, 0), (10, .return_, 1, 0), (11, .aload_n 0, 1, 0), (12, .getfield 29, 3, 7), (15, .iload_n 1, 1, 0), (16, .iaload, 1, 0), (17, .ifCond .lt 14, 3, 0), (20, .aload_n 0, 1, 0), (21, .getfield 29, 3, 7), (24, .iload_n 1, 1, 0), (25, .iaload, 1, 0), (26, .bipush 32, 2, 0), (28, .if_icmp .lt 4, 3, 0), (31, .return_, 1, 0), (32, .aload_n 0, 1, 0), (33, .getfield 26, 3, 6), (36, .iload_n 1, 1, 0), (37, .bipush 32, 2, 0), (39, .imul, 1, 0), (40, .aload_n 0, 1, 0), (41, .getfield 29, 3, 7), (44, .iload_n 1, 1, 0), (45, .iaload, 1, 0), (46, .iadd, 1, 0), (47, .iload_n 2, 1, 0), (48, .iastore, 1, 0), (49, .aload_n 0, 1, 0), (50, .getfield 29, 3, 7), (53, .iload_n 1, 1, 0), (54, .dup2, 1, 0), (55, .iaload, 1, 0), (56, .iconst 1, 1, 0), (57, .iadd, 1, 0), (58, .iastore, 1, 0), (59, .return_, 1, 0)]
def r28 : List Row := [(0, .iload_n 1, 1, 0), (1, .ifCond .lt 9, 3, 0), (4, .iload_n 1, 1, 0), (5, .bipush 32, 2, 0), (7, .if_icmp .lt 4, 3, 0), (10, .return_, 1, 0), (11, .iload_n 1, 1, 0), (12, .bipush 32, 2, 0), (14, .imul, 1, 0), (15, .istore_n 3, 1, 0), (16, .iconst 0, 1, 0), (17, .istore 4, 2, 0), (19, .iload 4, 2, 0), (21, .aload_n 0, 1, 0), (22, .getfield 29, 3, 7), (25, .iload_n 1, 1, 0), (26, .iaload, 1, 0), (27, .if_icmp .ge 62, 3, 0), (30, .iload 4, 2, 0), (32, .bipush 32, 2, 0), (34, .if_icmp .ge 55, 3, 0), (37, .aload_n 0, 1, 0), (38, .getfield 26, 3, 6), (41, .iload_n 3, 1, 0), (42, .iload 4, 2, 0), (44, .iadd, 1, 0), (45, .iaload, 1, 0), (46, .iload_n 2, 1, 0), (47, .if_icmp .ne 36, 3, 0), (50, .aload_n 0, 1, 0), (51, .getfield 29, 3, 7), (54, .iload_n 1, 1, 0), (55, .dup2, 1, 0), (56, .iaload, 1, 0), (57, .iconst 1, 1, 0), (58, .isub, 1, 0), (59, .iastore, 1, 0), (60, .aload_n 0, 1, 0), (61, .getfield 26, 3, 6), (64, .iload_n 3, 1, 0), (65, .iload 4, 2, 0), (67, .iadd, 1, 0), (68, .aload_n 0, 1, 0), (69, .getfield 26, 3, 6), (72, .iload_n 3, 1, 0), (73, .aload_n 0, 1, 0), (74, .getfield 29, 3, 7), (77, .iload_n 1, 1, 0), (78, .iaload, 1, 0), (79, .iadd, 1, 0), (80, .iaload, 1, 0), (81, .iastore, 1, 0), (82, .return_, 1, 0), (83, .iinc 4 1, 3, 0), (86, .goto (-67), 3, 0), (89, .return_, 1, 0)]
def r29 : List Row := [(0, .iconst 0, 1, 0), (1, .istore_n 1, 1, 0), (2, .iload_n 1, 1, 0), (3, .bipush 32, 2, 0), (5, .if_icmp .ge 37, 3, 0), (8, .aload_n 0, 1, 0), (9, .getfield 32, 3, 8), (12, .iload_n 1, 1, 0), (13, .iconst 0, 1, 0), (14, .bastore, 1, 0), (15, .aload_n 0, 1, 0), (16, .getfield 35, 3, 9), (19, .iload_n 1, 1, 0), (20, .iconst (-1), 1, 0), (21, .iastore, 1, 0), (22, .aload_n 0, 1, 0), (23, .getfield 38, 3, 10), (26, .iload_n 1, 1, 0), (27, .iconst (-1), 1, 0), (28, .iastore, 1, 0), (29, .aload_n 0, 1, 0), (30, .getfield 41, 3, 11), (33, .iload_n 1, 1, 0), (34, .iconst 0, 1, 0), (35, .iastore, 1, 0), (36, .iinc 1 1, 3, 0), (39, .goto (-37), 3, 0), (42, .return_, 1, 0)]
def r30 : List Row := [(0, .aload_n 0, 1, 0), (1, .invokevirtual 64, 3, 29), (4, .aload_n 0, 1, 0), (5, .iload_n 1, 1, 0), (6, .invokevirtual 67, 3, 39), (9, .ifCond .ne 5, 3, 0), (12, .iconst 0, 1, 0), (13, .ireturn, 1, 0), (14, .aload_n 0, 1, 0), (15, .getfield 32, 3, 8), (18, .iload_n 1, 1, 0), (19, .iconst 1, 1, 0), (20, .bastore, 1, 0), (21, .aload_n 0, 1, 0), (22, .getfield 41, 3, 11), (25, .iconst 0, 1, 0), (26, .iload_n 1, 1, 0), (27, .iastore, 1, 0), (28, .iconst 1, 1, 0), (29, .istore_n 3, 1, 0), (30, .iconst 0, 1, 0), (31, .istore 4, 2, 0), (33, .iload 4, 2, 0), (35, .iload_n 3, 1, 0), (36, .if_icmp .ge 30, 3, 0), (39, .iload 4, 2, 0), (41, .bipush 32, 2, 0), (43, .if_icmp .ge 23, 3, 0), (46, .aload_n 0, 1, 0), (47, .aload_n 0, 1, 0), (48, .getfield 41, 3, 11), (51, .iload 4, 2, 0), (53, .iaload, 1, 0), (54, .iload_n 2, 1, 0), (55, .iload_n 3, 1, 0), (56, .invokevirtual 135, 3, 31), (59, .istore_n 3, 1, 0), (60, .iinc 4 1, 3, 0), (63, .goto (-30), 3, 0), (66, .iload_n 3, 1, 0), (67, .ireturn, 1, 0)]
def r31 : List Row := [(0, .iload_n 3, 1, 0), (1, .istore 4, 2, 0), (3, .iload_n 1, 1, 0), (4, .ifCond .lt 9, 3, 0), (7, .iload_n 1, 1, 0), (8, .bipush 32, 2, 0), (10, .if_icmp .lt 6, 3, 0), (13, .iload 4, 2, 0), (15, .ireturn, 1, 0), (16, .iload_n 1, 1, 0), (17, .bipush 32, 2, 0), (19, .imul, 1, 0), (20, .istore 5, 2, 0), (22, .iconst 0, 1, 0), (23, .istore 6, 2, 0), (25, .iload 6, 2, 0), (27, .aload_n 0, 1, 0), (28, .getfield 29, 3, 7), (31, .iload_n 1, 1, 0), (32, .iaload, 1, 0), (33, .if_icmp .ge 124, 3, 0), (36, .iload 6, 2, 0), (38, .bipush 32, 2, 0), (40, .if_icmp .ge 117, 3, 0), (43, .aload_n 0, 1, 0), (44, .getfield 26, 3, 6), (47, .iload 5, 2, 0), (49, .iload 6, 2, 0), (51, .iadd, 1, 0), (52, .iaload, 1, 0), (53, .istore 7, 2, 0), (55, .iload 7, 2, 0), (57, .iload_n 2, 1, 0), (58, .if_icmp .eq 93, 3, 0), (61, .aload_n 0, 1, 0), (62, .iload 7, 2, 0), (64, .invokevirtual 103, 3, 40), (67, .ifCond .ne 6, 3, 0), (70, .goto 81, 3, 0), (73, .aload_n 0, 1, 0), (74, .iload 7, 2, 0), (76, .iload_n 1, 1, 0), (77, .invokevirtual 139, 3, 35), (80, .istore 8, 2, 0), (82, .iload 8, 2, 0), (84, .ifCond .lt 67, 3, 0), (87, .iload 8, 2, 0), (89, .bipush 32, 2, 0), (91, .if_icmp .ge 60, 3, 0), (94, .aload_n 0, 1, 0), (95, .getfield 32, 3, 8), (98, .iload 8, 2, 0), (100, .baload, 1, 0), (101, .ifCond .ne 50, 3, 0), (104, .iload 4, 2, 0), (106, .bipush 32, 2, 0), (108, .if_icmp .lt 6, 3, 0), (111, .goto 40, 3, 0), (114, .aload_n 0, 1, 0), (115, .getfield 32, 3, 8), (118, .iload 8, 2, 0), (120, .iconst 1, 1, 0), (121, .bastore, 1, 0), (122, .aload_n 0, 1, 0), (123, .getfield 35, 3, 9), (126, .iload 8, 2, 0), (128, .iload 7, 2, 0), (130, .iastore, 1, 0), (131, .aload_n 0, 1, 0), (132, .getfield 38, 3, 10), (135, .iload 8, 2, 0), (137, .iload_n 1, 1, 0), (138, .iastore, 1, 0), (139, .aload_n 0, 1, 0), (140, .getfield 41, 3, 11), (143, .iload 4, 2, 0), (145, .iload 8, 2, 0), (147, .iastore, 1, 0), (148, .iinc 4 1, 3, 0), (151, .iinc 6 1, 3, 0), (154, .goto (-129), 3, 0), (157, .iload 4, 2, 0), (159, .ireturn, 1, 0)]
def r32 : List Row := [(0, .iconst (-1), 1, 0), (1, .istore_n 2, 1, 0), (2, .iload_n 1, 1, 0), (3, .istore_n 3, 1, 0), (4, .iconst 0, 1, 0), (5, .istore 4, 2, 0), (7, .iload 4, 2, 0), (9, .bipush 32, 2, 0), (11, .if_icmp .ge 54, 3, 0), (14, .iload_n 3, 1, 0), (15, .ifCond .lt 50, 3, 0), (18, .iload_n 3, 1, 0), (19, .bipush 32, 2, 0), (21, .if_icmp .lt 6, 3, 0), (24, .goto 41, 3, 0), (27, .aload_n 0, 1, 0), (28, .getfield 35, 3, 9), (31, .iload_n 3, 1, 0), (32, .iaload, 1, 0), (33, .istore 5, 2, 0), (35, .iload 5, 2, 0), (37, .iconst (-1), 1, 0), (38, .if_icmp .ne 6, 3, 0), (41, .goto 24, 3, 0), (44, .aload_n 0, 1, 0), (45, .iload_n 2, 1, 0), (46, .iload 5, 2, 0), (48, .invokevirtual 142, 3, 38), (51, .istore_n 2, 1, 0), (52, .aload_n 0, 1, 0), (53, .getfield 38, 3, 10), (56, .iload_n 3, 1, 0), (57, .iaload, 1, 0), (58, .istore_n 3, 1, 0), (59, .iinc 4 1, 3, 0), (62, .goto (-55), 3, 0), (65, .iload_n 2, 1, 0), (66, .ireturn, 1, 0)]
def r33 : List Row := [(0, .iconst (-1), 1, 0), (1, .istore_n 1, 1, 0), (2, .iconst 0, 1, 0), (3, .istore_n 2, 1, 0), (4, .iload_n 2, 1, 0), (5, .sipush 128, 3, 0), (8, .if_icmp .ge 42, 3, 0), (11, .aload_n 0, 1, 0), (12, .getfield 19, 3, 4), (15, .iload_n 2, 1, 0), (16, .baload, 1, 0), (17, .ifCond .eq 27, 3, 0), (20, .aload_n 0, 1, 0), (21, .getfield 23, 3, 5), (24, .iload_n 2, 1, 0), (25, .baload, 1, 0), (26, .ifCond .ne 18, 3, 0), (29, .aload_n 0, 1, 0), (30, .iload_n 2, 1, 0), (31, .invokevirtual 145, 3, 34), (34, .ifCond .eq 10, 3, 0), (37, .aload_n 0, 1, 0), (38, .iload_n 1, 1, 0), (39, .iload_n 2, 1, 0), (40, .invokevirtual 148, 3, 37), (43, .istore_n 1, 1, 0), (44, .iinc 2 1, 3, 0), (47, .goto (-43), 3, 0), (50, .iload_n 1, 1, 0), (51, .ireturn, 1, 0)]
def r34 : List Row := [(0, .aload_n 0, 1, 0), (1, .getfield 7, 3, 1), (4, .iload_n 1, 1, 0), (5, .iaload, 1, 0), (6, .istore_n 2, 1, 0), (7, .aload_n 0, 1, 0), (8, .getfield 13, 3, 2), (11, .iload_n 1, 1, 0), (12, .iaload, 1, 0), (13, .istore_n 3, 1, 0), (14, .iload_n 2, 1, 0), (15, .ifCond .lt 19, 3, 0), (18, .iload_n 2, 1, 0), (19, .bipush 32, 2, 0), (21, .if_icmp .ge 13, 3, 0), (24, .iload_n 3, 1, 0), (25, .ifCond .lt 9, 3, 0), (28, .iload_n 3, 1, 0), (29, .bipush 32, 2, 0), (31, .if_icmp .lt 5, 3, 0), (34, .iconst 0, 1, 0), (35, .ireturn, 1, 0), (36, .aload_n 0, 1, 0), (37, .getfield 32, 3, 8), (40, .iload_n 2, 1, 0), (41, .baload, 1, 0), (42, .aload_n 0, 1, 0), (43, .getfield 32, 3, 8), (46, .iload_n 3, 1, 0), (47, .baload, 1, 0), (48, .if_icmp .eq 7, 3, 0), (51, .iconst 1, 1, 0), (52, .goto 4, 3, 0), (55, .iconst 0, 1, 0), (56, .ireturn, 1, 0)]
def r35 : List Row := [(0, .aload_n 0, 1, 0), (1, .getfield 7, 3, 1), (4, .iload_n 1, 1, 0), (5, .iaload, 1, 0), (6, .iload_n 2, 1, 0), (7, .if_icmp .ne 10, 3, 0), (10, .aload_n 0, 1, 0), (11, .getfield 13, 3, 2), (14, .iload_n 1, 1, 0), (15, .iaload, 1, 0), (16, .ireturn, 1, 0), (17, .aload_n 0, 1, 0), (18, .getfield 13, 3, 2), (21, .iload_n 1, 1, 0), (22, .iaload, 1, 0), (23, .iload_n 2, 1, 0), (24, .if_icmp .ne 10, 3, 0), (27, .aload_n 0, 1, 0), (28, .getfield 7, 3, 1), (31, .iload_n 1, 1, 0), (32, .iaload, 1, 0), (33, .ireturn, 1, 0), (34, .iconst (-1), 1, 0), (35, .ireturn, 1, 0)]
def r36 : List Row := [(0, .aload_n 0, 1, 0), (1, .getfield 16, 3, 3), (4, .iload_n 1, 1, 0), (5, .iaload, 1, 0), (6, .aload_n 0, 1, 0), (7, .getfield 16, 3, 3), (10, .iload_n 2, 1, 0), (11, .iaload, 1, 0), (12, .if_icmp .eq 24, 3, 0), (15, .aload_n 0, 1, 0), (16, .getfield 16, 3, 3), (19, .iload_n 1, 1, 0), (20, .iaload, 1, 0), (21, .aload_n 0, 1, 0), (22, .getfield 16, 3, 3), (25, .iload_n 2, 1, 0), (26, .iaload, 1, 0), (27, .if_icmp .ge 7, 3, 0), (30, .iconst 1, 1, 0), (31, .goto 4, 3, 0), (34, .iconst 0, 1, 0), (35, .ireturn, 1, 0), (36, .iload_n 1, 1, 0), (37, .iload_n 2, 1, 0), (38, .if_icmp .ge 7, 3, 0), (41, .iconst 1, 1, 0), (42, .goto 4, 3, 0), (45, .iconst 0, 1, 0), (46, .ireturn, 1, 0)]
def r37 : List Row := [(0, .iload_n 1, 1, 0), (1, .iconst (-1), 1, 0), (2, .if_icmp .ne 5, 3, 0), (5, .iload_n 2, 1, 0), (6, .ireturn, 1, 0), (7, .iload_n 2, 1, 0), (8, .iconst (-1), 1, 0), (9, .if_icmp .ne 5, 3, 0), (12, .iload_n 1, 1, 0), (13, .ireturn, 1, 0), (14, .aload_n 0, 1, 0), (15, .iload_n 1, 1, 0), (16, .iload_n 2, 1, 0), (17, .invokevirtual 122, 3, 36), (20, .ifCond .eq 5, 3, 0), (23, .iload_n 1, 1, 0), (24, .ireturn, 1, 0), (25, .iload_n 2, 1, 0), (26, .ireturn, 1, 0)]
def r38 : List Row := [(0, .iload_n 1, 1, 0), (1, .iconst (-1), 1, 0), (2, .if_icmp .ne 5, 3, 0), (5, .iload_n 2, 1, 0), (6, .ireturn, 1, 0), (7, .iload_n 2, 1, 0), (8, .iconst (-1), 1, 0), (9, .if_icmp .ne 5, 3, 0), (12, .iload_n 1, 1, 0), (13, .ireturn, 1, 0), (14, .aload_n 0, 1, 0), (15, .iload_n 1, 1, 0), (16, .iload_n 2, 1, 0), (17, .invokevirtual 122, 3, 36), (20, .ifCond .eq 5, 3, 0), (23, .iload_n 2, 1, 0), (24, .ireturn, 1, 0), (25, .iload_n 1, 1, 0), (26, .ireturn, 1, 0)]
def r39 : List Row := [(0, .iload_n 1, 1, 0), (1, .ifCond .lt 21, 3, 0), (4, .iload_n 1, 1, 0), (5, .aload_n 0, 1, 0), (6, .getfield 44, 3, 0), (9, .if_icmp .ge 13, 3, 0), (12, .iload_n 1, 1, 0), (13, .bipush 32, 2, 0), (15, .if_icmp .ge 7, 3, 0), (18, .iconst 1, 1, 0), (19, .goto 4, 3, 0), (22, .iconst 0, 1, 0), (23, .ireturn, 1, 0)]
def r40 : List Row := [(0, .iload_n 1, 1, 0), (1, .ifCond .lt 14, 3, 0), (4, .iload_n 1, 1, 0), (5, .sipush 128, 3, 0), (8, .if_icmp .ge 7, 3, 0), (11, .iconst 1, 1, 0), (12, .goto 4, 3, 0), (15, .iconst 0, 1, 0), (16, .ireturn, 1, 0)]
def r41 : List Row := [(0, .iload_n 1, 1, 0), (1, .ldc 151, 2, (-1000000)), (3, .if_icmp .ge 6, 3, 0), (6, .ldc 151, 2, (-1000000)), (8, .ireturn, 1, 0), (9, .iload_n 1, 1, 0), (10, .ldc 152, 2, 1000000), (12, .if_icmp .le 6, 3, 0), (15, .ldc 152, 2, 1000000), (17, .ireturn, 1, 0), (18, .iload_n 1, 1, 0), (19, .ireturn, 1, 0)]
def prows : List (List Row) := [[], r1, r2, r3, r4, r5, r6, r7, r8, r9, r10, r11, r12, [], [], [], r16, r17, r18, r19, r20, r21, r22, r23, r24, r25, r26, r27, r28, r29, r30, r31, r32, r33, r34, r35, r36, r37, r38, r39, r40, r41]
def pinfo : List MInfo := [(0, 0, 9, none, {}), (2, 4, 3, none, { frames := 1, cells := 11, slots := 1824, locals := 13 }), (4, 6, 1, some .int, { frames := 4, cells := 0, slots := 0, locals := 65 }), (2, 2, 1, some .boolean, { frames := 4, cells := 0, slots := 0, locals := 64 }), (3, 4, 1, some .boolean, { frames := 4, cells := 0, slots := 0, locals := 65 }), (2, 2, 1, some .boolean, { frames := 1, cells := 0, slots := 0, locals := 13 }), (2, 2, 1, some .boolean, { frames := 1, cells := 0, slots := 0, locals := 13 }), (3, 3, 1, some .int, { frames := 2, cells := 0, slots := 0, locals := 26 }), (2, 2, 1, some .int, { frames := 2, cells := 0, slots := 0, locals := 26 }), (1, 1, 1, some .int, { frames := 0, cells := 0, slots := 0, locals := 0 }), (1, 1, 1, some .long, { frames := 0, cells := 0, slots := 0, locals := 0 }), (1, 1, 1, some .int, { frames := 0, cells := 0, slots := 0, locals := 0 }), (1, 1, 1, some .int, { frames := 0, cells := 0, slots := 0, locals := 0 }), (2, 3, 1, some .int, { frames := 3, cells := 0, slots := 0, locals := 50 }), (3, 3, 1, some .int, { frames := 3, cells := 0, slots := 0, locals := 50 }), (2, 2, 1, some .int, { frames := 3, cells := 0, slots := 0, locals := 50 }), (1, 1, 1, some .int, { frames := 0, cells := 0, slots := 0, locals := 0 }), (1, 1, 1, some .int, { frames := 0, cells := 0, slots := 0, locals := 0 }), (2, 4, 2, none, { frames := 3, cells := 0, slots := 0, locals := 50 }), (2, 3, 2, none, { frames := 3, cells := 0, slots := 0, locals := 50 }), (3, 4, 2, none, { frames := 3, cells := 0, slots := 0, locals := 50 }), (3, 3, 2, none, { frames := 0, cells := 0, slots := 0, locals := 0 }), (1, 2, 2, some .int, { frames := 0, cells := 0, slots := 0, locals := 0 }), (5, 5, 2, none, { frames := 0, cells := 0, slots := 0, locals := 0 }), (2, 2, 2, none, { frames := 0, cells := 0, slots := 0, locals := 0 }), (2, 2, 2, none, { frames := 1, cells := 0, slots := 0, locals := 14 }), (2, 2, 2, none, { frames := 1, cells := 0, slots := 0, locals := 16 }), (3, 3, 2, none, { frames := 0, cells := 0, slots := 0, locals := 0 }), (3, 5, 2, none, { frames := 0, cells := 0, slots := 0, locals := 0 }), (1, 2, 2, none, { frames := 0, cells := 0, slots := 0, locals := 0 }), (3, 5, 2, some .int, { frames := 2, cells := 0, slots := 0, locals := 34 }), (4, 9, 2, some .int, { frames := 1, cells := 0, slots := 0, locals := 14 }), (2, 6, 2, some .int, { frames := 2, cells := 0, slots := 0, locals := 28 }), (1, 3, 2, some .int, { frames := 2, cells := 0, slots := 0, locals := 28 }), (2, 4, 2, some .boolean, { frames := 0, cells := 0, slots := 0, locals := 0 }), (3, 3, 2, some .int, { frames := 0, cells := 0, slots := 0, locals := 0 }), (3, 3, 2, some .boolean, { frames := 0, cells := 0, slots := 0, locals := 0 }), (3, 3, 2, some .int, { frames := 1, cells := 0, slots := 0, locals := 14 }), (3, 3, 2, some .int, { frames := 1, cells := 0, slots := 0, locals := 14 }), (2, 2, 2, some .boolean, { frames := 0, cells := 0, slots := 0, locals := 0 }), (2, 2, 2, some .boolean, { frames := 0, cells := 0, slots := 0, locals := 0 }), (2, 2, 2, some .int, { frames := 0, cells := 0, slots := 0, locals := 0 })]
def pft : List FieldType := [.int, .array .int, .array .int, .array .int, .array .boolean, .array .boolean, .array .int, .array .int, .array .boolean, .array .int, .array .int, .array .int, .int, .int, .long, .int, .int]
def pj (lw : LW) : Prog := (fun m pc => if m < 100 then (prows.getD m []).lookup pc else lw.1 (m - 100) pc, fun m => if m < 100 then pinfo.getD m (0, 0, 9, none, {}) else lw.2 (m - 100), fun k => pft.getD k .int, 17)
def lay : Lay := ([(.int, 0), (.array .int, 1), (.array .int, 2), (.array .int, 3), (.array .boolean, 4), (.array .boolean, 5), (.array .int, 6), (.array .int, 7), (.array .boolean, 8), (.array .int, 9), (.array .int, 10), (.array .int, 11), (.int, 0), (.int, 0), (.long, 0), (.int, 0), (.int, 0)], [(.int, 128), (.int, 128), (.int, 128), (.boolean, 128), (.boolean, 128), (.int, 1024), (.int, 32), (.boolean, 32), (.int, 32), (.int, 32), (.int, 32)])
abbrev ob (H : AH) (p : Nat) (s : St) : AH := put lay 11 H p s
section Acc
variable {H : AH} {p : Nat} {s : St} {i : Int32} {j q : Nat} {v : Int32} {w : Int64}
theorem g0 : fld (put lay j H p s) p 0 = .int (sI s 0) := fld_I (ty := .int) rfl (by decide) (by simp)
theorem s0 : wr (put lay j H p s) p 0 (.int v) = put lay j H p (uI s 0 v) := wr_I (ty := .int) rfl (by decide) (by simp)
theorem g1 : fld (ob H p s) p 1 = .ref (p + 1) := fld_R (ty := .int) rfl (by decide)
theorem g2 : fld (ob H p s) p 2 = .ref (p + 2) := fld_R (ty := .int) rfl (by decide)
theorem g3 : fld (ob H p s) p 3 = .ref (p + 3) := fld_R (ty := .int) rfl (by decide)
theorem g4 : fld (ob H p s) p 4 = .ref (p + 4) := fld_R (ty := .boolean) rfl (by decide)
theorem g5 : fld (ob H p s) p 5 = .ref (p + 5) := fld_R (ty := .boolean) rfl (by decide)
theorem g6 : fld (ob H p s) p 6 = .ref (p + 6) := fld_R (ty := .int) rfl (by decide)
theorem g7 : fld (ob H p s) p 7 = .ref (p + 7) := fld_R (ty := .int) rfl (by decide)
theorem g8 : fld (ob H p s) p 8 = .ref (p + 8) := fld_R (ty := .boolean) rfl (by decide)
theorem g9 : fld (ob H p s) p 9 = .ref (p + 9) := fld_R (ty := .int) rfl (by decide)
theorem g10 : fld (ob H p s) p 10 = .ref (p + 10) := fld_R (ty := .int) rfl (by decide)
theorem g11 : fld (ob H p s) p 11 = .ref (p + 11) := fld_R (ty := .int) rfl (by decide)
theorem g12 : fld (put lay j H p s) p 12 = .int (sI s 12) := fld_I (ty := .int) rfl (by decide) (by simp)
theorem s12 : wr (put lay j H p s) p 12 (.int v) = put lay j H p (uI s 12 v) := wr_I (ty := .int) rfl (by decide) (by simp)
theorem g13 : fld (put lay j H p s) p 13 = .int (sI s 13) := fld_I (ty := .int) rfl (by decide) (by simp)
theorem s13 : wr (put lay j H p s) p 13 (.int v) = put lay j H p (uI s 13 v) := wr_I (ty := .int) rfl (by decide) (by simp)
theorem g14 : fld (put lay j H p s) p 14 = .long (sJ s 14) := fld_J rfl
theorem s14 : wr (put lay j H p s) p 14 (.long w) = put lay j H p (uJ s 14 w) := wr_J rfl
theorem g15 : fld (put lay j H p s) p 15 = .int (sI s 15) := fld_I (ty := .int) rfl (by decide) (by simp)
theorem s15 : wr (put lay j H p s) p 15 (.int v) = put lay j H p (uI s 15 v) := wr_I (ty := .int) rfl (by decide) (by simp)
theorem g16 : fld (put lay j H p s) p 16 = .int (sI s 16) := fld_I (ty := .int) rfl (by decide) (by simp)
theorem s16 : wr (put lay j H p s) p 16 (.int v) = put lay j H p (uI s 16 v) := wr_I (ty := .int) rfl (by decide) (by simp)
theorem ai1 : inA (ob H p s) (p + 1) .int i = true ↔ (0 ≤ i.toInt ∧ i.toInt < 128) := inA_I (t := 0) rfl (by decide) (by decide)
theorem aw1 : inAw (ob H p s) (p + 1) .int i = true ↔ (0 ≤ i.toInt ∧ i.toInt < 128) := inAw_I (t := 0) rfl (by decide) (by decide)
theorem ae1 : elt (ob H p s) (p + 1) i = .int (sA s 1 i.toNatClampNeg) := elt_I (t := 0) (ty := .int) rfl (by decide) (by decide)
theorem as1 : wr (ob H p s) (p + 1) q (.int v) = ob H p (uA s 1 q v) := wr_A (t := 0) (ty := .int) rfl (by decide) (by decide)
theorem ai2 : inA (ob H p s) (p + 2) .int i = true ↔ (0 ≤ i.toInt ∧ i.toInt < 128) := inA_I (t := 1) rfl (by decide) (by decide)
theorem aw2 : inAw (ob H p s) (p + 2) .int i = true ↔ (0 ≤ i.toInt ∧ i.toInt < 128) := inAw_I (t := 1) rfl (by decide) (by decide)
theorem ae2 : elt (ob H p s) (p + 2) i = .int (sA s 2 i.toNatClampNeg) := elt_I (t := 1) (ty := .int) rfl (by decide) (by decide)
theorem as2 : wr (ob H p s) (p + 2) q (.int v) = ob H p (uA s 2 q v) := wr_A (t := 1) (ty := .int) rfl (by decide) (by decide)
theorem ai3 : inA (ob H p s) (p + 3) .int i = true ↔ (0 ≤ i.toInt ∧ i.toInt < 128) := inA_I (t := 2) rfl (by decide) (by decide)
theorem aw3 : inAw (ob H p s) (p + 3) .int i = true ↔ (0 ≤ i.toInt ∧ i.toInt < 128) := inAw_I (t := 2) rfl (by decide) (by decide)
theorem ae3 : elt (ob H p s) (p + 3) i = .int (sA s 3 i.toNatClampNeg) := elt_I (t := 2) (ty := .int) rfl (by decide) (by decide)
theorem as3 : wr (ob H p s) (p + 3) q (.int v) = ob H p (uA s 3 q v) := wr_A (t := 2) (ty := .int) rfl (by decide) (by decide)
theorem ai4 : inA (ob H p s) (p + 4) .boolean i = true ↔ (0 ≤ i.toInt ∧ i.toInt < 128) := inA_I (t := 3) rfl (by decide) (by decide)
theorem aw4 : inAw (ob H p s) (p + 4) .boolean i = true ↔ (0 ≤ i.toInt ∧ i.toInt < 128) := inAw_I (t := 3) rfl (by decide) (by decide)
theorem ain4 : inA (ob H p s) (p + 4) .byte i = true ↔ False := inA_no (t := 3) (ty := .boolean) rfl (by decide) (by decide) (by decide)
theorem awn4 : inAw (ob H p s) (p + 4) .byte i = true ↔ False := inAw_no (t := 3) (ty := .boolean) rfl (by decide) (by decide) (by decide)
theorem ae4 : elt (ob H p s) (p + 4) i = .int (sA s 4 i.toNatClampNeg) := elt_I (t := 3) (ty := .boolean) rfl (by decide) (by decide)
theorem as4 : wr (ob H p s) (p + 4) q (.int v) = ob H p (uA s 4 q v) := wr_A (t := 3) (ty := .boolean) rfl (by decide) (by decide)
theorem ai5 : inA (ob H p s) (p + 5) .boolean i = true ↔ (0 ≤ i.toInt ∧ i.toInt < 128) := inA_I (t := 4) rfl (by decide) (by decide)
theorem aw5 : inAw (ob H p s) (p + 5) .boolean i = true ↔ (0 ≤ i.toInt ∧ i.toInt < 128) := inAw_I (t := 4) rfl (by decide) (by decide)
theorem ain5 : inA (ob H p s) (p + 5) .byte i = true ↔ False := inA_no (t := 4) (ty := .boolean) rfl (by decide) (by decide) (by decide)
theorem awn5 : inAw (ob H p s) (p + 5) .byte i = true ↔ False := inAw_no (t := 4) (ty := .boolean) rfl (by decide) (by decide) (by decide)
theorem ae5 : elt (ob H p s) (p + 5) i = .int (sA s 5 i.toNatClampNeg) := elt_I (t := 4) (ty := .boolean) rfl (by decide) (by decide)
theorem as5 : wr (ob H p s) (p + 5) q (.int v) = ob H p (uA s 5 q v) := wr_A (t := 4) (ty := .boolean) rfl (by decide) (by decide)
theorem ai6 : inA (ob H p s) (p + 6) .int i = true ↔ (0 ≤ i.toInt ∧ i.toInt < 1024) := inA_I (t := 5) rfl (by decide) (by decide)
theorem aw6 : inAw (ob H p s) (p + 6) .int i = true ↔ (0 ≤ i.toInt ∧ i.toInt < 1024) := inAw_I (t := 5) rfl (by decide) (by decide)
theorem ae6 : elt (ob H p s) (p + 6) i = .int (sA s 6 i.toNatClampNeg) := elt_I (t := 5) (ty := .int) rfl (by decide) (by decide)
theorem as6 : wr (ob H p s) (p + 6) q (.int v) = ob H p (uA s 6 q v) := wr_A (t := 5) (ty := .int) rfl (by decide) (by decide)
theorem ai7 : inA (ob H p s) (p + 7) .int i = true ↔ (0 ≤ i.toInt ∧ i.toInt < 32) := inA_I (t := 6) rfl (by decide) (by decide)
theorem aw7 : inAw (ob H p s) (p + 7) .int i = true ↔ (0 ≤ i.toInt ∧ i.toInt < 32) := inAw_I (t := 6) rfl (by decide) (by decide)
theorem ae7 : elt (ob H p s) (p + 7) i = .int (sA s 7 i.toNatClampNeg) := elt_I (t := 6) (ty := .int) rfl (by decide) (by decide)
theorem as7 : wr (ob H p s) (p + 7) q (.int v) = ob H p (uA s 7 q v) := wr_A (t := 6) (ty := .int) rfl (by decide) (by decide)
theorem ai8 : inA (ob H p s) (p + 8) .boolean i = true ↔ (0 ≤ i.toInt ∧ i.toInt < 32) := inA_I (t := 7) rfl (by decide) (by decide)
theorem aw8 : inAw (ob H p s) (p + 8) .boolean i = true ↔ (0 ≤ i.toInt ∧ i.toInt < 32) := inAw_I (t := 7) rfl (by decide) (by decide)
theorem ain8 : inA (ob H p s) (p + 8) .byte i = true ↔ False := inA_no (t := 7) (ty := .boolean) rfl (by decide) (by decide) (by decide)
theorem awn8 : inAw (ob H p s) (p + 8) .byte i = true ↔ False := inAw_no (t := 7) (ty := .boolean) rfl (by decide) (by decide) (by decide)
theorem ae8 : elt (ob H p s) (p + 8) i = .int (sA s 8 i.toNatClampNeg) := elt_I (t := 7) (ty := .boolean) rfl (by decide) (by decide)
theorem as8 : wr (ob H p s) (p + 8) q (.int v) = ob H p (uA s 8 q v) := wr_A (t := 7) (ty := .boolean) rfl (by decide) (by decide)
theorem ai9 : inA (ob H p s) (p + 9) .int i = true ↔ (0 ≤ i.toInt ∧ i.toInt < 32) := inA_I (t := 8) rfl (by decide) (by decide)
theorem aw9 : inAw (ob H p s) (p + 9) .int i = true ↔ (0 ≤ i.toInt ∧ i.toInt < 32) := inAw_I (t := 8) rfl (by decide) (by decide)
theorem ae9 : elt (ob H p s) (p + 9) i = .int (sA s 9 i.toNatClampNeg) := elt_I (t := 8) (ty := .int) rfl (by decide) (by decide)
theorem as9 : wr (ob H p s) (p + 9) q (.int v) = ob H p (uA s 9 q v) := wr_A (t := 8) (ty := .int) rfl (by decide) (by decide)
theorem ai10 : inA (ob H p s) (p + 10) .int i = true ↔ (0 ≤ i.toInt ∧ i.toInt < 32) := inA_I (t := 9) rfl (by decide) (by decide)
theorem aw10 : inAw (ob H p s) (p + 10) .int i = true ↔ (0 ≤ i.toInt ∧ i.toInt < 32) := inAw_I (t := 9) rfl (by decide) (by decide)
theorem ae10 : elt (ob H p s) (p + 10) i = .int (sA s 10 i.toNatClampNeg) := elt_I (t := 9) (ty := .int) rfl (by decide) (by decide)
theorem as10 : wr (ob H p s) (p + 10) q (.int v) = ob H p (uA s 10 q v) := wr_A (t := 9) (ty := .int) rfl (by decide) (by decide)
theorem ai11 : inA (ob H p s) (p + 11) .int i = true ↔ (0 ≤ i.toInt ∧ i.toInt < 32) := inA_I (t := 10) rfl (by decide) (by decide)
theorem aw11 : inAw (ob H p s) (p + 11) .int i = true ↔ (0 ≤ i.toInt ∧ i.toInt < 32) := inAw_I (t := 10) rfl (by decide) (by decide)
theorem ae11 : elt (ob H p s) (p + 11) i = .int (sA s 11 i.toNatClampNeg) := elt_I (t := 10) (ty := .int) rfl (by decide) (by decide)
theorem as11 : wr (ob H p s) (p + 11) q (.int v) = ob H p (uA s 11 q v) := wr_A (t := 10) (ty := .int) rfl (by decide) (by decide)
theorem mkO_ob {lw : LW} : mkO (pj lw) H = put lay 0 (H.1 + 1, H.2) H.1 z0 := mkO_put rfl (fun k => match k with | 0 => rfl | 1 => rfl | 2 => rfl | 3 => rfl | 4 => rfl | 5 => rfl | 6 => rfl | 7 => rfl | 8 => rfl | 9 => rfl | 10 => rfl | 11 => rfl | 12 => rfl | 13 => rfl | 14 => rfl | 15 => rfl | 16 => rfl | (_ + 17) => rfl)
theorem mk1 {h : Nat → Cel} (hz : zr s 1) : wr (mkA .int 128 (put lay 0 (p + 1, h) p s)) p 1 (.ref (p + 1)) = put lay 1 (p + 2, h) p s := mkA_put (j := 0) rfl rfl (by decide) hz.1 hz.2 (Or.inl rfl)
theorem io1 {h : Nat → Cel} : isOw (mkA .int 128 (put lay 0 (p + 1, h) p s)) p = true := isOw_mk (c := 0)
theorem mk2 {h : Nat → Cel} (hz : zr s 2) : wr (mkA .int 128 (put lay 1 (p + 2, h) p s)) p 2 (.ref (p + 2)) = put lay 2 (p + 3, h) p s := mkA_put (j := 1) rfl rfl (by decide) hz.1 hz.2 (Or.inl rfl)
theorem io2 {h : Nat → Cel} : isOw (mkA .int 128 (put lay 1 (p + 2, h) p s)) p = true := isOw_mk (c := 1)
theorem mk3 {h : Nat → Cel} (hz : zr s 3) : wr (mkA .int 128 (put lay 2 (p + 3, h) p s)) p 3 (.ref (p + 3)) = put lay 3 (p + 4, h) p s := mkA_put (j := 2) rfl rfl (by decide) hz.1 hz.2 (Or.inl rfl)
theorem io3 {h : Nat → Cel} : isOw (mkA .int 128 (put lay 2 (p + 3, h) p s)) p = true := isOw_mk (c := 2)
theorem mk4 {h : Nat → Cel} (hz : zr s 4) : wr (mkA .boolean 128 (put lay 3 (p + 4, h) p s)) p 4 (.ref (p + 4)) = put lay 4 (p + 5, h) p s := mkA_put (j := 3) rfl rfl (by decide) hz.1 hz.2 (Or.inr (Or.inr (Or.inr rfl)))
theorem io4 {h : Nat → Cel} : isOw (mkA .boolean 128 (put lay 3 (p + 4, h) p s)) p = true := isOw_mk (c := 3)
theorem mk5 {h : Nat → Cel} (hz : zr s 5) : wr (mkA .boolean 128 (put lay 4 (p + 5, h) p s)) p 5 (.ref (p + 5)) = put lay 5 (p + 6, h) p s := mkA_put (j := 4) rfl rfl (by decide) hz.1 hz.2 (Or.inr (Or.inr (Or.inr rfl)))
theorem io5 {h : Nat → Cel} : isOw (mkA .boolean 128 (put lay 4 (p + 5, h) p s)) p = true := isOw_mk (c := 4)
theorem mk6 {h : Nat → Cel} (hz : zr s 6) : wr (mkA .int 1024 (put lay 5 (p + 6, h) p s)) p 6 (.ref (p + 6)) = put lay 6 (p + 7, h) p s := mkA_put (j := 5) rfl rfl (by decide) hz.1 hz.2 (Or.inl rfl)
theorem io6 {h : Nat → Cel} : isOw (mkA .int 1024 (put lay 5 (p + 6, h) p s)) p = true := isOw_mk (c := 5)
theorem mk7 {h : Nat → Cel} (hz : zr s 7) : wr (mkA .int 32 (put lay 6 (p + 7, h) p s)) p 7 (.ref (p + 7)) = put lay 7 (p + 8, h) p s := mkA_put (j := 6) rfl rfl (by decide) hz.1 hz.2 (Or.inl rfl)
theorem io7 {h : Nat → Cel} : isOw (mkA .int 32 (put lay 6 (p + 7, h) p s)) p = true := isOw_mk (c := 6)
theorem mk8 {h : Nat → Cel} (hz : zr s 8) : wr (mkA .boolean 32 (put lay 7 (p + 8, h) p s)) p 8 (.ref (p + 8)) = put lay 8 (p + 9, h) p s := mkA_put (j := 7) rfl rfl (by decide) hz.1 hz.2 (Or.inr (Or.inr (Or.inr rfl)))
theorem io8 {h : Nat → Cel} : isOw (mkA .boolean 32 (put lay 7 (p + 8, h) p s)) p = true := isOw_mk (c := 7)
theorem mk9 {h : Nat → Cel} (hz : zr s 9) : wr (mkA .int 32 (put lay 8 (p + 9, h) p s)) p 9 (.ref (p + 9)) = put lay 9 (p + 10, h) p s := mkA_put (j := 8) rfl rfl (by decide) hz.1 hz.2 (Or.inl rfl)
theorem io9 {h : Nat → Cel} : isOw (mkA .int 32 (put lay 8 (p + 9, h) p s)) p = true := isOw_mk (c := 8)
theorem mk10 {h : Nat → Cel} (hz : zr s 10) : wr (mkA .int 32 (put lay 9 (p + 10, h) p s)) p 10 (.ref (p + 10)) = put lay 10 (p + 11, h) p s := mkA_put (j := 9) rfl rfl (by decide) hz.1 hz.2 (Or.inl rfl)
theorem io10 {h : Nat → Cel} : isOw (mkA .int 32 (put lay 9 (p + 10, h) p s)) p = true := isOw_mk (c := 9)
theorem mk11 {h : Nat → Cel} (hz : zr s 11) : wr (mkA .int 32 (put lay 10 (p + 11, h) p s)) p 11 (.ref (p + 11)) = put lay 11 (p + 12, h) p s := mkA_put (j := 10) rfl rfl (by decide) hz.1 hz.2 (Or.inl rfl)
theorem io11 {h : Nat → Cel} : isOw (mkA .int 32 (put lay 10 (p + 11, h) p s)) p = true := isOw_mk (c := 10)
end Acc
section Pc
variable {lw : LW} {L : List Slot} {S : List Value} {k n : Nat} {H : AH} {Q : Option Value → AH → Prop}
theorem c1 {x0 : Nat} {x1 : Int32} : Cl (pj lw) 1 [.ref x0, .int x1] H Q ↔ W (pj lw) 1 0 [.val (.ref x0), .val (.int x1), .unset, .unset] [] 0 0 H Q := cl_unf rfl
theorem w1_0 {x : Nat} : W (pj lw) 1 0 (.val (.ref x) :: L) S k n H Q ↔ W (pj lw) 1 1 (.val (.ref x) :: L) (.ref x :: S) k n H Q := W_s (rfl : (pj lw).1 1 0 = some (.aload_n 0, 1, 0)) rfl rfl rfl
theorem w1_1 {a : Nat} : W (pj lw) 1 1 L (.ref a :: S) k n H Q ↔ ((1 ≤ 1 ∧ cs S + 12 ≤ 13) ∧ W (pj lw) 1 4 L S k n H Q) := W_oinit (rfl : (pj lw).1 1 1 = some (.invokespecial 1, 3, (-1)))
theorem w1_4 {x : Nat} : W (pj lw) 1 4 (.val (.ref x) :: L) S k n H Q ↔ W (pj lw) 1 5 (.val (.ref x) :: L) (.ref x :: S) k n H Q := W_s (rfl : (pj lw).1 1 4 = some (.aload_n 0, 1, 0)) rfl rfl rfl
theorem w1_5 : W (pj lw) 1 5 L S k n H Q ↔ W (pj lw) 1 8 L (.int 128 :: S) k n H Q := W_s (rfl : (pj lw).1 1 5 = some (.sipush 128, 3, 0)) rfl rfl rfl
theorem w1_8 : W (pj lw) 1 8 L (.int 128 :: S) k n H Q ↔ ((k + 1 ≤ 11 ∧ n + 128 ≤ 1824) ∧ W (pj lw) 1 10 L (.ref H.1 :: S) (k + 1) (n + 128) (mkA .int 128 H) Q) := W_newarr' (rfl : (pj lw).1 1 8 = some (.newarray .int, 2, 0)) rfl (by decide) (by decide)
theorem w1_10 {a : Nat} {v : Value} : W (pj lw) 1 10 L (v :: .ref a :: S) k n H Q ↔ ((isOw H a = true ∧ okv (.array .int) v = true) ∧ W (pj lw) 1 13 L S k n (wr H a 1 v) Q) := W_putf (rfl : (pj lw).1 1 10 = some (.putfield 7, 3, 1))
theorem w1_13 {x : Nat} : W (pj lw) 1 13 (.val (.ref x) :: L) S k n H Q ↔ W (pj lw) 1 14 (.val (.ref x) :: L) (.ref x :: S) k n H Q := W_s (rfl : (pj lw).1 1 13 = some (.aload_n 0, 1, 0)) rfl rfl rfl
theorem w1_14 : W (pj lw) 1 14 L S k n H Q ↔ W (pj lw) 1 17 L (.int 128 :: S) k n H Q := W_s (rfl : (pj lw).1 1 14 = some (.sipush 128, 3, 0)) rfl rfl rfl
theorem w1_17 : W (pj lw) 1 17 L (.int 128 :: S) k n H Q ↔ ((k + 1 ≤ 11 ∧ n + 128 ≤ 1824) ∧ W (pj lw) 1 19 L (.ref H.1 :: S) (k + 1) (n + 128) (mkA .int 128 H) Q) := W_newarr' (rfl : (pj lw).1 1 17 = some (.newarray .int, 2, 0)) rfl (by decide) (by decide)
theorem w1_19 {a : Nat} {v : Value} : W (pj lw) 1 19 L (v :: .ref a :: S) k n H Q ↔ ((isOw H a = true ∧ okv (.array .int) v = true) ∧ W (pj lw) 1 22 L S k n (wr H a 2 v) Q) := W_putf (rfl : (pj lw).1 1 19 = some (.putfield 13, 3, 2))
theorem w1_22 {x : Nat} : W (pj lw) 1 22 (.val (.ref x) :: L) S k n H Q ↔ W (pj lw) 1 23 (.val (.ref x) :: L) (.ref x :: S) k n H Q := W_s (rfl : (pj lw).1 1 22 = some (.aload_n 0, 1, 0)) rfl rfl rfl
theorem w1_23 : W (pj lw) 1 23 L S k n H Q ↔ W (pj lw) 1 26 L (.int 128 :: S) k n H Q := W_s (rfl : (pj lw).1 1 23 = some (.sipush 128, 3, 0)) rfl rfl rfl
theorem w1_26 : W (pj lw) 1 26 L (.int 128 :: S) k n H Q ↔ ((k + 1 ≤ 11 ∧ n + 128 ≤ 1824) ∧ W (pj lw) 1 28 L (.ref H.1 :: S) (k + 1) (n + 128) (mkA .int 128 H) Q) := W_newarr' (rfl : (pj lw).1 1 26 = some (.newarray .int, 2, 0)) rfl (by decide) (by decide)
theorem w1_28 {a : Nat} {v : Value} : W (pj lw) 1 28 L (v :: .ref a :: S) k n H Q ↔ ((isOw H a = true ∧ okv (.array .int) v = true) ∧ W (pj lw) 1 31 L S k n (wr H a 3 v) Q) := W_putf (rfl : (pj lw).1 1 28 = some (.putfield 16, 3, 3))
theorem w1_31 {x : Nat} : W (pj lw) 1 31 (.val (.ref x) :: L) S k n H Q ↔ W (pj lw) 1 32 (.val (.ref x) :: L) (.ref x :: S) k n H Q := W_s (rfl : (pj lw).1 1 31 = some (.aload_n 0, 1, 0)) rfl rfl rfl
theorem w1_32 : W (pj lw) 1 32 L S k n H Q ↔ W (pj lw) 1 35 L (.int 128 :: S) k n H Q := W_s (rfl : (pj lw).1 1 32 = some (.sipush 128, 3, 0)) rfl rfl rfl
theorem w1_35 : W (pj lw) 1 35 L (.int 128 :: S) k n H Q ↔ ((k + 1 ≤ 11 ∧ n + 128 ≤ 1824) ∧ W (pj lw) 1 37 L (.ref H.1 :: S) (k + 1) (n + 128) (mkA .boolean 128 H) Q) := W_newarr' (rfl : (pj lw).1 1 35 = some (.newarray .boolean, 2, 0)) rfl (by decide) (by decide)
theorem w1_37 {a : Nat} {v : Value} : W (pj lw) 1 37 L (v :: .ref a :: S) k n H Q ↔ ((isOw H a = true ∧ okv (.array .boolean) v = true) ∧ W (pj lw) 1 40 L S k n (wr H a 4 v) Q) := W_putf (rfl : (pj lw).1 1 37 = some (.putfield 19, 3, 4))
theorem w1_40 {x : Nat} : W (pj lw) 1 40 (.val (.ref x) :: L) S k n H Q ↔ W (pj lw) 1 41 (.val (.ref x) :: L) (.ref x :: S) k n H Q := W_s (rfl : (pj lw).1 1 40 = some (.aload_n 0, 1, 0)) rfl rfl rfl
theorem w1_41 : W (pj lw) 1 41 L S k n H Q ↔ W (pj lw) 1 44 L (.int 128 :: S) k n H Q := W_s (rfl : (pj lw).1 1 41 = some (.sipush 128, 3, 0)) rfl rfl rfl
theorem w1_44 : W (pj lw) 1 44 L (.int 128 :: S) k n H Q ↔ ((k + 1 ≤ 11 ∧ n + 128 ≤ 1824) ∧ W (pj lw) 1 46 L (.ref H.1 :: S) (k + 1) (n + 128) (mkA .boolean 128 H) Q) := W_newarr' (rfl : (pj lw).1 1 44 = some (.newarray .boolean, 2, 0)) rfl (by decide) (by decide)
theorem w1_46 {a : Nat} {v : Value} : W (pj lw) 1 46 L (v :: .ref a :: S) k n H Q ↔ ((isOw H a = true ∧ okv (.array .boolean) v = true) ∧ W (pj lw) 1 49 L S k n (wr H a 5 v) Q) := W_putf (rfl : (pj lw).1 1 46 = some (.putfield 23, 3, 5))
theorem w1_49 {x : Nat} : W (pj lw) 1 49 (.val (.ref x) :: L) S k n H Q ↔ W (pj lw) 1 50 (.val (.ref x) :: L) (.ref x :: S) k n H Q := W_s (rfl : (pj lw).1 1 49 = some (.aload_n 0, 1, 0)) rfl rfl rfl
theorem w1_50 : W (pj lw) 1 50 L S k n H Q ↔ W (pj lw) 1 53 L (.int 1024 :: S) k n H Q := W_s (rfl : (pj lw).1 1 50 = some (.sipush 1024, 3, 0)) rfl rfl rfl
theorem w1_53 : W (pj lw) 1 53 L (.int 1024 :: S) k n H Q ↔ ((k + 1 ≤ 11 ∧ n + 1024 ≤ 1824) ∧ W (pj lw) 1 55 L (.ref H.1 :: S) (k + 1) (n + 1024) (mkA .int 1024 H) Q) := W_newarr' (rfl : (pj lw).1 1 53 = some (.newarray .int, 2, 0)) rfl (by decide) (by decide)
theorem w1_55 {a : Nat} {v : Value} : W (pj lw) 1 55 L (v :: .ref a :: S) k n H Q ↔ ((isOw H a = true ∧ okv (.array .int) v = true) ∧ W (pj lw) 1 58 L S k n (wr H a 6 v) Q) := W_putf (rfl : (pj lw).1 1 55 = some (.putfield 26, 3, 6))
theorem w1_58 {x : Nat} : W (pj lw) 1 58 (.val (.ref x) :: L) S k n H Q ↔ W (pj lw) 1 59 (.val (.ref x) :: L) (.ref x :: S) k n H Q := W_s (rfl : (pj lw).1 1 58 = some (.aload_n 0, 1, 0)) rfl rfl rfl
theorem w1_59 : W (pj lw) 1 59 L S k n H Q ↔ W (pj lw) 1 61 L (.int 32 :: S) k n H Q := W_s (rfl : (pj lw).1 1 59 = some (.bipush 32, 2, 0)) rfl rfl rfl
theorem w1_61 : W (pj lw) 1 61 L (.int 32 :: S) k n H Q ↔ ((k + 1 ≤ 11 ∧ n + 32 ≤ 1824) ∧ W (pj lw) 1 63 L (.ref H.1 :: S) (k + 1) (n + 32) (mkA .int 32 H) Q) := W_newarr' (rfl : (pj lw).1 1 61 = some (.newarray .int, 2, 0)) rfl (by decide) (by decide)
theorem w1_63 {a : Nat} {v : Value} : W (pj lw) 1 63 L (v :: .ref a :: S) k n H Q ↔ ((isOw H a = true ∧ okv (.array .int) v = true) ∧ W (pj lw) 1 66 L S k n (wr H a 7 v) Q) := W_putf (rfl : (pj lw).1 1 63 = some (.putfield 29, 3, 7))
theorem w1_66 {x : Nat} : W (pj lw) 1 66 (.val (.ref x) :: L) S k n H Q ↔ W (pj lw) 1 67 (.val (.ref x) :: L) (.ref x :: S) k n H Q := W_s (rfl : (pj lw).1 1 66 = some (.aload_n 0, 1, 0)) rfl rfl rfl
theorem w1_67 : W (pj lw) 1 67 L S k n H Q ↔ W (pj lw) 1 69 L (.int 32 :: S) k n H Q := W_s (rfl : (pj lw).1 1 67 = some (.bipush 32, 2, 0)) rfl rfl rfl
theorem w1_69 : W (pj lw) 1 69 L (.int 32 :: S) k n H Q ↔ ((k + 1 ≤ 11 ∧ n + 32 ≤ 1824) ∧ W (pj lw) 1 71 L (.ref H.1 :: S) (k + 1) (n + 32) (mkA .boolean 32 H) Q) := W_newarr' (rfl : (pj lw).1 1 69 = some (.newarray .boolean, 2, 0)) rfl (by decide) (by decide)
theorem w1_71 {a : Nat} {v : Value} : W (pj lw) 1 71 L (v :: .ref a :: S) k n H Q ↔ ((isOw H a = true ∧ okv (.array .boolean) v = true) ∧ W (pj lw) 1 74 L S k n (wr H a 8 v) Q) := W_putf (rfl : (pj lw).1 1 71 = some (.putfield 32, 3, 8))
theorem w1_74 {x : Nat} : W (pj lw) 1 74 (.val (.ref x) :: L) S k n H Q ↔ W (pj lw) 1 75 (.val (.ref x) :: L) (.ref x :: S) k n H Q := W_s (rfl : (pj lw).1 1 74 = some (.aload_n 0, 1, 0)) rfl rfl rfl
theorem w1_75 : W (pj lw) 1 75 L S k n H Q ↔ W (pj lw) 1 77 L (.int 32 :: S) k n H Q := W_s (rfl : (pj lw).1 1 75 = some (.bipush 32, 2, 0)) rfl rfl rfl
theorem w1_77 : W (pj lw) 1 77 L (.int 32 :: S) k n H Q ↔ ((k + 1 ≤ 11 ∧ n + 32 ≤ 1824) ∧ W (pj lw) 1 79 L (.ref H.1 :: S) (k + 1) (n + 32) (mkA .int 32 H) Q) := W_newarr' (rfl : (pj lw).1 1 77 = some (.newarray .int, 2, 0)) rfl (by decide) (by decide)
theorem w1_79 {a : Nat} {v : Value} : W (pj lw) 1 79 L (v :: .ref a :: S) k n H Q ↔ ((isOw H a = true ∧ okv (.array .int) v = true) ∧ W (pj lw) 1 82 L S k n (wr H a 9 v) Q) := W_putf (rfl : (pj lw).1 1 79 = some (.putfield 35, 3, 9))
theorem w1_82 {x : Nat} : W (pj lw) 1 82 (.val (.ref x) :: L) S k n H Q ↔ W (pj lw) 1 83 (.val (.ref x) :: L) (.ref x :: S) k n H Q := W_s (rfl : (pj lw).1 1 82 = some (.aload_n 0, 1, 0)) rfl rfl rfl
theorem w1_83 : W (pj lw) 1 83 L S k n H Q ↔ W (pj lw) 1 85 L (.int 32 :: S) k n H Q := W_s (rfl : (pj lw).1 1 83 = some (.bipush 32, 2, 0)) rfl rfl rfl
theorem w1_85 : W (pj lw) 1 85 L (.int 32 :: S) k n H Q ↔ ((k + 1 ≤ 11 ∧ n + 32 ≤ 1824) ∧ W (pj lw) 1 87 L (.ref H.1 :: S) (k + 1) (n + 32) (mkA .int 32 H) Q) := W_newarr' (rfl : (pj lw).1 1 85 = some (.newarray .int, 2, 0)) rfl (by decide) (by decide)
theorem w1_87 {a : Nat} {v : Value} : W (pj lw) 1 87 L (v :: .ref a :: S) k n H Q ↔ ((isOw H a = true ∧ okv (.array .int) v = true) ∧ W (pj lw) 1 90 L S k n (wr H a 10 v) Q) := W_putf (rfl : (pj lw).1 1 87 = some (.putfield 38, 3, 10))
theorem w1_90 {x : Nat} : W (pj lw) 1 90 (.val (.ref x) :: L) S k n H Q ↔ W (pj lw) 1 91 (.val (.ref x) :: L) (.ref x :: S) k n H Q := W_s (rfl : (pj lw).1 1 90 = some (.aload_n 0, 1, 0)) rfl rfl rfl
theorem w1_91 : W (pj lw) 1 91 L S k n H Q ↔ W (pj lw) 1 93 L (.int 32 :: S) k n H Q := W_s (rfl : (pj lw).1 1 91 = some (.bipush 32, 2, 0)) rfl rfl rfl
theorem w1_93 : W (pj lw) 1 93 L (.int 32 :: S) k n H Q ↔ ((k + 1 ≤ 11 ∧ n + 32 ≤ 1824) ∧ W (pj lw) 1 95 L (.ref H.1 :: S) (k + 1) (n + 32) (mkA .int 32 H) Q) := W_newarr' (rfl : (pj lw).1 1 93 = some (.newarray .int, 2, 0)) rfl (by decide) (by decide)
theorem w1_95 {a : Nat} {v : Value} : W (pj lw) 1 95 L (v :: .ref a :: S) k n H Q ↔ ((isOw H a = true ∧ okv (.array .int) v = true) ∧ W (pj lw) 1 98 L S k n (wr H a 11 v) Q) := W_putf (rfl : (pj lw).1 1 95 = some (.putfield 41, 3, 11))
theorem w1_98 {x : Int32} {l0 : Slot} : W (pj lw) 1 98 (l0 :: .val (.int x) :: L) S k n H Q ↔ W (pj lw) 1 99 (l0 :: .val (.int x) :: L) (.int x :: S) k n H Q := W_s (rfl : (pj lw).1 1 98 = some (.iload_n 1, 1, 0)) rfl rfl rfl
theorem w1_99 {x : Int32} {l0 l1 : Slot} : W (pj lw) 1 99 (l0 :: l1 :: .unset :: L) (.int x :: S) k n H Q ↔ W (pj lw) 1 100 (l0 :: l1 :: .val (.int x) :: L) S k n H Q := W_istn (rfl : (pj lw).1 1 99 = some (.istore_n 2, 1, 0)) rfl rfl
theorem w1_100 {x : Int32} {l0 l1 : Slot} : W (pj lw) 1 100 (l0 :: l1 :: .val (.int x) :: L) S k n H Q ↔ W (pj lw) 1 101 (l0 :: l1 :: .val (.int x) :: L) (.int x :: S) k n H Q := W_s (rfl : (pj lw).1 1 100 = some (.iload_n 2, 1, 0)) rfl rfl rfl
theorem w1_101 : W (pj lw) 1 101 L S k n H Q ↔ W (pj lw) 1 102 L (.int 2 :: S) k n H Q := W_s (rfl : (pj lw).1 1 101 = some (.iconst 2, 1, 0)) rfl rfl rfl
theorem w1_102 {x y : Int32} : W (pj lw) 1 102 L (.int y :: .int x :: S) k n H Q ↔ (if x < y then W (pj lw) 1 105 L S k n H Q else W (pj lw) 1 107 L S k n H Q) := W_icmp_ge (rfl : (pj lw).1 1 102 = some (.if_icmp .ge 5, 3, 0)) rfl
theorem w1_105 : W (pj lw) 1 105 L S k n H Q ↔ W (pj lw) 1 106 L (.int 2 :: S) k n H Q := W_s (rfl : (pj lw).1 1 105 = some (.iconst 2, 1, 0)) rfl rfl rfl
theorem w1_106i {y : Int32} {x : Int32} {l0 l1 : Slot} : W (pj lw) 1 106 (l0 :: l1 :: .val (.int y) :: L) (.int x :: S) k n H Q ↔ W (pj lw) 1 107 (l0 :: l1 :: .val (.int x) :: L) S k n H Q := W_istn (rfl : (pj lw).1 1 106 = some (.istore_n 2, 1, 0)) rfl rfl
theorem w1_107 {x : Int32} {l0 l1 : Slot} : W (pj lw) 1 107 (l0 :: l1 :: .val (.int x) :: L) S k n H Q ↔ W (pj lw) 1 108 (l0 :: l1 :: .val (.int x) :: L) (.int x :: S) k n H Q := W_s (rfl : (pj lw).1 1 107 = some (.iload_n 2, 1, 0)) rfl rfl rfl
theorem w1_108 : W (pj lw) 1 108 L S k n H Q ↔ W (pj lw) 1 110 L (.int 32 :: S) k n H Q := W_s (rfl : (pj lw).1 1 108 = some (.bipush 32, 2, 0)) rfl rfl rfl
theorem w1_110 {x y : Int32} : W (pj lw) 1 110 L (.int y :: .int x :: S) k n H Q ↔ (if y < x then W (pj lw) 1 113 L S k n H Q else W (pj lw) 1 116 L S k n H Q) := W_icmp_le (rfl : (pj lw).1 1 110 = some (.if_icmp .le 6, 3, 0)) rfl
theorem w1_113 : W (pj lw) 1 113 L S k n H Q ↔ W (pj lw) 1 115 L (.int 32 :: S) k n H Q := W_s (rfl : (pj lw).1 1 113 = some (.bipush 32, 2, 0)) rfl rfl rfl
theorem w1_115i {y : Int32} {x : Int32} {l0 l1 : Slot} : W (pj lw) 1 115 (l0 :: l1 :: .val (.int y) :: L) (.int x :: S) k n H Q ↔ W (pj lw) 1 116 (l0 :: l1 :: .val (.int x) :: L) S k n H Q := W_istn (rfl : (pj lw).1 1 115 = some (.istore_n 2, 1, 0)) rfl rfl
theorem w1_116 {x : Nat} : W (pj lw) 1 116 (.val (.ref x) :: L) S k n H Q ↔ W (pj lw) 1 117 (.val (.ref x) :: L) (.ref x :: S) k n H Q := W_s (rfl : (pj lw).1 1 116 = some (.aload_n 0, 1, 0)) rfl rfl rfl
theorem w1_117 {x : Int32} {l0 l1 : Slot} : W (pj lw) 1 117 (l0 :: l1 :: .val (.int x) :: L) S k n H Q ↔ W (pj lw) 1 118 (l0 :: l1 :: .val (.int x) :: L) (.int x :: S) k n H Q := W_s (rfl : (pj lw).1 1 117 = some (.iload_n 2, 1, 0)) rfl rfl rfl
theorem w1_118 {a : Nat} {v : Value} : W (pj lw) 1 118 L (v :: .ref a :: S) k n H Q ↔ ((isOw H a = true ∧ okv (.int) v = true) ∧ W (pj lw) 1 121 L S k n (wr H a 0 v) Q) := W_putf (rfl : (pj lw).1 1 118 = some (.putfield 44, 3, 0))
theorem w1_121 {x : Nat} : W (pj lw) 1 121 (.val (.ref x) :: L) S k n H Q ↔ W (pj lw) 1 122 (.val (.ref x) :: L) (.ref x :: S) k n H Q := W_s (rfl : (pj lw).1 1 121 = some (.aload_n 0, 1, 0)) rfl rfl rfl
theorem w1_122 : W (pj lw) 1 122 L S k n H Q ↔ W (pj lw) 1 123 L (.int 0 :: S) k n H Q := W_s (rfl : (pj lw).1 1 122 = some (.iconst 0, 1, 0)) rfl rfl rfl
theorem w1_123 {a : Nat} {v : Value} : W (pj lw) 1 123 L (v :: .ref a :: S) k n H Q ↔ ((isOw H a = true ∧ okv (.int) v = true) ∧ W (pj lw) 1 126 L S k n (wr H a 12 v) Q) := W_putf (rfl : (pj lw).1 1 123 = some (.putfield 48, 3, 12))
theorem w1_126 {x : Nat} : W (pj lw) 1 126 (.val (.ref x) :: L) S k n H Q ↔ W (pj lw) 1 127 (.val (.ref x) :: L) (.ref x :: S) k n H Q := W_s (rfl : (pj lw).1 1 126 = some (.aload_n 0, 1, 0)) rfl rfl rfl
theorem w1_127 : W (pj lw) 1 127 L S k n H Q ↔ W (pj lw) 1 128 L (.int 0 :: S) k n H Q := W_s (rfl : (pj lw).1 1 127 = some (.iconst 0, 1, 0)) rfl rfl rfl
theorem w1_128 {a : Nat} {v : Value} : W (pj lw) 1 128 L (v :: .ref a :: S) k n H Q ↔ ((isOw H a = true ∧ okv (.int) v = true) ∧ W (pj lw) 1 131 L S k n (wr H a 13 v) Q) := W_putf (rfl : (pj lw).1 1 128 = some (.putfield 51, 3, 13))
theorem w1_131 {x : Nat} : W (pj lw) 1 131 (.val (.ref x) :: L) S k n H Q ↔ W (pj lw) 1 132 (.val (.ref x) :: L) (.ref x :: S) k n H Q := W_s (rfl : (pj lw).1 1 131 = some (.aload_n 0, 1, 0)) rfl rfl rfl
theorem w1_132 : W (pj lw) 1 132 L S k n H Q ↔ W (pj lw) 1 133 L (.long 0 :: S) k n H Q := W_s (rfl : (pj lw).1 1 132 = some (.lconst 0, 1, 0)) rfl rfl rfl
theorem w1_133 {a : Nat} {v : Value} : W (pj lw) 1 133 L (v :: .ref a :: S) k n H Q ↔ ((isOw H a = true ∧ okv (.long) v = true) ∧ W (pj lw) 1 136 L S k n (wr H a 14 v) Q) := W_putf (rfl : (pj lw).1 1 133 = some (.putfield 54, 3, 14))
theorem w1_136 {x : Nat} : W (pj lw) 1 136 (.val (.ref x) :: L) S k n H Q ↔ W (pj lw) 1 137 (.val (.ref x) :: L) (.ref x :: S) k n H Q := W_s (rfl : (pj lw).1 1 136 = some (.aload_n 0, 1, 0)) rfl rfl rfl
theorem w1_137 : W (pj lw) 1 137 L S k n H Q ↔ W (pj lw) 1 138 L (.int (-1) :: S) k n H Q := W_s (rfl : (pj lw).1 1 137 = some (.iconst (-1), 1, 0)) rfl rfl rfl
theorem w1_138 {a : Nat} {v : Value} : W (pj lw) 1 138 L (v :: .ref a :: S) k n H Q ↔ ((isOw H a = true ∧ okv (.int) v = true) ∧ W (pj lw) 1 141 L S k n (wr H a 15 v) Q) := W_putf (rfl : (pj lw).1 1 138 = some (.putfield 58, 3, 15))
theorem w1_141 {x : Nat} : W (pj lw) 1 141 (.val (.ref x) :: L) S k n H Q ↔ W (pj lw) 1 142 (.val (.ref x) :: L) (.ref x :: S) k n H Q := W_s (rfl : (pj lw).1 1 141 = some (.aload_n 0, 1, 0)) rfl rfl rfl
theorem w1_142 : W (pj lw) 1 142 L S k n H Q ↔ W (pj lw) 1 143 L (.int (-1) :: S) k n H Q := W_s (rfl : (pj lw).1 1 142 = some (.iconst (-1), 1, 0)) rfl rfl rfl
theorem w1_143 {a : Nat} {v : Value} : W (pj lw) 1 143 L (v :: .ref a :: S) k n H Q ↔ ((isOw H a = true ∧ okv (.int) v = true) ∧ W (pj lw) 1 146 L S k n (wr H a 16 v) Q) := W_putf (rfl : (pj lw).1 1 143 = some (.putfield 61, 3, 16))
theorem w1_146 : W (pj lw) 1 146 L S k n H Q ↔ W (pj lw) 1 147 L (.int 0 :: S) k n H Q := W_s (rfl : (pj lw).1 1 146 = some (.iconst 0, 1, 0)) rfl rfl rfl
theorem w1_147 {x : Int32} {l0 l1 l2 : Slot} : W (pj lw) 1 147 (l0 :: l1 :: l2 :: .unset :: L) (.int x :: S) k n H Q ↔ W (pj lw) 1 148 (l0 :: l1 :: l2 :: .val (.int x) :: L) S k n H Q := W_istn (rfl : (pj lw).1 1 147 = some (.istore_n 3, 1, 0)) rfl rfl
theorem w1_148 {x : Int32} {l0 l1 l2 : Slot} : W (pj lw) 1 148 (l0 :: l1 :: l2 :: .val (.int x) :: L) S k n H Q ↔ W (pj lw) 1 149 (l0 :: l1 :: l2 :: .val (.int x) :: L) (.int x :: S) k n H Q := W_s (rfl : (pj lw).1 1 148 = some (.iload_n 3, 1, 0)) rfl rfl rfl
theorem w1_149 : W (pj lw) 1 149 L S k n H Q ↔ W (pj lw) 1 151 L (.int 32 :: S) k n H Q := W_s (rfl : (pj lw).1 1 149 = some (.bipush 32, 2, 0)) rfl rfl rfl
theorem w1_151 {x y : Int32} : W (pj lw) 1 151 L (.int y :: .int x :: S) k n H Q ↔ (if x < y then W (pj lw) 1 154 L S k n H Q else W (pj lw) 1 167 L S k n H Q) := W_icmp_ge (rfl : (pj lw).1 1 151 = some (.if_icmp .ge 16, 3, 0)) rfl
theorem w1_154 {x : Nat} : W (pj lw) 1 154 (.val (.ref x) :: L) S k n H Q ↔ W (pj lw) 1 155 (.val (.ref x) :: L) (.ref x :: S) k n H Q := W_s (rfl : (pj lw).1 1 154 = some (.aload_n 0, 1, 0)) rfl rfl rfl
theorem w1_155 {a : Nat} : W (pj lw) 1 155 L (.ref a :: S) k n H Q ↔ (isO H a = true ∧ W (pj lw) 1 158 L (fld H a 7 :: S) k n H Q) := W_getf (rfl : (pj lw).1 1 155 = some (.getfield 29, 3, 7))
theorem w1_158 {x : Int32} {l0 l1 l2 : Slot} : W (pj lw) 1 158 (l0 :: l1 :: l2 :: .val (.int x) :: L) S k n H Q ↔ W (pj lw) 1 159 (l0 :: l1 :: l2 :: .val (.int x) :: L) (.int x :: S) k n H Q := W_s (rfl : (pj lw).1 1 158 = some (.iload_n 3, 1, 0)) rfl rfl rfl
theorem w1_159 : W (pj lw) 1 159 L S k n H Q ↔ W (pj lw) 1 160 L (.int 0 :: S) k n H Q := W_s (rfl : (pj lw).1 1 159 = some (.iconst 0, 1, 0)) rfl rfl rfl
theorem w1_160 {x i : Int32} {a : Nat} : W (pj lw) 1 160 L (.int x :: .int i :: .ref a :: S) k n H Q ↔ (inAw H a .int i = true ∧ W (pj lw) 1 161 L S k n (wr H a i.toNatClampNeg (.int x)) Q) := W_iastore (rfl : (pj lw).1 1 160 = some (.iastore, 1, 0))
theorem w1_161 {x : Int32} {l0 l1 l2 : Slot} : W (pj lw) 1 161 (l0 :: l1 :: l2 :: .val (.int x) :: L) S k n H Q ↔ W (pj lw) 1 164 (l0 :: l1 :: l2 :: .val (.int (x + 1)) :: L) S k n H Q := W_s (rfl : (pj lw).1 1 161 = some (.iinc 3 1, 3, 0)) rfl rfl rfl
theorem w1_164 : W (pj lw) 1 164 L S k n H Q ↔ W (pj lw) 1 148 L S k n H Q := W_goto (rfl : (pj lw).1 1 164 = some (.goto (-16), 3, 0)) rfl
theorem w1_167 {x : Nat} : W (pj lw) 1 167 (.val (.ref x) :: L) S k n H Q ↔ W (pj lw) 1 168 (.val (.ref x) :: L) (.ref x :: S) k n H Q := W_s (rfl : (pj lw).1 1 167 = some (.aload_n 0, 1, 0)) rfl rfl rfl
theorem w1_168 {a : Nat} : W (pj lw) 1 168 L (.ref a :: S) k n H Q ↔ ((isO H a = true ∧ cs S + (2 + 11) + 0 ≤ 13) ∧ Cl (pj lw) 29 [.ref a] H (fun v H => W (pj lw) 1 171 L (v.toList ++ S) k n H Q)) := W_inst (as := []) (rfl : (pj lw).1 1 168 = some (.invokevirtual 64, 3, 29)) rfl rfl rfl (Nat.le_of_ble_eq_true rfl) (Nat.le_of_ble_eq_true rfl) ⟨rfl, rfl⟩
theorem w1_171 : W (pj lw) 1 171 L [] k n H Q ↔ Q none H := W_r (rfl : (pj lw).1 1 171 = some (.return_, 1, 0)) rfl
theorem c2 {x0 : Nat} {x1 : Int32} {x2 : Int32} {x3 : Int32} : Cl (pj lw) 2 [.ref x0, .int x1, .int x2, .int x3] H Q ↔ W (pj lw) 2 0 [.val (.ref x0), .val (.int x1), .val (.int x2), .val (.int x3), .unset, .unset] [] 0 0 H Q := cl_unf rfl
theorem w2_0 {x : Nat} : W (pj lw) 2 0 (.val (.ref x) :: L) S k n H Q ↔ W (pj lw) 2 1 (.val (.ref x) :: L) (.ref x :: S) k n H Q := W_s (rfl : (pj lw).1 2 0 = some (.aload_n 0, 1, 0)) rfl rfl rfl
theorem w2_1 {x : Int32} {l0 : Slot} : W (pj lw) 2 1 (l0 :: .val (.int x) :: L) S k n H Q ↔ W (pj lw) 2 2 (l0 :: .val (.int x) :: L) (.int x :: S) k n H Q := W_s (rfl : (pj lw).1 2 1 = some (.iload_n 1, 1, 0)) rfl rfl rfl
theorem w2_2 {a : Nat} {x0 : Int32} : W (pj lw) 2 2 L (.int x0 :: .ref a :: S) k n H Q ↔ ((isO H a = true ∧ cs S + (2 + 11) + 0 ≤ 65) ∧ Cl (pj lw) 39 [.ref a, .int x0] H (fun v H => W (pj lw) 2 5 L (v.toList ++ S) k n H Q)) := W_inst (as := [.int x0]) (rfl : (pj lw).1 2 2 = some (.invokevirtual 67, 3, 39)) rfl rfl rfl (Nat.le_of_ble_eq_true rfl) (Nat.le_of_ble_eq_true rfl) ⟨rfl, rfl⟩
theorem w2_5 {x : Int32} : W (pj lw) 2 5 L (.int x :: S) k n H Q ↔ (if x = 0 then W (pj lw) 2 16 L S k n H Q else W (pj lw) 2 8 L S k n H Q) := W_if_eq (rfl : (pj lw).1 2 5 = some (.ifCond .eq 11, 3, 0)) rfl
theorem w2_8 {x : Nat} : W (pj lw) 2 8 (.val (.ref x) :: L) S k n H Q ↔ W (pj lw) 2 9 (.val (.ref x) :: L) (.ref x :: S) k n H Q := W_s (rfl : (pj lw).1 2 8 = some (.aload_n 0, 1, 0)) rfl rfl rfl
theorem w2_9 {x : Int32} {l0 l1 : Slot} : W (pj lw) 2 9 (l0 :: l1 :: .val (.int x) :: L) S k n H Q ↔ W (pj lw) 2 10 (l0 :: l1 :: .val (.int x) :: L) (.int x :: S) k n H Q := W_s (rfl : (pj lw).1 2 9 = some (.iload_n 2, 1, 0)) rfl rfl rfl
theorem w2_10 {a : Nat} {x0 : Int32} : W (pj lw) 2 10 L (.int x0 :: .ref a :: S) k n H Q ↔ ((isO H a = true ∧ cs S + (2 + 11) + 0 ≤ 65) ∧ Cl (pj lw) 39 [.ref a, .int x0] H (fun v H => W (pj lw) 2 13 L (v.toList ++ S) k n H Q)) := W_inst (as := [.int x0]) (rfl : (pj lw).1 2 10 = some (.invokevirtual 67, 3, 39)) rfl rfl rfl (Nat.le_of_ble_eq_true rfl) (Nat.le_of_ble_eq_true rfl) ⟨rfl, rfl⟩
theorem w2_13 {x : Int32} : W (pj lw) 2 13 L (.int x :: S) k n H Q ↔ (if x = 0 then W (pj lw) 2 16 L S k n H Q else W (pj lw) 2 19 L S k n H Q) := W_if_ne (rfl : (pj lw).1 2 13 = some (.ifCond .ne 6, 3, 0)) rfl
theorem w2_16 : W (pj lw) 2 16 L S k n H Q ↔ W (pj lw) 2 18 L (.int (-2) :: S) k n H Q := W_s (rfl : (pj lw).1 2 16 = some (.bipush (-2), 2, 0)) rfl rfl rfl
theorem w2_18 {x : Int32} : W (pj lw) 2 18 L (.int x :: S) k n H Q ↔ Q (some (.int x)) H := W_r (rfl : (pj lw).1 2 18 = some (.ireturn, 1, 0)) rfl
theorem w2_19 {x : Int32} {l0 : Slot} : W (pj lw) 2 19 (l0 :: .val (.int x) :: L) S k n H Q ↔ W (pj lw) 2 20 (l0 :: .val (.int x) :: L) (.int x :: S) k n H Q := W_s (rfl : (pj lw).1 2 19 = some (.iload_n 1, 1, 0)) rfl rfl rfl
theorem w2_20 {x : Int32} {l0 l1 : Slot} : W (pj lw) 2 20 (l0 :: l1 :: .val (.int x) :: L) S k n H Q ↔ W (pj lw) 2 21 (l0 :: l1 :: .val (.int x) :: L) (.int x :: S) k n H Q := W_s (rfl : (pj lw).1 2 20 = some (.iload_n 2, 1, 0)) rfl rfl rfl
theorem w2_21 {x y : Int32} : W (pj lw) 2 21 L (.int y :: .int x :: S) k n H Q ↔ (if x = y then W (pj lw) 2 24 L S k n H Q else W (pj lw) 2 27 L S k n H Q) := W_icmp_ne (rfl : (pj lw).1 2 21 = some (.if_icmp .ne 6, 3, 0)) rfl
theorem w2_24 : W (pj lw) 2 24 L S k n H Q ↔ W (pj lw) 2 26 L (.int (-3) :: S) k n H Q := W_s (rfl : (pj lw).1 2 24 = some (.bipush (-3), 2, 0)) rfl rfl rfl
theorem w2_26 {x : Int32} : W (pj lw) 2 26 L (.int x :: S) k n H Q ↔ Q (some (.int x)) H := W_r (rfl : (pj lw).1 2 26 = some (.ireturn, 1, 0)) rfl
theorem w2_27 {x : Nat} : W (pj lw) 2 27 (.val (.ref x) :: L) S k n H Q ↔ W (pj lw) 2 28 (.val (.ref x) :: L) (.ref x :: S) k n H Q := W_s (rfl : (pj lw).1 2 27 = some (.aload_n 0, 1, 0)) rfl rfl rfl
theorem w2_28 {a : Nat} : W (pj lw) 2 28 L (.ref a :: S) k n H Q ↔ ((isO H a = true ∧ cs S + (2 + 11) + 0 ≤ 65) ∧ Cl (pj lw) 22 [.ref a] H (fun v H => W (pj lw) 2 31 L (v.toList ++ S) k n H Q)) := W_inst (as := []) (rfl : (pj lw).1 2 28 = some (.invokevirtual 71, 3, 22)) rfl rfl rfl (Nat.le_of_ble_eq_true rfl) (Nat.le_of_ble_eq_true rfl) ⟨rfl, rfl⟩
theorem w2_31 {x : Int32} {l0 l1 l2 l3 : Slot} : W (pj lw) 2 31 (l0 :: l1 :: l2 :: l3 :: .unset :: L) (.int x :: S) k n H Q ↔ W (pj lw) 2 33 (l0 :: l1 :: l2 :: l3 :: .val (.int x) :: L) S k n H Q := W_ist (rfl : (pj lw).1 2 31 = some (.istore 4, 2, 0)) rfl rfl
theorem w2_33 {x : Int32} {l0 l1 l2 l3 : Slot} : W (pj lw) 2 33 (l0 :: l1 :: l2 :: l3 :: .val (.int x) :: L) S k n H Q ↔ W (pj lw) 2 35 (l0 :: l1 :: l2 :: l3 :: .val (.int x) :: L) (.int x :: S) k n H Q := W_s (rfl : (pj lw).1 2 33 = some (.iload 4, 2, 0)) rfl rfl rfl
theorem w2_35 : W (pj lw) 2 35 L S k n H Q ↔ W (pj lw) 2 36 L (.int (-1) :: S) k n H Q := W_s (rfl : (pj lw).1 2 35 = some (.iconst (-1), 1, 0)) rfl rfl rfl
theorem w2_36 {x y : Int32} : W (pj lw) 2 36 L (.int y :: .int x :: S) k n H Q ↔ (if x = y then W (pj lw) 2 39 L S k n H Q else W (pj lw) 2 42 L S k n H Q) := W_icmp_ne (rfl : (pj lw).1 2 36 = some (.if_icmp .ne 6, 3, 0)) rfl
theorem w2_42 {x : Nat} : W (pj lw) 2 42 (.val (.ref x) :: L) S k n H Q ↔ W (pj lw) 2 43 (.val (.ref x) :: L) (.ref x :: S) k n H Q := W_s (rfl : (pj lw).1 2 42 = some (.aload_n 0, 1, 0)) rfl rfl rfl
theorem w2_43 {x : Int32} {l0 l1 l2 : Slot} : W (pj lw) 2 43 (l0 :: l1 :: l2 :: .val (.int x) :: L) S k n H Q ↔ W (pj lw) 2 44 (l0 :: l1 :: l2 :: .val (.int x) :: L) (.int x :: S) k n H Q := W_s (rfl : (pj lw).1 2 43 = some (.iload_n 3, 1, 0)) rfl rfl rfl
theorem w2_44 {a : Nat} {x0 : Int32} : W (pj lw) 2 44 L (.int x0 :: .ref a :: S) k n H Q ↔ ((isO H a = true ∧ cs S + (2 + 11) + 0 ≤ 65) ∧ Cl (pj lw) 41 [.ref a, .int x0] H (fun v H => W (pj lw) 2 47 L (v.toList ++ S) k n H Q)) := W_inst (as := [.int x0]) (rfl : (pj lw).1 2 44 = some (.invokevirtual 75, 3, 41)) rfl rfl rfl (Nat.le_of_ble_eq_true rfl) (Nat.le_of_ble_eq_true rfl) ⟨rfl, rfl⟩
theorem w2_47 {x : Int32} {l0 l1 l2 l3 l4 : Slot} : W (pj lw) 2 47 (l0 :: l1 :: l2 :: l3 :: l4 :: .unset :: L) (.int x :: S) k n H Q ↔ W (pj lw) 2 49 (l0 :: l1 :: l2 :: l3 :: l4 :: .val (.int x) :: L) S k n H Q := W_ist (rfl : (pj lw).1 2 47 = some (.istore 5, 2, 0)) rfl rfl
theorem w2_49 {x : Nat} : W (pj lw) 2 49 (.val (.ref x) :: L) S k n H Q ↔ W (pj lw) 2 50 (.val (.ref x) :: L) (.ref x :: S) k n H Q := W_s (rfl : (pj lw).1 2 49 = some (.aload_n 0, 1, 0)) rfl rfl rfl
theorem w2_50 {x : Int32} {l0 l1 l2 l3 : Slot} : W (pj lw) 2 50 (l0 :: l1 :: l2 :: l3 :: .val (.int x) :: L) S k n H Q ↔ W (pj lw) 2 52 (l0 :: l1 :: l2 :: l3 :: .val (.int x) :: L) (.int x :: S) k n H Q := W_s (rfl : (pj lw).1 2 50 = some (.iload 4, 2, 0)) rfl rfl rfl
theorem w2_52 {x : Int32} {l0 : Slot} : W (pj lw) 2 52 (l0 :: .val (.int x) :: L) S k n H Q ↔ W (pj lw) 2 53 (l0 :: .val (.int x) :: L) (.int x :: S) k n H Q := W_s (rfl : (pj lw).1 2 52 = some (.iload_n 1, 1, 0)) rfl rfl rfl
theorem w2_53 {x : Int32} {l0 l1 : Slot} : W (pj lw) 2 53 (l0 :: l1 :: .val (.int x) :: L) S k n H Q ↔ W (pj lw) 2 54 (l0 :: l1 :: .val (.int x) :: L) (.int x :: S) k n H Q := W_s (rfl : (pj lw).1 2 53 = some (.iload_n 2, 1, 0)) rfl rfl rfl
theorem w2_54 {x : Int32} {l0 l1 l2 l3 l4 : Slot} : W (pj lw) 2 54 (l0 :: l1 :: l2 :: l3 :: l4 :: .val (.int x) :: L) S k n H Q ↔ W (pj lw) 2 56 (l0 :: l1 :: l2 :: l3 :: l4 :: .val (.int x) :: L) (.int x :: S) k n H Q := W_s (rfl : (pj lw).1 2 54 = some (.iload 5, 2, 0)) rfl rfl rfl
theorem w2_56 {a : Nat} {x0 : Int32} {x1 : Int32} {x2 : Int32} {x3 : Int32} : W (pj lw) 2 56 L (.int x3 :: .int x2 :: .int x1 :: .int x0 :: .ref a :: S) k n H Q ↔ ((isO H a = true ∧ cs S + (5 + 11) + 0 ≤ 65) ∧ Cl (pj lw) 23 [.ref a, .int x0, .int x1, .int x2, .int x3] H (fun v H => W (pj lw) 2 59 L (v.toList ++ S) k n H Q)) := W_inst (as := [.int x0, .int x1, .int x2, .int x3]) (rfl : (pj lw).1 2 56 = some (.invokevirtual 79, 3, 23)) rfl rfl rfl (Nat.le_of_ble_eq_true rfl) (Nat.le_of_ble_eq_true rfl) ⟨rfl, rfl⟩
theorem w2_59 {x : Nat} : W (pj lw) 2 59 (.val (.ref x) :: L) S k n H Q ↔ W (pj lw) 2 60 (.val (.ref x) :: L) (.ref x :: S) k n H Q := W_s (rfl : (pj lw).1 2 59 = some (.aload_n 0, 1, 0)) rfl rfl rfl
theorem w2_60 {x : Int32} {l0 l1 l2 l3 : Slot} : W (pj lw) 2 60 (l0 :: l1 :: l2 :: l3 :: .val (.int x) :: L) S k n H Q ↔ W (pj lw) 2 62 (l0 :: l1 :: l2 :: l3 :: .val (.int x) :: L) (.int x :: S) k n H Q := W_s (rfl : (pj lw).1 2 60 = some (.iload 4, 2, 0)) rfl rfl rfl
theorem w2_62 {a : Nat} {x0 : Int32} : W (pj lw) 2 62 L (.int x0 :: .ref a :: S) k n H Q ↔ ((isO H a = true ∧ cs S + (4 + 11) + 50 ≤ 65) ∧ Cl (pj lw) 18 [.ref a, .int x0] H (fun v H => W (pj lw) 2 65 L (v.toList ++ S) k n H Q)) := W_inst (as := [.int x0]) (rfl : (pj lw).1 2 62 = some (.invokevirtual 83, 3, 18)) rfl rfl rfl (Nat.le_of_ble_eq_true rfl) (Nat.le_of_ble_eq_true rfl) ⟨rfl, rfl⟩
theorem w2_65 {x : Int32} {l0 l1 l2 l3 : Slot} : W (pj lw) 2 65 (l0 :: l1 :: l2 :: l3 :: .val (.int x) :: L) S k n H Q ↔ W (pj lw) 2 67 (l0 :: l1 :: l2 :: l3 :: .val (.int x) :: L) (.int x :: S) k n H Q := W_s (rfl : (pj lw).1 2 65 = some (.iload 4, 2, 0)) rfl rfl rfl
theorem w2_67 {x : Int32} : W (pj lw) 2 67 L (.int x :: S) k n H Q ↔ Q (some (.int x)) H := W_r (rfl : (pj lw).1 2 67 = some (.ireturn, 1, 0)) rfl
theorem c3 {x0 : Nat} {x1 : Int32} : Cl (pj lw) 3 [.ref x0, .int x1] H Q ↔ W (pj lw) 3 0 [.val (.ref x0), .val (.int x1)] [] 0 0 H Q := cl_unf rfl
theorem w3_0 {x : Nat} : W (pj lw) 3 0 (.val (.ref x) :: L) S k n H Q ↔ W (pj lw) 3 1 (.val (.ref x) :: L) (.ref x :: S) k n H Q := W_s (rfl : (pj lw).1 3 0 = some (.aload_n 0, 1, 0)) rfl rfl rfl
theorem w3_1 {x : Int32} {l0 : Slot} : W (pj lw) 3 1 (l0 :: .val (.int x) :: L) S k n H Q ↔ W (pj lw) 3 2 (l0 :: .val (.int x) :: L) (.int x :: S) k n H Q := W_s (rfl : (pj lw).1 3 1 = some (.iload_n 1, 1, 0)) rfl rfl rfl
theorem w3_2 {a : Nat} {x0 : Int32} : W (pj lw) 3 2 L (.int x0 :: .ref a :: S) k n H Q ↔ ((isO H a = true ∧ cs S + (2 + 11) + 13 ≤ 64) ∧ Cl (pj lw) 5 [.ref a, .int x0] H (fun v H => W (pj lw) 3 5 L (v.toList ++ S) k n H Q)) := W_inst (as := [.int x0]) (rfl : (pj lw).1 3 2 = some (.invokevirtual 87, 3, 5)) rfl rfl rfl (Nat.le_of_ble_eq_true rfl) (Nat.le_of_ble_eq_true rfl) ⟨rfl, rfl⟩
theorem w3_5 {x : Int32} : W (pj lw) 3 5 L (.int x :: S) k n H Q ↔ (if x = 0 then W (pj lw) 3 8 L S k n H Q else W (pj lw) 3 10 L S k n H Q) := W_if_ne (rfl : (pj lw).1 3 5 = some (.ifCond .ne 5, 3, 0)) rfl
theorem w3_8 : W (pj lw) 3 8 L S k n H Q ↔ W (pj lw) 3 9 L (.int 0 :: S) k n H Q := W_s (rfl : (pj lw).1 3 8 = some (.iconst 0, 1, 0)) rfl rfl rfl
theorem w3_9 {x : Int32} : W (pj lw) 3 9 L (.int x :: S) k n H Q ↔ ((x = 0 ∨ x = 1) ∧ Q (some (.int x)) H) := W_rz (rfl : (pj lw).1 3 9 = some (.ireturn, 1, 0)) rfl
theorem w3_10 {x : Nat} : W (pj lw) 3 10 (.val (.ref x) :: L) S k n H Q ↔ W (pj lw) 3 11 (.val (.ref x) :: L) (.ref x :: S) k n H Q := W_s (rfl : (pj lw).1 3 10 = some (.aload_n 0, 1, 0)) rfl rfl rfl
theorem w3_11 {a : Nat} : W (pj lw) 3 11 L (.ref a :: S) k n H Q ↔ (isO H a = true ∧ W (pj lw) 3 14 L (fld H a 5 :: S) k n H Q) := W_getf (rfl : (pj lw).1 3 11 = some (.getfield 23, 3, 5))
theorem w3_14 {x : Int32} {l0 : Slot} : W (pj lw) 3 14 (l0 :: .val (.int x) :: L) S k n H Q ↔ W (pj lw) 3 15 (l0 :: .val (.int x) :: L) (.int x :: S) k n H Q := W_s (rfl : (pj lw).1 3 14 = some (.iload_n 1, 1, 0)) rfl rfl rfl
theorem w3_15 {i : Int32} {a : Nat} : W (pj lw) 3 15 L (.int i :: .ref a :: S) k n H Q ↔ ((inA H a .byte i = true ∨ inA H a .boolean i = true) ∧ W (pj lw) 3 16 L (elt H a i :: S) k n H Q) := W_baload (rfl : (pj lw).1 3 15 = some (.baload, 1, 0))
theorem w3_16 {x : Int32} : W (pj lw) 3 16 L (.int x :: S) k n H Q ↔ (if x = 0 then W (pj lw) 3 19 L S k n H Q else W (pj lw) 3 32 L S k n H Q) := W_if_ne (rfl : (pj lw).1 3 16 = some (.ifCond .ne 16, 3, 0)) rfl
theorem w3_19 {x : Nat} : W (pj lw) 3 19 (.val (.ref x) :: L) S k n H Q ↔ W (pj lw) 3 20 (.val (.ref x) :: L) (.ref x :: S) k n H Q := W_s (rfl : (pj lw).1 3 19 = some (.aload_n 0, 1, 0)) rfl rfl rfl
theorem w3_20 {x : Int32} {l0 : Slot} : W (pj lw) 3 20 (l0 :: .val (.int x) :: L) S k n H Q ↔ W (pj lw) 3 21 (l0 :: .val (.int x) :: L) (.int x :: S) k n H Q := W_s (rfl : (pj lw).1 3 20 = some (.iload_n 1, 1, 0)) rfl rfl rfl
theorem w3_21 {a : Nat} {x0 : Int32} : W (pj lw) 3 21 L (.int x0 :: .ref a :: S) k n H Q ↔ ((isO H a = true ∧ cs S + (2 + 11) + 0 ≤ 64) ∧ Cl (pj lw) 24 [.ref a, .int x0] H (fun v H => W (pj lw) 3 24 L (v.toList ++ S) k n H Q)) := W_inst (as := [.int x0]) (rfl : (pj lw).1 3 21 = some (.invokevirtual 90, 3, 24)) rfl rfl rfl (Nat.le_of_ble_eq_true rfl) (Nat.le_of_ble_eq_true rfl) ⟨rfl, rfl⟩
theorem w3_24 {x : Nat} : W (pj lw) 3 24 (.val (.ref x) :: L) S k n H Q ↔ W (pj lw) 3 25 (.val (.ref x) :: L) (.ref x :: S) k n H Q := W_s (rfl : (pj lw).1 3 24 = some (.aload_n 0, 1, 0)) rfl rfl rfl
theorem w3_25 : W (pj lw) 3 25 L S k n H Q ↔ W (pj lw) 3 26 L (.int (-1) :: S) k n H Q := W_s (rfl : (pj lw).1 3 25 = some (.iconst (-1), 1, 0)) rfl rfl rfl
theorem w3_26 : W (pj lw) 3 26 L S k n H Q ↔ W (pj lw) 3 27 L (.int (-1) :: S) k n H Q := W_s (rfl : (pj lw).1 3 26 = some (.iconst (-1), 1, 0)) rfl rfl rfl
theorem w3_27 {a : Nat} {x0 : Int32} {x1 : Int32} : W (pj lw) 3 27 L (.int x1 :: .int x0 :: .ref a :: S) k n H Q ↔ ((isO H a = true ∧ cs S + (3 + 11) + 0 ≤ 64) ∧ Cl (pj lw) 21 [.ref a, .int x0, .int x1] H (fun v H => W (pj lw) 3 30 L (v.toList ++ S) k n H Q)) := W_inst (as := [.int x0, .int x1]) (rfl : (pj lw).1 3 27 = some (.invokevirtual 93, 3, 21)) rfl rfl rfl (Nat.le_of_ble_eq_true rfl) (Nat.le_of_ble_eq_true rfl) ⟨rfl, rfl⟩
theorem w3_30 : W (pj lw) 3 30 L S k n H Q ↔ W (pj lw) 3 31 L (.int 1 :: S) k n H Q := W_s (rfl : (pj lw).1 3 30 = some (.iconst 1, 1, 0)) rfl rfl rfl
theorem w3_31 {x : Int32} : W (pj lw) 3 31 L (.int x :: S) k n H Q ↔ ((x = 0 ∨ x = 1) ∧ Q (some (.int x)) H) := W_rz (rfl : (pj lw).1 3 31 = some (.ireturn, 1, 0)) rfl
theorem w3_32 {x : Nat} : W (pj lw) 3 32 (.val (.ref x) :: L) S k n H Q ↔ W (pj lw) 3 33 (.val (.ref x) :: L) (.ref x :: S) k n H Q := W_s (rfl : (pj lw).1 3 32 = some (.aload_n 0, 1, 0)) rfl rfl rfl
theorem w3_33 {x : Int32} {l0 : Slot} : W (pj lw) 3 33 (l0 :: .val (.int x) :: L) S k n H Q ↔ W (pj lw) 3 34 (l0 :: .val (.int x) :: L) (.int x :: S) k n H Q := W_s (rfl : (pj lw).1 3 33 = some (.iload_n 1, 1, 0)) rfl rfl rfl
theorem w3_34 {a : Nat} {x0 : Int32} : W (pj lw) 3 34 L (.int x0 :: .ref a :: S) k n H Q ↔ ((isO H a = true ∧ cs S + (3 + 11) + 50 ≤ 64) ∧ Cl (pj lw) 19 [.ref a, .int x0] H (fun v H => W (pj lw) 3 37 L (v.toList ++ S) k n H Q)) := W_inst (as := [.int x0]) (rfl : (pj lw).1 3 34 = some (.invokevirtual 97, 3, 19)) rfl rfl rfl (Nat.le_of_ble_eq_true rfl) (Nat.le_of_ble_eq_true rfl) ⟨rfl, rfl⟩
theorem w3_37 : W (pj lw) 3 37 L S k n H Q ↔ W (pj lw) 3 38 L (.int 1 :: S) k n H Q := W_s (rfl : (pj lw).1 3 37 = some (.iconst 1, 1, 0)) rfl rfl rfl
theorem w3_38 {x : Int32} : W (pj lw) 3 38 L (.int x :: S) k n H Q ↔ ((x = 0 ∨ x = 1) ∧ Q (some (.int x)) H) := W_rz (rfl : (pj lw).1 3 38 = some (.ireturn, 1, 0)) rfl
theorem c4 {x0 : Nat} {x1 : Int32} {x2 : Int32} : Cl (pj lw) 4 [.ref x0, .int x1, .int x2] H Q ↔ W (pj lw) 4 0 [.val (.ref x0), .val (.int x1), .val (.int x2), .unset] [] 0 0 H Q := cl_unf rfl
theorem w4_0 {x : Nat} : W (pj lw) 4 0 (.val (.ref x) :: L) S k n H Q ↔ W (pj lw) 4 1 (.val (.ref x) :: L) (.ref x :: S) k n H Q := W_s (rfl : (pj lw).1 4 0 = some (.aload_n 0, 1, 0)) rfl rfl rfl
theorem w4_1 {x : Int32} {l0 : Slot} : W (pj lw) 4 1 (l0 :: .val (.int x) :: L) S k n H Q ↔ W (pj lw) 4 2 (l0 :: .val (.int x) :: L) (.int x :: S) k n H Q := W_s (rfl : (pj lw).1 4 1 = some (.iload_n 1, 1, 0)) rfl rfl rfl
theorem w4_2 {a : Nat} {x0 : Int32} : W (pj lw) 4 2 L (.int x0 :: .ref a :: S) k n H Q ↔ ((isO H a = true ∧ cs S + (2 + 11) + 13 ≤ 65) ∧ Cl (pj lw) 5 [.ref a, .int x0] H (fun v H => W (pj lw) 4 5 L (v.toList ++ S) k n H Q)) := W_inst (as := [.int x0]) (rfl : (pj lw).1 4 2 = some (.invokevirtual 87, 3, 5)) rfl rfl rfl (Nat.le_of_ble_eq_true rfl) (Nat.le_of_ble_eq_true rfl) ⟨rfl, rfl⟩
theorem w4_5 {x : Int32} : W (pj lw) 4 5 L (.int x :: S) k n H Q ↔ (if x = 0 then W (pj lw) 4 8 L S k n H Q else W (pj lw) 4 10 L S k n H Q) := W_if_ne (rfl : (pj lw).1 4 5 = some (.ifCond .ne 5, 3, 0)) rfl
theorem w4_8 : W (pj lw) 4 8 L S k n H Q ↔ W (pj lw) 4 9 L (.int 0 :: S) k n H Q := W_s (rfl : (pj lw).1 4 8 = some (.iconst 0, 1, 0)) rfl rfl rfl
theorem w4_9 {x : Int32} : W (pj lw) 4 9 L (.int x :: S) k n H Q ↔ ((x = 0 ∨ x = 1) ∧ Q (some (.int x)) H) := W_rz (rfl : (pj lw).1 4 9 = some (.ireturn, 1, 0)) rfl
theorem w4_10 {x : Nat} : W (pj lw) 4 10 (.val (.ref x) :: L) S k n H Q ↔ W (pj lw) 4 11 (.val (.ref x) :: L) (.ref x :: S) k n H Q := W_s (rfl : (pj lw).1 4 10 = some (.aload_n 0, 1, 0)) rfl rfl rfl
theorem w4_11 {x : Int32} {l0 l1 : Slot} : W (pj lw) 4 11 (l0 :: l1 :: .val (.int x) :: L) S k n H Q ↔ W (pj lw) 4 12 (l0 :: l1 :: .val (.int x) :: L) (.int x :: S) k n H Q := W_s (rfl : (pj lw).1 4 11 = some (.iload_n 2, 1, 0)) rfl rfl rfl
theorem w4_12 {a : Nat} {x0 : Int32} : W (pj lw) 4 12 L (.int x0 :: .ref a :: S) k n H Q ↔ ((isO H a = true ∧ cs S + (2 + 11) + 0 ≤ 65) ∧ Cl (pj lw) 41 [.ref a, .int x0] H (fun v H => W (pj lw) 4 15 L (v.toList ++ S) k n H Q)) := W_inst (as := [.int x0]) (rfl : (pj lw).1 4 12 = some (.invokevirtual 75, 3, 41)) rfl rfl rfl (Nat.le_of_ble_eq_true rfl) (Nat.le_of_ble_eq_true rfl) ⟨rfl, rfl⟩
theorem w4_15 {x : Int32} {l0 l1 l2 : Slot} : W (pj lw) 4 15 (l0 :: l1 :: l2 :: .unset :: L) (.int x :: S) k n H Q ↔ W (pj lw) 4 16 (l0 :: l1 :: l2 :: .val (.int x) :: L) S k n H Q := W_istn (rfl : (pj lw).1 4 15 = some (.istore_n 3, 1, 0)) rfl rfl
theorem w4_16 {x : Nat} : W (pj lw) 4 16 (.val (.ref x) :: L) S k n H Q ↔ W (pj lw) 4 17 (.val (.ref x) :: L) (.ref x :: S) k n H Q := W_s (rfl : (pj lw).1 4 16 = some (.aload_n 0, 1, 0)) rfl rfl rfl
theorem w4_17 {a : Nat} : W (pj lw) 4 17 L (.ref a :: S) k n H Q ↔ (isO H a = true ∧ W (pj lw) 4 20 L (fld H a 5 :: S) k n H Q) := W_getf (rfl : (pj lw).1 4 17 = some (.getfield 23, 3, 5))
theorem w4_20 {x : Int32} {l0 : Slot} : W (pj lw) 4 20 (l0 :: .val (.int x) :: L) S k n H Q ↔ W (pj lw) 4 21 (l0 :: .val (.int x) :: L) (.int x :: S) k n H Q := W_s (rfl : (pj lw).1 4 20 = some (.iload_n 1, 1, 0)) rfl rfl rfl
theorem w4_21 {i : Int32} {a : Nat} : W (pj lw) 4 21 L (.int i :: .ref a :: S) k n H Q ↔ ((inA H a .byte i = true ∨ inA H a .boolean i = true) ∧ W (pj lw) 4 22 L (elt H a i :: S) k n H Q) := W_baload (rfl : (pj lw).1 4 21 = some (.baload, 1, 0))
theorem w4_22 {x : Int32} : W (pj lw) 4 22 L (.int x :: S) k n H Q ↔ (if x = 0 then W (pj lw) 4 34 L S k n H Q else W (pj lw) 4 25 L S k n H Q) := W_if_eq (rfl : (pj lw).1 4 22 = some (.ifCond .eq 12, 3, 0)) rfl
theorem w4_25 {x : Nat} : W (pj lw) 4 25 (.val (.ref x) :: L) S k n H Q ↔ W (pj lw) 4 26 (.val (.ref x) :: L) (.ref x :: S) k n H Q := W_s (rfl : (pj lw).1 4 25 = some (.aload_n 0, 1, 0)) rfl rfl rfl
theorem w4_26 {x : Int32} {l0 : Slot} : W (pj lw) 4 26 (l0 :: .val (.int x) :: L) S k n H Q ↔ W (pj lw) 4 27 (l0 :: .val (.int x) :: L) (.int x :: S) k n H Q := W_s (rfl : (pj lw).1 4 26 = some (.iload_n 1, 1, 0)) rfl rfl rfl
theorem w4_27 {x : Int32} {l0 l1 l2 : Slot} : W (pj lw) 4 27 (l0 :: l1 :: l2 :: .val (.int x) :: L) S k n H Q ↔ W (pj lw) 4 28 (l0 :: l1 :: l2 :: .val (.int x) :: L) (.int x :: S) k n H Q := W_s (rfl : (pj lw).1 4 27 = some (.iload_n 3, 1, 0)) rfl rfl rfl
theorem w4_28 {a : Nat} {x0 : Int32} {x1 : Int32} : W (pj lw) 4 28 L (.int x1 :: .int x0 :: .ref a :: S) k n H Q ↔ ((isO H a = true ∧ cs S + (4 + 11) + 50 ≤ 65) ∧ Cl (pj lw) 20 [.ref a, .int x0, .int x1] H (fun v H => W (pj lw) 4 31 L (v.toList ++ S) k n H Q)) := W_inst (as := [.int x0, .int x1]) (rfl : (pj lw).1 4 28 = some (.invokevirtual 100, 3, 20)) rfl rfl rfl (Nat.le_of_ble_eq_true rfl) (Nat.le_of_ble_eq_true rfl) ⟨rfl, rfl⟩
theorem w4_31 : W (pj lw) 4 31 L S k n H Q ↔ W (pj lw) 4 46 L S k n H Q := W_goto (rfl : (pj lw).1 4 31 = some (.goto 15, 3, 0)) rfl
theorem w4_34 {x : Nat} : W (pj lw) 4 34 (.val (.ref x) :: L) S k n H Q ↔ W (pj lw) 4 35 (.val (.ref x) :: L) (.ref x :: S) k n H Q := W_s (rfl : (pj lw).1 4 34 = some (.aload_n 0, 1, 0)) rfl rfl rfl
theorem w4_35 {a : Nat} : W (pj lw) 4 35 L (.ref a :: S) k n H Q ↔ (isO H a = true ∧ W (pj lw) 4 38 L (fld H a 3 :: S) k n H Q) := W_getf (rfl : (pj lw).1 4 35 = some (.getfield 16, 3, 3))
theorem w4_38 {x : Int32} {l0 : Slot} : W (pj lw) 4 38 (l0 :: .val (.int x) :: L) S k n H Q ↔ W (pj lw) 4 39 (l0 :: .val (.int x) :: L) (.int x :: S) k n H Q := W_s (rfl : (pj lw).1 4 38 = some (.iload_n 1, 1, 0)) rfl rfl rfl
theorem w4_39 {x : Int32} {l0 l1 l2 : Slot} : W (pj lw) 4 39 (l0 :: l1 :: l2 :: .val (.int x) :: L) S k n H Q ↔ W (pj lw) 4 40 (l0 :: l1 :: l2 :: .val (.int x) :: L) (.int x :: S) k n H Q := W_s (rfl : (pj lw).1 4 39 = some (.iload_n 3, 1, 0)) rfl rfl rfl
theorem w4_40 {x i : Int32} {a : Nat} : W (pj lw) 4 40 L (.int x :: .int i :: .ref a :: S) k n H Q ↔ (inAw H a .int i = true ∧ W (pj lw) 4 41 L S k n (wr H a i.toNatClampNeg (.int x)) Q) := W_iastore (rfl : (pj lw).1 4 40 = some (.iastore, 1, 0))
theorem w4_41 {x : Nat} : W (pj lw) 4 41 (.val (.ref x) :: L) S k n H Q ↔ W (pj lw) 4 42 (.val (.ref x) :: L) (.ref x :: S) k n H Q := W_s (rfl : (pj lw).1 4 41 = some (.aload_n 0, 1, 0)) rfl rfl rfl
theorem w4_42 {x : Int32} {l0 : Slot} : W (pj lw) 4 42 (l0 :: .val (.int x) :: L) S k n H Q ↔ W (pj lw) 4 43 (l0 :: .val (.int x) :: L) (.int x :: S) k n H Q := W_s (rfl : (pj lw).1 4 42 = some (.iload_n 1, 1, 0)) rfl rfl rfl
theorem w4_43 {a : Nat} {x0 : Int32} : W (pj lw) 4 43 L (.int x0 :: .ref a :: S) k n H Q ↔ ((isO H a = true ∧ cs S + (4 + 11) + 50 ≤ 65) ∧ Cl (pj lw) 18 [.ref a, .int x0] H (fun v H => W (pj lw) 4 46 L (v.toList ++ S) k n H Q)) := W_inst (as := [.int x0]) (rfl : (pj lw).1 4 43 = some (.invokevirtual 83, 3, 18)) rfl rfl rfl (Nat.le_of_ble_eq_true rfl) (Nat.le_of_ble_eq_true rfl) ⟨rfl, rfl⟩
theorem w4_46 : W (pj lw) 4 46 L S k n H Q ↔ W (pj lw) 4 47 L (.int 1 :: S) k n H Q := W_s (rfl : (pj lw).1 4 46 = some (.iconst 1, 1, 0)) rfl rfl rfl
theorem w4_47 {x : Int32} : W (pj lw) 4 47 L (.int x :: S) k n H Q ↔ ((x = 0 ∨ x = 1) ∧ Q (some (.int x)) H) := W_rz (rfl : (pj lw).1 4 47 = some (.ireturn, 1, 0)) rfl
theorem c5 {x0 : Nat} {x1 : Int32} : Cl (pj lw) 5 [.ref x0, .int x1] H Q ↔ W (pj lw) 5 0 [.val (.ref x0), .val (.int x1)] [] 0 0 H Q := cl_unf rfl
theorem w5_0 {x : Nat} : W (pj lw) 5 0 (.val (.ref x) :: L) S k n H Q ↔ W (pj lw) 5 1 (.val (.ref x) :: L) (.ref x :: S) k n H Q := W_s (rfl : (pj lw).1 5 0 = some (.aload_n 0, 1, 0)) rfl rfl rfl
theorem w5_1 {x : Int32} {l0 : Slot} : W (pj lw) 5 1 (l0 :: .val (.int x) :: L) S k n H Q ↔ W (pj lw) 5 2 (l0 :: .val (.int x) :: L) (.int x :: S) k n H Q := W_s (rfl : (pj lw).1 5 1 = some (.iload_n 1, 1, 0)) rfl rfl rfl
theorem w5_2 {a : Nat} {x0 : Int32} : W (pj lw) 5 2 L (.int x0 :: .ref a :: S) k n H Q ↔ ((isO H a = true ∧ cs S + (2 + 11) + 0 ≤ 13) ∧ Cl (pj lw) 40 [.ref a, .int x0] H (fun v H => W (pj lw) 5 5 L (v.toList ++ S) k n H Q)) := W_inst (as := [.int x0]) (rfl : (pj lw).1 5 2 = some (.invokevirtual 103, 3, 40)) rfl rfl rfl (Nat.le_of_ble_eq_true rfl) (Nat.le_of_ble_eq_true rfl) ⟨rfl, rfl⟩
theorem w5_5 {x : Int32} : W (pj lw) 5 5 L (.int x :: S) k n H Q ↔ (if x = 0 then W (pj lw) 5 21 L S k n H Q else W (pj lw) 5 8 L S k n H Q) := W_if_eq (rfl : (pj lw).1 5 5 = some (.ifCond .eq 16, 3, 0)) rfl
theorem w5_8 {x : Nat} : W (pj lw) 5 8 (.val (.ref x) :: L) S k n H Q ↔ W (pj lw) 5 9 (.val (.ref x) :: L) (.ref x :: S) k n H Q := W_s (rfl : (pj lw).1 5 8 = some (.aload_n 0, 1, 0)) rfl rfl rfl
theorem w5_9 {a : Nat} : W (pj lw) 5 9 L (.ref a :: S) k n H Q ↔ (isO H a = true ∧ W (pj lw) 5 12 L (fld H a 4 :: S) k n H Q) := W_getf (rfl : (pj lw).1 5 9 = some (.getfield 19, 3, 4))
theorem w5_12 {x : Int32} {l0 : Slot} : W (pj lw) 5 12 (l0 :: .val (.int x) :: L) S k n H Q ↔ W (pj lw) 5 13 (l0 :: .val (.int x) :: L) (.int x :: S) k n H Q := W_s (rfl : (pj lw).1 5 12 = some (.iload_n 1, 1, 0)) rfl rfl rfl
theorem w5_13 {i : Int32} {a : Nat} : W (pj lw) 5 13 L (.int i :: .ref a :: S) k n H Q ↔ ((inA H a .byte i = true ∨ inA H a .boolean i = true) ∧ W (pj lw) 5 14 L (elt H a i :: S) k n H Q) := W_baload (rfl : (pj lw).1 5 13 = some (.baload, 1, 0))
theorem w5_14 {x : Int32} : W (pj lw) 5 14 L (.int x :: S) k n H Q ↔ (if x = 0 then W (pj lw) 5 21 L S k n H Q else W (pj lw) 5 17 L S k n H Q) := W_if_eq (rfl : (pj lw).1 5 14 = some (.ifCond .eq 7, 3, 0)) rfl
theorem w5_17 : W (pj lw) 5 17 L S k n H Q ↔ W (pj lw) 5 18 L (.int 1 :: S) k n H Q := W_s (rfl : (pj lw).1 5 17 = some (.iconst 1, 1, 0)) rfl rfl rfl
theorem w5_18 : W (pj lw) 5 18 L S k n H Q ↔ W (pj lw) 5 22 L S k n H Q := W_goto (rfl : (pj lw).1 5 18 = some (.goto 4, 3, 0)) rfl
theorem w5_21 : W (pj lw) 5 21 L S k n H Q ↔ W (pj lw) 5 22 L (.int 0 :: S) k n H Q := W_s (rfl : (pj lw).1 5 21 = some (.iconst 0, 1, 0)) rfl rfl rfl
theorem w5_22 {x : Int32} : W (pj lw) 5 22 L (.int x :: S) k n H Q ↔ ((x = 0 ∨ x = 1) ∧ Q (some (.int x)) H) := W_rz (rfl : (pj lw).1 5 22 = some (.ireturn, 1, 0)) rfl
theorem c6 {x0 : Nat} {x1 : Int32} : Cl (pj lw) 6 [.ref x0, .int x1] H Q ↔ W (pj lw) 6 0 [.val (.ref x0), .val (.int x1)] [] 0 0 H Q := cl_unf rfl
theorem w6_0 {x : Nat} : W (pj lw) 6 0 (.val (.ref x) :: L) S k n H Q ↔ W (pj lw) 6 1 (.val (.ref x) :: L) (.ref x :: S) k n H Q := W_s (rfl : (pj lw).1 6 0 = some (.aload_n 0, 1, 0)) rfl rfl rfl
theorem w6_1 {x : Int32} {l0 : Slot} : W (pj lw) 6 1 (l0 :: .val (.int x) :: L) S k n H Q ↔ W (pj lw) 6 2 (l0 :: .val (.int x) :: L) (.int x :: S) k n H Q := W_s (rfl : (pj lw).1 6 1 = some (.iload_n 1, 1, 0)) rfl rfl rfl
theorem w6_2 {a : Nat} {x0 : Int32} : W (pj lw) 6 2 L (.int x0 :: .ref a :: S) k n H Q ↔ ((isO H a = true ∧ cs S + (2 + 11) + 0 ≤ 13) ∧ Cl (pj lw) 40 [.ref a, .int x0] H (fun v H => W (pj lw) 6 5 L (v.toList ++ S) k n H Q)) := W_inst (as := [.int x0]) (rfl : (pj lw).1 6 2 = some (.invokevirtual 103, 3, 40)) rfl rfl rfl (Nat.le_of_ble_eq_true rfl) (Nat.le_of_ble_eq_true rfl) ⟨rfl, rfl⟩
theorem w6_5 {x : Int32} : W (pj lw) 6 5 L (.int x :: S) k n H Q ↔ (if x = 0 then W (pj lw) 6 30 L S k n H Q else W (pj lw) 6 8 L S k n H Q) := W_if_eq (rfl : (pj lw).1 6 5 = some (.ifCond .eq 25, 3, 0)) rfl
theorem w6_8 {x : Nat} : W (pj lw) 6 8 (.val (.ref x) :: L) S k n H Q ↔ W (pj lw) 6 9 (.val (.ref x) :: L) (.ref x :: S) k n H Q := W_s (rfl : (pj lw).1 6 8 = some (.aload_n 0, 1, 0)) rfl rfl rfl
theorem w6_9 {a : Nat} : W (pj lw) 6 9 L (.ref a :: S) k n H Q ↔ (isO H a = true ∧ W (pj lw) 6 12 L (fld H a 4 :: S) k n H Q) := W_getf (rfl : (pj lw).1 6 9 = some (.getfield 19, 3, 4))
theorem w6_12 {x : Int32} {l0 : Slot} : W (pj lw) 6 12 (l0 :: .val (.int x) :: L) S k n H Q ↔ W (pj lw) 6 13 (l0 :: .val (.int x) :: L) (.int x :: S) k n H Q := W_s (rfl : (pj lw).1 6 12 = some (.iload_n 1, 1, 0)) rfl rfl rfl
theorem w6_13 {i : Int32} {a : Nat} : W (pj lw) 6 13 L (.int i :: .ref a :: S) k n H Q ↔ ((inA H a .byte i = true ∨ inA H a .boolean i = true) ∧ W (pj lw) 6 14 L (elt H a i :: S) k n H Q) := W_baload (rfl : (pj lw).1 6 13 = some (.baload, 1, 0))
theorem w6_14 {x : Int32} : W (pj lw) 6 14 L (.int x :: S) k n H Q ↔ (if x = 0 then W (pj lw) 6 30 L S k n H Q else W (pj lw) 6 17 L S k n H Q) := W_if_eq (rfl : (pj lw).1 6 14 = some (.ifCond .eq 16, 3, 0)) rfl
theorem w6_17 {x : Nat} : W (pj lw) 6 17 (.val (.ref x) :: L) S k n H Q ↔ W (pj lw) 6 18 (.val (.ref x) :: L) (.ref x :: S) k n H Q := W_s (rfl : (pj lw).1 6 17 = some (.aload_n 0, 1, 0)) rfl rfl rfl
theorem w6_18 {a : Nat} : W (pj lw) 6 18 L (.ref a :: S) k n H Q ↔ (isO H a = true ∧ W (pj lw) 6 21 L (fld H a 5 :: S) k n H Q) := W_getf (rfl : (pj lw).1 6 18 = some (.getfield 23, 3, 5))
theorem w6_21 {x : Int32} {l0 : Slot} : W (pj lw) 6 21 (l0 :: .val (.int x) :: L) S k n H Q ↔ W (pj lw) 6 22 (l0 :: .val (.int x) :: L) (.int x :: S) k n H Q := W_s (rfl : (pj lw).1 6 21 = some (.iload_n 1, 1, 0)) rfl rfl rfl
theorem w6_22 {i : Int32} {a : Nat} : W (pj lw) 6 22 L (.int i :: .ref a :: S) k n H Q ↔ ((inA H a .byte i = true ∨ inA H a .boolean i = true) ∧ W (pj lw) 6 23 L (elt H a i :: S) k n H Q) := W_baload (rfl : (pj lw).1 6 22 = some (.baload, 1, 0))
theorem w6_23 {x : Int32} : W (pj lw) 6 23 L (.int x :: S) k n H Q ↔ (if x = 0 then W (pj lw) 6 30 L S k n H Q else W (pj lw) 6 26 L S k n H Q) := W_if_eq (rfl : (pj lw).1 6 23 = some (.ifCond .eq 7, 3, 0)) rfl
theorem w6_26 : W (pj lw) 6 26 L S k n H Q ↔ W (pj lw) 6 27 L (.int 1 :: S) k n H Q := W_s (rfl : (pj lw).1 6 26 = some (.iconst 1, 1, 0)) rfl rfl rfl
theorem w6_27 : W (pj lw) 6 27 L S k n H Q ↔ W (pj lw) 6 31 L S k n H Q := W_goto (rfl : (pj lw).1 6 27 = some (.goto 4, 3, 0)) rfl
theorem w6_30 : W (pj lw) 6 30 L S k n H Q ↔ W (pj lw) 6 31 L (.int 0 :: S) k n H Q := W_s (rfl : (pj lw).1 6 30 = some (.iconst 0, 1, 0)) rfl rfl rfl
theorem w6_31 {x : Int32} : W (pj lw) 6 31 L (.int x :: S) k n H Q ↔ ((x = 0 ∨ x = 1) ∧ Q (some (.int x)) H) := W_rz (rfl : (pj lw).1 6 31 = some (.ireturn, 1, 0)) rfl
theorem c7 {x0 : Nat} {x1 : Int32} {x2 : Int32} : Cl (pj lw) 7 [.ref x0, .int x1, .int x2] H Q ↔ W (pj lw) 7 0 [.val (.ref x0), .val (.int x1), .val (.int x2)] [] 0 0 H Q := cl_unf rfl
theorem w7_0 {x : Nat} : W (pj lw) 7 0 (.val (.ref x) :: L) S k n H Q ↔ W (pj lw) 7 1 (.val (.ref x) :: L) (.ref x :: S) k n H Q := W_s (rfl : (pj lw).1 7 0 = some (.aload_n 0, 1, 0)) rfl rfl rfl
theorem w7_1 {x : Int32} {l0 : Slot} : W (pj lw) 7 1 (l0 :: .val (.int x) :: L) S k n H Q ↔ W (pj lw) 7 2 (l0 :: .val (.int x) :: L) (.int x :: S) k n H Q := W_s (rfl : (pj lw).1 7 1 = some (.iload_n 1, 1, 0)) rfl rfl rfl
theorem w7_2 {a : Nat} {x0 : Int32} : W (pj lw) 7 2 L (.int x0 :: .ref a :: S) k n H Q ↔ ((isO H a = true ∧ cs S + (2 + 11) + 13 ≤ 26) ∧ Cl (pj lw) 5 [.ref a, .int x0] H (fun v H => W (pj lw) 7 5 L (v.toList ++ S) k n H Q)) := W_inst (as := [.int x0]) (rfl : (pj lw).1 7 2 = some (.invokevirtual 87, 3, 5)) rfl rfl rfl (Nat.le_of_ble_eq_true rfl) (Nat.le_of_ble_eq_true rfl) ⟨rfl, rfl⟩
theorem w7_5 {x : Int32} : W (pj lw) 7 5 L (.int x :: S) k n H Q ↔ (if x = 0 then W (pj lw) 7 8 L S k n H Q else W (pj lw) 7 10 L S k n H Q) := W_if_ne (rfl : (pj lw).1 7 5 = some (.ifCond .ne 5, 3, 0)) rfl
theorem w7_8 : W (pj lw) 7 8 L S k n H Q ↔ W (pj lw) 7 9 L (.int (-1) :: S) k n H Q := W_s (rfl : (pj lw).1 7 8 = some (.iconst (-1), 1, 0)) rfl rfl rfl
theorem w7_9 {x : Int32} : W (pj lw) 7 9 L (.int x :: S) k n H Q ↔ Q (some (.int x)) H := W_r (rfl : (pj lw).1 7 9 = some (.ireturn, 1, 0)) rfl
theorem w7_10 {x : Int32} {l0 l1 : Slot} : W (pj lw) 7 10 (l0 :: l1 :: .val (.int x) :: L) S k n H Q ↔ W (pj lw) 7 11 (l0 :: l1 :: .val (.int x) :: L) (.int x :: S) k n H Q := W_s (rfl : (pj lw).1 7 10 = some (.iload_n 2, 1, 0)) rfl rfl rfl
theorem w7_11 {x : Int32} : W (pj lw) 7 11 L (.int x :: S) k n H Q ↔ (if x = 0 then W (pj lw) 7 14 L S k n H Q else W (pj lw) 7 21 L S k n H Q) := W_if_ne (rfl : (pj lw).1 7 11 = some (.ifCond .ne 10, 3, 0)) rfl
theorem w7_14 {x : Nat} : W (pj lw) 7 14 (.val (.ref x) :: L) S k n H Q ↔ W (pj lw) 7 15 (.val (.ref x) :: L) (.ref x :: S) k n H Q := W_s (rfl : (pj lw).1 7 14 = some (.aload_n 0, 1, 0)) rfl rfl rfl
theorem w7_15 {a : Nat} : W (pj lw) 7 15 L (.ref a :: S) k n H Q ↔ (isO H a = true ∧ W (pj lw) 7 18 L (fld H a 1 :: S) k n H Q) := W_getf (rfl : (pj lw).1 7 15 = some (.getfield 7, 3, 1))
theorem w7_18 {x : Int32} {l0 : Slot} : W (pj lw) 7 18 (l0 :: .val (.int x) :: L) S k n H Q ↔ W (pj lw) 7 19 (l0 :: .val (.int x) :: L) (.int x :: S) k n H Q := W_s (rfl : (pj lw).1 7 18 = some (.iload_n 1, 1, 0)) rfl rfl rfl
theorem w7_19 {i : Int32} {a : Nat} : W (pj lw) 7 19 L (.int i :: .ref a :: S) k n H Q ↔ (inA H a .int i = true ∧ W (pj lw) 7 20 L (elt H a i :: S) k n H Q) := W_iaload (rfl : (pj lw).1 7 19 = some (.iaload, 1, 0))
theorem w7_20 {x : Int32} : W (pj lw) 7 20 L (.int x :: S) k n H Q ↔ Q (some (.int x)) H := W_r (rfl : (pj lw).1 7 20 = some (.ireturn, 1, 0)) rfl
theorem w7_21 {x : Int32} {l0 l1 : Slot} : W (pj lw) 7 21 (l0 :: l1 :: .val (.int x) :: L) S k n H Q ↔ W (pj lw) 7 22 (l0 :: l1 :: .val (.int x) :: L) (.int x :: S) k n H Q := W_s (rfl : (pj lw).1 7 21 = some (.iload_n 2, 1, 0)) rfl rfl rfl
theorem w7_22 : W (pj lw) 7 22 L S k n H Q ↔ W (pj lw) 7 23 L (.int 1 :: S) k n H Q := W_s (rfl : (pj lw).1 7 22 = some (.iconst 1, 1, 0)) rfl rfl rfl
theorem w7_23 {x y : Int32} : W (pj lw) 7 23 L (.int y :: .int x :: S) k n H Q ↔ (if x = y then W (pj lw) 7 26 L S k n H Q else W (pj lw) 7 33 L S k n H Q) := W_icmp_ne (rfl : (pj lw).1 7 23 = some (.if_icmp .ne 10, 3, 0)) rfl
theorem w7_26 {x : Nat} : W (pj lw) 7 26 (.val (.ref x) :: L) S k n H Q ↔ W (pj lw) 7 27 (.val (.ref x) :: L) (.ref x :: S) k n H Q := W_s (rfl : (pj lw).1 7 26 = some (.aload_n 0, 1, 0)) rfl rfl rfl
theorem w7_27 {a : Nat} : W (pj lw) 7 27 L (.ref a :: S) k n H Q ↔ (isO H a = true ∧ W (pj lw) 7 30 L (fld H a 2 :: S) k n H Q) := W_getf (rfl : (pj lw).1 7 27 = some (.getfield 13, 3, 2))
theorem w7_30 {x : Int32} {l0 : Slot} : W (pj lw) 7 30 (l0 :: .val (.int x) :: L) S k n H Q ↔ W (pj lw) 7 31 (l0 :: .val (.int x) :: L) (.int x :: S) k n H Q := W_s (rfl : (pj lw).1 7 30 = some (.iload_n 1, 1, 0)) rfl rfl rfl
theorem w7_31 {i : Int32} {a : Nat} : W (pj lw) 7 31 L (.int i :: .ref a :: S) k n H Q ↔ (inA H a .int i = true ∧ W (pj lw) 7 32 L (elt H a i :: S) k n H Q) := W_iaload (rfl : (pj lw).1 7 31 = some (.iaload, 1, 0))
theorem w7_32 {x : Int32} : W (pj lw) 7 32 L (.int x :: S) k n H Q ↔ Q (some (.int x)) H := W_r (rfl : (pj lw).1 7 32 = some (.ireturn, 1, 0)) rfl
theorem c8 {x0 : Nat} {x1 : Int32} : Cl (pj lw) 8 [.ref x0, .int x1] H Q ↔ W (pj lw) 8 0 [.val (.ref x0), .val (.int x1)] [] 0 0 H Q := cl_unf rfl
theorem w8_0 {x : Nat} : W (pj lw) 8 0 (.val (.ref x) :: L) S k n H Q ↔ W (pj lw) 8 1 (.val (.ref x) :: L) (.ref x :: S) k n H Q := W_s (rfl : (pj lw).1 8 0 = some (.aload_n 0, 1, 0)) rfl rfl rfl
theorem w8_1 {x : Int32} {l0 : Slot} : W (pj lw) 8 1 (l0 :: .val (.int x) :: L) S k n H Q ↔ W (pj lw) 8 2 (l0 :: .val (.int x) :: L) (.int x :: S) k n H Q := W_s (rfl : (pj lw).1 8 1 = some (.iload_n 1, 1, 0)) rfl rfl rfl
theorem w8_2 {a : Nat} {x0 : Int32} : W (pj lw) 8 2 L (.int x0 :: .ref a :: S) k n H Q ↔ ((isO H a = true ∧ cs S + (2 + 11) + 13 ≤ 26) ∧ Cl (pj lw) 5 [.ref a, .int x0] H (fun v H => W (pj lw) 8 5 L (v.toList ++ S) k n H Q)) := W_inst (as := [.int x0]) (rfl : (pj lw).1 8 2 = some (.invokevirtual 87, 3, 5)) rfl rfl rfl (Nat.le_of_ble_eq_true rfl) (Nat.le_of_ble_eq_true rfl) ⟨rfl, rfl⟩
theorem w8_5 {x : Int32} : W (pj lw) 8 5 L (.int x :: S) k n H Q ↔ (if x = 0 then W (pj lw) 8 8 L S k n H Q else W (pj lw) 8 10 L S k n H Q) := W_if_ne (rfl : (pj lw).1 8 5 = some (.ifCond .ne 5, 3, 0)) rfl
theorem w8_8 : W (pj lw) 8 8 L S k n H Q ↔ W (pj lw) 8 9 L (.int 0 :: S) k n H Q := W_s (rfl : (pj lw).1 8 8 = some (.iconst 0, 1, 0)) rfl rfl rfl
theorem w8_9 {x : Int32} : W (pj lw) 8 9 L (.int x :: S) k n H Q ↔ Q (some (.int x)) H := W_r (rfl : (pj lw).1 8 9 = some (.ireturn, 1, 0)) rfl
theorem w8_10 {x : Nat} : W (pj lw) 8 10 (.val (.ref x) :: L) S k n H Q ↔ W (pj lw) 8 11 (.val (.ref x) :: L) (.ref x :: S) k n H Q := W_s (rfl : (pj lw).1 8 10 = some (.aload_n 0, 1, 0)) rfl rfl rfl
theorem w8_11 {a : Nat} : W (pj lw) 8 11 L (.ref a :: S) k n H Q ↔ (isO H a = true ∧ W (pj lw) 8 14 L (fld H a 3 :: S) k n H Q) := W_getf (rfl : (pj lw).1 8 11 = some (.getfield 16, 3, 3))
theorem w8_14 {x : Int32} {l0 : Slot} : W (pj lw) 8 14 (l0 :: .val (.int x) :: L) S k n H Q ↔ W (pj lw) 8 15 (l0 :: .val (.int x) :: L) (.int x :: S) k n H Q := W_s (rfl : (pj lw).1 8 14 = some (.iload_n 1, 1, 0)) rfl rfl rfl
theorem w8_15 {i : Int32} {a : Nat} : W (pj lw) 8 15 L (.int i :: .ref a :: S) k n H Q ↔ (inA H a .int i = true ∧ W (pj lw) 8 16 L (elt H a i :: S) k n H Q) := W_iaload (rfl : (pj lw).1 8 15 = some (.iaload, 1, 0))
theorem w8_16 {x : Int32} : W (pj lw) 8 16 L (.int x :: S) k n H Q ↔ Q (some (.int x)) H := W_r (rfl : (pj lw).1 8 16 = some (.ireturn, 1, 0)) rfl
theorem c9 {x0 : Nat} : Cl (pj lw) 9 [.ref x0] H Q ↔ W (pj lw) 9 0 [.val (.ref x0)] [] 0 0 H Q := cl_unf rfl
theorem w9_0 {x : Nat} : W (pj lw) 9 0 (.val (.ref x) :: L) S k n H Q ↔ W (pj lw) 9 1 (.val (.ref x) :: L) (.ref x :: S) k n H Q := W_s (rfl : (pj lw).1 9 0 = some (.aload_n 0, 1, 0)) rfl rfl rfl
theorem w9_1 {a : Nat} : W (pj lw) 9 1 L (.ref a :: S) k n H Q ↔ (isO H a = true ∧ W (pj lw) 9 4 L (fld H a 12 :: S) k n H Q) := W_getf (rfl : (pj lw).1 9 1 = some (.getfield 48, 3, 12))
theorem w9_4 {x : Int32} : W (pj lw) 9 4 L (.int x :: S) k n H Q ↔ Q (some (.int x)) H := W_r (rfl : (pj lw).1 9 4 = some (.ireturn, 1, 0)) rfl
theorem c10 {x0 : Nat} : Cl (pj lw) 10 [.ref x0] H Q ↔ W (pj lw) 10 0 [.val (.ref x0)] [] 0 0 H Q := cl_unf rfl
theorem w10_0 {x : Nat} : W (pj lw) 10 0 (.val (.ref x) :: L) S k n H Q ↔ W (pj lw) 10 1 (.val (.ref x) :: L) (.ref x :: S) k n H Q := W_s (rfl : (pj lw).1 10 0 = some (.aload_n 0, 1, 0)) rfl rfl rfl
theorem w10_1 {a : Nat} : W (pj lw) 10 1 L (.ref a :: S) k n H Q ↔ (isO H a = true ∧ W (pj lw) 10 4 L (fld H a 14 :: S) k n H Q) := W_getf (rfl : (pj lw).1 10 1 = some (.getfield 54, 3, 14))
theorem w10_4 {x : Int64} : W (pj lw) 10 4 L (.long x :: S) k n H Q ↔ Q (some (.long x)) H := W_r (rfl : (pj lw).1 10 4 = some (.lreturn, 1, 0)) rfl
theorem c11 {x0 : Nat} : Cl (pj lw) 11 [.ref x0] H Q ↔ W (pj lw) 11 0 [.val (.ref x0)] [] 0 0 H Q := cl_unf rfl
theorem w11_0 {x : Nat} : W (pj lw) 11 0 (.val (.ref x) :: L) S k n H Q ↔ W (pj lw) 11 1 (.val (.ref x) :: L) (.ref x :: S) k n H Q := W_s (rfl : (pj lw).1 11 0 = some (.aload_n 0, 1, 0)) rfl rfl rfl
theorem w11_1 {a : Nat} : W (pj lw) 11 1 L (.ref a :: S) k n H Q ↔ (isO H a = true ∧ W (pj lw) 11 4 L (fld H a 13 :: S) k n H Q) := W_getf (rfl : (pj lw).1 11 1 = some (.getfield 51, 3, 13))
theorem w11_4 {x : Int32} : W (pj lw) 11 4 L (.int x :: S) k n H Q ↔ Q (some (.int x)) H := W_r (rfl : (pj lw).1 11 4 = some (.ireturn, 1, 0)) rfl
theorem c12 {x0 : Nat} : Cl (pj lw) 12 [.ref x0] H Q ↔ W (pj lw) 12 0 [.val (.ref x0)] [] 0 0 H Q := cl_unf rfl
theorem w12_0 {x : Nat} : W (pj lw) 12 0 (.val (.ref x) :: L) S k n H Q ↔ W (pj lw) 12 1 (.val (.ref x) :: L) (.ref x :: S) k n H Q := W_s (rfl : (pj lw).1 12 0 = some (.aload_n 0, 1, 0)) rfl rfl rfl
theorem w12_1 {a : Nat} : W (pj lw) 12 1 L (.ref a :: S) k n H Q ↔ (isO H a = true ∧ W (pj lw) 12 4 L (fld H a 0 :: S) k n H Q) := W_getf (rfl : (pj lw).1 12 1 = some (.getfield 44, 3, 0))
theorem w12_4 {x : Nat} : W (pj lw) 12 4 (.val (.ref x) :: L) S k n H Q ↔ W (pj lw) 12 5 (.val (.ref x) :: L) (.ref x :: S) k n H Q := W_s (rfl : (pj lw).1 12 4 = some (.aload_n 0, 1, 0)) rfl rfl rfl
theorem w12_5 {a : Nat} : W (pj lw) 12 5 L (.ref a :: S) k n H Q ↔ (isO H a = true ∧ W (pj lw) 12 8 L (fld H a 13 :: S) k n H Q) := W_getf (rfl : (pj lw).1 12 5 = some (.getfield 51, 3, 13))
theorem w12_8 {x y : Int32} : W (pj lw) 12 8 L (.int y :: .int x :: S) k n H Q ↔ W (pj lw) 12 9 L (.int (x - y) :: S) k n H Q := W_s (rfl : (pj lw).1 12 8 = some (.isub, 1, 0)) rfl rfl rfl
theorem w12_9 {x : Int32} : W (pj lw) 12 9 L (.int x :: S) k n H Q ↔ Q (some (.int x)) H := W_r (rfl : (pj lw).1 12 9 = some (.ireturn, 1, 0)) rfl
theorem c16 {x0 : Nat} : Cl (pj lw) 16 [.ref x0] H Q ↔ W (pj lw) 16 0 [.val (.ref x0)] [] 0 0 H Q := cl_unf rfl
theorem w16_0 {x : Nat} : W (pj lw) 16 0 (.val (.ref x) :: L) S k n H Q ↔ W (pj lw) 16 1 (.val (.ref x) :: L) (.ref x :: S) k n H Q := W_s (rfl : (pj lw).1 16 0 = some (.aload_n 0, 1, 0)) rfl rfl rfl
theorem w16_1 {a : Nat} : W (pj lw) 16 1 L (.ref a :: S) k n H Q ↔ (isO H a = true ∧ W (pj lw) 16 4 L (fld H a 15 :: S) k n H Q) := W_getf (rfl : (pj lw).1 16 1 = some (.getfield 58, 3, 15))
theorem w16_4 {x : Int32} : W (pj lw) 16 4 L (.int x :: S) k n H Q ↔ Q (some (.int x)) H := W_r (rfl : (pj lw).1 16 4 = some (.ireturn, 1, 0)) rfl
theorem c17 {x0 : Nat} : Cl (pj lw) 17 [.ref x0] H Q ↔ W (pj lw) 17 0 [.val (.ref x0)] [] 0 0 H Q := cl_unf rfl
theorem w17_0 {x : Nat} : W (pj lw) 17 0 (.val (.ref x) :: L) S k n H Q ↔ W (pj lw) 17 1 (.val (.ref x) :: L) (.ref x :: S) k n H Q := W_s (rfl : (pj lw).1 17 0 = some (.aload_n 0, 1, 0)) rfl rfl rfl
theorem w17_1 {a : Nat} : W (pj lw) 17 1 L (.ref a :: S) k n H Q ↔ (isO H a = true ∧ W (pj lw) 17 4 L (fld H a 16 :: S) k n H Q) := W_getf (rfl : (pj lw).1 17 1 = some (.getfield 61, 3, 16))
theorem w17_4 {x : Int32} : W (pj lw) 17 4 L (.int x :: S) k n H Q ↔ Q (some (.int x)) H := W_r (rfl : (pj lw).1 17 4 = some (.ireturn, 1, 0)) rfl
theorem c18 {x0 : Nat} {x1 : Int32} : Cl (pj lw) 18 [.ref x0, .int x1] H Q ↔ W (pj lw) 18 0 [.val (.ref x0), .val (.int x1), .unset, .unset] [] 0 0 H Q := cl_unf rfl
theorem w18_0 {x : Nat} : W (pj lw) 18 0 (.val (.ref x) :: L) S k n H Q ↔ W (pj lw) 18 1 (.val (.ref x) :: L) (.ref x :: S) k n H Q := W_s (rfl : (pj lw).1 18 0 = some (.aload_n 0, 1, 0)) rfl rfl rfl
theorem w18_1 {x : Nat} : W (pj lw) 18 1 (.val (.ref x) :: L) S k n H Q ↔ W (pj lw) 18 2 (.val (.ref x) :: L) (.ref x :: S) k n H Q := W_s (rfl : (pj lw).1 18 1 = some (.aload_n 0, 1, 0)) rfl rfl rfl
theorem w18_2 {a : Nat} : W (pj lw) 18 2 L (.ref a :: S) k n H Q ↔ (isO H a = true ∧ W (pj lw) 18 5 L (fld H a 1 :: S) k n H Q) := W_getf (rfl : (pj lw).1 18 2 = some (.getfield 7, 3, 1))
theorem w18_5 {x : Int32} {l0 : Slot} : W (pj lw) 18 5 (l0 :: .val (.int x) :: L) S k n H Q ↔ W (pj lw) 18 6 (l0 :: .val (.int x) :: L) (.int x :: S) k n H Q := W_s (rfl : (pj lw).1 18 5 = some (.iload_n 1, 1, 0)) rfl rfl rfl
theorem w18_6 {i : Int32} {a : Nat} : W (pj lw) 18 6 L (.int i :: .ref a :: S) k n H Q ↔ (inA H a .int i = true ∧ W (pj lw) 18 7 L (elt H a i :: S) k n H Q) := W_iaload (rfl : (pj lw).1 18 6 = some (.iaload, 1, 0))
theorem w18_7 : W (pj lw) 18 7 L S k n H Q ↔ W (pj lw) 18 8 L (.int (-1) :: S) k n H Q := W_s (rfl : (pj lw).1 18 7 = some (.iconst (-1), 1, 0)) rfl rfl rfl
theorem w18_8 {a : Nat} {x0 : Int32} {x1 : Int32} : W (pj lw) 18 8 L (.int x1 :: .int x0 :: .ref a :: S) k n H Q ↔ ((isO H a = true ∧ cs S + (5 + 11) + 34 ≤ 50) ∧ Cl (pj lw) 30 [.ref a, .int x0, .int x1] H (fun v H => W (pj lw) 18 11 L (v.toList ++ S) k n H Q)) := W_inst (as := [.int x0, .int x1]) (rfl : (pj lw).1 18 8 = some (.invokevirtual 106, 3, 30)) rfl rfl rfl (Nat.le_of_ble_eq_true rfl) (Nat.le_of_ble_eq_true rfl) ⟨rfl, rfl⟩
theorem w18_11 {x : Int32} : W (pj lw) 18 11 L (.int x :: S) k n H Q ↔ W (pj lw) 18 12 L S k n H Q := W_s (rfl : (pj lw).1 18 11 = some (.pop, 1, 0)) rfl rfl rfl
theorem w18_12 {x : Nat} : W (pj lw) 18 12 (.val (.ref x) :: L) S k n H Q ↔ W (pj lw) 18 13 (.val (.ref x) :: L) (.ref x :: S) k n H Q := W_s (rfl : (pj lw).1 18 12 = some (.aload_n 0, 1, 0)) rfl rfl rfl
theorem w18_13 {a : Nat} : W (pj lw) 18 13 L (.ref a :: S) k n H Q ↔ (isO H a = true ∧ W (pj lw) 18 16 L (fld H a 2 :: S) k n H Q) := W_getf (rfl : (pj lw).1 18 13 = some (.getfield 13, 3, 2))
theorem w18_16 {x : Int32} {l0 : Slot} : W (pj lw) 18 16 (l0 :: .val (.int x) :: L) S k n H Q ↔ W (pj lw) 18 17 (l0 :: .val (.int x) :: L) (.int x :: S) k n H Q := W_s (rfl : (pj lw).1 18 16 = some (.iload_n 1, 1, 0)) rfl rfl rfl
theorem w18_17 {i : Int32} {a : Nat} : W (pj lw) 18 17 L (.int i :: .ref a :: S) k n H Q ↔ (inA H a .int i = true ∧ W (pj lw) 18 18 L (elt H a i :: S) k n H Q) := W_iaload (rfl : (pj lw).1 18 17 = some (.iaload, 1, 0))
theorem w18_18 {x : Int32} {l0 l1 : Slot} : W (pj lw) 18 18 (l0 :: l1 :: .unset :: L) (.int x :: S) k n H Q ↔ W (pj lw) 18 19 (l0 :: l1 :: .val (.int x) :: L) S k n H Q := W_istn (rfl : (pj lw).1 18 18 = some (.istore_n 2, 1, 0)) rfl rfl
theorem w18_19 {x : Nat} : W (pj lw) 18 19 (.val (.ref x) :: L) S k n H Q ↔ W (pj lw) 18 20 (.val (.ref x) :: L) (.ref x :: S) k n H Q := W_s (rfl : (pj lw).1 18 19 = some (.aload_n 0, 1, 0)) rfl rfl rfl
theorem w18_20 {x : Int32} {l0 l1 : Slot} : W (pj lw) 18 20 (l0 :: l1 :: .val (.int x) :: L) S k n H Q ↔ W (pj lw) 18 21 (l0 :: l1 :: .val (.int x) :: L) (.int x :: S) k n H Q := W_s (rfl : (pj lw).1 18 20 = some (.iload_n 2, 1, 0)) rfl rfl rfl
theorem w18_21 {a : Nat} {x0 : Int32} : W (pj lw) 18 21 L (.int x0 :: .ref a :: S) k n H Q ↔ ((isO H a = true ∧ cs S + (2 + 11) + 0 ≤ 50) ∧ Cl (pj lw) 39 [.ref a, .int x0] H (fun v H => W (pj lw) 18 24 L (v.toList ++ S) k n H Q)) := W_inst (as := [.int x0]) (rfl : (pj lw).1 18 21 = some (.invokevirtual 67, 3, 39)) rfl rfl rfl (Nat.le_of_ble_eq_true rfl) (Nat.le_of_ble_eq_true rfl) ⟨rfl, rfl⟩
theorem w18_24 {x : Int32} : W (pj lw) 18 24 L (.int x :: S) k n H Q ↔ (if x = 0 then W (pj lw) 18 36 L S k n H Q else W (pj lw) 18 27 L S k n H Q) := W_if_eq (rfl : (pj lw).1 18 24 = some (.ifCond .eq 12, 3, 0)) rfl
theorem w18_27 {x : Nat} : W (pj lw) 18 27 (.val (.ref x) :: L) S k n H Q ↔ W (pj lw) 18 28 (.val (.ref x) :: L) (.ref x :: S) k n H Q := W_s (rfl : (pj lw).1 18 27 = some (.aload_n 0, 1, 0)) rfl rfl rfl
theorem w18_28 {a : Nat} : W (pj lw) 18 28 L (.ref a :: S) k n H Q ↔ (isO H a = true ∧ W (pj lw) 18 31 L (fld H a 8 :: S) k n H Q) := W_getf (rfl : (pj lw).1 18 28 = some (.getfield 32, 3, 8))
theorem w18_31 {x : Int32} {l0 l1 : Slot} : W (pj lw) 18 31 (l0 :: l1 :: .val (.int x) :: L) S k n H Q ↔ W (pj lw) 18 32 (l0 :: l1 :: .val (.int x) :: L) (.int x :: S) k n H Q := W_s (rfl : (pj lw).1 18 31 = some (.iload_n 2, 1, 0)) rfl rfl rfl
theorem w18_32 {i : Int32} {a : Nat} : W (pj lw) 18 32 L (.int i :: .ref a :: S) k n H Q ↔ ((inA H a .byte i = true ∨ inA H a .boolean i = true) ∧ W (pj lw) 18 33 L (elt H a i :: S) k n H Q) := W_baload (rfl : (pj lw).1 18 32 = some (.baload, 1, 0))
theorem w18_33 {x : Int32} : W (pj lw) 18 33 L (.int x :: S) k n H Q ↔ (if x = 0 then W (pj lw) 18 36 L S k n H Q else W (pj lw) 18 48 L S k n H Q) := W_if_ne (rfl : (pj lw).1 18 33 = some (.ifCond .ne 15, 3, 0)) rfl
theorem w18_36 {x : Nat} : W (pj lw) 18 36 (.val (.ref x) :: L) S k n H Q ↔ W (pj lw) 18 37 (.val (.ref x) :: L) (.ref x :: S) k n H Q := W_s (rfl : (pj lw).1 18 36 = some (.aload_n 0, 1, 0)) rfl rfl rfl
theorem w18_37 {x : Int32} {l0 : Slot} : W (pj lw) 18 37 (l0 :: .val (.int x) :: L) S k n H Q ↔ W (pj lw) 18 38 (l0 :: .val (.int x) :: L) (.int x :: S) k n H Q := W_s (rfl : (pj lw).1 18 37 = some (.iload_n 1, 1, 0)) rfl rfl rfl
theorem w18_38 {a : Nat} {x0 : Int32} : W (pj lw) 18 38 L (.int x0 :: .ref a :: S) k n H Q ↔ ((isO H a = true ∧ cs S + (2 + 11) + 14 ≤ 50) ∧ Cl (pj lw) 25 [.ref a, .int x0] H (fun v H => W (pj lw) 18 41 L (v.toList ++ S) k n H Q)) := W_inst (as := [.int x0]) (rfl : (pj lw).1 18 38 = some (.invokevirtual 119, 3, 25)) rfl rfl rfl (Nat.le_of_ble_eq_true rfl) (Nat.le_of_ble_eq_true rfl) ⟨rfl, rfl⟩
theorem w18_41 {x : Nat} : W (pj lw) 18 41 (.val (.ref x) :: L) S k n H Q ↔ W (pj lw) 18 42 (.val (.ref x) :: L) (.ref x :: S) k n H Q := W_s (rfl : (pj lw).1 18 41 = some (.aload_n 0, 1, 0)) rfl rfl rfl
theorem w18_42 {x : Int32} {l0 : Slot} : W (pj lw) 18 42 (l0 :: .val (.int x) :: L) S k n H Q ↔ W (pj lw) 18 43 (l0 :: .val (.int x) :: L) (.int x :: S) k n H Q := W_s (rfl : (pj lw).1 18 42 = some (.iload_n 1, 1, 0)) rfl rfl rfl
theorem w18_43 : W (pj lw) 18 43 L S k n H Q ↔ W (pj lw) 18 44 L (.int (-1) :: S) k n H Q := W_s (rfl : (pj lw).1 18 43 = some (.iconst (-1), 1, 0)) rfl rfl rfl
theorem w18_44 {a : Nat} {x0 : Int32} {x1 : Int32} : W (pj lw) 18 44 L (.int x1 :: .int x0 :: .ref a :: S) k n H Q ↔ ((isO H a = true ∧ cs S + (3 + 11) + 0 ≤ 50) ∧ Cl (pj lw) 21 [.ref a, .int x0, .int x1] H (fun v H => W (pj lw) 18 47 L (v.toList ++ S) k n H Q)) := W_inst (as := [.int x0, .int x1]) (rfl : (pj lw).1 18 44 = some (.invokevirtual 93, 3, 21)) rfl rfl rfl (Nat.le_of_ble_eq_true rfl) (Nat.le_of_ble_eq_true rfl) ⟨rfl, rfl⟩
theorem w18_47 : W (pj lw) 18 47 L [] k n H Q ↔ Q none H := W_r (rfl : (pj lw).1 18 47 = some (.return_, 1, 0)) rfl
theorem w18_48 {x : Nat} : W (pj lw) 18 48 (.val (.ref x) :: L) S k n H Q ↔ W (pj lw) 18 49 (.val (.ref x) :: L) (.ref x :: S) k n H Q := W_s (rfl : (pj lw).1 18 48 = some (.aload_n 0, 1, 0)) rfl rfl rfl
theorem w18_49 {x : Int32} {l0 l1 : Slot} : W (pj lw) 18 49 (l0 :: l1 :: .val (.int x) :: L) S k n H Q ↔ W (pj lw) 18 50 (l0 :: l1 :: .val (.int x) :: L) (.int x :: S) k n H Q := W_s (rfl : (pj lw).1 18 49 = some (.iload_n 2, 1, 0)) rfl rfl rfl
theorem w18_50 {a : Nat} {x0 : Int32} : W (pj lw) 18 50 L (.int x0 :: .ref a :: S) k n H Q ↔ ((isO H a = true ∧ cs S + (6 + 11) + 28 ≤ 50) ∧ Cl (pj lw) 32 [.ref a, .int x0] H (fun v H => W (pj lw) 18 53 L (v.toList ++ S) k n H Q)) := W_inst (as := [.int x0]) (rfl : (pj lw).1 18 50 = some (.invokevirtual 110, 3, 32)) rfl rfl rfl (Nat.le_of_ble_eq_true rfl) (Nat.le_of_ble_eq_true rfl) ⟨rfl, rfl⟩
theorem w18_53 {x : Int32} {l0 l1 l2 : Slot} : W (pj lw) 18 53 (l0 :: l1 :: l2 :: .unset :: L) (.int x :: S) k n H Q ↔ W (pj lw) 18 54 (l0 :: l1 :: l2 :: .val (.int x) :: L) S k n H Q := W_istn (rfl : (pj lw).1 18 53 = some (.istore_n 3, 1, 0)) rfl rfl
theorem w18_54 {x : Int32} {l0 l1 l2 : Slot} : W (pj lw) 18 54 (l0 :: l1 :: l2 :: .val (.int x) :: L) S k n H Q ↔ W (pj lw) 18 55 (l0 :: l1 :: l2 :: .val (.int x) :: L) (.int x :: S) k n H Q := W_s (rfl : (pj lw).1 18 54 = some (.iload_n 3, 1, 0)) rfl rfl rfl
theorem w18_55 : W (pj lw) 18 55 L S k n H Q ↔ W (pj lw) 18 56 L (.int (-1) :: S) k n H Q := W_s (rfl : (pj lw).1 18 55 = some (.iconst (-1), 1, 0)) rfl rfl rfl
theorem w18_56 {x y : Int32} : W (pj lw) 18 56 L (.int y :: .int x :: S) k n H Q ↔ (if x = y then W (pj lw) 18 85 L S k n H Q else W (pj lw) 18 59 L S k n H Q) := W_icmp_eq (rfl : (pj lw).1 18 56 = some (.if_icmp .eq 29, 3, 0)) rfl
theorem w18_59 {x : Nat} : W (pj lw) 18 59 (.val (.ref x) :: L) S k n H Q ↔ W (pj lw) 18 60 (.val (.ref x) :: L) (.ref x :: S) k n H Q := W_s (rfl : (pj lw).1 18 59 = some (.aload_n 0, 1, 0)) rfl rfl rfl
theorem w18_60 {x : Int32} {l0 : Slot} : W (pj lw) 18 60 (l0 :: .val (.int x) :: L) S k n H Q ↔ W (pj lw) 18 61 (l0 :: .val (.int x) :: L) (.int x :: S) k n H Q := W_s (rfl : (pj lw).1 18 60 = some (.iload_n 1, 1, 0)) rfl rfl rfl
theorem w18_61 {x : Int32} {l0 l1 l2 : Slot} : W (pj lw) 18 61 (l0 :: l1 :: l2 :: .val (.int x) :: L) S k n H Q ↔ W (pj lw) 18 62 (l0 :: l1 :: l2 :: .val (.int x) :: L) (.int x :: S) k n H Q := W_s (rfl : (pj lw).1 18 61 = some (.iload_n 3, 1, 0)) rfl rfl rfl
theorem w18_62 {a : Nat} {x0 : Int32} {x1 : Int32} : W (pj lw) 18 62 L (.int x1 :: .int x0 :: .ref a :: S) k n H Q ↔ ((isO H a = true ∧ cs S + (3 + 11) + 0 ≤ 50) ∧ Cl (pj lw) 36 [.ref a, .int x0, .int x1] H (fun v H => W (pj lw) 18 65 L (v.toList ++ S) k n H Q)) := W_inst (as := [.int x0, .int x1]) (rfl : (pj lw).1 18 62 = some (.invokevirtual 122, 3, 36)) rfl rfl rfl (Nat.le_of_ble_eq_true rfl) (Nat.le_of_ble_eq_true rfl) ⟨rfl, rfl⟩
theorem w18_65 {x : Int32} : W (pj lw) 18 65 L (.int x :: S) k n H Q ↔ (if x = 0 then W (pj lw) 18 85 L S k n H Q else W (pj lw) 18 68 L S k n H Q) := W_if_eq (rfl : (pj lw).1 18 65 = some (.ifCond .eq 20, 3, 0)) rfl
theorem w18_68 {x : Nat} : W (pj lw) 18 68 (.val (.ref x) :: L) S k n H Q ↔ W (pj lw) 18 69 (.val (.ref x) :: L) (.ref x :: S) k n H Q := W_s (rfl : (pj lw).1 18 68 = some (.aload_n 0, 1, 0)) rfl rfl rfl
theorem w18_69 {x : Int32} {l0 l1 l2 : Slot} : W (pj lw) 18 69 (l0 :: l1 :: l2 :: .val (.int x) :: L) S k n H Q ↔ W (pj lw) 18 70 (l0 :: l1 :: l2 :: .val (.int x) :: L) (.int x :: S) k n H Q := W_s (rfl : (pj lw).1 18 69 = some (.iload_n 3, 1, 0)) rfl rfl rfl
theorem w18_70 {a : Nat} {x0 : Int32} : W (pj lw) 18 70 L (.int x0 :: .ref a :: S) k n H Q ↔ ((isO H a = true ∧ cs S + (2 + 11) + 16 ≤ 50) ∧ Cl (pj lw) 26 [.ref a, .int x0] H (fun v H => W (pj lw) 18 73 L (v.toList ++ S) k n H Q)) := W_inst (as := [.int x0]) (rfl : (pj lw).1 18 70 = some (.invokevirtual 126, 3, 26)) rfl rfl rfl (Nat.le_of_ble_eq_true rfl) (Nat.le_of_ble_eq_true rfl) ⟨rfl, rfl⟩
theorem w18_73 {x : Nat} : W (pj lw) 18 73 (.val (.ref x) :: L) S k n H Q ↔ W (pj lw) 18 74 (.val (.ref x) :: L) (.ref x :: S) k n H Q := W_s (rfl : (pj lw).1 18 73 = some (.aload_n 0, 1, 0)) rfl rfl rfl
theorem w18_74 {x : Int32} {l0 : Slot} : W (pj lw) 18 74 (l0 :: .val (.int x) :: L) S k n H Q ↔ W (pj lw) 18 75 (l0 :: .val (.int x) :: L) (.int x :: S) k n H Q := W_s (rfl : (pj lw).1 18 74 = some (.iload_n 1, 1, 0)) rfl rfl rfl
theorem w18_75 {a : Nat} {x0 : Int32} : W (pj lw) 18 75 L (.int x0 :: .ref a :: S) k n H Q ↔ ((isO H a = true ∧ cs S + (2 + 11) + 14 ≤ 50) ∧ Cl (pj lw) 25 [.ref a, .int x0] H (fun v H => W (pj lw) 18 78 L (v.toList ++ S) k n H Q)) := W_inst (as := [.int x0]) (rfl : (pj lw).1 18 75 = some (.invokevirtual 119, 3, 25)) rfl rfl rfl (Nat.le_of_ble_eq_true rfl) (Nat.le_of_ble_eq_true rfl) ⟨rfl, rfl⟩
theorem w18_78 {x : Nat} : W (pj lw) 18 78 (.val (.ref x) :: L) S k n H Q ↔ W (pj lw) 18 79 (.val (.ref x) :: L) (.ref x :: S) k n H Q := W_s (rfl : (pj lw).1 18 78 = some (.aload_n 0, 1, 0)) rfl rfl rfl
theorem w18_79 {x : Int32} {l0 : Slot} : W (pj lw) 18 79 (l0 :: .val (.int x) :: L) S k n H Q ↔ W (pj lw) 18 80 (l0 :: .val (.int x) :: L) (.int x :: S) k n H Q := W_s (rfl : (pj lw).1 18 79 = some (.iload_n 1, 1, 0)) rfl rfl rfl
theorem w18_80 {x : Int32} {l0 l1 l2 : Slot} : W (pj lw) 18 80 (l0 :: l1 :: l2 :: .val (.int x) :: L) S k n H Q ↔ W (pj lw) 18 81 (l0 :: l1 :: l2 :: .val (.int x) :: L) (.int x :: S) k n H Q := W_s (rfl : (pj lw).1 18 80 = some (.iload_n 3, 1, 0)) rfl rfl rfl
theorem w18_81 {a : Nat} {x0 : Int32} {x1 : Int32} : W (pj lw) 18 81 L (.int x1 :: .int x0 :: .ref a :: S) k n H Q ↔ ((isO H a = true ∧ cs S + (3 + 11) + 0 ≤ 50) ∧ Cl (pj lw) 21 [.ref a, .int x0, .int x1] H (fun v H => W (pj lw) 18 84 L (v.toList ++ S) k n H Q)) := W_inst (as := [.int x0, .int x1]) (rfl : (pj lw).1 18 81 = some (.invokevirtual 93, 3, 21)) rfl rfl rfl (Nat.le_of_ble_eq_true rfl) (Nat.le_of_ble_eq_true rfl) ⟨rfl, rfl⟩
theorem w18_84 : W (pj lw) 18 84 L [] k n H Q ↔ Q none H := W_r (rfl : (pj lw).1 18 84 = some (.return_, 1, 0)) rfl
theorem w18_85 {x : Nat} : W (pj lw) 18 85 (.val (.ref x) :: L) S k n H Q ↔ W (pj lw) 18 86 (.val (.ref x) :: L) (.ref x :: S) k n H Q := W_s (rfl : (pj lw).1 18 85 = some (.aload_n 0, 1, 0)) rfl rfl rfl
theorem w18_86 : W (pj lw) 18 86 L S k n H Q ↔ W (pj lw) 18 87 L (.int (-1) :: S) k n H Q := W_s (rfl : (pj lw).1 18 86 = some (.iconst (-1), 1, 0)) rfl rfl rfl
theorem w18_87 : W (pj lw) 18 87 L S k n H Q ↔ W (pj lw) 18 88 L (.int (-1) :: S) k n H Q := W_s (rfl : (pj lw).1 18 87 = some (.iconst (-1), 1, 0)) rfl rfl rfl
theorem w18_88 {a : Nat} {x0 : Int32} {x1 : Int32} : W (pj lw) 18 88 L (.int x1 :: .int x0 :: .ref a :: S) k n H Q ↔ ((isO H a = true ∧ cs S + (3 + 11) + 0 ≤ 50) ∧ Cl (pj lw) 21 [.ref a, .int x0, .int x1] H (fun v H => W (pj lw) 18 91 L (v.toList ++ S) k n H Q)) := W_inst (as := [.int x0, .int x1]) (rfl : (pj lw).1 18 88 = some (.invokevirtual 93, 3, 21)) rfl rfl rfl (Nat.le_of_ble_eq_true rfl) (Nat.le_of_ble_eq_true rfl) ⟨rfl, rfl⟩
theorem w18_91 : W (pj lw) 18 91 L [] k n H Q ↔ Q none H := W_r (rfl : (pj lw).1 18 91 = some (.return_, 1, 0)) rfl
theorem c19 {x0 : Nat} {x1 : Int32} : Cl (pj lw) 19 [.ref x0, .int x1] H Q ↔ W (pj lw) 19 0 [.val (.ref x0), .val (.int x1), .unset] [] 0 0 H Q := cl_unf rfl
theorem w19_0 {x : Nat} : W (pj lw) 19 0 (.val (.ref x) :: L) S k n H Q ↔ W (pj lw) 19 1 (.val (.ref x) :: L) (.ref x :: S) k n H Q := W_s (rfl : (pj lw).1 19 0 = some (.aload_n 0, 1, 0)) rfl rfl rfl
theorem w19_1 {x : Int32} {l0 : Slot} : W (pj lw) 19 1 (l0 :: .val (.int x) :: L) S k n H Q ↔ W (pj lw) 19 2 (l0 :: .val (.int x) :: L) (.int x :: S) k n H Q := W_s (rfl : (pj lw).1 19 1 = some (.iload_n 1, 1, 0)) rfl rfl rfl
theorem w19_2 {a : Nat} {x0 : Int32} : W (pj lw) 19 2 L (.int x0 :: .ref a :: S) k n H Q ↔ ((isO H a = true ∧ cs S + (2 + 11) + 16 ≤ 50) ∧ Cl (pj lw) 26 [.ref a, .int x0] H (fun v H => W (pj lw) 19 5 L (v.toList ++ S) k n H Q)) := W_inst (as := [.int x0]) (rfl : (pj lw).1 19 2 = some (.invokevirtual 126, 3, 26)) rfl rfl rfl (Nat.le_of_ble_eq_true rfl) (Nat.le_of_ble_eq_true rfl) ⟨rfl, rfl⟩
theorem w19_5 {x : Nat} : W (pj lw) 19 5 (.val (.ref x) :: L) S k n H Q ↔ W (pj lw) 19 6 (.val (.ref x) :: L) (.ref x :: S) k n H Q := W_s (rfl : (pj lw).1 19 5 = some (.aload_n 0, 1, 0)) rfl rfl rfl
theorem w19_6 {x : Int32} {l0 : Slot} : W (pj lw) 19 6 (l0 :: .val (.int x) :: L) S k n H Q ↔ W (pj lw) 19 7 (l0 :: .val (.int x) :: L) (.int x :: S) k n H Q := W_s (rfl : (pj lw).1 19 6 = some (.iload_n 1, 1, 0)) rfl rfl rfl
theorem w19_7 {a : Nat} {x0 : Int32} : W (pj lw) 19 7 L (.int x0 :: .ref a :: S) k n H Q ↔ ((isO H a = true ∧ cs S + (2 + 11) + 0 ≤ 50) ∧ Cl (pj lw) 24 [.ref a, .int x0] H (fun v H => W (pj lw) 19 10 L (v.toList ++ S) k n H Q)) := W_inst (as := [.int x0]) (rfl : (pj lw).1 19 7 = some (.invokevirtual 90, 3, 24)) rfl rfl rfl (Nat.le_of_ble_eq_true rfl) (Nat.le_of_ble_eq_true rfl) ⟨rfl, rfl⟩
theorem w19_10 {x : Nat} : W (pj lw) 19 10 (.val (.ref x) :: L) S k n H Q ↔ W (pj lw) 19 11 (.val (.ref x) :: L) (.ref x :: S) k n H Q := W_s (rfl : (pj lw).1 19 10 = some (.aload_n 0, 1, 0)) rfl rfl rfl
theorem w19_11 {x : Nat} : W (pj lw) 19 11 (.val (.ref x) :: L) S k n H Q ↔ W (pj lw) 19 12 (.val (.ref x) :: L) (.ref x :: S) k n H Q := W_s (rfl : (pj lw).1 19 11 = some (.aload_n 0, 1, 0)) rfl rfl rfl
theorem w19_12 {a : Nat} : W (pj lw) 19 12 L (.ref a :: S) k n H Q ↔ (isO H a = true ∧ W (pj lw) 19 15 L (fld H a 1 :: S) k n H Q) := W_getf (rfl : (pj lw).1 19 12 = some (.getfield 7, 3, 1))
theorem w19_15 {x : Int32} {l0 : Slot} : W (pj lw) 19 15 (l0 :: .val (.int x) :: L) S k n H Q ↔ W (pj lw) 19 16 (l0 :: .val (.int x) :: L) (.int x :: S) k n H Q := W_s (rfl : (pj lw).1 19 15 = some (.iload_n 1, 1, 0)) rfl rfl rfl
theorem w19_16 {i : Int32} {a : Nat} : W (pj lw) 19 16 L (.int i :: .ref a :: S) k n H Q ↔ (inA H a .int i = true ∧ W (pj lw) 19 17 L (elt H a i :: S) k n H Q) := W_iaload (rfl : (pj lw).1 19 16 = some (.iaload, 1, 0))
theorem w19_17 : W (pj lw) 19 17 L S k n H Q ↔ W (pj lw) 19 18 L (.int (-1) :: S) k n H Q := W_s (rfl : (pj lw).1 19 17 = some (.iconst (-1), 1, 0)) rfl rfl rfl
theorem w19_18 {a : Nat} {x0 : Int32} {x1 : Int32} : W (pj lw) 19 18 L (.int x1 :: .int x0 :: .ref a :: S) k n H Q ↔ ((isO H a = true ∧ cs S + (5 + 11) + 34 ≤ 50) ∧ Cl (pj lw) 30 [.ref a, .int x0, .int x1] H (fun v H => W (pj lw) 19 21 L (v.toList ++ S) k n H Q)) := W_inst (as := [.int x0, .int x1]) (rfl : (pj lw).1 19 18 = some (.invokevirtual 106, 3, 30)) rfl rfl rfl (Nat.le_of_ble_eq_true rfl) (Nat.le_of_ble_eq_true rfl) ⟨rfl, rfl⟩
theorem w19_21 {x : Int32} : W (pj lw) 19 21 L (.int x :: S) k n H Q ↔ W (pj lw) 19 22 L S k n H Q := W_s (rfl : (pj lw).1 19 21 = some (.pop, 1, 0)) rfl rfl rfl
theorem w19_22 {x : Nat} : W (pj lw) 19 22 (.val (.ref x) :: L) S k n H Q ↔ W (pj lw) 19 23 (.val (.ref x) :: L) (.ref x :: S) k n H Q := W_s (rfl : (pj lw).1 19 22 = some (.aload_n 0, 1, 0)) rfl rfl rfl
theorem w19_23 {a : Nat} : W (pj lw) 19 23 L (.ref a :: S) k n H Q ↔ ((isO H a = true ∧ cs S + (3 + 11) + 28 ≤ 50) ∧ Cl (pj lw) 33 [.ref a] H (fun v H => W (pj lw) 19 26 L (v.toList ++ S) k n H Q)) := W_inst (as := []) (rfl : (pj lw).1 19 23 = some (.invokevirtual 116, 3, 33)) rfl rfl rfl (Nat.le_of_ble_eq_true rfl) (Nat.le_of_ble_eq_true rfl) ⟨rfl, rfl⟩
theorem w19_26 {x : Int32} {l0 l1 : Slot} : W (pj lw) 19 26 (l0 :: l1 :: .unset :: L) (.int x :: S) k n H Q ↔ W (pj lw) 19 27 (l0 :: l1 :: .val (.int x) :: L) S k n H Q := W_istn (rfl : (pj lw).1 19 26 = some (.istore_n 2, 1, 0)) rfl rfl
theorem w19_27 {x : Int32} {l0 l1 : Slot} : W (pj lw) 19 27 (l0 :: l1 :: .val (.int x) :: L) S k n H Q ↔ W (pj lw) 19 28 (l0 :: l1 :: .val (.int x) :: L) (.int x :: S) k n H Q := W_s (rfl : (pj lw).1 19 27 = some (.iload_n 2, 1, 0)) rfl rfl rfl
theorem w19_28 : W (pj lw) 19 28 L S k n H Q ↔ W (pj lw) 19 29 L (.int (-1) :: S) k n H Q := W_s (rfl : (pj lw).1 19 28 = some (.iconst (-1), 1, 0)) rfl rfl rfl
theorem w19_29 {x y : Int32} : W (pj lw) 19 29 L (.int y :: .int x :: S) k n H Q ↔ (if x = y then W (pj lw) 19 37 L S k n H Q else W (pj lw) 19 32 L S k n H Q) := W_icmp_eq (rfl : (pj lw).1 19 29 = some (.if_icmp .eq 8, 3, 0)) rfl
theorem w19_32 {x : Nat} : W (pj lw) 19 32 (.val (.ref x) :: L) S k n H Q ↔ W (pj lw) 19 33 (.val (.ref x) :: L) (.ref x :: S) k n H Q := W_s (rfl : (pj lw).1 19 32 = some (.aload_n 0, 1, 0)) rfl rfl rfl
theorem w19_33 {x : Int32} {l0 l1 : Slot} : W (pj lw) 19 33 (l0 :: l1 :: .val (.int x) :: L) S k n H Q ↔ W (pj lw) 19 34 (l0 :: l1 :: .val (.int x) :: L) (.int x :: S) k n H Q := W_s (rfl : (pj lw).1 19 33 = some (.iload_n 2, 1, 0)) rfl rfl rfl
theorem w19_34 {a : Nat} {x0 : Int32} : W (pj lw) 19 34 L (.int x0 :: .ref a :: S) k n H Q ↔ ((isO H a = true ∧ cs S + (2 + 11) + 14 ≤ 50) ∧ Cl (pj lw) 25 [.ref a, .int x0] H (fun v H => W (pj lw) 19 37 L (v.toList ++ S) k n H Q)) := W_inst (as := [.int x0]) (rfl : (pj lw).1 19 34 = some (.invokevirtual 119, 3, 25)) rfl rfl rfl (Nat.le_of_ble_eq_true rfl) (Nat.le_of_ble_eq_true rfl) ⟨rfl, rfl⟩
theorem w19_37 {x : Nat} : W (pj lw) 19 37 (.val (.ref x) :: L) S k n H Q ↔ W (pj lw) 19 38 (.val (.ref x) :: L) (.ref x :: S) k n H Q := W_s (rfl : (pj lw).1 19 37 = some (.aload_n 0, 1, 0)) rfl rfl rfl
theorem w19_38 {x : Int32} {l0 l1 : Slot} : W (pj lw) 19 38 (l0 :: l1 :: .val (.int x) :: L) S k n H Q ↔ W (pj lw) 19 39 (l0 :: l1 :: .val (.int x) :: L) (.int x :: S) k n H Q := W_s (rfl : (pj lw).1 19 38 = some (.iload_n 2, 1, 0)) rfl rfl rfl
theorem w19_39 {x : Int32} {l0 : Slot} : W (pj lw) 19 39 (l0 :: .val (.int x) :: L) S k n H Q ↔ W (pj lw) 19 40 (l0 :: .val (.int x) :: L) (.int x :: S) k n H Q := W_s (rfl : (pj lw).1 19 39 = some (.iload_n 1, 1, 0)) rfl rfl rfl
theorem w19_40 {a : Nat} {x0 : Int32} {x1 : Int32} : W (pj lw) 19 40 L (.int x1 :: .int x0 :: .ref a :: S) k n H Q ↔ ((isO H a = true ∧ cs S + (3 + 11) + 0 ≤ 50) ∧ Cl (pj lw) 21 [.ref a, .int x0, .int x1] H (fun v H => W (pj lw) 19 43 L (v.toList ++ S) k n H Q)) := W_inst (as := [.int x0, .int x1]) (rfl : (pj lw).1 19 40 = some (.invokevirtual 93, 3, 21)) rfl rfl rfl (Nat.le_of_ble_eq_true rfl) (Nat.le_of_ble_eq_true rfl) ⟨rfl, rfl⟩
theorem w19_43 : W (pj lw) 19 43 L [] k n H Q ↔ Q none H := W_r (rfl : (pj lw).1 19 43 = some (.return_, 1, 0)) rfl
theorem c20 {x0 : Nat} {x1 : Int32} {x2 : Int32} : Cl (pj lw) 20 [.ref x0, .int x1, .int x2] H Q ↔ W (pj lw) 20 0 [.val (.ref x0), .val (.int x1), .val (.int x2), .unset] [] 0 0 H Q := cl_unf rfl
theorem w20_0 {x : Nat} : W (pj lw) 20 0 (.val (.ref x) :: L) S k n H Q ↔ W (pj lw) 20 1 (.val (.ref x) :: L) (.ref x :: S) k n H Q := W_s (rfl : (pj lw).1 20 0 = some (.aload_n 0, 1, 0)) rfl rfl rfl
theorem w20_1 {x : Int32} {l0 : Slot} : W (pj lw) 20 1 (l0 :: .val (.int x) :: L) S k n H Q ↔ W (pj lw) 20 2 (l0 :: .val (.int x) :: L) (.int x :: S) k n H Q := W_s (rfl : (pj lw).1 20 1 = some (.iload_n 1, 1, 0)) rfl rfl rfl
theorem w20_2 {a : Nat} {x0 : Int32} : W (pj lw) 20 2 L (.int x0 :: .ref a :: S) k n H Q ↔ ((isO H a = true ∧ cs S + (2 + 11) + 16 ≤ 50) ∧ Cl (pj lw) 26 [.ref a, .int x0] H (fun v H => W (pj lw) 20 5 L (v.toList ++ S) k n H Q)) := W_inst (as := [.int x0]) (rfl : (pj lw).1 20 2 = some (.invokevirtual 126, 3, 26)) rfl rfl rfl (Nat.le_of_ble_eq_true rfl) (Nat.le_of_ble_eq_true rfl) ⟨rfl, rfl⟩
theorem w20_5 {x : Nat} : W (pj lw) 20 5 (.val (.ref x) :: L) S k n H Q ↔ W (pj lw) 20 6 (.val (.ref x) :: L) (.ref x :: S) k n H Q := W_s (rfl : (pj lw).1 20 5 = some (.aload_n 0, 1, 0)) rfl rfl rfl
theorem w20_6 {a : Nat} : W (pj lw) 20 6 L (.ref a :: S) k n H Q ↔ (isO H a = true ∧ W (pj lw) 20 9 L (fld H a 3 :: S) k n H Q) := W_getf (rfl : (pj lw).1 20 6 = some (.getfield 16, 3, 3))
theorem w20_9 {x : Int32} {l0 : Slot} : W (pj lw) 20 9 (l0 :: .val (.int x) :: L) S k n H Q ↔ W (pj lw) 20 10 (l0 :: .val (.int x) :: L) (.int x :: S) k n H Q := W_s (rfl : (pj lw).1 20 9 = some (.iload_n 1, 1, 0)) rfl rfl rfl
theorem w20_10 {x : Int32} {l0 l1 : Slot} : W (pj lw) 20 10 (l0 :: l1 :: .val (.int x) :: L) S k n H Q ↔ W (pj lw) 20 11 (l0 :: l1 :: .val (.int x) :: L) (.int x :: S) k n H Q := W_s (rfl : (pj lw).1 20 10 = some (.iload_n 2, 1, 0)) rfl rfl rfl
theorem w20_11 {x i : Int32} {a : Nat} : W (pj lw) 20 11 L (.int x :: .int i :: .ref a :: S) k n H Q ↔ (inAw H a .int i = true ∧ W (pj lw) 20 12 L S k n (wr H a i.toNatClampNeg (.int x)) Q) := W_iastore (rfl : (pj lw).1 20 11 = some (.iastore, 1, 0))
theorem w20_12 {x : Nat} : W (pj lw) 20 12 (.val (.ref x) :: L) S k n H Q ↔ W (pj lw) 20 13 (.val (.ref x) :: L) (.ref x :: S) k n H Q := W_s (rfl : (pj lw).1 20 12 = some (.aload_n 0, 1, 0)) rfl rfl rfl
theorem w20_13 {x : Nat} : W (pj lw) 20 13 (.val (.ref x) :: L) S k n H Q ↔ W (pj lw) 20 14 (.val (.ref x) :: L) (.ref x :: S) k n H Q := W_s (rfl : (pj lw).1 20 13 = some (.aload_n 0, 1, 0)) rfl rfl rfl
theorem w20_14 {a : Nat} : W (pj lw) 20 14 L (.ref a :: S) k n H Q ↔ (isO H a = true ∧ W (pj lw) 20 17 L (fld H a 1 :: S) k n H Q) := W_getf (rfl : (pj lw).1 20 14 = some (.getfield 7, 3, 1))
theorem w20_17 {x : Int32} {l0 : Slot} : W (pj lw) 20 17 (l0 :: .val (.int x) :: L) S k n H Q ↔ W (pj lw) 20 18 (l0 :: .val (.int x) :: L) (.int x :: S) k n H Q := W_s (rfl : (pj lw).1 20 17 = some (.iload_n 1, 1, 0)) rfl rfl rfl
theorem w20_18 {i : Int32} {a : Nat} : W (pj lw) 20 18 L (.int i :: .ref a :: S) k n H Q ↔ (inA H a .int i = true ∧ W (pj lw) 20 19 L (elt H a i :: S) k n H Q) := W_iaload (rfl : (pj lw).1 20 18 = some (.iaload, 1, 0))
theorem w20_19 : W (pj lw) 20 19 L S k n H Q ↔ W (pj lw) 20 20 L (.int (-1) :: S) k n H Q := W_s (rfl : (pj lw).1 20 19 = some (.iconst (-1), 1, 0)) rfl rfl rfl
theorem w20_20 {a : Nat} {x0 : Int32} {x1 : Int32} : W (pj lw) 20 20 L (.int x1 :: .int x0 :: .ref a :: S) k n H Q ↔ ((isO H a = true ∧ cs S + (5 + 11) + 34 ≤ 50) ∧ Cl (pj lw) 30 [.ref a, .int x0, .int x1] H (fun v H => W (pj lw) 20 23 L (v.toList ++ S) k n H Q)) := W_inst (as := [.int x0, .int x1]) (rfl : (pj lw).1 20 20 = some (.invokevirtual 106, 3, 30)) rfl rfl rfl (Nat.le_of_ble_eq_true rfl) (Nat.le_of_ble_eq_true rfl) ⟨rfl, rfl⟩
theorem w20_23 {x : Int32} : W (pj lw) 20 23 L (.int x :: S) k n H Q ↔ W (pj lw) 20 24 L S k n H Q := W_s (rfl : (pj lw).1 20 23 = some (.pop, 1, 0)) rfl rfl rfl
theorem w20_24 {x : Nat} : W (pj lw) 20 24 (.val (.ref x) :: L) S k n H Q ↔ W (pj lw) 20 25 (.val (.ref x) :: L) (.ref x :: S) k n H Q := W_s (rfl : (pj lw).1 20 24 = some (.aload_n 0, 1, 0)) rfl rfl rfl
theorem w20_25 {a : Nat} : W (pj lw) 20 25 L (.ref a :: S) k n H Q ↔ ((isO H a = true ∧ cs S + (3 + 11) + 28 ≤ 50) ∧ Cl (pj lw) 33 [.ref a] H (fun v H => W (pj lw) 20 28 L (v.toList ++ S) k n H Q)) := W_inst (as := []) (rfl : (pj lw).1 20 25 = some (.invokevirtual 116, 3, 33)) rfl rfl rfl (Nat.le_of_ble_eq_true rfl) (Nat.le_of_ble_eq_true rfl) ⟨rfl, rfl⟩
theorem w20_28 {x : Int32} {l0 l1 l2 : Slot} : W (pj lw) 20 28 (l0 :: l1 :: l2 :: .unset :: L) (.int x :: S) k n H Q ↔ W (pj lw) 20 29 (l0 :: l1 :: l2 :: .val (.int x) :: L) S k n H Q := W_istn (rfl : (pj lw).1 20 28 = some (.istore_n 3, 1, 0)) rfl rfl
theorem w20_29 {x : Int32} {l0 l1 l2 : Slot} : W (pj lw) 20 29 (l0 :: l1 :: l2 :: .val (.int x) :: L) S k n H Q ↔ W (pj lw) 20 30 (l0 :: l1 :: l2 :: .val (.int x) :: L) (.int x :: S) k n H Q := W_s (rfl : (pj lw).1 20 29 = some (.iload_n 3, 1, 0)) rfl rfl rfl
theorem w20_30 : W (pj lw) 20 30 L S k n H Q ↔ W (pj lw) 20 31 L (.int (-1) :: S) k n H Q := W_s (rfl : (pj lw).1 20 30 = some (.iconst (-1), 1, 0)) rfl rfl rfl
theorem w20_31 {x y : Int32} : W (pj lw) 20 31 L (.int y :: .int x :: S) k n H Q ↔ (if x = y then W (pj lw) 20 39 L S k n H Q else W (pj lw) 20 34 L S k n H Q) := W_icmp_eq (rfl : (pj lw).1 20 31 = some (.if_icmp .eq 8, 3, 0)) rfl
theorem w20_34 {x : Int32} {l0 l1 l2 : Slot} : W (pj lw) 20 34 (l0 :: l1 :: l2 :: .val (.int x) :: L) S k n H Q ↔ W (pj lw) 20 35 (l0 :: l1 :: l2 :: .val (.int x) :: L) (.int x :: S) k n H Q := W_s (rfl : (pj lw).1 20 34 = some (.iload_n 3, 1, 0)) rfl rfl rfl
theorem w20_35 {x : Int32} {l0 : Slot} : W (pj lw) 20 35 (l0 :: .val (.int x) :: L) S k n H Q ↔ W (pj lw) 20 36 (l0 :: .val (.int x) :: L) (.int x :: S) k n H Q := W_s (rfl : (pj lw).1 20 35 = some (.iload_n 1, 1, 0)) rfl rfl rfl
theorem w20_36 {x y : Int32} : W (pj lw) 20 36 L (.int y :: .int x :: S) k n H Q ↔ (if x = y then W (pj lw) 20 39 L S k n H Q else W (pj lw) 20 51 L S k n H Q) := W_icmp_ne (rfl : (pj lw).1 20 36 = some (.if_icmp .ne 15, 3, 0)) rfl
theorem w20_39 {x : Nat} : W (pj lw) 20 39 (.val (.ref x) :: L) S k n H Q ↔ W (pj lw) 20 40 (.val (.ref x) :: L) (.ref x :: S) k n H Q := W_s (rfl : (pj lw).1 20 39 = some (.aload_n 0, 1, 0)) rfl rfl rfl
theorem w20_40 {x : Int32} {l0 : Slot} : W (pj lw) 20 40 (l0 :: .val (.int x) :: L) S k n H Q ↔ W (pj lw) 20 41 (l0 :: .val (.int x) :: L) (.int x :: S) k n H Q := W_s (rfl : (pj lw).1 20 40 = some (.iload_n 1, 1, 0)) rfl rfl rfl
theorem w20_41 {a : Nat} {x0 : Int32} : W (pj lw) 20 41 L (.int x0 :: .ref a :: S) k n H Q ↔ ((isO H a = true ∧ cs S + (2 + 11) + 14 ≤ 50) ∧ Cl (pj lw) 25 [.ref a, .int x0] H (fun v H => W (pj lw) 20 44 L (v.toList ++ S) k n H Q)) := W_inst (as := [.int x0]) (rfl : (pj lw).1 20 41 = some (.invokevirtual 119, 3, 25)) rfl rfl rfl (Nat.le_of_ble_eq_true rfl) (Nat.le_of_ble_eq_true rfl) ⟨rfl, rfl⟩
theorem w20_44 {x : Nat} : W (pj lw) 20 44 (.val (.ref x) :: L) S k n H Q ↔ W (pj lw) 20 45 (.val (.ref x) :: L) (.ref x :: S) k n H Q := W_s (rfl : (pj lw).1 20 44 = some (.aload_n 0, 1, 0)) rfl rfl rfl
theorem w20_45 : W (pj lw) 20 45 L S k n H Q ↔ W (pj lw) 20 46 L (.int (-1) :: S) k n H Q := W_s (rfl : (pj lw).1 20 45 = some (.iconst (-1), 1, 0)) rfl rfl rfl
theorem w20_46 : W (pj lw) 20 46 L S k n H Q ↔ W (pj lw) 20 47 L (.int (-1) :: S) k n H Q := W_s (rfl : (pj lw).1 20 46 = some (.iconst (-1), 1, 0)) rfl rfl rfl
theorem w20_47 {a : Nat} {x0 : Int32} {x1 : Int32} : W (pj lw) 20 47 L (.int x1 :: .int x0 :: .ref a :: S) k n H Q ↔ ((isO H a = true ∧ cs S + (3 + 11) + 0 ≤ 50) ∧ Cl (pj lw) 21 [.ref a, .int x0, .int x1] H (fun v H => W (pj lw) 20 50 L (v.toList ++ S) k n H Q)) := W_inst (as := [.int x0, .int x1]) (rfl : (pj lw).1 20 47 = some (.invokevirtual 93, 3, 21)) rfl rfl rfl (Nat.le_of_ble_eq_true rfl) (Nat.le_of_ble_eq_true rfl) ⟨rfl, rfl⟩
theorem w20_50 : W (pj lw) 20 50 L [] k n H Q ↔ Q none H := W_r (rfl : (pj lw).1 20 50 = some (.return_, 1, 0)) rfl
theorem w20_51 {x : Nat} : W (pj lw) 20 51 (.val (.ref x) :: L) S k n H Q ↔ W (pj lw) 20 52 (.val (.ref x) :: L) (.ref x :: S) k n H Q := W_s (rfl : (pj lw).1 20 51 = some (.aload_n 0, 1, 0)) rfl rfl rfl
theorem w20_52 {x : Int32} {l0 l1 l2 : Slot} : W (pj lw) 20 52 (l0 :: l1 :: l2 :: .val (.int x) :: L) S k n H Q ↔ W (pj lw) 20 53 (l0 :: l1 :: l2 :: .val (.int x) :: L) (.int x :: S) k n H Q := W_s (rfl : (pj lw).1 20 52 = some (.iload_n 3, 1, 0)) rfl rfl rfl
theorem w20_53 {a : Nat} {x0 : Int32} : W (pj lw) 20 53 L (.int x0 :: .ref a :: S) k n H Q ↔ ((isO H a = true ∧ cs S + (2 + 11) + 14 ≤ 50) ∧ Cl (pj lw) 25 [.ref a, .int x0] H (fun v H => W (pj lw) 20 56 L (v.toList ++ S) k n H Q)) := W_inst (as := [.int x0]) (rfl : (pj lw).1 20 53 = some (.invokevirtual 119, 3, 25)) rfl rfl rfl (Nat.le_of_ble_eq_true rfl) (Nat.le_of_ble_eq_true rfl) ⟨rfl, rfl⟩
theorem w20_56 {x : Nat} : W (pj lw) 20 56 (.val (.ref x) :: L) S k n H Q ↔ W (pj lw) 20 57 (.val (.ref x) :: L) (.ref x :: S) k n H Q := W_s (rfl : (pj lw).1 20 56 = some (.aload_n 0, 1, 0)) rfl rfl rfl
theorem w20_57 {x : Int32} {l0 l1 l2 : Slot} : W (pj lw) 20 57 (l0 :: l1 :: l2 :: .val (.int x) :: L) S k n H Q ↔ W (pj lw) 20 58 (l0 :: l1 :: l2 :: .val (.int x) :: L) (.int x :: S) k n H Q := W_s (rfl : (pj lw).1 20 57 = some (.iload_n 3, 1, 0)) rfl rfl rfl
theorem w20_58 {x : Int32} {l0 : Slot} : W (pj lw) 20 58 (l0 :: .val (.int x) :: L) S k n H Q ↔ W (pj lw) 20 59 (l0 :: .val (.int x) :: L) (.int x :: S) k n H Q := W_s (rfl : (pj lw).1 20 58 = some (.iload_n 1, 1, 0)) rfl rfl rfl
theorem w20_59 {a : Nat} {x0 : Int32} {x1 : Int32} : W (pj lw) 20 59 L (.int x1 :: .int x0 :: .ref a :: S) k n H Q ↔ ((isO H a = true ∧ cs S + (3 + 11) + 0 ≤ 50) ∧ Cl (pj lw) 21 [.ref a, .int x0, .int x1] H (fun v H => W (pj lw) 20 62 L (v.toList ++ S) k n H Q)) := W_inst (as := [.int x0, .int x1]) (rfl : (pj lw).1 20 59 = some (.invokevirtual 93, 3, 21)) rfl rfl rfl (Nat.le_of_ble_eq_true rfl) (Nat.le_of_ble_eq_true rfl) ⟨rfl, rfl⟩
theorem w20_62 : W (pj lw) 20 62 L [] k n H Q ↔ Q none H := W_r (rfl : (pj lw).1 20 62 = some (.return_, 1, 0)) rfl
theorem c21 {x0 : Nat} {x1 : Int32} {x2 : Int32} : Cl (pj lw) 21 [.ref x0, .int x1, .int x2] H Q ↔ W (pj lw) 21 0 [.val (.ref x0), .val (.int x1), .val (.int x2)] [] 0 0 H Q := cl_unf rfl
theorem w21_0 {x : Nat} : W (pj lw) 21 0 (.val (.ref x) :: L) S k n H Q ↔ W (pj lw) 21 1 (.val (.ref x) :: L) (.ref x :: S) k n H Q := W_s (rfl : (pj lw).1 21 0 = some (.aload_n 0, 1, 0)) rfl rfl rfl
theorem w21_1 {x : Int32} {l0 : Slot} : W (pj lw) 21 1 (l0 :: .val (.int x) :: L) S k n H Q ↔ W (pj lw) 21 2 (l0 :: .val (.int x) :: L) (.int x :: S) k n H Q := W_s (rfl : (pj lw).1 21 1 = some (.iload_n 1, 1, 0)) rfl rfl rfl
theorem w21_2 {a : Nat} {v : Value} : W (pj lw) 21 2 L (v :: .ref a :: S) k n H Q ↔ ((isOw H a = true ∧ okv (.int) v = true) ∧ W (pj lw) 21 5 L S k n (wr H a 15 v) Q) := W_putf (rfl : (pj lw).1 21 2 = some (.putfield 58, 3, 15))
theorem w21_5 {x : Nat} : W (pj lw) 21 5 (.val (.ref x) :: L) S k n H Q ↔ W (pj lw) 21 6 (.val (.ref x) :: L) (.ref x :: S) k n H Q := W_s (rfl : (pj lw).1 21 5 = some (.aload_n 0, 1, 0)) rfl rfl rfl
theorem w21_6 {x : Int32} {l0 l1 : Slot} : W (pj lw) 21 6 (l0 :: l1 :: .val (.int x) :: L) S k n H Q ↔ W (pj lw) 21 7 (l0 :: l1 :: .val (.int x) :: L) (.int x :: S) k n H Q := W_s (rfl : (pj lw).1 21 6 = some (.iload_n 2, 1, 0)) rfl rfl rfl
theorem w21_7 {a : Nat} {v : Value} : W (pj lw) 21 7 L (v :: .ref a :: S) k n H Q ↔ ((isOw H a = true ∧ okv (.int) v = true) ∧ W (pj lw) 21 10 L S k n (wr H a 16 v) Q) := W_putf (rfl : (pj lw).1 21 7 = some (.putfield 61, 3, 16))
theorem w21_10 : W (pj lw) 21 10 L [] k n H Q ↔ Q none H := W_r (rfl : (pj lw).1 21 10 = some (.return_, 1, 0)) rfl
theorem c22 {x0 : Nat} : Cl (pj lw) 22 [.ref x0] H Q ↔ W (pj lw) 22 0 [.val (.ref x0), .unset] [] 0 0 H Q := cl_unf rfl
theorem w22_0 : W (pj lw) 22 0 L S k n H Q ↔ W (pj lw) 22 1 L (.int 0 :: S) k n H Q := W_s (rfl : (pj lw).1 22 0 = some (.iconst 0, 1, 0)) rfl rfl rfl
theorem w22_1 {x : Int32} {l0 : Slot} : W (pj lw) 22 1 (l0 :: .unset :: L) (.int x :: S) k n H Q ↔ W (pj lw) 22 2 (l0 :: .val (.int x) :: L) S k n H Q := W_istn (rfl : (pj lw).1 22 1 = some (.istore_n 1, 1, 0)) rfl rfl
theorem w22_2 {x : Int32} {l0 : Slot} : W (pj lw) 22 2 (l0 :: .val (.int x) :: L) S k n H Q ↔ W (pj lw) 22 3 (l0 :: .val (.int x) :: L) (.int x :: S) k n H Q := W_s (rfl : (pj lw).1 22 2 = some (.iload_n 1, 1, 0)) rfl rfl rfl
theorem w22_3 : W (pj lw) 22 3 L S k n H Q ↔ W (pj lw) 22 6 L (.int 128 :: S) k n H Q := W_s (rfl : (pj lw).1 22 3 = some (.sipush 128, 3, 0)) rfl rfl rfl
theorem w22_6 {x y : Int32} : W (pj lw) 22 6 L (.int y :: .int x :: S) k n H Q ↔ (if x < y then W (pj lw) 22 9 L S k n H Q else W (pj lw) 22 26 L S k n H Q) := W_icmp_ge (rfl : (pj lw).1 22 6 = some (.if_icmp .ge 20, 3, 0)) rfl
theorem w22_9 {x : Nat} : W (pj lw) 22 9 (.val (.ref x) :: L) S k n H Q ↔ W (pj lw) 22 10 (.val (.ref x) :: L) (.ref x :: S) k n H Q := W_s (rfl : (pj lw).1 22 9 = some (.aload_n 0, 1, 0)) rfl rfl rfl
theorem w22_10 {a : Nat} : W (pj lw) 22 10 L (.ref a :: S) k n H Q ↔ (isO H a = true ∧ W (pj lw) 22 13 L (fld H a 4 :: S) k n H Q) := W_getf (rfl : (pj lw).1 22 10 = some (.getfield 19, 3, 4))
theorem w22_13 {x : Int32} {l0 : Slot} : W (pj lw) 22 13 (l0 :: .val (.int x) :: L) S k n H Q ↔ W (pj lw) 22 14 (l0 :: .val (.int x) :: L) (.int x :: S) k n H Q := W_s (rfl : (pj lw).1 22 13 = some (.iload_n 1, 1, 0)) rfl rfl rfl
theorem w22_14 {i : Int32} {a : Nat} : W (pj lw) 22 14 L (.int i :: .ref a :: S) k n H Q ↔ ((inA H a .byte i = true ∨ inA H a .boolean i = true) ∧ W (pj lw) 22 15 L (elt H a i :: S) k n H Q) := W_baload (rfl : (pj lw).1 22 14 = some (.baload, 1, 0))
theorem w22_15 {x : Int32} : W (pj lw) 22 15 L (.int x :: S) k n H Q ↔ (if x = 0 then W (pj lw) 22 18 L S k n H Q else W (pj lw) 22 20 L S k n H Q) := W_if_ne (rfl : (pj lw).1 22 15 = some (.ifCond .ne 5, 3, 0)) rfl
theorem w22_18 {x : Int32} {l0 : Slot} : W (pj lw) 22 18 (l0 :: .val (.int x) :: L) S k n H Q ↔ W (pj lw) 22 19 (l0 :: .val (.int x) :: L) (.int x :: S) k n H Q := W_s (rfl : (pj lw).1 22 18 = some (.iload_n 1, 1, 0)) rfl rfl rfl
theorem w22_19 {x : Int32} : W (pj lw) 22 19 L (.int x :: S) k n H Q ↔ Q (some (.int x)) H := W_r (rfl : (pj lw).1 22 19 = some (.ireturn, 1, 0)) rfl
theorem w22_20 {x : Int32} {l0 : Slot} : W (pj lw) 22 20 (l0 :: .val (.int x) :: L) S k n H Q ↔ W (pj lw) 22 23 (l0 :: .val (.int (x + 1)) :: L) S k n H Q := W_s (rfl : (pj lw).1 22 20 = some (.iinc 1 1, 3, 0)) rfl rfl rfl
theorem w22_23 : W (pj lw) 22 23 L S k n H Q ↔ W (pj lw) 22 2 L S k n H Q := W_goto (rfl : (pj lw).1 22 23 = some (.goto (-21), 3, 0)) rfl
theorem c23 {x0 : Nat} {x1 : Int32} {x2 : Int32} {x3 : Int32} {x4 : Int32} : Cl (pj lw) 23 [.ref x0, .int x1, .int x2, .int x3, .int x4] H Q ↔ W (pj lw) 23 0 [.val (.ref x0), .val (.int x1), .val (.int x2), .val (.int x3), .val (.int x4)] [] 0 0 H Q := cl_unf rfl
theorem w23_0 {x : Nat} : W (pj lw) 23 0 (.val (.ref x) :: L) S k n H Q ↔ W (pj lw) 23 1 (.val (.ref x) :: L) (.ref x :: S) k n H Q := W_s (rfl : (pj lw).1 23 0 = some (.aload_n 0, 1, 0)) rfl rfl rfl
theorem w23_1 {a : Nat} : W (pj lw) 23 1 L (.ref a :: S) k n H Q ↔ (isO H a = true ∧ W (pj lw) 23 4 L (fld H a 1 :: S) k n H Q) := W_getf (rfl : (pj lw).1 23 1 = some (.getfield 7, 3, 1))
theorem w23_4 {x : Int32} {l0 : Slot} : W (pj lw) 23 4 (l0 :: .val (.int x) :: L) S k n H Q ↔ W (pj lw) 23 5 (l0 :: .val (.int x) :: L) (.int x :: S) k n H Q := W_s (rfl : (pj lw).1 23 4 = some (.iload_n 1, 1, 0)) rfl rfl rfl
theorem w23_5 {x : Int32} {l0 l1 : Slot} : W (pj lw) 23 5 (l0 :: l1 :: .val (.int x) :: L) S k n H Q ↔ W (pj lw) 23 6 (l0 :: l1 :: .val (.int x) :: L) (.int x :: S) k n H Q := W_s (rfl : (pj lw).1 23 5 = some (.iload_n 2, 1, 0)) rfl rfl rfl
theorem w23_6 {x i : Int32} {a : Nat} : W (pj lw) 23 6 L (.int x :: .int i :: .ref a :: S) k n H Q ↔ (inAw H a .int i = true ∧ W (pj lw) 23 7 L S k n (wr H a i.toNatClampNeg (.int x)) Q) := W_iastore (rfl : (pj lw).1 23 6 = some (.iastore, 1, 0))
theorem w23_7 {x : Nat} : W (pj lw) 23 7 (.val (.ref x) :: L) S k n H Q ↔ W (pj lw) 23 8 (.val (.ref x) :: L) (.ref x :: S) k n H Q := W_s (rfl : (pj lw).1 23 7 = some (.aload_n 0, 1, 0)) rfl rfl rfl
theorem w23_8 {a : Nat} : W (pj lw) 23 8 L (.ref a :: S) k n H Q ↔ (isO H a = true ∧ W (pj lw) 23 11 L (fld H a 2 :: S) k n H Q) := W_getf (rfl : (pj lw).1 23 8 = some (.getfield 13, 3, 2))
theorem w23_11 {x : Int32} {l0 : Slot} : W (pj lw) 23 11 (l0 :: .val (.int x) :: L) S k n H Q ↔ W (pj lw) 23 12 (l0 :: .val (.int x) :: L) (.int x :: S) k n H Q := W_s (rfl : (pj lw).1 23 11 = some (.iload_n 1, 1, 0)) rfl rfl rfl
theorem w23_12 {x : Int32} {l0 l1 l2 : Slot} : W (pj lw) 23 12 (l0 :: l1 :: l2 :: .val (.int x) :: L) S k n H Q ↔ W (pj lw) 23 13 (l0 :: l1 :: l2 :: .val (.int x) :: L) (.int x :: S) k n H Q := W_s (rfl : (pj lw).1 23 12 = some (.iload_n 3, 1, 0)) rfl rfl rfl
theorem w23_13 {x i : Int32} {a : Nat} : W (pj lw) 23 13 L (.int x :: .int i :: .ref a :: S) k n H Q ↔ (inAw H a .int i = true ∧ W (pj lw) 23 14 L S k n (wr H a i.toNatClampNeg (.int x)) Q) := W_iastore (rfl : (pj lw).1 23 13 = some (.iastore, 1, 0))
theorem w23_14 {x : Nat} : W (pj lw) 23 14 (.val (.ref x) :: L) S k n H Q ↔ W (pj lw) 23 15 (.val (.ref x) :: L) (.ref x :: S) k n H Q := W_s (rfl : (pj lw).1 23 14 = some (.aload_n 0, 1, 0)) rfl rfl rfl
theorem w23_15 {a : Nat} : W (pj lw) 23 15 L (.ref a :: S) k n H Q ↔ (isO H a = true ∧ W (pj lw) 23 18 L (fld H a 3 :: S) k n H Q) := W_getf (rfl : (pj lw).1 23 15 = some (.getfield 16, 3, 3))
theorem w23_18 {x : Int32} {l0 : Slot} : W (pj lw) 23 18 (l0 :: .val (.int x) :: L) S k n H Q ↔ W (pj lw) 23 19 (l0 :: .val (.int x) :: L) (.int x :: S) k n H Q := W_s (rfl : (pj lw).1 23 18 = some (.iload_n 1, 1, 0)) rfl rfl rfl
theorem w23_19 {x : Int32} {l0 l1 l2 l3 : Slot} : W (pj lw) 23 19 (l0 :: l1 :: l2 :: l3 :: .val (.int x) :: L) S k n H Q ↔ W (pj lw) 23 21 (l0 :: l1 :: l2 :: l3 :: .val (.int x) :: L) (.int x :: S) k n H Q := W_s (rfl : (pj lw).1 23 19 = some (.iload 4, 2, 0)) rfl rfl rfl
theorem w23_21 {x i : Int32} {a : Nat} : W (pj lw) 23 21 L (.int x :: .int i :: .ref a :: S) k n H Q ↔ (inAw H a .int i = true ∧ W (pj lw) 23 22 L S k n (wr H a i.toNatClampNeg (.int x)) Q) := W_iastore (rfl : (pj lw).1 23 21 = some (.iastore, 1, 0))
theorem w23_22 {x : Nat} : W (pj lw) 23 22 (.val (.ref x) :: L) S k n H Q ↔ W (pj lw) 23 23 (.val (.ref x) :: L) (.ref x :: S) k n H Q := W_s (rfl : (pj lw).1 23 22 = some (.aload_n 0, 1, 0)) rfl rfl rfl
theorem w23_23 {a : Nat} : W (pj lw) 23 23 L (.ref a :: S) k n H Q ↔ (isO H a = true ∧ W (pj lw) 23 26 L (fld H a 4 :: S) k n H Q) := W_getf (rfl : (pj lw).1 23 23 = some (.getfield 19, 3, 4))
theorem w23_26 {x : Int32} {l0 : Slot} : W (pj lw) 23 26 (l0 :: .val (.int x) :: L) S k n H Q ↔ W (pj lw) 23 27 (l0 :: .val (.int x) :: L) (.int x :: S) k n H Q := W_s (rfl : (pj lw).1 23 26 = some (.iload_n 1, 1, 0)) rfl rfl rfl
theorem w23_27 : W (pj lw) 23 27 L S k n H Q ↔ W (pj lw) 23 28 L (.int 1 :: S) k n H Q := W_s (rfl : (pj lw).1 23 27 = some (.iconst 1, 1, 0)) rfl rfl rfl
theorem w23_28 {x i : Int32} {a : Nat} : W (pj lw) 23 28 L (.int x :: .int i :: .ref a :: S) k n H Q ↔ (((inAw H a .byte i = true ∧ okv .byte (.int x) = true) ∨ (inAw H a .boolean i = true ∧ okv .boolean (.int x) = true)) ∧ W (pj lw) 23 29 L S k n (wr H a i.toNatClampNeg (.int x)) Q) := W_bastore (rfl : (pj lw).1 23 28 = some (.bastore, 1, 0))
theorem w23_29 {x : Nat} : W (pj lw) 23 29 (.val (.ref x) :: L) S k n H Q ↔ W (pj lw) 23 30 (.val (.ref x) :: L) (.ref x :: S) k n H Q := W_s (rfl : (pj lw).1 23 29 = some (.aload_n 0, 1, 0)) rfl rfl rfl
theorem w23_30 {a : Nat} : W (pj lw) 23 30 L (.ref a :: S) k n H Q ↔ (isO H a = true ∧ W (pj lw) 23 33 L (fld H a 5 :: S) k n H Q) := W_getf (rfl : (pj lw).1 23 30 = some (.getfield 23, 3, 5))
theorem w23_33 {x : Int32} {l0 : Slot} : W (pj lw) 23 33 (l0 :: .val (.int x) :: L) S k n H Q ↔ W (pj lw) 23 34 (l0 :: .val (.int x) :: L) (.int x :: S) k n H Q := W_s (rfl : (pj lw).1 23 33 = some (.iload_n 1, 1, 0)) rfl rfl rfl
theorem w23_34 : W (pj lw) 23 34 L S k n H Q ↔ W (pj lw) 23 35 L (.int 0 :: S) k n H Q := W_s (rfl : (pj lw).1 23 34 = some (.iconst 0, 1, 0)) rfl rfl rfl
theorem w23_35 {x i : Int32} {a : Nat} : W (pj lw) 23 35 L (.int x :: .int i :: .ref a :: S) k n H Q ↔ (((inAw H a .byte i = true ∧ okv .byte (.int x) = true) ∨ (inAw H a .boolean i = true ∧ okv .boolean (.int x) = true)) ∧ W (pj lw) 23 36 L S k n (wr H a i.toNatClampNeg (.int x)) Q) := W_bastore (rfl : (pj lw).1 23 35 = some (.bastore, 1, 0))
theorem w23_36 {x : Nat} : W (pj lw) 23 36 (.val (.ref x) :: L) S k n H Q ↔ W (pj lw) 23 37 (.val (.ref x) :: L) (.ref x :: S) k n H Q := W_s (rfl : (pj lw).1 23 36 = some (.aload_n 0, 1, 0)) rfl rfl rfl
theorem w23_37 {x : Nat} : W (pj lw) 23 37 L (.ref x :: S) k n H Q ↔ W (pj lw) 23 38 L (.ref x :: .ref x :: S) k n H Q := W_s (rfl : (pj lw).1 23 37 = some (.dup, 1, 0)) rfl rfl rfl
theorem w23_38 {a : Nat} : W (pj lw) 23 38 L (.ref a :: S) k n H Q ↔ (isO H a = true ∧ W (pj lw) 23 41 L (fld H a 12 :: S) k n H Q) := W_getf (rfl : (pj lw).1 23 38 = some (.getfield 48, 3, 12))
theorem w23_41 : W (pj lw) 23 41 L S k n H Q ↔ W (pj lw) 23 42 L (.int 1 :: S) k n H Q := W_s (rfl : (pj lw).1 23 41 = some (.iconst 1, 1, 0)) rfl rfl rfl
theorem w23_42 {x y : Int32} : W (pj lw) 23 42 L (.int y :: .int x :: S) k n H Q ↔ W (pj lw) 23 43 L (.int (x + y) :: S) k n H Q := W_s (rfl : (pj lw).1 23 42 = some (.iadd, 1, 0)) rfl rfl rfl
theorem w23_43 {a : Nat} {v : Value} : W (pj lw) 23 43 L (v :: .ref a :: S) k n H Q ↔ ((isOw H a = true ∧ okv (.int) v = true) ∧ W (pj lw) 23 46 L S k n (wr H a 12 v) Q) := W_putf (rfl : (pj lw).1 23 43 = some (.putfield 48, 3, 12))
theorem w23_46 : W (pj lw) 23 46 L [] k n H Q ↔ Q none H := W_r (rfl : (pj lw).1 23 46 = some (.return_, 1, 0)) rfl
theorem c24 {x0 : Nat} {x1 : Int32} : Cl (pj lw) 24 [.ref x0, .int x1] H Q ↔ W (pj lw) 24 0 [.val (.ref x0), .val (.int x1)] [] 0 0 H Q := cl_unf rfl
theorem w24_0 {x : Nat} : W (pj lw) 24 0 (.val (.ref x) :: L) S k n H Q ↔ W (pj lw) 24 1 (.val (.ref x) :: L) (.ref x :: S) k n H Q := W_s (rfl : (pj lw).1 24 0 = some (.aload_n 0, 1, 0)) rfl rfl rfl
theorem w24_1 {a : Nat} : W (pj lw) 24 1 L (.ref a :: S) k n H Q ↔ (isO H a = true ∧ W (pj lw) 24 4 L (fld H a 4 :: S) k n H Q) := W_getf (rfl : (pj lw).1 24 1 = some (.getfield 19, 3, 4))
theorem w24_4 {x : Int32} {l0 : Slot} : W (pj lw) 24 4 (l0 :: .val (.int x) :: L) S k n H Q ↔ W (pj lw) 24 5 (l0 :: .val (.int x) :: L) (.int x :: S) k n H Q := W_s (rfl : (pj lw).1 24 4 = some (.iload_n 1, 1, 0)) rfl rfl rfl
theorem w24_5 : W (pj lw) 24 5 L S k n H Q ↔ W (pj lw) 24 6 L (.int 0 :: S) k n H Q := W_s (rfl : (pj lw).1 24 5 = some (.iconst 0, 1, 0)) rfl rfl rfl
theorem w24_6 {x i : Int32} {a : Nat} : W (pj lw) 24 6 L (.int x :: .int i :: .ref a :: S) k n H Q ↔ (((inAw H a .byte i = true ∧ okv .byte (.int x) = true) ∨ (inAw H a .boolean i = true ∧ okv .boolean (.int x) = true)) ∧ W (pj lw) 24 7 L S k n (wr H a i.toNatClampNeg (.int x)) Q) := W_bastore (rfl : (pj lw).1 24 6 = some (.bastore, 1, 0))
theorem w24_7 {x : Nat} : W (pj lw) 24 7 (.val (.ref x) :: L) S k n H Q ↔ W (pj lw) 24 8 (.val (.ref x) :: L) (.ref x :: S) k n H Q := W_s (rfl : (pj lw).1 24 7 = some (.aload_n 0, 1, 0)) rfl rfl rfl
theorem w24_8 {a : Nat} : W (pj lw) 24 8 L (.ref a :: S) k n H Q ↔ (isO H a = true ∧ W (pj lw) 24 11 L (fld H a 5 :: S) k n H Q) := W_getf (rfl : (pj lw).1 24 8 = some (.getfield 23, 3, 5))
theorem w24_11 {x : Int32} {l0 : Slot} : W (pj lw) 24 11 (l0 :: .val (.int x) :: L) S k n H Q ↔ W (pj lw) 24 12 (l0 :: .val (.int x) :: L) (.int x :: S) k n H Q := W_s (rfl : (pj lw).1 24 11 = some (.iload_n 1, 1, 0)) rfl rfl rfl
theorem w24_12 : W (pj lw) 24 12 L S k n H Q ↔ W (pj lw) 24 13 L (.int 0 :: S) k n H Q := W_s (rfl : (pj lw).1 24 12 = some (.iconst 0, 1, 0)) rfl rfl rfl
theorem w24_13 {x i : Int32} {a : Nat} : W (pj lw) 24 13 L (.int x :: .int i :: .ref a :: S) k n H Q ↔ (((inAw H a .byte i = true ∧ okv .byte (.int x) = true) ∨ (inAw H a .boolean i = true ∧ okv .boolean (.int x) = true)) ∧ W (pj lw) 24 14 L S k n (wr H a i.toNatClampNeg (.int x)) Q) := W_bastore (rfl : (pj lw).1 24 13 = some (.bastore, 1, 0))
theorem w24_14 {x : Nat} : W (pj lw) 24 14 (.val (.ref x) :: L) S k n H Q ↔ W (pj lw) 24 15 (.val (.ref x) :: L) (.ref x :: S) k n H Q := W_s (rfl : (pj lw).1 24 14 = some (.aload_n 0, 1, 0)) rfl rfl rfl
theorem w24_15 {x : Nat} : W (pj lw) 24 15 L (.ref x :: S) k n H Q ↔ W (pj lw) 24 16 L (.ref x :: .ref x :: S) k n H Q := W_s (rfl : (pj lw).1 24 15 = some (.dup, 1, 0)) rfl rfl rfl
theorem w24_16 {a : Nat} : W (pj lw) 24 16 L (.ref a :: S) k n H Q ↔ (isO H a = true ∧ W (pj lw) 24 19 L (fld H a 12 :: S) k n H Q) := W_getf (rfl : (pj lw).1 24 16 = some (.getfield 48, 3, 12))
theorem w24_19 : W (pj lw) 24 19 L S k n H Q ↔ W (pj lw) 24 20 L (.int 1 :: S) k n H Q := W_s (rfl : (pj lw).1 24 19 = some (.iconst 1, 1, 0)) rfl rfl rfl
theorem w24_20 {x y : Int32} : W (pj lw) 24 20 L (.int y :: .int x :: S) k n H Q ↔ W (pj lw) 24 21 L (.int (x - y) :: S) k n H Q := W_s (rfl : (pj lw).1 24 20 = some (.isub, 1, 0)) rfl rfl rfl
theorem w24_21 {a : Nat} {v : Value} : W (pj lw) 24 21 L (v :: .ref a :: S) k n H Q ↔ ((isOw H a = true ∧ okv (.int) v = true) ∧ W (pj lw) 24 24 L S k n (wr H a 12 v) Q) := W_putf (rfl : (pj lw).1 24 21 = some (.putfield 48, 3, 12))
theorem w24_24 : W (pj lw) 24 24 L [] k n H Q ↔ Q none H := W_r (rfl : (pj lw).1 24 24 = some (.return_, 1, 0)) rfl
theorem c25 {x0 : Nat} {x1 : Int32} : Cl (pj lw) 25 [.ref x0, .int x1] H Q ↔ W (pj lw) 25 0 [.val (.ref x0), .val (.int x1)] [] 0 0 H Q := cl_unf rfl
theorem w25_0 {x : Nat} : W (pj lw) 25 0 (.val (.ref x) :: L) S k n H Q ↔ W (pj lw) 25 1 (.val (.ref x) :: L) (.ref x :: S) k n H Q := W_s (rfl : (pj lw).1 25 0 = some (.aload_n 0, 1, 0)) rfl rfl rfl
theorem w25_1 {x : Int32} {l0 : Slot} : W (pj lw) 25 1 (l0 :: .val (.int x) :: L) S k n H Q ↔ W (pj lw) 25 2 (l0 :: .val (.int x) :: L) (.int x :: S) k n H Q := W_s (rfl : (pj lw).1 25 1 = some (.iload_n 1, 1, 0)) rfl rfl rfl
theorem w25_2 {a : Nat} {x0 : Int32} : W (pj lw) 25 2 L (.int x0 :: .ref a :: S) k n H Q ↔ ((isO H a = true ∧ cs S + (2 + 11) + 0 ≤ 14) ∧ Cl (pj lw) 40 [.ref a, .int x0] H (fun v H => W (pj lw) 25 5 L (v.toList ++ S) k n H Q)) := W_inst (as := [.int x0]) (rfl : (pj lw).1 25 2 = some (.invokevirtual 103, 3, 40)) rfl rfl rfl (Nat.le_of_ble_eq_true rfl) (Nat.le_of_ble_eq_true rfl) ⟨rfl, rfl⟩
theorem w25_5 {x : Int32} : W (pj lw) 25 5 L (.int x :: S) k n H Q ↔ (if x = 0 then W (pj lw) 25 17 L S k n H Q else W (pj lw) 25 8 L S k n H Q) := W_if_eq (rfl : (pj lw).1 25 5 = some (.ifCond .eq 12, 3, 0)) rfl
theorem w25_8 {x : Nat} : W (pj lw) 25 8 (.val (.ref x) :: L) S k n H Q ↔ W (pj lw) 25 9 (.val (.ref x) :: L) (.ref x :: S) k n H Q := W_s (rfl : (pj lw).1 25 8 = some (.aload_n 0, 1, 0)) rfl rfl rfl
theorem w25_9 {a : Nat} : W (pj lw) 25 9 L (.ref a :: S) k n H Q ↔ (isO H a = true ∧ W (pj lw) 25 12 L (fld H a 5 :: S) k n H Q) := W_getf (rfl : (pj lw).1 25 9 = some (.getfield 23, 3, 5))
theorem w25_12 {x : Int32} {l0 : Slot} : W (pj lw) 25 12 (l0 :: .val (.int x) :: L) S k n H Q ↔ W (pj lw) 25 13 (l0 :: .val (.int x) :: L) (.int x :: S) k n H Q := W_s (rfl : (pj lw).1 25 12 = some (.iload_n 1, 1, 0)) rfl rfl rfl
theorem w25_13 {i : Int32} {a : Nat} : W (pj lw) 25 13 L (.int i :: .ref a :: S) k n H Q ↔ ((inA H a .byte i = true ∨ inA H a .boolean i = true) ∧ W (pj lw) 25 14 L (elt H a i :: S) k n H Q) := W_baload (rfl : (pj lw).1 25 13 = some (.baload, 1, 0))
theorem w25_14 {x : Int32} : W (pj lw) 25 14 L (.int x :: S) k n H Q ↔ (if x = 0 then W (pj lw) 25 18 L S k n H Q else W (pj lw) 25 17 L S k n H Q) := W_if_eq (rfl : (pj lw).1 25 14 = some (.ifCond .eq 4, 3, 0)) rfl
theorem w25_17 : W (pj lw) 25 17 L [] k n H Q ↔ Q none H := W_r (rfl : (pj lw).1 25 17 = some (.return_, 1, 0)) rfl
theorem w25_18 {x : Nat} : W (pj lw) 25 18 (.val (.ref x) :: L) S k n H Q ↔ W (pj lw) 25 19 (.val (.ref x) :: L) (.ref x :: S) k n H Q := W_s (rfl : (pj lw).1 25 18 = some (.aload_n 0, 1, 0)) rfl rfl rfl
theorem w25_19 {a : Nat} : W (pj lw) 25 19 L (.ref a :: S) k n H Q ↔ (isO H a = true ∧ W (pj lw) 25 22 L (fld H a 5 :: S) k n H Q) := W_getf (rfl : (pj lw).1 25 19 = some (.getfield 23, 3, 5))
theorem w25_22 {x : Int32} {l0 : Slot} : W (pj lw) 25 22 (l0 :: .val (.int x) :: L) S k n H Q ↔ W (pj lw) 25 23 (l0 :: .val (.int x) :: L) (.int x :: S) k n H Q := W_s (rfl : (pj lw).1 25 22 = some (.iload_n 1, 1, 0)) rfl rfl rfl
theorem w25_23 : W (pj lw) 25 23 L S k n H Q ↔ W (pj lw) 25 24 L (.int 1 :: S) k n H Q := W_s (rfl : (pj lw).1 25 23 = some (.iconst 1, 1, 0)) rfl rfl rfl
theorem w25_24 {x i : Int32} {a : Nat} : W (pj lw) 25 24 L (.int x :: .int i :: .ref a :: S) k n H Q ↔ (((inAw H a .byte i = true ∧ okv .byte (.int x) = true) ∨ (inAw H a .boolean i = true ∧ okv .boolean (.int x) = true)) ∧ W (pj lw) 25 25 L S k n (wr H a i.toNatClampNeg (.int x)) Q) := W_bastore (rfl : (pj lw).1 25 24 = some (.bastore, 1, 0))
theorem w25_25 {x : Nat} : W (pj lw) 25 25 (.val (.ref x) :: L) S k n H Q ↔ W (pj lw) 25 26 (.val (.ref x) :: L) (.ref x :: S) k n H Q := W_s (rfl : (pj lw).1 25 25 = some (.aload_n 0, 1, 0)) rfl rfl rfl
theorem w25_26 {x : Nat} : W (pj lw) 25 26 L (.ref x :: S) k n H Q ↔ W (pj lw) 25 27 L (.ref x :: .ref x :: S) k n H Q := W_s (rfl : (pj lw).1 25 26 = some (.dup, 1, 0)) rfl rfl rfl
theorem w25_27 {a : Nat} : W (pj lw) 25 27 L (.ref a :: S) k n H Q ↔ (isO H a = true ∧ W (pj lw) 25 30 L (fld H a 13 :: S) k n H Q) := W_getf (rfl : (pj lw).1 25 27 = some (.getfield 51, 3, 13))
theorem w25_30 : W (pj lw) 25 30 L S k n H Q ↔ W (pj lw) 25 31 L (.int 1 :: S) k n H Q := W_s (rfl : (pj lw).1 25 30 = some (.iconst 1, 1, 0)) rfl rfl rfl
theorem w25_31 {x y : Int32} : W (pj lw) 25 31 L (.int y :: .int x :: S) k n H Q ↔ W (pj lw) 25 32 L (.int (x + y) :: S) k n H Q := W_s (rfl : (pj lw).1 25 31 = some (.iadd, 1, 0)) rfl rfl rfl
theorem w25_32 {a : Nat} {v : Value} : W (pj lw) 25 32 L (v :: .ref a :: S) k n H Q ↔ ((isOw H a = true ∧ okv (.int) v = true) ∧ W (pj lw) 25 35 L S k n (wr H a 13 v) Q) := W_putf (rfl : (pj lw).1 25 32 = some (.putfield 51, 3, 13))
theorem w25_35 {x : Nat} : W (pj lw) 25 35 (.val (.ref x) :: L) S k n H Q ↔ W (pj lw) 25 36 (.val (.ref x) :: L) (.ref x :: S) k n H Q := W_s (rfl : (pj lw).1 25 35 = some (.aload_n 0, 1, 0)) rfl rfl rfl
theorem w25_36 {x : Nat} : W (pj lw) 25 36 L (.ref x :: S) k n H Q ↔ W (pj lw) 25 37 L (.ref x :: .ref x :: S) k n H Q := W_s (rfl : (pj lw).1 25 36 = some (.dup, 1, 0)) rfl rfl rfl
theorem w25_37 {a : Nat} : W (pj lw) 25 37 L (.ref a :: S) k n H Q ↔ (isO H a = true ∧ W (pj lw) 25 40 L (fld H a 14 :: S) k n H Q) := W_getf (rfl : (pj lw).1 25 37 = some (.getfield 54, 3, 14))
theorem w25_40 {x : Nat} : W (pj lw) 25 40 (.val (.ref x) :: L) S k n H Q ↔ W (pj lw) 25 41 (.val (.ref x) :: L) (.ref x :: S) k n H Q := W_s (rfl : (pj lw).1 25 40 = some (.aload_n 0, 1, 0)) rfl rfl rfl
theorem w25_41 {a : Nat} : W (pj lw) 25 41 L (.ref a :: S) k n H Q ↔ (isO H a = true ∧ W (pj lw) 25 44 L (fld H a 3 :: S) k n H Q) := W_getf (rfl : (pj lw).1 25 41 = some (.getfield 16, 3, 3))
theorem w25_44 {x : Int32} {l0 : Slot} : W (pj lw) 25 44 (l0 :: .val (.int x) :: L) S k n H Q ↔ W (pj lw) 25 45 (l0 :: .val (.int x) :: L) (.int x :: S) k n H Q := W_s (rfl : (pj lw).1 25 44 = some (.iload_n 1, 1, 0)) rfl rfl rfl
theorem w25_45 {i : Int32} {a : Nat} : W (pj lw) 25 45 L (.int i :: .ref a :: S) k n H Q ↔ (inA H a .int i = true ∧ W (pj lw) 25 46 L (elt H a i :: S) k n H Q) := W_iaload (rfl : (pj lw).1 25 45 = some (.iaload, 1, 0))
theorem w25_46 {x : Int32} : W (pj lw) 25 46 L (.int x :: S) k n H Q ↔ W (pj lw) 25 47 L (.long x.toInt64 :: S) k n H Q := W_s (rfl : (pj lw).1 25 46 = some (.i2l, 1, 0)) rfl rfl rfl
theorem w25_47 {x y : Int64} : W (pj lw) 25 47 L (.long y :: .long x :: S) k n H Q ↔ W (pj lw) 25 48 L (.long (x + y) :: S) k n H Q := W_s (rfl : (pj lw).1 25 47 = some (.ladd, 1, 0)) rfl rfl rfl
theorem w25_48 {a : Nat} {v : Value} : W (pj lw) 25 48 L (v :: .ref a :: S) k n H Q ↔ ((isOw H a = true ∧ okv (.long) v = true) ∧ W (pj lw) 25 51 L S k n (wr H a 14 v) Q) := W_putf (rfl : (pj lw).1 25 48 = some (.putfield 54, 3, 14))
theorem w25_51 {x : Nat} : W (pj lw) 25 51 (.val (.ref x) :: L) S k n H Q ↔ W (pj lw) 25 52 (.val (.ref x) :: L) (.ref x :: S) k n H Q := W_s (rfl : (pj lw).1 25 51 = some (.aload_n 0, 1, 0)) rfl rfl rfl
theorem w25_52 {x : Nat} : W (pj lw) 25 52 (.val (.ref x) :: L) S k n H Q ↔ W (pj lw) 25 53 (.val (.ref x) :: L) (.ref x :: S) k n H Q := W_s (rfl : (pj lw).1 25 52 = some (.aload_n 0, 1, 0)) rfl rfl rfl
theorem w25_53 {a : Nat} : W (pj lw) 25 53 L (.ref a :: S) k n H Q ↔ (isO H a = true ∧ W (pj lw) 25 56 L (fld H a 1 :: S) k n H Q) := W_getf (rfl : (pj lw).1 25 53 = some (.getfield 7, 3, 1))
theorem w25_56 {x : Int32} {l0 : Slot} : W (pj lw) 25 56 (l0 :: .val (.int x) :: L) S k n H Q ↔ W (pj lw) 25 57 (l0 :: .val (.int x) :: L) (.int x :: S) k n H Q := W_s (rfl : (pj lw).1 25 56 = some (.iload_n 1, 1, 0)) rfl rfl rfl
theorem w25_57 {i : Int32} {a : Nat} : W (pj lw) 25 57 L (.int i :: .ref a :: S) k n H Q ↔ (inA H a .int i = true ∧ W (pj lw) 25 58 L (elt H a i :: S) k n H Q) := W_iaload (rfl : (pj lw).1 25 57 = some (.iaload, 1, 0))
theorem w25_58 {x : Int32} {l0 : Slot} : W (pj lw) 25 58 (l0 :: .val (.int x) :: L) S k n H Q ↔ W (pj lw) 25 59 (l0 :: .val (.int x) :: L) (.int x :: S) k n H Q := W_s (rfl : (pj lw).1 25 58 = some (.iload_n 1, 1, 0)) rfl rfl rfl
theorem w25_59 {a : Nat} {x0 : Int32} {x1 : Int32} : W (pj lw) 25 59 L (.int x1 :: .int x0 :: .ref a :: S) k n H Q ↔ ((isO H a = true ∧ cs S + (3 + 11) + 0 ≤ 14) ∧ Cl (pj lw) 27 [.ref a, .int x0, .int x1] H (fun v H => W (pj lw) 25 62 L (v.toList ++ S) k n H Q)) := W_inst (as := [.int x0, .int x1]) (rfl : (pj lw).1 25 59 = some (.invokevirtual 129, 3, 27)) rfl rfl rfl (Nat.le_of_ble_eq_true rfl) (Nat.le_of_ble_eq_true rfl) ⟨rfl, rfl⟩
theorem w25_62 {x : Nat} : W (pj lw) 25 62 (.val (.ref x) :: L) S k n H Q ↔ W (pj lw) 25 63 (.val (.ref x) :: L) (.ref x :: S) k n H Q := W_s (rfl : (pj lw).1 25 62 = some (.aload_n 0, 1, 0)) rfl rfl rfl
theorem w25_63 {x : Nat} : W (pj lw) 25 63 (.val (.ref x) :: L) S k n H Q ↔ W (pj lw) 25 64 (.val (.ref x) :: L) (.ref x :: S) k n H Q := W_s (rfl : (pj lw).1 25 63 = some (.aload_n 0, 1, 0)) rfl rfl rfl
theorem w25_64 {a : Nat} : W (pj lw) 25 64 L (.ref a :: S) k n H Q ↔ (isO H a = true ∧ W (pj lw) 25 67 L (fld H a 2 :: S) k n H Q) := W_getf (rfl : (pj lw).1 25 64 = some (.getfield 13, 3, 2))
theorem w25_67 {x : Int32} {l0 : Slot} : W (pj lw) 25 67 (l0 :: .val (.int x) :: L) S k n H Q ↔ W (pj lw) 25 68 (l0 :: .val (.int x) :: L) (.int x :: S) k n H Q := W_s (rfl : (pj lw).1 25 67 = some (.iload_n 1, 1, 0)) rfl rfl rfl
theorem w25_68 {i : Int32} {a : Nat} : W (pj lw) 25 68 L (.int i :: .ref a :: S) k n H Q ↔ (inA H a .int i = true ∧ W (pj lw) 25 69 L (elt H a i :: S) k n H Q) := W_iaload (rfl : (pj lw).1 25 68 = some (.iaload, 1, 0))
theorem w25_69 {x : Int32} {l0 : Slot} : W (pj lw) 25 69 (l0 :: .val (.int x) :: L) S k n H Q ↔ W (pj lw) 25 70 (l0 :: .val (.int x) :: L) (.int x :: S) k n H Q := W_s (rfl : (pj lw).1 25 69 = some (.iload_n 1, 1, 0)) rfl rfl rfl
theorem w25_70 {a : Nat} {x0 : Int32} {x1 : Int32} : W (pj lw) 25 70 L (.int x1 :: .int x0 :: .ref a :: S) k n H Q ↔ ((isO H a = true ∧ cs S + (3 + 11) + 0 ≤ 14) ∧ Cl (pj lw) 27 [.ref a, .int x0, .int x1] H (fun v H => W (pj lw) 25 73 L (v.toList ++ S) k n H Q)) := W_inst (as := [.int x0, .int x1]) (rfl : (pj lw).1 25 70 = some (.invokevirtual 129, 3, 27)) rfl rfl rfl (Nat.le_of_ble_eq_true rfl) (Nat.le_of_ble_eq_true rfl) ⟨rfl, rfl⟩
theorem w25_73 : W (pj lw) 25 73 L [] k n H Q ↔ Q none H := W_r (rfl : (pj lw).1 25 73 = some (.return_, 1, 0)) rfl
theorem c26 {x0 : Nat} {x1 : Int32} : Cl (pj lw) 26 [.ref x0, .int x1] H Q ↔ W (pj lw) 26 0 [.val (.ref x0), .val (.int x1)] [] 0 0 H Q := cl_unf rfl
theorem w26_0 {x : Nat} : W (pj lw) 26 0 (.val (.ref x) :: L) S k n H Q ↔ W (pj lw) 26 1 (.val (.ref x) :: L) (.ref x :: S) k n H Q := W_s (rfl : (pj lw).1 26 0 = some (.aload_n 0, 1, 0)) rfl rfl rfl
theorem w26_1 {x : Int32} {l0 : Slot} : W (pj lw) 26 1 (l0 :: .val (.int x) :: L) S k n H Q ↔ W (pj lw) 26 2 (l0 :: .val (.int x) :: L) (.int x :: S) k n H Q := W_s (rfl : (pj lw).1 26 1 = some (.iload_n 1, 1, 0)) rfl rfl rfl
theorem w26_2 {a : Nat} {x0 : Int32} : W (pj lw) 26 2 L (.int x0 :: .ref a :: S) k n H Q ↔ ((isO H a = true ∧ cs S + (2 + 11) + 0 ≤ 16) ∧ Cl (pj lw) 40 [.ref a, .int x0] H (fun v H => W (pj lw) 26 5 L (v.toList ++ S) k n H Q)) := W_inst (as := [.int x0]) (rfl : (pj lw).1 26 2 = some (.invokevirtual 103, 3, 40)) rfl rfl rfl (Nat.le_of_ble_eq_true rfl) (Nat.le_of_ble_eq_true rfl) ⟨rfl, rfl⟩
theorem w26_5 {x : Int32} : W (pj lw) 26 5 L (.int x :: S) k n H Q ↔ (if x = 0 then W (pj lw) 26 17 L S k n H Q else W (pj lw) 26 8 L S k n H Q) := W_if_eq (rfl : (pj lw).1 26 5 = some (.ifCond .eq 12, 3, 0)) rfl
theorem w26_8 {x : Nat} : W (pj lw) 26 8 (.val (.ref x) :: L) S k n H Q ↔ W (pj lw) 26 9 (.val (.ref x) :: L) (.ref x :: S) k n H Q := W_s (rfl : (pj lw).1 26 8 = some (.aload_n 0, 1, 0)) rfl rfl rfl
theorem w26_9 {a : Nat} : W (pj lw) 26 9 L (.ref a :: S) k n H Q ↔ (isO H a = true ∧ W (pj lw) 26 12 L (fld H a 5 :: S) k n H Q) := W_getf (rfl : (pj lw).1 26 9 = some (.getfield 23, 3, 5))
theorem w26_12 {x : Int32} {l0 : Slot} : W (pj lw) 26 12 (l0 :: .val (.int x) :: L) S k n H Q ↔ W (pj lw) 26 13 (l0 :: .val (.int x) :: L) (.int x :: S) k n H Q := W_s (rfl : (pj lw).1 26 12 = some (.iload_n 1, 1, 0)) rfl rfl rfl
theorem w26_13 {i : Int32} {a : Nat} : W (pj lw) 26 13 L (.int i :: .ref a :: S) k n H Q ↔ ((inA H a .byte i = true ∨ inA H a .boolean i = true) ∧ W (pj lw) 26 14 L (elt H a i :: S) k n H Q) := W_baload (rfl : (pj lw).1 26 13 = some (.baload, 1, 0))
theorem w26_14 {x : Int32} : W (pj lw) 26 14 L (.int x :: S) k n H Q ↔ (if x = 0 then W (pj lw) 26 17 L S k n H Q else W (pj lw) 26 18 L S k n H Q) := W_if_ne (rfl : (pj lw).1 26 14 = some (.ifCond .ne 4, 3, 0)) rfl
theorem w26_17 : W (pj lw) 26 17 L [] k n H Q ↔ Q none H := W_r (rfl : (pj lw).1 26 17 = some (.return_, 1, 0)) rfl
theorem w26_18 {x : Nat} : W (pj lw) 26 18 (.val (.ref x) :: L) S k n H Q ↔ W (pj lw) 26 19 (.val (.ref x) :: L) (.ref x :: S) k n H Q := W_s (rfl : (pj lw).1 26 18 = some (.aload_n 0, 1, 0)) rfl rfl rfl
theorem w26_19 {a : Nat} : W (pj lw) 26 19 L (.ref a :: S) k n H Q ↔ (isO H a = true ∧ W (pj lw) 26 22 L (fld H a 5 :: S) k n H Q) := W_getf (rfl : (pj lw).1 26 19 = some (.getfield 23, 3, 5))
theorem w26_22 {x : Int32} {l0 : Slot} : W (pj lw) 26 22 (l0 :: .val (.int x) :: L) S k n H Q ↔ W (pj lw) 26 23 (l0 :: .val (.int x) :: L) (.int x :: S) k n H Q := W_s (rfl : (pj lw).1 26 22 = some (.iload_n 1, 1, 0)) rfl rfl rfl
theorem w26_23 : W (pj lw) 26 23 L S k n H Q ↔ W (pj lw) 26 24 L (.int 0 :: S) k n H Q := W_s (rfl : (pj lw).1 26 23 = some (.iconst 0, 1, 0)) rfl rfl rfl
theorem w26_24 {x i : Int32} {a : Nat} : W (pj lw) 26 24 L (.int x :: .int i :: .ref a :: S) k n H Q ↔ (((inAw H a .byte i = true ∧ okv .byte (.int x) = true) ∨ (inAw H a .boolean i = true ∧ okv .boolean (.int x) = true)) ∧ W (pj lw) 26 25 L S k n (wr H a i.toNatClampNeg (.int x)) Q) := W_bastore (rfl : (pj lw).1 26 24 = some (.bastore, 1, 0))
theorem w26_25 {x : Nat} : W (pj lw) 26 25 (.val (.ref x) :: L) S k n H Q ↔ W (pj lw) 26 26 (.val (.ref x) :: L) (.ref x :: S) k n H Q := W_s (rfl : (pj lw).1 26 25 = some (.aload_n 0, 1, 0)) rfl rfl rfl
theorem w26_26 {x : Nat} : W (pj lw) 26 26 L (.ref x :: S) k n H Q ↔ W (pj lw) 26 27 L (.ref x :: .ref x :: S) k n H Q := W_s (rfl : (pj lw).1 26 26 = some (.dup, 1, 0)) rfl rfl rfl
theorem w26_27 {a : Nat} : W (pj lw) 26 27 L (.ref a :: S) k n H Q ↔ (isO H a = true ∧ W (pj lw) 26 30 L (fld H a 13 :: S) k n H Q) := W_getf (rfl : (pj lw).1 26 27 = some (.getfield 51, 3, 13))
theorem w26_30 : W (pj lw) 26 30 L S k n H Q ↔ W (pj lw) 26 31 L (.int 1 :: S) k n H Q := W_s (rfl : (pj lw).1 26 30 = some (.iconst 1, 1, 0)) rfl rfl rfl
theorem w26_31 {x y : Int32} : W (pj lw) 26 31 L (.int y :: .int x :: S) k n H Q ↔ W (pj lw) 26 32 L (.int (x - y) :: S) k n H Q := W_s (rfl : (pj lw).1 26 31 = some (.isub, 1, 0)) rfl rfl rfl
theorem w26_32 {a : Nat} {v : Value} : W (pj lw) 26 32 L (v :: .ref a :: S) k n H Q ↔ ((isOw H a = true ∧ okv (.int) v = true) ∧ W (pj lw) 26 35 L S k n (wr H a 13 v) Q) := W_putf (rfl : (pj lw).1 26 32 = some (.putfield 51, 3, 13))
theorem w26_35 {x : Nat} : W (pj lw) 26 35 (.val (.ref x) :: L) S k n H Q ↔ W (pj lw) 26 36 (.val (.ref x) :: L) (.ref x :: S) k n H Q := W_s (rfl : (pj lw).1 26 35 = some (.aload_n 0, 1, 0)) rfl rfl rfl
theorem w26_36 {x : Nat} : W (pj lw) 26 36 L (.ref x :: S) k n H Q ↔ W (pj lw) 26 37 L (.ref x :: .ref x :: S) k n H Q := W_s (rfl : (pj lw).1 26 36 = some (.dup, 1, 0)) rfl rfl rfl
theorem w26_37 {a : Nat} : W (pj lw) 26 37 L (.ref a :: S) k n H Q ↔ (isO H a = true ∧ W (pj lw) 26 40 L (fld H a 14 :: S) k n H Q) := W_getf (rfl : (pj lw).1 26 37 = some (.getfield 54, 3, 14))
theorem w26_40 {x : Nat} : W (pj lw) 26 40 (.val (.ref x) :: L) S k n H Q ↔ W (pj lw) 26 41 (.val (.ref x) :: L) (.ref x :: S) k n H Q := W_s (rfl : (pj lw).1 26 40 = some (.aload_n 0, 1, 0)) rfl rfl rfl
theorem w26_41 {a : Nat} : W (pj lw) 26 41 L (.ref a :: S) k n H Q ↔ (isO H a = true ∧ W (pj lw) 26 44 L (fld H a 3 :: S) k n H Q) := W_getf (rfl : (pj lw).1 26 41 = some (.getfield 16, 3, 3))
theorem w26_44 {x : Int32} {l0 : Slot} : W (pj lw) 26 44 (l0 :: .val (.int x) :: L) S k n H Q ↔ W (pj lw) 26 45 (l0 :: .val (.int x) :: L) (.int x :: S) k n H Q := W_s (rfl : (pj lw).1 26 44 = some (.iload_n 1, 1, 0)) rfl rfl rfl
theorem w26_45 {i : Int32} {a : Nat} : W (pj lw) 26 45 L (.int i :: .ref a :: S) k n H Q ↔ (inA H a .int i = true ∧ W (pj lw) 26 46 L (elt H a i :: S) k n H Q) := W_iaload (rfl : (pj lw).1 26 45 = some (.iaload, 1, 0))
theorem w26_46 {x : Int32} : W (pj lw) 26 46 L (.int x :: S) k n H Q ↔ W (pj lw) 26 47 L (.long x.toInt64 :: S) k n H Q := W_s (rfl : (pj lw).1 26 46 = some (.i2l, 1, 0)) rfl rfl rfl
theorem w26_47 {x y : Int64} : W (pj lw) 26 47 L (.long y :: .long x :: S) k n H Q ↔ W (pj lw) 26 48 L (.long (x - y) :: S) k n H Q := W_s (rfl : (pj lw).1 26 47 = some (.lsub, 1, 0)) rfl rfl rfl
theorem w26_48 {a : Nat} {v : Value} : W (pj lw) 26 48 L (v :: .ref a :: S) k n H Q ↔ ((isOw H a = true ∧ okv (.long) v = true) ∧ W (pj lw) 26 51 L S k n (wr H a 14 v) Q) := W_putf (rfl : (pj lw).1 26 48 = some (.putfield 54, 3, 14))
theorem w26_51 {x : Nat} : W (pj lw) 26 51 (.val (.ref x) :: L) S k n H Q ↔ W (pj lw) 26 52 (.val (.ref x) :: L) (.ref x :: S) k n H Q := W_s (rfl : (pj lw).1 26 51 = some (.aload_n 0, 1, 0)) rfl rfl rfl
theorem w26_52 {x : Nat} : W (pj lw) 26 52 (.val (.ref x) :: L) S k n H Q ↔ W (pj lw) 26 53 (.val (.ref x) :: L) (.ref x :: S) k n H Q := W_s (rfl : (pj lw).1 26 52 = some (.aload_n 0, 1, 0)) rfl rfl rfl
theorem w26_53 {a : Nat} : W (pj lw) 26 53 L (.ref a :: S) k n H Q ↔ (isO H a = true ∧ W (pj lw) 26 56 L (fld H a 1 :: S) k n H Q) := W_getf (rfl : (pj lw).1 26 53 = some (.getfield 7, 3, 1))
theorem w26_56 {x : Int32} {l0 : Slot} : W (pj lw) 26 56 (l0 :: .val (.int x) :: L) S k n H Q ↔ W (pj lw) 26 57 (l0 :: .val (.int x) :: L) (.int x :: S) k n H Q := W_s (rfl : (pj lw).1 26 56 = some (.iload_n 1, 1, 0)) rfl rfl rfl
theorem w26_57 {i : Int32} {a : Nat} : W (pj lw) 26 57 L (.int i :: .ref a :: S) k n H Q ↔ (inA H a .int i = true ∧ W (pj lw) 26 58 L (elt H a i :: S) k n H Q) := W_iaload (rfl : (pj lw).1 26 57 = some (.iaload, 1, 0))
theorem w26_58 {x : Int32} {l0 : Slot} : W (pj lw) 26 58 (l0 :: .val (.int x) :: L) S k n H Q ↔ W (pj lw) 26 59 (l0 :: .val (.int x) :: L) (.int x :: S) k n H Q := W_s (rfl : (pj lw).1 26 58 = some (.iload_n 1, 1, 0)) rfl rfl rfl
theorem w26_59 {a : Nat} {x0 : Int32} {x1 : Int32} : W (pj lw) 26 59 L (.int x1 :: .int x0 :: .ref a :: S) k n H Q ↔ ((isO H a = true ∧ cs S + (5 + 11) + 0 ≤ 16) ∧ Cl (pj lw) 28 [.ref a, .int x0, .int x1] H (fun v H => W (pj lw) 26 62 L (v.toList ++ S) k n H Q)) := W_inst (as := [.int x0, .int x1]) (rfl : (pj lw).1 26 59 = some (.invokevirtual 132, 3, 28)) rfl rfl rfl (Nat.le_of_ble_eq_true rfl) (Nat.le_of_ble_eq_true rfl) ⟨rfl, rfl⟩
theorem w26_62 {x : Nat} : W (pj lw) 26 62 (.val (.ref x) :: L) S k n H Q ↔ W (pj lw) 26 63 (.val (.ref x) :: L) (.ref x :: S) k n H Q := W_s (rfl : (pj lw).1 26 62 = some (.aload_n 0, 1, 0)) rfl rfl rfl
theorem w26_63 {x : Nat} : W (pj lw) 26 63 (.val (.ref x) :: L) S k n H Q ↔ W (pj lw) 26 64 (.val (.ref x) :: L) (.ref x :: S) k n H Q := W_s (rfl : (pj lw).1 26 63 = some (.aload_n 0, 1, 0)) rfl rfl rfl
theorem w26_64 {a : Nat} : W (pj lw) 26 64 L (.ref a :: S) k n H Q ↔ (isO H a = true ∧ W (pj lw) 26 67 L (fld H a 2 :: S) k n H Q) := W_getf (rfl : (pj lw).1 26 64 = some (.getfield 13, 3, 2))
theorem w26_67 {x : Int32} {l0 : Slot} : W (pj lw) 26 67 (l0 :: .val (.int x) :: L) S k n H Q ↔ W (pj lw) 26 68 (l0 :: .val (.int x) :: L) (.int x :: S) k n H Q := W_s (rfl : (pj lw).1 26 67 = some (.iload_n 1, 1, 0)) rfl rfl rfl
theorem w26_68 {i : Int32} {a : Nat} : W (pj lw) 26 68 L (.int i :: .ref a :: S) k n H Q ↔ (inA H a .int i = true ∧ W (pj lw) 26 69 L (elt H a i :: S) k n H Q) := W_iaload (rfl : (pj lw).1 26 68 = some (.iaload, 1, 0))
theorem w26_69 {x : Int32} {l0 : Slot} : W (pj lw) 26 69 (l0 :: .val (.int x) :: L) S k n H Q ↔ W (pj lw) 26 70 (l0 :: .val (.int x) :: L) (.int x :: S) k n H Q := W_s (rfl : (pj lw).1 26 69 = some (.iload_n 1, 1, 0)) rfl rfl rfl
theorem w26_70 {a : Nat} {x0 : Int32} {x1 : Int32} : W (pj lw) 26 70 L (.int x1 :: .int x0 :: .ref a :: S) k n H Q ↔ ((isO H a = true ∧ cs S + (5 + 11) + 0 ≤ 16) ∧ Cl (pj lw) 28 [.ref a, .int x0, .int x1] H (fun v H => W (pj lw) 26 73 L (v.toList ++ S) k n H Q)) := W_inst (as := [.int x0, .int x1]) (rfl : (pj lw).1 26 70 = some (.invokevirtual 132, 3, 28)) rfl rfl rfl (Nat.le_of_ble_eq_true rfl) (Nat.le_of_ble_eq_true rfl) ⟨rfl, rfl⟩
theorem w26_73 : W (pj lw) 26 73 L [] k n H Q ↔ Q none H := W_r (rfl : (pj lw).1 26 73 = some (.return_, 1, 0)) rfl
theorem c27 {x0 : Nat} {x1 : Int32} {x2 : Int32} : Cl (pj lw) 27 [.ref x0, .int x1, .int x2] H Q ↔ W (pj lw) 27 0 [.val (.ref x0), .val (.int x1), .val (.int x2)] [] 0 0 H Q := cl_unf rfl
theorem w27_0 {x : Int32} {l0 : Slot} : W (pj lw) 27 0 (l0 :: .val (.int x) :: L) S k n H Q ↔ W (pj lw) 27 1 (l0 :: .val (.int x) :: L) (.int x :: S) k n H Q := W_s (rfl : (pj lw).1 27 0 = some (.iload_n 1, 1, 0)) rfl rfl rfl
theorem w27_1 {x : Int32} : W (pj lw) 27 1 L (.int x :: S) k n H Q ↔ (if x < 0 then W (pj lw) 27 10 L S k n H Q else W (pj lw) 27 4 L S k n H Q) := W_if_lt (rfl : (pj lw).1 27 1 = some (.ifCond .lt 9, 3, 0)) rfl
theorem w27_4 {x : Int32} {l0 : Slot} : W (pj lw) 27 4 (l0 :: .val (.int x) :: L) S k n H Q ↔ W (pj lw) 27 5 (l0 :: .val (.int x) :: L) (.int x :: S) k n H Q := W_s (rfl : (pj lw).1 27 4 = some (.iload_n 1, 1, 0)) rfl rfl rfl
theorem w27_5 : W (pj lw) 27 5 L S k n H Q ↔ W (pj lw) 27 7 L (.int 32 :: S) k n H Q := W_s (rfl : (pj lw).1 27 5 = some (.bipush 32, 2, 0)) rfl rfl rfl
theorem w27_7 {x y : Int32} : W (pj lw) 27 7 L (.int y :: .int x :: S) k n H Q ↔ (if x < y then W (pj lw) 27 11 L S k n H Q else W (pj lw) 27 10 L S k n H Q) := W_icmp_lt (rfl : (pj lw).1 27 7 = some (.if_icmp .lt 4, 3, 0)) rfl
theorem w27_11 {x : Nat} : W (pj lw) 27 11 (.val (.ref x) :: L) S k n H Q ↔ W (pj lw) 27 12 (.val (.ref x) :: L) (.ref x :: S) k n H Q := W_s (rfl : (pj lw).1 27 11 = some (.aload_n 0, 1, 0)) rfl rfl rfl
theorem w27_12 {a : Nat} : W (pj lw) 27 12 L (.ref a :: S) k n H Q ↔ (isO H a = true ∧ W (pj lw) 27 15 L (fld H a 7 :: S) k n H Q) := W_getf (rfl : (pj lw).1 27 12 = some (.getfield 29, 3, 7))
theorem w27_15 {x : Int32} {l0 : Slot} : W (pj lw) 27 15 (l0 :: .val (.int x) :: L) S k n H Q ↔ W (pj lw) 27 16 (l0 :: .val (.int x) :: L) (.int x :: S) k n H Q := W_s (rfl : (pj lw).1 27 15 = some (.iload_n 1, 1, 0)) rfl rfl rfl
theorem w27_16 {i : Int32} {a : Nat} : W (pj lw) 27 16 L (.int i :: .ref a :: S) k n H Q ↔ (inA H a .int i = true ∧ W (pj lw) 27 17 L (elt H a i :: S) k n H Q) := W_iaload (rfl : (pj lw).1 27 16 = some (.iaload, 1, 0))
theorem w27_17 {x : Int32} : W (pj lw) 27 17 L (.int x :: S) k n H Q ↔ (if x < 0 then W (pj lw) 27 31 L S k n H Q else W (pj lw) 27 20 L S k n H Q) := W_if_lt (rfl : (pj lw).1 27 17 = some (.ifCond .lt 14, 3, 0)) rfl
theorem w27_20 {x : Nat} : W (pj lw) 27 20 (.val (.ref x) :: L) S k n H Q ↔ W (pj lw) 27 21 (.val (.ref x) :: L) (.ref x :: S) k n H Q := W_s (rfl : (pj lw).1 27 20 = some (.aload_n 0, 1, 0)) rfl rfl rfl
theorem w27_21 {a : Nat} : W (pj lw) 27 21 L (.ref a :: S) k n H Q ↔ (isO H a = true ∧ W (pj lw) 27 24 L (fld H a 7 :: S) k n H Q) := W_getf (rfl : (pj lw).1 27 21 = some (.getfield 29, 3, 7))
theorem w27_24 {x : Int32} {l0 : Slot} : W (pj lw) 27 24 (l0 :: .val (.int x) :: L) S k n H Q ↔ W (pj lw) 27 25 (l0 :: .val (.int x) :: L) (.int x :: S) k n H Q := W_s (rfl : (pj lw).1 27 24 = some (.iload_n 1, 1, 0)) rfl rfl rfl
theorem w27_25 {i : Int32} {a : Nat} : W (pj lw) 27 25 L (.int i :: .ref a :: S) k n H Q ↔ (inA H a .int i = true ∧ W (pj lw) 27 26 L (elt H a i :: S) k n H Q) := W_iaload (rfl : (pj lw).1 27 25 = some (.iaload, 1, 0))
theorem w27_26 : W (pj lw) 27 26 L S k n H Q ↔ W (pj lw) 27 28 L (.int 32 :: S) k n H Q := W_s (rfl : (pj lw).1 27 26 = some (.bipush 32, 2, 0)) rfl rfl rfl
theorem w27_28 {x y : Int32} : W (pj lw) 27 28 L (.int y :: .int x :: S) k n H Q ↔ (if x < y then W (pj lw) 27 32 L S k n H Q else W (pj lw) 27 31 L S k n H Q) := W_icmp_lt (rfl : (pj lw).1 27 28 = some (.if_icmp .lt 4, 3, 0)) rfl
theorem w27_31 : W (pj lw) 27 31 L [] k n H Q ↔ Q none H := W_r (rfl : (pj lw).1 27 31 = some (.return_, 1, 0)) rfl
theorem w27_32 {x : Nat} : W (pj lw) 27 32 (.val (.ref x) :: L) S k n H Q ↔ W (pj lw) 27 33 (.val (.ref x) :: L) (.ref x :: S) k n H Q := W_s (rfl : (pj lw).1 27 32 = some (.aload_n 0, 1, 0)) rfl rfl rfl
theorem w27_33 {a : Nat} : W (pj lw) 27 33 L (.ref a :: S) k n H Q ↔ (isO H a = true ∧ W (pj lw) 27 36 L (fld H a 6 :: S) k n H Q) := W_getf (rfl : (pj lw).1 27 33 = some (.getfield 26, 3, 6))
theorem w27_36 {x : Int32} {l0 : Slot} : W (pj lw) 27 36 (l0 :: .val (.int x) :: L) S k n H Q ↔ W (pj lw) 27 37 (l0 :: .val (.int x) :: L) (.int x :: S) k n H Q := W_s (rfl : (pj lw).1 27 36 = some (.iload_n 1, 1, 0)) rfl rfl rfl
theorem w27_37 : W (pj lw) 27 37 L S k n H Q ↔ W (pj lw) 27 39 L (.int 32 :: S) k n H Q := W_s (rfl : (pj lw).1 27 37 = some (.bipush 32, 2, 0)) rfl rfl rfl
theorem w27_39 {x y : Int32} : W (pj lw) 27 39 L (.int y :: .int x :: S) k n H Q ↔ W (pj lw) 27 40 L (.int (x * y) :: S) k n H Q := W_s (rfl : (pj lw).1 27 39 = some (.imul, 1, 0)) rfl rfl rfl
theorem w27_40 {x : Nat} : W (pj lw) 27 40 (.val (.ref x) :: L) S k n H Q ↔ W (pj lw) 27 41 (.val (.ref x) :: L) (.ref x :: S) k n H Q := W_s (rfl : (pj lw).1 27 40 = some (.aload_n 0, 1, 0)) rfl rfl rfl
theorem w27_41 {a : Nat} : W (pj lw) 27 41 L (.ref a :: S) k n H Q ↔ (isO H a = true ∧ W (pj lw) 27 44 L (fld H a 7 :: S) k n H Q) := W_getf (rfl : (pj lw).1 27 41 = some (.getfield 29, 3, 7))
theorem w27_44 {x : Int32} {l0 : Slot} : W (pj lw) 27 44 (l0 :: .val (.int x) :: L) S k n H Q ↔ W (pj lw) 27 45 (l0 :: .val (.int x) :: L) (.int x :: S) k n H Q := W_s (rfl : (pj lw).1 27 44 = some (.iload_n 1, 1, 0)) rfl rfl rfl
theorem w27_45 {i : Int32} {a : Nat} : W (pj lw) 27 45 L (.int i :: .ref a :: S) k n H Q ↔ (inA H a .int i = true ∧ W (pj lw) 27 46 L (elt H a i :: S) k n H Q) := W_iaload (rfl : (pj lw).1 27 45 = some (.iaload, 1, 0))
theorem w27_46 {x y : Int32} : W (pj lw) 27 46 L (.int y :: .int x :: S) k n H Q ↔ W (pj lw) 27 47 L (.int (x + y) :: S) k n H Q := W_s (rfl : (pj lw).1 27 46 = some (.iadd, 1, 0)) rfl rfl rfl
theorem w27_47 {x : Int32} {l0 l1 : Slot} : W (pj lw) 27 47 (l0 :: l1 :: .val (.int x) :: L) S k n H Q ↔ W (pj lw) 27 48 (l0 :: l1 :: .val (.int x) :: L) (.int x :: S) k n H Q := W_s (rfl : (pj lw).1 27 47 = some (.iload_n 2, 1, 0)) rfl rfl rfl
theorem w27_48 {x i : Int32} {a : Nat} : W (pj lw) 27 48 L (.int x :: .int i :: .ref a :: S) k n H Q ↔ (inAw H a .int i = true ∧ W (pj lw) 27 49 L S k n (wr H a i.toNatClampNeg (.int x)) Q) := W_iastore (rfl : (pj lw).1 27 48 = some (.iastore, 1, 0))
theorem w27_49 {x : Nat} : W (pj lw) 27 49 (.val (.ref x) :: L) S k n H Q ↔ W (pj lw) 27 50 (.val (.ref x) :: L) (.ref x :: S) k n H Q := W_s (rfl : (pj lw).1 27 49 = some (.aload_n 0, 1, 0)) rfl rfl rfl
theorem w27_50 {a : Nat} : W (pj lw) 27 50 L (.ref a :: S) k n H Q ↔ (isO H a = true ∧ W (pj lw) 27 53 L (fld H a 7 :: S) k n H Q) := W_getf (rfl : (pj lw).1 27 50 = some (.getfield 29, 3, 7))
theorem w27_53 {x : Int32} {l0 : Slot} : W (pj lw) 27 53 (l0 :: .val (.int x) :: L) S k n H Q ↔ W (pj lw) 27 54 (l0 :: .val (.int x) :: L) (.int x :: S) k n H Q := W_s (rfl : (pj lw).1 27 53 = some (.iload_n 1, 1, 0)) rfl rfl rfl
theorem w27_54 {x : Int32} {y : Nat} : W (pj lw) 27 54 L (.int x :: .ref y :: S) k n H Q ↔ W (pj lw) 27 55 L (.int x :: .ref y :: .int x :: .ref y :: S) k n H Q := W_s (rfl : (pj lw).1 27 54 = some (.dup2, 1, 0)) rfl rfl rfl
theorem w27_55 {i : Int32} {a : Nat} : W (pj lw) 27 55 L (.int i :: .ref a :: S) k n H Q ↔ (inA H a .int i = true ∧ W (pj lw) 27 56 L (elt H a i :: S) k n H Q) := W_iaload (rfl : (pj lw).1 27 55 = some (.iaload, 1, 0))
theorem w27_56 : W (pj lw) 27 56 L S k n H Q ↔ W (pj lw) 27 57 L (.int 1 :: S) k n H Q := W_s (rfl : (pj lw).1 27 56 = some (.iconst 1, 1, 0)) rfl rfl rfl
theorem w27_57 {x y : Int32} : W (pj lw) 27 57 L (.int y :: .int x :: S) k n H Q ↔ W (pj lw) 27 58 L (.int (x + y) :: S) k n H Q := W_s (rfl : (pj lw).1 27 57 = some (.iadd, 1, 0)) rfl rfl rfl
theorem w27_58 {x i : Int32} {a : Nat} : W (pj lw) 27 58 L (.int x :: .int i :: .ref a :: S) k n H Q ↔ (inAw H a .int i = true ∧ W (pj lw) 27 59 L S k n (wr H a i.toNatClampNeg (.int x)) Q) := W_iastore (rfl : (pj lw).1 27 58 = some (.iastore, 1, 0))
theorem w27_59 : W (pj lw) 27 59 L [] k n H Q ↔ Q none H := W_r (rfl : (pj lw).1 27 59 = some (.return_, 1, 0)) rfl
theorem c28 {x0 : Nat} {x1 : Int32} {x2 : Int32} : Cl (pj lw) 28 [.ref x0, .int x1, .int x2] H Q ↔ W (pj lw) 28 0 [.val (.ref x0), .val (.int x1), .val (.int x2), .unset, .unset] [] 0 0 H Q := cl_unf rfl
theorem w28_0 {x : Int32} {l0 : Slot} : W (pj lw) 28 0 (l0 :: .val (.int x) :: L) S k n H Q ↔ W (pj lw) 28 1 (l0 :: .val (.int x) :: L) (.int x :: S) k n H Q := W_s (rfl : (pj lw).1 28 0 = some (.iload_n 1, 1, 0)) rfl rfl rfl
theorem w28_1 {x : Int32} : W (pj lw) 28 1 L (.int x :: S) k n H Q ↔ (if x < 0 then W (pj lw) 28 10 L S k n H Q else W (pj lw) 28 4 L S k n H Q) := W_if_lt (rfl : (pj lw).1 28 1 = some (.ifCond .lt 9, 3, 0)) rfl
theorem w28_4 {x : Int32} {l0 : Slot} : W (pj lw) 28 4 (l0 :: .val (.int x) :: L) S k n H Q ↔ W (pj lw) 28 5 (l0 :: .val (.int x) :: L) (.int x :: S) k n H Q := W_s (rfl : (pj lw).1 28 4 = some (.iload_n 1, 1, 0)) rfl rfl rfl
theorem w28_5 : W (pj lw) 28 5 L S k n H Q ↔ W (pj lw) 28 7 L (.int 32 :: S) k n H Q := W_s (rfl : (pj lw).1 28 5 = some (.bipush 32, 2, 0)) rfl rfl rfl
theorem w28_7 {x y : Int32} : W (pj lw) 28 7 L (.int y :: .int x :: S) k n H Q ↔ (if x < y then W (pj lw) 28 11 L S k n H Q else W (pj lw) 28 10 L S k n H Q) := W_icmp_lt (rfl : (pj lw).1 28 7 = some (.if_icmp .lt 4, 3, 0)) rfl
theorem w28_11 {x : Int32} {l0 : Slot} : W (pj lw) 28 11 (l0 :: .val (.int x) :: L) S k n H Q ↔ W (pj lw) 28 12 (l0 :: .val (.int x) :: L) (.int x :: S) k n H Q := W_s (rfl : (pj lw).1 28 11 = some (.iload_n 1, 1, 0)) rfl rfl rfl
theorem w28_12 : W (pj lw) 28 12 L S k n H Q ↔ W (pj lw) 28 14 L (.int 32 :: S) k n H Q := W_s (rfl : (pj lw).1 28 12 = some (.bipush 32, 2, 0)) rfl rfl rfl
theorem w28_14 {x y : Int32} : W (pj lw) 28 14 L (.int y :: .int x :: S) k n H Q ↔ W (pj lw) 28 15 L (.int (x * y) :: S) k n H Q := W_s (rfl : (pj lw).1 28 14 = some (.imul, 1, 0)) rfl rfl rfl
theorem w28_15 {x : Int32} {l0 l1 l2 : Slot} : W (pj lw) 28 15 (l0 :: l1 :: l2 :: .unset :: L) (.int x :: S) k n H Q ↔ W (pj lw) 28 16 (l0 :: l1 :: l2 :: .val (.int x) :: L) S k n H Q := W_istn (rfl : (pj lw).1 28 15 = some (.istore_n 3, 1, 0)) rfl rfl
theorem w28_16 : W (pj lw) 28 16 L S k n H Q ↔ W (pj lw) 28 17 L (.int 0 :: S) k n H Q := W_s (rfl : (pj lw).1 28 16 = some (.iconst 0, 1, 0)) rfl rfl rfl
theorem w28_17 {x : Int32} {l0 l1 l2 l3 : Slot} : W (pj lw) 28 17 (l0 :: l1 :: l2 :: l3 :: .unset :: L) (.int x :: S) k n H Q ↔ W (pj lw) 28 19 (l0 :: l1 :: l2 :: l3 :: .val (.int x) :: L) S k n H Q := W_ist (rfl : (pj lw).1 28 17 = some (.istore 4, 2, 0)) rfl rfl
theorem w28_19 {x : Int32} {l0 l1 l2 l3 : Slot} : W (pj lw) 28 19 (l0 :: l1 :: l2 :: l3 :: .val (.int x) :: L) S k n H Q ↔ W (pj lw) 28 21 (l0 :: l1 :: l2 :: l3 :: .val (.int x) :: L) (.int x :: S) k n H Q := W_s (rfl : (pj lw).1 28 19 = some (.iload 4, 2, 0)) rfl rfl rfl
theorem w28_21 {x : Nat} : W (pj lw) 28 21 (.val (.ref x) :: L) S k n H Q ↔ W (pj lw) 28 22 (.val (.ref x) :: L) (.ref x :: S) k n H Q := W_s (rfl : (pj lw).1 28 21 = some (.aload_n 0, 1, 0)) rfl rfl rfl
theorem w28_22 {a : Nat} : W (pj lw) 28 22 L (.ref a :: S) k n H Q ↔ (isO H a = true ∧ W (pj lw) 28 25 L (fld H a 7 :: S) k n H Q) := W_getf (rfl : (pj lw).1 28 22 = some (.getfield 29, 3, 7))
theorem w28_25 {x : Int32} {l0 : Slot} : W (pj lw) 28 25 (l0 :: .val (.int x) :: L) S k n H Q ↔ W (pj lw) 28 26 (l0 :: .val (.int x) :: L) (.int x :: S) k n H Q := W_s (rfl : (pj lw).1 28 25 = some (.iload_n 1, 1, 0)) rfl rfl rfl
theorem w28_26 {i : Int32} {a : Nat} : W (pj lw) 28 26 L (.int i :: .ref a :: S) k n H Q ↔ (inA H a .int i = true ∧ W (pj lw) 28 27 L (elt H a i :: S) k n H Q) := W_iaload (rfl : (pj lw).1 28 26 = some (.iaload, 1, 0))
theorem w28_27 {x y : Int32} : W (pj lw) 28 27 L (.int y :: .int x :: S) k n H Q ↔ (if x < y then W (pj lw) 28 30 L S k n H Q else W (pj lw) 28 89 L S k n H Q) := W_icmp_ge (rfl : (pj lw).1 28 27 = some (.if_icmp .ge 62, 3, 0)) rfl
theorem w28_30 {x : Int32} {l0 l1 l2 l3 : Slot} : W (pj lw) 28 30 (l0 :: l1 :: l2 :: l3 :: .val (.int x) :: L) S k n H Q ↔ W (pj lw) 28 32 (l0 :: l1 :: l2 :: l3 :: .val (.int x) :: L) (.int x :: S) k n H Q := W_s (rfl : (pj lw).1 28 30 = some (.iload 4, 2, 0)) rfl rfl rfl
theorem w28_32 : W (pj lw) 28 32 L S k n H Q ↔ W (pj lw) 28 34 L (.int 32 :: S) k n H Q := W_s (rfl : (pj lw).1 28 32 = some (.bipush 32, 2, 0)) rfl rfl rfl
theorem w28_34 {x y : Int32} : W (pj lw) 28 34 L (.int y :: .int x :: S) k n H Q ↔ (if x < y then W (pj lw) 28 37 L S k n H Q else W (pj lw) 28 89 L S k n H Q) := W_icmp_ge (rfl : (pj lw).1 28 34 = some (.if_icmp .ge 55, 3, 0)) rfl
theorem w28_37 {x : Nat} : W (pj lw) 28 37 (.val (.ref x) :: L) S k n H Q ↔ W (pj lw) 28 38 (.val (.ref x) :: L) (.ref x :: S) k n H Q := W_s (rfl : (pj lw).1 28 37 = some (.aload_n 0, 1, 0)) rfl rfl rfl
theorem w28_38 {a : Nat} : W (pj lw) 28 38 L (.ref a :: S) k n H Q ↔ (isO H a = true ∧ W (pj lw) 28 41 L (fld H a 6 :: S) k n H Q) := W_getf (rfl : (pj lw).1 28 38 = some (.getfield 26, 3, 6))
theorem w28_41 {x : Int32} {l0 l1 l2 : Slot} : W (pj lw) 28 41 (l0 :: l1 :: l2 :: .val (.int x) :: L) S k n H Q ↔ W (pj lw) 28 42 (l0 :: l1 :: l2 :: .val (.int x) :: L) (.int x :: S) k n H Q := W_s (rfl : (pj lw).1 28 41 = some (.iload_n 3, 1, 0)) rfl rfl rfl
theorem w28_42 {x : Int32} {l0 l1 l2 l3 : Slot} : W (pj lw) 28 42 (l0 :: l1 :: l2 :: l3 :: .val (.int x) :: L) S k n H Q ↔ W (pj lw) 28 44 (l0 :: l1 :: l2 :: l3 :: .val (.int x) :: L) (.int x :: S) k n H Q := W_s (rfl : (pj lw).1 28 42 = some (.iload 4, 2, 0)) rfl rfl rfl
theorem w28_44 {x y : Int32} : W (pj lw) 28 44 L (.int y :: .int x :: S) k n H Q ↔ W (pj lw) 28 45 L (.int (x + y) :: S) k n H Q := W_s (rfl : (pj lw).1 28 44 = some (.iadd, 1, 0)) rfl rfl rfl
theorem w28_45 {i : Int32} {a : Nat} : W (pj lw) 28 45 L (.int i :: .ref a :: S) k n H Q ↔ (inA H a .int i = true ∧ W (pj lw) 28 46 L (elt H a i :: S) k n H Q) := W_iaload (rfl : (pj lw).1 28 45 = some (.iaload, 1, 0))
theorem w28_46 {x : Int32} {l0 l1 : Slot} : W (pj lw) 28 46 (l0 :: l1 :: .val (.int x) :: L) S k n H Q ↔ W (pj lw) 28 47 (l0 :: l1 :: .val (.int x) :: L) (.int x :: S) k n H Q := W_s (rfl : (pj lw).1 28 46 = some (.iload_n 2, 1, 0)) rfl rfl rfl
theorem w28_47 {x y : Int32} : W (pj lw) 28 47 L (.int y :: .int x :: S) k n H Q ↔ (if x = y then W (pj lw) 28 50 L S k n H Q else W (pj lw) 28 83 L S k n H Q) := W_icmp_ne (rfl : (pj lw).1 28 47 = some (.if_icmp .ne 36, 3, 0)) rfl
theorem w28_50 {x : Nat} : W (pj lw) 28 50 (.val (.ref x) :: L) S k n H Q ↔ W (pj lw) 28 51 (.val (.ref x) :: L) (.ref x :: S) k n H Q := W_s (rfl : (pj lw).1 28 50 = some (.aload_n 0, 1, 0)) rfl rfl rfl
theorem w28_51 {a : Nat} : W (pj lw) 28 51 L (.ref a :: S) k n H Q ↔ (isO H a = true ∧ W (pj lw) 28 54 L (fld H a 7 :: S) k n H Q) := W_getf (rfl : (pj lw).1 28 51 = some (.getfield 29, 3, 7))
theorem w28_54 {x : Int32} {l0 : Slot} : W (pj lw) 28 54 (l0 :: .val (.int x) :: L) S k n H Q ↔ W (pj lw) 28 55 (l0 :: .val (.int x) :: L) (.int x :: S) k n H Q := W_s (rfl : (pj lw).1 28 54 = some (.iload_n 1, 1, 0)) rfl rfl rfl
theorem w28_55 {x : Int32} {y : Nat} : W (pj lw) 28 55 L (.int x :: .ref y :: S) k n H Q ↔ W (pj lw) 28 56 L (.int x :: .ref y :: .int x :: .ref y :: S) k n H Q := W_s (rfl : (pj lw).1 28 55 = some (.dup2, 1, 0)) rfl rfl rfl
theorem w28_56 {i : Int32} {a : Nat} : W (pj lw) 28 56 L (.int i :: .ref a :: S) k n H Q ↔ (inA H a .int i = true ∧ W (pj lw) 28 57 L (elt H a i :: S) k n H Q) := W_iaload (rfl : (pj lw).1 28 56 = some (.iaload, 1, 0))
theorem w28_57 : W (pj lw) 28 57 L S k n H Q ↔ W (pj lw) 28 58 L (.int 1 :: S) k n H Q := W_s (rfl : (pj lw).1 28 57 = some (.iconst 1, 1, 0)) rfl rfl rfl
theorem w28_58 {x y : Int32} : W (pj lw) 28 58 L (.int y :: .int x :: S) k n H Q ↔ W (pj lw) 28 59 L (.int (x - y) :: S) k n H Q := W_s (rfl : (pj lw).1 28 58 = some (.isub, 1, 0)) rfl rfl rfl
theorem w28_59 {x i : Int32} {a : Nat} : W (pj lw) 28 59 L (.int x :: .int i :: .ref a :: S) k n H Q ↔ (inAw H a .int i = true ∧ W (pj lw) 28 60 L S k n (wr H a i.toNatClampNeg (.int x)) Q) := W_iastore (rfl : (pj lw).1 28 59 = some (.iastore, 1, 0))
theorem w28_60 {x : Nat} : W (pj lw) 28 60 (.val (.ref x) :: L) S k n H Q ↔ W (pj lw) 28 61 (.val (.ref x) :: L) (.ref x :: S) k n H Q := W_s (rfl : (pj lw).1 28 60 = some (.aload_n 0, 1, 0)) rfl rfl rfl
theorem w28_61 {a : Nat} : W (pj lw) 28 61 L (.ref a :: S) k n H Q ↔ (isO H a = true ∧ W (pj lw) 28 64 L (fld H a 6 :: S) k n H Q) := W_getf (rfl : (pj lw).1 28 61 = some (.getfield 26, 3, 6))
theorem w28_64 {x : Int32} {l0 l1 l2 : Slot} : W (pj lw) 28 64 (l0 :: l1 :: l2 :: .val (.int x) :: L) S k n H Q ↔ W (pj lw) 28 65 (l0 :: l1 :: l2 :: .val (.int x) :: L) (.int x :: S) k n H Q := W_s (rfl : (pj lw).1 28 64 = some (.iload_n 3, 1, 0)) rfl rfl rfl
theorem w28_65 {x : Int32} {l0 l1 l2 l3 : Slot} : W (pj lw) 28 65 (l0 :: l1 :: l2 :: l3 :: .val (.int x) :: L) S k n H Q ↔ W (pj lw) 28 67 (l0 :: l1 :: l2 :: l3 :: .val (.int x) :: L) (.int x :: S) k n H Q := W_s (rfl : (pj lw).1 28 65 = some (.iload 4, 2, 0)) rfl rfl rfl
theorem w28_67 {x y : Int32} : W (pj lw) 28 67 L (.int y :: .int x :: S) k n H Q ↔ W (pj lw) 28 68 L (.int (x + y) :: S) k n H Q := W_s (rfl : (pj lw).1 28 67 = some (.iadd, 1, 0)) rfl rfl rfl
theorem w28_68 {x : Nat} : W (pj lw) 28 68 (.val (.ref x) :: L) S k n H Q ↔ W (pj lw) 28 69 (.val (.ref x) :: L) (.ref x :: S) k n H Q := W_s (rfl : (pj lw).1 28 68 = some (.aload_n 0, 1, 0)) rfl rfl rfl
theorem w28_69 {a : Nat} : W (pj lw) 28 69 L (.ref a :: S) k n H Q ↔ (isO H a = true ∧ W (pj lw) 28 72 L (fld H a 6 :: S) k n H Q) := W_getf (rfl : (pj lw).1 28 69 = some (.getfield 26, 3, 6))
theorem w28_72 {x : Int32} {l0 l1 l2 : Slot} : W (pj lw) 28 72 (l0 :: l1 :: l2 :: .val (.int x) :: L) S k n H Q ↔ W (pj lw) 28 73 (l0 :: l1 :: l2 :: .val (.int x) :: L) (.int x :: S) k n H Q := W_s (rfl : (pj lw).1 28 72 = some (.iload_n 3, 1, 0)) rfl rfl rfl
theorem w28_73 {x : Nat} : W (pj lw) 28 73 (.val (.ref x) :: L) S k n H Q ↔ W (pj lw) 28 74 (.val (.ref x) :: L) (.ref x :: S) k n H Q := W_s (rfl : (pj lw).1 28 73 = some (.aload_n 0, 1, 0)) rfl rfl rfl
theorem w28_74 {a : Nat} : W (pj lw) 28 74 L (.ref a :: S) k n H Q ↔ (isO H a = true ∧ W (pj lw) 28 77 L (fld H a 7 :: S) k n H Q) := W_getf (rfl : (pj lw).1 28 74 = some (.getfield 29, 3, 7))
theorem w28_77 {x : Int32} {l0 : Slot} : W (pj lw) 28 77 (l0 :: .val (.int x) :: L) S k n H Q ↔ W (pj lw) 28 78 (l0 :: .val (.int x) :: L) (.int x :: S) k n H Q := W_s (rfl : (pj lw).1 28 77 = some (.iload_n 1, 1, 0)) rfl rfl rfl
theorem w28_78 {i : Int32} {a : Nat} : W (pj lw) 28 78 L (.int i :: .ref a :: S) k n H Q ↔ (inA H a .int i = true ∧ W (pj lw) 28 79 L (elt H a i :: S) k n H Q) := W_iaload (rfl : (pj lw).1 28 78 = some (.iaload, 1, 0))
theorem w28_79 {x y : Int32} : W (pj lw) 28 79 L (.int y :: .int x :: S) k n H Q ↔ W (pj lw) 28 80 L (.int (x + y) :: S) k n H Q := W_s (rfl : (pj lw).1 28 79 = some (.iadd, 1, 0)) rfl rfl rfl
theorem w28_80 {i : Int32} {a : Nat} : W (pj lw) 28 80 L (.int i :: .ref a :: S) k n H Q ↔ (inA H a .int i = true ∧ W (pj lw) 28 81 L (elt H a i :: S) k n H Q) := W_iaload (rfl : (pj lw).1 28 80 = some (.iaload, 1, 0))
theorem w28_81 {x i : Int32} {a : Nat} : W (pj lw) 28 81 L (.int x :: .int i :: .ref a :: S) k n H Q ↔ (inAw H a .int i = true ∧ W (pj lw) 28 82 L S k n (wr H a i.toNatClampNeg (.int x)) Q) := W_iastore (rfl : (pj lw).1 28 81 = some (.iastore, 1, 0))
theorem w28_82 : W (pj lw) 28 82 L [] k n H Q ↔ Q none H := W_r (rfl : (pj lw).1 28 82 = some (.return_, 1, 0)) rfl
theorem w28_83 {x : Int32} {l0 l1 l2 l3 : Slot} : W (pj lw) 28 83 (l0 :: l1 :: l2 :: l3 :: .val (.int x) :: L) S k n H Q ↔ W (pj lw) 28 86 (l0 :: l1 :: l2 :: l3 :: .val (.int (x + 1)) :: L) S k n H Q := W_s (rfl : (pj lw).1 28 83 = some (.iinc 4 1, 3, 0)) rfl rfl rfl
theorem w28_86 : W (pj lw) 28 86 L S k n H Q ↔ W (pj lw) 28 19 L S k n H Q := W_goto (rfl : (pj lw).1 28 86 = some (.goto (-67), 3, 0)) rfl
theorem w28_89 : W (pj lw) 28 89 L [] k n H Q ↔ Q none H := W_r (rfl : (pj lw).1 28 89 = some (.return_, 1, 0)) rfl
theorem c29 {x0 : Nat} : Cl (pj lw) 29 [.ref x0] H Q ↔ W (pj lw) 29 0 [.val (.ref x0), .unset] [] 0 0 H Q := cl_unf rfl
theorem w29_0 : W (pj lw) 29 0 L S k n H Q ↔ W (pj lw) 29 1 L (.int 0 :: S) k n H Q := W_s (rfl : (pj lw).1 29 0 = some (.iconst 0, 1, 0)) rfl rfl rfl
theorem w29_1 {x : Int32} {l0 : Slot} : W (pj lw) 29 1 (l0 :: .unset :: L) (.int x :: S) k n H Q ↔ W (pj lw) 29 2 (l0 :: .val (.int x) :: L) S k n H Q := W_istn (rfl : (pj lw).1 29 1 = some (.istore_n 1, 1, 0)) rfl rfl
theorem w29_2 {x : Int32} {l0 : Slot} : W (pj lw) 29 2 (l0 :: .val (.int x) :: L) S k n H Q ↔ W (pj lw) 29 3 (l0 :: .val (.int x) :: L) (.int x :: S) k n H Q := W_s (rfl : (pj lw).1 29 2 = some (.iload_n 1, 1, 0)) rfl rfl rfl
theorem w29_3 : W (pj lw) 29 3 L S k n H Q ↔ W (pj lw) 29 5 L (.int 32 :: S) k n H Q := W_s (rfl : (pj lw).1 29 3 = some (.bipush 32, 2, 0)) rfl rfl rfl
theorem w29_5 {x y : Int32} : W (pj lw) 29 5 L (.int y :: .int x :: S) k n H Q ↔ (if x < y then W (pj lw) 29 8 L S k n H Q else W (pj lw) 29 42 L S k n H Q) := W_icmp_ge (rfl : (pj lw).1 29 5 = some (.if_icmp .ge 37, 3, 0)) rfl
theorem w29_8 {x : Nat} : W (pj lw) 29 8 (.val (.ref x) :: L) S k n H Q ↔ W (pj lw) 29 9 (.val (.ref x) :: L) (.ref x :: S) k n H Q := W_s (rfl : (pj lw).1 29 8 = some (.aload_n 0, 1, 0)) rfl rfl rfl
theorem w29_9 {a : Nat} : W (pj lw) 29 9 L (.ref a :: S) k n H Q ↔ (isO H a = true ∧ W (pj lw) 29 12 L (fld H a 8 :: S) k n H Q) := W_getf (rfl : (pj lw).1 29 9 = some (.getfield 32, 3, 8))
theorem w29_12 {x : Int32} {l0 : Slot} : W (pj lw) 29 12 (l0 :: .val (.int x) :: L) S k n H Q ↔ W (pj lw) 29 13 (l0 :: .val (.int x) :: L) (.int x :: S) k n H Q := W_s (rfl : (pj lw).1 29 12 = some (.iload_n 1, 1, 0)) rfl rfl rfl
theorem w29_13 : W (pj lw) 29 13 L S k n H Q ↔ W (pj lw) 29 14 L (.int 0 :: S) k n H Q := W_s (rfl : (pj lw).1 29 13 = some (.iconst 0, 1, 0)) rfl rfl rfl
theorem w29_14 {x i : Int32} {a : Nat} : W (pj lw) 29 14 L (.int x :: .int i :: .ref a :: S) k n H Q ↔ (((inAw H a .byte i = true ∧ okv .byte (.int x) = true) ∨ (inAw H a .boolean i = true ∧ okv .boolean (.int x) = true)) ∧ W (pj lw) 29 15 L S k n (wr H a i.toNatClampNeg (.int x)) Q) := W_bastore (rfl : (pj lw).1 29 14 = some (.bastore, 1, 0))
theorem w29_15 {x : Nat} : W (pj lw) 29 15 (.val (.ref x) :: L) S k n H Q ↔ W (pj lw) 29 16 (.val (.ref x) :: L) (.ref x :: S) k n H Q := W_s (rfl : (pj lw).1 29 15 = some (.aload_n 0, 1, 0)) rfl rfl rfl
theorem w29_16 {a : Nat} : W (pj lw) 29 16 L (.ref a :: S) k n H Q ↔ (isO H a = true ∧ W (pj lw) 29 19 L (fld H a 9 :: S) k n H Q) := W_getf (rfl : (pj lw).1 29 16 = some (.getfield 35, 3, 9))
theorem w29_19 {x : Int32} {l0 : Slot} : W (pj lw) 29 19 (l0 :: .val (.int x) :: L) S k n H Q ↔ W (pj lw) 29 20 (l0 :: .val (.int x) :: L) (.int x :: S) k n H Q := W_s (rfl : (pj lw).1 29 19 = some (.iload_n 1, 1, 0)) rfl rfl rfl
theorem w29_20 : W (pj lw) 29 20 L S k n H Q ↔ W (pj lw) 29 21 L (.int (-1) :: S) k n H Q := W_s (rfl : (pj lw).1 29 20 = some (.iconst (-1), 1, 0)) rfl rfl rfl
theorem w29_21 {x i : Int32} {a : Nat} : W (pj lw) 29 21 L (.int x :: .int i :: .ref a :: S) k n H Q ↔ (inAw H a .int i = true ∧ W (pj lw) 29 22 L S k n (wr H a i.toNatClampNeg (.int x)) Q) := W_iastore (rfl : (pj lw).1 29 21 = some (.iastore, 1, 0))
theorem w29_22 {x : Nat} : W (pj lw) 29 22 (.val (.ref x) :: L) S k n H Q ↔ W (pj lw) 29 23 (.val (.ref x) :: L) (.ref x :: S) k n H Q := W_s (rfl : (pj lw).1 29 22 = some (.aload_n 0, 1, 0)) rfl rfl rfl
theorem w29_23 {a : Nat} : W (pj lw) 29 23 L (.ref a :: S) k n H Q ↔ (isO H a = true ∧ W (pj lw) 29 26 L (fld H a 10 :: S) k n H Q) := W_getf (rfl : (pj lw).1 29 23 = some (.getfield 38, 3, 10))
theorem w29_26 {x : Int32} {l0 : Slot} : W (pj lw) 29 26 (l0 :: .val (.int x) :: L) S k n H Q ↔ W (pj lw) 29 27 (l0 :: .val (.int x) :: L) (.int x :: S) k n H Q := W_s (rfl : (pj lw).1 29 26 = some (.iload_n 1, 1, 0)) rfl rfl rfl
theorem w29_27 : W (pj lw) 29 27 L S k n H Q ↔ W (pj lw) 29 28 L (.int (-1) :: S) k n H Q := W_s (rfl : (pj lw).1 29 27 = some (.iconst (-1), 1, 0)) rfl rfl rfl
theorem w29_28 {x i : Int32} {a : Nat} : W (pj lw) 29 28 L (.int x :: .int i :: .ref a :: S) k n H Q ↔ (inAw H a .int i = true ∧ W (pj lw) 29 29 L S k n (wr H a i.toNatClampNeg (.int x)) Q) := W_iastore (rfl : (pj lw).1 29 28 = some (.iastore, 1, 0))
theorem w29_29 {x : Nat} : W (pj lw) 29 29 (.val (.ref x) :: L) S k n H Q ↔ W (pj lw) 29 30 (.val (.ref x) :: L) (.ref x :: S) k n H Q := W_s (rfl : (pj lw).1 29 29 = some (.aload_n 0, 1, 0)) rfl rfl rfl
theorem w29_30 {a : Nat} : W (pj lw) 29 30 L (.ref a :: S) k n H Q ↔ (isO H a = true ∧ W (pj lw) 29 33 L (fld H a 11 :: S) k n H Q) := W_getf (rfl : (pj lw).1 29 30 = some (.getfield 41, 3, 11))
theorem w29_33 {x : Int32} {l0 : Slot} : W (pj lw) 29 33 (l0 :: .val (.int x) :: L) S k n H Q ↔ W (pj lw) 29 34 (l0 :: .val (.int x) :: L) (.int x :: S) k n H Q := W_s (rfl : (pj lw).1 29 33 = some (.iload_n 1, 1, 0)) rfl rfl rfl
theorem w29_34 : W (pj lw) 29 34 L S k n H Q ↔ W (pj lw) 29 35 L (.int 0 :: S) k n H Q := W_s (rfl : (pj lw).1 29 34 = some (.iconst 0, 1, 0)) rfl rfl rfl
theorem w29_35 {x i : Int32} {a : Nat} : W (pj lw) 29 35 L (.int x :: .int i :: .ref a :: S) k n H Q ↔ (inAw H a .int i = true ∧ W (pj lw) 29 36 L S k n (wr H a i.toNatClampNeg (.int x)) Q) := W_iastore (rfl : (pj lw).1 29 35 = some (.iastore, 1, 0))
theorem w29_36 {x : Int32} {l0 : Slot} : W (pj lw) 29 36 (l0 :: .val (.int x) :: L) S k n H Q ↔ W (pj lw) 29 39 (l0 :: .val (.int (x + 1)) :: L) S k n H Q := W_s (rfl : (pj lw).1 29 36 = some (.iinc 1 1, 3, 0)) rfl rfl rfl
theorem w29_39 : W (pj lw) 29 39 L S k n H Q ↔ W (pj lw) 29 2 L S k n H Q := W_goto (rfl : (pj lw).1 29 39 = some (.goto (-37), 3, 0)) rfl
theorem w29_42 : W (pj lw) 29 42 L [] k n H Q ↔ Q none H := W_r (rfl : (pj lw).1 29 42 = some (.return_, 1, 0)) rfl
theorem c30 {x0 : Nat} {x1 : Int32} {x2 : Int32} : Cl (pj lw) 30 [.ref x0, .int x1, .int x2] H Q ↔ W (pj lw) 30 0 [.val (.ref x0), .val (.int x1), .val (.int x2), .unset, .unset] [] 0 0 H Q := cl_unf rfl
theorem w30_0 {x : Nat} : W (pj lw) 30 0 (.val (.ref x) :: L) S k n H Q ↔ W (pj lw) 30 1 (.val (.ref x) :: L) (.ref x :: S) k n H Q := W_s (rfl : (pj lw).1 30 0 = some (.aload_n 0, 1, 0)) rfl rfl rfl
theorem w30_1 {a : Nat} : W (pj lw) 30 1 L (.ref a :: S) k n H Q ↔ ((isO H a = true ∧ cs S + (2 + 11) + 0 ≤ 34) ∧ Cl (pj lw) 29 [.ref a] H (fun v H => W (pj lw) 30 4 L (v.toList ++ S) k n H Q)) := W_inst (as := []) (rfl : (pj lw).1 30 1 = some (.invokevirtual 64, 3, 29)) rfl rfl rfl (Nat.le_of_ble_eq_true rfl) (Nat.le_of_ble_eq_true rfl) ⟨rfl, rfl⟩
theorem w30_4 {x : Nat} : W (pj lw) 30 4 (.val (.ref x) :: L) S k n H Q ↔ W (pj lw) 30 5 (.val (.ref x) :: L) (.ref x :: S) k n H Q := W_s (rfl : (pj lw).1 30 4 = some (.aload_n 0, 1, 0)) rfl rfl rfl
theorem w30_5 {x : Int32} {l0 : Slot} : W (pj lw) 30 5 (l0 :: .val (.int x) :: L) S k n H Q ↔ W (pj lw) 30 6 (l0 :: .val (.int x) :: L) (.int x :: S) k n H Q := W_s (rfl : (pj lw).1 30 5 = some (.iload_n 1, 1, 0)) rfl rfl rfl
theorem w30_6 {a : Nat} {x0 : Int32} : W (pj lw) 30 6 L (.int x0 :: .ref a :: S) k n H Q ↔ ((isO H a = true ∧ cs S + (2 + 11) + 0 ≤ 34) ∧ Cl (pj lw) 39 [.ref a, .int x0] H (fun v H => W (pj lw) 30 9 L (v.toList ++ S) k n H Q)) := W_inst (as := [.int x0]) (rfl : (pj lw).1 30 6 = some (.invokevirtual 67, 3, 39)) rfl rfl rfl (Nat.le_of_ble_eq_true rfl) (Nat.le_of_ble_eq_true rfl) ⟨rfl, rfl⟩
theorem w30_9 {x : Int32} : W (pj lw) 30 9 L (.int x :: S) k n H Q ↔ (if x = 0 then W (pj lw) 30 12 L S k n H Q else W (pj lw) 30 14 L S k n H Q) := W_if_ne (rfl : (pj lw).1 30 9 = some (.ifCond .ne 5, 3, 0)) rfl
theorem w30_14 {x : Nat} : W (pj lw) 30 14 (.val (.ref x) :: L) S k n H Q ↔ W (pj lw) 30 15 (.val (.ref x) :: L) (.ref x :: S) k n H Q := W_s (rfl : (pj lw).1 30 14 = some (.aload_n 0, 1, 0)) rfl rfl rfl
theorem w30_15 {a : Nat} : W (pj lw) 30 15 L (.ref a :: S) k n H Q ↔ (isO H a = true ∧ W (pj lw) 30 18 L (fld H a 8 :: S) k n H Q) := W_getf (rfl : (pj lw).1 30 15 = some (.getfield 32, 3, 8))
theorem w30_18 {x : Int32} {l0 : Slot} : W (pj lw) 30 18 (l0 :: .val (.int x) :: L) S k n H Q ↔ W (pj lw) 30 19 (l0 :: .val (.int x) :: L) (.int x :: S) k n H Q := W_s (rfl : (pj lw).1 30 18 = some (.iload_n 1, 1, 0)) rfl rfl rfl
theorem w30_19 : W (pj lw) 30 19 L S k n H Q ↔ W (pj lw) 30 20 L (.int 1 :: S) k n H Q := W_s (rfl : (pj lw).1 30 19 = some (.iconst 1, 1, 0)) rfl rfl rfl
theorem w30_20 {x i : Int32} {a : Nat} : W (pj lw) 30 20 L (.int x :: .int i :: .ref a :: S) k n H Q ↔ (((inAw H a .byte i = true ∧ okv .byte (.int x) = true) ∨ (inAw H a .boolean i = true ∧ okv .boolean (.int x) = true)) ∧ W (pj lw) 30 21 L S k n (wr H a i.toNatClampNeg (.int x)) Q) := W_bastore (rfl : (pj lw).1 30 20 = some (.bastore, 1, 0))
theorem w30_21 {x : Nat} : W (pj lw) 30 21 (.val (.ref x) :: L) S k n H Q ↔ W (pj lw) 30 22 (.val (.ref x) :: L) (.ref x :: S) k n H Q := W_s (rfl : (pj lw).1 30 21 = some (.aload_n 0, 1, 0)) rfl rfl rfl
theorem w30_22 {a : Nat} : W (pj lw) 30 22 L (.ref a :: S) k n H Q ↔ (isO H a = true ∧ W (pj lw) 30 25 L (fld H a 11 :: S) k n H Q) := W_getf (rfl : (pj lw).1 30 22 = some (.getfield 41, 3, 11))
theorem w30_25 : W (pj lw) 30 25 L S k n H Q ↔ W (pj lw) 30 26 L (.int 0 :: S) k n H Q := W_s (rfl : (pj lw).1 30 25 = some (.iconst 0, 1, 0)) rfl rfl rfl
theorem w30_26 {x : Int32} {l0 : Slot} : W (pj lw) 30 26 (l0 :: .val (.int x) :: L) S k n H Q ↔ W (pj lw) 30 27 (l0 :: .val (.int x) :: L) (.int x :: S) k n H Q := W_s (rfl : (pj lw).1 30 26 = some (.iload_n 1, 1, 0)) rfl rfl rfl
theorem w30_27 {x i : Int32} {a : Nat} : W (pj lw) 30 27 L (.int x :: .int i :: .ref a :: S) k n H Q ↔ (inAw H a .int i = true ∧ W (pj lw) 30 28 L S k n (wr H a i.toNatClampNeg (.int x)) Q) := W_iastore (rfl : (pj lw).1 30 27 = some (.iastore, 1, 0))
theorem w30_28 : W (pj lw) 30 28 L S k n H Q ↔ W (pj lw) 30 29 L (.int 1 :: S) k n H Q := W_s (rfl : (pj lw).1 30 28 = some (.iconst 1, 1, 0)) rfl rfl rfl
theorem w30_29 {x : Int32} {l0 l1 l2 : Slot} : W (pj lw) 30 29 (l0 :: l1 :: l2 :: .unset :: L) (.int x :: S) k n H Q ↔ W (pj lw) 30 30 (l0 :: l1 :: l2 :: .val (.int x) :: L) S k n H Q := W_istn (rfl : (pj lw).1 30 29 = some (.istore_n 3, 1, 0)) rfl rfl
theorem w30_30 : W (pj lw) 30 30 L S k n H Q ↔ W (pj lw) 30 31 L (.int 0 :: S) k n H Q := W_s (rfl : (pj lw).1 30 30 = some (.iconst 0, 1, 0)) rfl rfl rfl
theorem w30_31 {x : Int32} {l0 l1 l2 l3 : Slot} : W (pj lw) 30 31 (l0 :: l1 :: l2 :: l3 :: .unset :: L) (.int x :: S) k n H Q ↔ W (pj lw) 30 33 (l0 :: l1 :: l2 :: l3 :: .val (.int x) :: L) S k n H Q := W_ist (rfl : (pj lw).1 30 31 = some (.istore 4, 2, 0)) rfl rfl
theorem w30_33 {x : Int32} {l0 l1 l2 l3 : Slot} : W (pj lw) 30 33 (l0 :: l1 :: l2 :: l3 :: .val (.int x) :: L) S k n H Q ↔ W (pj lw) 30 35 (l0 :: l1 :: l2 :: l3 :: .val (.int x) :: L) (.int x :: S) k n H Q := W_s (rfl : (pj lw).1 30 33 = some (.iload 4, 2, 0)) rfl rfl rfl
theorem w30_35 {x : Int32} {l0 l1 l2 : Slot} : W (pj lw) 30 35 (l0 :: l1 :: l2 :: .val (.int x) :: L) S k n H Q ↔ W (pj lw) 30 36 (l0 :: l1 :: l2 :: .val (.int x) :: L) (.int x :: S) k n H Q := W_s (rfl : (pj lw).1 30 35 = some (.iload_n 3, 1, 0)) rfl rfl rfl
theorem w30_36 {x y : Int32} : W (pj lw) 30 36 L (.int y :: .int x :: S) k n H Q ↔ (if x < y then W (pj lw) 30 39 L S k n H Q else W (pj lw) 30 66 L S k n H Q) := W_icmp_ge (rfl : (pj lw).1 30 36 = some (.if_icmp .ge 30, 3, 0)) rfl
theorem w30_39 {x : Int32} {l0 l1 l2 l3 : Slot} : W (pj lw) 30 39 (l0 :: l1 :: l2 :: l3 :: .val (.int x) :: L) S k n H Q ↔ W (pj lw) 30 41 (l0 :: l1 :: l2 :: l3 :: .val (.int x) :: L) (.int x :: S) k n H Q := W_s (rfl : (pj lw).1 30 39 = some (.iload 4, 2, 0)) rfl rfl rfl
theorem w30_41 : W (pj lw) 30 41 L S k n H Q ↔ W (pj lw) 30 43 L (.int 32 :: S) k n H Q := W_s (rfl : (pj lw).1 30 41 = some (.bipush 32, 2, 0)) rfl rfl rfl
theorem w30_43 {x y : Int32} : W (pj lw) 30 43 L (.int y :: .int x :: S) k n H Q ↔ (if x < y then W (pj lw) 30 46 L S k n H Q else W (pj lw) 30 66 L S k n H Q) := W_icmp_ge (rfl : (pj lw).1 30 43 = some (.if_icmp .ge 23, 3, 0)) rfl
theorem w30_46 {x : Nat} : W (pj lw) 30 46 (.val (.ref x) :: L) S k n H Q ↔ W (pj lw) 30 47 (.val (.ref x) :: L) (.ref x :: S) k n H Q := W_s (rfl : (pj lw).1 30 46 = some (.aload_n 0, 1, 0)) rfl rfl rfl
theorem w30_47 {x : Nat} : W (pj lw) 30 47 (.val (.ref x) :: L) S k n H Q ↔ W (pj lw) 30 48 (.val (.ref x) :: L) (.ref x :: S) k n H Q := W_s (rfl : (pj lw).1 30 47 = some (.aload_n 0, 1, 0)) rfl rfl rfl
theorem w30_48 {a : Nat} : W (pj lw) 30 48 L (.ref a :: S) k n H Q ↔ (isO H a = true ∧ W (pj lw) 30 51 L (fld H a 11 :: S) k n H Q) := W_getf (rfl : (pj lw).1 30 48 = some (.getfield 41, 3, 11))
theorem w30_51 {x : Int32} {l0 l1 l2 l3 : Slot} : W (pj lw) 30 51 (l0 :: l1 :: l2 :: l3 :: .val (.int x) :: L) S k n H Q ↔ W (pj lw) 30 53 (l0 :: l1 :: l2 :: l3 :: .val (.int x) :: L) (.int x :: S) k n H Q := W_s (rfl : (pj lw).1 30 51 = some (.iload 4, 2, 0)) rfl rfl rfl
theorem w30_53 {i : Int32} {a : Nat} : W (pj lw) 30 53 L (.int i :: .ref a :: S) k n H Q ↔ (inA H a .int i = true ∧ W (pj lw) 30 54 L (elt H a i :: S) k n H Q) := W_iaload (rfl : (pj lw).1 30 53 = some (.iaload, 1, 0))
theorem w30_54 {x : Int32} {l0 l1 : Slot} : W (pj lw) 30 54 (l0 :: l1 :: .val (.int x) :: L) S k n H Q ↔ W (pj lw) 30 55 (l0 :: l1 :: .val (.int x) :: L) (.int x :: S) k n H Q := W_s (rfl : (pj lw).1 30 54 = some (.iload_n 2, 1, 0)) rfl rfl rfl
theorem w30_55 {x : Int32} {l0 l1 l2 : Slot} : W (pj lw) 30 55 (l0 :: l1 :: l2 :: .val (.int x) :: L) S k n H Q ↔ W (pj lw) 30 56 (l0 :: l1 :: l2 :: .val (.int x) :: L) (.int x :: S) k n H Q := W_s (rfl : (pj lw).1 30 55 = some (.iload_n 3, 1, 0)) rfl rfl rfl
theorem w30_56 {a : Nat} {x0 : Int32} {x1 : Int32} {x2 : Int32} : W (pj lw) 30 56 L (.int x2 :: .int x1 :: .int x0 :: .ref a :: S) k n H Q ↔ ((isO H a = true ∧ cs S + (9 + 11) + 14 ≤ 34) ∧ Cl (pj lw) 31 [.ref a, .int x0, .int x1, .int x2] H (fun v H => W (pj lw) 30 59 L (v.toList ++ S) k n H Q)) := W_inst (as := [.int x0, .int x1, .int x2]) (rfl : (pj lw).1 30 56 = some (.invokevirtual 135, 3, 31)) rfl rfl rfl (Nat.le_of_ble_eq_true rfl) (Nat.le_of_ble_eq_true rfl) ⟨rfl, rfl⟩
theorem w30_59i {y : Int32} {x : Int32} {l0 l1 l2 : Slot} : W (pj lw) 30 59 (l0 :: l1 :: l2 :: .val (.int y) :: L) (.int x :: S) k n H Q ↔ W (pj lw) 30 60 (l0 :: l1 :: l2 :: .val (.int x) :: L) S k n H Q := W_istn (rfl : (pj lw).1 30 59 = some (.istore_n 3, 1, 0)) rfl rfl
theorem w30_60 {x : Int32} {l0 l1 l2 l3 : Slot} : W (pj lw) 30 60 (l0 :: l1 :: l2 :: l3 :: .val (.int x) :: L) S k n H Q ↔ W (pj lw) 30 63 (l0 :: l1 :: l2 :: l3 :: .val (.int (x + 1)) :: L) S k n H Q := W_s (rfl : (pj lw).1 30 60 = some (.iinc 4 1, 3, 0)) rfl rfl rfl
theorem w30_63 : W (pj lw) 30 63 L S k n H Q ↔ W (pj lw) 30 33 L S k n H Q := W_goto (rfl : (pj lw).1 30 63 = some (.goto (-30), 3, 0)) rfl
theorem w30_66 {x : Int32} {l0 l1 l2 : Slot} : W (pj lw) 30 66 (l0 :: l1 :: l2 :: .val (.int x) :: L) S k n H Q ↔ W (pj lw) 30 67 (l0 :: l1 :: l2 :: .val (.int x) :: L) (.int x :: S) k n H Q := W_s (rfl : (pj lw).1 30 66 = some (.iload_n 3, 1, 0)) rfl rfl rfl
theorem w30_67 {x : Int32} : W (pj lw) 30 67 L (.int x :: S) k n H Q ↔ Q (some (.int x)) H := W_r (rfl : (pj lw).1 30 67 = some (.ireturn, 1, 0)) rfl
theorem c31 {x0 : Nat} {x1 : Int32} {x2 : Int32} {x3 : Int32} : Cl (pj lw) 31 [.ref x0, .int x1, .int x2, .int x3] H Q ↔ W (pj lw) 31 0 [.val (.ref x0), .val (.int x1), .val (.int x2), .val (.int x3), .unset, .unset, .unset, .unset, .unset] [] 0 0 H Q := cl_unf rfl
theorem w31_0 {x : Int32} {l0 l1 l2 : Slot} : W (pj lw) 31 0 (l0 :: l1 :: l2 :: .val (.int x) :: L) S k n H Q ↔ W (pj lw) 31 1 (l0 :: l1 :: l2 :: .val (.int x) :: L) (.int x :: S) k n H Q := W_s (rfl : (pj lw).1 31 0 = some (.iload_n 3, 1, 0)) rfl rfl rfl
theorem w31_1 {x : Int32} {l0 l1 l2 l3 : Slot} : W (pj lw) 31 1 (l0 :: l1 :: l2 :: l3 :: .unset :: L) (.int x :: S) k n H Q ↔ W (pj lw) 31 3 (l0 :: l1 :: l2 :: l3 :: .val (.int x) :: L) S k n H Q := W_ist (rfl : (pj lw).1 31 1 = some (.istore 4, 2, 0)) rfl rfl
theorem w31_3 {x : Int32} {l0 : Slot} : W (pj lw) 31 3 (l0 :: .val (.int x) :: L) S k n H Q ↔ W (pj lw) 31 4 (l0 :: .val (.int x) :: L) (.int x :: S) k n H Q := W_s (rfl : (pj lw).1 31 3 = some (.iload_n 1, 1, 0)) rfl rfl rfl
theorem w31_4 {x : Int32} : W (pj lw) 31 4 L (.int x :: S) k n H Q ↔ (if x < 0 then W (pj lw) 31 13 L S k n H Q else W (pj lw) 31 7 L S k n H Q) := W_if_lt (rfl : (pj lw).1 31 4 = some (.ifCond .lt 9, 3, 0)) rfl
theorem w31_7 {x : Int32} {l0 : Slot} : W (pj lw) 31 7 (l0 :: .val (.int x) :: L) S k n H Q ↔ W (pj lw) 31 8 (l0 :: .val (.int x) :: L) (.int x :: S) k n H Q := W_s (rfl : (pj lw).1 31 7 = some (.iload_n 1, 1, 0)) rfl rfl rfl
theorem w31_8 : W (pj lw) 31 8 L S k n H Q ↔ W (pj lw) 31 10 L (.int 32 :: S) k n H Q := W_s (rfl : (pj lw).1 31 8 = some (.bipush 32, 2, 0)) rfl rfl rfl
theorem w31_10 {x y : Int32} : W (pj lw) 31 10 L (.int y :: .int x :: S) k n H Q ↔ (if x < y then W (pj lw) 31 16 L S k n H Q else W (pj lw) 31 13 L S k n H Q) := W_icmp_lt (rfl : (pj lw).1 31 10 = some (.if_icmp .lt 6, 3, 0)) rfl
theorem w31_13 {x : Int32} {l0 l1 l2 l3 : Slot} : W (pj lw) 31 13 (l0 :: l1 :: l2 :: l3 :: .val (.int x) :: L) S k n H Q ↔ W (pj lw) 31 15 (l0 :: l1 :: l2 :: l3 :: .val (.int x) :: L) (.int x :: S) k n H Q := W_s (rfl : (pj lw).1 31 13 = some (.iload 4, 2, 0)) rfl rfl rfl
theorem w31_15 {x : Int32} : W (pj lw) 31 15 L (.int x :: S) k n H Q ↔ Q (some (.int x)) H := W_r (rfl : (pj lw).1 31 15 = some (.ireturn, 1, 0)) rfl
theorem w31_16 {x : Int32} {l0 : Slot} : W (pj lw) 31 16 (l0 :: .val (.int x) :: L) S k n H Q ↔ W (pj lw) 31 17 (l0 :: .val (.int x) :: L) (.int x :: S) k n H Q := W_s (rfl : (pj lw).1 31 16 = some (.iload_n 1, 1, 0)) rfl rfl rfl
theorem w31_17 : W (pj lw) 31 17 L S k n H Q ↔ W (pj lw) 31 19 L (.int 32 :: S) k n H Q := W_s (rfl : (pj lw).1 31 17 = some (.bipush 32, 2, 0)) rfl rfl rfl
theorem w31_19 {x y : Int32} : W (pj lw) 31 19 L (.int y :: .int x :: S) k n H Q ↔ W (pj lw) 31 20 L (.int (x * y) :: S) k n H Q := W_s (rfl : (pj lw).1 31 19 = some (.imul, 1, 0)) rfl rfl rfl
theorem w31_20 {x : Int32} {l0 l1 l2 l3 l4 : Slot} : W (pj lw) 31 20 (l0 :: l1 :: l2 :: l3 :: l4 :: .unset :: L) (.int x :: S) k n H Q ↔ W (pj lw) 31 22 (l0 :: l1 :: l2 :: l3 :: l4 :: .val (.int x) :: L) S k n H Q := W_ist (rfl : (pj lw).1 31 20 = some (.istore 5, 2, 0)) rfl rfl
theorem w31_22 : W (pj lw) 31 22 L S k n H Q ↔ W (pj lw) 31 23 L (.int 0 :: S) k n H Q := W_s (rfl : (pj lw).1 31 22 = some (.iconst 0, 1, 0)) rfl rfl rfl
theorem w31_23 {x : Int32} {l0 l1 l2 l3 l4 l5 : Slot} : W (pj lw) 31 23 (l0 :: l1 :: l2 :: l3 :: l4 :: l5 :: .unset :: L) (.int x :: S) k n H Q ↔ W (pj lw) 31 25 (l0 :: l1 :: l2 :: l3 :: l4 :: l5 :: .val (.int x) :: L) S k n H Q := W_ist (rfl : (pj lw).1 31 23 = some (.istore 6, 2, 0)) rfl rfl
theorem w31_25 {x : Int32} {l0 l1 l2 l3 l4 l5 : Slot} : W (pj lw) 31 25 (l0 :: l1 :: l2 :: l3 :: l4 :: l5 :: .val (.int x) :: L) S k n H Q ↔ W (pj lw) 31 27 (l0 :: l1 :: l2 :: l3 :: l4 :: l5 :: .val (.int x) :: L) (.int x :: S) k n H Q := W_s (rfl : (pj lw).1 31 25 = some (.iload 6, 2, 0)) rfl rfl rfl
theorem w31_27 {x : Nat} : W (pj lw) 31 27 (.val (.ref x) :: L) S k n H Q ↔ W (pj lw) 31 28 (.val (.ref x) :: L) (.ref x :: S) k n H Q := W_s (rfl : (pj lw).1 31 27 = some (.aload_n 0, 1, 0)) rfl rfl rfl
theorem w31_28 {a : Nat} : W (pj lw) 31 28 L (.ref a :: S) k n H Q ↔ (isO H a = true ∧ W (pj lw) 31 31 L (fld H a 7 :: S) k n H Q) := W_getf (rfl : (pj lw).1 31 28 = some (.getfield 29, 3, 7))
theorem w31_31 {x : Int32} {l0 : Slot} : W (pj lw) 31 31 (l0 :: .val (.int x) :: L) S k n H Q ↔ W (pj lw) 31 32 (l0 :: .val (.int x) :: L) (.int x :: S) k n H Q := W_s (rfl : (pj lw).1 31 31 = some (.iload_n 1, 1, 0)) rfl rfl rfl
theorem w31_32 {i : Int32} {a : Nat} : W (pj lw) 31 32 L (.int i :: .ref a :: S) k n H Q ↔ (inA H a .int i = true ∧ W (pj lw) 31 33 L (elt H a i :: S) k n H Q) := W_iaload (rfl : (pj lw).1 31 32 = some (.iaload, 1, 0))
theorem w31_33 {x y : Int32} : W (pj lw) 31 33 L (.int y :: .int x :: S) k n H Q ↔ (if x < y then W (pj lw) 31 36 L S k n H Q else W (pj lw) 31 157 L S k n H Q) := W_icmp_ge (rfl : (pj lw).1 31 33 = some (.if_icmp .ge 124, 3, 0)) rfl
theorem w31_36 {x : Int32} {l0 l1 l2 l3 l4 l5 : Slot} : W (pj lw) 31 36 (l0 :: l1 :: l2 :: l3 :: l4 :: l5 :: .val (.int x) :: L) S k n H Q ↔ W (pj lw) 31 38 (l0 :: l1 :: l2 :: l3 :: l4 :: l5 :: .val (.int x) :: L) (.int x :: S) k n H Q := W_s (rfl : (pj lw).1 31 36 = some (.iload 6, 2, 0)) rfl rfl rfl
theorem w31_38 : W (pj lw) 31 38 L S k n H Q ↔ W (pj lw) 31 40 L (.int 32 :: S) k n H Q := W_s (rfl : (pj lw).1 31 38 = some (.bipush 32, 2, 0)) rfl rfl rfl
theorem w31_40 {x y : Int32} : W (pj lw) 31 40 L (.int y :: .int x :: S) k n H Q ↔ (if x < y then W (pj lw) 31 43 L S k n H Q else W (pj lw) 31 157 L S k n H Q) := W_icmp_ge (rfl : (pj lw).1 31 40 = some (.if_icmp .ge 117, 3, 0)) rfl
theorem w31_43 {x : Nat} : W (pj lw) 31 43 (.val (.ref x) :: L) S k n H Q ↔ W (pj lw) 31 44 (.val (.ref x) :: L) (.ref x :: S) k n H Q := W_s (rfl : (pj lw).1 31 43 = some (.aload_n 0, 1, 0)) rfl rfl rfl
theorem w31_44 {a : Nat} : W (pj lw) 31 44 L (.ref a :: S) k n H Q ↔ (isO H a = true ∧ W (pj lw) 31 47 L (fld H a 6 :: S) k n H Q) := W_getf (rfl : (pj lw).1 31 44 = some (.getfield 26, 3, 6))
theorem w31_47 {x : Int32} {l0 l1 l2 l3 l4 : Slot} : W (pj lw) 31 47 (l0 :: l1 :: l2 :: l3 :: l4 :: .val (.int x) :: L) S k n H Q ↔ W (pj lw) 31 49 (l0 :: l1 :: l2 :: l3 :: l4 :: .val (.int x) :: L) (.int x :: S) k n H Q := W_s (rfl : (pj lw).1 31 47 = some (.iload 5, 2, 0)) rfl rfl rfl
theorem w31_49 {x : Int32} {l0 l1 l2 l3 l4 l5 : Slot} : W (pj lw) 31 49 (l0 :: l1 :: l2 :: l3 :: l4 :: l5 :: .val (.int x) :: L) S k n H Q ↔ W (pj lw) 31 51 (l0 :: l1 :: l2 :: l3 :: l4 :: l5 :: .val (.int x) :: L) (.int x :: S) k n H Q := W_s (rfl : (pj lw).1 31 49 = some (.iload 6, 2, 0)) rfl rfl rfl
theorem w31_51 {x y : Int32} : W (pj lw) 31 51 L (.int y :: .int x :: S) k n H Q ↔ W (pj lw) 31 52 L (.int (x + y) :: S) k n H Q := W_s (rfl : (pj lw).1 31 51 = some (.iadd, 1, 0)) rfl rfl rfl
theorem w31_52 {i : Int32} {a : Nat} : W (pj lw) 31 52 L (.int i :: .ref a :: S) k n H Q ↔ (inA H a .int i = true ∧ W (pj lw) 31 53 L (elt H a i :: S) k n H Q) := W_iaload (rfl : (pj lw).1 31 52 = some (.iaload, 1, 0))
theorem w31_53 {x : Int32} {l0 l1 l2 l3 l4 l5 l6 : Slot} : W (pj lw) 31 53 (l0 :: l1 :: l2 :: l3 :: l4 :: l5 :: l6 :: .unset :: L) (.int x :: S) k n H Q ↔ W (pj lw) 31 55 (l0 :: l1 :: l2 :: l3 :: l4 :: l5 :: l6 :: .val (.int x) :: L) S k n H Q := W_ist (rfl : (pj lw).1 31 53 = some (.istore 7, 2, 0)) rfl rfl
theorem w31_55 {x : Int32} {l0 l1 l2 l3 l4 l5 l6 : Slot} : W (pj lw) 31 55 (l0 :: l1 :: l2 :: l3 :: l4 :: l5 :: l6 :: .val (.int x) :: L) S k n H Q ↔ W (pj lw) 31 57 (l0 :: l1 :: l2 :: l3 :: l4 :: l5 :: l6 :: .val (.int x) :: L) (.int x :: S) k n H Q := W_s (rfl : (pj lw).1 31 55 = some (.iload 7, 2, 0)) rfl rfl rfl
theorem w31_57 {x : Int32} {l0 l1 : Slot} : W (pj lw) 31 57 (l0 :: l1 :: .val (.int x) :: L) S k n H Q ↔ W (pj lw) 31 58 (l0 :: l1 :: .val (.int x) :: L) (.int x :: S) k n H Q := W_s (rfl : (pj lw).1 31 57 = some (.iload_n 2, 1, 0)) rfl rfl rfl
theorem w31_58 {x y : Int32} : W (pj lw) 31 58 L (.int y :: .int x :: S) k n H Q ↔ (if x = y then W (pj lw) 31 151 L S k n H Q else W (pj lw) 31 61 L S k n H Q) := W_icmp_eq (rfl : (pj lw).1 31 58 = some (.if_icmp .eq 93, 3, 0)) rfl
theorem w31_61 {x : Nat} : W (pj lw) 31 61 (.val (.ref x) :: L) S k n H Q ↔ W (pj lw) 31 62 (.val (.ref x) :: L) (.ref x :: S) k n H Q := W_s (rfl : (pj lw).1 31 61 = some (.aload_n 0, 1, 0)) rfl rfl rfl
theorem w31_62 {x : Int32} {l0 l1 l2 l3 l4 l5 l6 : Slot} : W (pj lw) 31 62 (l0 :: l1 :: l2 :: l3 :: l4 :: l5 :: l6 :: .val (.int x) :: L) S k n H Q ↔ W (pj lw) 31 64 (l0 :: l1 :: l2 :: l3 :: l4 :: l5 :: l6 :: .val (.int x) :: L) (.int x :: S) k n H Q := W_s (rfl : (pj lw).1 31 62 = some (.iload 7, 2, 0)) rfl rfl rfl
theorem w31_64 {a : Nat} {x0 : Int32} : W (pj lw) 31 64 L (.int x0 :: .ref a :: S) k n H Q ↔ ((isO H a = true ∧ cs S + (2 + 11) + 0 ≤ 14) ∧ Cl (pj lw) 40 [.ref a, .int x0] H (fun v H => W (pj lw) 31 67 L (v.toList ++ S) k n H Q)) := W_inst (as := [.int x0]) (rfl : (pj lw).1 31 64 = some (.invokevirtual 103, 3, 40)) rfl rfl rfl (Nat.le_of_ble_eq_true rfl) (Nat.le_of_ble_eq_true rfl) ⟨rfl, rfl⟩
theorem w31_67 {x : Int32} : W (pj lw) 31 67 L (.int x :: S) k n H Q ↔ (if x = 0 then W (pj lw) 31 70 L S k n H Q else W (pj lw) 31 73 L S k n H Q) := W_if_ne (rfl : (pj lw).1 31 67 = some (.ifCond .ne 6, 3, 0)) rfl
theorem w31_70 : W (pj lw) 31 70 L S k n H Q ↔ W (pj lw) 31 151 L S k n H Q := W_goto (rfl : (pj lw).1 31 70 = some (.goto 81, 3, 0)) rfl
theorem w31_73 {x : Nat} : W (pj lw) 31 73 (.val (.ref x) :: L) S k n H Q ↔ W (pj lw) 31 74 (.val (.ref x) :: L) (.ref x :: S) k n H Q := W_s (rfl : (pj lw).1 31 73 = some (.aload_n 0, 1, 0)) rfl rfl rfl
theorem w31_74 {x : Int32} {l0 l1 l2 l3 l4 l5 l6 : Slot} : W (pj lw) 31 74 (l0 :: l1 :: l2 :: l3 :: l4 :: l5 :: l6 :: .val (.int x) :: L) S k n H Q ↔ W (pj lw) 31 76 (l0 :: l1 :: l2 :: l3 :: l4 :: l5 :: l6 :: .val (.int x) :: L) (.int x :: S) k n H Q := W_s (rfl : (pj lw).1 31 74 = some (.iload 7, 2, 0)) rfl rfl rfl
theorem w31_76 {x : Int32} {l0 : Slot} : W (pj lw) 31 76 (l0 :: .val (.int x) :: L) S k n H Q ↔ W (pj lw) 31 77 (l0 :: .val (.int x) :: L) (.int x :: S) k n H Q := W_s (rfl : (pj lw).1 31 76 = some (.iload_n 1, 1, 0)) rfl rfl rfl
theorem w31_77 {a : Nat} {x0 : Int32} {x1 : Int32} : W (pj lw) 31 77 L (.int x1 :: .int x0 :: .ref a :: S) k n H Q ↔ ((isO H a = true ∧ cs S + (3 + 11) + 0 ≤ 14) ∧ Cl (pj lw) 35 [.ref a, .int x0, .int x1] H (fun v H => W (pj lw) 31 80 L (v.toList ++ S) k n H Q)) := W_inst (as := [.int x0, .int x1]) (rfl : (pj lw).1 31 77 = some (.invokevirtual 139, 3, 35)) rfl rfl rfl (Nat.le_of_ble_eq_true rfl) (Nat.le_of_ble_eq_true rfl) ⟨rfl, rfl⟩
theorem w31_80 {x : Int32} {l0 l1 l2 l3 l4 l5 l6 l7 : Slot} : W (pj lw) 31 80 (l0 :: l1 :: l2 :: l3 :: l4 :: l5 :: l6 :: l7 :: .unset :: L) (.int x :: S) k n H Q ↔ W (pj lw) 31 82 (l0 :: l1 :: l2 :: l3 :: l4 :: l5 :: l6 :: l7 :: .val (.int x) :: L) S k n H Q := W_ist (rfl : (pj lw).1 31 80 = some (.istore 8, 2, 0)) rfl rfl
theorem w31_82 {x : Int32} {l0 l1 l2 l3 l4 l5 l6 l7 : Slot} : W (pj lw) 31 82 (l0 :: l1 :: l2 :: l3 :: l4 :: l5 :: l6 :: l7 :: .val (.int x) :: L) S k n H Q ↔ W (pj lw) 31 84 (l0 :: l1 :: l2 :: l3 :: l4 :: l5 :: l6 :: l7 :: .val (.int x) :: L) (.int x :: S) k n H Q := W_s (rfl : (pj lw).1 31 82 = some (.iload 8, 2, 0)) rfl rfl rfl
theorem w31_84 {x : Int32} : W (pj lw) 31 84 L (.int x :: S) k n H Q ↔ (if x < 0 then W (pj lw) 31 151 L S k n H Q else W (pj lw) 31 87 L S k n H Q) := W_if_lt (rfl : (pj lw).1 31 84 = some (.ifCond .lt 67, 3, 0)) rfl
theorem w31_87 {x : Int32} {l0 l1 l2 l3 l4 l5 l6 l7 : Slot} : W (pj lw) 31 87 (l0 :: l1 :: l2 :: l3 :: l4 :: l5 :: l6 :: l7 :: .val (.int x) :: L) S k n H Q ↔ W (pj lw) 31 89 (l0 :: l1 :: l2 :: l3 :: l4 :: l5 :: l6 :: l7 :: .val (.int x) :: L) (.int x :: S) k n H Q := W_s (rfl : (pj lw).1 31 87 = some (.iload 8, 2, 0)) rfl rfl rfl
theorem w31_89 : W (pj lw) 31 89 L S k n H Q ↔ W (pj lw) 31 91 L (.int 32 :: S) k n H Q := W_s (rfl : (pj lw).1 31 89 = some (.bipush 32, 2, 0)) rfl rfl rfl
theorem w31_91 {x y : Int32} : W (pj lw) 31 91 L (.int y :: .int x :: S) k n H Q ↔ (if x < y then W (pj lw) 31 94 L S k n H Q else W (pj lw) 31 151 L S k n H Q) := W_icmp_ge (rfl : (pj lw).1 31 91 = some (.if_icmp .ge 60, 3, 0)) rfl
theorem w31_94 {x : Nat} : W (pj lw) 31 94 (.val (.ref x) :: L) S k n H Q ↔ W (pj lw) 31 95 (.val (.ref x) :: L) (.ref x :: S) k n H Q := W_s (rfl : (pj lw).1 31 94 = some (.aload_n 0, 1, 0)) rfl rfl rfl
theorem w31_95 {a : Nat} : W (pj lw) 31 95 L (.ref a :: S) k n H Q ↔ (isO H a = true ∧ W (pj lw) 31 98 L (fld H a 8 :: S) k n H Q) := W_getf (rfl : (pj lw).1 31 95 = some (.getfield 32, 3, 8))
theorem w31_98 {x : Int32} {l0 l1 l2 l3 l4 l5 l6 l7 : Slot} : W (pj lw) 31 98 (l0 :: l1 :: l2 :: l3 :: l4 :: l5 :: l6 :: l7 :: .val (.int x) :: L) S k n H Q ↔ W (pj lw) 31 100 (l0 :: l1 :: l2 :: l3 :: l4 :: l5 :: l6 :: l7 :: .val (.int x) :: L) (.int x :: S) k n H Q := W_s (rfl : (pj lw).1 31 98 = some (.iload 8, 2, 0)) rfl rfl rfl
theorem w31_100 {i : Int32} {a : Nat} : W (pj lw) 31 100 L (.int i :: .ref a :: S) k n H Q ↔ ((inA H a .byte i = true ∨ inA H a .boolean i = true) ∧ W (pj lw) 31 101 L (elt H a i :: S) k n H Q) := W_baload (rfl : (pj lw).1 31 100 = some (.baload, 1, 0))
theorem w31_101 {x : Int32} : W (pj lw) 31 101 L (.int x :: S) k n H Q ↔ (if x = 0 then W (pj lw) 31 104 L S k n H Q else W (pj lw) 31 151 L S k n H Q) := W_if_ne (rfl : (pj lw).1 31 101 = some (.ifCond .ne 50, 3, 0)) rfl
theorem w31_104 {x : Int32} {l0 l1 l2 l3 : Slot} : W (pj lw) 31 104 (l0 :: l1 :: l2 :: l3 :: .val (.int x) :: L) S k n H Q ↔ W (pj lw) 31 106 (l0 :: l1 :: l2 :: l3 :: .val (.int x) :: L) (.int x :: S) k n H Q := W_s (rfl : (pj lw).1 31 104 = some (.iload 4, 2, 0)) rfl rfl rfl
theorem w31_106 : W (pj lw) 31 106 L S k n H Q ↔ W (pj lw) 31 108 L (.int 32 :: S) k n H Q := W_s (rfl : (pj lw).1 31 106 = some (.bipush 32, 2, 0)) rfl rfl rfl
theorem w31_108 {x y : Int32} : W (pj lw) 31 108 L (.int y :: .int x :: S) k n H Q ↔ (if x < y then W (pj lw) 31 114 L S k n H Q else W (pj lw) 31 111 L S k n H Q) := W_icmp_lt (rfl : (pj lw).1 31 108 = some (.if_icmp .lt 6, 3, 0)) rfl
theorem w31_111 : W (pj lw) 31 111 L S k n H Q ↔ W (pj lw) 31 151 L S k n H Q := W_goto (rfl : (pj lw).1 31 111 = some (.goto 40, 3, 0)) rfl
theorem w31_114 {x : Nat} : W (pj lw) 31 114 (.val (.ref x) :: L) S k n H Q ↔ W (pj lw) 31 115 (.val (.ref x) :: L) (.ref x :: S) k n H Q := W_s (rfl : (pj lw).1 31 114 = some (.aload_n 0, 1, 0)) rfl rfl rfl
theorem w31_115 {a : Nat} : W (pj lw) 31 115 L (.ref a :: S) k n H Q ↔ (isO H a = true ∧ W (pj lw) 31 118 L (fld H a 8 :: S) k n H Q) := W_getf (rfl : (pj lw).1 31 115 = some (.getfield 32, 3, 8))
theorem w31_118 {x : Int32} {l0 l1 l2 l3 l4 l5 l6 l7 : Slot} : W (pj lw) 31 118 (l0 :: l1 :: l2 :: l3 :: l4 :: l5 :: l6 :: l7 :: .val (.int x) :: L) S k n H Q ↔ W (pj lw) 31 120 (l0 :: l1 :: l2 :: l3 :: l4 :: l5 :: l6 :: l7 :: .val (.int x) :: L) (.int x :: S) k n H Q := W_s (rfl : (pj lw).1 31 118 = some (.iload 8, 2, 0)) rfl rfl rfl
theorem w31_120 : W (pj lw) 31 120 L S k n H Q ↔ W (pj lw) 31 121 L (.int 1 :: S) k n H Q := W_s (rfl : (pj lw).1 31 120 = some (.iconst 1, 1, 0)) rfl rfl rfl
theorem w31_121 {x i : Int32} {a : Nat} : W (pj lw) 31 121 L (.int x :: .int i :: .ref a :: S) k n H Q ↔ (((inAw H a .byte i = true ∧ okv .byte (.int x) = true) ∨ (inAw H a .boolean i = true ∧ okv .boolean (.int x) = true)) ∧ W (pj lw) 31 122 L S k n (wr H a i.toNatClampNeg (.int x)) Q) := W_bastore (rfl : (pj lw).1 31 121 = some (.bastore, 1, 0))
theorem w31_122 {x : Nat} : W (pj lw) 31 122 (.val (.ref x) :: L) S k n H Q ↔ W (pj lw) 31 123 (.val (.ref x) :: L) (.ref x :: S) k n H Q := W_s (rfl : (pj lw).1 31 122 = some (.aload_n 0, 1, 0)) rfl rfl rfl
theorem w31_123 {a : Nat} : W (pj lw) 31 123 L (.ref a :: S) k n H Q ↔ (isO H a = true ∧ W (pj lw) 31 126 L (fld H a 9 :: S) k n H Q) := W_getf (rfl : (pj lw).1 31 123 = some (.getfield 35, 3, 9))
theorem w31_126 {x : Int32} {l0 l1 l2 l3 l4 l5 l6 l7 : Slot} : W (pj lw) 31 126 (l0 :: l1 :: l2 :: l3 :: l4 :: l5 :: l6 :: l7 :: .val (.int x) :: L) S k n H Q ↔ W (pj lw) 31 128 (l0 :: l1 :: l2 :: l3 :: l4 :: l5 :: l6 :: l7 :: .val (.int x) :: L) (.int x :: S) k n H Q := W_s (rfl : (pj lw).1 31 126 = some (.iload 8, 2, 0)) rfl rfl rfl
theorem w31_128 {x : Int32} {l0 l1 l2 l3 l4 l5 l6 : Slot} : W (pj lw) 31 128 (l0 :: l1 :: l2 :: l3 :: l4 :: l5 :: l6 :: .val (.int x) :: L) S k n H Q ↔ W (pj lw) 31 130 (l0 :: l1 :: l2 :: l3 :: l4 :: l5 :: l6 :: .val (.int x) :: L) (.int x :: S) k n H Q := W_s (rfl : (pj lw).1 31 128 = some (.iload 7, 2, 0)) rfl rfl rfl
theorem w31_130 {x i : Int32} {a : Nat} : W (pj lw) 31 130 L (.int x :: .int i :: .ref a :: S) k n H Q ↔ (inAw H a .int i = true ∧ W (pj lw) 31 131 L S k n (wr H a i.toNatClampNeg (.int x)) Q) := W_iastore (rfl : (pj lw).1 31 130 = some (.iastore, 1, 0))
theorem w31_131 {x : Nat} : W (pj lw) 31 131 (.val (.ref x) :: L) S k n H Q ↔ W (pj lw) 31 132 (.val (.ref x) :: L) (.ref x :: S) k n H Q := W_s (rfl : (pj lw).1 31 131 = some (.aload_n 0, 1, 0)) rfl rfl rfl
theorem w31_132 {a : Nat} : W (pj lw) 31 132 L (.ref a :: S) k n H Q ↔ (isO H a = true ∧ W (pj lw) 31 135 L (fld H a 10 :: S) k n H Q) := W_getf (rfl : (pj lw).1 31 132 = some (.getfield 38, 3, 10))
theorem w31_135 {x : Int32} {l0 l1 l2 l3 l4 l5 l6 l7 : Slot} : W (pj lw) 31 135 (l0 :: l1 :: l2 :: l3 :: l4 :: l5 :: l6 :: l7 :: .val (.int x) :: L) S k n H Q ↔ W (pj lw) 31 137 (l0 :: l1 :: l2 :: l3 :: l4 :: l5 :: l6 :: l7 :: .val (.int x) :: L) (.int x :: S) k n H Q := W_s (rfl : (pj lw).1 31 135 = some (.iload 8, 2, 0)) rfl rfl rfl
theorem w31_137 {x : Int32} {l0 : Slot} : W (pj lw) 31 137 (l0 :: .val (.int x) :: L) S k n H Q ↔ W (pj lw) 31 138 (l0 :: .val (.int x) :: L) (.int x :: S) k n H Q := W_s (rfl : (pj lw).1 31 137 = some (.iload_n 1, 1, 0)) rfl rfl rfl
theorem w31_138 {x i : Int32} {a : Nat} : W (pj lw) 31 138 L (.int x :: .int i :: .ref a :: S) k n H Q ↔ (inAw H a .int i = true ∧ W (pj lw) 31 139 L S k n (wr H a i.toNatClampNeg (.int x)) Q) := W_iastore (rfl : (pj lw).1 31 138 = some (.iastore, 1, 0))
theorem w31_139 {x : Nat} : W (pj lw) 31 139 (.val (.ref x) :: L) S k n H Q ↔ W (pj lw) 31 140 (.val (.ref x) :: L) (.ref x :: S) k n H Q := W_s (rfl : (pj lw).1 31 139 = some (.aload_n 0, 1, 0)) rfl rfl rfl
theorem w31_140 {a : Nat} : W (pj lw) 31 140 L (.ref a :: S) k n H Q ↔ (isO H a = true ∧ W (pj lw) 31 143 L (fld H a 11 :: S) k n H Q) := W_getf (rfl : (pj lw).1 31 140 = some (.getfield 41, 3, 11))
theorem w31_143 {x : Int32} {l0 l1 l2 l3 : Slot} : W (pj lw) 31 143 (l0 :: l1 :: l2 :: l3 :: .val (.int x) :: L) S k n H Q ↔ W (pj lw) 31 145 (l0 :: l1 :: l2 :: l3 :: .val (.int x) :: L) (.int x :: S) k n H Q := W_s (rfl : (pj lw).1 31 143 = some (.iload 4, 2, 0)) rfl rfl rfl
theorem w31_145 {x : Int32} {l0 l1 l2 l3 l4 l5 l6 l7 : Slot} : W (pj lw) 31 145 (l0 :: l1 :: l2 :: l3 :: l4 :: l5 :: l6 :: l7 :: .val (.int x) :: L) S k n H Q ↔ W (pj lw) 31 147 (l0 :: l1 :: l2 :: l3 :: l4 :: l5 :: l6 :: l7 :: .val (.int x) :: L) (.int x :: S) k n H Q := W_s (rfl : (pj lw).1 31 145 = some (.iload 8, 2, 0)) rfl rfl rfl
theorem w31_147 {x i : Int32} {a : Nat} : W (pj lw) 31 147 L (.int x :: .int i :: .ref a :: S) k n H Q ↔ (inAw H a .int i = true ∧ W (pj lw) 31 148 L S k n (wr H a i.toNatClampNeg (.int x)) Q) := W_iastore (rfl : (pj lw).1 31 147 = some (.iastore, 1, 0))
theorem w31_148 {x : Int32} {l0 l1 l2 l3 : Slot} : W (pj lw) 31 148 (l0 :: l1 :: l2 :: l3 :: .val (.int x) :: L) S k n H Q ↔ W (pj lw) 31 151 (l0 :: l1 :: l2 :: l3 :: .val (.int (x + 1)) :: L) S k n H Q := W_s (rfl : (pj lw).1 31 148 = some (.iinc 4 1, 3, 0)) rfl rfl rfl
theorem w31_151 {x : Int32} {l0 l1 l2 l3 l4 l5 : Slot} : W (pj lw) 31 151 (l0 :: l1 :: l2 :: l3 :: l4 :: l5 :: .val (.int x) :: L) S k n H Q ↔ W (pj lw) 31 154 (l0 :: l1 :: l2 :: l3 :: l4 :: l5 :: .val (.int (x + 1)) :: L) S k n H Q := W_s (rfl : (pj lw).1 31 151 = some (.iinc 6 1, 3, 0)) rfl rfl rfl
theorem w31_154 : W (pj lw) 31 154 L S k n H Q ↔ W (pj lw) 31 25 L S k n H Q := W_goto (rfl : (pj lw).1 31 154 = some (.goto (-129), 3, 0)) rfl
theorem w31_157 {x : Int32} {l0 l1 l2 l3 : Slot} : W (pj lw) 31 157 (l0 :: l1 :: l2 :: l3 :: .val (.int x) :: L) S k n H Q ↔ W (pj lw) 31 159 (l0 :: l1 :: l2 :: l3 :: .val (.int x) :: L) (.int x :: S) k n H Q := W_s (rfl : (pj lw).1 31 157 = some (.iload 4, 2, 0)) rfl rfl rfl
theorem w31_159 {x : Int32} : W (pj lw) 31 159 L (.int x :: S) k n H Q ↔ Q (some (.int x)) H := W_r (rfl : (pj lw).1 31 159 = some (.ireturn, 1, 0)) rfl
theorem c32 {x0 : Nat} {x1 : Int32} : Cl (pj lw) 32 [.ref x0, .int x1] H Q ↔ W (pj lw) 32 0 [.val (.ref x0), .val (.int x1), .unset, .unset, .unset, .unset] [] 0 0 H Q := cl_unf rfl
theorem w32_0 : W (pj lw) 32 0 L S k n H Q ↔ W (pj lw) 32 1 L (.int (-1) :: S) k n H Q := W_s (rfl : (pj lw).1 32 0 = some (.iconst (-1), 1, 0)) rfl rfl rfl
theorem w32_1 {x : Int32} {l0 l1 : Slot} : W (pj lw) 32 1 (l0 :: l1 :: .unset :: L) (.int x :: S) k n H Q ↔ W (pj lw) 32 2 (l0 :: l1 :: .val (.int x) :: L) S k n H Q := W_istn (rfl : (pj lw).1 32 1 = some (.istore_n 2, 1, 0)) rfl rfl
theorem w32_2 {x : Int32} {l0 : Slot} : W (pj lw) 32 2 (l0 :: .val (.int x) :: L) S k n H Q ↔ W (pj lw) 32 3 (l0 :: .val (.int x) :: L) (.int x :: S) k n H Q := W_s (rfl : (pj lw).1 32 2 = some (.iload_n 1, 1, 0)) rfl rfl rfl
theorem w32_3 {x : Int32} {l0 l1 l2 : Slot} : W (pj lw) 32 3 (l0 :: l1 :: l2 :: .unset :: L) (.int x :: S) k n H Q ↔ W (pj lw) 32 4 (l0 :: l1 :: l2 :: .val (.int x) :: L) S k n H Q := W_istn (rfl : (pj lw).1 32 3 = some (.istore_n 3, 1, 0)) rfl rfl
theorem w32_4 : W (pj lw) 32 4 L S k n H Q ↔ W (pj lw) 32 5 L (.int 0 :: S) k n H Q := W_s (rfl : (pj lw).1 32 4 = some (.iconst 0, 1, 0)) rfl rfl rfl
theorem w32_5 {x : Int32} {l0 l1 l2 l3 : Slot} : W (pj lw) 32 5 (l0 :: l1 :: l2 :: l3 :: .unset :: L) (.int x :: S) k n H Q ↔ W (pj lw) 32 7 (l0 :: l1 :: l2 :: l3 :: .val (.int x) :: L) S k n H Q := W_ist (rfl : (pj lw).1 32 5 = some (.istore 4, 2, 0)) rfl rfl
theorem w32_7 {x : Int32} {l0 l1 l2 l3 : Slot} : W (pj lw) 32 7 (l0 :: l1 :: l2 :: l3 :: .val (.int x) :: L) S k n H Q ↔ W (pj lw) 32 9 (l0 :: l1 :: l2 :: l3 :: .val (.int x) :: L) (.int x :: S) k n H Q := W_s (rfl : (pj lw).1 32 7 = some (.iload 4, 2, 0)) rfl rfl rfl
theorem w32_9 : W (pj lw) 32 9 L S k n H Q ↔ W (pj lw) 32 11 L (.int 32 :: S) k n H Q := W_s (rfl : (pj lw).1 32 9 = some (.bipush 32, 2, 0)) rfl rfl rfl
theorem w32_11 {x y : Int32} : W (pj lw) 32 11 L (.int y :: .int x :: S) k n H Q ↔ (if x < y then W (pj lw) 32 14 L S k n H Q else W (pj lw) 32 65 L S k n H Q) := W_icmp_ge (rfl : (pj lw).1 32 11 = some (.if_icmp .ge 54, 3, 0)) rfl
theorem w32_14 {x : Int32} {l0 l1 l2 : Slot} : W (pj lw) 32 14 (l0 :: l1 :: l2 :: .val (.int x) :: L) S k n H Q ↔ W (pj lw) 32 15 (l0 :: l1 :: l2 :: .val (.int x) :: L) (.int x :: S) k n H Q := W_s (rfl : (pj lw).1 32 14 = some (.iload_n 3, 1, 0)) rfl rfl rfl
theorem w32_15 {x : Int32} : W (pj lw) 32 15 L (.int x :: S) k n H Q ↔ (if x < 0 then W (pj lw) 32 65 L S k n H Q else W (pj lw) 32 18 L S k n H Q) := W_if_lt (rfl : (pj lw).1 32 15 = some (.ifCond .lt 50, 3, 0)) rfl
theorem w32_18 {x : Int32} {l0 l1 l2 : Slot} : W (pj lw) 32 18 (l0 :: l1 :: l2 :: .val (.int x) :: L) S k n H Q ↔ W (pj lw) 32 19 (l0 :: l1 :: l2 :: .val (.int x) :: L) (.int x :: S) k n H Q := W_s (rfl : (pj lw).1 32 18 = some (.iload_n 3, 1, 0)) rfl rfl rfl
theorem w32_19 : W (pj lw) 32 19 L S k n H Q ↔ W (pj lw) 32 21 L (.int 32 :: S) k n H Q := W_s (rfl : (pj lw).1 32 19 = some (.bipush 32, 2, 0)) rfl rfl rfl
theorem w32_21 {x y : Int32} : W (pj lw) 32 21 L (.int y :: .int x :: S) k n H Q ↔ (if x < y then W (pj lw) 32 27 L S k n H Q else W (pj lw) 32 24 L S k n H Q) := W_icmp_lt (rfl : (pj lw).1 32 21 = some (.if_icmp .lt 6, 3, 0)) rfl
theorem w32_24 : W (pj lw) 32 24 L S k n H Q ↔ W (pj lw) 32 65 L S k n H Q := W_goto (rfl : (pj lw).1 32 24 = some (.goto 41, 3, 0)) rfl
theorem w32_27 {x : Nat} : W (pj lw) 32 27 (.val (.ref x) :: L) S k n H Q ↔ W (pj lw) 32 28 (.val (.ref x) :: L) (.ref x :: S) k n H Q := W_s (rfl : (pj lw).1 32 27 = some (.aload_n 0, 1, 0)) rfl rfl rfl
theorem w32_28 {a : Nat} : W (pj lw) 32 28 L (.ref a :: S) k n H Q ↔ (isO H a = true ∧ W (pj lw) 32 31 L (fld H a 9 :: S) k n H Q) := W_getf (rfl : (pj lw).1 32 28 = some (.getfield 35, 3, 9))
theorem w32_31 {x : Int32} {l0 l1 l2 : Slot} : W (pj lw) 32 31 (l0 :: l1 :: l2 :: .val (.int x) :: L) S k n H Q ↔ W (pj lw) 32 32 (l0 :: l1 :: l2 :: .val (.int x) :: L) (.int x :: S) k n H Q := W_s (rfl : (pj lw).1 32 31 = some (.iload_n 3, 1, 0)) rfl rfl rfl
theorem w32_32 {i : Int32} {a : Nat} : W (pj lw) 32 32 L (.int i :: .ref a :: S) k n H Q ↔ (inA H a .int i = true ∧ W (pj lw) 32 33 L (elt H a i :: S) k n H Q) := W_iaload (rfl : (pj lw).1 32 32 = some (.iaload, 1, 0))
theorem w32_33 {x : Int32} {l0 l1 l2 l3 l4 : Slot} : W (pj lw) 32 33 (l0 :: l1 :: l2 :: l3 :: l4 :: .unset :: L) (.int x :: S) k n H Q ↔ W (pj lw) 32 35 (l0 :: l1 :: l2 :: l3 :: l4 :: .val (.int x) :: L) S k n H Q := W_ist (rfl : (pj lw).1 32 33 = some (.istore 5, 2, 0)) rfl rfl
theorem w32_35 {x : Int32} {l0 l1 l2 l3 l4 : Slot} : W (pj lw) 32 35 (l0 :: l1 :: l2 :: l3 :: l4 :: .val (.int x) :: L) S k n H Q ↔ W (pj lw) 32 37 (l0 :: l1 :: l2 :: l3 :: l4 :: .val (.int x) :: L) (.int x :: S) k n H Q := W_s (rfl : (pj lw).1 32 35 = some (.iload 5, 2, 0)) rfl rfl rfl
theorem w32_37 : W (pj lw) 32 37 L S k n H Q ↔ W (pj lw) 32 38 L (.int (-1) :: S) k n H Q := W_s (rfl : (pj lw).1 32 37 = some (.iconst (-1), 1, 0)) rfl rfl rfl
theorem w32_38 {x y : Int32} : W (pj lw) 32 38 L (.int y :: .int x :: S) k n H Q ↔ (if x = y then W (pj lw) 32 41 L S k n H Q else W (pj lw) 32 44 L S k n H Q) := W_icmp_ne (rfl : (pj lw).1 32 38 = some (.if_icmp .ne 6, 3, 0)) rfl
theorem w32_41 : W (pj lw) 32 41 L S k n H Q ↔ W (pj lw) 32 65 L S k n H Q := W_goto (rfl : (pj lw).1 32 41 = some (.goto 24, 3, 0)) rfl
theorem w32_44 {x : Nat} : W (pj lw) 32 44 (.val (.ref x) :: L) S k n H Q ↔ W (pj lw) 32 45 (.val (.ref x) :: L) (.ref x :: S) k n H Q := W_s (rfl : (pj lw).1 32 44 = some (.aload_n 0, 1, 0)) rfl rfl rfl
theorem w32_45 {x : Int32} {l0 l1 : Slot} : W (pj lw) 32 45 (l0 :: l1 :: .val (.int x) :: L) S k n H Q ↔ W (pj lw) 32 46 (l0 :: l1 :: .val (.int x) :: L) (.int x :: S) k n H Q := W_s (rfl : (pj lw).1 32 45 = some (.iload_n 2, 1, 0)) rfl rfl rfl
theorem w32_46 {x : Int32} {l0 l1 l2 l3 l4 : Slot} : W (pj lw) 32 46 (l0 :: l1 :: l2 :: l3 :: l4 :: .val (.int x) :: L) S k n H Q ↔ W (pj lw) 32 48 (l0 :: l1 :: l2 :: l3 :: l4 :: .val (.int x) :: L) (.int x :: S) k n H Q := W_s (rfl : (pj lw).1 32 46 = some (.iload 5, 2, 0)) rfl rfl rfl
theorem w32_48 {a : Nat} {x0 : Int32} {x1 : Int32} : W (pj lw) 32 48 L (.int x1 :: .int x0 :: .ref a :: S) k n H Q ↔ ((isO H a = true ∧ cs S + (3 + 11) + 14 ≤ 28) ∧ Cl (pj lw) 38 [.ref a, .int x0, .int x1] H (fun v H => W (pj lw) 32 51 L (v.toList ++ S) k n H Q)) := W_inst (as := [.int x0, .int x1]) (rfl : (pj lw).1 32 48 = some (.invokevirtual 142, 3, 38)) rfl rfl rfl (Nat.le_of_ble_eq_true rfl) (Nat.le_of_ble_eq_true rfl) ⟨rfl, rfl⟩
theorem w32_51i {y : Int32} {x : Int32} {l0 l1 : Slot} : W (pj lw) 32 51 (l0 :: l1 :: .val (.int y) :: L) (.int x :: S) k n H Q ↔ W (pj lw) 32 52 (l0 :: l1 :: .val (.int x) :: L) S k n H Q := W_istn (rfl : (pj lw).1 32 51 = some (.istore_n 2, 1, 0)) rfl rfl
theorem w32_52 {x : Nat} : W (pj lw) 32 52 (.val (.ref x) :: L) S k n H Q ↔ W (pj lw) 32 53 (.val (.ref x) :: L) (.ref x :: S) k n H Q := W_s (rfl : (pj lw).1 32 52 = some (.aload_n 0, 1, 0)) rfl rfl rfl
theorem w32_53 {a : Nat} : W (pj lw) 32 53 L (.ref a :: S) k n H Q ↔ (isO H a = true ∧ W (pj lw) 32 56 L (fld H a 10 :: S) k n H Q) := W_getf (rfl : (pj lw).1 32 53 = some (.getfield 38, 3, 10))
theorem w32_56 {x : Int32} {l0 l1 l2 : Slot} : W (pj lw) 32 56 (l0 :: l1 :: l2 :: .val (.int x) :: L) S k n H Q ↔ W (pj lw) 32 57 (l0 :: l1 :: l2 :: .val (.int x) :: L) (.int x :: S) k n H Q := W_s (rfl : (pj lw).1 32 56 = some (.iload_n 3, 1, 0)) rfl rfl rfl
theorem w32_57 {i : Int32} {a : Nat} : W (pj lw) 32 57 L (.int i :: .ref a :: S) k n H Q ↔ (inA H a .int i = true ∧ W (pj lw) 32 58 L (elt H a i :: S) k n H Q) := W_iaload (rfl : (pj lw).1 32 57 = some (.iaload, 1, 0))
theorem w32_58i {y : Int32} {x : Int32} {l0 l1 l2 : Slot} : W (pj lw) 32 58 (l0 :: l1 :: l2 :: .val (.int y) :: L) (.int x :: S) k n H Q ↔ W (pj lw) 32 59 (l0 :: l1 :: l2 :: .val (.int x) :: L) S k n H Q := W_istn (rfl : (pj lw).1 32 58 = some (.istore_n 3, 1, 0)) rfl rfl
theorem w32_59 {x : Int32} {l0 l1 l2 l3 : Slot} : W (pj lw) 32 59 (l0 :: l1 :: l2 :: l3 :: .val (.int x) :: L) S k n H Q ↔ W (pj lw) 32 62 (l0 :: l1 :: l2 :: l3 :: .val (.int (x + 1)) :: L) S k n H Q := W_s (rfl : (pj lw).1 32 59 = some (.iinc 4 1, 3, 0)) rfl rfl rfl
theorem w32_62 : W (pj lw) 32 62 L S k n H Q ↔ W (pj lw) 32 7 L S k n H Q := W_goto (rfl : (pj lw).1 32 62 = some (.goto (-55), 3, 0)) rfl
theorem w32_65 {x : Int32} {l0 l1 : Slot} : W (pj lw) 32 65 (l0 :: l1 :: .val (.int x) :: L) S k n H Q ↔ W (pj lw) 32 66 (l0 :: l1 :: .val (.int x) :: L) (.int x :: S) k n H Q := W_s (rfl : (pj lw).1 32 65 = some (.iload_n 2, 1, 0)) rfl rfl rfl
theorem w32_66 {x : Int32} : W (pj lw) 32 66 L (.int x :: S) k n H Q ↔ Q (some (.int x)) H := W_r (rfl : (pj lw).1 32 66 = some (.ireturn, 1, 0)) rfl
theorem c33 {x0 : Nat} : Cl (pj lw) 33 [.ref x0] H Q ↔ W (pj lw) 33 0 [.val (.ref x0), .unset, .unset] [] 0 0 H Q := cl_unf rfl
theorem w33_0 : W (pj lw) 33 0 L S k n H Q ↔ W (pj lw) 33 1 L (.int (-1) :: S) k n H Q := W_s (rfl : (pj lw).1 33 0 = some (.iconst (-1), 1, 0)) rfl rfl rfl
theorem w33_1 {x : Int32} {l0 : Slot} : W (pj lw) 33 1 (l0 :: .unset :: L) (.int x :: S) k n H Q ↔ W (pj lw) 33 2 (l0 :: .val (.int x) :: L) S k n H Q := W_istn (rfl : (pj lw).1 33 1 = some (.istore_n 1, 1, 0)) rfl rfl
theorem w33_2 : W (pj lw) 33 2 L S k n H Q ↔ W (pj lw) 33 3 L (.int 0 :: S) k n H Q := W_s (rfl : (pj lw).1 33 2 = some (.iconst 0, 1, 0)) rfl rfl rfl
theorem w33_3 {x : Int32} {l0 l1 : Slot} : W (pj lw) 33 3 (l0 :: l1 :: .unset :: L) (.int x :: S) k n H Q ↔ W (pj lw) 33 4 (l0 :: l1 :: .val (.int x) :: L) S k n H Q := W_istn (rfl : (pj lw).1 33 3 = some (.istore_n 2, 1, 0)) rfl rfl
theorem w33_4 {x : Int32} {l0 l1 : Slot} : W (pj lw) 33 4 (l0 :: l1 :: .val (.int x) :: L) S k n H Q ↔ W (pj lw) 33 5 (l0 :: l1 :: .val (.int x) :: L) (.int x :: S) k n H Q := W_s (rfl : (pj lw).1 33 4 = some (.iload_n 2, 1, 0)) rfl rfl rfl
theorem w33_5 : W (pj lw) 33 5 L S k n H Q ↔ W (pj lw) 33 8 L (.int 128 :: S) k n H Q := W_s (rfl : (pj lw).1 33 5 = some (.sipush 128, 3, 0)) rfl rfl rfl
theorem w33_8 {x y : Int32} : W (pj lw) 33 8 L (.int y :: .int x :: S) k n H Q ↔ (if x < y then W (pj lw) 33 11 L S k n H Q else W (pj lw) 33 50 L S k n H Q) := W_icmp_ge (rfl : (pj lw).1 33 8 = some (.if_icmp .ge 42, 3, 0)) rfl
theorem w33_11 {x : Nat} : W (pj lw) 33 11 (.val (.ref x) :: L) S k n H Q ↔ W (pj lw) 33 12 (.val (.ref x) :: L) (.ref x :: S) k n H Q := W_s (rfl : (pj lw).1 33 11 = some (.aload_n 0, 1, 0)) rfl rfl rfl
theorem w33_12 {a : Nat} : W (pj lw) 33 12 L (.ref a :: S) k n H Q ↔ (isO H a = true ∧ W (pj lw) 33 15 L (fld H a 4 :: S) k n H Q) := W_getf (rfl : (pj lw).1 33 12 = some (.getfield 19, 3, 4))
theorem w33_15 {x : Int32} {l0 l1 : Slot} : W (pj lw) 33 15 (l0 :: l1 :: .val (.int x) :: L) S k n H Q ↔ W (pj lw) 33 16 (l0 :: l1 :: .val (.int x) :: L) (.int x :: S) k n H Q := W_s (rfl : (pj lw).1 33 15 = some (.iload_n 2, 1, 0)) rfl rfl rfl
theorem w33_16 {i : Int32} {a : Nat} : W (pj lw) 33 16 L (.int i :: .ref a :: S) k n H Q ↔ ((inA H a .byte i = true ∨ inA H a .boolean i = true) ∧ W (pj lw) 33 17 L (elt H a i :: S) k n H Q) := W_baload (rfl : (pj lw).1 33 16 = some (.baload, 1, 0))
theorem w33_17 {x : Int32} : W (pj lw) 33 17 L (.int x :: S) k n H Q ↔ (if x = 0 then W (pj lw) 33 44 L S k n H Q else W (pj lw) 33 20 L S k n H Q) := W_if_eq (rfl : (pj lw).1 33 17 = some (.ifCond .eq 27, 3, 0)) rfl
theorem w33_20 {x : Nat} : W (pj lw) 33 20 (.val (.ref x) :: L) S k n H Q ↔ W (pj lw) 33 21 (.val (.ref x) :: L) (.ref x :: S) k n H Q := W_s (rfl : (pj lw).1 33 20 = some (.aload_n 0, 1, 0)) rfl rfl rfl
theorem w33_21 {a : Nat} : W (pj lw) 33 21 L (.ref a :: S) k n H Q ↔ (isO H a = true ∧ W (pj lw) 33 24 L (fld H a 5 :: S) k n H Q) := W_getf (rfl : (pj lw).1 33 21 = some (.getfield 23, 3, 5))
theorem w33_24 {x : Int32} {l0 l1 : Slot} : W (pj lw) 33 24 (l0 :: l1 :: .val (.int x) :: L) S k n H Q ↔ W (pj lw) 33 25 (l0 :: l1 :: .val (.int x) :: L) (.int x :: S) k n H Q := W_s (rfl : (pj lw).1 33 24 = some (.iload_n 2, 1, 0)) rfl rfl rfl
theorem w33_25 {i : Int32} {a : Nat} : W (pj lw) 33 25 L (.int i :: .ref a :: S) k n H Q ↔ ((inA H a .byte i = true ∨ inA H a .boolean i = true) ∧ W (pj lw) 33 26 L (elt H a i :: S) k n H Q) := W_baload (rfl : (pj lw).1 33 25 = some (.baload, 1, 0))
theorem w33_26 {x : Int32} : W (pj lw) 33 26 L (.int x :: S) k n H Q ↔ (if x = 0 then W (pj lw) 33 29 L S k n H Q else W (pj lw) 33 44 L S k n H Q) := W_if_ne (rfl : (pj lw).1 33 26 = some (.ifCond .ne 18, 3, 0)) rfl
theorem w33_29 {x : Nat} : W (pj lw) 33 29 (.val (.ref x) :: L) S k n H Q ↔ W (pj lw) 33 30 (.val (.ref x) :: L) (.ref x :: S) k n H Q := W_s (rfl : (pj lw).1 33 29 = some (.aload_n 0, 1, 0)) rfl rfl rfl
theorem w33_30 {x : Int32} {l0 l1 : Slot} : W (pj lw) 33 30 (l0 :: l1 :: .val (.int x) :: L) S k n H Q ↔ W (pj lw) 33 31 (l0 :: l1 :: .val (.int x) :: L) (.int x :: S) k n H Q := W_s (rfl : (pj lw).1 33 30 = some (.iload_n 2, 1, 0)) rfl rfl rfl
theorem w33_31 {a : Nat} {x0 : Int32} : W (pj lw) 33 31 L (.int x0 :: .ref a :: S) k n H Q ↔ ((isO H a = true ∧ cs S + (4 + 11) + 0 ≤ 28) ∧ Cl (pj lw) 34 [.ref a, .int x0] H (fun v H => W (pj lw) 33 34 L (v.toList ++ S) k n H Q)) := W_inst (as := [.int x0]) (rfl : (pj lw).1 33 31 = some (.invokevirtual 145, 3, 34)) rfl rfl rfl (Nat.le_of_ble_eq_true rfl) (Nat.le_of_ble_eq_true rfl) ⟨rfl, rfl⟩
theorem w33_34 {x : Int32} : W (pj lw) 33 34 L (.int x :: S) k n H Q ↔ (if x = 0 then W (pj lw) 33 44 L S k n H Q else W (pj lw) 33 37 L S k n H Q) := W_if_eq (rfl : (pj lw).1 33 34 = some (.ifCond .eq 10, 3, 0)) rfl
theorem w33_37 {x : Nat} : W (pj lw) 33 37 (.val (.ref x) :: L) S k n H Q ↔ W (pj lw) 33 38 (.val (.ref x) :: L) (.ref x :: S) k n H Q := W_s (rfl : (pj lw).1 33 37 = some (.aload_n 0, 1, 0)) rfl rfl rfl
theorem w33_38 {x : Int32} {l0 : Slot} : W (pj lw) 33 38 (l0 :: .val (.int x) :: L) S k n H Q ↔ W (pj lw) 33 39 (l0 :: .val (.int x) :: L) (.int x :: S) k n H Q := W_s (rfl : (pj lw).1 33 38 = some (.iload_n 1, 1, 0)) rfl rfl rfl
theorem w33_39 {x : Int32} {l0 l1 : Slot} : W (pj lw) 33 39 (l0 :: l1 :: .val (.int x) :: L) S k n H Q ↔ W (pj lw) 33 40 (l0 :: l1 :: .val (.int x) :: L) (.int x :: S) k n H Q := W_s (rfl : (pj lw).1 33 39 = some (.iload_n 2, 1, 0)) rfl rfl rfl
theorem w33_40 {a : Nat} {x0 : Int32} {x1 : Int32} : W (pj lw) 33 40 L (.int x1 :: .int x0 :: .ref a :: S) k n H Q ↔ ((isO H a = true ∧ cs S + (3 + 11) + 14 ≤ 28) ∧ Cl (pj lw) 37 [.ref a, .int x0, .int x1] H (fun v H => W (pj lw) 33 43 L (v.toList ++ S) k n H Q)) := W_inst (as := [.int x0, .int x1]) (rfl : (pj lw).1 33 40 = some (.invokevirtual 148, 3, 37)) rfl rfl rfl (Nat.le_of_ble_eq_true rfl) (Nat.le_of_ble_eq_true rfl) ⟨rfl, rfl⟩
theorem w33_43i {y : Int32} {x : Int32} {l0 : Slot} : W (pj lw) 33 43 (l0 :: .val (.int y) :: L) (.int x :: S) k n H Q ↔ W (pj lw) 33 44 (l0 :: .val (.int x) :: L) S k n H Q := W_istn (rfl : (pj lw).1 33 43 = some (.istore_n 1, 1, 0)) rfl rfl
theorem w33_44 {x : Int32} {l0 l1 : Slot} : W (pj lw) 33 44 (l0 :: l1 :: .val (.int x) :: L) S k n H Q ↔ W (pj lw) 33 47 (l0 :: l1 :: .val (.int (x + 1)) :: L) S k n H Q := W_s (rfl : (pj lw).1 33 44 = some (.iinc 2 1, 3, 0)) rfl rfl rfl
theorem w33_47 : W (pj lw) 33 47 L S k n H Q ↔ W (pj lw) 33 4 L S k n H Q := W_goto (rfl : (pj lw).1 33 47 = some (.goto (-43), 3, 0)) rfl
theorem w33_50 {x : Int32} {l0 : Slot} : W (pj lw) 33 50 (l0 :: .val (.int x) :: L) S k n H Q ↔ W (pj lw) 33 51 (l0 :: .val (.int x) :: L) (.int x :: S) k n H Q := W_s (rfl : (pj lw).1 33 50 = some (.iload_n 1, 1, 0)) rfl rfl rfl
theorem w33_51 {x : Int32} : W (pj lw) 33 51 L (.int x :: S) k n H Q ↔ Q (some (.int x)) H := W_r (rfl : (pj lw).1 33 51 = some (.ireturn, 1, 0)) rfl
theorem c34 {x0 : Nat} {x1 : Int32} : Cl (pj lw) 34 [.ref x0, .int x1] H Q ↔ W (pj lw) 34 0 [.val (.ref x0), .val (.int x1), .unset, .unset] [] 0 0 H Q := cl_unf rfl
theorem w34_0 {x : Nat} : W (pj lw) 34 0 (.val (.ref x) :: L) S k n H Q ↔ W (pj lw) 34 1 (.val (.ref x) :: L) (.ref x :: S) k n H Q := W_s (rfl : (pj lw).1 34 0 = some (.aload_n 0, 1, 0)) rfl rfl rfl
theorem w34_1 {a : Nat} : W (pj lw) 34 1 L (.ref a :: S) k n H Q ↔ (isO H a = true ∧ W (pj lw) 34 4 L (fld H a 1 :: S) k n H Q) := W_getf (rfl : (pj lw).1 34 1 = some (.getfield 7, 3, 1))
theorem w34_4 {x : Int32} {l0 : Slot} : W (pj lw) 34 4 (l0 :: .val (.int x) :: L) S k n H Q ↔ W (pj lw) 34 5 (l0 :: .val (.int x) :: L) (.int x :: S) k n H Q := W_s (rfl : (pj lw).1 34 4 = some (.iload_n 1, 1, 0)) rfl rfl rfl
theorem w34_5 {i : Int32} {a : Nat} : W (pj lw) 34 5 L (.int i :: .ref a :: S) k n H Q ↔ (inA H a .int i = true ∧ W (pj lw) 34 6 L (elt H a i :: S) k n H Q) := W_iaload (rfl : (pj lw).1 34 5 = some (.iaload, 1, 0))
theorem w34_6 {x : Int32} {l0 l1 : Slot} : W (pj lw) 34 6 (l0 :: l1 :: .unset :: L) (.int x :: S) k n H Q ↔ W (pj lw) 34 7 (l0 :: l1 :: .val (.int x) :: L) S k n H Q := W_istn (rfl : (pj lw).1 34 6 = some (.istore_n 2, 1, 0)) rfl rfl
theorem w34_7 {x : Nat} : W (pj lw) 34 7 (.val (.ref x) :: L) S k n H Q ↔ W (pj lw) 34 8 (.val (.ref x) :: L) (.ref x :: S) k n H Q := W_s (rfl : (pj lw).1 34 7 = some (.aload_n 0, 1, 0)) rfl rfl rfl
theorem w34_8 {a : Nat} : W (pj lw) 34 8 L (.ref a :: S) k n H Q ↔ (isO H a = true ∧ W (pj lw) 34 11 L (fld H a 2 :: S) k n H Q) := W_getf (rfl : (pj lw).1 34 8 = some (.getfield 13, 3, 2))
theorem w34_11 {x : Int32} {l0 : Slot} : W (pj lw) 34 11 (l0 :: .val (.int x) :: L) S k n H Q ↔ W (pj lw) 34 12 (l0 :: .val (.int x) :: L) (.int x :: S) k n H Q := W_s (rfl : (pj lw).1 34 11 = some (.iload_n 1, 1, 0)) rfl rfl rfl
theorem w34_12 {i : Int32} {a : Nat} : W (pj lw) 34 12 L (.int i :: .ref a :: S) k n H Q ↔ (inA H a .int i = true ∧ W (pj lw) 34 13 L (elt H a i :: S) k n H Q) := W_iaload (rfl : (pj lw).1 34 12 = some (.iaload, 1, 0))
theorem w34_13 {x : Int32} {l0 l1 l2 : Slot} : W (pj lw) 34 13 (l0 :: l1 :: l2 :: .unset :: L) (.int x :: S) k n H Q ↔ W (pj lw) 34 14 (l0 :: l1 :: l2 :: .val (.int x) :: L) S k n H Q := W_istn (rfl : (pj lw).1 34 13 = some (.istore_n 3, 1, 0)) rfl rfl
theorem w34_14 {x : Int32} {l0 l1 : Slot} : W (pj lw) 34 14 (l0 :: l1 :: .val (.int x) :: L) S k n H Q ↔ W (pj lw) 34 15 (l0 :: l1 :: .val (.int x) :: L) (.int x :: S) k n H Q := W_s (rfl : (pj lw).1 34 14 = some (.iload_n 2, 1, 0)) rfl rfl rfl
theorem w34_15 {x : Int32} : W (pj lw) 34 15 L (.int x :: S) k n H Q ↔ (if x < 0 then W (pj lw) 34 34 L S k n H Q else W (pj lw) 34 18 L S k n H Q) := W_if_lt (rfl : (pj lw).1 34 15 = some (.ifCond .lt 19, 3, 0)) rfl
theorem w34_18 {x : Int32} {l0 l1 : Slot} : W (pj lw) 34 18 (l0 :: l1 :: .val (.int x) :: L) S k n H Q ↔ W (pj lw) 34 19 (l0 :: l1 :: .val (.int x) :: L) (.int x :: S) k n H Q := W_s (rfl : (pj lw).1 34 18 = some (.iload_n 2, 1, 0)) rfl rfl rfl
theorem w34_19 : W (pj lw) 34 19 L S k n H Q ↔ W (pj lw) 34 21 L (.int 32 :: S) k n H Q := W_s (rfl : (pj lw).1 34 19 = some (.bipush 32, 2, 0)) rfl rfl rfl
theorem w34_21 {x y : Int32} : W (pj lw) 34 21 L (.int y :: .int x :: S) k n H Q ↔ (if x < y then W (pj lw) 34 24 L S k n H Q else W (pj lw) 34 34 L S k n H Q) := W_icmp_ge (rfl : (pj lw).1 34 21 = some (.if_icmp .ge 13, 3, 0)) rfl
theorem w34_24 {x : Int32} {l0 l1 l2 : Slot} : W (pj lw) 34 24 (l0 :: l1 :: l2 :: .val (.int x) :: L) S k n H Q ↔ W (pj lw) 34 25 (l0 :: l1 :: l2 :: .val (.int x) :: L) (.int x :: S) k n H Q := W_s (rfl : (pj lw).1 34 24 = some (.iload_n 3, 1, 0)) rfl rfl rfl
theorem w34_25 {x : Int32} : W (pj lw) 34 25 L (.int x :: S) k n H Q ↔ (if x < 0 then W (pj lw) 34 34 L S k n H Q else W (pj lw) 34 28 L S k n H Q) := W_if_lt (rfl : (pj lw).1 34 25 = some (.ifCond .lt 9, 3, 0)) rfl
theorem w34_28 {x : Int32} {l0 l1 l2 : Slot} : W (pj lw) 34 28 (l0 :: l1 :: l2 :: .val (.int x) :: L) S k n H Q ↔ W (pj lw) 34 29 (l0 :: l1 :: l2 :: .val (.int x) :: L) (.int x :: S) k n H Q := W_s (rfl : (pj lw).1 34 28 = some (.iload_n 3, 1, 0)) rfl rfl rfl
theorem w34_29 : W (pj lw) 34 29 L S k n H Q ↔ W (pj lw) 34 31 L (.int 32 :: S) k n H Q := W_s (rfl : (pj lw).1 34 29 = some (.bipush 32, 2, 0)) rfl rfl rfl
theorem w34_31 {x y : Int32} : W (pj lw) 34 31 L (.int y :: .int x :: S) k n H Q ↔ (if x < y then W (pj lw) 34 36 L S k n H Q else W (pj lw) 34 34 L S k n H Q) := W_icmp_lt (rfl : (pj lw).1 34 31 = some (.if_icmp .lt 5, 3, 0)) rfl
theorem w34_34 : W (pj lw) 34 34 L S k n H Q ↔ W (pj lw) 34 35 L (.int 0 :: S) k n H Q := W_s (rfl : (pj lw).1 34 34 = some (.iconst 0, 1, 0)) rfl rfl rfl
theorem w34_35 {x : Int32} : W (pj lw) 34 35 L (.int x :: S) k n H Q ↔ ((x = 0 ∨ x = 1) ∧ Q (some (.int x)) H) := W_rz (rfl : (pj lw).1 34 35 = some (.ireturn, 1, 0)) rfl
theorem w34_36 {x : Nat} : W (pj lw) 34 36 (.val (.ref x) :: L) S k n H Q ↔ W (pj lw) 34 37 (.val (.ref x) :: L) (.ref x :: S) k n H Q := W_s (rfl : (pj lw).1 34 36 = some (.aload_n 0, 1, 0)) rfl rfl rfl
theorem w34_37 {a : Nat} : W (pj lw) 34 37 L (.ref a :: S) k n H Q ↔ (isO H a = true ∧ W (pj lw) 34 40 L (fld H a 8 :: S) k n H Q) := W_getf (rfl : (pj lw).1 34 37 = some (.getfield 32, 3, 8))
theorem w34_40 {x : Int32} {l0 l1 : Slot} : W (pj lw) 34 40 (l0 :: l1 :: .val (.int x) :: L) S k n H Q ↔ W (pj lw) 34 41 (l0 :: l1 :: .val (.int x) :: L) (.int x :: S) k n H Q := W_s (rfl : (pj lw).1 34 40 = some (.iload_n 2, 1, 0)) rfl rfl rfl
theorem w34_41 {i : Int32} {a : Nat} : W (pj lw) 34 41 L (.int i :: .ref a :: S) k n H Q ↔ ((inA H a .byte i = true ∨ inA H a .boolean i = true) ∧ W (pj lw) 34 42 L (elt H a i :: S) k n H Q) := W_baload (rfl : (pj lw).1 34 41 = some (.baload, 1, 0))
theorem w34_42 {x : Nat} : W (pj lw) 34 42 (.val (.ref x) :: L) S k n H Q ↔ W (pj lw) 34 43 (.val (.ref x) :: L) (.ref x :: S) k n H Q := W_s (rfl : (pj lw).1 34 42 = some (.aload_n 0, 1, 0)) rfl rfl rfl
theorem w34_43 {a : Nat} : W (pj lw) 34 43 L (.ref a :: S) k n H Q ↔ (isO H a = true ∧ W (pj lw) 34 46 L (fld H a 8 :: S) k n H Q) := W_getf (rfl : (pj lw).1 34 43 = some (.getfield 32, 3, 8))
theorem w34_46 {x : Int32} {l0 l1 l2 : Slot} : W (pj lw) 34 46 (l0 :: l1 :: l2 :: .val (.int x) :: L) S k n H Q ↔ W (pj lw) 34 47 (l0 :: l1 :: l2 :: .val (.int x) :: L) (.int x :: S) k n H Q := W_s (rfl : (pj lw).1 34 46 = some (.iload_n 3, 1, 0)) rfl rfl rfl
theorem w34_47 {i : Int32} {a : Nat} : W (pj lw) 34 47 L (.int i :: .ref a :: S) k n H Q ↔ ((inA H a .byte i = true ∨ inA H a .boolean i = true) ∧ W (pj lw) 34 48 L (elt H a i :: S) k n H Q) := W_baload (rfl : (pj lw).1 34 47 = some (.baload, 1, 0))
theorem w34_48 {x y : Int32} : W (pj lw) 34 48 L (.int y :: .int x :: S) k n H Q ↔ (if x = y then W (pj lw) 34 55 L S k n H Q else W (pj lw) 34 51 L S k n H Q) := W_icmp_eq (rfl : (pj lw).1 34 48 = some (.if_icmp .eq 7, 3, 0)) rfl
theorem w34_51 : W (pj lw) 34 51 L S k n H Q ↔ W (pj lw) 34 52 L (.int 1 :: S) k n H Q := W_s (rfl : (pj lw).1 34 51 = some (.iconst 1, 1, 0)) rfl rfl rfl
theorem w34_52 : W (pj lw) 34 52 L S k n H Q ↔ W (pj lw) 34 56 L S k n H Q := W_goto (rfl : (pj lw).1 34 52 = some (.goto 4, 3, 0)) rfl
theorem w34_55 : W (pj lw) 34 55 L S k n H Q ↔ W (pj lw) 34 56 L (.int 0 :: S) k n H Q := W_s (rfl : (pj lw).1 34 55 = some (.iconst 0, 1, 0)) rfl rfl rfl
theorem w34_56 {x : Int32} : W (pj lw) 34 56 L (.int x :: S) k n H Q ↔ ((x = 0 ∨ x = 1) ∧ Q (some (.int x)) H) := W_rz (rfl : (pj lw).1 34 56 = some (.ireturn, 1, 0)) rfl
theorem c35 {x0 : Nat} {x1 : Int32} {x2 : Int32} : Cl (pj lw) 35 [.ref x0, .int x1, .int x2] H Q ↔ W (pj lw) 35 0 [.val (.ref x0), .val (.int x1), .val (.int x2)] [] 0 0 H Q := cl_unf rfl
theorem w35_0 {x : Nat} : W (pj lw) 35 0 (.val (.ref x) :: L) S k n H Q ↔ W (pj lw) 35 1 (.val (.ref x) :: L) (.ref x :: S) k n H Q := W_s (rfl : (pj lw).1 35 0 = some (.aload_n 0, 1, 0)) rfl rfl rfl
theorem w35_1 {a : Nat} : W (pj lw) 35 1 L (.ref a :: S) k n H Q ↔ (isO H a = true ∧ W (pj lw) 35 4 L (fld H a 1 :: S) k n H Q) := W_getf (rfl : (pj lw).1 35 1 = some (.getfield 7, 3, 1))
theorem w35_4 {x : Int32} {l0 : Slot} : W (pj lw) 35 4 (l0 :: .val (.int x) :: L) S k n H Q ↔ W (pj lw) 35 5 (l0 :: .val (.int x) :: L) (.int x :: S) k n H Q := W_s (rfl : (pj lw).1 35 4 = some (.iload_n 1, 1, 0)) rfl rfl rfl
theorem w35_5 {i : Int32} {a : Nat} : W (pj lw) 35 5 L (.int i :: .ref a :: S) k n H Q ↔ (inA H a .int i = true ∧ W (pj lw) 35 6 L (elt H a i :: S) k n H Q) := W_iaload (rfl : (pj lw).1 35 5 = some (.iaload, 1, 0))
theorem w35_6 {x : Int32} {l0 l1 : Slot} : W (pj lw) 35 6 (l0 :: l1 :: .val (.int x) :: L) S k n H Q ↔ W (pj lw) 35 7 (l0 :: l1 :: .val (.int x) :: L) (.int x :: S) k n H Q := W_s (rfl : (pj lw).1 35 6 = some (.iload_n 2, 1, 0)) rfl rfl rfl
theorem w35_7 {x y : Int32} : W (pj lw) 35 7 L (.int y :: .int x :: S) k n H Q ↔ (if x = y then W (pj lw) 35 10 L S k n H Q else W (pj lw) 35 17 L S k n H Q) := W_icmp_ne (rfl : (pj lw).1 35 7 = some (.if_icmp .ne 10, 3, 0)) rfl
theorem w35_10 {x : Nat} : W (pj lw) 35 10 (.val (.ref x) :: L) S k n H Q ↔ W (pj lw) 35 11 (.val (.ref x) :: L) (.ref x :: S) k n H Q := W_s (rfl : (pj lw).1 35 10 = some (.aload_n 0, 1, 0)) rfl rfl rfl
theorem w35_11 {a : Nat} : W (pj lw) 35 11 L (.ref a :: S) k n H Q ↔ (isO H a = true ∧ W (pj lw) 35 14 L (fld H a 2 :: S) k n H Q) := W_getf (rfl : (pj lw).1 35 11 = some (.getfield 13, 3, 2))
theorem w35_14 {x : Int32} {l0 : Slot} : W (pj lw) 35 14 (l0 :: .val (.int x) :: L) S k n H Q ↔ W (pj lw) 35 15 (l0 :: .val (.int x) :: L) (.int x :: S) k n H Q := W_s (rfl : (pj lw).1 35 14 = some (.iload_n 1, 1, 0)) rfl rfl rfl
theorem w35_15 {i : Int32} {a : Nat} : W (pj lw) 35 15 L (.int i :: .ref a :: S) k n H Q ↔ (inA H a .int i = true ∧ W (pj lw) 35 16 L (elt H a i :: S) k n H Q) := W_iaload (rfl : (pj lw).1 35 15 = some (.iaload, 1, 0))
theorem w35_16 {x : Int32} : W (pj lw) 35 16 L (.int x :: S) k n H Q ↔ Q (some (.int x)) H := W_r (rfl : (pj lw).1 35 16 = some (.ireturn, 1, 0)) rfl
theorem w35_17 {x : Nat} : W (pj lw) 35 17 (.val (.ref x) :: L) S k n H Q ↔ W (pj lw) 35 18 (.val (.ref x) :: L) (.ref x :: S) k n H Q := W_s (rfl : (pj lw).1 35 17 = some (.aload_n 0, 1, 0)) rfl rfl rfl
theorem w35_18 {a : Nat} : W (pj lw) 35 18 L (.ref a :: S) k n H Q ↔ (isO H a = true ∧ W (pj lw) 35 21 L (fld H a 2 :: S) k n H Q) := W_getf (rfl : (pj lw).1 35 18 = some (.getfield 13, 3, 2))
theorem w35_21 {x : Int32} {l0 : Slot} : W (pj lw) 35 21 (l0 :: .val (.int x) :: L) S k n H Q ↔ W (pj lw) 35 22 (l0 :: .val (.int x) :: L) (.int x :: S) k n H Q := W_s (rfl : (pj lw).1 35 21 = some (.iload_n 1, 1, 0)) rfl rfl rfl
theorem w35_22 {i : Int32} {a : Nat} : W (pj lw) 35 22 L (.int i :: .ref a :: S) k n H Q ↔ (inA H a .int i = true ∧ W (pj lw) 35 23 L (elt H a i :: S) k n H Q) := W_iaload (rfl : (pj lw).1 35 22 = some (.iaload, 1, 0))
theorem w35_23 {x : Int32} {l0 l1 : Slot} : W (pj lw) 35 23 (l0 :: l1 :: .val (.int x) :: L) S k n H Q ↔ W (pj lw) 35 24 (l0 :: l1 :: .val (.int x) :: L) (.int x :: S) k n H Q := W_s (rfl : (pj lw).1 35 23 = some (.iload_n 2, 1, 0)) rfl rfl rfl
theorem w35_24 {x y : Int32} : W (pj lw) 35 24 L (.int y :: .int x :: S) k n H Q ↔ (if x = y then W (pj lw) 35 27 L S k n H Q else W (pj lw) 35 34 L S k n H Q) := W_icmp_ne (rfl : (pj lw).1 35 24 = some (.if_icmp .ne 10, 3, 0)) rfl
theorem w35_27 {x : Nat} : W (pj lw) 35 27 (.val (.ref x) :: L) S k n H Q ↔ W (pj lw) 35 28 (.val (.ref x) :: L) (.ref x :: S) k n H Q := W_s (rfl : (pj lw).1 35 27 = some (.aload_n 0, 1, 0)) rfl rfl rfl
theorem w35_28 {a : Nat} : W (pj lw) 35 28 L (.ref a :: S) k n H Q ↔ (isO H a = true ∧ W (pj lw) 35 31 L (fld H a 1 :: S) k n H Q) := W_getf (rfl : (pj lw).1 35 28 = some (.getfield 7, 3, 1))
theorem w35_31 {x : Int32} {l0 : Slot} : W (pj lw) 35 31 (l0 :: .val (.int x) :: L) S k n H Q ↔ W (pj lw) 35 32 (l0 :: .val (.int x) :: L) (.int x :: S) k n H Q := W_s (rfl : (pj lw).1 35 31 = some (.iload_n 1, 1, 0)) rfl rfl rfl
theorem w35_32 {i : Int32} {a : Nat} : W (pj lw) 35 32 L (.int i :: .ref a :: S) k n H Q ↔ (inA H a .int i = true ∧ W (pj lw) 35 33 L (elt H a i :: S) k n H Q) := W_iaload (rfl : (pj lw).1 35 32 = some (.iaload, 1, 0))
theorem w35_33 {x : Int32} : W (pj lw) 35 33 L (.int x :: S) k n H Q ↔ Q (some (.int x)) H := W_r (rfl : (pj lw).1 35 33 = some (.ireturn, 1, 0)) rfl
theorem w35_34 : W (pj lw) 35 34 L S k n H Q ↔ W (pj lw) 35 35 L (.int (-1) :: S) k n H Q := W_s (rfl : (pj lw).1 35 34 = some (.iconst (-1), 1, 0)) rfl rfl rfl
theorem w35_35 {x : Int32} : W (pj lw) 35 35 L (.int x :: S) k n H Q ↔ Q (some (.int x)) H := W_r (rfl : (pj lw).1 35 35 = some (.ireturn, 1, 0)) rfl
theorem c36 {x0 : Nat} {x1 : Int32} {x2 : Int32} : Cl (pj lw) 36 [.ref x0, .int x1, .int x2] H Q ↔ W (pj lw) 36 0 [.val (.ref x0), .val (.int x1), .val (.int x2)] [] 0 0 H Q := cl_unf rfl
theorem w36_0 {x : Nat} : W (pj lw) 36 0 (.val (.ref x) :: L) S k n H Q ↔ W (pj lw) 36 1 (.val (.ref x) :: L) (.ref x :: S) k n H Q := W_s (rfl : (pj lw).1 36 0 = some (.aload_n 0, 1, 0)) rfl rfl rfl
theorem w36_1 {a : Nat} : W (pj lw) 36 1 L (.ref a :: S) k n H Q ↔ (isO H a = true ∧ W (pj lw) 36 4 L (fld H a 3 :: S) k n H Q) := W_getf (rfl : (pj lw).1 36 1 = some (.getfield 16, 3, 3))
theorem w36_4 {x : Int32} {l0 : Slot} : W (pj lw) 36 4 (l0 :: .val (.int x) :: L) S k n H Q ↔ W (pj lw) 36 5 (l0 :: .val (.int x) :: L) (.int x :: S) k n H Q := W_s (rfl : (pj lw).1 36 4 = some (.iload_n 1, 1, 0)) rfl rfl rfl
theorem w36_5 {i : Int32} {a : Nat} : W (pj lw) 36 5 L (.int i :: .ref a :: S) k n H Q ↔ (inA H a .int i = true ∧ W (pj lw) 36 6 L (elt H a i :: S) k n H Q) := W_iaload (rfl : (pj lw).1 36 5 = some (.iaload, 1, 0))
theorem w36_6 {x : Nat} : W (pj lw) 36 6 (.val (.ref x) :: L) S k n H Q ↔ W (pj lw) 36 7 (.val (.ref x) :: L) (.ref x :: S) k n H Q := W_s (rfl : (pj lw).1 36 6 = some (.aload_n 0, 1, 0)) rfl rfl rfl
theorem w36_7 {a : Nat} : W (pj lw) 36 7 L (.ref a :: S) k n H Q ↔ (isO H a = true ∧ W (pj lw) 36 10 L (fld H a 3 :: S) k n H Q) := W_getf (rfl : (pj lw).1 36 7 = some (.getfield 16, 3, 3))
theorem w36_10 {x : Int32} {l0 l1 : Slot} : W (pj lw) 36 10 (l0 :: l1 :: .val (.int x) :: L) S k n H Q ↔ W (pj lw) 36 11 (l0 :: l1 :: .val (.int x) :: L) (.int x :: S) k n H Q := W_s (rfl : (pj lw).1 36 10 = some (.iload_n 2, 1, 0)) rfl rfl rfl
theorem w36_11 {i : Int32} {a : Nat} : W (pj lw) 36 11 L (.int i :: .ref a :: S) k n H Q ↔ (inA H a .int i = true ∧ W (pj lw) 36 12 L (elt H a i :: S) k n H Q) := W_iaload (rfl : (pj lw).1 36 11 = some (.iaload, 1, 0))
theorem w36_12 {x y : Int32} : W (pj lw) 36 12 L (.int y :: .int x :: S) k n H Q ↔ (if x = y then W (pj lw) 36 36 L S k n H Q else W (pj lw) 36 15 L S k n H Q) := W_icmp_eq (rfl : (pj lw).1 36 12 = some (.if_icmp .eq 24, 3, 0)) rfl
theorem w36_15 {x : Nat} : W (pj lw) 36 15 (.val (.ref x) :: L) S k n H Q ↔ W (pj lw) 36 16 (.val (.ref x) :: L) (.ref x :: S) k n H Q := W_s (rfl : (pj lw).1 36 15 = some (.aload_n 0, 1, 0)) rfl rfl rfl
theorem w36_16 {a : Nat} : W (pj lw) 36 16 L (.ref a :: S) k n H Q ↔ (isO H a = true ∧ W (pj lw) 36 19 L (fld H a 3 :: S) k n H Q) := W_getf (rfl : (pj lw).1 36 16 = some (.getfield 16, 3, 3))
theorem w36_19 {x : Int32} {l0 : Slot} : W (pj lw) 36 19 (l0 :: .val (.int x) :: L) S k n H Q ↔ W (pj lw) 36 20 (l0 :: .val (.int x) :: L) (.int x :: S) k n H Q := W_s (rfl : (pj lw).1 36 19 = some (.iload_n 1, 1, 0)) rfl rfl rfl
theorem w36_20 {i : Int32} {a : Nat} : W (pj lw) 36 20 L (.int i :: .ref a :: S) k n H Q ↔ (inA H a .int i = true ∧ W (pj lw) 36 21 L (elt H a i :: S) k n H Q) := W_iaload (rfl : (pj lw).1 36 20 = some (.iaload, 1, 0))
theorem w36_21 {x : Nat} : W (pj lw) 36 21 (.val (.ref x) :: L) S k n H Q ↔ W (pj lw) 36 22 (.val (.ref x) :: L) (.ref x :: S) k n H Q := W_s (rfl : (pj lw).1 36 21 = some (.aload_n 0, 1, 0)) rfl rfl rfl
theorem w36_22 {a : Nat} : W (pj lw) 36 22 L (.ref a :: S) k n H Q ↔ (isO H a = true ∧ W (pj lw) 36 25 L (fld H a 3 :: S) k n H Q) := W_getf (rfl : (pj lw).1 36 22 = some (.getfield 16, 3, 3))
theorem w36_25 {x : Int32} {l0 l1 : Slot} : W (pj lw) 36 25 (l0 :: l1 :: .val (.int x) :: L) S k n H Q ↔ W (pj lw) 36 26 (l0 :: l1 :: .val (.int x) :: L) (.int x :: S) k n H Q := W_s (rfl : (pj lw).1 36 25 = some (.iload_n 2, 1, 0)) rfl rfl rfl
theorem w36_26 {i : Int32} {a : Nat} : W (pj lw) 36 26 L (.int i :: .ref a :: S) k n H Q ↔ (inA H a .int i = true ∧ W (pj lw) 36 27 L (elt H a i :: S) k n H Q) := W_iaload (rfl : (pj lw).1 36 26 = some (.iaload, 1, 0))
theorem w36_27 {x y : Int32} : W (pj lw) 36 27 L (.int y :: .int x :: S) k n H Q ↔ (if x < y then W (pj lw) 36 30 L S k n H Q else W (pj lw) 36 34 L S k n H Q) := W_icmp_ge (rfl : (pj lw).1 36 27 = some (.if_icmp .ge 7, 3, 0)) rfl
theorem w36_30 : W (pj lw) 36 30 L S k n H Q ↔ W (pj lw) 36 31 L (.int 1 :: S) k n H Q := W_s (rfl : (pj lw).1 36 30 = some (.iconst 1, 1, 0)) rfl rfl rfl
theorem w36_31 : W (pj lw) 36 31 L S k n H Q ↔ W (pj lw) 36 35 L S k n H Q := W_goto (rfl : (pj lw).1 36 31 = some (.goto 4, 3, 0)) rfl
theorem w36_34 : W (pj lw) 36 34 L S k n H Q ↔ W (pj lw) 36 35 L (.int 0 :: S) k n H Q := W_s (rfl : (pj lw).1 36 34 = some (.iconst 0, 1, 0)) rfl rfl rfl
theorem w36_35 {x : Int32} : W (pj lw) 36 35 L (.int x :: S) k n H Q ↔ ((x = 0 ∨ x = 1) ∧ Q (some (.int x)) H) := W_rz (rfl : (pj lw).1 36 35 = some (.ireturn, 1, 0)) rfl
theorem w36_36 {x : Int32} {l0 : Slot} : W (pj lw) 36 36 (l0 :: .val (.int x) :: L) S k n H Q ↔ W (pj lw) 36 37 (l0 :: .val (.int x) :: L) (.int x :: S) k n H Q := W_s (rfl : (pj lw).1 36 36 = some (.iload_n 1, 1, 0)) rfl rfl rfl
theorem w36_37 {x : Int32} {l0 l1 : Slot} : W (pj lw) 36 37 (l0 :: l1 :: .val (.int x) :: L) S k n H Q ↔ W (pj lw) 36 38 (l0 :: l1 :: .val (.int x) :: L) (.int x :: S) k n H Q := W_s (rfl : (pj lw).1 36 37 = some (.iload_n 2, 1, 0)) rfl rfl rfl
theorem w36_38 {x y : Int32} : W (pj lw) 36 38 L (.int y :: .int x :: S) k n H Q ↔ (if x < y then W (pj lw) 36 41 L S k n H Q else W (pj lw) 36 45 L S k n H Q) := W_icmp_ge (rfl : (pj lw).1 36 38 = some (.if_icmp .ge 7, 3, 0)) rfl
theorem w36_41 : W (pj lw) 36 41 L S k n H Q ↔ W (pj lw) 36 42 L (.int 1 :: S) k n H Q := W_s (rfl : (pj lw).1 36 41 = some (.iconst 1, 1, 0)) rfl rfl rfl
theorem w36_42 : W (pj lw) 36 42 L S k n H Q ↔ W (pj lw) 36 46 L S k n H Q := W_goto (rfl : (pj lw).1 36 42 = some (.goto 4, 3, 0)) rfl
theorem w36_45 : W (pj lw) 36 45 L S k n H Q ↔ W (pj lw) 36 46 L (.int 0 :: S) k n H Q := W_s (rfl : (pj lw).1 36 45 = some (.iconst 0, 1, 0)) rfl rfl rfl
theorem w36_46 {x : Int32} : W (pj lw) 36 46 L (.int x :: S) k n H Q ↔ ((x = 0 ∨ x = 1) ∧ Q (some (.int x)) H) := W_rz (rfl : (pj lw).1 36 46 = some (.ireturn, 1, 0)) rfl
theorem c37 {x0 : Nat} {x1 : Int32} {x2 : Int32} : Cl (pj lw) 37 [.ref x0, .int x1, .int x2] H Q ↔ W (pj lw) 37 0 [.val (.ref x0), .val (.int x1), .val (.int x2)] [] 0 0 H Q := cl_unf rfl
theorem w37_0 {x : Int32} {l0 : Slot} : W (pj lw) 37 0 (l0 :: .val (.int x) :: L) S k n H Q ↔ W (pj lw) 37 1 (l0 :: .val (.int x) :: L) (.int x :: S) k n H Q := W_s (rfl : (pj lw).1 37 0 = some (.iload_n 1, 1, 0)) rfl rfl rfl
theorem w37_1 : W (pj lw) 37 1 L S k n H Q ↔ W (pj lw) 37 2 L (.int (-1) :: S) k n H Q := W_s (rfl : (pj lw).1 37 1 = some (.iconst (-1), 1, 0)) rfl rfl rfl
theorem w37_2 {x y : Int32} : W (pj lw) 37 2 L (.int y :: .int x :: S) k n H Q ↔ (if x = y then W (pj lw) 37 5 L S k n H Q else W (pj lw) 37 7 L S k n H Q) := W_icmp_ne (rfl : (pj lw).1 37 2 = some (.if_icmp .ne 5, 3, 0)) rfl
theorem w37_5 {x : Int32} {l0 l1 : Slot} : W (pj lw) 37 5 (l0 :: l1 :: .val (.int x) :: L) S k n H Q ↔ W (pj lw) 37 6 (l0 :: l1 :: .val (.int x) :: L) (.int x :: S) k n H Q := W_s (rfl : (pj lw).1 37 5 = some (.iload_n 2, 1, 0)) rfl rfl rfl
theorem w37_6 {x : Int32} : W (pj lw) 37 6 L (.int x :: S) k n H Q ↔ Q (some (.int x)) H := W_r (rfl : (pj lw).1 37 6 = some (.ireturn, 1, 0)) rfl
theorem w37_7 {x : Int32} {l0 l1 : Slot} : W (pj lw) 37 7 (l0 :: l1 :: .val (.int x) :: L) S k n H Q ↔ W (pj lw) 37 8 (l0 :: l1 :: .val (.int x) :: L) (.int x :: S) k n H Q := W_s (rfl : (pj lw).1 37 7 = some (.iload_n 2, 1, 0)) rfl rfl rfl
theorem w37_8 : W (pj lw) 37 8 L S k n H Q ↔ W (pj lw) 37 9 L (.int (-1) :: S) k n H Q := W_s (rfl : (pj lw).1 37 8 = some (.iconst (-1), 1, 0)) rfl rfl rfl
theorem w37_9 {x y : Int32} : W (pj lw) 37 9 L (.int y :: .int x :: S) k n H Q ↔ (if x = y then W (pj lw) 37 12 L S k n H Q else W (pj lw) 37 14 L S k n H Q) := W_icmp_ne (rfl : (pj lw).1 37 9 = some (.if_icmp .ne 5, 3, 0)) rfl
theorem w37_12 {x : Int32} {l0 : Slot} : W (pj lw) 37 12 (l0 :: .val (.int x) :: L) S k n H Q ↔ W (pj lw) 37 13 (l0 :: .val (.int x) :: L) (.int x :: S) k n H Q := W_s (rfl : (pj lw).1 37 12 = some (.iload_n 1, 1, 0)) rfl rfl rfl
theorem w37_13 {x : Int32} : W (pj lw) 37 13 L (.int x :: S) k n H Q ↔ Q (some (.int x)) H := W_r (rfl : (pj lw).1 37 13 = some (.ireturn, 1, 0)) rfl
theorem w37_14 {x : Nat} : W (pj lw) 37 14 (.val (.ref x) :: L) S k n H Q ↔ W (pj lw) 37 15 (.val (.ref x) :: L) (.ref x :: S) k n H Q := W_s (rfl : (pj lw).1 37 14 = some (.aload_n 0, 1, 0)) rfl rfl rfl
theorem w37_15 {x : Int32} {l0 : Slot} : W (pj lw) 37 15 (l0 :: .val (.int x) :: L) S k n H Q ↔ W (pj lw) 37 16 (l0 :: .val (.int x) :: L) (.int x :: S) k n H Q := W_s (rfl : (pj lw).1 37 15 = some (.iload_n 1, 1, 0)) rfl rfl rfl
theorem w37_16 {x : Int32} {l0 l1 : Slot} : W (pj lw) 37 16 (l0 :: l1 :: .val (.int x) :: L) S k n H Q ↔ W (pj lw) 37 17 (l0 :: l1 :: .val (.int x) :: L) (.int x :: S) k n H Q := W_s (rfl : (pj lw).1 37 16 = some (.iload_n 2, 1, 0)) rfl rfl rfl
theorem w37_17 {a : Nat} {x0 : Int32} {x1 : Int32} : W (pj lw) 37 17 L (.int x1 :: .int x0 :: .ref a :: S) k n H Q ↔ ((isO H a = true ∧ cs S + (3 + 11) + 0 ≤ 14) ∧ Cl (pj lw) 36 [.ref a, .int x0, .int x1] H (fun v H => W (pj lw) 37 20 L (v.toList ++ S) k n H Q)) := W_inst (as := [.int x0, .int x1]) (rfl : (pj lw).1 37 17 = some (.invokevirtual 122, 3, 36)) rfl rfl rfl (Nat.le_of_ble_eq_true rfl) (Nat.le_of_ble_eq_true rfl) ⟨rfl, rfl⟩
theorem w37_20 {x : Int32} : W (pj lw) 37 20 L (.int x :: S) k n H Q ↔ (if x = 0 then W (pj lw) 37 25 L S k n H Q else W (pj lw) 37 23 L S k n H Q) := W_if_eq (rfl : (pj lw).1 37 20 = some (.ifCond .eq 5, 3, 0)) rfl
theorem w37_23 {x : Int32} {l0 : Slot} : W (pj lw) 37 23 (l0 :: .val (.int x) :: L) S k n H Q ↔ W (pj lw) 37 24 (l0 :: .val (.int x) :: L) (.int x :: S) k n H Q := W_s (rfl : (pj lw).1 37 23 = some (.iload_n 1, 1, 0)) rfl rfl rfl
theorem w37_24 {x : Int32} : W (pj lw) 37 24 L (.int x :: S) k n H Q ↔ Q (some (.int x)) H := W_r (rfl : (pj lw).1 37 24 = some (.ireturn, 1, 0)) rfl
theorem w37_25 {x : Int32} {l0 l1 : Slot} : W (pj lw) 37 25 (l0 :: l1 :: .val (.int x) :: L) S k n H Q ↔ W (pj lw) 37 26 (l0 :: l1 :: .val (.int x) :: L) (.int x :: S) k n H Q := W_s (rfl : (pj lw).1 37 25 = some (.iload_n 2, 1, 0)) rfl rfl rfl
theorem w37_26 {x : Int32} : W (pj lw) 37 26 L (.int x :: S) k n H Q ↔ Q (some (.int x)) H := W_r (rfl : (pj lw).1 37 26 = some (.ireturn, 1, 0)) rfl
theorem c38 {x0 : Nat} {x1 : Int32} {x2 : Int32} : Cl (pj lw) 38 [.ref x0, .int x1, .int x2] H Q ↔ W (pj lw) 38 0 [.val (.ref x0), .val (.int x1), .val (.int x2)] [] 0 0 H Q := cl_unf rfl
theorem w38_0 {x : Int32} {l0 : Slot} : W (pj lw) 38 0 (l0 :: .val (.int x) :: L) S k n H Q ↔ W (pj lw) 38 1 (l0 :: .val (.int x) :: L) (.int x :: S) k n H Q := W_s (rfl : (pj lw).1 38 0 = some (.iload_n 1, 1, 0)) rfl rfl rfl
theorem w38_1 : W (pj lw) 38 1 L S k n H Q ↔ W (pj lw) 38 2 L (.int (-1) :: S) k n H Q := W_s (rfl : (pj lw).1 38 1 = some (.iconst (-1), 1, 0)) rfl rfl rfl
theorem w38_2 {x y : Int32} : W (pj lw) 38 2 L (.int y :: .int x :: S) k n H Q ↔ (if x = y then W (pj lw) 38 5 L S k n H Q else W (pj lw) 38 7 L S k n H Q) := W_icmp_ne (rfl : (pj lw).1 38 2 = some (.if_icmp .ne 5, 3, 0)) rfl
theorem w38_5 {x : Int32} {l0 l1 : Slot} : W (pj lw) 38 5 (l0 :: l1 :: .val (.int x) :: L) S k n H Q ↔ W (pj lw) 38 6 (l0 :: l1 :: .val (.int x) :: L) (.int x :: S) k n H Q := W_s (rfl : (pj lw).1 38 5 = some (.iload_n 2, 1, 0)) rfl rfl rfl
theorem w38_6 {x : Int32} : W (pj lw) 38 6 L (.int x :: S) k n H Q ↔ Q (some (.int x)) H := W_r (rfl : (pj lw).1 38 6 = some (.ireturn, 1, 0)) rfl
theorem w38_7 {x : Int32} {l0 l1 : Slot} : W (pj lw) 38 7 (l0 :: l1 :: .val (.int x) :: L) S k n H Q ↔ W (pj lw) 38 8 (l0 :: l1 :: .val (.int x) :: L) (.int x :: S) k n H Q := W_s (rfl : (pj lw).1 38 7 = some (.iload_n 2, 1, 0)) rfl rfl rfl
theorem w38_8 : W (pj lw) 38 8 L S k n H Q ↔ W (pj lw) 38 9 L (.int (-1) :: S) k n H Q := W_s (rfl : (pj lw).1 38 8 = some (.iconst (-1), 1, 0)) rfl rfl rfl
theorem w38_9 {x y : Int32} : W (pj lw) 38 9 L (.int y :: .int x :: S) k n H Q ↔ (if x = y then W (pj lw) 38 12 L S k n H Q else W (pj lw) 38 14 L S k n H Q) := W_icmp_ne (rfl : (pj lw).1 38 9 = some (.if_icmp .ne 5, 3, 0)) rfl
theorem w38_12 {x : Int32} {l0 : Slot} : W (pj lw) 38 12 (l0 :: .val (.int x) :: L) S k n H Q ↔ W (pj lw) 38 13 (l0 :: .val (.int x) :: L) (.int x :: S) k n H Q := W_s (rfl : (pj lw).1 38 12 = some (.iload_n 1, 1, 0)) rfl rfl rfl
theorem w38_13 {x : Int32} : W (pj lw) 38 13 L (.int x :: S) k n H Q ↔ Q (some (.int x)) H := W_r (rfl : (pj lw).1 38 13 = some (.ireturn, 1, 0)) rfl
theorem w38_14 {x : Nat} : W (pj lw) 38 14 (.val (.ref x) :: L) S k n H Q ↔ W (pj lw) 38 15 (.val (.ref x) :: L) (.ref x :: S) k n H Q := W_s (rfl : (pj lw).1 38 14 = some (.aload_n 0, 1, 0)) rfl rfl rfl
theorem w38_15 {x : Int32} {l0 : Slot} : W (pj lw) 38 15 (l0 :: .val (.int x) :: L) S k n H Q ↔ W (pj lw) 38 16 (l0 :: .val (.int x) :: L) (.int x :: S) k n H Q := W_s (rfl : (pj lw).1 38 15 = some (.iload_n 1, 1, 0)) rfl rfl rfl
theorem w38_16 {x : Int32} {l0 l1 : Slot} : W (pj lw) 38 16 (l0 :: l1 :: .val (.int x) :: L) S k n H Q ↔ W (pj lw) 38 17 (l0 :: l1 :: .val (.int x) :: L) (.int x :: S) k n H Q := W_s (rfl : (pj lw).1 38 16 = some (.iload_n 2, 1, 0)) rfl rfl rfl
theorem w38_17 {a : Nat} {x0 : Int32} {x1 : Int32} : W (pj lw) 38 17 L (.int x1 :: .int x0 :: .ref a :: S) k n H Q ↔ ((isO H a = true ∧ cs S + (3 + 11) + 0 ≤ 14) ∧ Cl (pj lw) 36 [.ref a, .int x0, .int x1] H (fun v H => W (pj lw) 38 20 L (v.toList ++ S) k n H Q)) := W_inst (as := [.int x0, .int x1]) (rfl : (pj lw).1 38 17 = some (.invokevirtual 122, 3, 36)) rfl rfl rfl (Nat.le_of_ble_eq_true rfl) (Nat.le_of_ble_eq_true rfl) ⟨rfl, rfl⟩
theorem w38_20 {x : Int32} : W (pj lw) 38 20 L (.int x :: S) k n H Q ↔ (if x = 0 then W (pj lw) 38 25 L S k n H Q else W (pj lw) 38 23 L S k n H Q) := W_if_eq (rfl : (pj lw).1 38 20 = some (.ifCond .eq 5, 3, 0)) rfl
theorem w38_23 {x : Int32} {l0 l1 : Slot} : W (pj lw) 38 23 (l0 :: l1 :: .val (.int x) :: L) S k n H Q ↔ W (pj lw) 38 24 (l0 :: l1 :: .val (.int x) :: L) (.int x :: S) k n H Q := W_s (rfl : (pj lw).1 38 23 = some (.iload_n 2, 1, 0)) rfl rfl rfl
theorem w38_24 {x : Int32} : W (pj lw) 38 24 L (.int x :: S) k n H Q ↔ Q (some (.int x)) H := W_r (rfl : (pj lw).1 38 24 = some (.ireturn, 1, 0)) rfl
theorem w38_25 {x : Int32} {l0 : Slot} : W (pj lw) 38 25 (l0 :: .val (.int x) :: L) S k n H Q ↔ W (pj lw) 38 26 (l0 :: .val (.int x) :: L) (.int x :: S) k n H Q := W_s (rfl : (pj lw).1 38 25 = some (.iload_n 1, 1, 0)) rfl rfl rfl
theorem w38_26 {x : Int32} : W (pj lw) 38 26 L (.int x :: S) k n H Q ↔ Q (some (.int x)) H := W_r (rfl : (pj lw).1 38 26 = some (.ireturn, 1, 0)) rfl
theorem c39 {x0 : Nat} {x1 : Int32} : Cl (pj lw) 39 [.ref x0, .int x1] H Q ↔ W (pj lw) 39 0 [.val (.ref x0), .val (.int x1)] [] 0 0 H Q := cl_unf rfl
theorem w39_0 {x : Int32} {l0 : Slot} : W (pj lw) 39 0 (l0 :: .val (.int x) :: L) S k n H Q ↔ W (pj lw) 39 1 (l0 :: .val (.int x) :: L) (.int x :: S) k n H Q := W_s (rfl : (pj lw).1 39 0 = some (.iload_n 1, 1, 0)) rfl rfl rfl
theorem w39_1 {x : Int32} : W (pj lw) 39 1 L (.int x :: S) k n H Q ↔ (if x < 0 then W (pj lw) 39 22 L S k n H Q else W (pj lw) 39 4 L S k n H Q) := W_if_lt (rfl : (pj lw).1 39 1 = some (.ifCond .lt 21, 3, 0)) rfl
theorem w39_4 {x : Int32} {l0 : Slot} : W (pj lw) 39 4 (l0 :: .val (.int x) :: L) S k n H Q ↔ W (pj lw) 39 5 (l0 :: .val (.int x) :: L) (.int x :: S) k n H Q := W_s (rfl : (pj lw).1 39 4 = some (.iload_n 1, 1, 0)) rfl rfl rfl
theorem w39_5 {x : Nat} : W (pj lw) 39 5 (.val (.ref x) :: L) S k n H Q ↔ W (pj lw) 39 6 (.val (.ref x) :: L) (.ref x :: S) k n H Q := W_s (rfl : (pj lw).1 39 5 = some (.aload_n 0, 1, 0)) rfl rfl rfl
theorem w39_6 {a : Nat} : W (pj lw) 39 6 L (.ref a :: S) k n H Q ↔ (isO H a = true ∧ W (pj lw) 39 9 L (fld H a 0 :: S) k n H Q) := W_getf (rfl : (pj lw).1 39 6 = some (.getfield 44, 3, 0))
theorem w39_9 {x y : Int32} : W (pj lw) 39 9 L (.int y :: .int x :: S) k n H Q ↔ (if x < y then W (pj lw) 39 12 L S k n H Q else W (pj lw) 39 22 L S k n H Q) := W_icmp_ge (rfl : (pj lw).1 39 9 = some (.if_icmp .ge 13, 3, 0)) rfl
theorem w39_12 {x : Int32} {l0 : Slot} : W (pj lw) 39 12 (l0 :: .val (.int x) :: L) S k n H Q ↔ W (pj lw) 39 13 (l0 :: .val (.int x) :: L) (.int x :: S) k n H Q := W_s (rfl : (pj lw).1 39 12 = some (.iload_n 1, 1, 0)) rfl rfl rfl
theorem w39_13 : W (pj lw) 39 13 L S k n H Q ↔ W (pj lw) 39 15 L (.int 32 :: S) k n H Q := W_s (rfl : (pj lw).1 39 13 = some (.bipush 32, 2, 0)) rfl rfl rfl
theorem w39_15 {x y : Int32} : W (pj lw) 39 15 L (.int y :: .int x :: S) k n H Q ↔ (if x < y then W (pj lw) 39 18 L S k n H Q else W (pj lw) 39 22 L S k n H Q) := W_icmp_ge (rfl : (pj lw).1 39 15 = some (.if_icmp .ge 7, 3, 0)) rfl
theorem w39_18 : W (pj lw) 39 18 L S k n H Q ↔ W (pj lw) 39 19 L (.int 1 :: S) k n H Q := W_s (rfl : (pj lw).1 39 18 = some (.iconst 1, 1, 0)) rfl rfl rfl
theorem w39_19 : W (pj lw) 39 19 L S k n H Q ↔ W (pj lw) 39 23 L S k n H Q := W_goto (rfl : (pj lw).1 39 19 = some (.goto 4, 3, 0)) rfl
theorem w39_22 : W (pj lw) 39 22 L S k n H Q ↔ W (pj lw) 39 23 L (.int 0 :: S) k n H Q := W_s (rfl : (pj lw).1 39 22 = some (.iconst 0, 1, 0)) rfl rfl rfl
theorem w39_23 {x : Int32} : W (pj lw) 39 23 L (.int x :: S) k n H Q ↔ ((x = 0 ∨ x = 1) ∧ Q (some (.int x)) H) := W_rz (rfl : (pj lw).1 39 23 = some (.ireturn, 1, 0)) rfl
theorem c40 {x0 : Nat} {x1 : Int32} : Cl (pj lw) 40 [.ref x0, .int x1] H Q ↔ W (pj lw) 40 0 [.val (.ref x0), .val (.int x1)] [] 0 0 H Q := cl_unf rfl
theorem w40_0 {x : Int32} {l0 : Slot} : W (pj lw) 40 0 (l0 :: .val (.int x) :: L) S k n H Q ↔ W (pj lw) 40 1 (l0 :: .val (.int x) :: L) (.int x :: S) k n H Q := W_s (rfl : (pj lw).1 40 0 = some (.iload_n 1, 1, 0)) rfl rfl rfl
theorem w40_1 {x : Int32} : W (pj lw) 40 1 L (.int x :: S) k n H Q ↔ (if x < 0 then W (pj lw) 40 15 L S k n H Q else W (pj lw) 40 4 L S k n H Q) := W_if_lt (rfl : (pj lw).1 40 1 = some (.ifCond .lt 14, 3, 0)) rfl
theorem w40_4 {x : Int32} {l0 : Slot} : W (pj lw) 40 4 (l0 :: .val (.int x) :: L) S k n H Q ↔ W (pj lw) 40 5 (l0 :: .val (.int x) :: L) (.int x :: S) k n H Q := W_s (rfl : (pj lw).1 40 4 = some (.iload_n 1, 1, 0)) rfl rfl rfl
theorem w40_5 : W (pj lw) 40 5 L S k n H Q ↔ W (pj lw) 40 8 L (.int 128 :: S) k n H Q := W_s (rfl : (pj lw).1 40 5 = some (.sipush 128, 3, 0)) rfl rfl rfl
theorem w40_8 {x y : Int32} : W (pj lw) 40 8 L (.int y :: .int x :: S) k n H Q ↔ (if x < y then W (pj lw) 40 11 L S k n H Q else W (pj lw) 40 15 L S k n H Q) := W_icmp_ge (rfl : (pj lw).1 40 8 = some (.if_icmp .ge 7, 3, 0)) rfl
theorem w40_11 : W (pj lw) 40 11 L S k n H Q ↔ W (pj lw) 40 12 L (.int 1 :: S) k n H Q := W_s (rfl : (pj lw).1 40 11 = some (.iconst 1, 1, 0)) rfl rfl rfl
theorem w40_12 : W (pj lw) 40 12 L S k n H Q ↔ W (pj lw) 40 16 L S k n H Q := W_goto (rfl : (pj lw).1 40 12 = some (.goto 4, 3, 0)) rfl
theorem w40_15 : W (pj lw) 40 15 L S k n H Q ↔ W (pj lw) 40 16 L (.int 0 :: S) k n H Q := W_s (rfl : (pj lw).1 40 15 = some (.iconst 0, 1, 0)) rfl rfl rfl
theorem w40_16 {x : Int32} : W (pj lw) 40 16 L (.int x :: S) k n H Q ↔ ((x = 0 ∨ x = 1) ∧ Q (some (.int x)) H) := W_rz (rfl : (pj lw).1 40 16 = some (.ireturn, 1, 0)) rfl
theorem c41 {x0 : Nat} {x1 : Int32} : Cl (pj lw) 41 [.ref x0, .int x1] H Q ↔ W (pj lw) 41 0 [.val (.ref x0), .val (.int x1)] [] 0 0 H Q := cl_unf rfl
theorem w41_0 {x : Int32} {l0 : Slot} : W (pj lw) 41 0 (l0 :: .val (.int x) :: L) S k n H Q ↔ W (pj lw) 41 1 (l0 :: .val (.int x) :: L) (.int x :: S) k n H Q := W_s (rfl : (pj lw).1 41 0 = some (.iload_n 1, 1, 0)) rfl rfl rfl
theorem w41_1 : W (pj lw) 41 1 L S k n H Q ↔ W (pj lw) 41 3 L (.int (-1000000) :: S) k n H Q := W_s (rfl : (pj lw).1 41 1 = some (.ldc 151, 2, (-1000000))) rfl rfl rfl
theorem w41_3 {x y : Int32} : W (pj lw) 41 3 L (.int y :: .int x :: S) k n H Q ↔ (if x < y then W (pj lw) 41 6 L S k n H Q else W (pj lw) 41 9 L S k n H Q) := W_icmp_ge (rfl : (pj lw).1 41 3 = some (.if_icmp .ge 6, 3, 0)) rfl
theorem w41_6 : W (pj lw) 41 6 L S k n H Q ↔ W (pj lw) 41 8 L (.int (-1000000) :: S) k n H Q := W_s (rfl : (pj lw).1 41 6 = some (.ldc 151, 2, (-1000000))) rfl rfl rfl
theorem w41_8 {x : Int32} : W (pj lw) 41 8 L (.int x :: S) k n H Q ↔ Q (some (.int x)) H := W_r (rfl : (pj lw).1 41 8 = some (.ireturn, 1, 0)) rfl
theorem w41_9 {x : Int32} {l0 : Slot} : W (pj lw) 41 9 (l0 :: .val (.int x) :: L) S k n H Q ↔ W (pj lw) 41 10 (l0 :: .val (.int x) :: L) (.int x :: S) k n H Q := W_s (rfl : (pj lw).1 41 9 = some (.iload_n 1, 1, 0)) rfl rfl rfl
theorem w41_10 : W (pj lw) 41 10 L S k n H Q ↔ W (pj lw) 41 12 L (.int 1000000 :: S) k n H Q := W_s (rfl : (pj lw).1 41 10 = some (.ldc 152, 2, 1000000)) rfl rfl rfl
theorem w41_12 {x y : Int32} : W (pj lw) 41 12 L (.int y :: .int x :: S) k n H Q ↔ (if y < x then W (pj lw) 41 15 L S k n H Q else W (pj lw) 41 18 L S k n H Q) := W_icmp_le (rfl : (pj lw).1 41 12 = some (.if_icmp .le 6, 3, 0)) rfl
theorem w41_15 : W (pj lw) 41 15 L S k n H Q ↔ W (pj lw) 41 17 L (.int 1000000 :: S) k n H Q := W_s (rfl : (pj lw).1 41 15 = some (.ldc 152, 2, 1000000)) rfl rfl rfl
theorem w41_17 {x : Int32} : W (pj lw) 41 17 L (.int x :: S) k n H Q ↔ Q (some (.int x)) H := W_r (rfl : (pj lw).1 41 17 = some (.ireturn, 1, 0)) rfl
theorem w41_18 {x : Int32} {l0 : Slot} : W (pj lw) 41 18 (l0 :: .val (.int x) :: L) S k n H Q ↔ W (pj lw) 41 19 (l0 :: .val (.int x) :: L) (.int x :: S) k n H Q := W_s (rfl : (pj lw).1 41 18 = some (.iload_n 1, 1, 0)) rfl rfl rfl
theorem w41_19 {x : Int32} : W (pj lw) 41 19 L (.int x :: S) k n H Q ↔ Q (some (.int x)) H := W_r (rfl : (pj lw).1 41 19 = some (.ireturn, 1, 0)) rfl
end Pc
section A
variable {lw : LW} {H : AH} {p j : Nat} {s : St} {Q : Option Value → AH → Prop} {a b c d : Int32} {h : Nat → Cel} {k n : Nat}
def F2 (s : St) (lo : Nat) : St := fA (fA (fA (fA s 8 lo 32 0) 9 lo 32 (-1)) 10 lo 32 (-1)) 11 lo 32 0
theorem F2_nil {lo : Nat} (h : 32 ≤ lo) : F2 s lo = s := by simp only [F2, fA_nil h]
theorem F2_step {lo : Nat} (h : lo < 32) : F2 (uA (uA (uA (uA s 8 lo 0) 9 lo (-1)) 10 lo (-1)) 11 lo 0) (lo + 1) = F2 s lo := by
  refine St_ext (fun k => by simp only [F2, sI_fA, sI_uA]) (fun k => by simp only [F2, sJ_fA, sJ_uA]) (fun t' i => ?_) (fun t' i => by simp only [F2, sB_fA, sB_uA])
  simp only [F2, sA_fA, sA_uA]
  by_cases hi : i = lo
  · subst hi
    have h1 : ¬ (i + 1 ≤ i) := by omega
    simp only [h1, h, Nat.le_refl, and_true, and_false, true_and, false_and, if_false]
  · have h1 : (lo + 1 ≤ i) = (lo ≤ i) := propext ⟨fun _ => by omega, fun _ => by omega⟩
    simp only [hi, h1, and_false, if_false]
theorem l29 (m : Nat) : ∀ (i : Int32) (s : St), i.toInt = 32 - m → m ≤ 32 → (W (pj lw) 29 2 [.val (.ref p), .val (.int i)] [] k n (ob H p s) Q ↔ Q none (ob H p (F2 s i.toNatClampNeg))) := by
  induction m with
  | zero =>
    intro i s hi _
    have h1 : ¬ i < 32 := by rw [lt32]; simp only [Int32.reduceToInt]; omega
    rw [w29_2]; simp +decide only [w29_3, w29_5, w29_42, ↓reduceIte, h1]
    rw [F2_nil (by rw [cln]; omega)]
  | succ m ih =>
    intro i s hi hm
    have h1 : i < 32 := by rw [lt32]; simp only [Int32.reduceToInt]; omega
    have h2 : (i + 1).toInt = i.toInt + 1 := ia (by simp only [Int32.reduceToInt]; omega) (by simp only [Int32.reduceToInt]; omega)
    have h3 : 0 ≤ i.toInt ∧ i.toInt < 32 := by omega
    rw [w29_2]; simp +decide only [w29_3, w29_5, w29_8, w29_9, w29_12, w29_13, w29_14, w29_15, w29_16, w29_19, w29_20, w29_21, w29_22, w29_23, w29_26, w29_27, w29_28, w29_29, w29_30, w29_33, w29_34, w29_35, w29_36, w29_39, isO_put, true_and, and_true, or_true, ↓reduceIte, g8, g9, g10, g11, aw8, awn8, as8, aw9, as9, aw10, as10, aw11, as11, h1, h3]
    rw [ih (i + 1) _ (by omega) (by omega)]
    have h4 : (i + 1).toNatClampNeg = i.toNatClampNeg + 1 := by rw [cln, cln]; omega
    rw [h4, F2_step (by rw [cln]; omega)]
theorem t29 : Cl (pj lw) 29 [.ref p] (ob H p s) Q ↔ Q none (ob H p (F2 s 0)) := by
  rw [c29]; simp +decide only [w29_0, w29_1]
  rw [l29 32 0 _ (by decide) (by decide)]; simp only [Int32.reduceToNatClampNeg]
theorem l1 (m : Nat) : ∀ (i : Int32) (s : St), i.toInt = 32 - m → m ≤ 32 → (W (pj lw) 1 148 [.val (.ref p), .val (.int a), .val (.int b), .val (.int i)] [] k n (ob H p s) Q ↔ W (pj lw) 1 167 [.val (.ref p), .val (.int a), .val (.int b), .val (.int 32)] [] k n (ob H p (fA s 7 i.toNatClampNeg 32 0)) Q) := by
  induction m with
  | zero =>
    intro i s hi _
    have h1 : ¬ i < 32 := by rw [lt32]; simp only [Int32.reduceToInt]; omega
    have h0 : i = 32 := by rw [eq32]; simp only [Int32.reduceToInt]; omega
    rw [w1_148]; simp +decide only [w1_149, w1_151, ↓reduceIte, h1]
    rw [fA_nil (by rw [cln]; omega), h0]
  | succ m ih =>
    intro i s hi hm
    have h1 : i < 32 := by rw [lt32]; simp only [Int32.reduceToInt]; omega
    have h2 : (i + 1).toInt = i.toInt + 1 := ia (by simp only [Int32.reduceToInt]; omega) (by simp only [Int32.reduceToInt]; omega)
    have h3 : 0 ≤ i.toInt ∧ i.toInt < 32 := by omega
    rw [w1_148]; simp +decide only [w1_149, w1_151, w1_154, w1_155, w1_158, w1_159, w1_160, w1_161, w1_164, isO_put, true_and, and_true, ↓reduceIte, g7, aw7, as7, h1, h3]
    rw [ih (i + 1) _ (by omega) (by omega)]
    have h4 : (i + 1).toNatClampNeg = i.toNatClampNeg + 1 := by rw [cln, cln]; omega
    rw [h4, fA_step (by rw [cln]; omega)]
def ini0 (a : Int32) : St := F2 (fA (uI (uI (uJ (uI (uI (uI z0 0 (cl 2 32 a)) 12 0) 13 0) 14 0) 15 (-1)) 16 (-1)) 7 0 32 0) 0
set_option maxRecDepth 100000 in
theorem t1 : Cl (pj lw) 1 [.ref p, .int a] (put lay 0 (p + 1, h) p z0) Q ↔ Q none (ob (p + 12, h) p (ini0 a)) := by
  rw [c1]
  rcases cl3 (lo := 2) (hi := 32) a (by decide) with ⟨h1, h2⟩ | ⟨h1, h2⟩ | ⟨h1, h2⟩ <;>
  · simp +decide only [w1_0, w1_1, w1_4, w1_5, w1_8, w1_10, w1_13, w1_14, w1_17, w1_19, w1_22, w1_23, w1_26, w1_28, w1_31, w1_32, w1_35, w1_37, w1_40, w1_41, w1_44, w1_46, w1_49, w1_50, w1_53, w1_55, w1_58, w1_59, w1_61, w1_63, w1_66, w1_67, w1_69, w1_71, w1_74, w1_75, w1_77, w1_79, w1_82, w1_83, w1_85, w1_87, w1_90, w1_91, w1_93, w1_95, w1_98, w1_99, w1_100, w1_101, w1_102, w1_105, w1_106i, w1_107, w1_108, w1_110, w1_113, w1_115i, w1_116, w1_117, w1_118, w1_121, w1_122, w1_123, w1_126, w1_127, w1_128, w1_131, w1_132, w1_133, w1_136, w1_137, w1_138, w1_141, w1_142, w1_143, w1_146, w1_147, zr_z0, isOw_put, put_fst, okv_int, okv_ref, true_and, and_true, ↓reduceIte, Nat.reduceAdd, Int32.reduceAdd, Int64.reduceAdd, Nat.zero_add, s0, s12, s13, s14, s15, s16, mk1, io1, mk2, io2, mk3, io3, mk4, io4, mk5, io5, mk6, io6, mk7, io7, mk8, io8, mk9, io9, mk10, io10, mk11, io11, h1, h2]
    rw [l1 32 0 _ (by decide) (by decide)]
    simp +decide only [w1_167, w1_168, w1_171, isO_put, Option.toList_none, List.nil_append, true_and, and_true, ↓reduceIte, Int32.reduceToNatClampNeg, t29, ini0, cl, h1, h2]
theorem t41 : Cl (pj lw) 41 [.ref p, .int a] H Q ↔ Q (some (.int (cl (-1000000) 1000000 a))) H := by
  rw [c41]
  rcases cl3 (lo := -1000000) (hi := 1000000) a (by decide) with ⟨h1, h2⟩ | ⟨h1, h2⟩ | ⟨h1, h2⟩ <;> simp +decide only [w41_0, w41_1, w41_3, w41_6, w41_8, w41_9, w41_10, w41_12, w41_15, w41_17, w41_18, w41_19, ↓reduceIte, h1, h2, cl]
end A

section B
variable {lw : LW} {H : AH} {p j : Nat} {s s' : St} {Q : Option Value → AH → Prop} {a b c d e x y t : Int32} {k n : Nat}
def bz (x : Bool) : Int32 := if x = true then 1 else 0
def vv (s : St) (a : Int32) : Bool := decide (¬ a < 0 ∧ a < sI s 0 ∧ a < 32)
def vi (a : Int32) : Bool := decide (¬ a < 0 ∧ a < 128)
theorem vi_rg (h : vi a = true) : 0 ≤ a.toInt ∧ a.toInt < 128 := by
  have := of_decide_eq_true h
  rw [lt32, lt32] at this; simp only [Int32.reduceToInt] at this; omega
theorem vi_t (h : 0 ≤ a.toInt ∧ a.toInt < 128) : vi a = true := by
  refine decide_eq_true ?_
  rw [lt32, lt32]; simp only [Int32.reduceToInt]; omega
theorem vv_t (h : 0 ≤ a.toInt ∧ a.toInt < (sI s 0).toInt) (hn : (sI s 0).toInt ≤ 32) : vv s a = true := by
  refine decide_eq_true ?_
  rw [lt32, lt32, lt32]; simp only [Int32.reduceToInt]; omega
theorem vv_rg (h : vv s a = true) : (0 ≤ a.toInt ∧ a.toInt < (sI s 0).toInt) ∧ a.toInt < 32 := by
  have := of_decide_eq_true h
  rw [lt32, lt32, lt32] at this; simp only [Int32.reduceToInt] at this; omega
theorem t39 : Cl (pj lw) 39 [.ref p, .int a] (ob H p s) Q ↔ Q (some (.int (bz (vv s a)))) (ob H p s) := by
  rw [c39]; unfold vv
  by_cases e1 : a < 0
  · simp +decide only [w39_0, w39_1, w39_22, w39_23, true_and, false_and, not_true_eq_false, ↓reduceIte, e1, bz]
  · by_cases e2 : a < sI s 0
    · by_cases e3 : a < 32 <;> simp +decide only [w39_0, w39_1, w39_4, w39_5, w39_6, w39_9, w39_12, w39_13, w39_15, w39_18, w39_19, w39_22, w39_23, isO_put, true_and, and_true, and_false, not_false_eq_true, ↓reduceIte, g0, e1, e2, e3, bz]
    · simp +decide only [w39_0, w39_1, w39_4, w39_5, w39_6, w39_9, w39_22, w39_23, isO_put, true_and, false_and, and_false, not_false_eq_true, ↓reduceIte, g0, e1, e2, bz]
theorem t40 : Cl (pj lw) 40 [.ref p, .int a] H Q ↔ Q (some (.int (bz (vi a)))) H := by
  rw [c40]; unfold vi
  by_cases e1 : a < 0
  · simp +decide only [w40_0, w40_1, w40_15, w40_16, true_and, false_and, not_true_eq_false, ↓reduceIte, e1, bz]
  · by_cases e3 : a < 128 <;> simp +decide only [w40_0, w40_1, w40_4, w40_5, w40_8, w40_11, w40_12, w40_15, w40_16, true_and, and_true, and_false, not_false_eq_true, ↓reduceIte, e1, e3, bz]
def pr (s : St) (a : Int32) : Bool := vi a && decide (sA s 4 a.toNatClampNeg ≠ 0)
theorem t5 : Cl (pj lw) 5 [.ref p, .int a] (ob H p s) Q ↔ Q (some (.int (bz (pr s a)))) (ob H p s) := by
  rw [c5]; unfold pr
  cases e1 : vi a with
  | false => simp +decide only [w5_0, w5_1, w5_2, w5_5, w5_21, w5_22, isO_put, Option.toList_some, List.cons_append, List.nil_append, true_and, and_true, false_and, ↓reduceIte, ne_eq, t40, e1, bz, Bool.false_and]
  | true =>
    have h := vi_rg e1
    by_cases e2 : sA s 4 a.toNatClampNeg = 0 <;> simp +decide only [w5_0, w5_1, w5_2, w5_5, w5_8, w5_9, w5_12, w5_13, w5_14, w5_17, w5_18, w5_21, w5_22, isO_put, Option.toList_some, List.cons_append, List.nil_append, true_and, and_true, or_true, not_false_eq_true, ↓reduceIte, ne_eq, g4, ai4, ain4, ae4, ain4, t40, e1, h, e2, bz]
def tr (s : St) (a : Int32) : Bool := vi a && (decide (sA s 4 a.toNatClampNeg ≠ 0) && decide (sA s 5 a.toNatClampNeg ≠ 0))
theorem t6 : Cl (pj lw) 6 [.ref p, .int a] (ob H p s) Q ↔ Q (some (.int (bz (tr s a)))) (ob H p s) := by
  rw [c6]; unfold tr
  cases e1 : vi a with
  | false => simp +decide only [w6_0, w6_1, w6_2, w6_5, w6_30, w6_31, isO_put, Option.toList_some, List.cons_append, List.nil_append, true_and, and_true, false_and, ↓reduceIte, ne_eq, t40, e1, bz, Bool.false_and]
  | true =>
    have h := vi_rg e1
    by_cases e2 : sA s 4 a.toNatClampNeg = 0
    · simp +decide only [w6_0, w6_1, w6_2, w6_5, w6_8, w6_9, w6_12, w6_13, w6_14, w6_30, w6_31, isO_put, Option.toList_some, List.cons_append, List.nil_append, true_and, and_true, false_and, and_false, or_true, ↓reduceIte, ne_eq, g4, ai4, ain4, ae4, ain4, t40, e1, h, e2, bz, decide_false, Bool.false_and, Bool.and_false, Bool.true_and]
    · by_cases e3 : sA s 5 a.toNatClampNeg = 0 <;> simp +decide only [w6_0, w6_1, w6_2, w6_5, w6_8, w6_9, w6_12, w6_13, w6_14, w6_17, w6_18, w6_21, w6_22, w6_23, w6_26, w6_27, w6_30, w6_31, isO_put, Option.toList_some, List.cons_append, List.nil_append, true_and, and_true, or_true, not_false_eq_true, ↓reduceIte, ne_eq, g4, g5, ai4, ain4, ae4, ai5, ain5, ae5, ain4, ain5, t40, e1, h, e2, e3, bz]
theorem t7a : Cl (pj lw) 7 [.ref p, .int a, .int 0] (ob H p s) Q ↔ Q (some (.int (if pr s a = true then sA s 1 a.toNatClampNeg else -1))) (ob H p s) := by
  rw [c7]
  cases e1 : pr s a with
  | false => simp +decide only [w7_0, w7_1, w7_2, w7_5, w7_8, w7_9, isO_put, Option.toList_some, List.cons_append, List.nil_append, true_and, and_true, ↓reduceIte, t5, e1, bz]
  | true =>
    have h : 0 ≤ a.toInt ∧ a.toInt < 128 := by
      unfold pr at e1; rw [Bool.and_eq_true] at e1; exact vi_rg e1.1
    simp +decide only [w7_0, w7_1, w7_2, w7_5, w7_10, w7_11, w7_14, w7_15, w7_18, w7_19, w7_20, isO_put, Option.toList_some, List.cons_append, List.nil_append, true_and, and_true, ↓reduceIte, g1, ai1, ae1, t5, e1, h, bz]
theorem t7b : Cl (pj lw) 7 [.ref p, .int a, .int 1] (ob H p s) Q ↔ Q (some (.int (if pr s a = true then sA s 2 a.toNatClampNeg else -1))) (ob H p s) := by
  rw [c7]
  cases e1 : pr s a with
  | false => simp +decide only [w7_0, w7_1, w7_2, w7_5, w7_8, w7_9, isO_put, Option.toList_some, List.cons_append, List.nil_append, true_and, and_true, ↓reduceIte, t5, e1, bz]
  | true =>
    have h : 0 ≤ a.toInt ∧ a.toInt < 128 := by
      unfold pr at e1; rw [Bool.and_eq_true] at e1; exact vi_rg e1.1
    simp +decide only [w7_0, w7_1, w7_2, w7_5, w7_10, w7_11, w7_21, w7_22, w7_23, w7_26, w7_27, w7_30, w7_31, w7_32, isO_put, Option.toList_some, List.cons_append, List.nil_append, true_and, and_true, ↓reduceIte, g2, ai2, ae2, t5, e1, h, bz]
def ew (s : St) (a : Int32) : Int32 := if pr s a = true then sA s 3 a.toNatClampNeg else 0
theorem t8 : Cl (pj lw) 8 [.ref p, .int a] (ob H p s) Q ↔ Q (some (.int (ew s a))) (ob H p s) := by
  rw [c8]; unfold ew
  cases e1 : pr s a with
  | false => simp +decide only [w8_0, w8_1, w8_2, w8_5, w8_8, w8_9, isO_put, Option.toList_some, List.cons_append, List.nil_append, true_and, and_true, ↓reduceIte, t5, e1, bz]
  | true =>
    have h : 0 ≤ a.toInt ∧ a.toInt < 128 := by
      unfold pr at e1; rw [Bool.and_eq_true] at e1; exact vi_rg e1.1
    simp +decide only [w8_0, w8_1, w8_2, w8_5, w8_10, w8_11, w8_14, w8_15, w8_16, isO_put, Option.toList_some, List.cons_append, List.nil_append, true_and, and_true, ↓reduceIte, g3, ai3, ae3, t5, e1, h, bz]
theorem l22 {f : Nat} (hf : f < 128) (h0 : sA s 4 f = 0) (h1 : ∀ i, i < f → sA s 4 i ≠ 0) (m : Nat) : ∀ (i : Int32), i.toInt = (f : Int) - m → m ≤ f →
    (W (pj lw) 22 2 [.val (.ref p), .val (.int i)] [] k n (ob H p s) Q ↔ Q (some (.int (Int32.ofNat f))) (ob H p s)) := by
  have hF : (Int32.ofNat f).toInt = f := Int32.toInt_ofNat_of_lt (by omega)
  induction m with
  | zero =>
    intro i hi _
    have e : i = Int32.ofNat f := by rw [eq32]; omega
    have h2 : i < 128 := by rw [lt32]; simp only [Int32.reduceToInt]; omega
    have h3 : 0 ≤ i.toInt ∧ i.toInt < 128 := by omega
    have h4 : sA s 4 i.toNatClampNeg = 0 := by rw [cln, show i.toInt.toNat = f by omega]; exact h0
    rw [w22_2]; simp +decide only [w22_3, w22_6, w22_9, w22_10, w22_13, w22_14, w22_15, w22_18, w22_19, isO_put, true_and, and_true, or_true, ↓reduceIte, g4, ai4, ain4, ae4, ain4, h2, h3, h4]; rw [e]
  | succ m ih =>
    intro i hi hm
    have h2 : i < 128 := by rw [lt32]; simp only [Int32.reduceToInt]; omega
    have h3 : 0 ≤ i.toInt ∧ i.toInt < 128 := by omega
    have h4 : ¬ sA s 4 i.toNatClampNeg = 0 := by rw [cln]; exact h1 _ (by omega)
    have h5 : (i + 1).toInt = i.toInt + 1 := ia (by simp only [Int32.reduceToInt]; omega) (by simp only [Int32.reduceToInt]; omega)
    rw [w22_2]; simp +decide only [w22_3, w22_6, w22_9, w22_10, w22_13, w22_14, w22_15, w22_20, w22_23, isO_put, true_and, and_true, or_true, ↓reduceIte, g4, ai4, ain4, ae4, ain4, h2, h3, h4]
    exact ih (i + 1) (by omega) (by omega)
theorem t22 {f : Nat} (hf : f < 128) (h0 : sA s 4 f = 0) (h1 : ∀ i, i < f → sA s 4 i ≠ 0) : Cl (pj lw) 22 [.ref p] (ob H p s) Q ↔ Q (some (.int (Int32.ofNat f))) (ob H p s) := by
  rw [c22]; simp +decide only [w22_0, w22_1]
  exact l22 hf h0 h1 f 0 (by simp only [Int32.reduceToInt]; omega) (Nat.le_refl _)
def stE (s : St) (a b c d : Int32) : St := uI (uA (uA (uA (uA (uA s 1 a.toNatClampNeg b) 2 a.toNatClampNeg c) 3 a.toNatClampNeg d) 4 a.toNatClampNeg 1) 5 a.toNatClampNeg 0) 12 (sI s 12 + 1)
theorem t23 (ha : 0 ≤ a.toInt ∧ a.toInt < 128) : Cl (pj lw) 23 [.ref p, .int a, .int b, .int c, .int d] (ob H p s) Q ↔ Q none (ob H p (stE s a b c d)) := by
  rw [c23]; unfold stE; simp +decide only [w23_0, w23_1, w23_4, w23_5, w23_6, w23_7, w23_8, w23_11, w23_12, w23_13, w23_14, w23_15, w23_18, w23_19, w23_21, w23_22, w23_23, w23_26, w23_27, w23_28, w23_29, w23_30, w23_33, w23_34, w23_35, w23_36, w23_37, w23_38, w23_41, w23_42, w23_43, w23_46, isO_put, isOw_put, okv_int, sI_uA, true_and, and_true, or_true, g1, g2, g3, g4, g5, g12, s12, aw1, as1, aw2, as2, aw3, as3, aw4, awn4, as4, aw5, awn5, as5, awn4, awn5, ha]
def frS (s : St) (a : Int32) : St := uI (uA (uA s 4 a.toNatClampNeg 0) 5 a.toNatClampNeg 0) 12 (sI s 12 - 1)
theorem t24 (ha : 0 ≤ a.toInt ∧ a.toInt < 128) : Cl (pj lw) 24 [.ref p, .int a] (ob H p s) Q ↔ Q none (ob H p (frS s a)) := by
  rw [c24]; unfold frS; simp +decide only [w24_0, w24_1, w24_4, w24_5, w24_6, w24_7, w24_8, w24_11, w24_12, w24_13, w24_14, w24_15, w24_16, w24_19, w24_20, w24_21, w24_24, isO_put, isOw_put, okv_int, sI_uA, true_and, and_true, or_true, g4, g5, g12, s12, aw4, awn4, as4, aw5, awn5, as5, awn4, awn5, ha]
def stL2 (s : St) (a b : Int32) : St := uI (uI s 15 a) 16 b
theorem t21 : Cl (pj lw) 21 [.ref p, .int a, .int b] (ob H p s) Q ↔ Q none (ob H p (stL2 s a b)) := by
  rw [c21]; unfold stL2; simp +decide only [w21_0, w21_1, w21_2, w21_5, w21_6, w21_7, w21_10, isOw_put, okv_int, true_and, and_true, s15, s16]
def DG (s : St) : Prop := ∀ x, x < 32 → 0 ≤ (sA s 7 x).toInt ∧ (sA s 7 x).toInt ≤ 32
def dN (s : St) (x : Nat) : Nat := (sA s 7 x).toInt.toNat
theorem adx (hx : 0 ≤ x.toInt ∧ x.toInt < 32) (hd : 0 ≤ d.toInt ∧ d.toInt < 32) : (x * 32).toInt = x.toInt * 32 ∧ (x * 32 + d).toInt = x.toInt * 32 + d.toInt ∧ (x * 32 + d).toNatClampNeg = x.toNatClampNeg * 32 + d.toInt.toNat := by
  have h1 : (x * 32).toInt = x.toInt * 32 := im (by simp only [Int32.reduceToInt]; omega) (by simp only [Int32.reduceToInt]; omega)
  have h2 : (x * 32 + d).toInt = x.toInt * 32 + d.toInt := by rw [ia (by omega) (by omega), h1]
  exact ⟨h1, h2, by rw [cln, cln, h2]; omega⟩
def aA (s : St) (x e : Int32) : St := if (sA s 7 x.toNatClampNeg).toInt < 32 then uA (uA s 6 (x.toNatClampNeg * 32 + dN s x.toNatClampNeg) e) 7 x.toNatClampNeg (sA s 7 x.toNatClampNeg + 1) else s
theorem t27 (hx : 0 ≤ x.toInt ∧ x.toInt < 32) (hd : DG s) : Cl (pj lw) 27 [.ref p, .int x, .int e] (ob H p s) Q ↔ Q none (ob H p (aA s x e)) := by
  rw [c27]
  have h0 := hd x.toNatClampNeg (by rw [cln]; omega)
  have h1 : ¬ x < 0 := by rw [lt32]; simp only [Int32.reduceToInt]; omega
  have h2 : x < 32 := by rw [lt32]; simp only [Int32.reduceToInt]; omega
  have h3 : ¬ sA s 7 x.toNatClampNeg < 0 := by rw [lt32]; simp only [Int32.reduceToInt]; omega
  unfold aA
  by_cases e1 : sA s 7 x.toNatClampNeg < 32
  · have e2 : (sA s 7 x.toNatClampNeg).toInt < 32 := by rw [lt32] at e1; simpa only [Int32.reduceToInt] using e1
    have h4 := adx hx (d := sA s 7 x.toNatClampNeg) ⟨h0.1, e2⟩
    have h5 : 0 ≤ (x * 32 + sA s 7 x.toNatClampNeg).toInt ∧ (x * 32 + sA s 7 x.toNatClampNeg).toInt < 1024 := by omega
    have h6 : (x * 32 + sA s 7 x.toNatClampNeg).toNatClampNeg = x.toNatClampNeg * 32 + dN s x.toNatClampNeg := h4.2.2
    simp +decide only [w27_0, w27_1, w27_4, w27_5, w27_7, w27_11, w27_12, w27_15, w27_16, w27_17, w27_20, w27_21, w27_24, w27_25, w27_26, w27_28, w27_32, w27_33, w27_36, w27_37, w27_39, w27_40, w27_41, w27_44, w27_45, w27_46, w27_47, w27_48, w27_49, w27_50, w27_53, w27_54, w27_55, w27_56, w27_57, w27_58, w27_59, isO_put, sA_uA, true_and, and_true, false_and, ↓reduceIte, g6, g7, aw6, as6, ai7, aw7, ae7, as7, h1, h2, h3, e1, hx, h5, e2, h6]
  · have e2 : ¬ (sA s 7 x.toNatClampNeg).toInt < 32 := by rw [lt32] at e1; simpa only [Int32.reduceToInt] using e1
    simp +decide only [w27_0, w27_1, w27_4, w27_5, w27_7, w27_11, w27_12, w27_15, w27_16, w27_17, w27_20, w27_21, w27_24, w27_25, w27_26, w27_28, w27_31, isO_put, true_and, and_true, ↓reduceIte, g7, ai7, ae7, h1, h2, h3, e1, hx, e2]
def aR (s : St) (x : Int32) (κ : Nat) : St := uA (uA s 7 x.toNatClampNeg (sA s 7 x.toNatClampNeg - 1)) 6 (x.toNatClampNeg * 32 + κ) (sA s 6 (x.toNatClampNeg * 32 + (dN s x.toNatClampNeg - 1)))
theorem l28 (hx : 0 ≤ x.toInt ∧ x.toInt < 32) (hd : DG s) {κ : Nat} (hk : κ < dN s x.toNatClampNeg) (h0 : sA s 6 (x.toNatClampNeg * 32 + κ) = e) (h1 : ∀ i, i < κ → sA s 6 (x.toNatClampNeg * 32 + i) ≠ e) (m : Nat) : ∀ (i : Int32), i.toInt = (κ : Int) - m → m ≤ κ →
    (W (pj lw) 28 19 [.val (.ref p), .val (.int x), .val (.int e), .val (.int (x * 32)), .val (.int i)] [] k n (ob H p s) Q ↔ Q none (ob H p (aR s x κ))) := by
  have g0 := hd x.toNatClampNeg (by rw [cln]; omega)
  unfold dN at hk
  induction m with
  | zero =>
    intro i hi _
    have h2 : i < sA s 7 x.toNatClampNeg := by rw [lt32]; omega
    have h3 : i < 32 := by rw [lt32]; simp only [Int32.reduceToInt]; omega
    have h4 := adx hx (d := i) (by omega)
    have h5 : 0 ≤ (x * 32 + i).toInt ∧ (x * 32 + i).toInt < 1024 := by omega
    have h6 : (x * 32 + i).toNatClampNeg = x.toNatClampNeg * 32 + κ := by rw [h4.2.2]; omega
    have h7 : (sA s 7 x.toNatClampNeg - 1).toInt = (sA s 7 x.toNatClampNeg).toInt - 1 := isb (by simp only [Int32.reduceToInt]; omega) (by simp only [Int32.reduceToInt]; omega)
    have h8 := adx hx (d := sA s 7 x.toNatClampNeg - 1) (by omega)
    have h9 : 0 ≤ (x * 32 + (sA s 7 x.toNatClampNeg - 1)).toInt ∧ (x * 32 + (sA s 7 x.toNatClampNeg - 1)).toInt < 1024 := by omega
    have h10 : (x * 32 + (sA s 7 x.toNatClampNeg - 1)).toNatClampNeg = x.toNatClampNeg * 32 + (dN s x.toNatClampNeg - 1) := by rw [h8.2.2, h7]; unfold dN; omega
    rw [w28_19]; unfold aR; simp +decide only [w28_21, w28_22, w28_25, w28_26, w28_27, w28_30, w28_32, w28_34, w28_37, w28_38, w28_41, w28_42, w28_44, w28_45, w28_46, w28_47, w28_50, w28_51, w28_54, w28_55, w28_56, w28_57, w28_58, w28_59, w28_60, w28_61, w28_64, w28_65, w28_67, w28_68, w28_69, w28_72, w28_73, w28_74, w28_77, w28_78, w28_79, w28_80, w28_81, w28_82, isO_put, sA_uA, true_and, and_true, false_and, ↓reduceIte, g6, g7, ai6, aw6, ae6, as6, ai7, aw7, ae7, as7, h2, h3, hx, h5, h6, h0, h9, h10]
  | succ m ih =>
    intro i hi hm
    have h2 : i < sA s 7 x.toNatClampNeg := by rw [lt32]; omega
    have h3 : i < 32 := by rw [lt32]; simp only [Int32.reduceToInt]; omega
    have h4 := adx hx (d := i) (by omega)
    have h5 : 0 ≤ (x * 32 + i).toInt ∧ (x * 32 + i).toInt < 1024 := by omega
    have h6 : (x * 32 + i).toNatClampNeg = x.toNatClampNeg * 32 + i.toInt.toNat := h4.2.2
    have h7 : ¬ sA s 6 (x.toNatClampNeg * 32 + i.toInt.toNat) = e := h1 _ (by omega)
    have h8 : (i + 1).toInt = i.toInt + 1 := ia (by simp only [Int32.reduceToInt]; omega) (by simp only [Int32.reduceToInt]; omega)
    rw [w28_19]; simp +decide only [w28_21, w28_22, w28_25, w28_26, w28_27, w28_30, w28_32, w28_34, w28_37, w28_38, w28_41, w28_42, w28_44, w28_45, w28_46, w28_47, w28_83, w28_86, isO_put, true_and, and_true, ↓reduceIte, g6, g7, ai6, ae6, ai7, ae7, h2, h3, hx, h5, h6, h7]
    exact ih (i + 1) (by omega) (by omega)
theorem l28n (hx : 0 ≤ x.toInt ∧ x.toInt < 32) (hd : DG s) (h1 : ∀ i, i < dN s x.toNatClampNeg → sA s 6 (x.toNatClampNeg * 32 + i) ≠ e) (m : Nat) : ∀ (i : Int32), i.toInt = (dN s x.toNatClampNeg : Int) - m → m ≤ dN s x.toNatClampNeg →
    (W (pj lw) 28 19 [.val (.ref p), .val (.int x), .val (.int e), .val (.int (x * 32)), .val (.int i)] [] k n (ob H p s) Q ↔ Q none (ob H p s)) := by
  have g0 := hd x.toNatClampNeg (by rw [cln]; omega)
  unfold dN at *
  induction m with
  | zero =>
    intro i hi _
    have h2 : ¬ i < sA s 7 x.toNatClampNeg := by rw [lt32]; omega
    rw [w28_19]; simp +decide only [w28_21, w28_22, w28_25, w28_26, w28_27, w28_89, isO_put, true_and, and_true, ↓reduceIte, g7, ai7, ae7, h2, hx]
  | succ m ih =>
    intro i hi hm
    have h2 : i < sA s 7 x.toNatClampNeg := by rw [lt32]; omega
    have h3 : i < 32 := by rw [lt32]; simp only [Int32.reduceToInt]; omega
    have h4 := adx hx (d := i) (by omega)
    have h5 : 0 ≤ (x * 32 + i).toInt ∧ (x * 32 + i).toInt < 1024 := by omega
    have h6 : (x * 32 + i).toNatClampNeg = x.toNatClampNeg * 32 + i.toInt.toNat := h4.2.2
    have h7 : ¬ sA s 6 (x.toNatClampNeg * 32 + i.toInt.toNat) = e := h1 _ (by omega)
    have h8 : (i + 1).toInt = i.toInt + 1 := ia (by simp only [Int32.reduceToInt]; omega) (by simp only [Int32.reduceToInt]; omega)
    rw [w28_19]; simp +decide only [w28_21, w28_22, w28_25, w28_26, w28_27, w28_30, w28_32, w28_34, w28_37, w28_38, w28_41, w28_42, w28_44, w28_45, w28_46, w28_47, w28_83, w28_86, isO_put, true_and, and_true, ↓reduceIte, g6, g7, ai6, ae6, ai7, ae7, h2, h3, hx, h5, h6, h7]
    exact ih (i + 1) (by omega) (by omega)
def fnd (s : St) (x : Nat) (e : Int32) : Nat → Nat → Option Nat
  | _, 0 => none
  | j, m + 1 => if sA s 6 (x * 32 + j) = e then some j else fnd s x e (j + 1) m
theorem fnd_some {X : Nat} : ∀ (m j : Nat) {κ : Nat}, fnd s X e j m = some κ → (j ≤ κ ∧ κ < j + m) ∧ sA s 6 (X * 32 + κ) = e ∧ ∀ i, j ≤ i → i < κ → sA s 6 (X * 32 + i) ≠ e
  | 0, j, κ, h => by cases h
  | m + 1, j, κ, h => by
    unfold fnd at h
    by_cases g : sA s 6 (X * 32 + j) = e
    · rw [if_pos g] at h; cases h; exact ⟨by omega, g, fun i h1 h2 => by omega⟩
    · rw [if_neg g] at h
      have := fnd_some m (j + 1) h
      refine ⟨by omega, this.2.1, fun i h1 h2 => ?_⟩
      by_cases q : i = j
      · subst q; exact g
      · exact this.2.2 i (by omega) h2
theorem fnd_none {X : Nat} : ∀ (m j : Nat), fnd s X e j m = none → ∀ i, j ≤ i → i < j + m → sA s 6 (X * 32 + i) ≠ e
  | 0, j, h, i, h1, h2 => by omega
  | m + 1, j, h, i, h1, h2 => by
    unfold fnd at h
    by_cases g : sA s 6 (X * 32 + j) = e
    · rw [if_pos g] at h; cases h
    · rw [if_neg g] at h
      by_cases q : i = j
      · subst q; exact g
      · exact fnd_none m (j + 1) h i (by omega) (by omega)
def rA (s : St) (x e : Int32) : St := match fnd s x.toNatClampNeg e 0 (dN s x.toNatClampNeg) with
  | none => s
  | some κ => aR s x κ
theorem t28 (hx : 0 ≤ x.toInt ∧ x.toInt < 32) (hd : DG s) : Cl (pj lw) 28 [.ref p, .int x, .int e] (ob H p s) Q ↔ Q none (ob H p (rA s x e)) := by
  rw [c28]
  have h1 : ¬ x < 0 := by rw [lt32]; simp only [Int32.reduceToInt]; omega
  have h2 : x < 32 := by rw [lt32]; simp only [Int32.reduceToInt]; omega
  simp +decide only [w28_0, w28_1, w28_4, w28_5, w28_7, w28_11, w28_12, w28_14, w28_15, w28_16, w28_17, ↓reduceIte, h1, h2]
  unfold rA
  cases g : fnd s x.toNatClampNeg e 0 (dN s x.toNatClampNeg) with
  | none =>
    exact l28n hx hd (fun i hi => fnd_none _ _ g i (Nat.zero_le _) (by omega)) (dN s x.toNatClampNeg) 0 (by simp only [Int32.reduceToInt]; omega) (Nat.le_refl _)
  | some κ =>
    have r := fnd_some _ _ g
    exact l28 hx hd (by omega) r.2.1 (fun i hi => r.2.2 i (Nat.zero_le _) hi) κ 0 (by simp only [Int32.reduceToInt]; omega) (Nat.le_refl _)
end B

section C
variable {lw : LW} {H : AH} {p j : Nat} {s s' s1 s2 : St} {Q : Option Value → AH → Prop} {a b c d e x y t : Int32} {k n : Nat}
def oE (s : St) (e x : Int32) : Int32 := if sA s 1 e.toNatClampNeg = x then sA s 2 e.toNatClampNeg else if sA s 2 e.toNatClampNeg = x then sA s 1 e.toNatClampNeg else -1
theorem t35 (he : 0 ≤ e.toInt ∧ e.toInt < 128) : Cl (pj lw) 35 [.ref p, .int e, .int x] (ob H p s) Q ↔ Q (some (.int (oE s e x))) (ob H p s) := by
  rw [c35]; unfold oE
  by_cases e1 : sA s 1 e.toNatClampNeg = x
  · simp +decide only [w35_0, w35_1, w35_4, w35_5, w35_6, w35_7, w35_10, w35_11, w35_14, w35_15, w35_16, isO_put, true_and, and_true, ↓reduceIte, g1, g2, ai1, ae1, ai2, ae2, he, e1]
  · by_cases e2 : sA s 2 e.toNatClampNeg = x <;> simp +decide only [w35_0, w35_1, w35_4, w35_5, w35_6, w35_7, w35_17, w35_18, w35_21, w35_22, w35_23, w35_24, w35_27, w35_28, w35_31, w35_32, w35_33, w35_34, w35_35, isO_put, true_and, and_true, ↓reduceIte, g1, g2, ai1, ae1, ai2, ae2, he, e1, e2]
def pc (s : St) (a b : Int32) : Bool := if sA s 3 a.toNatClampNeg = sA s 3 b.toNatClampNeg then decide (a < b) else decide (sA s 3 a.toNatClampNeg < sA s 3 b.toNatClampNeg)
theorem t36 (ha : 0 ≤ a.toInt ∧ a.toInt < 128) (hb : 0 ≤ b.toInt ∧ b.toInt < 128) : Cl (pj lw) 36 [.ref p, .int a, .int b] (ob H p s) Q ↔ Q (some (.int (bz (pc s a b)))) (ob H p s) := by
  rw [c36]; unfold pc
  by_cases e1 : sA s 3 a.toNatClampNeg = sA s 3 b.toNatClampNeg
  · by_cases e2 : a < b <;> simp +decide only [w36_0, w36_1, w36_4, w36_5, w36_6, w36_7, w36_10, w36_11, w36_12, w36_36, w36_37, w36_38, w36_41, w36_42, w36_45, w36_46, isO_put, true_and, and_true, ↓reduceIte, g3, ai3, ae3, ha, hb, e1, e2, bz]
  · by_cases e2 : sA s 3 a.toNatClampNeg < sA s 3 b.toNatClampNeg <;> simp +decide only [w36_0, w36_1, w36_4, w36_5, w36_6, w36_7, w36_10, w36_11, w36_12, w36_15, w36_16, w36_19, w36_20, w36_21, w36_22, w36_25, w36_26, w36_27, w36_30, w36_31, w36_34, w36_35, isO_put, true_and, and_true, ↓reduceIte, g3, ai3, ae3, ha, hb, e1, e2, bz]
def nv (a : Int32) : Prop := a = -1 ∨ (0 ≤ a.toInt ∧ a.toInt < 128)
def lgt (s : St) (a b : Int32) : Int32 := if a = -1 then b else if b = -1 then a else if pc s a b = true then a else b
theorem t37 (ha : nv a) (hb : nv b) : Cl (pj lw) 37 [.ref p, .int a, .int b] (ob H p s) Q ↔ Q (some (.int (lgt s a b))) (ob H p s) := by
  rw [c37]; unfold lgt
  by_cases e1 : a = -1
  · simp +decide only [w37_0, w37_1, w37_2, w37_5, w37_6, ↓reduceIte, e1]
  · by_cases e2 : b = -1
    · simp +decide only [w37_0, w37_1, w37_2, w37_7, w37_8, w37_9, w37_12, w37_13, ↓reduceIte, e1, e2]
    · have q1 := ha.resolve_left e1
      have q2 := hb.resolve_left e2
      have q := fun Q => t36 (lw := lw) (H := H) (p := p) (s := s) (Q := Q) q1 q2
      cases e3 : pc s a b <;> simp +decide only [w37_0, w37_1, w37_2, w37_7, w37_8, w37_9, w37_14, w37_15, w37_16, w37_17, w37_20, w37_23, w37_24, w37_25, w37_26, isO_put, Option.toList_some, List.cons_append, List.nil_append, true_and, and_true, ↓reduceIte, e1, e2, q, e3, bz]
theorem lgt_nv (ha : nv a) (hb : nv b) : nv (lgt s a b) := by
  unfold lgt; split
  · exact hb
  · split
    · exact ha
    · split
      · exact ha
      · exact hb
def hvy (s : St) (a b : Int32) : Int32 := if a = -1 then b else if b = -1 then a else if pc s a b = true then b else a
theorem t38 (ha : nv a) (hb : nv b) : Cl (pj lw) 38 [.ref p, .int a, .int b] (ob H p s) Q ↔ Q (some (.int (hvy s a b))) (ob H p s) := by
  rw [c38]; unfold hvy
  by_cases e1 : a = -1
  · simp +decide only [w38_0, w38_1, w38_2, w38_5, w38_6, ↓reduceIte, e1]
  · by_cases e2 : b = -1
    · simp +decide only [w38_0, w38_1, w38_2, w38_7, w38_8, w38_9, w38_12, w38_13, ↓reduceIte, e1, e2]
    · have q1 := ha.resolve_left e1
      have q2 := hb.resolve_left e2
      have q := fun Q => t36 (lw := lw) (H := H) (p := p) (s := s) (Q := Q) q1 q2
      cases e3 : pc s a b <;> simp +decide only [w38_0, w38_1, w38_2, w38_7, w38_8, w38_9, w38_14, w38_15, w38_16, w38_17, w38_20, w38_23, w38_24, w38_25, w38_26, isO_put, Option.toList_some, List.cons_append, List.nil_append, true_and, and_true, ↓reduceIte, e1, e2, q, e3, bz]
theorem hvy_nv (ha : nv a) (hb : nv b) : nv (hvy s a b) := by
  unfold hvy; split
  · exact hb
  · split
    · exact ha
    · split
      · exact hb
      · exact ha
def cr (s : St) (e : Int32) : Bool := decide ((¬ sA s 1 e.toNatClampNeg < 0 ∧ sA s 1 e.toNatClampNeg < 32) ∧ (¬ sA s 2 e.toNatClampNeg < 0 ∧ sA s 2 e.toNatClampNeg < 32) ∧ sA s 8 (sA s 1 e.toNatClampNeg).toNatClampNeg ≠ sA s 8 (sA s 2 e.toNatClampNeg).toNatClampNeg)
theorem rn32 (h1 : ¬ a < 0) (h2 : a < 32) : 0 ≤ a.toInt ∧ a.toInt < 32 := by
  rw [lt32] at h1 h2; simp only [Int32.reduceToInt] at h1 h2; omega
theorem t34 (he : 0 ≤ e.toInt ∧ e.toInt < 128) : Cl (pj lw) 34 [.ref p, .int e] (ob H p s) Q ↔ Q (some (.int (bz (cr s e)))) (ob H p s) := by
  rw [c34]; unfold cr
  by_cases e1 : sA s 1 e.toNatClampNeg < 0
  · simp +decide only [w34_0, w34_1, w34_4, w34_5, w34_6, w34_7, w34_8, w34_11, w34_12, w34_13, w34_14, w34_15, w34_34, w34_35, isO_put, true_and, and_true, false_and, not_true_eq_false, ↓reduceIte, ne_eq, g1, g2, ai1, ae1, ai2, ae2, he, e1, bz]
  · by_cases e2 : sA s 1 e.toNatClampNeg < 32
    · by_cases e3 : sA s 2 e.toNatClampNeg < 0
      · simp +decide only [w34_0, w34_1, w34_4, w34_5, w34_6, w34_7, w34_8, w34_11, w34_12, w34_13, w34_14, w34_15, w34_18, w34_19, w34_21, w34_24, w34_25, w34_34, w34_35, isO_put, true_and, and_true, false_and, and_false, not_true_eq_false, not_false_eq_true, ↓reduceIte, ne_eq, g1, g2, ai1, ae1, ai2, ae2, he, e1, e2, e3, bz]
      · by_cases e4 : sA s 2 e.toNatClampNeg < 32
        · have q1 := rn32 e1 e2
          have q2 := rn32 e3 e4
          by_cases e5 : sA s 8 (sA s 1 e.toNatClampNeg).toNatClampNeg = sA s 8 (sA s 2 e.toNatClampNeg).toNatClampNeg <;>
          simp +decide only [w34_0, w34_1, w34_4, w34_5, w34_6, w34_7, w34_8, w34_11, w34_12, w34_13, w34_14, w34_15, w34_18, w34_19, w34_21, w34_24, w34_25, w34_28, w34_29, w34_31, w34_36, w34_37, w34_40, w34_41, w34_42, w34_43, w34_46, w34_47, w34_48, w34_51, w34_52, w34_55, w34_56, isO_put, true_and, and_true, and_false, or_true, not_true_eq_false, not_false_eq_true, ↓reduceIte, ne_eq, g1, g2, g8, ai1, ae1, ai2, ae2, ai8, ain8, ae8, ain8, he, e1, e2, e3, e4, q1, q2, e5, bz]
        · simp +decide only [w34_0, w34_1, w34_4, w34_5, w34_6, w34_7, w34_8, w34_11, w34_12, w34_13, w34_14, w34_15, w34_18, w34_19, w34_21, w34_24, w34_25, w34_28, w34_29, w34_31, w34_34, w34_35, isO_put, true_and, and_true, false_and, and_false, not_false_eq_true, ↓reduceIte, ne_eq, g1, g2, ai1, ae1, ai2, ae2, he, e1, e2, e3, e4, bz]
    · simp +decide only [w34_0, w34_1, w34_4, w34_5, w34_6, w34_7, w34_8, w34_11, w34_12, w34_13, w34_14, w34_15, w34_18, w34_19, w34_21, w34_34, w34_35, isO_put, true_and, and_true, false_and, and_false, not_false_eq_true, ↓reduceIte, ne_eq, g1, g2, ai1, ae1, ai2, ae2, he, e1, e2, bz]
def vs1 (s : St) (x ex e t : Int32) : St × Int32 :=
  if e = ex ∨ vi e = false then (s, t) else
  if oE s e x < 0 ∨ ¬ oE s e x < 32 ∨ ¬ sA s 8 (oE s e x).toNatClampNeg = 0 ∨ ¬ t < 32 then (s, t) else
  (uA (uA (uA (uA s 8 (oE s e x).toNatClampNeg 1) 9 (oE s e x).toNatClampNeg e) 10 (oE s e x).toNatClampNeg x) 11 t.toNatClampNeg (oE s e x), t + 1)
def vsF (x ex : Int32) : Nat → Nat → St × Int32 → St × Int32
  | _, 0, q => q
  | j, m + 1, q => vsF x ex (j + 1) m (vs1 q.1 x ex (sA q.1 6 (x.toNatClampNeg * 32 + j)) q.2)
theorem sAn {t t' i : Nat} {v : Int32} (h : t' ≠ t) : sA (uA s t i v) t' = sA s t' := by funext z; rw [sA_uA, if_neg (fun q => h q.1)]
def Sr (s s' : St) : Prop := (∀ x, sI s' x = sI s x) ∧ (∀ x, sJ s' x = sJ s x) ∧ (∀ t, t ≠ 8 → t ≠ 9 → t ≠ 10 → t ≠ 11 → sA s' t = sA s t) ∧ ∀ t i, sB s' t i = sB s t i
theorem Sr.refl : Sr s s := ⟨fun _ => rfl, fun _ => rfl, fun _ _ _ _ _ => rfl, fun _ _ => rfl⟩
theorem Sr.trans (h : Sr s s1) (g : Sr s1 s2) : Sr s s2 := ⟨fun x => (g.1 x).trans (h.1 x), fun x => (g.2.1 x).trans (h.2.1 x), fun t h1 h2 h3 h4 => (g.2.2.1 t h1 h2 h3 h4).trans (h.2.2.1 t h1 h2 h3 h4), fun t i => (g.2.2.2 t i).trans (h.2.2.2 t i)⟩
theorem Sr_uA {t i : Nat} {v : Int32} (ht : t = 8 ∨ t = 9 ∨ t = 10 ∨ t = 11) : Sr s (uA s t i v) := ⟨fun _ => sI_uA, fun _ => sJ_uA, fun t' h1 h2 h3 h4 => sAn (by omega), fun _ _ => sB_uA⟩
theorem vs1_Sr {ex : Int32} : Sr s (vs1 s x ex e t).1 := by
  unfold vs1; split
  · exact Sr.refl
  · split
    · exact Sr.refl
    · exact (Sr_uA (by simp)).trans ((Sr_uA (by simp)).trans ((Sr_uA (by simp)).trans (Sr_uA (by simp))))
theorem vsF_Sr {ex : Int32} : ∀ (m j : Nat) (q : St × Int32), Sr q.1 (vsF x ex j m q).1
  | 0, j, q => Sr.refl
  | m + 1, j, q => by unfold vsF; exact vs1_Sr.trans (vsF_Sr m (j + 1) _)
theorem vs1_t {ex : Int32} (h : 0 ≤ t.toInt ∧ t.toInt ≤ 32) : 0 ≤ (vs1 s x ex e t).2.toInt ∧ (vs1 s x ex e t).2.toInt ≤ 32 := by
  unfold vs1; split
  · exact h
  · split
    · exact h
    · rename_i q
      have q' : t < 32 := Decidable.byContradiction fun w => q (Or.inr (Or.inr (Or.inr w)))
      rw [lt32] at q'; simp only [Int32.reduceToInt] at q'
      have h5 : (t + 1).toInt = t.toInt + 1 := ia (by simp only [Int32.reduceToInt]; omega) (by simp only [Int32.reduceToInt]; omega)
      show 0 ≤ (t + 1).toInt ∧ (t + 1).toInt ≤ 32; omega
theorem vsF_t {ex : Int32} : ∀ (m j : Nat) (q : St × Int32), (0 ≤ q.2.toInt ∧ q.2.toInt ≤ 32) → 0 ≤ (vsF x ex j m q).2.toInt ∧ (vsF x ex j m q).2.toInt ≤ 32
  | 0, j, q, h => h
  | m + 1, j, q, h => by unfold vsF; exact vsF_t m (j + 1) _ (vs1_t h)
theorem DG.of (h : DG s) (g : Sr s s') : DG s' := by unfold DG; rw [g.2.2.1 7 (by decide) (by decide) (by decide) (by decide)]; exact h
set_option maxRecDepth 100000 in
theorem l31 {ex : Int32} (hx : 0 ≤ x.toInt ∧ x.toInt < 32) (m : Nat) : ∀ (i t : Int32) (s : St), DG s → i.toInt = (dN s x.toNatClampNeg : Int) - m → m ≤ dN s x.toNatClampNeg → (0 ≤ t.toInt ∧ t.toInt ≤ 32) →
    Q (some (.int (vsF x ex i.toNatClampNeg m (s, t)).2)) (ob H p (vsF x ex i.toNatClampNeg m (s, t)).1) →
    W (pj lw) 31 25 [.val (.ref p), .val (.int x), .val (.int ex), .val (.int c), .val (.int t), .val (.int (x * 32)), .val (.int i), .unset, .unset] [] k n (ob H p s) Q := by
  induction m with
  | zero =>
    intro i t s hd hi _ ht hq
    have g0 := hd x.toNatClampNeg (by rw [cln]; omega)
    have h2 : ¬ i < sA s 7 x.toNatClampNeg := by unfold dN at hi; rw [lt32]; omega
    rw [w31_25]; simp +decide only [w31_27, w31_28, w31_31, w31_32, w31_33, w31_157, w31_159, isO_put, true_and, and_true, ↓reduceIte, g7, ai7, ae7, h2, hx]
    exact hq
  | succ m ih =>
    intro i t s hd hi hm ht hq
    have g0 := hd x.toNatClampNeg (by rw [cln]; omega)
    have hi' := hi
    have hm' := hm
    unfold dN at hi' hm'
    have h2 : i < sA s 7 x.toNatClampNeg := by rw [lt32]; omega
    have h3 : i < 32 := by rw [lt32]; simp only [Int32.reduceToInt]; omega
    have h4 := adx hx (d := i) (by omega)
    have h5 : 0 ≤ (x * 32 + i).toInt ∧ (x * 32 + i).toInt < 1024 := by omega
    have h6 : (x * 32 + i).toNatClampNeg = x.toNatClampNeg * 32 + i.toNatClampNeg := h4.2.2
    have h8 : (i + 1).toInt = i.toInt + 1 := ia (by simp only [Int32.reduceToInt]; omega) (by simp only [Int32.reduceToInt]; omega)
    have h9 : (i + 1).toNatClampNeg = i.toNatClampNeg + 1 := by rw [cln, cln]; omega
    unfold vsF at hq
    have key := ih (i + 1) (vs1 s x ex (sA s 6 (x.toNatClampNeg * 32 + i.toNatClampNeg)) t).2 (vs1 s x ex (sA s 6 (x.toNatClampNeg * 32 + i.toNatClampNeg)) t).1 (hd.of vs1_Sr)
      (by have := vs1_Sr (s := s) (x := x) (ex := ex) (e := sA s 6 (x.toNatClampNeg * 32 + i.toNatClampNeg)) (t := t)
          unfold dN; rw [this.2.2.1 7 (by decide) (by decide) (by decide) (by decide)]; omega)
      (by have := vs1_Sr (s := s) (x := x) (ex := ex) (e := sA s 6 (x.toNatClampNeg * 32 + i.toNatClampNeg)) (t := t)
          unfold dN; rw [this.2.2.1 7 (by decide) (by decide) (by decide) (by decide)]; omega)
      (vs1_t ht) (by rw [h9]; exact hq)
    clear hq ih
    rw [w31_25]
    by_cases e1 : sA s 6 (x.toNatClampNeg * 32 + i.toNatClampNeg) = ex
    · unfold vs1 at key; rw [if_pos (Or.inl e1)] at key
      simp +decide only [w31_27, w31_28, w31_31, w31_32, w31_33, w31_36, w31_38, w31_40, w31_43, w31_44, w31_47, w31_49, w31_51, w31_52, w31_53, w31_55, w31_57, w31_58, w31_151, w31_154, isO_put, true_and, and_true, ↓reduceIte, g6, g7, ai6, ae6, ai7, ae7, h2, h3, hx, h5, h6, e1]
      refine W_fa 7 rfl ?_
      exact key
    · cases e2 : vi (sA s 6 (x.toNatClampNeg * 32 + i.toNatClampNeg)) with
      | false =>
        unfold vs1 at key; rw [if_pos (Or.inr e2)] at key
        simp +decide only [w31_27, w31_28, w31_31, w31_32, w31_33, w31_36, w31_38, w31_40, w31_43, w31_44, w31_47, w31_49, w31_51, w31_52, w31_53, w31_55, w31_57, w31_58, w31_61, w31_62, w31_64, w31_67, w31_70, w31_151, w31_154, isO_put, Option.toList_some, List.cons_append, List.nil_append, true_and, and_true, ↓reduceIte, g6, g7, ai6, ae6, ai7, ae7, h2, h3, hx, h5, h6, e1, t40, e2, bz]
        refine W_fa 7 rfl ?_
        exact key
      | true =>
        have r := vi_rg e2
        have q := fun Q => t35 (lw := lw) (H := H) (p := p) (s := s) (x := x) (Q := Q) r
        unfold vs1 at key; rw [if_neg (by rw [e2]; simp [e1])] at key
        generalize he : sA s 6 (x.toNatClampNeg * 32 + i.toNatClampNeg) = e at *
        by_cases e3 : oE s e x < 0
        · rw [if_pos (Or.inl e3)] at key
          simp +decide only [w31_27, w31_28, w31_31, w31_32, w31_33, w31_36, w31_38, w31_40, w31_43, w31_44, w31_47, w31_49, w31_51, w31_52, w31_53, w31_55, w31_57, w31_58, w31_61, w31_62, w31_64, w31_67, w31_73, w31_74, w31_76, w31_77, w31_80, w31_82, w31_84, w31_151, w31_154, isO_put, Option.toList_some, List.cons_append, List.nil_append, true_and, and_true, ↓reduceIte, g6, g7, ai6, ae6, ai7, ae7, h2, h3, hx, h5, h6, he, e1, t40, e2, bz, q, e3]
          refine W_fa 7 rfl ?_
          exact key
        · by_cases e4 : oE s e x < 32
          · have r2 := rn32 e3 e4
            by_cases e5 : sA s 8 (oE s e x).toNatClampNeg = 0
            · by_cases e6 : t < 32
              · rw [if_neg (by simp [e3, e4, e5, e6])] at key
                have r3 : 0 ≤ t.toInt ∧ t.toInt < 32 := by rw [lt32] at e6; simp only [Int32.reduceToInt] at e6; omega
                simp +decide only [w31_27, w31_28, w31_31, w31_32, w31_33, w31_36, w31_38, w31_40, w31_43, w31_44, w31_47, w31_49, w31_51, w31_52, w31_53, w31_55, w31_57, w31_58, w31_61, w31_62, w31_64, w31_67, w31_73, w31_74, w31_76, w31_77, w31_80, w31_82, w31_84, w31_87, w31_89, w31_91, w31_94, w31_95, w31_98, w31_100, w31_101, w31_104, w31_106, w31_108, w31_114, w31_115, w31_118, w31_120, w31_121, w31_122, w31_123, w31_126, w31_128, w31_130, w31_131, w31_132, w31_135, w31_137, w31_138, w31_139, w31_140, w31_143, w31_145, w31_147, w31_148, w31_151, w31_154, isO_put, Option.toList_some, List.cons_append, List.nil_append, true_and, and_true, or_true, ↓reduceIte, g6, g7, g8, g9, g10, g11, ai6, ae6, ai7, ae7, ai8, aw8, ain8, awn8, ae8, as8, aw9, as9, aw10, as10, aw11, as11, ain8, awn8, h2, h3, hx, h5, h6, he, e1, t40, e2, bz, q, e3, e4, r2, e5, e6, r3]
                refine W_fa 7 rfl ?_
                exact key
              · rw [if_pos (Or.inr (Or.inr (Or.inr e6)))] at key
                simp +decide only [w31_27, w31_28, w31_31, w31_32, w31_33, w31_36, w31_38, w31_40, w31_43, w31_44, w31_47, w31_49, w31_51, w31_52, w31_53, w31_55, w31_57, w31_58, w31_61, w31_62, w31_64, w31_67, w31_73, w31_74, w31_76, w31_77, w31_80, w31_82, w31_84, w31_87, w31_89, w31_91, w31_94, w31_95, w31_98, w31_100, w31_101, w31_104, w31_106, w31_108, w31_111, w31_151, w31_154, isO_put, Option.toList_some, List.cons_append, List.nil_append, true_and, and_true, or_true, ↓reduceIte, g6, g7, g8, ai6, ae6, ai7, ae7, ai8, ain8, ae8, ain8, h2, h3, hx, h5, h6, he, e1, t40, e2, bz, q, e3, e4, r2, e5, e6]
                refine W_fa 7 rfl ?_
                exact key
            · rw [if_pos (Or.inr (Or.inr (Or.inl e5)))] at key
              simp +decide only [w31_27, w31_28, w31_31, w31_32, w31_33, w31_36, w31_38, w31_40, w31_43, w31_44, w31_47, w31_49, w31_51, w31_52, w31_53, w31_55, w31_57, w31_58, w31_61, w31_62, w31_64, w31_67, w31_73, w31_74, w31_76, w31_77, w31_80, w31_82, w31_84, w31_87, w31_89, w31_91, w31_94, w31_95, w31_98, w31_100, w31_101, w31_151, w31_154, isO_put, Option.toList_some, List.cons_append, List.nil_append, true_and, and_true, or_true, ↓reduceIte, g6, g7, g8, ai6, ae6, ai7, ae7, ai8, ain8, ae8, ain8, h2, h3, hx, h5, h6, he, e1, t40, e2, bz, q, e3, e4, r2, e5]
              refine W_fa 7 rfl ?_
              exact key
          · rw [if_pos (Or.inr (Or.inl e4))] at key
            simp +decide only [w31_27, w31_28, w31_31, w31_32, w31_33, w31_36, w31_38, w31_40, w31_43, w31_44, w31_47, w31_49, w31_51, w31_52, w31_53, w31_55, w31_57, w31_58, w31_61, w31_62, w31_64, w31_67, w31_73, w31_74, w31_76, w31_77, w31_80, w31_82, w31_84, w31_87, w31_89, w31_91, w31_151, w31_154, isO_put, Option.toList_some, List.cons_append, List.nil_append, true_and, and_true, ↓reduceIte, g6, g7, ai6, ae6, ai7, ae7, h2, h3, hx, h5, h6, he, e1, t40, e2, bz, q, e3, e4]
            refine W_fa 7 rfl ?_
            exact key
def vis (q : St × Int32) (x ex : Int32) : St × Int32 := if x < 0 ∨ ¬ x < 32 then q else vsF x ex 0 (dN q.1 x.toNatClampNeg) q
theorem t31 {ex : Int32} (hd : DG s) (ht : 0 ≤ t.toInt ∧ t.toInt ≤ 32) (hq : Q (some (.int (vis (s, t) x ex).2)) (ob H p (vis (s, t) x ex).1)) : Cl (pj lw) 31 [.ref p, .int x, .int ex, .int t] (ob H p s) Q := by
  rw [c31]
  unfold vis at hq
  by_cases e1 : x < 0
  · rw [if_pos (Or.inl e1)] at hq
    simp +decide only [w31_0, w31_1, w31_3, w31_4, w31_13, w31_15, ↓reduceIte, e1]; exact hq
  · by_cases e2 : x < 32
    · rw [if_neg (by simp [e1, e2])] at hq
      simp +decide only [w31_0, w31_1, w31_3, w31_4, w31_7, w31_8, w31_10, w31_16, w31_17, w31_19, w31_20, w31_22, w31_23, ↓reduceIte, e1, e2]
      exact l31 (rn32 e1 e2) _ 0 t s hd (by simp only [Int32.reduceToInt]; omega) (Nat.le_refl _) ht hq
    · rw [if_pos (Or.inr e2)] at hq
      simp +decide only [w31_0, w31_1, w31_3, w31_4, w31_7, w31_8, w31_10, w31_13, w31_15, ↓reduceIte, e1, e2]; exact hq
theorem vis_Sr {ex : Int32} {q : St × Int32} : Sr q.1 (vis q x ex).1 := by
  unfold vis; split
  · exact Sr.refl
  · exact vsF_Sr _ _ _
theorem vis_t {ex : Int32} {q : St × Int32} (h : 0 ≤ q.2.toInt ∧ q.2.toInt ≤ 32) : 0 ≤ (vis q x ex).2.toInt ∧ (vis q x ex).2.toInt ≤ 32 := by
  unfold vis; split
  · exact h
  · exact vsF_t _ _ _ h
def exF (ex : Int32) : Nat → Nat → St × Int32 → St × Int32
  | _, 0, q => q
  | h, m + 1, q => if (h : Int) < q.2.toInt then exF ex (h + 1) m (vis q (sA q.1 11 h) ex) else q
theorem exF_Sr {ex : Int32} : ∀ (m h : Nat) (q : St × Int32), Sr q.1 (exF ex h m q).1
  | 0, h, q => Sr.refl
  | m + 1, h, q => by
    unfold exF; split
    · exact vis_Sr.trans (exF_Sr m (h + 1) _)
    · exact Sr.refl
theorem l30 {ex : Int32} (m : Nat) : ∀ (i t : Int32) (s : St), DG s → i.toInt = 32 - m → m ≤ 32 → (0 ≤ t.toInt ∧ t.toInt ≤ 32) →
    Q (some (.int (exF ex i.toNatClampNeg m (s, t)).2)) (ob H p (exF ex i.toNatClampNeg m (s, t)).1) →
    W (pj lw) 30 33 [.val (.ref p), .val (.int a), .val (.int ex), .val (.int t), .val (.int i)] [] k n (ob H p s) Q := by
  induction m with
  | zero =>
    intro i t s hd hi _ ht hq
    have h1 : ¬ i < t := by rw [lt32]; omega
    rw [w30_33]; simp +decide only [w30_35, w30_36, w30_66, w30_67, ↓reduceIte, h1]
    exact hq
  | succ m ih =>
    intro i t s hd hi hm ht hq
    unfold exF at hq
    by_cases e1 : i < t
    · have e2 := e1
      rw [lt32] at e2
      rw [if_pos (by show ((i.toNatClampNeg : Nat) : Int) < t.toInt; rw [cln]; omega)] at hq
      have h3 : i < 32 := by rw [lt32]; simp only [Int32.reduceToInt]; omega
      have h4 : 0 ≤ i.toInt ∧ i.toInt < 32 := by omega
      have h8 : (i + 1).toInt = i.toInt + 1 := ia (by simp only [Int32.reduceToInt]; omega) (by simp only [Int32.reduceToInt]; omega)
      have h9 : (i + 1).toNatClampNeg = i.toNatClampNeg + 1 := by rw [cln, cln]; omega
      rw [w30_33]; simp +decide only [w30_35, w30_36, w30_39, w30_41, w30_43, w30_46, w30_47, w30_48, w30_51, w30_53, w30_54, w30_55, w30_56, isO_put, true_and, and_true, ↓reduceIte, g11, ai11, ae11, e1, h3, h4]
      refine t31 hd ht ?_
      simp +decide only [w30_59i, w30_60, w30_63, Option.toList_some, List.cons_append, List.nil_append]
      exact ih (i + 1) _ _ (hd.of (vis_Sr (q := (s, t)))) (by omega) (by omega) (vis_t (q := (s, t)) ht) (by rw [h9]; exact hq)
    · have e2 := e1
      rw [lt32] at e2
      rw [if_neg (by show ¬ ((i.toNatClampNeg : Nat) : Int) < t.toInt; rw [cln]; omega)] at hq
      rw [w30_33]; simp +decide only [w30_35, w30_36, w30_66, w30_67, ↓reduceIte, e1]
      exact hq
def exq (s : St) (a ex : Int32) : St × Int32 := exF ex 0 32 (uA (uA (F2 s 0) 8 a.toNatClampNeg 1) 11 0 a, 1)
theorem F2_Sr : Sr s (F2 s 0) := by
  unfold F2
  refine ⟨fun x => by simp only [sI_fA], fun x => by simp only [sJ_fA], fun t h1 h2 h3 h4 => ?_, fun t i => by simp only [sB_fA]⟩
  funext i; simp only [sA_fA, h1, h2, h3, h4, false_and, if_false]
theorem exq_Sr {ex : Int32} : Sr s (exq s a ex).1 := by
  unfold exq
  exact F2_Sr.trans ((Sr_uA (by simp)).trans ((Sr_uA (by simp)).trans (exF_Sr _ _ (_, _))))
theorem t30 {ex : Int32} (hd : DG s) (ha : vv s a = true) (hq : Q (some (.int (exq s a ex).2)) (ob H p (exq s a ex).1)) : Cl (pj lw) 30 [.ref p, .int a, .int ex] (ob H p s) Q := by
  have r := vv_rg ha
  have r2 : 0 ≤ a.toInt ∧ a.toInt < 32 := by omega
  have hv : vv (F2 s 0) a = true := by unfold vv; rw [F2_Sr.1]; exact ha
  rw [c30]
  simp +decide only [w30_0, w30_1, w30_4, w30_5, w30_6, w30_9, w30_14, w30_15, w30_18, w30_19, w30_20, w30_21, w30_22, w30_25, w30_26, w30_27, w30_28, w30_29, w30_30, w30_31, isO_put, Option.toList_some, Option.toList_none, List.cons_append, List.nil_append, true_and, and_true, or_true, ↓reduceIte, Nat.reduceAdd, Nat.reduceLeDiff, Int32.reduceAdd, Int32.reduceToNatClampNeg, Int64.reduceAdd, Nat.add_zero, g8, g11, aw8, awn8, as8, aw11, as11, awn8, t29, t39, hv, bz, r2]
  exact l30 32 0 1 _ (hd.of (F2_Sr.trans ((Sr_uA (by simp)).trans (Sr_uA (by simp))))) (by decide) (by decide) (by decide) hq
end C

section D
variable {lw : LW} {H : AH} {p j : Nat} {s s' s1 s2 : St} {Q : Option Value → AH → Prop} {a b c d e x y t : Int32} {k n : Nat}
def PE (s : St) : Prop := ∀ y, y < 32 → nv (sA s 9 y)
def hvF (s : St) : Nat → Int32 → Int32 → Int32
  | 0, best, _ => best
  | m + 1, best, cur => if cur < 0 ∨ ¬ cur < 32 then best else if sA s 9 cur.toNatClampNeg = -1 then best else hvF s m (hvy s best (sA s 9 cur.toNatClampNeg)) (sA s 10 cur.toNatClampNeg)
theorem l32 (hp : PE s) (m : Nat) : ∀ (i best cur : Int32), i.toInt = 32 - m → m ≤ 32 → nv best → Q (some (.int (hvF s m best cur))) (ob H p s) →
    W (pj lw) 32 7 [.val (.ref p), .val (.int a), .val (.int best), .val (.int cur), .val (.int i), .unset] [] k n (ob H p s) Q := by
  induction m with
  | zero =>
    intro i best cur hi _ hb hq
    have h1 : ¬ i < 32 := by rw [lt32]; simp only [Int32.reduceToInt]; omega
    rw [w32_7]; simp +decide only [w32_9, w32_11, w32_65, w32_66, ↓reduceIte, h1]
    exact hq
  | succ m ih =>
    intro i best cur hi hm hb hq
    have h1 : i < 32 := by rw [lt32]; simp only [Int32.reduceToInt]; omega
    have h8 : (i + 1).toInt = i.toInt + 1 := ia (by simp only [Int32.reduceToInt]; omega) (by simp only [Int32.reduceToInt]; omega)
    unfold hvF at hq
    by_cases e1 : cur < 0
    · rw [if_pos (Or.inl e1)] at hq
      rw [w32_7]; simp +decide only [w32_9, w32_11, w32_14, w32_15, w32_65, w32_66, ↓reduceIte, h1, e1]; exact hq
    · by_cases e2 : cur < 32
      · have r := rn32 e1 e2
        have hv := hp cur.toNatClampNeg (by rw [cln]; omega)
        rw [if_neg (by simp [e1, e2])] at hq
        by_cases e3 : sA s 9 cur.toNatClampNeg = -1
        · rw [if_pos e3] at hq
          rw [w32_7]; simp +decide only [w32_9, w32_11, w32_14, w32_15, w32_18, w32_19, w32_21, w32_27, w32_28, w32_31, w32_32, w32_33, w32_35, w32_37, w32_38, w32_41, w32_65, w32_66, isO_put, true_and, and_true, ↓reduceIte, g9, ai9, ae9, h1, e1, e2, r, e3]; exact hq
        · rw [if_neg e3] at hq
          have q := fun Q => t38 (lw := lw) (H := H) (p := p) (s := s) (Q := Q) hb hv
          rw [w32_7]; simp +decide only [w32_9, w32_11, w32_14, w32_15, w32_18, w32_19, w32_21, w32_27, w32_28, w32_31, w32_32, w32_33, w32_35, w32_37, w32_38, w32_44, w32_45, w32_46, w32_48, w32_51i, w32_52, w32_53, w32_56, w32_57, w32_58i, w32_59, w32_62, isO_put, Option.toList_some, List.cons_append, List.nil_append, true_and, and_true, ↓reduceIte, g9, g10, ai9, ae9, ai10, ae10, h1, e1, e2, r, e3, q]
          refine W_fa 5 rfl ?_
          exact ih (i + 1) _ _ (by omega) (by omega) (hvy_nv hb hv) hq
      · rw [if_pos (Or.inr e2)] at hq
        rw [w32_7]; simp +decide only [w32_9, w32_11, w32_14, w32_15, w32_18, w32_19, w32_21, w32_24, w32_65, w32_66, ↓reduceIte, h1, e1, e2]; exact hq
theorem t32 (hp : PE s) (hq : Q (some (.int (hvF s 32 (-1) a))) (ob H p s)) : Cl (pj lw) 32 [.ref p, .int a] (ob H p s) Q := by
  rw [c32]; simp +decide only [w32_0, w32_1, w32_2, w32_3, w32_4, w32_5]
  exact l32 hp 32 0 (-1) a (by decide) (by decide) (Or.inl rfl) hq
def lcB (s : St) (j : Nat) : Bool := decide (¬ sA s 4 j = 0 ∧ sA s 5 j = 0) && cr s (Int32.ofNat j)
def lcF (s : St) : Nat → Nat → Int32 → Int32
  | _, 0, best => best
  | j, m + 1, best => lcF s (j + 1) m (if lcB s j = true then lgt s best (Int32.ofNat j) else best)
theorem l33 (m : Nat) : ∀ (i best : Int32), i.toInt = 128 - m → m ≤ 128 → nv best →
    (W (pj lw) 33 4 [.val (.ref p), .val (.int best), .val (.int i)] [] k n (ob H p s) Q ↔ Q (some (.int (lcF s i.toNatClampNeg m best))) (ob H p s)) := by
  induction m with
  | zero =>
    intro i best hi _ hb
    have h1 : ¬ i < 128 := by rw [lt32]; simp only [Int32.reduceToInt]; omega
    rw [w33_4]; simp +decide only [w33_5, w33_8, w33_50, w33_51, ↓reduceIte, h1, lcF]
  | succ m ih =>
    intro i best hi hm hb
    have h1 : i < 128 := by rw [lt32]; simp only [Int32.reduceToInt]; omega
    have r : 0 ≤ i.toInt ∧ i.toInt < 128 := by omega
    have h8 : (i + 1).toInt = i.toInt + 1 := ia (by simp only [Int32.reduceToInt]; omega) (by simp only [Int32.reduceToInt]; omega)
    have h9 : (i + 1).toNatClampNeg = i.toNatClampNeg + 1 := by rw [cln, cln]; omega
    have hI : Int32.ofNat i.toNatClampNeg = i := by rw [eq32, Int32.toInt_ofNat_of_lt (by rw [cln]; omega), cln]; omega
    unfold lcF lcB
    rw [hI, w33_4]
    by_cases e1 : sA s 4 i.toNatClampNeg = 0
    · simp +decide only [w33_5, w33_8, w33_11, w33_12, w33_15, w33_16, w33_17, w33_44, w33_47, isO_put, true_and, and_true, false_and, or_true, not_true_eq_false, ↓reduceIte, g4, ai4, ain4, ae4, ain4, h1, r, e1, Bool.false_and, decide_false]
      rw [ih (i + 1) best (by omega) (by omega) hb, h9]
    · by_cases e2 : sA s 5 i.toNatClampNeg = 0
      · have q := fun Q => t34 (lw := lw) (H := H) (p := p) (s := s) (Q := Q) r
        cases e3 : cr s i with
        | false =>
          simp +decide only [w33_5, w33_8, w33_11, w33_12, w33_15, w33_16, w33_17, w33_20, w33_21, w33_24, w33_25, w33_26, w33_29, w33_30, w33_31, w33_34, w33_44, w33_47, isO_put, Option.toList_some, List.cons_append, List.nil_append, true_and, and_true, and_false, or_true, not_false_eq_true, ↓reduceIte, g4, g5, ai4, ain4, ae4, ai5, ain5, ae5, ain4, ain5, h1, r, e1, e2, q, e3, bz, Bool.and_false]
          rw [ih (i + 1) best (by omega) (by omega) hb, h9]
        | true =>
          have q2 := fun Q => t37 (lw := lw) (H := H) (p := p) (s := s) (Q := Q) hb (Or.inr r)
          simp +decide only [w33_5, w33_8, w33_11, w33_12, w33_15, w33_16, w33_17, w33_20, w33_21, w33_24, w33_25, w33_26, w33_29, w33_30, w33_31, w33_34, w33_37, w33_38, w33_39, w33_40, w33_43i, w33_44, w33_47, isO_put, Option.toList_some, List.cons_append, List.nil_append, true_and, and_true, or_true, not_false_eq_true, ↓reduceIte, g4, g5, ai4, ain4, ae4, ai5, ain5, ae5, ain4, ain5, h1, r, e1, e2, q, e3, bz, q2, Bool.and_true]
          rw [ih (i + 1) _ (by omega) (by omega) (lgt_nv hb (Or.inr r)), h9]
      · simp +decide only [w33_5, w33_8, w33_11, w33_12, w33_15, w33_16, w33_17, w33_20, w33_21, w33_24, w33_25, w33_26, w33_44, w33_47, isO_put, true_and, and_true, false_and, and_false, or_true, not_false_eq_true, ↓reduceIte, g4, g5, ai4, ain4, ae4, ai5, ain5, ae5, ain4, ain5, h1, r, e1, e2, Bool.false_and, decide_false]
        rw [ih (i + 1) best (by omega) (by omega) hb, h9]
theorem t33 : Cl (pj lw) 33 [.ref p] (ob H p s) Q ↔ Q (some (.int (lcF s 0 128 (-1)))) (ob H p s) := by
  rw [c33]; simp +decide only [w33_0, w33_1, w33_2, w33_3]
  exact l33 128 0 (-1) (by decide) (by decide) (Or.inl rfl)
def EN (s : St) : Prop := ∀ e, e < 128 → (0 ≤ (sA s 1 e).toInt ∧ (sA s 1 e).toInt < (sI s 0).toInt) ∧ (0 ≤ (sA s 2 e).toInt ∧ (sA s 2 e).toInt < (sI s 0).toInt)
def nOk (s : St) : Prop := 2 ≤ (sI s 0).toInt ∧ (sI s 0).toInt ≤ 32
theorem aA_DG (h : DG s) : DG (aA s x e) := by
  unfold aA; split
  · intro z hz
    have h0 := h z hz
    rw [sA_uA]
    by_cases q : z = x.toNatClampNeg
    · subst q
      rw [if_pos ⟨rfl, rfl⟩, ia (by simp only [Int32.reduceToInt]; omega) (by simp only [Int32.reduceToInt]; omega)]; simp only [Int32.reduceToInt]; omega
    · rw [if_neg (fun w => q w.2), sA_uA, if_neg (by simp)]; exact h0
  · exact h
def jT (s : St) (e : Int32) : St := if vi e = true ∧ sA s 5 e.toNatClampNeg = 0 then
  aA (aA (uJ (uI (uA s 5 e.toNatClampNeg 1) 13 (sI s 13 + 1)) 14 (sJ s 14 + (sA s 3 e.toNatClampNeg).toInt64)) (sA s 1 e.toNatClampNeg) e) (sA s 2 e.toNatClampNeg) e else s
theorem aA_A {t : Nat} (h6 : t ≠ 6) (h7 : t ≠ 7) : sA (aA s x e) t = sA s t := by
  unfold aA; split
  · rw [sAn h7, sAn h6]
  · rfl
theorem aA_I : sI (aA s x e) k = sI s k := by unfold aA; split; simp only [sI_uA]; rfl
theorem aA_J : sJ (aA s x e) k = sJ s k := by unfold aA; split; simp only [sJ_uA]; rfl
theorem t25 (hd : DG s) (hE : EN s) (hn : nOk s) : Cl (pj lw) 25 [.ref p, .int e] (ob H p s) Q ↔ Q none (ob H p (jT s e)) := by
  rw [c25]; unfold jT
  cases e1 : vi e with
  | false => simp +decide only [w25_0, w25_1, w25_2, w25_5, w25_17, isO_put, Option.toList_some, List.cons_append, List.nil_append, true_and, and_true, false_and, ↓reduceIte, t40, e1, bz]
  | true =>
    have r := vi_rg e1
    have g := hE e.toNatClampNeg (by rw [cln]; omega)
    have hn' := hn.2
    by_cases e2 : sA s 5 e.toNatClampNeg = 0
    · have hd1 : DG (uJ (uI (uA s 5 e.toNatClampNeg 1) 13 (sI s 13 + 1)) 14 (sJ s 14 + (sA s 3 e.toNatClampNeg).toInt64)) := by
        intro z hz; have := hd z hz; simpa only [sA_uJ, sA_uI, sA_uA, Nat.reduceEqDiff, false_and, if_false] using this
      have q1 := fun Q => t27 (lw := lw) (H := H) (p := p) (Q := Q) (x := sA s 1 e.toNatClampNeg) (e := e) (by omega) hd1
      have q2 := fun Q => t27 (lw := lw) (H := H) (p := p) (Q := Q) (x := sA s 2 e.toNatClampNeg) (e := e) (by omega) (aA_DG (x := sA s 1 e.toNatClampNeg) (e := e) hd1)
      have q3 : sA (aA (uJ (uI (uA s 5 e.toNatClampNeg 1) 13 (sI s 13 + 1)) 14 (sJ s 14 + (sA s 3 e.toNatClampNeg).toInt64)) (sA s 1 e.toNatClampNeg) e) 2 = sA s 2 := by
        rw [aA_A (by decide) (by decide)]; funext z; simp only [sA_uJ, sA_uI, sA_uA, Nat.reduceEqDiff, false_and, if_false]
      simp +decide only [w25_0, w25_1, w25_2, w25_5, w25_8, w25_9, w25_12, w25_13, w25_14, w25_18, w25_19, w25_22, w25_23, w25_24, w25_25, w25_26, w25_27, w25_30, w25_31, w25_32, w25_35, w25_36, w25_37, w25_40, w25_41, w25_44, w25_45, w25_46, w25_47, w25_48, w25_51, w25_52, w25_53, w25_56, w25_57, w25_58, w25_59, w25_62, w25_63, w25_64, w25_67, w25_68, w25_69, w25_70, w25_73, isO_put, isOw_put, okv_int, okv_long, sI_uA, sJ_uI, sJ_uA, sA_uI, sA_uJ, sA_uA, Option.toList_some, Option.toList_none, List.cons_append, List.nil_append, true_and, and_true, or_true, ↓reduceIte, g1, g2, g3, g5, g13, s13, g14, s14, ai1, ae1, ai2, ae2, ai3, ae3, ai5, aw5, ain5, awn5, ae5, as5, ain5, awn5, t40, e1, bz, r, e2, q1, q3, q2]
    · simp +decide only [w25_0, w25_1, w25_2, w25_5, w25_8, w25_9, w25_12, w25_13, w25_14, w25_17, isO_put, Option.toList_some, List.cons_append, List.nil_append, true_and, and_true, and_false, or_true, ↓reduceIte, g5, ai5, ain5, ae5, ain5, t40, e1, bz, r, e2]
theorem aR_DG {κ : Nat} (h : DG s) (hk : κ < dN s x.toNatClampNeg) : DG (aR s x κ) := by
  intro z hz
  have h0 := h z hz
  unfold aR; rw [sA_uA, if_neg (by simp), sA_uA]
  by_cases q : z = x.toNatClampNeg
  · subst q
    unfold dN at hk
    rw [if_pos ⟨rfl, rfl⟩, isb (by simp only [Int32.reduceToInt]; omega) (by simp only [Int32.reduceToInt]; omega)]; simp only [Int32.reduceToInt]; omega
  · rw [if_neg (fun w => q w.2)]; exact h0
theorem rA_DG (h : DG s) : DG (rA s x e) := by
  unfold rA
  cases g : fnd s x.toNatClampNeg e 0 (dN s x.toNatClampNeg) with
  | none => exact h
  | some κ => exact aR_DG h (by have := (fnd_some _ _ g).1; omega)
theorem rA_A {t : Nat} (h6 : t ≠ 6) (h7 : t ≠ 7) : sA (rA s x e) t = sA s t := by
  unfold rA; split
  · rfl
  · unfold aR; rw [sAn h6, sAn h7]
theorem rA_I : sI (rA s x e) k = sI s k := by unfold rA; split; rfl; unfold aR; simp only [sI_uA]
theorem rA_J : sJ (rA s x e) k = sJ s k := by unfold rA; split; rfl; unfold aR; simp only [sJ_uA]
def lT (s : St) (e : Int32) : St := if vi e = true ∧ ¬ sA s 5 e.toNatClampNeg = 0 then
  rA (rA (uJ (uI (uA s 5 e.toNatClampNeg 0) 13 (sI s 13 - 1)) 14 (sJ s 14 - (sA s 3 e.toNatClampNeg).toInt64)) (sA s 1 e.toNatClampNeg) e) (sA s 2 e.toNatClampNeg) e else s
theorem t26 (hd : DG s) (hE : EN s) (hn : nOk s) : Cl (pj lw) 26 [.ref p, .int e] (ob H p s) Q ↔ Q none (ob H p (lT s e)) := by
  rw [c26]; unfold lT
  cases e1 : vi e with
  | false => simp +decide only [w26_0, w26_1, w26_2, w26_5, w26_17, isO_put, Option.toList_some, List.cons_append, List.nil_append, true_and, and_true, false_and, ↓reduceIte, t40, e1, bz]
  | true =>
    have r := vi_rg e1
    have g := hE e.toNatClampNeg (by rw [cln]; omega)
    have hn' := hn.2
    by_cases e2 : sA s 5 e.toNatClampNeg = 0
    · simp +decide only [w26_0, w26_1, w26_2, w26_5, w26_8, w26_9, w26_12, w26_13, w26_14, w26_17, isO_put, Option.toList_some, List.cons_append, List.nil_append, true_and, and_true, and_false, or_true, not_true_eq_false, ↓reduceIte, g5, ai5, ain5, ae5, ain5, t40, e1, bz, r, e2]
    · have hd1 : DG (uJ (uI (uA s 5 e.toNatClampNeg 0) 13 (sI s 13 - 1)) 14 (sJ s 14 - (sA s 3 e.toNatClampNeg).toInt64)) := by
        intro z hz; have := hd z hz; simpa only [sA_uJ, sA_uI, sA_uA, Nat.reduceEqDiff, false_and, if_false] using this
      have q1 := fun Q => t28 (lw := lw) (H := H) (p := p) (Q := Q) (x := sA s 1 e.toNatClampNeg) (e := e) (by omega) hd1
      have q2 := fun Q => t28 (lw := lw) (H := H) (p := p) (Q := Q) (x := sA s 2 e.toNatClampNeg) (e := e) (by omega) (rA_DG (x := sA s 1 e.toNatClampNeg) (e := e) hd1)
      have q3 : sA (rA (uJ (uI (uA s 5 e.toNatClampNeg 0) 13 (sI s 13 - 1)) 14 (sJ s 14 - (sA s 3 e.toNatClampNeg).toInt64)) (sA s 1 e.toNatClampNeg) e) 2 = sA s 2 := by
        rw [rA_A (by decide) (by decide)]; funext z; simp only [sA_uJ, sA_uI, sA_uA, Nat.reduceEqDiff, false_and, if_false]
      simp +decide only [w26_0, w26_1, w26_2, w26_5, w26_8, w26_9, w26_12, w26_13, w26_14, w26_18, w26_19, w26_22, w26_23, w26_24, w26_25, w26_26, w26_27, w26_30, w26_31, w26_32, w26_35, w26_36, w26_37, w26_40, w26_41, w26_44, w26_45, w26_46, w26_47, w26_48, w26_51, w26_52, w26_53, w26_56, w26_57, w26_58, w26_59, w26_62, w26_63, w26_64, w26_67, w26_68, w26_69, w26_70, w26_73, isO_put, isOw_put, okv_int, okv_long, sI_uA, sJ_uI, sJ_uA, sA_uI, sA_uJ, sA_uA, Option.toList_some, Option.toList_none, List.cons_append, List.nil_append, true_and, and_true, or_true, not_false_eq_true, ↓reduceIte, g1, g2, g3, g5, g13, s13, g14, s14, ai1, ae1, ai2, ae2, ai3, ae3, ai5, aw5, ain5, awn5, ae5, as5, ain5, awn5, t40, e1, bz, r, e2, q1, q3, q2]
theorem jT_A {t : Nat} (h5 : t ≠ 5) (h6 : t ≠ 6) (h7 : t ≠ 7) : sA (jT s e) t = sA s t := by
  unfold jT; split
  · rw [aA_A h6 h7, aA_A h6 h7]; funext z; rw [sA_uJ, sA_uI, sA_uA, if_neg (fun w => h5 w.1)]
  · rfl
theorem lT_A {t : Nat} (h5 : t ≠ 5) (h6 : t ≠ 6) (h7 : t ≠ 7) : sA (lT s e) t = sA s t := by
  unfold lT; split
  · rw [rA_A h6 h7, rA_A h6 h7]; funext z; rw [sA_uJ, sA_uI, sA_uA, if_neg (fun w => h5 w.1)]
  · rfl
theorem jT_I (h : k ≠ 13) : sI (jT s e) k = sI s k := by unfold jT; split; rw [aA_I, aA_I, sI_uJ, sI_uI, if_neg h, sI_uA]; rfl
theorem lT_I (h : k ≠ 13) : sI (lT s e) k = sI s k := by unfold lT; split; rw [rA_I, rA_I, sI_uJ, sI_uI, if_neg h, sI_uA]; rfl
theorem jT_DG (h : DG s) : DG (jT s e) := by
  unfold jT; split
  · refine aA_DG (aA_DG ?_)
    intro z hz; have := h z hz; simpa only [sA_uJ, sA_uI, sA_uA, Nat.reduceEqDiff, false_and, if_false] using this
  · exact h
theorem lT_DG (h : DG s) : DG (lT s e) := by
  unfold lT; split
  · refine rA_DG (rA_DG ?_)
    intro z hz; have := h z hz; simpa only [sA_uJ, sA_uI, sA_uA, Nat.reduceEqDiff, false_and, if_false] using this
  · exact h
theorem EN.of (h : EN s) (h0 : sI s' 0 = sI s 0) (h1 : sA s' 1 = sA s 1) (h2 : sA s' 2 = sA s 2) : EN s' := by unfold EN; rw [h0, h1, h2]; exact h
theorem nOk.of (h : nOk s) (h0 : sI s' 0 = sI s 0) : nOk s' := by unfold nOk; rw [h0]; exact h
theorem jT_EN (h : EN s) : EN (jT s e) := h.of (jT_I (by decide)) (jT_A (by decide) (by decide) (by decide)) (jT_A (by decide) (by decide) (by decide))
theorem lT_EN (h : EN s) : EN (lT s e) := h.of (lT_I (by decide)) (lT_A (by decide) (by decide) (by decide)) (lT_A (by decide) (by decide) (by decide))
theorem jT_nOk (h : nOk s) : nOk (jT s e) := h.of (jT_I (by decide))
theorem lT_nOk (h : nOk s) : nOk (lT s e) := h.of (lT_I (by decide))
theorem Sr.EN (g : Sr s s') (h : EN s) : EN s' := h.of (g.1 0) (g.2.2.1 _ (by decide) (by decide) (by decide) (by decide)) (g.2.2.1 _ (by decide) (by decide) (by decide) (by decide))
theorem Sr.nOk (g : Sr s s') (h : nOk s) : nOk s' := h.of (g.1 0)
theorem vs1_PE {ex : Int32} (h : PE s) : PE (vs1 s x ex e t).1 := by
  unfold vs1; split
  · exact h
  · rename_i q
    have q' : vi e = true := by cases w : vi e with
      | true => rfl
      | false => exact absurd (Or.inr w) q
    split
    · exact h
    · intro y hy
      show nv (sA (uA (uA (uA (uA s 8 _ 1) 9 _ e) 10 _ x) 11 _ _) 9 y)
      rw [sA_uA, if_neg (by simp), sA_uA, if_neg (by simp), sA_uA]
      split
      · exact Or.inr (vi_rg q')
      · rw [sA_uA, if_neg (by simp)]; exact h y hy
theorem vsF_PE {ex : Int32} : ∀ (m j : Nat) (q : St × Int32), PE q.1 → PE (vsF x ex j m q).1
  | 0, j, q, h => h
  | m + 1, j, q, h => by unfold vsF; exact vsF_PE m (j + 1) _ (vs1_PE h)
theorem vis_PE {ex : Int32} {q : St × Int32} (h : PE q.1) : PE (vis q x ex).1 := by
  unfold vis; split
  · exact h
  · exact vsF_PE _ _ _ h
theorem exF_PE {ex : Int32} : ∀ (m i : Nat) (q : St × Int32), PE q.1 → PE (exF ex i m q).1
  | 0, i, q, h => h
  | m + 1, i, q, h => by
    unfold exF; split
    · exact exF_PE m (i + 1) _ (vis_PE h)
    · exact h
theorem F2_9 {y : Nat} (h : y < 32) : sA (F2 s 0) 9 y = -1 := by
  unfold F2; simp only [sA_fA, Nat.reduceEqDiff, false_and, if_false, true_and, Nat.zero_le, h, if_true]
theorem exq_PE {ex : Int32} : PE (exq s a ex).1 := by
  unfold exq
  refine exF_PE _ _ (_, _) ?_
  intro y hy
  show nv (sA (uA (uA (F2 s 0) 8 _ 1) 11 0 a) 9 y)
  rw [sA_uA, if_neg (by simp), sA_uA, if_neg (by simp), F2_9 hy]; exact Or.inl rfl
def sx (s : St) (e : Int32) : St := (exq s (sA s 1 e.toNatClampNeg) (-1)).1
def iU (s : St) (e : Int32) : St :=
  if sA (sx s e) 8 (sA s 2 e.toNatClampNeg).toNatClampNeg = 0 then stL2 (jT (sx s e) e) e (-1) else
  if hvF (sx s e) 32 (-1) (sA s 2 e.toNatClampNeg) = -1 ∨ pc (sx s e) e (hvF (sx s e) 32 (-1) (sA s 2 e.toNatClampNeg)) = false then stL2 (sx s e) (-1) (-1) else
  stL2 (jT (lT (sx s e) (hvF (sx s e) 32 (-1) (sA s 2 e.toNatClampNeg))) e) e (hvF (sx s e) 32 (-1) (sA s 2 e.toNatClampNeg))
theorem hvF_nv (hp : PE s) : ∀ (m : Nat) (best cur : Int32), nv best → nv (hvF s m best cur)
  | 0, best, cur, h => h
  | m + 1, best, cur, h => by
    unfold hvF; split
    · exact h
    · rename_i q
      split
      · exact h
      · have q1 : ¬ cur < 0 := fun w => q (Or.inl w)
        have q2 : cur < 32 := Decidable.byContradiction fun w => q (Or.inr w)
        have := rn32 q1 q2
        exact hvF_nv hp m _ _ (hvy_nv h (hp _ (by rw [cln]; omega)))
theorem t18 (he : 0 ≤ e.toInt ∧ e.toInt < 128) (hd : DG s) (hE : EN s) (hn : nOk s) (hq : Q none (ob H p (iU s e))) : Cl (pj lw) 18 [.ref p, .int e] (ob H p s) Q := by
  have g := hE e.toNatClampNeg (by rw [cln]; omega)
  have hn' := hn.2
  have hS : Sr s (sx s e) := exq_Sr
  have hA2 : sA (sx s e) 2 = sA s 2 := hS.2.2.1 _ (by decide) (by decide) (by decide) (by decide)
  have v1 : vv s (sA s 1 e.toNatClampNeg) = true := vv_t g.1 hn'
  have v2 : vv (sx s e) (sA s 2 e.toNatClampNeg) = true := by unfold vv; rw [hS.1]; exact vv_t g.2 hn'
  have r2 : 0 ≤ (sA s 2 e.toNatClampNeg).toInt ∧ (sA s 2 e.toNatClampNeg).toInt < 32 := by omega
  have hdx : DG (sx s e) := hd.of hS
  have hEx : EN (sx s e) := hS.EN hE
  have hnx : nOk (sx s e) := hS.nOk hn
  rw [c18]; simp +decide only [w18_0, w18_1, w18_2, w18_5, w18_6, w18_7, w18_8, isO_put, true_and, and_true, g1, ai1, ae1, he]
  refine t30 hd v1 ?_
  have hsx : (exq s (sA s 1 e.toNatClampNeg) (-1)).1 = sx s e := rfl
  unfold iU at hq
  simp +decide only [hsx]
  have q25 := fun Q => t25 (lw := lw) (H := H) (p := p) (Q := Q) (e := e) hdx hEx hnx
  have hp : PE (sx s e) := exq_PE
  by_cases e1 : sA (sx s e) 8 (sA s 2 e.toNatClampNeg).toNatClampNeg = 0
  · rw [if_pos e1] at hq
    simp +decide only [w18_11, w18_12, w18_13, w18_16, w18_17, w18_18, w18_19, w18_20, w18_21, w18_24, w18_27, w18_28, w18_31, w18_32, w18_33, w18_36, w18_37, w18_38, w18_41, w18_42, w18_43, w18_44, w18_47, isO_put, Option.toList_some, Option.toList_none, List.cons_append, List.nil_append, true_and, and_true, or_true, ↓reduceIte, Nat.reduceAdd, Nat.reduceLeDiff, Int32.reduceAdd, Int64.reduceAdd, Nat.add_zero, g2, g8, ai2, ae2, ai8, ain8, ae8, ain8, he, t39, hA2, v2, bz, r2, e1, q25, t21]
    exact hq
  · rw [if_neg e1] at hq
    simp +decide only [w18_11, w18_12, w18_13, w18_16, w18_17, w18_18, w18_19, w18_20, w18_21, w18_24, w18_27, w18_28, w18_31, w18_32, w18_33, w18_48, w18_49, w18_50, isO_put, Option.toList_some, List.cons_append, List.nil_append, true_and, and_true, or_true, ↓reduceIte, g2, g8, ai2, ae2, ai8, ain8, ae8, ain8, he, t39, hA2, v2, bz, r2, e1]
    refine t32 hp ?_
    have hv := hvF_nv hp 32 (-1) (sA s 2 e.toNatClampNeg) (Or.inl rfl)
    generalize hvF (sx s e) 32 (-1) (sA s 2 e.toNatClampNeg) = m at *
    by_cases e2 : m = -1
    · rw [if_pos (Or.inl e2)] at hq
      simp +decide only [w18_53, w18_54, w18_55, w18_56, w18_85, w18_86, w18_87, w18_88, w18_91, isO_put, Option.toList_some, Option.toList_none, List.cons_append, List.nil_append, true_and, and_true, ↓reduceIte, e2, t21]
      exact hq
    · have rm := hv.resolve_left e2
      have q36 := fun Q => t36 (lw := lw) (H := H) (p := p) (s := sx s e) (Q := Q) he rm
      cases e3 : pc (sx s e) e m with
      | false =>
        rw [if_pos (Or.inr e3)] at hq
        simp +decide only [w18_53, w18_54, w18_55, w18_56, w18_59, w18_60, w18_61, w18_62, w18_65, w18_85, w18_86, w18_87, w18_88, w18_91, isO_put, Option.toList_some, Option.toList_none, List.cons_append, List.nil_append, true_and, and_true, ↓reduceIte, e2, q36, e3, bz, t21]
        exact hq
      | true =>
        rw [if_neg (by rw [e3]; simp [e2])] at hq
        have q26 := fun Q => t26 (lw := lw) (H := H) (p := p) (Q := Q) (e := m) hdx hEx hnx
        have q25' := fun Q => t25 (lw := lw) (H := H) (p := p) (Q := Q) (e := e) (lT_DG (e := m) hdx) (lT_EN (e := m) hEx) (lT_nOk (e := m) hnx)
        simp +decide only [w18_53, w18_54, w18_55, w18_56, w18_59, w18_60, w18_61, w18_62, w18_65, w18_68, w18_69, w18_70, w18_73, w18_74, w18_75, w18_78, w18_79, w18_80, w18_81, w18_84, isO_put, Option.toList_some, Option.toList_none, List.cons_append, List.nil_append, true_and, and_true, ↓reduceIte, Nat.reduceAdd, Nat.reduceLeDiff, Int32.reduceAdd, Int64.reduceAdd, Nat.add_zero, e2, q36, e3, bz, t21, q26, q25']
        exact hq
end D

section E
variable {lw : LW} {H : AH} {p j : Nat} {s s' s1 s2 : St} {Q : Option Value → AH → Prop} {a b c d e x y t u v w : Int32} {k n : Nat}
def cT1 (s : St) (e : Int32) : St := sx (frS (lT s e) e) e
def cT (s : St) (e : Int32) : St := stL2 (if lcF (cT1 s e) 0 128 (-1) = -1 then cT1 s e else jT (cT1 s e) (lcF (cT1 s e) 0 128 (-1))) (lcF (cT1 s e) 0 128 (-1)) e
theorem frS_A {t : Nat} (h4 : t ≠ 4) (h5 : t ≠ 5) : sA (frS s e) t = sA s t := by unfold frS; funext z; rw [sA_uI, sA_uA, if_neg (fun w => h5 w.1), sA_uA, if_neg (fun w => h4 w.1)]
theorem frS_I (h : k ≠ 12) : sI (frS s e) k = sI s k := by unfold frS; rw [sI_uI, if_neg h, sI_uA, sI_uA]
theorem frS_DG (h : DG s) : DG (frS s e) := by unfold DG; rw [frS_A (by decide) (by decide)]; exact h
theorem frS_EN (h : EN s) : EN (frS s e) := h.of (frS_I (by decide)) (frS_A (by decide) (by decide)) (frS_A (by decide) (by decide))
theorem frS_nOk (h : nOk s) : nOk (frS s e) := h.of (frS_I (by decide))
theorem sx_Sr : Sr s (sx s e) := exq_Sr
set_option maxRecDepth 100000 in
theorem t19 (he : 0 ≤ e.toInt ∧ e.toInt < 128) (hd : DG s) (hE : EN s) (hn : nOk s) (hq : Q none (ob H p (cT s e))) : Cl (pj lw) 19 [.ref p, .int e] (ob H p s) Q := by
  have q26 := fun Q => t26 (lw := lw) (H := H) (p := p) (Q := Q) (e := e) hd hE hn
  have q24 := fun Q => t24 (lw := lw) (H := H) (p := p) (Q := Q) (s := lT s e) he
  have hd1 : DG (frS (lT s e) e) := frS_DG (lT_DG hd)
  have hE1 : EN (frS (lT s e) e) := frS_EN (lT_EN hE)
  have hn1 : nOk (frS (lT s e) e) := frS_nOk (lT_nOk hn)
  have g := hE1 e.toNatClampNeg (by rw [cln]; omega)
  have v1 : vv (frS (lT s e) e) (sA (frS (lT s e) e) 1 e.toNatClampNeg) = true := vv_t g.1 hn1.2
  rw [c19]; simp +decide only [w19_0, w19_1, w19_2, w19_5, w19_6, w19_7, w19_10, w19_11, w19_12, w19_15, w19_16, w19_17, w19_18, isO_put, Option.toList_none, List.nil_append, true_and, and_true, Nat.reduceAdd, Nat.reduceLeDiff, Int32.reduceAdd, Int64.reduceAdd, Nat.add_zero, g1, ai1, ae1, q26, q24, he]
  refine t30 hd1 v1 ?_
  have hsx : (exq (frS (lT s e) e) (sA (frS (lT s e) e) 1 e.toNatClampNeg) (-1)).1 = cT1 s e := rfl
  have hS : Sr (frS (lT s e) e) (cT1 s e) := sx_Sr
  have q25 := fun Q => t25 (lw := lw) (H := H) (p := p) (Q := Q) (e := lcF (cT1 s e) 0 128 (-1)) (hd1.of hS) (hS.EN hE1) (hS.nOk hn1)
  unfold cT at hq
  by_cases e1 : lcF (cT1 s e) 0 128 (-1) = -1
  · rw [if_pos e1] at hq
    simp +decide only [w19_21, w19_22, w19_23, w19_26, w19_27, w19_28, w19_29, w19_37, w19_38, w19_39, w19_40, w19_43, isO_put, Option.toList_some, Option.toList_none, List.cons_append, List.nil_append, true_and, and_true, ↓reduceIte, hsx, t33, e1, t21]
    rw [e1] at hq; exact hq
  · rw [if_neg e1] at hq
    simp +decide only [w19_21, w19_22, w19_23, w19_26, w19_27, w19_28, w19_29, w19_32, w19_33, w19_34, w19_37, w19_38, w19_39, w19_40, w19_43, isO_put, Option.toList_some, Option.toList_none, List.cons_append, List.nil_append, true_and, and_true, ↓reduceIte, Nat.reduceAdd, Nat.reduceLeDiff, Int32.reduceAdd, Int64.reduceAdd, Nat.add_zero, hsx, t33, e1, t21, q25]
    exact hq
def rW1 (s : St) (e c : Int32) : St := sx (uA (lT s e) 3 e.toNatClampNeg c) e
def rW (s : St) (e c : Int32) : St := if lcF (rW1 s e c) 0 128 (-1) = -1 ∨ lcF (rW1 s e c) 0 128 (-1) = e then stL2 (jT (rW1 s e c) e) (-1) (-1) else stL2 (jT (rW1 s e c) (lcF (rW1 s e c) 0 128 (-1))) (lcF (rW1 s e c) 0 128 (-1)) e
theorem u3_DG (h : DG s) : DG (uA s 3 k c) := by unfold DG; rw [sAn (by decide)]; exact h
theorem u3_EN (h : EN s) : EN (uA s 3 k c) := h.of sI_uA (sAn (by decide)) (sAn (by decide))
theorem u3_nOk (h : nOk s) : nOk (uA s 3 k c) := h.of sI_uA
set_option maxRecDepth 100000 in
theorem t20 (he : 0 ≤ e.toInt ∧ e.toInt < 128) (hd : DG s) (hE : EN s) (hn : nOk s) (hq : Q none (ob H p (rW s e c))) : Cl (pj lw) 20 [.ref p, .int e, .int c] (ob H p s) Q := by
  have q26 := fun Q => t26 (lw := lw) (H := H) (p := p) (Q := Q) (e := e) hd hE hn
  have hd1 : DG (uA (lT s e) 3 e.toNatClampNeg c) := u3_DG (lT_DG hd)
  have hE1 : EN (uA (lT s e) 3 e.toNatClampNeg c) := u3_EN (lT_EN hE)
  have hn1 : nOk (uA (lT s e) 3 e.toNatClampNeg c) := u3_nOk (lT_nOk hn)
  have g := hE1 e.toNatClampNeg (by rw [cln]; omega)
  have v1 : vv (uA (lT s e) 3 e.toNatClampNeg c) (sA (uA (lT s e) 3 e.toNatClampNeg c) 1 e.toNatClampNeg) = true := vv_t g.1 hn1.2
  rw [sAn (show (1 : Nat) ≠ 3 by decide)] at v1
  have hsx : (exq (uA (lT s e) 3 e.toNatClampNeg c) (sA (lT s e) 1 e.toNatClampNeg) (-1)).1 = rW1 s e c := by unfold rW1 sx; rw [sAn (show (1 : Nat) ≠ 3 by decide)]
  rw [c20]; simp +decide only [w20_0, w20_1, w20_2, w20_5, w20_6, w20_9, w20_10, w20_11, w20_12, w20_13, w20_14, w20_17, w20_18, w20_19, w20_20, isO_put, sA_uA, Option.toList_none, List.nil_append, true_and, and_true, ↓reduceIte, g1, g3, ai1, ae1, aw3, as3, q26, he]
  refine t30 hd1 v1 ?_
  have hS : Sr (uA (lT s e) 3 e.toNatClampNeg c) (rW1 s e c) := sx_Sr
  have q25 := fun e Q => t25 (lw := lw) (H := H) (p := p) (Q := Q) (e := e) (hd1.of hS) (hS.EN hE1) (hS.nOk hn1)
  unfold rW at hq
  by_cases e1 : lcF (rW1 s e c) 0 128 (-1) = -1
  · rw [if_pos (Or.inl e1)] at hq
    simp +decide only [w20_23, w20_24, w20_25, w20_28, w20_29, w20_30, w20_31, w20_39, w20_40, w20_41, w20_44, w20_45, w20_46, w20_47, w20_50, isO_put, Option.toList_some, Option.toList_none, List.cons_append, List.nil_append, true_and, and_true, ↓reduceIte, Nat.reduceAdd, Nat.reduceLeDiff, Int32.reduceAdd, Int64.reduceAdd, Nat.add_zero, hsx, t33, e1, t21, q25]
    exact hq
  · by_cases e2 : lcF (rW1 s e c) 0 128 (-1) = e
    · rw [if_pos (Or.inr e2)] at hq
      have e3 : ¬ e = -1 := by rw [← e2]; exact e1
      simp +decide only [w20_23, w20_24, w20_25, w20_28, w20_29, w20_30, w20_31, w20_34, w20_35, w20_36, w20_39, w20_40, w20_41, w20_44, w20_45, w20_46, w20_47, w20_50, isO_put, Option.toList_some, Option.toList_none, List.cons_append, List.nil_append, true_and, and_true, ↓reduceIte, Nat.reduceAdd, Nat.reduceLeDiff, Int32.reduceAdd, Int64.reduceAdd, Nat.add_zero, hsx, t33, e2, e3, t21, q25]
      exact hq
    · rw [if_neg (fun w => w.elim e1 e2)] at hq
      simp +decide only [w20_23, w20_24, w20_25, w20_28, w20_29, w20_30, w20_31, w20_34, w20_35, w20_36, w20_51, w20_52, w20_53, w20_56, w20_57, w20_58, w20_59, w20_62, isO_put, Option.toList_some, Option.toList_none, List.cons_append, List.nil_append, true_and, and_true, ↓reduceIte, Nat.reduceAdd, Nat.reduceLeDiff, Int32.reduceAdd, Int64.reduceAdd, Nat.add_zero, hsx, t33, e1, e2, t21, q25]
      exact hq
theorem stE_DG (h : DG s) : DG (stE s a b c d) := by
  intro z hz; have := h z hz; unfold stE; simpa only [sA_uI, sA_uA, Nat.reduceEqDiff, false_and, if_false] using this
theorem stE_nOk (h : nOk s) : nOk (stE s a b c d) := h.of (by unfold stE; simp only [sI_uI, sI_uA, Nat.reduceEqDiff, if_false])
theorem stE_EN (h : EN s) (hb : 0 ≤ b.toInt ∧ b.toInt < (sI s 0).toInt) (hc : 0 ≤ c.toInt ∧ c.toInt < (sI s 0).toInt) : EN (stE s a b c d) := by
  intro z hz
  have := h z hz
  unfold stE; simp only [sI_uI, sA_uI, sI_uA, sA_uA, Nat.reduceEqDiff, false_and, true_and, if_false]
  by_cases q : z = a.toNatClampNeg
  · simp only [q, if_true]; exact ⟨hb, hc⟩
  · simp only [q, if_false]; exact this
def adS (s : St) (f : Nat) (u v w : Int32) : St := iU (stE s (Int32.ofNat f) u v (cl (-1000000) 1000000 w)) (Int32.ofNat f)
theorem t2n (h : vv s u = false ∨ vv s v = false) (hq : Q (some (.int (-2))) (ob H p s)) : Cl (pj lw) 2 [.ref p, .int u, .int v, .int w] (ob H p s) Q := by
  rw [c2]
  cases e1 : vv s u with
  | false => simp +decide only [w2_0, w2_1, w2_2, w2_5, w2_16, w2_18, isO_put, Option.toList_some, List.cons_append, List.nil_append, true_and, and_true, ↓reduceIte, t39, e1, bz]; exact hq
  | true =>
    have e2 : vv s v = false := h.resolve_left (by rw [e1]; decide)
    simp +decide only [w2_0, w2_1, w2_2, w2_5, w2_8, w2_9, w2_10, w2_13, w2_16, w2_18, isO_put, Option.toList_some, List.cons_append, List.nil_append, true_and, and_true, ↓reduceIte, t39, e1, e2, bz]; exact hq
theorem t2l (h : vv s u = true) (hq : Q (some (.int (-3))) (ob H p s)) : Cl (pj lw) 2 [.ref p, .int u, .int u, .int w] (ob H p s) Q := by
  rw [c2]; simp +decide only [w2_0, w2_1, w2_2, w2_5, w2_8, w2_9, w2_10, w2_13, w2_19, w2_20, w2_21, w2_24, w2_26, isO_put, Option.toList_some, List.cons_append, List.nil_append, true_and, and_true, ↓reduceIte, t39, h, bz]; exact hq
theorem t2 {f : Nat} (hf : f < 128) (h0 : sA s 4 f = 0) (h1 : ∀ i, i < f → sA s 4 i ≠ 0) (hu : vv s u = true) (hv : vv s v = true) (hne : u ≠ v) (hd : DG s) (hE : EN s) (hn : nOk s)
    (hq : Q (some (.int (Int32.ofNat f))) (ob H p (adS s f u v w))) : Cl (pj lw) 2 [.ref p, .int u, .int v, .int w] (ob H p s) Q := by
  have hF : (Int32.ofNat f).toInt = f := Int32.toInt_ofNat_of_lt (by omega)
  have q22 := fun Q => t22 (lw := lw) (H := H) (p := p) (s := s) (Q := Q) hf h0 h1
  have q23 := fun d Q => t23 (lw := lw) (H := H) (p := p) (s := s) (b := u) (c := v) (d := d) (Q := Q) (a := Int32.ofNat f) (by omega)
  have e1 : ¬ Int32.ofNat f = -1 := by rw [eq32, hF]; simp only [Int32.reduceToInt]; omega
  rw [c2]
  simp +decide only [w2_0, w2_1, w2_2, w2_5, w2_8, w2_9, w2_10, w2_13, w2_19, w2_20, w2_21, w2_27, w2_28, w2_31, w2_33, w2_35, w2_36, w2_42, w2_43, w2_44, w2_47, w2_49, w2_50, w2_52, w2_53, w2_54, w2_56, w2_59, w2_60, w2_62, w2_65, w2_67, isO_put, Option.toList_some, List.cons_append, List.nil_append, true_and, and_true, ↓reduceIte, Nat.reduceAdd, Nat.reduceLeDiff, Int32.reduceAdd, Int64.reduceAdd, t39, hu, hv, bz, eq_false hne, q22, e1, t41, q23]
  refine t18 (by omega) (stE_DG hd) (stE_EN hE (vv_rg hu).1 (vv_rg hv).1) (stE_nOk hn) ?_
  exact hq
def rmS (s : St) (e : Int32) : St := if pr s e = true then if sA s 5 e.toNatClampNeg = 0 then stL2 (frS s e) (-1) (-1) else cT s e else s
theorem pr_rg (h : pr s e = true) : 0 ≤ e.toInt ∧ e.toInt < 128 := by unfold pr at h; rw [Bool.and_eq_true] at h; exact vi_rg h.1
theorem t3 (hd : DG s) (hE : EN s) (hn : nOk s) (hq : Q (some (.int (bz (pr s e)))) (ob H p (rmS s e))) : Cl (pj lw) 3 [.ref p, .int e] (ob H p s) Q := by
  rw [c3]; unfold rmS at hq
  cases e1 : pr s e with
  | false =>
    rw [e1, if_neg (by decide)] at hq
    simp +decide only [w3_0, w3_1, w3_2, w3_5, w3_8, w3_9, isO_put, Option.toList_some, List.cons_append, List.nil_append, true_and, and_true, ↓reduceIte, t5, e1, bz]; exact hq
  | true =>
    have r := pr_rg e1
    rw [e1, if_pos rfl] at hq
    have q24 := fun Q => t24 (lw := lw) (H := H) (p := p) (Q := Q) (s := s) r
    by_cases e2 : sA s 5 e.toNatClampNeg = 0
    · rw [if_pos e2] at hq
      simp +decide only [w3_0, w3_1, w3_2, w3_5, w3_10, w3_11, w3_14, w3_15, w3_16, w3_19, w3_20, w3_21, w3_24, w3_25, w3_26, w3_27, w3_30, w3_31, isO_put, Option.toList_some, List.cons_append, List.nil_append, true_and, and_true, or_true, ↓reduceIte, Nat.reduceAdd, Nat.reduceLeDiff, Int32.reduceAdd, Int64.reduceAdd, Nat.add_zero, g5, ai5, ain5, ae5, ain5, t5, e1, bz, r, e2, q24, t21]; exact hq
    · rw [if_neg e2] at hq
      simp +decide only [w3_0, w3_1, w3_2, w3_5, w3_10, w3_11, w3_14, w3_15, w3_16, w3_32, w3_33, w3_34, w3_37, w3_38, isO_put, Option.toList_some, List.cons_append, List.nil_append, true_and, and_true, or_true, ↓reduceIte, g5, ai5, ain5, ae5, ain5, t5, e1, bz, r, e2]
      refine t19 r hd hE hn ?_
      exact hq
def swS (s : St) (e w : Int32) : St := if pr s e = true then if sA s 5 e.toNatClampNeg = 0 then iU (uA s 3 e.toNatClampNeg (cl (-1000000) 1000000 w)) e else rW s e (cl (-1000000) 1000000 w) else s
theorem t4 (hd : DG s) (hE : EN s) (hn : nOk s) (hq : Q (some (.int (bz (pr s e)))) (ob H p (swS s e w))) : Cl (pj lw) 4 [.ref p, .int e, .int w] (ob H p s) Q := by
  rw [c4]; unfold swS at hq
  cases e1 : pr s e with
  | false =>
    rw [e1, if_neg (by decide)] at hq
    simp +decide only [w4_0, w4_1, w4_2, w4_5, w4_8, w4_9, isO_put, Option.toList_some, List.cons_append, List.nil_append, true_and, and_true, ↓reduceIte, t5, e1, bz]; exact hq
  | true =>
    have r : 0 ≤ e.toInt ∧ e.toInt < 128 := by unfold pr at e1; rw [Bool.and_eq_true] at e1; exact vi_rg e1.1
    rw [e1, if_pos rfl] at hq
    by_cases e2 : sA s 5 e.toNatClampNeg = 0
    · rw [if_pos e2] at hq
      simp +decide only [w4_0, w4_1, w4_2, w4_5, w4_10, w4_11, w4_12, w4_15, w4_16, w4_17, w4_20, w4_21, w4_22, w4_34, w4_35, w4_38, w4_39, w4_40, w4_41, w4_42, w4_43, w4_46, w4_47, isO_put, Option.toList_some, List.cons_append, List.nil_append, true_and, and_true, or_true, ↓reduceIte, g3, g5, aw3, as3, ai5, ain5, ae5, ain5, t5, t41, e1, bz, r, e2]
      refine t18 r (u3_DG hd) (u3_EN hE) (u3_nOk hn) ?_
      exact hq
    · rw [if_neg e2] at hq
      simp +decide only [w4_0, w4_1, w4_2, w4_5, w4_10, w4_11, w4_12, w4_15, w4_16, w4_17, w4_20, w4_21, w4_22, w4_25, w4_26, w4_27, w4_28, w4_31, w4_46, w4_47, isO_put, Option.toList_some, List.cons_append, List.nil_append, true_and, and_true, or_true, ↓reduceIte, g5, ai5, ain5, ae5, ain5, t5, t41, e1, bz, r, e2]
      refine t20 r hd hE hn ?_
      exact hq
end E

section F
variable {lw : LW} {H : AH} {p j : Nat} {s s' s1 s2 : St} {Q : Option Value → AH → Prop} {a b c d e x y t u v w z : Int32} {k n X Y : Nat}
def MEM (s : St) (X : Nat) (z : Int32) : Prop := ∃ k, k < dN s X ∧ sA s 6 (X * 32 + k) = z
def ND (s : St) (X : Nat) : Prop := ∀ k k', k < k' → k' < dN s X → sA s 6 (X * 32 + k) ≠ sA s 6 (X * 32 + k')
theorem MEM.of (h6 : sA s' 6 = sA s 6) (h7 : sA s' 7 = sA s 7) : MEM s' X z ↔ MEM s X z := by unfold MEM dN; rw [h6, h7]
theorem ND.of (h6 : sA s' 6 = sA s 6) (h7 : sA s' 7 = sA s 7) : ND s' X ↔ ND s X := by unfold ND dN; rw [h6, h7]
theorem DG.dn (h : DG s) (hX : X < 32) : dN s X ≤ 32 ∧ (sA s 7 X).toInt = dN s X := by have := h X hX; unfold dN; omega
theorem aR_dN {κ : Nat} (hd : DG s) (hX : X < 32) (hx : x.toNatClampNeg = X) (hk : κ < dN s X) : dN (aR s x κ) X = dN s X - 1 := by
  have h0 := hd X hX
  unfold dN at *; unfold aR
  rw [sA_uA, if_neg (by simp), sA_uA, if_pos ⟨rfl, hx.symm⟩, hx, isb (by simp only [Int32.reduceToInt]; omega) (by simp only [Int32.reduceToInt]; omega)]; simp only [Int32.reduceToInt]; omega
theorem aR_6 {κ i : Nat} (hx : x.toNatClampNeg = X) : sA (aR s x κ) 6 (X * 32 + i) = if i = κ then sA s 6 (X * 32 + (dN s X - 1)) else sA s 6 (X * 32 + i) := by
  unfold aR; rw [sA_uA, hx]
  by_cases q : i = κ
  · subst q; rw [if_pos ⟨rfl, rfl⟩, if_pos rfl]
  · rw [if_neg (fun w => q (by omega)), if_neg q, sA_uA, if_neg (by simp)]
theorem rA_mem (hd : DG s) (hX : X < 32) (hx : x.toNatClampNeg = X) (nd : ND s X) : MEM (rA s x e) X z ↔ MEM s X z ∧ z ≠ e := by
  unfold rA; rw [hx]
  cases g : fnd s X e 0 (dN s X) with
  | none =>
    have q := fnd_none _ _ g
    show MEM s X z ↔ _
    constructor
    · rintro ⟨k, hk, rfl⟩; exact ⟨⟨k, hk, rfl⟩, q k (Nat.zero_le _) (by omega)⟩
    · exact fun h => h.1
  | some κ =>
    have q := fnd_some _ _ g
    have hk : κ < dN s X := by omega
    show MEM (aR s x κ) X z ↔ _
    unfold MEM
    rw [aR_dN hd hX hx hk]
    constructor
    · rintro ⟨k, h1, h2⟩
      rw [aR_6 hx] at h2
      by_cases w : k = κ
      · rw [if_pos w] at h2
        refine ⟨⟨dN s X - 1, by omega, h2⟩, ?_⟩
        rw [← h2, ← q.2.1]
        exact (nd κ (dN s X - 1) (by omega) (by omega)).symm
      · rw [if_neg w] at h2
        refine ⟨⟨k, by omega, h2⟩, ?_⟩
        rw [← h2, ← q.2.1]
        rcases Nat.lt_or_gt_of_ne w with w | w
        · exact nd k κ w hk
        · exact (nd κ k w (by omega)).symm
    · rintro ⟨⟨k, h1, h2⟩, h3⟩
      have w : k ≠ κ := fun w => h3 (by rw [← h2, w]; exact q.2.1)
      by_cases w2 : k = dN s X - 1
      · refine ⟨κ, by omega, ?_⟩
        rw [aR_6 hx, if_pos rfl, ← w2]; exact h2
      · refine ⟨k, by omega, ?_⟩
        rw [aR_6 hx, if_neg w]; exact h2
theorem rA_nd (hd : DG s) (hX : X < 32) (hx : x.toNatClampNeg = X) (nd : ND s X) : ND (rA s x e) X := by
  unfold rA; rw [hx]
  cases g : fnd s X e 0 (dN s X) with
  | none => exact nd
  | some κ =>
    have q := fnd_some _ _ g
    have hk : κ < dN s X := by omega
    show ND (aR s x κ) X
    unfold ND
    rw [aR_dN hd hX hx hk]
    intro k k' h1 h2
    rw [aR_6 hx, aR_6 hx]
    by_cases w : k = κ
    · rw [if_pos w, if_neg (by omega)]
      exact (nd k' (dN s X - 1) (by omega) (by omega)).symm
    · rw [if_neg w]
      by_cases w' : k' = κ
      · rw [if_pos w']; exact nd k (dN s X - 1) (by omega) (by omega)
      · rw [if_neg w']; exact nd k k' h1 (by omega)
theorem rA_ot (hd : DG s) (hY : Y < 32) (hx : x.toNatClampNeg = X) (hne : Y ≠ X) : dN (rA s x e) Y = dN s Y ∧ ∀ i, i < 32 → sA (rA s x e) 6 (Y * 32 + i) = sA s 6 (Y * 32 + i) := by
  unfold rA; rw [hx]
  cases g : fnd s X e 0 (dN s X) with
  | none => exact ⟨rfl, fun _ _ => rfl⟩
  | some κ =>
    show dN (aR s x κ) Y = dN s Y ∧ _
    have q := fnd_some _ _ g
    by_cases hX : X < 32
    · have hk := hd.dn hX
      refine ⟨?_, fun i hi => ?_⟩
      · unfold aR dN; rw [sA_uA, if_neg (by simp), sA_uA, if_neg (fun w => hne (by rw [← hx]; exact w.2))]
      · show sA (aR s x κ) 6 _ = _
        unfold aR; rw [sA_uA, if_neg (fun w => hne (by have := w.2; rw [hx] at this; omega)), sA_uA, if_neg (by simp)]
    · refine ⟨?_, fun i hi => ?_⟩
      · unfold aR dN; rw [sA_uA, if_neg (by simp), sA_uA, if_neg (fun w => hne (by rw [← hx]; exact w.2))]
      · show sA (aR s x κ) 6 _ = _
        unfold aR; rw [sA_uA, if_neg (fun w => hX (by have := w.2; rw [hx] at this; omega)), sA_uA, if_neg (by simp)]
theorem mem_congr (hd : DG s) (hY : Y < 32) (h1 : dN s' Y = dN s Y) (h2 : ∀ i, i < 32 → sA s' 6 (Y * 32 + i) = sA s 6 (Y * 32 + i)) : (MEM s' Y z ↔ MEM s Y z) ∧ (ND s' Y ↔ ND s Y) := by
  have g := hd.dn hY
  unfold MEM ND; rw [h1]
  refine ⟨⟨fun ⟨k, a, b⟩ => ⟨k, a, by rw [← h2 k (by omega)]; exact b⟩, fun ⟨k, a, b⟩ => ⟨k, a, by rw [h2 k (by omega)]; exact b⟩⟩, ⟨fun h k k' a b => ?_, fun h k k' a b => ?_⟩⟩
  · have := h k k' a b; rwa [h2 k (by omega), h2 k' (by omega)] at this
  · rw [h2 k (by omega), h2 k' (by omega)]; exact h k k' a b
theorem aA_in (hd : DG s) (hX : X < 32) (hx : x.toNatClampNeg = X) (hl : dN s X < 32) : dN (aA s x e) X = dN s X + 1 ∧ ∀ i, i < 32 → sA (aA s x e) 6 (X * 32 + i) = if i = dN s X then e else sA s 6 (X * 32 + i) := by
  have h0 := hd X hX
  unfold aA; rw [hx, if_pos (by unfold dN at hl; omega)]
  refine ⟨?_, fun i hi => ?_⟩
  · unfold dN; rw [sA_uA, if_pos ⟨rfl, rfl⟩, ia (by simp only [Int32.reduceToInt]; omega) (by simp only [Int32.reduceToInt]; omega)]; simp only [Int32.reduceToInt]; omega
  · rw [sA_uA, if_neg (by simp), sA_uA]
    by_cases q : i = dN s X
    · rw [if_pos ⟨rfl, by omega⟩, if_pos q]
    · rw [if_neg (fun w => q (by omega)), if_neg q]
theorem aA_mem (hd : DG s) (hX : X < 32) (hx : x.toNatClampNeg = X) (hl : dN s X < 32) : MEM (aA s x e) X z ↔ MEM s X z ∨ z = e := by
  obtain ⟨g1, g2⟩ := aA_in (e := e) hd hX hx hl
  unfold MEM; rw [g1]
  constructor
  · rintro ⟨k, h1, h2⟩
    rw [g2 k (by omega)] at h2
    by_cases q : k = dN s X
    · rw [if_pos q] at h2; exact Or.inr h2.symm
    · rw [if_neg q] at h2; exact Or.inl ⟨k, by omega, h2⟩
  · rintro (⟨k, h1, h2⟩ | h)
    · exact ⟨k, by omega, by rw [g2 k (by omega), if_neg (by omega)]; exact h2⟩
    · exact ⟨dN s X, by omega, by rw [g2 _ hl, if_pos rfl]; exact h.symm⟩
theorem aA_full (hX : X < 32) (hd : DG s) (hx : x.toNatClampNeg = X) (hl : ¬ dN s X < 32) : aA s x e = s := by
  have h0 := hd X hX
  unfold aA; rw [hx, if_neg (by unfold dN at hl; omega)]
theorem aA_nd (hd : DG s) (hX : X < 32) (hx : x.toNatClampNeg = X) (nd : ND s X) (ne : ¬ MEM s X e) : ND (aA s x e) X := by
  by_cases hl : dN s X < 32
  · obtain ⟨g1, g2⟩ := aA_in (e := e) hd hX hx hl
    unfold ND; rw [g1]
    intro k k' h1 h2
    rw [g2 k (by omega), g2 k' (by omega), if_neg (show ¬ k = dN s X by omega)]
    by_cases q : k' = dN s X
    · rw [if_pos q]; exact fun w => ne ⟨k, by omega, w⟩
    · rw [if_neg q]; exact nd k k' h1 (by omega)
  · rw [aA_full hX hd hx hl]; exact nd
theorem aA_ot (hY : Y < 32) (hX : X < 32) (hd : DG s) (hx : x.toNatClampNeg = X) (hne : Y ≠ X) : dN (aA s x e) Y = dN s Y ∧ ∀ i, i < 32 → sA (aA s x e) 6 (Y * 32 + i) = sA s 6 (Y * 32 + i) := by
  by_cases hl : dN s X < 32
  · have h0 := hd X hX
    unfold aA; rw [hx, if_pos (by unfold dN at hl; omega)]
    refine ⟨?_, fun i hi => ?_⟩
    · unfold dN; rw [sA_uA, if_neg (fun w => hne w.2), sA_uA, if_neg (by simp)]
    · rw [sA_uA, if_neg (by simp), sA_uA, if_neg (fun w => hne (by have := w.2; omega))]
  · rw [aA_full hX hd hx hl]; exact ⟨rfl, fun _ _ => rfl⟩
theorem aa2 (hd : DG s) {A B : Nat} (hA : A < 32) (hB : B < 32) (ha : a.toNatClampNeg = A) (hb : b.toNatClampNeg = B) (hab : A ≠ B) (hX : X < 32) (nd : ND s X) (ne : ¬ MEM s X e) :
    (MEM (aA (aA s a e) b e) X z → MEM s X z ∨ (z = e ∧ (X = A ∨ X = B))) ∧ ND (aA (aA s a e) b e) X ∧ (dN s A < 32 → dN s B < 32 → (MEM (aA (aA s a e) b e) X z ↔ MEM s X z ∨ (z = e ∧ (X = A ∨ X = B)))) ∧ (dN (aA (aA s a e) b e) X ≤ dN s X + (if X = A ∨ X = B then 1 else 0)) := by
  have hd1 : DG (aA s a e) := aA_DG hd
  by_cases q1 : X = B
  · subst q1
    have o := aA_ot (e := e) hB hA hd ha (Ne.symm hab)
    have c1 := fun z => mem_congr (z := z) hd hB o.1 o.2
    have nd1 : ND (aA s a e) X := ((c1 e).2).2 nd
    refine ⟨fun h => ?_, aA_nd hd1 hB hb nd1 (fun w => ne (((c1 e).1).1 w)), fun l1 l2 => ?_, ?_⟩
    · by_cases hl : dN (aA s a e) X < 32
      · rcases (aA_mem hd1 hB hb hl).1 h with h | h
        · exact Or.inl (((c1 z).1).1 h)
        · exact Or.inr ⟨h, Or.inr rfl⟩
      · rw [aA_full hB hd1 hb hl] at h; exact Or.inl (((c1 z).1).1 h)
    · rw [aA_mem hd1 hB hb (by rw [o.1]; exact l2), (c1 z).1]; simp
    · rw [if_pos (Or.inr rfl)]
      by_cases hl : dN (aA s a e) X < 32
      · rw [(aA_in hd1 hB hb hl).1, o.1]; omega
      · rw [aA_full hB hd1 hb hl, o.1]; omega
  · have o := aA_ot (e := e) hX hB hd1 hb q1
    have c1 := fun z => mem_congr (z := z) hd1 hX o.1 o.2
    by_cases q2 : X = A
    · subst q2
      refine ⟨fun h => ?_, ((c1 e).2).2 (aA_nd hd hX ha nd ne), fun l1 l2 => ?_, ?_⟩
      · rw [(c1 z).1] at h
        by_cases hl : dN s X < 32
        · rcases (aA_mem hd hX ha hl).1 h with h | h
          · exact Or.inl h
          · exact Or.inr ⟨h, Or.inl rfl⟩
        · rw [aA_full hX hd ha hl] at h; exact Or.inl h
      · rw [(c1 z).1, aA_mem hd hX ha l1]; simp
      · rw [if_pos (Or.inl rfl), o.1]
        by_cases hl : dN s X < 32
        · rw [(aA_in hd hX ha hl).1]; omega
        · rw [aA_full hX hd ha hl]; omega
    · have o2 := aA_ot (e := e) hX hA hd ha q2
      have c2 := fun z => mem_congr (z := z) hd hX o2.1 o2.2
      refine ⟨fun h => ?_, ((c1 e).2).2 (((c2 e).2).2 nd), fun l1 l2 => ?_, ?_⟩
      · rw [(c1 z).1, (c2 z).1] at h; exact Or.inl h
      · rw [(c1 z).1, (c2 z).1]; simp [q1, q2]
      · rw [o.1, o2.1]; omega
theorem ra2 (hd : DG s) {A B : Nat} (hA : A < 32) (hB : B < 32) (ha : a.toNatClampNeg = A) (hb : b.toNatClampNeg = B) (hab : A ≠ B) (hX : X < 32) (nd : ∀ X, X < 32 → ND s X) :
    (MEM (rA (rA s a e) b e) X z ↔ MEM s X z ∧ ¬ (z = e ∧ (X = A ∨ X = B))) ∧ ND (rA (rA s a e) b e) X := by
  have hd1 : DG (rA s a e) := rA_DG hd
  by_cases q1 : X = B
  · subst q1
    have o := rA_ot (e := e) hd hB ha (Ne.symm hab)
    have c1 := fun z => mem_congr (z := z) hd hB o.1 o.2
    have nd1 : ND (rA s a e) X := ((c1 e).2).2 (nd X hX)
    refine ⟨?_, rA_nd hd1 hB hb nd1⟩
    rw [rA_mem hd1 hB hb nd1, (c1 z).1]; simp
  · have o := rA_ot (e := e) hd1 hX hb q1
    have c1 := fun z => mem_congr (z := z) hd1 hX o.1 o.2
    by_cases q2 : X = A
    · subst q2
      refine ⟨?_, ((c1 e).2).2 (rA_nd hd hX ha (nd X hX))⟩
      rw [(c1 z).1, rA_mem hd hX ha (nd X hX)]; simp
    · have o2 := rA_ot (e := e) hd hX ha q2
      have c2 := fun z => mem_congr (z := z) hd hX o2.1 o2.2
      refine ⟨?_, ((c1 e).2).2 (((c2 e).2).2 (nd X hX))⟩
      rw [(c1 z).1, (c2 z).1]; simp [q1, q2]
def Bo (s : St) : Prop := ∀ i, i < 128 → (sA s 5 i ≠ 0 → sA s 4 i ≠ 0) ∧ (sA s 4 i ≠ 0 → sA s 1 i ≠ sA s 2 i)
def Ad (s : St) : Prop := ∀ X, X < 32 → ND s X ∧ ∀ z, MEM s X z → vi z = true ∧ sA s 5 z.toNatClampNeg ≠ 0 ∧ ((sA s 1 z.toNatClampNeg).toNatClampNeg = X ∨ (sA s 2 z.toNatClampNeg).toNatClampNeg = X)
def Iv (s : St) : Prop := DG s ∧ EN s ∧ nOk s ∧ Bo s ∧ Ad s
theorem Sr.Iv (g : Sr s s') (h : Iv s) : Iv s' := by
  have A := fun t h1 h2 h3 h4 => g.2.2.1 t h1 h2 h3 h4
  have h1 := A 1 (by decide) (by decide) (by decide) (by decide)
  have h2 := A 2 (by decide) (by decide) (by decide) (by decide)
  have h4 := A 4 (by decide) (by decide) (by decide) (by decide)
  have h5 := A 5 (by decide) (by decide) (by decide) (by decide)
  have h6 := A 6 (by decide) (by decide) (by decide) (by decide)
  have h7 := A 7 (by decide) (by decide) (by decide) (by decide)
  refine ⟨h.1.of g, g.EN h.2.1, g.nOk h.2.2.1, ?_, ?_⟩
  · unfold Bo; rw [h1, h2, h4, h5]; exact h.2.2.2.1
  · intro X hX
    have := h.2.2.2.2 X hX
    refine ⟨(ND.of h6 h7).2 this.1, fun z hz => ?_⟩
    rw [h1, h2, h5]; exact this.2 z ((MEM.of h6 h7).1 hz)
theorem EN.cl (h : EN s) (hn : nOk s) {i : Nat} (hi : i < 128) : (sA s 1 i).toNatClampNeg < 32 ∧ (sA s 2 i).toNatClampNeg < 32 := by
  have := h i hi; have := hn.2; rw [cln, cln]; omega
theorem cl_inj {i j : Int32} (hi : 0 ≤ i.toInt) (hj : 0 ≤ j.toInt) (h : i.toNatClampNeg = j.toNatClampNeg) : i = j := by
  rw [cln, cln] at h; rw [eq32]; omega
theorem vi_cl (h : vi e = true) : e.toNatClampNeg < 128 := by have := vi_rg h; rw [cln]; omega
theorem jT_5 {i : Nat} (h : vi e = true) (h5 : sA s 5 e.toNatClampNeg = 0) : sA (jT s e) 5 i = if i = e.toNatClampNeg then 1 else sA s 5 i := by
  unfold jT; rw [if_pos ⟨h, h5⟩, aA_A (by decide) (by decide), aA_A (by decide) (by decide), sA_uJ, sA_uI, sA_uA]; simp only [true_and]
theorem lT_5 {i : Nat} (h : vi e = true) (h5 : sA s 5 e.toNatClampNeg ≠ 0) : sA (lT s e) 5 i = if i = e.toNatClampNeg then 0 else sA s 5 i := by
  unfold lT; rw [if_pos ⟨h, h5⟩, rA_A (by decide) (by decide), rA_A (by decide) (by decide), sA_uJ, sA_uI, sA_uA]; simp only [true_and]
theorem jT_t (h : vi e = true) (h5 : sA s 5 e.toNatClampNeg = 0) : sI (jT s e) 13 = sI s 13 + 1 ∧ sJ (jT s e) 14 = sJ s 14 + (sA s 3 e.toNatClampNeg).toInt64 := by
  unfold jT; rw [if_pos ⟨h, h5⟩, aA_I, aA_I, aA_J, aA_J, sI_uJ, sI_uI, sJ_uJ]; exact ⟨rfl, rfl⟩
theorem lT_t (h : vi e = true) (h5 : sA s 5 e.toNatClampNeg ≠ 0) : sI (lT s e) 13 = sI s 13 - 1 ∧ sJ (lT s e) 14 = sJ s 14 - (sA s 3 e.toNatClampNeg).toInt64 := by
  unfold lT; rw [if_pos ⟨h, h5⟩, rA_I, rA_I, rA_J, rA_J, sI_uJ, sI_uI, sJ_uJ]; exact ⟨rfl, rfl⟩
theorem cab (hI : Iv s) (h : vi e = true) (h4 : sA s 4 e.toNatClampNeg ≠ 0) : (sA s 1 e.toNatClampNeg).toNatClampNeg ≠ (sA s 2 e.toNatClampNeg).toNatClampNeg := by
  have g := hI.2.1 _ (vi_cl h)
  exact fun w => (hI.2.2.2.1 _ (vi_cl h)).2 h4 (cl_inj g.1.1 g.2.1 w)
theorem inj_vi (h1 : vi e = true) (h2 : vi z = true) (h : e.toNatClampNeg = z.toNatClampNeg) : e = z := cl_inj (vi_rg h1).1 (vi_rg h2).1 h
theorem base_DG {v : Int32} {q : Int64} (hd : DG s) : DG (uJ (uI (uA s 5 k v) 13 c) 14 q) := by
  intro z hz; have := hd z hz; simpa only [sA_uJ, sA_uI, sA_uA, Nat.reduceEqDiff, false_and, if_false] using this
theorem base_6 {v : Int32} {q : Int64} : sA (uJ (uI (uA s 5 k v) 13 c) 14 q) 6 = sA s 6 := by funext i; simp only [sA_uJ, sA_uI, sA_uA, Nat.reduceEqDiff, false_and, if_false]
theorem base_7 {v : Int32} {q : Int64} : sA (uJ (uI (uA s 5 k v) 13 c) 14 q) 7 = sA s 7 := by funext i; simp only [sA_uJ, sA_uI, sA_uA, Nat.reduceEqDiff, false_and, if_false]
theorem jT_Iv (hI : Iv s) (h : vi e = true) (h4 : sA s 4 e.toNatClampNeg ≠ 0) (h5 : sA s 5 e.toNatClampNeg = 0) : Iv (jT s e) := by
  have hab := cab hI h h4
  have r := hI.2.1.cl hI.2.2.1 (vi_cl h)
  refine ⟨jT_DG hI.1, jT_EN hI.2.1, jT_nOk hI.2.2.1, ?_, ?_⟩
  · intro i hi
    have := hI.2.2.2.1 i hi
    rw [jT_5 h h5, jT_A (by decide) (by decide) (by decide), jT_A (by decide) (by decide) (by decide), jT_A (by decide) (by decide) (by decide)]
    refine ⟨fun q => ?_, this.2⟩
    by_cases w : i = e.toNatClampNeg
    · rw [w]; exact h4
    · rw [if_neg w] at q; exact this.1 q
  · intro X hX
    have ad := hI.2.2.2.2 X hX
    have nm : ¬ MEM s X e := fun w => (ad.2 e w).2.1 h5
    have G := fun z => aa2 (z := z) (X := X) (e := e) (a := sA s 1 e.toNatClampNeg) (b := sA s 2 e.toNatClampNeg) (base_DG (k := e.toNatClampNeg) (v := 1) (c := sI s 13 + 1) (q := sJ s 14 + (sA s 3 e.toNatClampNeg).toInt64) hI.1) r.1 r.2 rfl rfl hab hX ((ND.of base_6 base_7).2 ad.1) (fun w => nm ((MEM.of base_6 base_7).1 w))
    have hj : jT s e = aA (aA (uJ (uI (uA s 5 e.toNatClampNeg 1) 13 (sI s 13 + 1)) 14 (sJ s 14 + (sA s 3 e.toNatClampNeg).toInt64)) (sA s 1 e.toNatClampNeg) e) (sA s 2 e.toNatClampNeg) e := by unfold jT; rw [if_pos ⟨h, h5⟩]
    refine ⟨by rw [hj]; exact (G e).2.1, fun z hz => ?_⟩
    rw [jT_5 h h5, jT_A (by decide) (by decide) (by decide), jT_A (by decide) (by decide) (by decide)]
    rw [hj] at hz
    rcases (G z).1 hz with q | q
    · have q' := ad.2 z ((MEM.of base_6 base_7).1 q)
      refine ⟨q'.1, ?_, q'.2.2⟩
      split
      · decide
      · exact q'.2.1
    · obtain ⟨rfl, q⟩ := q
      refine ⟨h, by rw [if_pos rfl]; decide, q.elim (fun w => Or.inl w.symm) (fun w => Or.inr w.symm)⟩
theorem lT_Iv (hI : Iv s) (h : vi e = true) (h5 : sA s 5 e.toNatClampNeg ≠ 0) : Iv (lT s e) := by
  have h4 := (hI.2.2.2.1 _ (vi_cl h)).1 h5
  have hab := cab hI h h4
  have r := hI.2.1.cl hI.2.2.1 (vi_cl h)
  refine ⟨lT_DG hI.1, lT_EN hI.2.1, lT_nOk hI.2.2.1, ?_, ?_⟩
  · intro i hi
    have := hI.2.2.2.1 i hi
    rw [lT_5 h h5, lT_A (by decide) (by decide) (by decide), lT_A (by decide) (by decide) (by decide), lT_A (by decide) (by decide) (by decide)]
    refine ⟨fun q => ?_, this.2⟩
    by_cases w : i = e.toNatClampNeg
    · rw [if_pos w] at q; exact absurd rfl q
    · rw [if_neg w] at q; exact this.1 q
  · intro X hX
    have ad := hI.2.2.2.2 X hX
    have G := fun z => ra2 (z := z) (X := X) (e := e) (a := sA s 1 e.toNatClampNeg) (b := sA s 2 e.toNatClampNeg) (base_DG (k := e.toNatClampNeg) (v := 0) (c := sI s 13 - 1) (q := sJ s 14 - (sA s 3 e.toNatClampNeg).toInt64) hI.1) r.1 r.2 rfl rfl hab hX (fun X hX => (ND.of base_6 base_7).2 (hI.2.2.2.2 X hX).1)
    have hj : lT s e = rA (rA (uJ (uI (uA s 5 e.toNatClampNeg 0) 13 (sI s 13 - 1)) 14 (sJ s 14 - (sA s 3 e.toNatClampNeg).toInt64)) (sA s 1 e.toNatClampNeg) e) (sA s 2 e.toNatClampNeg) e := by unfold lT; rw [if_pos ⟨h, h5⟩]
    refine ⟨by rw [hj]; exact (G e).2, fun z hz => ?_⟩
    rw [lT_5 h h5, lT_A (by decide) (by decide) (by decide), lT_A (by decide) (by decide) (by decide)]
    rw [hj] at hz
    obtain ⟨q1, q2⟩ := (G z).1.1 hz
    have q' := ad.2 z ((MEM.of base_6 base_7).1 q1)
    refine ⟨q'.1, ?_, q'.2.2⟩
    split
    · rename_i w
      have := inj_vi q'.1 h w
      subst this
      exact absurd ⟨rfl, q'.2.2.elim (fun w => Or.inl w.symm) (fun w => Or.inr w.symm)⟩ q2
    · exact q'.2.1
theorem frS_4 {i : Nat} : sA (frS s e) 4 i = if i = e.toNatClampNeg then 0 else sA s 4 i := by unfold frS; rw [sA_uI, sA_uA, if_neg (by simp), sA_uA]; simp only [true_and]
theorem frS_5 {i : Nat} : sA (frS s e) 5 i = if i = e.toNatClampNeg then 0 else sA s 5 i := by unfold frS; rw [sA_uI, sA_uA]; simp only [true_and]; split; rfl; rw [sA_uA, if_neg (by simp)]
theorem frS_Iv (hI : Iv s) (h : vi e = true) (h5 : sA s 5 e.toNatClampNeg = 0) : Iv (frS s e) := by
  refine ⟨frS_DG hI.1, frS_EN hI.2.1, frS_nOk hI.2.2.1, ?_, ?_⟩
  · intro i hi
    have := hI.2.2.2.1 i hi
    rw [frS_5, frS_4, frS_A (by decide) (by decide), frS_A (by decide) (by decide)]
    by_cases w : i = e.toNatClampNeg
    · rw [if_pos w, if_pos w]; exact ⟨fun q => absurd rfl q, fun q => absurd rfl q⟩
    · rw [if_neg w, if_neg w]; exact this
  · intro X hX
    have ad := hI.2.2.2.2 X hX
    refine ⟨(ND.of (frS_A (by decide) (by decide)) (frS_A (by decide) (by decide))).2 ad.1, fun z hz => ?_⟩
    have q := ad.2 z ((MEM.of (frS_A (by decide) (by decide)) (frS_A (by decide) (by decide))).1 hz)
    rw [frS_5, frS_A (by decide) (by decide), frS_A (by decide) (by decide)]
    refine ⟨q.1, ?_, q.2.2⟩
    split
    · rename_i w; rw [w] at q; exact absurd h5 q.2.1
    · exact q.2.1
theorem u3_Iv (hI : Iv s) : Iv (uA s 3 k c) := by
  refine ⟨u3_DG hI.1, u3_EN hI.2.1, u3_nOk hI.2.2.1, ?_, ?_⟩
  · unfold Bo; rw [sAn (by decide), sAn (by decide), sAn (by decide), sAn (by decide)]; exact hI.2.2.2.1
  · intro X hX
    have ad := hI.2.2.2.2 X hX
    refine ⟨(ND.of (sAn (by decide)) (sAn (by decide))).2 ad.1, fun z hz => ?_⟩
    have q := ad.2 z ((MEM.of (sAn (by decide)) (sAn (by decide))).1 hz)
    rw [sAn (by decide), sAn (by decide), sAn (by decide)]; exact q
theorem stE_A {t : Nat} (h : t = 6 ∨ t = 7) : sA (stE s a b c d) t = sA s t := by
  unfold stE; funext i; rcases h with rfl | rfl <;> simp only [sA_uI, sA_uA, Nat.reduceEqDiff, false_and, if_false]
theorem stE_1 {i : Nat} : (sA (stE s a b c d) 1 i = if i = a.toNatClampNeg then b else sA s 1 i) ∧ (sA (stE s a b c d) 2 i = if i = a.toNatClampNeg then c else sA s 2 i) ∧ (sA (stE s a b c d) 3 i = if i = a.toNatClampNeg then d else sA s 3 i) ∧ (sA (stE s a b c d) 4 i = if i = a.toNatClampNeg then 1 else sA s 4 i) ∧ (sA (stE s a b c d) 5 i = if i = a.toNatClampNeg then 0 else sA s 5 i) := by
  unfold stE; simp only [sA_uI, sA_uA, Nat.reduceEqDiff, false_and, true_and, if_false, and_self]
theorem stE_Iv (hI : Iv s) (ha : vi a = true) (h4 : sA s 4 a.toNatClampNeg = 0) (hb : 0 ≤ b.toInt ∧ b.toInt < (sI s 0).toInt) (hc : 0 ≤ c.toInt ∧ c.toInt < (sI s 0).toInt) (hbc : b ≠ c) : Iv (stE s a b c d) := by
  have h5 : sA s 5 a.toNatClampNeg = 0 := Decidable.byContradiction fun w => (hI.2.2.2.1 _ (vi_cl ha)).1 w h4
  refine ⟨stE_DG hI.1, stE_EN hI.2.1 hb hc, stE_nOk hI.2.2.1, ?_, ?_⟩
  · intro i hi
    have := hI.2.2.2.1 i hi
    rw [stE_1.1, stE_1.2.1, stE_1.2.2.2.1, stE_1.2.2.2.2]
    by_cases w : i = a.toNatClampNeg
    · simp only [if_pos w]; exact ⟨fun q => absurd rfl q, fun _ => hbc⟩
    · simp only [if_neg w]; exact this
  · intro X hX
    have ad := hI.2.2.2.2 X hX
    refine ⟨(ND.of (stE_A (Or.inl rfl)) (stE_A (Or.inr rfl))).2 ad.1, fun z hz => ?_⟩
    have q := ad.2 z ((MEM.of (stE_A (Or.inl rfl)) (stE_A (Or.inr rfl))).1 hz)
    have w : ¬ z.toNatClampNeg = a.toNatClampNeg := fun w => q.2.1 (by rw [w]; exact h5)
    rw [stE_1.1, stE_1.2.1, stE_1.2.2.2.2, if_neg w, if_neg w, if_neg w]; exact q
theorem stL2_A : sA (stL2 s a b) = sA s := by unfold stL2; funext t i; rw [sA_uI, sA_uI]
theorem stL2_I (h1 : k ≠ 15) (h2 : k ≠ 16) : sI (stL2 s a b) k = sI s k := by unfold stL2; rw [sI_uI, if_neg h2, sI_uI, if_neg h1]
theorem stL2_15 : sI (stL2 s a b) 15 = a ∧ sI (stL2 s a b) 16 = b := by unfold stL2; rw [sI_uI, if_neg (by decide), sI_uI, if_pos rfl, sI_uI, if_pos rfl]; exact ⟨rfl, rfl⟩
theorem stL2_J : sJ (stL2 s a b) k = sJ s k := by unfold stL2; rw [sJ_uI, sJ_uI]
theorem stL2_Iv (hI : Iv s) : Iv (stL2 s a b) := by
  have A : ∀ t, sA (stL2 s a b) t = sA s t := fun t => by rw [stL2_A]
  have I : sI (stL2 s a b) 0 = sI s 0 := stL2_I (by decide) (by decide)
  refine ⟨?_, hI.2.1.of I (A _) (A _), hI.2.2.1.of I, ?_, ?_⟩
  · unfold DG; rw [A]; exact hI.1
  · unfold Bo; rw [A, A, A, A]; exact hI.2.2.2.1
  · intro X hX
    have ad := hI.2.2.2.2 X hX
    refine ⟨(ND.of (A _) (A _)).2 ad.1, fun z hz => ?_⟩
    have q := ad.2 z ((MEM.of (A _) (A _)).1 hz)
    rw [A, A, A]; exact q
end F

section G
variable {lw : LW} {H : AH} {p j : Nat} {s s' s1 s2 : St} {Q : Option Value → AH → Prop} {a b c d e x y t u v w z : Int32} {k n X Y : Nat}
def PK (s : St) : Prop := ∀ y, y < 32 → sA s 9 y = -1 ∨ ∃ X, X < 32 ∧ MEM s X (sA s 9 y)
theorem Sr.mem (g : Sr s s') : MEM s' X z ↔ MEM s X z := MEM.of (g.2.2.1 6 (by decide) (by decide) (by decide) (by decide)) (g.2.2.1 7 (by decide) (by decide) (by decide) (by decide))
theorem vs1_PK {ex : Int32} (hX : X < 32) (hm : MEM s X e) (h : PK s) : PK (vs1 s x ex e t).1 := by
  intro y hy
  have hS : Sr s (vs1 s x ex e t).1 := vs1_Sr
  rw [show (∃ X, X < 32 ∧ MEM (vs1 s x ex e t).1 X (sA (vs1 s x ex e t).1 9 y)) ↔ (∃ X, X < 32 ∧ MEM s X (sA (vs1 s x ex e t).1 9 y)) from ⟨fun ⟨X, a, b⟩ => ⟨X, a, hS.mem.1 b⟩, fun ⟨X, a, b⟩ => ⟨X, a, hS.mem.2 b⟩⟩]
  unfold vs1; split
  · exact h y hy
  · split
    · exact h y hy
    · show sA (uA (uA (uA (uA s 8 _ 1) 9 _ e) 10 _ x) 11 _ _) 9 y = -1 ∨ ∃ X, X < 32 ∧ MEM s X (sA (uA (uA (uA (uA s 8 _ 1) 9 _ e) 10 _ x) 11 _ _) 9 y)
      rw [sA_uA, if_neg (by simp), sA_uA, if_neg (by simp), sA_uA]
      split
      · exact Or.inr ⟨X, hX, hm⟩
      · rw [sA_uA, if_neg (by simp)]; exact h y hy
theorem vsF_PK {ex : Int32} (hX : x.toNatClampNeg < 32) : ∀ (m j : Nat) (q : St × Int32), j + m ≤ dN q.1 x.toNatClampNeg → PK q.1 → PK (vsF x ex j m q).1
  | 0, j, q, _, h => h
  | m + 1, j, q, hj, h => by
    unfold vsF
    refine vsF_PK hX m (j + 1) _ ?_ (vs1_PK hX ⟨j, by omega, rfl⟩ h)
    have hS : Sr q.1 (vs1 q.1 x ex (sA q.1 6 (x.toNatClampNeg * 32 + j)) q.2).1 := vs1_Sr
    unfold dN at *; rw [hS.2.2.1 7 (by decide) (by decide) (by decide) (by decide)]; omega
theorem vis_PK {ex : Int32} {q : St × Int32} (h : PK q.1) : PK (vis q x ex).1 := by
  unfold vis; split
  · exact h
  · rename_i w
    have := rn32 (fun r => w (Or.inl r)) (Decidable.byContradiction fun r => w (Or.inr r))
    exact vsF_PK (by rw [cln]; omega) _ _ _ (by omega) h
theorem exF_PK {ex : Int32} : ∀ (m i : Nat) (q : St × Int32), PK q.1 → PK (exF ex i m q).1
  | 0, i, q, h => h
  | m + 1, i, q, h => by
    unfold exF; split
    · exact exF_PK m (i + 1) _ (vis_PK h)
    · exact h
theorem exq_PK {ex : Int32} : PK (exq s a ex).1 := by
  unfold exq
  refine exF_PK _ _ (_, _) ?_
  intro y hy
  left
  show sA (uA (uA (F2 s 0) 8 _ 1) 11 0 a) 9 y = -1
  rw [sA_uA, if_neg (by simp), sA_uA, if_neg (by simp), F2_9 hy]
theorem hvF_PK (hp : PK s) : ∀ (m : Nat) (best cur : Int32), (best = -1 ∨ ∃ X, X < 32 ∧ MEM s X best) → (hvF s m best cur = -1 ∨ ∃ X, X < 32 ∧ MEM s X (hvF s m best cur))
  | 0, best, cur, h => h
  | m + 1, best, cur, h => by
    unfold hvF; split
    · exact h
    · rename_i q
      split
      · exact h
      · have := rn32 (fun w => q (Or.inl w)) (Decidable.byContradiction fun w => q (Or.inr w))
        have g := hp cur.toNatClampNeg (by rw [cln]; omega)
        refine hvF_PK hp m _ _ ?_
        unfold hvy
        by_cases w1 : best = -1
        · rw [if_pos w1]; exact g
        · rw [if_neg w1]
          by_cases w2 : sA s 9 cur.toNatClampNeg = -1
          · rw [if_pos w2]; exact h
          · rw [if_neg w2]
            by_cases w3 : pc s best (sA s 9 cur.toNatClampNeg) = true
            · rw [if_pos w3]; exact g
            · rw [if_neg w3]; exact h
theorem lcF_ok : ∀ (m j : Nat) (best : Int32), j + m ≤ 128 → (best = -1 ∨ ((vi best = true ∧ sA s 4 best.toNatClampNeg ≠ 0) ∧ sA s 5 best.toNatClampNeg = 0)) →
    (lcF s j m best = -1 ∨ ((vi (lcF s j m best) = true ∧ sA s 4 (lcF s j m best).toNatClampNeg ≠ 0) ∧ sA s 5 (lcF s j m best).toNatClampNeg = 0))
  | 0, j, best, _, h => h
  | m + 1, j, best, hj, h => by
    unfold lcF
    refine lcF_ok m (j + 1) _ (by omega) ?_
    split
    · rename_i q
      unfold lcB at q; rw [Bool.and_eq_true] at q
      have q1 := of_decide_eq_true q.1
      have hF : (Int32.ofNat j).toInt = j := Int32.toInt_ofNat_of_lt (by omega)
      have hG : (Int32.ofNat j).toNatClampNeg = j := by rw [cln, hF]; omega
      have g : Int32.ofNat j = -1 ∨ ((vi (Int32.ofNat j) = true ∧ sA s 4 (Int32.ofNat j).toNatClampNeg ≠ 0) ∧ sA s 5 (Int32.ofNat j).toNatClampNeg = 0) := by
        right; rw [hG]; exact ⟨⟨vi_t (by omega), q1.1⟩, q1.2⟩
      unfold lgt; split
      · exact g
      · split
        · exact h
        · split
          · exact h
          · exact g
    · exact h
def Sm (s s' : St) : Prop := sI s' 0 = sI s 0 ∧ sA s' 1 = sA s 1 ∧ sA s' 2 = sA s 2
theorem iU_ok (hI : Iv s) (he : vi e = true) (h4 : sA s 4 e.toNatClampNeg ≠ 0) (h5 : sA s 5 e.toNatClampNeg = 0) :
    Iv (iU s e) ∧ Sm s (iU s e) ∧ sA (iU s e) 3 = sA s 3 ∧ sA (iU s e) 4 = sA s 4 ∧ sI (iU s e) 12 = sI s 12 ∧
    ((sI (iU s e) 15 = e ∧ sA (iU s e) 5 e.toNatClampNeg ≠ 0 ∧
      ((sI (iU s e) 16 = -1 ∧ sI (iU s e) 13 = sI s 13 + 1 ∧ sJ (iU s e) 14 = sJ s 14 + (sA s 3 e.toNatClampNeg).toInt64) ∨
       (∃ m, sI (iU s e) 16 = m ∧ m ≠ -1 ∧ m ≠ e ∧ vi m = true ∧ sA s 4 m.toNatClampNeg ≠ 0 ∧ sI (iU s e) 13 = sI s 13 - 1 + 1 ∧ sJ (iU s e) 14 = sJ s 14 - (sA s 3 m.toNatClampNeg).toInt64 + (sA s 3 e.toNatClampNeg).toInt64))) ∨
     (sI (iU s e) 15 = -1 ∧ sI (iU s e) 16 = -1 ∧ sA (iU s e) 5 e.toNatClampNeg = 0 ∧ sI (iU s e) 13 = sI s 13 ∧ sJ (iU s e) 14 = sJ s 14)) := by
  have hS : Sr s (sx s e) := sx_Sr
  have A := fun t h1 h2 h3 h4 => hS.2.2.1 t h1 h2 h3 h4
  have a1 := A 1 (by decide) (by decide) (by decide) (by decide)
  have a2 := A 2 (by decide) (by decide) (by decide) (by decide)
  have a3 := A 3 (by decide) (by decide) (by decide) (by decide)
  have a4 := A 4 (by decide) (by decide) (by decide) (by decide)
  have a5 := A 5 (by decide) (by decide) (by decide) (by decide)
  have hIx := hS.Iv hI
  have h4x : sA (sx s e) 4 e.toNatClampNeg ≠ 0 := by rw [a4]; exact h4
  have h5x : sA (sx s e) 5 e.toNatClampNeg = 0 := by rw [a5]; exact h5
  unfold iU
  by_cases e1 : sA (sx s e) 8 (sA s 2 e.toNatClampNeg).toNatClampNeg = 0
  · rw [if_pos e1]
    have T := jT_t he h5x
    refine ⟨stL2_Iv (jT_Iv hIx he h4x h5x), ⟨?_, ?_, ?_⟩, ?_, ?_, ?_, Or.inl ⟨stL2_15.1, ?_, Or.inl ⟨stL2_15.2, ?_, ?_⟩⟩⟩
    · rw [stL2_I (by decide) (by decide), jT_I (by decide), hS.1]
    · rw [stL2_A, jT_A (by decide) (by decide) (by decide), a1]
    · rw [stL2_A, jT_A (by decide) (by decide) (by decide), a2]
    · rw [stL2_A, jT_A (by decide) (by decide) (by decide), a3]
    · rw [stL2_A, jT_A (by decide) (by decide) (by decide), a4]
    · rw [stL2_I (by decide) (by decide), jT_I (by decide), hS.1]
    · rw [stL2_A, jT_5 he h5x, if_pos rfl]; decide
    · rw [stL2_I (by decide) (by decide), T.1, hS.1]
    · rw [stL2_J, T.2, hS.2.1, a3]
  · rw [if_neg e1]
    have hm := hvF_PK (exq_PK (s := s) (a := sA s 1 e.toNatClampNeg) (ex := -1)) 32 (-1) (sA s 2 e.toNatClampNeg) (Or.inl rfl)
    change hvF (sx s e) 32 (-1) (sA s 2 e.toNatClampNeg) = -1 ∨ ∃ X, X < 32 ∧ MEM (sx s e) X (hvF (sx s e) 32 (-1) (sA s 2 e.toNatClampNeg)) at hm
    generalize hvF (sx s e) 32 (-1) (sA s 2 e.toNatClampNeg) = m at *
    by_cases e2 : m = -1 ∨ pc (sx s e) e m = false
    · rw [if_pos e2]
      refine ⟨stL2_Iv hIx, ⟨?_, ?_, ?_⟩, ?_, ?_, ?_, Or.inr ⟨stL2_15.1, stL2_15.2, ?_, ?_, ?_⟩⟩
      · rw [stL2_I (by decide) (by decide), hS.1]
      · rw [stL2_A, a1]
      · rw [stL2_A, a2]
      · rw [stL2_A, a3]
      · rw [stL2_A, a4]
      · rw [stL2_I (by decide) (by decide), hS.1]
      · rw [stL2_A]; exact h5x
      · rw [stL2_I (by decide) (by decide), hS.1]
      · rw [stL2_J, hS.2.1]
    · rw [if_neg e2]
      have e3 : m ≠ -1 := fun w => e2 (Or.inl w)
      obtain ⟨X, hX, hM⟩ := hm.resolve_left e3
      obtain ⟨m1, m2, _⟩ := (hIx.2.2.2.2 X hX).2 m hM
      have hne : m ≠ e := fun w => m2 (by rw [w]; exact h5x)
      have hne' : ¬ e.toNatClampNeg = m.toNatClampNeg := fun w => hne (inj_vi m1 he w.symm)
      have h4m : sA (sx s e) 4 m.toNatClampNeg ≠ 0 := (hIx.2.2.2.1 _ (vi_cl m1)).1 m2
      have hIl := lT_Iv hIx m1 m2
      have h5l : sA (lT (sx s e) m) 5 e.toNatClampNeg = 0 := by rw [lT_5 m1 m2, if_neg hne']; exact h5x
      have h4l : sA (lT (sx s e) m) 4 e.toNatClampNeg ≠ 0 := by rw [lT_A (by decide) (by decide) (by decide)]; exact h4x
      have T := jT_t he h5l
      have T2 := lT_t m1 m2
      refine ⟨stL2_Iv (jT_Iv hIl he h4l h5l), ⟨?_, ?_, ?_⟩, ?_, ?_, ?_, Or.inl ⟨stL2_15.1, ?_, Or.inr ⟨m, stL2_15.2, e3, hne, m1, by rw [← a4]; exact h4m, ?_, ?_⟩⟩⟩
      · rw [stL2_I (by decide) (by decide), jT_I (by decide), lT_I (by decide), hS.1]
      · rw [stL2_A, jT_A (by decide) (by decide) (by decide), lT_A (by decide) (by decide) (by decide), a1]
      · rw [stL2_A, jT_A (by decide) (by decide) (by decide), lT_A (by decide) (by decide) (by decide), a2]
      · rw [stL2_A, jT_A (by decide) (by decide) (by decide), lT_A (by decide) (by decide) (by decide), a3]
      · rw [stL2_A, jT_A (by decide) (by decide) (by decide), lT_A (by decide) (by decide) (by decide), a4]
      · rw [stL2_I (by decide) (by decide), jT_I (by decide), lT_I (by decide), hS.1]
      · rw [stL2_A, jT_5 he h5l, if_pos rfl]; decide
      · rw [stL2_I (by decide) (by decide), T.1, T2.1, hS.1]
      · rw [stL2_J, T.2, T2.2, lT_A (by decide) (by decide) (by decide), hS.2.1, a3]
theorem cT_ok (hI : Iv s) (he : vi e = true) (h5 : sA s 5 e.toNatClampNeg ≠ 0) :
    Iv (cT s e) ∧ Sm s (cT s e) ∧ sA (cT s e) 3 = sA s 3 ∧ (∀ i, sA (cT s e) 4 i = if i = e.toNatClampNeg then 0 else sA s 4 i) ∧ sI (cT s e) 12 = sI s 12 - 1 ∧ sI (cT s e) 16 = e ∧
    ((sI (cT s e) 15 = -1 ∧ sI (cT s e) 13 = sI s 13 - 1 ∧ sJ (cT s e) 14 = sJ s 14 - (sA s 3 e.toNatClampNeg).toInt64) ∨
     (∃ r, sI (cT s e) 15 = r ∧ r ≠ -1 ∧ r ≠ e ∧ vi r = true ∧ sA s 4 r.toNatClampNeg ≠ 0 ∧ sI (cT s e) 13 = sI s 13 - 1 + 1 ∧ sJ (cT s e) 14 = sJ s 14 - (sA s 3 e.toNatClampNeg).toInt64 + (sA s 3 r.toNatClampNeg).toInt64)) := by
  have T2 := lT_t he h5
  have hIl := lT_Iv hI he h5
  have h5l : sA (lT s e) 5 e.toNatClampNeg = 0 := by rw [lT_5 he h5, if_pos rfl]
  have hIf := frS_Iv hIl he h5l
  have hS : Sr (frS (lT s e) e) (cT1 s e) := sx_Sr
  have A := fun t h1 h2 h3 h4 => hS.2.2.1 t h1 h2 h3 h4
  have a1 : sA (cT1 s e) 1 = sA s 1 := by rw [A 1 (by decide) (by decide) (by decide) (by decide), frS_A (by decide) (by decide), lT_A (by decide) (by decide) (by decide)]
  have a2 : sA (cT1 s e) 2 = sA s 2 := by rw [A 2 (by decide) (by decide) (by decide) (by decide), frS_A (by decide) (by decide), lT_A (by decide) (by decide) (by decide)]
  have a3 : sA (cT1 s e) 3 = sA s 3 := by rw [A 3 (by decide) (by decide) (by decide) (by decide), frS_A (by decide) (by decide), lT_A (by decide) (by decide) (by decide)]
  have a4 : ∀ i, sA (cT1 s e) 4 i = if i = e.toNatClampNeg then 0 else sA s 4 i := fun i => by rw [A 4 (by decide) (by decide) (by decide) (by decide), frS_4, lT_A (by decide) (by decide) (by decide)]
  have i0 : sI (cT1 s e) 0 = sI s 0 := by rw [hS.1, frS_I (by decide), lT_I (by decide)]
  have i12 : sI (cT1 s e) 12 = sI s 12 - 1 := by rw [hS.1]; unfold frS; rw [sI_uI, if_pos rfl, lT_I (by decide)]
  have i13 : sI (cT1 s e) 13 = sI s 13 - 1 := by rw [hS.1, frS_I (by decide), T2.1]
  have j14 : sJ (cT1 s e) 14 = sJ s 14 - (sA s 3 e.toNatClampNeg).toInt64 := by rw [hS.2.1]; unfold frS; rw [sJ_uI, sJ_uA, sJ_uA, T2.2]
  have hIx := hS.Iv hIf
  have hr := lcF_ok (s := cT1 s e) 128 0 (-1) (by decide) (Or.inl rfl)
  unfold cT
  generalize lcF (cT1 s e) 0 128 (-1) = r at *
  by_cases e1 : r = -1
  · rw [if_pos e1]
    refine ⟨stL2_Iv hIx, ⟨?_, ?_, ?_⟩, ?_, fun i => ?_, ?_, stL2_15.2, Or.inl ⟨by rw [stL2_15.1]; exact e1, ?_, ?_⟩⟩
    · rw [stL2_I (by decide) (by decide), i0]
    · rw [stL2_A, a1]
    · rw [stL2_A, a2]
    · rw [stL2_A, a3]
    · rw [stL2_A, a4]
    · rw [stL2_I (by decide) (by decide), i12]
    · rw [stL2_I (by decide) (by decide), i13]
    · rw [stL2_J, j14]
  · rw [if_neg e1]
    obtain ⟨⟨r1, r2⟩, r3⟩ := hr.resolve_left e1
    have r2' := r2
    rw [a4] at r2'
    have hne : ¬ r.toNatClampNeg = e.toNatClampNeg := fun w => r2' (by rw [if_pos w])
    rw [if_neg hne] at r2'
    have T := jT_t r1 r3
    refine ⟨stL2_Iv (jT_Iv hIx r1 r2 r3), ⟨?_, ?_, ?_⟩, ?_, fun i => ?_, ?_, stL2_15.2, Or.inr ⟨r, stL2_15.1, e1, fun w => hne (by rw [w]), r1, r2', ?_, ?_⟩⟩
    · rw [stL2_I (by decide) (by decide), jT_I (by decide), i0]
    · rw [stL2_A, jT_A (by decide) (by decide) (by decide), a1]
    · rw [stL2_A, jT_A (by decide) (by decide) (by decide), a2]
    · rw [stL2_A, jT_A (by decide) (by decide) (by decide), a3]
    · rw [stL2_A, jT_A (by decide) (by decide) (by decide), a4]
    · rw [stL2_I (by decide) (by decide), jT_I (by decide), i12]
    · rw [stL2_I (by decide) (by decide), T.1, i13]
    · rw [stL2_J, T.2, j14, a3]
theorem rW_ok (hI : Iv s) (he : vi e = true) (h5 : sA s 5 e.toNatClampNeg ≠ 0) :
    Iv (rW s e c) ∧ Sm s (rW s e c) ∧ (∀ i, sA (rW s e c) 3 i = if i = e.toNatClampNeg then c else sA s 3 i) ∧ sA (rW s e c) 4 = sA s 4 ∧ sI (rW s e c) 12 = sI s 12 ∧ sI (rW s e c) 13 = sI s 13 - 1 + 1 ∧
    ((sI (rW s e c) 15 = -1 ∧ sI (rW s e c) 16 = -1 ∧ sA (rW s e c) 5 e.toNatClampNeg ≠ 0 ∧ sJ (rW s e c) 14 = sJ s 14 - (sA s 3 e.toNatClampNeg).toInt64 + c.toInt64) ∨
     (∃ r, sI (rW s e c) 15 = r ∧ sI (rW s e c) 16 = e ∧ r ≠ -1 ∧ r ≠ e ∧ vi r = true ∧ sA s 4 r.toNatClampNeg ≠ 0 ∧ sA (rW s e c) 5 e.toNatClampNeg = 0 ∧ sJ (rW s e c) 14 = sJ s 14 - (sA s 3 e.toNatClampNeg).toInt64 + (sA s 3 r.toNatClampNeg).toInt64)) := by
  have T2 := lT_t he h5
  have h4 := (hI.2.2.2.1 _ (vi_cl he)).1 h5
  have hIl := lT_Iv hI he h5
  have h5l : sA (lT s e) 5 e.toNatClampNeg = 0 := by rw [lT_5 he h5, if_pos rfl]
  have hIf := u3_Iv (k := e.toNatClampNeg) (c := c) hIl
  have hS : Sr (uA (lT s e) 3 e.toNatClampNeg c) (rW1 s e c) := sx_Sr
  have A := fun t h1 h2 h3 h4 => hS.2.2.1 t h1 h2 h3 h4
  have a1 : sA (rW1 s e c) 1 = sA s 1 := by rw [A 1 (by decide) (by decide) (by decide) (by decide), sAn (by decide), lT_A (by decide) (by decide) (by decide)]
  have a2 : sA (rW1 s e c) 2 = sA s 2 := by rw [A 2 (by decide) (by decide) (by decide) (by decide), sAn (by decide), lT_A (by decide) (by decide) (by decide)]
  have a3 : ∀ i, sA (rW1 s e c) 3 i = if i = e.toNatClampNeg then c else sA s 3 i := fun i => by rw [A 3 (by decide) (by decide) (by decide) (by decide), sA_uA, lT_A (by decide) (by decide) (by decide)]; simp only [true_and]
  have a4 : sA (rW1 s e c) 4 = sA s 4 := by rw [A 4 (by decide) (by decide) (by decide) (by decide), sAn (by decide), lT_A (by decide) (by decide) (by decide)]
  have a5 : sA (rW1 s e c) 5 e.toNatClampNeg = 0 := by rw [A 5 (by decide) (by decide) (by decide) (by decide), sAn (by decide)]; exact h5l
  have i0 : sI (rW1 s e c) 0 = sI s 0 := by rw [hS.1, sI_uA, lT_I (by decide)]
  have i12 : sI (rW1 s e c) 12 = sI s 12 := by rw [hS.1, sI_uA, lT_I (by decide)]
  have i13 : sI (rW1 s e c) 13 = sI s 13 - 1 := by rw [hS.1, sI_uA, T2.1]
  have j14 : sJ (rW1 s e c) 14 = sJ s 14 - (sA s 3 e.toNatClampNeg).toInt64 := by rw [hS.2.1, sJ_uA, T2.2]
  have hIx := hS.Iv hIf
  have hr := lcF_ok (s := rW1 s e c) 128 0 (-1) (by decide) (Or.inl rfl)
  unfold rW
  generalize lcF (rW1 s e c) 0 128 (-1) = r at *
  have h4x : sA (rW1 s e c) 4 e.toNatClampNeg ≠ 0 := by rw [a4]; exact h4
  by_cases e1 : r = -1 ∨ r = e
  · rw [if_pos e1]
    have T := jT_t he a5
    refine ⟨stL2_Iv (jT_Iv hIx he h4x a5), ⟨?_, ?_, ?_⟩, fun i => ?_, ?_, ?_, ?_, Or.inl ⟨stL2_15.1, stL2_15.2, ?_, ?_⟩⟩
    · rw [stL2_I (by decide) (by decide), jT_I (by decide), i0]
    · rw [stL2_A, jT_A (by decide) (by decide) (by decide), a1]
    · rw [stL2_A, jT_A (by decide) (by decide) (by decide), a2]
    · rw [stL2_A, jT_A (by decide) (by decide) (by decide), a3]
    · rw [stL2_A, jT_A (by decide) (by decide) (by decide), a4]
    · rw [stL2_I (by decide) (by decide), jT_I (by decide), i12]
    · rw [stL2_I (by decide) (by decide), T.1, i13]
    · rw [stL2_A, jT_5 he a5, if_pos rfl]; decide
    · rw [stL2_J, T.2, j14, a3, if_pos rfl]
  · rw [if_neg e1]
    have e2 : r ≠ -1 := fun w => e1 (Or.inl w)
    have e3 : r ≠ e := fun w => e1 (Or.inr w)
    obtain ⟨⟨r1, r2⟩, r3⟩ := hr.resolve_left e2
    have r2' := r2
    rw [a4] at r2'
    have hne : ¬ r.toNatClampNeg = e.toNatClampNeg := fun w => e3 (inj_vi r1 he w)
    have T := jT_t r1 r3
    refine ⟨stL2_Iv (jT_Iv hIx r1 r2 r3), ⟨?_, ?_, ?_⟩, fun i => ?_, ?_, ?_, ?_, Or.inr ⟨r, stL2_15.1, stL2_15.2, e2, e3, r1, r2', ?_, ?_⟩⟩
    · rw [stL2_I (by decide) (by decide), jT_I (by decide), i0]
    · rw [stL2_A, jT_A (by decide) (by decide) (by decide), a1]
    · rw [stL2_A, jT_A (by decide) (by decide) (by decide), a2]
    · rw [stL2_A, jT_A (by decide) (by decide) (by decide), a3]
    · rw [stL2_A, jT_A (by decide) (by decide) (by decide), a4]
    · rw [stL2_I (by decide) (by decide), jT_I (by decide), i12]
    · rw [stL2_I (by decide) (by decide), T.1, i13]
    · rw [stL2_A, jT_5 r1 r3, if_neg (fun w => hne w.symm)]; exact a5
    · rw [stL2_J, T.2, j14, a3, if_neg hne]
end G

section Hh
variable {lw : LW} {H : AH} {p j : Nat} {s s' s1 s2 : St} {Q : Option Value → AH → Prop} {a b c d e x y t u v w z : Int32} {k n X Y : Nat}
def stp2 (e l : Int32) : Int32 := (if e = -1 then 0 else 1) - (if l = -1 then 0 else 1)
def wI (s : St) (e : Int32) : Int64 := if e = -1 then 0 else (ew s e).toInt64
def wO (s : St) (l i o : Int32) : Int64 := if l = -1 then 0 else if l = i then o.toInt64 else (ew s l).toInt64
def WG (s : St) : Prop := ∀ i, i < 128 → -1000000 ≤ (sA s 3 i).toInt ∧ (sA s 3 i).toInt ≤ 1000000
theorem pr_iff : pr s e = true ↔ vi e = true ∧ sA s 4 e.toNatClampNeg ≠ 0 := by unfold pr; rw [Bool.and_eq_true, decide_eq_true_eq]
theorem tr_iff : tr s e = true ↔ vi e = true ∧ sA s 4 e.toNatClampNeg ≠ 0 ∧ sA s 5 e.toNatClampNeg ≠ 0 := by unfold tr; rw [Bool.and_eq_true, Bool.and_eq_true, decide_eq_true_eq, decide_eq_true_eq]
theorem ew_of (h : vi e = true) (h4 : sA s 4 e.toNatClampNeg ≠ 0) : ew s e = sA s 3 e.toNatClampNeg := if_pos (pr_iff.2 ⟨h, h4⟩)
theorem tr_t (h : vi e = true) (h4 : sA s 4 e.toNatClampNeg ≠ 0) (h5 : sA s 5 e.toNatClampNeg ≠ 0) : tr s e = true := tr_iff.2 ⟨h, h4, h5⟩
theorem tr_f (h5 : sA s 5 e.toNatClampNeg = 0) : tr s e = false := by
  cases q : tr s e with
  | false => rfl
  | true => exact absurd h5 (tr_iff.1 q).2.2
theorem m1_vi (h : vi e = true) : e ≠ -1 := fun w => by rw [w] at h; exact absurd h (by decide)
theorem j3 {q x y : Int64} : q + (x - y) = q - y + x := by rw [Int64.sub_eq_add_neg, Int64.sub_eq_add_neg]; ac_rfl
theorem j0 {q x : Int64} : q + (x - 0) = q + x := by rw [Int64.sub_zero]
theorem i3 {q : Int32} : q + 0 = q - 1 + 1 := by rw [Int32.sub_eq_add_neg, Int32.add_assoc]; rfl
def Mv (s s' : St) (i o : Int32) : Prop := sI s 13 + stp2 (sI s' 15) (sI s' 16) = sI s' 13 ∧ sJ s 14 + (wI s' (sI s' 15) - wO s' (sI s' 16) i o) = sJ s' 14
theorem iU_law (hI : Iv s) (he : vi e = true) (h4 : sA s 4 e.toNatClampNeg ≠ 0) (h5 : sA s 5 e.toNatClampNeg = 0) :
    (sI (iU s e) 15 = e ∨ sI (iU s e) 15 = -1) ∧ (tr (iU s e) e = decide (sI (iU s e) 15 = e)) ∧ sI (iU s e) 16 ≠ e ∧ ∀ o, Mv s (iU s e) e o := by
  have hm := m1_vi he
  obtain ⟨hI', -, a3, a4, -, h⟩ := iU_ok hI he h4 h5
  have h4' : sA (iU s e) 4 e.toNatClampNeg ≠ 0 := by rw [a4]; exact h4
  rcases h with ⟨h1, h2, h⟩ | ⟨h1, h2, h3, h6, h7⟩
  · refine ⟨Or.inl h1, by rw [tr_t he h4' h2, h1]; simp, ?_, fun o => ?_⟩
    · rcases h with ⟨g1, -⟩ | ⟨m, g1, g2, g3, -⟩
      · rw [g1]; exact fun w => hm w.symm
      · rw [g1]; exact g3
    · have ee : wI (iU s e) e = (sA s 3 e.toNatClampNeg).toInt64 := by unfold wI; rw [if_neg hm, ew_of he h4', a3]
      rcases h with ⟨g1, g2, g3⟩ | ⟨m, g1, g2, g3, g4, g5, g6, g7⟩
      · unfold Mv wO stp2; rw [h1, g1, g2, g3, ee, if_neg hm, if_pos rfl, if_pos rfl, j0]; exact ⟨rfl, rfl⟩
      · have em : ew (iU s e) m = sA s 3 m.toNatClampNeg := by rw [ew_of g4 (by rw [a4]; exact g5), a3]
        unfold Mv wO stp2; rw [h1, g1, g6, g7, ee, if_neg hm, if_neg g2, if_neg g2, if_neg g3, em, j3]
        exact ⟨by rw [← i3]; rfl, rfl⟩
  · refine ⟨Or.inr h1, by rw [tr_f h3, h1]; exact (decide_eq_false (fun w => hm w.symm)).symm, by rw [h2]; exact fun w => hm w.symm, fun o => ?_⟩
    unfold Mv wO wI stp2; rw [h1, h2, h6, h7]; simp +decide
theorem ad_ok {f : Nat} (hI : Iv s) (hf : f < 128) (h4 : sA s 4 f = 0) (hu : 0 ≤ u.toInt ∧ u.toInt < (sI s 0).toInt) (hv : 0 ≤ v.toInt ∧ v.toInt < (sI s 0).toInt) (hne : u ≠ v) :
    Iv (adS s f u v w) ∧ sI (adS s f u v w) 0 = sI s 0 ∧ (∀ i, sA (adS s f u v w) 4 i = if i = f then 1 else sA s 4 i) ∧ (∀ i, sA (adS s f u v w) 3 i = if i = f then cl (-1000000) 1000000 w else sA s 3 i) ∧ sI (adS s f u v w) 12 = sI s 12 + 1 ∧
    sA (adS s f u v w) 1 f = u ∧ sA (adS s f u v w) 2 f = v ∧ ew (adS s f u v w) (Int32.ofNat f) = cl (-1000000) 1000000 w ∧ pr (adS s f u v w) (Int32.ofNat f) = true ∧
    (sI (adS s f u v w) 15 = Int32.ofNat f ∨ sI (adS s f u v w) 15 = -1) ∧ (tr (adS s f u v w) (Int32.ofNat f) = decide (sI (adS s f u v w) 15 = Int32.ofNat f)) ∧ Mv s (adS s f u v w) (Int32.ofNat f) 0 := by
  have hF : (Int32.ofNat f).toInt = f := Int32.toInt_ofNat_of_lt (by omega)
  have hc : (Int32.ofNat f).toNatClampNeg = f := by rw [cln, hF]; omega
  have hvi : vi (Int32.ofNat f) = true := vi_t (by omega)
  have hI1 := stE_Iv (d := cl (-1000000) 1000000 w) hI hvi (by rw [hc]; exact h4) hu hv hne
  have g4 : sA (stE s (Int32.ofNat f) u v (cl (-1000000) 1000000 w)) 4 (Int32.ofNat f).toNatClampNeg ≠ 0 := by rw [stE_1.2.2.2.1, if_pos rfl]; decide
  have g5 : sA (stE s (Int32.ofNat f) u v (cl (-1000000) 1000000 w)) 5 (Int32.ofNat f).toNatClampNeg = 0 := by rw [stE_1.2.2.2.2, if_pos rfl]
  obtain ⟨q1, q2, q3, q4, q5, -⟩ := iU_ok hI1 hvi g4 g5
  obtain ⟨r1, r2, r3, r4⟩ := iU_law hI1 hvi g4 g5
  have g4' : sA (adS s f u v w) 4 (Int32.ofNat f).toNatClampNeg ≠ 0 := by unfold adS; rw [q4]; exact g4
  have a3 : ∀ i, sA (adS s f u v w) 3 i = if i = f then cl (-1000000) 1000000 w else sA s 3 i := fun i => by unfold adS; rw [q3, stE_1.2.2.1, hc]
  refine ⟨q1, ?_, fun i => ?_, a3, ?_, ?_, ?_, ?_, pr_iff.2 ⟨hvi, g4'⟩, r1, r2, ?_⟩
  · unfold adS; rw [q2.1]; unfold stE; simp only [sI_uI, sI_uA, Nat.reduceEqDiff, if_false]
  · unfold adS; rw [q4, stE_1.2.2.2.1, hc]
  · unfold adS; rw [q5]; unfold stE; simp only [sI_uI, if_true]
  · unfold adS; rw [q2.2.1, stE_1.1, hc, if_pos rfl]
  · unfold adS; rw [q2.2.2, stE_1.2.1, hc, if_pos rfl]
  · rw [ew_of hvi g4', a3, hc, if_pos rfl]
  · have := r4 0
    unfold Mv at this ⊢
    unfold adS
    have e1 : sI (stE s (Int32.ofNat f) u v (cl (-1000000) 1000000 w)) 13 = sI s 13 := by unfold stE; simp only [sI_uI, sI_uA, Nat.reduceEqDiff, if_false]
    have e2 : sJ (stE s (Int32.ofNat f) u v (cl (-1000000) 1000000 w)) 14 = sJ s 14 := by unfold stE; simp only [sJ_uI, sJ_uA]
    rw [e1, e2] at this; exact this
theorem rm_ok (hI : Iv s) (hp : pr s e = true) :
    Iv (rmS s e) ∧ sI (rmS s e) 0 = sI s 0 ∧ (∀ i, sA (rmS s e) 4 i = if i = e.toNatClampNeg then 0 else sA s 4 i) ∧ sA (rmS s e) 3 = sA s 3 ∧ sI (rmS s e) 12 = sI s 12 - 1 ∧
    (tr s e = true → sI (rmS s e) 16 = e) ∧ (tr s e = false → sI (rmS s e) 15 = -1 ∧ sI (rmS s e) 16 = -1) ∧ Mv s (rmS s e) e (ew s e) := by
  obtain ⟨hv, h4⟩ := pr_iff.1 hp
  have hm := m1_vi hv
  unfold rmS; rw [if_pos hp]
  by_cases e1 : sA s 5 e.toNatClampNeg = 0
  · rw [if_pos e1]
    refine ⟨stL2_Iv (frS_Iv hI hv e1), ?_, fun i => ?_, ?_, ?_, fun q => ?_, fun q => stL2_15, ?_⟩
    · rw [stL2_I (by decide) (by decide), frS_I (by decide)]
    · rw [stL2_A, frS_4]
    · rw [stL2_A, frS_A (by decide) (by decide)]
    · rw [stL2_I (by decide) (by decide)]; unfold frS; rw [sI_uI, if_pos rfl]
    · rw [tr_f e1] at q; exact absurd q (by decide)
    · unfold Mv wI wO stp2; rw [stL2_15.1, stL2_15.2, stL2_I (by decide) (by decide), frS_I (by decide), stL2_J]
      have : sJ (frS s e) 14 = sJ s 14 := by unfold frS; rw [sJ_uI, sJ_uA, sJ_uA]
      rw [this]; simp +decide
  · rw [if_neg e1]
    have ht := tr_t hv h4 e1
    obtain ⟨q1, q2, q3, q4, q5, q6, q7⟩ := cT_ok hI hv e1
    refine ⟨q1, q2.1, q4, q3, q5, fun _ => q6, fun q => (by rw [ht] at q; exact absurd q (by decide)), ?_⟩
    have eo : ew s e = sA s 3 e.toNatClampNeg := ew_of hv h4
    rcases q7 with ⟨h1, h2, h3⟩ | ⟨r, h1, h2, h3, h5, h6, h7, h8⟩
    · unfold Mv wI wO stp2; rw [h1, h2, h3, q6, if_neg hm, if_neg hm, if_pos rfl, if_pos rfl, if_pos rfl, eo, j3]
      exact ⟨by rw [Int32.sub_eq_add_neg, Int32.sub_eq_add_neg (a := sI s 13)]; rfl, by rw [Int64.add_zero]⟩
    · have em : ew (cT s e) r = sA s 3 r.toNatClampNeg := by
        rw [ew_of h5 (by rw [q4, if_neg (fun w => h3 (inj_vi h5 hv w))]; exact h6), q3]
      unfold Mv wI wO stp2; rw [h1, h7, h8, q6, if_neg hm, if_neg hm, if_pos rfl, if_neg h2, if_neg h2, eo, em, j3]
      exact ⟨by rw [← i3]; rfl, rfl⟩
theorem sw64 {a b : Int32} (ha : -1000000 ≤ a.toInt ∧ a.toInt ≤ 1000000) (hb : -1000000 ≤ b.toInt ∧ b.toInt ≤ 1000000) : (a - b).toInt64 = a.toInt64 - b.toInt64 := by
  rw [eq64, jsb (by rw [Int32.toInt_toInt64, Int32.toInt_toInt64]; omega) (by rw [Int32.toInt_toInt64, Int32.toInt_toInt64]; omega), Int32.toInt_toInt64, Int32.toInt_toInt64, Int32.toInt_toInt64, isb (by omega) (by omega)]
theorem sw_ok (hI : Iv s) (hG : WG s) (hp : pr s e = true) (hw : -1000000 ≤ w.toInt ∧ w.toInt ≤ 1000000) :
    Iv (swS s e w) ∧ sI (swS s e w) 0 = sI s 0 ∧ sA (swS s e w) 4 = sA s 4 ∧ (∀ i, sA (swS s e w) 3 i = if i = e.toNatClampNeg then w else sA s 3 i) ∧ sI (swS s e w) 12 = sI s 12 ∧ ew (swS s e w) e = w ∧
    (tr (swS s e w) e = decide ((tr s e = true ∧ sI (swS s e w) 16 ≠ e) ∨ sI (swS s e w) 15 = e)) ∧
    sI s 13 + stp2 (sI (swS s e w) 15) (sI (swS s e w) 16) = sI (swS s e w) 13 ∧
    (if tr s e = true ∧ sI (swS s e w) 16 ≠ e then sJ s 14 + (w - ew s e).toInt64 else sJ s 14) + (wI (swS s e w) (sI (swS s e w) 15) - wO (swS s e w) (sI (swS s e w) 16) e (ew s e)) = sJ (swS s e w) 14 := by
  obtain ⟨hv, h4⟩ := pr_iff.1 hp
  have hm := m1_vi hv
  have hc : cl (-1000000) 1000000 w = w := by
    unfold cl; rw [if_neg (by rw [lt32]; simp only [Int32.reduceToInt]; omega), if_neg (by rw [lt32]; simp only [Int32.reduceToInt]; omega)]
  have eo : ew s e = sA s 3 e.toNatClampNeg := ew_of hv h4
  unfold swS; rw [if_pos hp, hc]
  by_cases e1 : sA s 5 e.toNatClampNeg = 0
  · rw [if_pos e1]
    have hI1 := u3_Iv (k := e.toNatClampNeg) (c := w) hI
    have g4 : sA (uA s 3 e.toNatClampNeg w) 4 e.toNatClampNeg ≠ 0 := by rw [sAn (by decide)]; exact h4
    have g5 : sA (uA s 3 e.toNatClampNeg w) 5 e.toNatClampNeg = 0 := by rw [sAn (by decide)]; exact e1
    obtain ⟨q1, q2, q3, q4, q5, -⟩ := iU_ok hI1 hv g4 g5
    obtain ⟨r1, r2, r3, r4⟩ := iU_law hI1 hv g4 g5
    have ht := tr_f e1
    have a3 : ∀ i, sA (iU (uA s 3 e.toNatClampNeg w) e) 3 i = if i = e.toNatClampNeg then w else sA s 3 i := fun i => by rw [q3, sA_uA]; simp only [true_and]
    refine ⟨q1, by rw [q2.1, sI_uA], by rw [q4, sAn (by decide)], a3, by rw [q5, sI_uA], by rw [ew_of hv (by rw [q4]; exact g4), a3, if_pos rfl], ?_, ?_, ?_⟩
    · rw [r2, ht]; simp
    · have := (r4 (ew s e)).1; rw [sI_uA] at this; exact this
    · rw [ht, if_neg (by simp)]
      have := (r4 (ew s e)).2; rw [sJ_uA] at this; exact this
  · rw [if_neg e1]
    have ht := tr_t hv h4 e1
    obtain ⟨q1, q2, q3, q4, q5, q6, q7⟩ := rW_ok (c := w) hI hv e1
    have h4' : sA (rW s e w) 4 e.toNatClampNeg ≠ 0 := by rw [q4]; exact h4
    refine ⟨q1, q2.1, q4, q3, q5, by rw [ew_of hv h4', q3, if_pos rfl], ?_, ?_, ?_⟩
    · rcases q7 with ⟨h1, h2, h3, h6⟩ | ⟨r, h1, h2, h3, h5, h6, h7, h8, h9⟩
      · rw [tr_t hv h4' h3, ht, h2]; exact (decide_eq_true (Or.inl ⟨rfl, fun w => hm w.symm⟩)).symm
      · rw [tr_f h8, ht, h1, h2]; simp [h5]
    · rcases q7 with ⟨h1, h2, h3, h6⟩ | ⟨r, h1, h2, h3, h5, h6, h7, h8, h9⟩
      · unfold stp2; rw [h1, h2, q6, ← i3]; rfl
      · unfold stp2; rw [h1, h2, q6, if_neg hm, if_neg h3, ← i3]; rfl
    · have hb := hG _ (vi_cl hv)
      rcases q7 with ⟨h1, h2, h3, h6⟩ | ⟨r, h1, h2, h3, h5, h6, h7, h8, h9⟩
      · rw [h1, h2, ht, if_pos ⟨rfl, fun w => hm w.symm⟩, h6, eo, sw64 hw hb]
        unfold wI wO; rw [if_pos rfl, if_pos rfl, Int64.sub_zero, Int64.add_zero, j3]
      · have em : ew (rW s e w) r = sA s 3 r.toNatClampNeg := by
          rw [ew_of h6 (by rw [q4]; exact h7), q3, if_neg (fun w => h5 (inj_vi h6 hv w))]
        rw [h1, h2, ht, if_neg (fun w => w.2 rfl), h9, eo]
        unfold wI wO; rw [if_neg h3, if_neg hm, if_pos rfl, em, j3]
theorem Iv_ini (hn : (cl 2 32 a).toInt ≤ 32) : Iv (ini0 a) ∧ (∀ i, sA (ini0 a) 4 i = 0) ∧ (∀ i, sA (ini0 a) 3 i = 0) ∧ (∀ i, sA (ini0 a) 5 i = 0) ∧ sI (ini0 a) 0 = cl 2 32 a ∧ sI (ini0 a) 12 = 0 ∧ sI (ini0 a) 13 = 0 ∧ sJ (ini0 a) 14 = 0 ∧ sI (ini0 a) 15 = -1 ∧ sI (ini0 a) 16 = -1 := by
  have A : ∀ t i, t ≠ 8 → t ≠ 9 → t ≠ 10 → t ≠ 11 → sA (ini0 a) t i = 0 := fun t i h1 h2 h3 h4 => by
    unfold ini0 F2; simp only [sA_fA, h1, h2, h3, h4, false_and, if_false, sA_uI, sA_uJ, sA_z0, ite_self]
  have I : sI (ini0 a) 0 = cl 2 32 a := by unfold ini0 F2; simp only [sI_fA, sI_uI, sI_uJ, Nat.reduceEqDiff, if_false, if_true]
  have c2 := cl_rg (lo := 2) (hi := 32) a (by decide)
  simp only [Int32.reduceToInt] at c2
  have d0 : ∀ X, dN (ini0 a) X = 0 := fun X => by unfold dN; rw [A 7 X (by decide) (by decide) (by decide) (by decide)]; rfl
  refine ⟨⟨fun X hX => ?_, fun i hi => ?_, ?_, fun i hi => ?_, fun X hX => ⟨fun k k' h1 h2 => ?_, fun z ⟨k, h1, h2⟩ => ?_⟩⟩, fun i => A 4 i (by decide) (by decide) (by decide) (by decide), fun i => A 3 i (by decide) (by decide) (by decide) (by decide), fun i => A 5 i (by decide) (by decide) (by decide) (by decide), I, ?_, ?_, ?_, ?_, ?_⟩
  · rw [A 7 X (by decide) (by decide) (by decide) (by decide)]; decide
  · rw [A 1 i (by decide) (by decide) (by decide) (by decide), A 2 i (by decide) (by decide) (by decide) (by decide), I]; simp only [Int32.reduceToInt]; omega
  · unfold nOk; rw [I]; exact c2
  · rw [A 5 i (by decide) (by decide) (by decide) (by decide), A 4 i (by decide) (by decide) (by decide) (by decide)]; exact ⟨fun w => absurd rfl w, fun w => absurd rfl w⟩
  · rw [d0] at h2; omega
  · rw [d0] at h1; omega
  · unfold ini0 F2; simp only [sI_fA, sI_uI, sI_uJ, Nat.reduceEqDiff, if_false, if_true]
  · unfold ini0 F2; simp only [sI_fA, sI_uI, sI_uJ, Nat.reduceEqDiff, if_false, if_true]
  · unfold ini0 F2; simp only [sJ_fA, sJ_uI, sJ_uJ, Nat.reduceEqDiff, if_false, if_true]
  · unfold ini0 F2; simp only [sI_fA, sI_uI, sI_uJ, Nat.reduceEqDiff, if_false, if_true]
  · unfold ini0 F2; simp only [sI_fA, sI_uI, sI_uJ, Nat.reduceEqDiff, if_false, if_true]
theorem sc1 {a cc len p : Nat} {f : Nat → Int32} {s : St} (ha : a < p) : (isA (ob (H1 cc a len f) p s) a = true) = True ∧ alen (ob (H1 cc a len f) p s) a = len ∧ (∀ i, (inA (ob (H1 cc a len f) p s) a .int i = true) = (0 ≤ i.toInt ∧ i.toInt < len)) ∧ ∀ i, elt (ob (H1 cc a len f) p s) a i = .int (f i.toNatClampNeg) := by
  unfold ob
  refine ⟨?_, ?_, fun i => ?_, fun i => ?_⟩
  · rw [isA_ot (Or.inl ha), isA_H1]; exact eq_self _ ▸ rfl
  · rw [alen_ot (Or.inl ha), alen_H1]
  · rw [inA_ot (Or.inl ha)]; exact propext inA_H1
  · rw [elt_ot (Or.inl ha), elt_H1]
theorem H1_c {c N a len : Nat} {f : Nat → Int32} : (c, (H1 N a len f).2) = H1 c a len f := rfl
end Hh

end Jvm.JX.Pj
namespace Jvm.JX.Lw
open Jvm Jvm.ClassFile Sem Op Lib Jvm.JX Jvm.JX.Pj
def lr0 : List Row := [(0, .bipush 6, 2, 0), (2, .istore_n 1, 1, 0), (3, .iconst (-1), 1, 0), (4, .istore_n 2, 1, 0), (5, .new 7, 3, 17), (8, .dup, 1, 0), (9, .iload_n 1, 1, 0), (10, .invokespecial 9, 3, 1), (13, .astore_n 3, 1, 0), (14, .lconst 0, 1, 0), (15, .lstore 4, 2, 0), (17, .lconst 0, 1, 0), (18, .lstore 6, 2, 0), (20, .lconst 0, 1, 0), (21, .lstore 8, 2, 0), (23, .iconst 0, 1, 0), (24, .istore 10, 2, 0), (26, .iconst 0, 1, 0), (27, .istore 11, 2, 0), (29, .iload_n 2, 1, 0), (30, .istore 12, 2, 0), (32, .iload_n 2, 1, 0), (33, .istore 13, 2, 0), (35, .iconst 0, 1, 0), (36, .istore 14, 2, 0), (38, .iload 14, 2, 0), (40, .iconst 3, 1, 0), (41, .iadd, 1, 0), (42, .aload_n 0, 1, 0), (43, .arraylength, 1, 0), (44, .if_icmp .ge 680, 3, 0), (47, .aload_n 0, 1, 0), (48, .iload 14, 2, 0), (50, .iaload, 1, 0), (51, .iconst 3, 1, 0), (52, .iand, 1, 0), (53, .istore 15, 2, 0), (55, .aload_n 0, 1, 0), (56, .iload 14, 2, 0), (58, .iconst 1, 1, 0), (59, .iadd, 1, 0), (60, .iaload, 1, 0), (61, .bipush 7, 2, 0), (63, .iand, 1, 0), (64, .istore 16, 2, 0), (66, .aload_n 0, 1, 0), (67, .iload 14, 2, 0), (69, .iconst 2, 1, 0), (70, .iadd, 1, 0), (71, .iaload, 1, 0), (72, .bipush 7, 2, 0), (74, .iand, 1, 0), (75, .istore 17, 2, 0), (77, .aload_n 0, 1, 0), (78, .iload 14, 2, 0), (80, .iconst 1, 1, 0), (81, .iadd, 1, 0), (82, .iaload, 1, 0), (83, .bipush 15, 2, 0), (85, .iand, 1, 0), (86, .istore 18, 2, 0), (88, .aload_n 0, 1, 0), (89, .iload 14, 2, 0), (91, .iconst 3, 1, 0), (92, .iadd, 1, 0), (93, .iaload, 1, 0), (94, .bipush 15, 2, 0), (96, .iand, 1, 0), (97, .iconst 5, 1, 0), (98, .isub, 1, 0), (99, .istore 19, 2, 0), (101, .iload 15, 2, 0), (103, .iconst 1, 1, 0), (104, .if_icmp .gt 275, 3, 0), (107, .aload_n 3, 1, 0), (108, .iload 16, 2, 0), (110, .iload 17, 2, 0), (112, .iload 19, 2, 0), (114, .invokevirtual 12, 3, 2), (117, .istore 20, 2, 0), (119, .iload 16, 2, 0), (121, .iload_n 1, 1, 0), (122, .if_icmp .ge 9, 3, 0), (125, .iload 17, 2, 0), (127, .iload_n 1, 1, 0), (128, .if_icmp .lt 12, 3, 0), (131, .iload 20, 2, 0), (133, .bipush (-2), 2, 0), (135, .if_icmp .eq 241, 3, 0), (138, .iconst 0, 1, 0), (139, .ireturn, 1, 0), (140, .iload 16, 2, 0), (142, .iload 17, 2, 0), (144, .if_icmp .ne 12, 3, 0), (147, .iload 20, 2, 0), (149, .bipush (-3), 2, 0), (151, .if_icmp .eq 225, 3, 0), (154, .iconst 0, 1, 0), (155, .ireturn, 1, 0), (156, .iload 10, 2, 0), (158, .sipush 128, 3, 0), (161, .if_icmp .ne 12, 3, 0), (164, .iload 20, 2, 0), (166, .bipush (-4), 2, 0), (168, .if_icmp .eq 208, 3, 0), (171, .iconst 0, 1, 0), (172, .ireturn, 1, 0), (173, .iload 20, 2, 0), (175, .ifCond .lt 11, 3, 0), (178, .iload 20, 2, 0), (180, .sipush 128, 3, 0), (183, .if_icmp .lt 5, 3, 0), (186, .iconst 0, 1, 0), (187, .ireturn, 1, 0), (188, .lload 4, 2, 0), (190, .lload 6, 2, 0), (192, .iload 20, 2, 0), (194, .invokestatic 16, 3, 103), (197, .ifCond .ne 15, 3, 0), (200, .lload 4, 2, 0), (202, .lload 6, 2, 0), (204, .iload 20, 2, 0), (206, .invokestatic 22, 3, 104), (209, .ifCond .ne 5, 3, 0), (212, .iconst 0, 1, 0), (213, .ireturn, 1, 0), (214, .iload 20, 2, 0), (216, .bipush 64, 2, 0), (218, .if_icmp .ge 15, 3, 0), (221, .lload 4, 2, 0), (223, .lconst 1, 1, 0), (224, .iload 20, 2, 0), (226, .lshl, 1, 0), (227, .lor, 1, 0), (228, .lstore 4, 2, 0), (230, .goto 15, 3, 0), (233, .lload 6, 2, 0), (235, .lconst 1, 1, 0), (236, .iload 20, 2, 0), (238, .bipush 64, 2, 0), (240, .isub, 1, 0), (241, .lshl, 1, 0), (242, .lor, 1, 0), (243, .lstore 6, 2, 0), (245, .iinc 10 1, 3, 0), (248, .aload_n 3, 1, 0), (249, .invokevirtual 25, 3, 16), (252, .istore 21, 2, 0), (254, .aload_n 3, 1, 0), (255, .invokevirtual 29, 3, 17), (258, .istore 22, 2, 0), (260, .iload 21, 2, 0), (262, .iload 20, 2, 0), (264, .if_icmp .eq 11, 3, 0), (267, .iload 21, 2, 0), (269, .iload_n 2, 1, 0), (270, .if_icmp .eq 5, 3, 0), (273, .iconst 0, 1, 0), (274, .ireturn, 1, 0), (275, .aload_n 3, 1, 0), (276, .iload 20, 2, 0), (278, .invokevirtual 32, 3, 6), (281, .iload 21, 2, 0), (283, .iload 20, 2, 0), (285, .if_icmp .ne 7, 3, 0), (288, .iconst 1, 1, 0), (289, .goto 4, 3, 0), (292, .iconst 0, 1, 0), (293, .if_icmp .eq 5, 3, 0), (296, .iconst 0, 1, 0), (297, .ireturn, 1, 0), (298, .aload_n 3, 1, 0), (299, .iload 20, 2, 0), (301, .invokevirtual 36, 3, 8), (304, .iload 19, 2, 0), (306, .if_icmp .ne 27, 3, 0), (309, .aload_n 3, 1, 0), (310, .iload 20, 2, 0), (312, .iconst 0, 1, 0), (313, .invokevirtual 40, 3, 7), (316, .iload 16, 2, 0), (318, .if_icmp .ne 15, 3, 0), (321, .aload_n 3, 1, 0), (322, .iload 20, 2, 0), (324, .iconst 1, 1, 0), (325, .invokevirtual 40, 3, 7), (328, .iload 17, 2, 0), (330, .if_icmp .eq 5, 3, 0), (333, .iconst 0, 1, 0), (334, .ireturn, 1, 0), (335, .lload 8, 2, 0), (337, .aload_n 3, 1, 0), (338, .iload 21, 2, 0), (340, .invokestatic 44, 3, 106), (343, .aload_n 3, 1, 0), (344, .iload 22, 2, 0), (346, .iload 20, 2, 0), (348, .iconst 0, 1, 0), (349, .invokestatic 48, 3, 107), (352, .lsub, 1, 0), (353, .ladd, 1, 0), (354, .lstore 8, 2, 0), (356, .iload 11, 2, 0), (358, .iload 21, 2, 0), (360, .iload 22, 2, 0), (362, .invokestatic 52, 3, 105), (365, .iadd, 1, 0), (366, .istore 11, 2, 0), (368, .iload 21, 2, 0), (370, .istore 12, 2, 0), (372, .iload 22, 2, 0), (374, .istore 13, 2, 0), (376, .goto 245, 3, 0), (379, .lload 4, 2, 0), (381, .lload 6, 2, 0), (383, .iload 18, 2, 0), (385, .invokestatic 16, 3, 103), (388, .istore 20, 2, 0), (390, .aload_n 3, 1, 0), (391, .iload 18, 2, 0), (393, .invokevirtual 36, 3, 8), (396, .istore 21, 2, 0), (398, .aload_n 3, 1, 0), (399, .iload 18, 2, 0), (401, .invokevirtual 32, 3, 6), (404, .istore 22, 2, 0), (406, .iload 15, 2, 0), (408, .iconst 2, 1, 0), (409, .if_icmp .ne 12, 3, 0), (412, .aload_n 3, 1, 0), (413, .iload 18, 2, 0), (415, .invokevirtual 55, 3, 3), (418, .goto 11, 3, 0), (421, .aload_n 3, 1, 0), (422, .iload 18, 2, 0), (424, .iload 19, 2, 0), (426, .invokevirtual 58, 3, 4), (429, .istore 23, 2, 0), (431, .iload 23, 2, 0), (433, .iload 20, 2, 0), (435, .if_icmp .eq 5, 3, 0), (438, .iconst 0, 1, 0), (439, .ireturn, 1, 0), (440, .iload 23, 2, 0), (442, .ifCond .eq 179, 3, 0), (445, .aload_n 3, 1, 0), (446, .invokevirtual 25, 3, 16), (449, .istore 24, 2, 0), (451, .aload_n 3, 1, 0), (452, .invokevirtual 29, 3, 17), (455, .istore 25, 2, 0), (457, .iload 15, 2, 0), (459, .iconst 2, 1, 0), (460, .if_icmp .ne 48, 3, 0), (463, .lload 4, 2, 0), (465, .lconst 1, 1, 0), (466, .iload 18, 2, 0), (468, .lshl, 1, 0), (469, .ldc2_w 62, 3, (-1)), (472, .lxor, 1, 0), (473, .land, 1, 0), (474, .lstore 4, 2, 0), (476, .iinc 10 (-1), 3, 0), (479, .iload 22, 2, 0), (481, .ifCond .eq 13, 3, 0), (484, .iload 25, 2, 0), (486, .iload 18, 2, 0), (488, .if_icmp .eq 91, 3, 0), (491, .goto 15, 3, 0), (494, .iload 24, 2, 0), (496, .iload_n 2, 1, 0), (497, .if_icmp .ne 9, 3, 0), (500, .iload 25, 2, 0), (502, .iload_n 2, 1, 0), (503, .if_icmp .eq 76, 3, 0), (506, .iconst 0, 1, 0), (507, .ireturn, 1, 0), (508, .aload_n 3, 1, 0), (509, .iload 18, 2, 0), (511, .invokevirtual 36, 3, 8), (514, .iload 19, 2, 0), (516, .if_icmp .eq 5, 3, 0), (519, .iconst 0, 1, 0), (520, .ireturn, 1, 0), (521, .aload_n 3, 1, 0), (522, .iload 18, 2, 0), (524, .invokevirtual 32, 3, 6), (527, .iload 22, 2, 0), (529, .ifCond .eq 10, 3, 0), (532, .iload 25, 2, 0), (534, .iload 18, 2, 0), (536, .if_icmp .ne 10, 3, 0), (539, .iload 24, 2, 0), (541, .iload 18, 2, 0), (543, .if_icmp .ne 7, 3, 0), (546, .iconst 1, 1, 0), (547, .goto 4, 3, 0), (550, .iconst 0, 1, 0), (551, .if_icmp .eq 5, 3, 0), (554, .iconst 0, 1, 0), (555, .ireturn, 1, 0), (556, .iload 22, 2, 0), (558, .ifCond .eq 21, 3, 0), (561, .iload 25, 2, 0), (563, .iload 18, 2, 0), (565, .if_icmp .eq 14, 3, 0), (568, .lload 8, 2, 0), (570, .iload 19, 2, 0), (572, .iload 21, 2, 0), (574, .isub, 1, 0), (575, .i2l, 1, 0), (576, .ladd, 1, 0), (577, .lstore 8, 2, 0), (579, .lload 8, 2, 0), (581, .aload_n 3, 1, 0), (582, .iload 24, 2, 0), (584, .invokestatic 44, 3, 106), (587, .aload_n 3, 1, 0), (588, .iload 25, 2, 0), (590, .iload 18, 2, 0), (592, .iload 21, 2, 0), (594, .invokestatic 48, 3, 107), (597, .lsub, 1, 0), (598, .ladd, 1, 0), (599, .lstore 8, 2, 0), (601, .iload 11, 2, 0), (603, .iload 24, 2, 0), (605, .iload 25, 2, 0), (607, .invokestatic 52, 3, 105), (610, .iadd, 1, 0), (611, .istore 11, 2, 0), (613, .iload 24, 2, 0), (615, .istore 12, 2, 0), (617, .iload 25, 2, 0), (619, .istore 13, 2, 0), (621, .aload_n 3, 1, 0), (622, .invokevirtual 64, 3, 9), (625, .iload 10, 2, 0), (627, .if_icmp .ne 23, 3, 0), (630, .aload_n 3, 1, 0), (631, .invokevirtual 67, 3, 11), (634, .iload 11, 2, 0), (636, .if_icmp .ne 14, 3, 0), (639, .aload_n 3, 1, 0), (640, .invokevirtual 70, 3, 12), (643, .iload_n 1, 1, 0), (644, .iload 11, 2, 0), (646, .isub, 1, 0), (647, .if_icmp .eq 5, 3, 0), (650, .iconst 0, 1, 0), (651, .ireturn, 1, 0), (652, .aload_n 3, 1, 0), (653, .invokevirtual 73, 3, 10), (656, .lload 8, 2, 0), (658, .lcmp, 1, 0), (659, .ifCond .ne 21, 3, 0), (662, .aload_n 3, 1, 0), (663, .invokevirtual 25, 3, 16), (666, .iload 12, 2, 0), (668, .if_icmp .ne 12, 3, 0), (671, .aload_n 3, 1, 0), (672, .invokevirtual 29, 3, 17), (675, .iload 13, 2, 0), (677, .if_icmp .eq 5, 3, 0), (680, .iconst 0, 1, 0), (681, .ireturn, 1, 0), (682, .iconst 0, 1, 0), (683, .istore 20, 2, 0), (685, .iload 20, 2, 0), (687, .bipush 16, 2, 0), (689, .if_icmp .ge 29, 3, 0), (692, .aload_n 3, 1, 0), (693, .iload 20, 2, 0), (695, .invokevirtual 77, 3, 5), (698, .lload 4, 2, 0), (700, .lload 6, 2, 0), (702, .iload 20, 2, 0), (704, .invokestatic 16, 3, 103), (707, .if_icmp .eq 5, 3, 0), (710, .iconst 0, 1, 0), (711, .ireturn, 1, 0), (712, .iinc 20 1, 3, 0), (715, .goto (-30), 3, 0), (718, .iinc 14 4, 3, 0), (721, .goto (-683), 3, 0), (724, .iconst 1, 1, 0), (725, .ireturn, 1, 0)]
def lr3 : List Row := [(0, .iload 4, 2, 0), (2, .bipush 64, 2, 0), (4, .if_icmp .ge 22, 3, 0), (7, .lload_n 0, 1, 0), (8, .iload 4, 2, 0), (10, .lushr, 1, 0), (11, .lconst 1, 1, 0), (12, .land, 1, 0), (13, .lconst 0, 1, 0), (14, .lcmp, 1, 0), (15, .ifCond .eq 7, 3, 0), (18, .iconst 1, 1, 0), (19, .goto 26, 3, 0), (22, .iconst 0, 1, 0), (23, .goto 22, 3, 0), (26, .lload_n 2, 1, 0), (27, .iload 4, 2, 0), (29, .bipush 64, 2, 0), (31, .isub, 1, 0), (32, .lushr, 1, 0), (33, .lconst 1, 1, 0), (34, .land, 1, 0), (35, .lconst 0, 1, 0), (36, .lcmp, 1, 0), (37, .ifCond .eq 7, 3, 0), (40, .iconst 1, 1, 0), (41, .goto 4, 3, 0), (44, .iconst 0, 1, 0), (45, .ireturn, 1, 0)]
def lr4 : List Row := [(0, .iload 4, 2, 0), (2, .bipush 64, 2, 0), (4, .if_icmp .ge 27, 3, 0), (7, .lconst 1, 1, 0), (8, .iload 4, 2, 0), (10, .lshl, 1, 0), (11, .lconst 1, 1, 0), (12, .lsub, 1, 0), (13, .lstore 5, 2, 0), (15, .lload_n 0, 1, 0), (16, .lload 5, 2, 0), (18, .land, 1, 0), (19, .lload 5, 2, 0), (21, .lcmp, 1, 0), (22, .ifCond .ne 7, 3, 0), (25, .iconst 1, 1, 0), (26, .goto 4, 3, 0), (29, .iconst 0, 1, 0), (30, .ireturn, 1, 0), (31, .lload_n 0, 1, 0), (32, .ldc2_w 62, 3, (-1)), (35, .lcmp, 1, 0), (36, .ifCond .eq 5, 3, 0), (39, .iconst 0, 1, 0), (40, .ireturn, 1, 0), (41, .lconst 1, 1, 0), (42, .iload 4, 2, 0), (44, .bipush 64, 2, 0), (46, .isub, 1, 0), (47, .lshl, 1, 0), (48, .lconst 1, 1, 0), (49, .lsub, 1, 0), (50, .lstore 5, 2, 0), (52, .lload_n 2, 1, 0), (53, .lload 5, 2, 0), (55, .land, 1, 0), (56, .lload 5, 2, 0), (58, .lcmp, 1, 0), (59, .ifCond .ne 7, 3, 0), (62, .iconst 1, 1, 0), (63, .goto 4, 3, 0), (66, .iconst 0, 1, 0), (67, .ireturn, 1, 0)]
def lr5 : List Row := [(0, .iload_n 0, 1, 0), (1, .iconst (-1), 1, 0), (2, .if_icmp .eq 7, 3, 0), (5, .iconst 1, 1, 0), (6, .goto 4, 3, 0), (9, .iconst 0, 1, 0), (10, .iload_n 1, 1, 0), (11, .iconst (-1), 1, 0), (12, .if_icmp .eq 7, 3, 0), (15, .iconst 1, 1, 0), (16, .goto 4, 3, 0), (19, .iconst 0, 1, 0), (20, .isub, 1, 0), (21, .ireturn, 1, 0)]
def lr6 : List Row := [(0, .iload_n 1, 1, 0), (1, .iconst (-1), 1, 0), (2, .if_icmp .ne 7, 3, 0), (5, .lconst 0, 1, 0), (6, .goto 9, 3, 0), (9, .aload_n 0, 1, 0), (10, .iload_n 1, 1, 0), (11, .invokevirtual 36, 3, 8), (14, .i2l, 1, 0), (15, .lreturn, 1, 0)]
def lr7 : List Row := [(0, .iload_n 1, 1, 0), (1, .iconst (-1), 1, 0), (2, .if_icmp .ne 5, 3, 0), (5, .lconst 0, 1, 0), (6, .lreturn, 1, 0), (7, .iload_n 1, 1, 0), (8, .iload_n 2, 1, 0), (9, .if_icmp .ne 8, 3, 0), (12, .iload_n 3, 1, 0), (13, .i2l, 1, 0), (14, .goto 9, 3, 0), (17, .aload_n 0, 1, 0), (18, .iload_n 1, 1, 0), (19, .invokevirtual 36, 3, 8), (22, .i2l, 1, 0), (23, .lreturn, 1, 0)]
def lrows : List (List Row) := [lr0, [], [], lr3, lr4, lr5, lr6, lr7]
def linfo : List MInfo := [(1, 26, 9, some .boolean, { frames := 8, cells := 32, slots := 3776, locals := 192 }), (0, 0, 9, none, {}), (0, 0, 9, none, {}), (3, 5, 0, some .boolean, { frames := 0, cells := 0, slots := 0, locals := 0 }), (3, 7, 0, some .boolean, { frames := 0, cells := 0, slots := 0, locals := 0 }), (2, 2, 0, some .int, { frames := 0, cells := 0, slots := 0, locals := 0 }), (2, 2, 0, some .long, { frames := 3, cells := 0, slots := 0, locals := 39 }), (4, 4, 0, some .long, { frames := 3, cells := 0, slots := 0, locals := 39 })]
def lw : LW := (fun j pc => (lrows.getD j []).lookup pc, fun j => linfo.getD j (0, 0, 9, none, {}))
section LPc
variable {L : List Slot} {S : List Value} {k n : Nat} {H : AH} {Q : Option Value → AH → Prop}
theorem c100 {x0 : Nat} : Cl (pj lw) 100 [.ref x0] H Q ↔ W (pj lw) 100 0 [.val (.ref x0), .unset, .unset, .unset, .unset, .unset, .unset, .unset, .unset, .unset, .unset, .unset, .unset, .unset, .unset, .unset, .unset, .unset, .unset, .unset, .unset, .unset, .unset, .unset, .unset, .unset] [] 0 0 H Q := cl_unf rfl
theorem w100_0 : W (pj lw) 100 0 L S k n H Q ↔ W (pj lw) 100 2 L (.int 6 :: S) k n H Q := W_s (rfl : (pj lw).1 100 0 = some (.bipush 6, 2, 0)) rfl rfl rfl
theorem w100_2 {x : Int32} {l0 : Slot} : W (pj lw) 100 2 (l0 :: .unset :: L) (.int x :: S) k n H Q ↔ W (pj lw) 100 3 (l0 :: .val (.int x) :: L) S k n H Q := W_istn (rfl : (pj lw).1 100 2 = some (.istore_n 1, 1, 0)) rfl rfl
theorem w100_3 : W (pj lw) 100 3 L S k n H Q ↔ W (pj lw) 100 4 L (.int (-1) :: S) k n H Q := W_s (rfl : (pj lw).1 100 3 = some (.iconst (-1), 1, 0)) rfl rfl rfl
theorem w100_4 {x : Int32} {l0 l1 : Slot} : W (pj lw) 100 4 (l0 :: l1 :: .unset :: L) (.int x :: S) k n H Q ↔ W (pj lw) 100 5 (l0 :: l1 :: .val (.int x) :: L) S k n H Q := W_istn (rfl : (pj lw).1 100 4 = some (.istore_n 2, 1, 0)) rfl rfl
theorem w100_5 : W (pj lw) 100 5 L S k n H Q ↔ ((k + 1 ≤ 32 ∧ n + 17 ≤ 3776) ∧ W (pj lw) 100 8 L (.ref H.1 :: S) (k + 1) (n + 17) (mkO (pj lw) H) Q) := W_new' (rfl : (pj lw).1 100 5 = some (.new 7, 3, 17)) (by decide)
theorem w100_8 {x : Nat} : W (pj lw) 100 8 L (.ref x :: S) k n H Q ↔ W (pj lw) 100 9 L (.ref x :: .ref x :: S) k n H Q := W_s (rfl : (pj lw).1 100 8 = some (.dup, 1, 0)) rfl rfl rfl
theorem w100_9 {x : Int32} {l0 : Slot} : W (pj lw) 100 9 (l0 :: .val (.int x) :: L) S k n H Q ↔ W (pj lw) 100 10 (l0 :: .val (.int x) :: L) (.int x :: S) k n H Q := W_s (rfl : (pj lw).1 100 9 = some (.iload_n 1, 1, 0)) rfl rfl rfl
theorem w100_10 {a : Nat} {x0 : Int32} : W (pj lw) 100 10 L (.int x0 :: .ref a :: S) k n H Q ↔ ((isO H a = true ∧ cs S + (4 + 11) + 13 ≤ 192 ∧ k + 11 ≤ 32 ∧ n + 1824 ≤ 3776) ∧ Cl (pj lw) 1 [.ref a, .int x0] H (fun v H => W (pj lw) 100 13 L (v.toList ++ S) (k + 11) (n + 1824) H Q)) := W_init (as := [.int x0]) (rfl : (pj lw).1 100 10 = some (.invokespecial 9, 3, 1)) rfl rfl rfl (Nat.le_of_ble_eq_true rfl) (Nat.le_of_ble_eq_true rfl) (fun h => absurd (show (11 : Nat) = 0 from h.1) (by decide))
theorem w100_13 {x : Nat} {l0 l1 l2 : Slot} : W (pj lw) 100 13 (l0 :: l1 :: l2 :: .unset :: L) (.ref x :: S) k n H Q ↔ W (pj lw) 100 14 (l0 :: l1 :: l2 :: .val (.ref x) :: L) S k n H Q := W_astn (rfl : (pj lw).1 100 13 = some (.astore_n 3, 1, 0)) rfl rfl
theorem w100_14 : W (pj lw) 100 14 L S k n H Q ↔ W (pj lw) 100 15 L (.long 0 :: S) k n H Q := W_s (rfl : (pj lw).1 100 14 = some (.lconst 0, 1, 0)) rfl rfl rfl
theorem w100_15uu {x : Int64} {l0 l1 l2 l3 : Slot} : W (pj lw) 100 15 (l0 :: l1 :: l2 :: l3 :: .unset :: .unset :: L) (.long x :: S) k n H Q ↔ W (pj lw) 100 17 (l0 :: l1 :: l2 :: l3 :: .val (.long x) :: .second :: L) S k n H Q := W_lst (rfl : (pj lw).1 100 15 = some (.lstore 4, 2, 0)) rfl rfl rfl rfl
theorem w100_17 : W (pj lw) 100 17 L S k n H Q ↔ W (pj lw) 100 18 L (.long 0 :: S) k n H Q := W_s (rfl : (pj lw).1 100 17 = some (.lconst 0, 1, 0)) rfl rfl rfl
theorem w100_18uu {x : Int64} {l0 l1 l2 l3 l4 l5 : Slot} : W (pj lw) 100 18 (l0 :: l1 :: l2 :: l3 :: l4 :: l5 :: .unset :: .unset :: L) (.long x :: S) k n H Q ↔ W (pj lw) 100 20 (l0 :: l1 :: l2 :: l3 :: l4 :: l5 :: .val (.long x) :: .second :: L) S k n H Q := W_lst (rfl : (pj lw).1 100 18 = some (.lstore 6, 2, 0)) rfl rfl rfl rfl
theorem w100_20 : W (pj lw) 100 20 L S k n H Q ↔ W (pj lw) 100 21 L (.long 0 :: S) k n H Q := W_s (rfl : (pj lw).1 100 20 = some (.lconst 0, 1, 0)) rfl rfl rfl
theorem w100_21uu {x : Int64} {l0 l1 l2 l3 l4 l5 l6 l7 : Slot} : W (pj lw) 100 21 (l0 :: l1 :: l2 :: l3 :: l4 :: l5 :: l6 :: l7 :: .unset :: .unset :: L) (.long x :: S) k n H Q ↔ W (pj lw) 100 23 (l0 :: l1 :: l2 :: l3 :: l4 :: l5 :: l6 :: l7 :: .val (.long x) :: .second :: L) S k n H Q := W_lst (rfl : (pj lw).1 100 21 = some (.lstore 8, 2, 0)) rfl rfl rfl rfl
theorem w100_23 : W (pj lw) 100 23 L S k n H Q ↔ W (pj lw) 100 24 L (.int 0 :: S) k n H Q := W_s (rfl : (pj lw).1 100 23 = some (.iconst 0, 1, 0)) rfl rfl rfl
theorem w100_24 {x : Int32} {l0 l1 l2 l3 l4 l5 l6 l7 l8 l9 : Slot} : W (pj lw) 100 24 (l0 :: l1 :: l2 :: l3 :: l4 :: l5 :: l6 :: l7 :: l8 :: l9 :: .unset :: L) (.int x :: S) k n H Q ↔ W (pj lw) 100 26 (l0 :: l1 :: l2 :: l3 :: l4 :: l5 :: l6 :: l7 :: l8 :: l9 :: .val (.int x) :: L) S k n H Q := W_ist (rfl : (pj lw).1 100 24 = some (.istore 10, 2, 0)) rfl rfl
theorem w100_26 : W (pj lw) 100 26 L S k n H Q ↔ W (pj lw) 100 27 L (.int 0 :: S) k n H Q := W_s (rfl : (pj lw).1 100 26 = some (.iconst 0, 1, 0)) rfl rfl rfl
theorem w100_27 {x : Int32} {l0 l1 l2 l3 l4 l5 l6 l7 l8 l9 l10 : Slot} : W (pj lw) 100 27 (l0 :: l1 :: l2 :: l3 :: l4 :: l5 :: l6 :: l7 :: l8 :: l9 :: l10 :: .unset :: L) (.int x :: S) k n H Q ↔ W (pj lw) 100 29 (l0 :: l1 :: l2 :: l3 :: l4 :: l5 :: l6 :: l7 :: l8 :: l9 :: l10 :: .val (.int x) :: L) S k n H Q := W_ist (rfl : (pj lw).1 100 27 = some (.istore 11, 2, 0)) rfl rfl
theorem w100_29 {x : Int32} {l0 l1 : Slot} : W (pj lw) 100 29 (l0 :: l1 :: .val (.int x) :: L) S k n H Q ↔ W (pj lw) 100 30 (l0 :: l1 :: .val (.int x) :: L) (.int x :: S) k n H Q := W_s (rfl : (pj lw).1 100 29 = some (.iload_n 2, 1, 0)) rfl rfl rfl
theorem w100_30 {x : Int32} {l0 l1 l2 l3 l4 l5 l6 l7 l8 l9 l10 l11 : Slot} : W (pj lw) 100 30 (l0 :: l1 :: l2 :: l3 :: l4 :: l5 :: l6 :: l7 :: l8 :: l9 :: l10 :: l11 :: .unset :: L) (.int x :: S) k n H Q ↔ W (pj lw) 100 32 (l0 :: l1 :: l2 :: l3 :: l4 :: l5 :: l6 :: l7 :: l8 :: l9 :: l10 :: l11 :: .val (.int x) :: L) S k n H Q := W_ist (rfl : (pj lw).1 100 30 = some (.istore 12, 2, 0)) rfl rfl
theorem w100_32 {x : Int32} {l0 l1 : Slot} : W (pj lw) 100 32 (l0 :: l1 :: .val (.int x) :: L) S k n H Q ↔ W (pj lw) 100 33 (l0 :: l1 :: .val (.int x) :: L) (.int x :: S) k n H Q := W_s (rfl : (pj lw).1 100 32 = some (.iload_n 2, 1, 0)) rfl rfl rfl
theorem w100_33 {x : Int32} {l0 l1 l2 l3 l4 l5 l6 l7 l8 l9 l10 l11 l12 : Slot} : W (pj lw) 100 33 (l0 :: l1 :: l2 :: l3 :: l4 :: l5 :: l6 :: l7 :: l8 :: l9 :: l10 :: l11 :: l12 :: .unset :: L) (.int x :: S) k n H Q ↔ W (pj lw) 100 35 (l0 :: l1 :: l2 :: l3 :: l4 :: l5 :: l6 :: l7 :: l8 :: l9 :: l10 :: l11 :: l12 :: .val (.int x) :: L) S k n H Q := W_ist (rfl : (pj lw).1 100 33 = some (.istore 13, 2, 0)) rfl rfl
theorem w100_35 : W (pj lw) 100 35 L S k n H Q ↔ W (pj lw) 100 36 L (.int 0 :: S) k n H Q := W_s (rfl : (pj lw).1 100 35 = some (.iconst 0, 1, 0)) rfl rfl rfl
theorem w100_36 {x : Int32} {l0 l1 l2 l3 l4 l5 l6 l7 l8 l9 l10 l11 l12 l13 : Slot} : W (pj lw) 100 36 (l0 :: l1 :: l2 :: l3 :: l4 :: l5 :: l6 :: l7 :: l8 :: l9 :: l10 :: l11 :: l12 :: l13 :: .unset :: L) (.int x :: S) k n H Q ↔ W (pj lw) 100 38 (l0 :: l1 :: l2 :: l3 :: l4 :: l5 :: l6 :: l7 :: l8 :: l9 :: l10 :: l11 :: l12 :: l13 :: .val (.int x) :: L) S k n H Q := W_ist (rfl : (pj lw).1 100 36 = some (.istore 14, 2, 0)) rfl rfl
theorem w100_38 {x : Int32} {l0 l1 l2 l3 l4 l5 l6 l7 l8 l9 l10 l11 l12 l13 : Slot} : W (pj lw) 100 38 (l0 :: l1 :: l2 :: l3 :: l4 :: l5 :: l6 :: l7 :: l8 :: l9 :: l10 :: l11 :: l12 :: l13 :: .val (.int x) :: L) S k n H Q ↔ W (pj lw) 100 40 (l0 :: l1 :: l2 :: l3 :: l4 :: l5 :: l6 :: l7 :: l8 :: l9 :: l10 :: l11 :: l12 :: l13 :: .val (.int x) :: L) (.int x :: S) k n H Q := W_s (rfl : (pj lw).1 100 38 = some (.iload 14, 2, 0)) rfl rfl rfl
theorem w100_40 : W (pj lw) 100 40 L S k n H Q ↔ W (pj lw) 100 41 L (.int 3 :: S) k n H Q := W_s (rfl : (pj lw).1 100 40 = some (.iconst 3, 1, 0)) rfl rfl rfl
theorem w100_41 {x y : Int32} : W (pj lw) 100 41 L (.int y :: .int x :: S) k n H Q ↔ W (pj lw) 100 42 L (.int (x + y) :: S) k n H Q := W_s (rfl : (pj lw).1 100 41 = some (.iadd, 1, 0)) rfl rfl rfl
theorem w100_42 {x : Nat} : W (pj lw) 100 42 (.val (.ref x) :: L) S k n H Q ↔ W (pj lw) 100 43 (.val (.ref x) :: L) (.ref x :: S) k n H Q := W_s (rfl : (pj lw).1 100 42 = some (.aload_n 0, 1, 0)) rfl rfl rfl
theorem w100_43 {a : Nat} : W (pj lw) 100 43 L (.ref a :: S) k n H Q ↔ (isA H a = true ∧ W (pj lw) 100 44 L (.int (alen H a).toInt32 :: S) k n H Q) := W_alen (rfl : (pj lw).1 100 43 = some (.arraylength, 1, 0))
theorem w100_44 {x y : Int32} : W (pj lw) 100 44 L (.int y :: .int x :: S) k n H Q ↔ (if x < y then W (pj lw) 100 47 L S k n H Q else W (pj lw) 100 724 L S k n H Q) := W_icmp_ge (rfl : (pj lw).1 100 44 = some (.if_icmp .ge 680, 3, 0)) rfl
theorem w100_47 {x : Nat} : W (pj lw) 100 47 (.val (.ref x) :: L) S k n H Q ↔ W (pj lw) 100 48 (.val (.ref x) :: L) (.ref x :: S) k n H Q := W_s (rfl : (pj lw).1 100 47 = some (.aload_n 0, 1, 0)) rfl rfl rfl
theorem w100_48 {x : Int32} {l0 l1 l2 l3 l4 l5 l6 l7 l8 l9 l10 l11 l12 l13 : Slot} : W (pj lw) 100 48 (l0 :: l1 :: l2 :: l3 :: l4 :: l5 :: l6 :: l7 :: l8 :: l9 :: l10 :: l11 :: l12 :: l13 :: .val (.int x) :: L) S k n H Q ↔ W (pj lw) 100 50 (l0 :: l1 :: l2 :: l3 :: l4 :: l5 :: l6 :: l7 :: l8 :: l9 :: l10 :: l11 :: l12 :: l13 :: .val (.int x) :: L) (.int x :: S) k n H Q := W_s (rfl : (pj lw).1 100 48 = some (.iload 14, 2, 0)) rfl rfl rfl
theorem w100_50 {i : Int32} {a : Nat} : W (pj lw) 100 50 L (.int i :: .ref a :: S) k n H Q ↔ (inA H a .int i = true ∧ W (pj lw) 100 51 L (elt H a i :: S) k n H Q) := W_iaload (rfl : (pj lw).1 100 50 = some (.iaload, 1, 0))
theorem w100_51 : W (pj lw) 100 51 L S k n H Q ↔ W (pj lw) 100 52 L (.int 3 :: S) k n H Q := W_s (rfl : (pj lw).1 100 51 = some (.iconst 3, 1, 0)) rfl rfl rfl
theorem w100_52 {x y : Int32} : W (pj lw) 100 52 L (.int y :: .int x :: S) k n H Q ↔ W (pj lw) 100 53 L (.int (x &&& y) :: S) k n H Q := W_s (rfl : (pj lw).1 100 52 = some (.iand, 1, 0)) rfl rfl rfl
theorem w100_53 {x : Int32} {l0 l1 l2 l3 l4 l5 l6 l7 l8 l9 l10 l11 l12 l13 l14 : Slot} : W (pj lw) 100 53 (l0 :: l1 :: l2 :: l3 :: l4 :: l5 :: l6 :: l7 :: l8 :: l9 :: l10 :: l11 :: l12 :: l13 :: l14 :: .unset :: L) (.int x :: S) k n H Q ↔ W (pj lw) 100 55 (l0 :: l1 :: l2 :: l3 :: l4 :: l5 :: l6 :: l7 :: l8 :: l9 :: l10 :: l11 :: l12 :: l13 :: l14 :: .val (.int x) :: L) S k n H Q := W_ist (rfl : (pj lw).1 100 53 = some (.istore 15, 2, 0)) rfl rfl
theorem w100_55 {x : Nat} : W (pj lw) 100 55 (.val (.ref x) :: L) S k n H Q ↔ W (pj lw) 100 56 (.val (.ref x) :: L) (.ref x :: S) k n H Q := W_s (rfl : (pj lw).1 100 55 = some (.aload_n 0, 1, 0)) rfl rfl rfl
theorem w100_56 {x : Int32} {l0 l1 l2 l3 l4 l5 l6 l7 l8 l9 l10 l11 l12 l13 : Slot} : W (pj lw) 100 56 (l0 :: l1 :: l2 :: l3 :: l4 :: l5 :: l6 :: l7 :: l8 :: l9 :: l10 :: l11 :: l12 :: l13 :: .val (.int x) :: L) S k n H Q ↔ W (pj lw) 100 58 (l0 :: l1 :: l2 :: l3 :: l4 :: l5 :: l6 :: l7 :: l8 :: l9 :: l10 :: l11 :: l12 :: l13 :: .val (.int x) :: L) (.int x :: S) k n H Q := W_s (rfl : (pj lw).1 100 56 = some (.iload 14, 2, 0)) rfl rfl rfl
theorem w100_58 : W (pj lw) 100 58 L S k n H Q ↔ W (pj lw) 100 59 L (.int 1 :: S) k n H Q := W_s (rfl : (pj lw).1 100 58 = some (.iconst 1, 1, 0)) rfl rfl rfl
theorem w100_59 {x y : Int32} : W (pj lw) 100 59 L (.int y :: .int x :: S) k n H Q ↔ W (pj lw) 100 60 L (.int (x + y) :: S) k n H Q := W_s (rfl : (pj lw).1 100 59 = some (.iadd, 1, 0)) rfl rfl rfl
theorem w100_60 {i : Int32} {a : Nat} : W (pj lw) 100 60 L (.int i :: .ref a :: S) k n H Q ↔ (inA H a .int i = true ∧ W (pj lw) 100 61 L (elt H a i :: S) k n H Q) := W_iaload (rfl : (pj lw).1 100 60 = some (.iaload, 1, 0))
theorem w100_61 : W (pj lw) 100 61 L S k n H Q ↔ W (pj lw) 100 63 L (.int 7 :: S) k n H Q := W_s (rfl : (pj lw).1 100 61 = some (.bipush 7, 2, 0)) rfl rfl rfl
theorem w100_63 {x y : Int32} : W (pj lw) 100 63 L (.int y :: .int x :: S) k n H Q ↔ W (pj lw) 100 64 L (.int (x &&& y) :: S) k n H Q := W_s (rfl : (pj lw).1 100 63 = some (.iand, 1, 0)) rfl rfl rfl
theorem w100_64 {x : Int32} {l0 l1 l2 l3 l4 l5 l6 l7 l8 l9 l10 l11 l12 l13 l14 l15 : Slot} : W (pj lw) 100 64 (l0 :: l1 :: l2 :: l3 :: l4 :: l5 :: l6 :: l7 :: l8 :: l9 :: l10 :: l11 :: l12 :: l13 :: l14 :: l15 :: .unset :: L) (.int x :: S) k n H Q ↔ W (pj lw) 100 66 (l0 :: l1 :: l2 :: l3 :: l4 :: l5 :: l6 :: l7 :: l8 :: l9 :: l10 :: l11 :: l12 :: l13 :: l14 :: l15 :: .val (.int x) :: L) S k n H Q := W_ist (rfl : (pj lw).1 100 64 = some (.istore 16, 2, 0)) rfl rfl
theorem w100_66 {x : Nat} : W (pj lw) 100 66 (.val (.ref x) :: L) S k n H Q ↔ W (pj lw) 100 67 (.val (.ref x) :: L) (.ref x :: S) k n H Q := W_s (rfl : (pj lw).1 100 66 = some (.aload_n 0, 1, 0)) rfl rfl rfl
theorem w100_67 {x : Int32} {l0 l1 l2 l3 l4 l5 l6 l7 l8 l9 l10 l11 l12 l13 : Slot} : W (pj lw) 100 67 (l0 :: l1 :: l2 :: l3 :: l4 :: l5 :: l6 :: l7 :: l8 :: l9 :: l10 :: l11 :: l12 :: l13 :: .val (.int x) :: L) S k n H Q ↔ W (pj lw) 100 69 (l0 :: l1 :: l2 :: l3 :: l4 :: l5 :: l6 :: l7 :: l8 :: l9 :: l10 :: l11 :: l12 :: l13 :: .val (.int x) :: L) (.int x :: S) k n H Q := W_s (rfl : (pj lw).1 100 67 = some (.iload 14, 2, 0)) rfl rfl rfl
theorem w100_69 : W (pj lw) 100 69 L S k n H Q ↔ W (pj lw) 100 70 L (.int 2 :: S) k n H Q := W_s (rfl : (pj lw).1 100 69 = some (.iconst 2, 1, 0)) rfl rfl rfl
theorem w100_70 {x y : Int32} : W (pj lw) 100 70 L (.int y :: .int x :: S) k n H Q ↔ W (pj lw) 100 71 L (.int (x + y) :: S) k n H Q := W_s (rfl : (pj lw).1 100 70 = some (.iadd, 1, 0)) rfl rfl rfl
theorem w100_71 {i : Int32} {a : Nat} : W (pj lw) 100 71 L (.int i :: .ref a :: S) k n H Q ↔ (inA H a .int i = true ∧ W (pj lw) 100 72 L (elt H a i :: S) k n H Q) := W_iaload (rfl : (pj lw).1 100 71 = some (.iaload, 1, 0))
theorem w100_72 : W (pj lw) 100 72 L S k n H Q ↔ W (pj lw) 100 74 L (.int 7 :: S) k n H Q := W_s (rfl : (pj lw).1 100 72 = some (.bipush 7, 2, 0)) rfl rfl rfl
theorem w100_74 {x y : Int32} : W (pj lw) 100 74 L (.int y :: .int x :: S) k n H Q ↔ W (pj lw) 100 75 L (.int (x &&& y) :: S) k n H Q := W_s (rfl : (pj lw).1 100 74 = some (.iand, 1, 0)) rfl rfl rfl
theorem w100_75 {x : Int32} {l0 l1 l2 l3 l4 l5 l6 l7 l8 l9 l10 l11 l12 l13 l14 l15 l16 : Slot} : W (pj lw) 100 75 (l0 :: l1 :: l2 :: l3 :: l4 :: l5 :: l6 :: l7 :: l8 :: l9 :: l10 :: l11 :: l12 :: l13 :: l14 :: l15 :: l16 :: .unset :: L) (.int x :: S) k n H Q ↔ W (pj lw) 100 77 (l0 :: l1 :: l2 :: l3 :: l4 :: l5 :: l6 :: l7 :: l8 :: l9 :: l10 :: l11 :: l12 :: l13 :: l14 :: l15 :: l16 :: .val (.int x) :: L) S k n H Q := W_ist (rfl : (pj lw).1 100 75 = some (.istore 17, 2, 0)) rfl rfl
theorem w100_77 {x : Nat} : W (pj lw) 100 77 (.val (.ref x) :: L) S k n H Q ↔ W (pj lw) 100 78 (.val (.ref x) :: L) (.ref x :: S) k n H Q := W_s (rfl : (pj lw).1 100 77 = some (.aload_n 0, 1, 0)) rfl rfl rfl
theorem w100_78 {x : Int32} {l0 l1 l2 l3 l4 l5 l6 l7 l8 l9 l10 l11 l12 l13 : Slot} : W (pj lw) 100 78 (l0 :: l1 :: l2 :: l3 :: l4 :: l5 :: l6 :: l7 :: l8 :: l9 :: l10 :: l11 :: l12 :: l13 :: .val (.int x) :: L) S k n H Q ↔ W (pj lw) 100 80 (l0 :: l1 :: l2 :: l3 :: l4 :: l5 :: l6 :: l7 :: l8 :: l9 :: l10 :: l11 :: l12 :: l13 :: .val (.int x) :: L) (.int x :: S) k n H Q := W_s (rfl : (pj lw).1 100 78 = some (.iload 14, 2, 0)) rfl rfl rfl
theorem w100_80 : W (pj lw) 100 80 L S k n H Q ↔ W (pj lw) 100 81 L (.int 1 :: S) k n H Q := W_s (rfl : (pj lw).1 100 80 = some (.iconst 1, 1, 0)) rfl rfl rfl
theorem w100_81 {x y : Int32} : W (pj lw) 100 81 L (.int y :: .int x :: S) k n H Q ↔ W (pj lw) 100 82 L (.int (x + y) :: S) k n H Q := W_s (rfl : (pj lw).1 100 81 = some (.iadd, 1, 0)) rfl rfl rfl
theorem w100_82 {i : Int32} {a : Nat} : W (pj lw) 100 82 L (.int i :: .ref a :: S) k n H Q ↔ (inA H a .int i = true ∧ W (pj lw) 100 83 L (elt H a i :: S) k n H Q) := W_iaload (rfl : (pj lw).1 100 82 = some (.iaload, 1, 0))
theorem w100_83 : W (pj lw) 100 83 L S k n H Q ↔ W (pj lw) 100 85 L (.int 15 :: S) k n H Q := W_s (rfl : (pj lw).1 100 83 = some (.bipush 15, 2, 0)) rfl rfl rfl
theorem w100_85 {x y : Int32} : W (pj lw) 100 85 L (.int y :: .int x :: S) k n H Q ↔ W (pj lw) 100 86 L (.int (x &&& y) :: S) k n H Q := W_s (rfl : (pj lw).1 100 85 = some (.iand, 1, 0)) rfl rfl rfl
theorem w100_86 {x : Int32} {l0 l1 l2 l3 l4 l5 l6 l7 l8 l9 l10 l11 l12 l13 l14 l15 l16 l17 : Slot} : W (pj lw) 100 86 (l0 :: l1 :: l2 :: l3 :: l4 :: l5 :: l6 :: l7 :: l8 :: l9 :: l10 :: l11 :: l12 :: l13 :: l14 :: l15 :: l16 :: l17 :: .unset :: L) (.int x :: S) k n H Q ↔ W (pj lw) 100 88 (l0 :: l1 :: l2 :: l3 :: l4 :: l5 :: l6 :: l7 :: l8 :: l9 :: l10 :: l11 :: l12 :: l13 :: l14 :: l15 :: l16 :: l17 :: .val (.int x) :: L) S k n H Q := W_ist (rfl : (pj lw).1 100 86 = some (.istore 18, 2, 0)) rfl rfl
theorem w100_88 {x : Nat} : W (pj lw) 100 88 (.val (.ref x) :: L) S k n H Q ↔ W (pj lw) 100 89 (.val (.ref x) :: L) (.ref x :: S) k n H Q := W_s (rfl : (pj lw).1 100 88 = some (.aload_n 0, 1, 0)) rfl rfl rfl
theorem w100_89 {x : Int32} {l0 l1 l2 l3 l4 l5 l6 l7 l8 l9 l10 l11 l12 l13 : Slot} : W (pj lw) 100 89 (l0 :: l1 :: l2 :: l3 :: l4 :: l5 :: l6 :: l7 :: l8 :: l9 :: l10 :: l11 :: l12 :: l13 :: .val (.int x) :: L) S k n H Q ↔ W (pj lw) 100 91 (l0 :: l1 :: l2 :: l3 :: l4 :: l5 :: l6 :: l7 :: l8 :: l9 :: l10 :: l11 :: l12 :: l13 :: .val (.int x) :: L) (.int x :: S) k n H Q := W_s (rfl : (pj lw).1 100 89 = some (.iload 14, 2, 0)) rfl rfl rfl
theorem w100_91 : W (pj lw) 100 91 L S k n H Q ↔ W (pj lw) 100 92 L (.int 3 :: S) k n H Q := W_s (rfl : (pj lw).1 100 91 = some (.iconst 3, 1, 0)) rfl rfl rfl
theorem w100_92 {x y : Int32} : W (pj lw) 100 92 L (.int y :: .int x :: S) k n H Q ↔ W (pj lw) 100 93 L (.int (x + y) :: S) k n H Q := W_s (rfl : (pj lw).1 100 92 = some (.iadd, 1, 0)) rfl rfl rfl
theorem w100_93 {i : Int32} {a : Nat} : W (pj lw) 100 93 L (.int i :: .ref a :: S) k n H Q ↔ (inA H a .int i = true ∧ W (pj lw) 100 94 L (elt H a i :: S) k n H Q) := W_iaload (rfl : (pj lw).1 100 93 = some (.iaload, 1, 0))
theorem w100_94 : W (pj lw) 100 94 L S k n H Q ↔ W (pj lw) 100 96 L (.int 15 :: S) k n H Q := W_s (rfl : (pj lw).1 100 94 = some (.bipush 15, 2, 0)) rfl rfl rfl
theorem w100_96 {x y : Int32} : W (pj lw) 100 96 L (.int y :: .int x :: S) k n H Q ↔ W (pj lw) 100 97 L (.int (x &&& y) :: S) k n H Q := W_s (rfl : (pj lw).1 100 96 = some (.iand, 1, 0)) rfl rfl rfl
theorem w100_97 : W (pj lw) 100 97 L S k n H Q ↔ W (pj lw) 100 98 L (.int 5 :: S) k n H Q := W_s (rfl : (pj lw).1 100 97 = some (.iconst 5, 1, 0)) rfl rfl rfl
theorem w100_98 {x y : Int32} : W (pj lw) 100 98 L (.int y :: .int x :: S) k n H Q ↔ W (pj lw) 100 99 L (.int (x - y) :: S) k n H Q := W_s (rfl : (pj lw).1 100 98 = some (.isub, 1, 0)) rfl rfl rfl
theorem w100_99 {x : Int32} {l0 l1 l2 l3 l4 l5 l6 l7 l8 l9 l10 l11 l12 l13 l14 l15 l16 l17 l18 : Slot} : W (pj lw) 100 99 (l0 :: l1 :: l2 :: l3 :: l4 :: l5 :: l6 :: l7 :: l8 :: l9 :: l10 :: l11 :: l12 :: l13 :: l14 :: l15 :: l16 :: l17 :: l18 :: .unset :: L) (.int x :: S) k n H Q ↔ W (pj lw) 100 101 (l0 :: l1 :: l2 :: l3 :: l4 :: l5 :: l6 :: l7 :: l8 :: l9 :: l10 :: l11 :: l12 :: l13 :: l14 :: l15 :: l16 :: l17 :: l18 :: .val (.int x) :: L) S k n H Q := W_ist (rfl : (pj lw).1 100 99 = some (.istore 19, 2, 0)) rfl rfl
theorem w100_101 {x : Int32} {l0 l1 l2 l3 l4 l5 l6 l7 l8 l9 l10 l11 l12 l13 l14 : Slot} : W (pj lw) 100 101 (l0 :: l1 :: l2 :: l3 :: l4 :: l5 :: l6 :: l7 :: l8 :: l9 :: l10 :: l11 :: l12 :: l13 :: l14 :: .val (.int x) :: L) S k n H Q ↔ W (pj lw) 100 103 (l0 :: l1 :: l2 :: l3 :: l4 :: l5 :: l6 :: l7 :: l8 :: l9 :: l10 :: l11 :: l12 :: l13 :: l14 :: .val (.int x) :: L) (.int x :: S) k n H Q := W_s (rfl : (pj lw).1 100 101 = some (.iload 15, 2, 0)) rfl rfl rfl
theorem w100_103 : W (pj lw) 100 103 L S k n H Q ↔ W (pj lw) 100 104 L (.int 1 :: S) k n H Q := W_s (rfl : (pj lw).1 100 103 = some (.iconst 1, 1, 0)) rfl rfl rfl
theorem w100_104 {x y : Int32} : W (pj lw) 100 104 L (.int y :: .int x :: S) k n H Q ↔ (if y < x then W (pj lw) 100 379 L S k n H Q else W (pj lw) 100 107 L S k n H Q) := W_icmp_gt (rfl : (pj lw).1 100 104 = some (.if_icmp .gt 275, 3, 0)) rfl
theorem w100_107 {x : Nat} {l0 l1 l2 : Slot} : W (pj lw) 100 107 (l0 :: l1 :: l2 :: .val (.ref x) :: L) S k n H Q ↔ W (pj lw) 100 108 (l0 :: l1 :: l2 :: .val (.ref x) :: L) (.ref x :: S) k n H Q := W_s (rfl : (pj lw).1 100 107 = some (.aload_n 3, 1, 0)) rfl rfl rfl
theorem w100_108 {x : Int32} {l0 l1 l2 l3 l4 l5 l6 l7 l8 l9 l10 l11 l12 l13 l14 l15 : Slot} : W (pj lw) 100 108 (l0 :: l1 :: l2 :: l3 :: l4 :: l5 :: l6 :: l7 :: l8 :: l9 :: l10 :: l11 :: l12 :: l13 :: l14 :: l15 :: .val (.int x) :: L) S k n H Q ↔ W (pj lw) 100 110 (l0 :: l1 :: l2 :: l3 :: l4 :: l5 :: l6 :: l7 :: l8 :: l9 :: l10 :: l11 :: l12 :: l13 :: l14 :: l15 :: .val (.int x) :: L) (.int x :: S) k n H Q := W_s (rfl : (pj lw).1 100 108 = some (.iload 16, 2, 0)) rfl rfl rfl
theorem w100_110 {x : Int32} {l0 l1 l2 l3 l4 l5 l6 l7 l8 l9 l10 l11 l12 l13 l14 l15 l16 : Slot} : W (pj lw) 100 110 (l0 :: l1 :: l2 :: l3 :: l4 :: l5 :: l6 :: l7 :: l8 :: l9 :: l10 :: l11 :: l12 :: l13 :: l14 :: l15 :: l16 :: .val (.int x) :: L) S k n H Q ↔ W (pj lw) 100 112 (l0 :: l1 :: l2 :: l3 :: l4 :: l5 :: l6 :: l7 :: l8 :: l9 :: l10 :: l11 :: l12 :: l13 :: l14 :: l15 :: l16 :: .val (.int x) :: L) (.int x :: S) k n H Q := W_s (rfl : (pj lw).1 100 110 = some (.iload 17, 2, 0)) rfl rfl rfl
theorem w100_112 {x : Int32} {l0 l1 l2 l3 l4 l5 l6 l7 l8 l9 l10 l11 l12 l13 l14 l15 l16 l17 l18 : Slot} : W (pj lw) 100 112 (l0 :: l1 :: l2 :: l3 :: l4 :: l5 :: l6 :: l7 :: l8 :: l9 :: l10 :: l11 :: l12 :: l13 :: l14 :: l15 :: l16 :: l17 :: l18 :: .val (.int x) :: L) S k n H Q ↔ W (pj lw) 100 114 (l0 :: l1 :: l2 :: l3 :: l4 :: l5 :: l6 :: l7 :: l8 :: l9 :: l10 :: l11 :: l12 :: l13 :: l14 :: l15 :: l16 :: l17 :: l18 :: .val (.int x) :: L) (.int x :: S) k n H Q := W_s (rfl : (pj lw).1 100 112 = some (.iload 19, 2, 0)) rfl rfl rfl
theorem w100_114 {a : Nat} {x0 : Int32} {x1 : Int32} {x2 : Int32} : W (pj lw) 100 114 L (.int x2 :: .int x1 :: .int x0 :: .ref a :: S) k n H Q ↔ ((isO H a = true ∧ cs S + (6 + 11) + 65 ≤ 192) ∧ Cl (pj lw) 2 [.ref a, .int x0, .int x1, .int x2] H (fun v H => W (pj lw) 100 117 L (v.toList ++ S) k n H Q)) := W_inst (as := [.int x0, .int x1, .int x2]) (rfl : (pj lw).1 100 114 = some (.invokevirtual 12, 3, 2)) rfl rfl rfl (Nat.le_of_ble_eq_true rfl) (Nat.le_of_ble_eq_true rfl) ⟨rfl, rfl⟩
theorem w100_117 {x : Int32} {l0 l1 l2 l3 l4 l5 l6 l7 l8 l9 l10 l11 l12 l13 l14 l15 l16 l17 l18 l19 : Slot} : W (pj lw) 100 117 (l0 :: l1 :: l2 :: l3 :: l4 :: l5 :: l6 :: l7 :: l8 :: l9 :: l10 :: l11 :: l12 :: l13 :: l14 :: l15 :: l16 :: l17 :: l18 :: l19 :: .unset :: L) (.int x :: S) k n H Q ↔ W (pj lw) 100 119 (l0 :: l1 :: l2 :: l3 :: l4 :: l5 :: l6 :: l7 :: l8 :: l9 :: l10 :: l11 :: l12 :: l13 :: l14 :: l15 :: l16 :: l17 :: l18 :: l19 :: .val (.int x) :: L) S k n H Q := W_ist (rfl : (pj lw).1 100 117 = some (.istore 20, 2, 0)) rfl rfl
theorem w100_119 {x : Int32} {l0 l1 l2 l3 l4 l5 l6 l7 l8 l9 l10 l11 l12 l13 l14 l15 : Slot} : W (pj lw) 100 119 (l0 :: l1 :: l2 :: l3 :: l4 :: l5 :: l6 :: l7 :: l8 :: l9 :: l10 :: l11 :: l12 :: l13 :: l14 :: l15 :: .val (.int x) :: L) S k n H Q ↔ W (pj lw) 100 121 (l0 :: l1 :: l2 :: l3 :: l4 :: l5 :: l6 :: l7 :: l8 :: l9 :: l10 :: l11 :: l12 :: l13 :: l14 :: l15 :: .val (.int x) :: L) (.int x :: S) k n H Q := W_s (rfl : (pj lw).1 100 119 = some (.iload 16, 2, 0)) rfl rfl rfl
theorem w100_121 {x : Int32} {l0 : Slot} : W (pj lw) 100 121 (l0 :: .val (.int x) :: L) S k n H Q ↔ W (pj lw) 100 122 (l0 :: .val (.int x) :: L) (.int x :: S) k n H Q := W_s (rfl : (pj lw).1 100 121 = some (.iload_n 1, 1, 0)) rfl rfl rfl
theorem w100_122 {x y : Int32} : W (pj lw) 100 122 L (.int y :: .int x :: S) k n H Q ↔ (if x < y then W (pj lw) 100 125 L S k n H Q else W (pj lw) 100 131 L S k n H Q) := W_icmp_ge (rfl : (pj lw).1 100 122 = some (.if_icmp .ge 9, 3, 0)) rfl
theorem w100_125 {x : Int32} {l0 l1 l2 l3 l4 l5 l6 l7 l8 l9 l10 l11 l12 l13 l14 l15 l16 : Slot} : W (pj lw) 100 125 (l0 :: l1 :: l2 :: l3 :: l4 :: l5 :: l6 :: l7 :: l8 :: l9 :: l10 :: l11 :: l12 :: l13 :: l14 :: l15 :: l16 :: .val (.int x) :: L) S k n H Q ↔ W (pj lw) 100 127 (l0 :: l1 :: l2 :: l3 :: l4 :: l5 :: l6 :: l7 :: l8 :: l9 :: l10 :: l11 :: l12 :: l13 :: l14 :: l15 :: l16 :: .val (.int x) :: L) (.int x :: S) k n H Q := W_s (rfl : (pj lw).1 100 125 = some (.iload 17, 2, 0)) rfl rfl rfl
theorem w100_127 {x : Int32} {l0 : Slot} : W (pj lw) 100 127 (l0 :: .val (.int x) :: L) S k n H Q ↔ W (pj lw) 100 128 (l0 :: .val (.int x) :: L) (.int x :: S) k n H Q := W_s (rfl : (pj lw).1 100 127 = some (.iload_n 1, 1, 0)) rfl rfl rfl
theorem w100_128 {x y : Int32} : W (pj lw) 100 128 L (.int y :: .int x :: S) k n H Q ↔ (if x < y then W (pj lw) 100 140 L S k n H Q else W (pj lw) 100 131 L S k n H Q) := W_icmp_lt (rfl : (pj lw).1 100 128 = some (.if_icmp .lt 12, 3, 0)) rfl
theorem w100_131 {x : Int32} {l0 l1 l2 l3 l4 l5 l6 l7 l8 l9 l10 l11 l12 l13 l14 l15 l16 l17 l18 l19 : Slot} : W (pj lw) 100 131 (l0 :: l1 :: l2 :: l3 :: l4 :: l5 :: l6 :: l7 :: l8 :: l9 :: l10 :: l11 :: l12 :: l13 :: l14 :: l15 :: l16 :: l17 :: l18 :: l19 :: .val (.int x) :: L) S k n H Q ↔ W (pj lw) 100 133 (l0 :: l1 :: l2 :: l3 :: l4 :: l5 :: l6 :: l7 :: l8 :: l9 :: l10 :: l11 :: l12 :: l13 :: l14 :: l15 :: l16 :: l17 :: l18 :: l19 :: .val (.int x) :: L) (.int x :: S) k n H Q := W_s (rfl : (pj lw).1 100 131 = some (.iload 20, 2, 0)) rfl rfl rfl
theorem w100_133 : W (pj lw) 100 133 L S k n H Q ↔ W (pj lw) 100 135 L (.int (-2) :: S) k n H Q := W_s (rfl : (pj lw).1 100 133 = some (.bipush (-2), 2, 0)) rfl rfl rfl
theorem w100_135 {x y : Int32} : W (pj lw) 100 135 L (.int y :: .int x :: S) k n H Q ↔ (if x = y then W (pj lw) 100 376 L S k n H Q else W (pj lw) 100 138 L S k n H Q) := W_icmp_eq (rfl : (pj lw).1 100 135 = some (.if_icmp .eq 241, 3, 0)) rfl
theorem w100_140 {x : Int32} {l0 l1 l2 l3 l4 l5 l6 l7 l8 l9 l10 l11 l12 l13 l14 l15 : Slot} : W (pj lw) 100 140 (l0 :: l1 :: l2 :: l3 :: l4 :: l5 :: l6 :: l7 :: l8 :: l9 :: l10 :: l11 :: l12 :: l13 :: l14 :: l15 :: .val (.int x) :: L) S k n H Q ↔ W (pj lw) 100 142 (l0 :: l1 :: l2 :: l3 :: l4 :: l5 :: l6 :: l7 :: l8 :: l9 :: l10 :: l11 :: l12 :: l13 :: l14 :: l15 :: .val (.int x) :: L) (.int x :: S) k n H Q := W_s (rfl : (pj lw).1 100 140 = some (.iload 16, 2, 0)) rfl rfl rfl
theorem w100_142 {x : Int32} {l0 l1 l2 l3 l4 l5 l6 l7 l8 l9 l10 l11 l12 l13 l14 l15 l16 : Slot} : W (pj lw) 100 142 (l0 :: l1 :: l2 :: l3 :: l4 :: l5 :: l6 :: l7 :: l8 :: l9 :: l10 :: l11 :: l12 :: l13 :: l14 :: l15 :: l16 :: .val (.int x) :: L) S k n H Q ↔ W (pj lw) 100 144 (l0 :: l1 :: l2 :: l3 :: l4 :: l5 :: l6 :: l7 :: l8 :: l9 :: l10 :: l11 :: l12 :: l13 :: l14 :: l15 :: l16 :: .val (.int x) :: L) (.int x :: S) k n H Q := W_s (rfl : (pj lw).1 100 142 = some (.iload 17, 2, 0)) rfl rfl rfl
theorem w100_144 {x y : Int32} : W (pj lw) 100 144 L (.int y :: .int x :: S) k n H Q ↔ (if x = y then W (pj lw) 100 147 L S k n H Q else W (pj lw) 100 156 L S k n H Q) := W_icmp_ne (rfl : (pj lw).1 100 144 = some (.if_icmp .ne 12, 3, 0)) rfl
theorem w100_147 {x : Int32} {l0 l1 l2 l3 l4 l5 l6 l7 l8 l9 l10 l11 l12 l13 l14 l15 l16 l17 l18 l19 : Slot} : W (pj lw) 100 147 (l0 :: l1 :: l2 :: l3 :: l4 :: l5 :: l6 :: l7 :: l8 :: l9 :: l10 :: l11 :: l12 :: l13 :: l14 :: l15 :: l16 :: l17 :: l18 :: l19 :: .val (.int x) :: L) S k n H Q ↔ W (pj lw) 100 149 (l0 :: l1 :: l2 :: l3 :: l4 :: l5 :: l6 :: l7 :: l8 :: l9 :: l10 :: l11 :: l12 :: l13 :: l14 :: l15 :: l16 :: l17 :: l18 :: l19 :: .val (.int x) :: L) (.int x :: S) k n H Q := W_s (rfl : (pj lw).1 100 147 = some (.iload 20, 2, 0)) rfl rfl rfl
theorem w100_149 : W (pj lw) 100 149 L S k n H Q ↔ W (pj lw) 100 151 L (.int (-3) :: S) k n H Q := W_s (rfl : (pj lw).1 100 149 = some (.bipush (-3), 2, 0)) rfl rfl rfl
theorem w100_151 {x y : Int32} : W (pj lw) 100 151 L (.int y :: .int x :: S) k n H Q ↔ (if x = y then W (pj lw) 100 376 L S k n H Q else W (pj lw) 100 154 L S k n H Q) := W_icmp_eq (rfl : (pj lw).1 100 151 = some (.if_icmp .eq 225, 3, 0)) rfl
theorem w100_156 {x : Int32} {l0 l1 l2 l3 l4 l5 l6 l7 l8 l9 : Slot} : W (pj lw) 100 156 (l0 :: l1 :: l2 :: l3 :: l4 :: l5 :: l6 :: l7 :: l8 :: l9 :: .val (.int x) :: L) S k n H Q ↔ W (pj lw) 100 158 (l0 :: l1 :: l2 :: l3 :: l4 :: l5 :: l6 :: l7 :: l8 :: l9 :: .val (.int x) :: L) (.int x :: S) k n H Q := W_s (rfl : (pj lw).1 100 156 = some (.iload 10, 2, 0)) rfl rfl rfl
theorem w100_158 : W (pj lw) 100 158 L S k n H Q ↔ W (pj lw) 100 161 L (.int 128 :: S) k n H Q := W_s (rfl : (pj lw).1 100 158 = some (.sipush 128, 3, 0)) rfl rfl rfl
theorem w100_161 {x y : Int32} : W (pj lw) 100 161 L (.int y :: .int x :: S) k n H Q ↔ (if x = y then W (pj lw) 100 164 L S k n H Q else W (pj lw) 100 173 L S k n H Q) := W_icmp_ne (rfl : (pj lw).1 100 161 = some (.if_icmp .ne 12, 3, 0)) rfl
theorem w100_173 {x : Int32} {l0 l1 l2 l3 l4 l5 l6 l7 l8 l9 l10 l11 l12 l13 l14 l15 l16 l17 l18 l19 : Slot} : W (pj lw) 100 173 (l0 :: l1 :: l2 :: l3 :: l4 :: l5 :: l6 :: l7 :: l8 :: l9 :: l10 :: l11 :: l12 :: l13 :: l14 :: l15 :: l16 :: l17 :: l18 :: l19 :: .val (.int x) :: L) S k n H Q ↔ W (pj lw) 100 175 (l0 :: l1 :: l2 :: l3 :: l4 :: l5 :: l6 :: l7 :: l8 :: l9 :: l10 :: l11 :: l12 :: l13 :: l14 :: l15 :: l16 :: l17 :: l18 :: l19 :: .val (.int x) :: L) (.int x :: S) k n H Q := W_s (rfl : (pj lw).1 100 173 = some (.iload 20, 2, 0)) rfl rfl rfl
theorem w100_175 {x : Int32} : W (pj lw) 100 175 L (.int x :: S) k n H Q ↔ (if x < 0 then W (pj lw) 100 186 L S k n H Q else W (pj lw) 100 178 L S k n H Q) := W_if_lt (rfl : (pj lw).1 100 175 = some (.ifCond .lt 11, 3, 0)) rfl
theorem w100_178 {x : Int32} {l0 l1 l2 l3 l4 l5 l6 l7 l8 l9 l10 l11 l12 l13 l14 l15 l16 l17 l18 l19 : Slot} : W (pj lw) 100 178 (l0 :: l1 :: l2 :: l3 :: l4 :: l5 :: l6 :: l7 :: l8 :: l9 :: l10 :: l11 :: l12 :: l13 :: l14 :: l15 :: l16 :: l17 :: l18 :: l19 :: .val (.int x) :: L) S k n H Q ↔ W (pj lw) 100 180 (l0 :: l1 :: l2 :: l3 :: l4 :: l5 :: l6 :: l7 :: l8 :: l9 :: l10 :: l11 :: l12 :: l13 :: l14 :: l15 :: l16 :: l17 :: l18 :: l19 :: .val (.int x) :: L) (.int x :: S) k n H Q := W_s (rfl : (pj lw).1 100 178 = some (.iload 20, 2, 0)) rfl rfl rfl
theorem w100_180 : W (pj lw) 100 180 L S k n H Q ↔ W (pj lw) 100 183 L (.int 128 :: S) k n H Q := W_s (rfl : (pj lw).1 100 180 = some (.sipush 128, 3, 0)) rfl rfl rfl
theorem w100_183 {x y : Int32} : W (pj lw) 100 183 L (.int y :: .int x :: S) k n H Q ↔ (if x < y then W (pj lw) 100 188 L S k n H Q else W (pj lw) 100 186 L S k n H Q) := W_icmp_lt (rfl : (pj lw).1 100 183 = some (.if_icmp .lt 5, 3, 0)) rfl
theorem w100_188 {x : Int64} {l0 l1 l2 l3 : Slot} : W (pj lw) 100 188 (l0 :: l1 :: l2 :: l3 :: .val (.long x) :: L) S k n H Q ↔ W (pj lw) 100 190 (l0 :: l1 :: l2 :: l3 :: .val (.long x) :: L) (.long x :: S) k n H Q := W_s (rfl : (pj lw).1 100 188 = some (.lload 4, 2, 0)) rfl rfl rfl
theorem w100_190 {x : Int64} {l0 l1 l2 l3 l4 l5 : Slot} : W (pj lw) 100 190 (l0 :: l1 :: l2 :: l3 :: l4 :: l5 :: .val (.long x) :: L) S k n H Q ↔ W (pj lw) 100 192 (l0 :: l1 :: l2 :: l3 :: l4 :: l5 :: .val (.long x) :: L) (.long x :: S) k n H Q := W_s (rfl : (pj lw).1 100 190 = some (.lload 6, 2, 0)) rfl rfl rfl
theorem w100_192 {x : Int32} {l0 l1 l2 l3 l4 l5 l6 l7 l8 l9 l10 l11 l12 l13 l14 l15 l16 l17 l18 l19 : Slot} : W (pj lw) 100 192 (l0 :: l1 :: l2 :: l3 :: l4 :: l5 :: l6 :: l7 :: l8 :: l9 :: l10 :: l11 :: l12 :: l13 :: l14 :: l15 :: l16 :: l17 :: l18 :: l19 :: .val (.int x) :: L) S k n H Q ↔ W (pj lw) 100 194 (l0 :: l1 :: l2 :: l3 :: l4 :: l5 :: l6 :: l7 :: l8 :: l9 :: l10 :: l11 :: l12 :: l13 :: l14 :: l15 :: l16 :: l17 :: l18 :: l19 :: .val (.int x) :: L) (.int x :: S) k n H Q := W_s (rfl : (pj lw).1 100 192 = some (.iload 20, 2, 0)) rfl rfl rfl
theorem w100_194 {x0 : Int64} {x1 : Int64} {x2 : Int32} : W (pj lw) 100 194 L (.int x2 :: .long x1 :: .long x0 :: S) k n H Q ↔ (cs S + (5 + 11) + 0 ≤ 192 ∧ Cl (pj lw) 103 [.long x0, .long x1, .int x2] H (fun v H => W (pj lw) 100 197 L (v.toList ++ S) k n H Q)) := W_stat (a := [.long x0, .long x1, .int x2]) (rfl : (pj lw).1 100 194 = some (.invokestatic 16, 3, 103)) rfl rfl rfl (Nat.le_of_ble_eq_true rfl) (Nat.le_of_ble_eq_true rfl) ⟨rfl, rfl⟩
theorem w100_197 {x : Int32} : W (pj lw) 100 197 L (.int x :: S) k n H Q ↔ (if x = 0 then W (pj lw) 100 200 L S k n H Q else W (pj lw) 100 212 L S k n H Q) := W_if_ne (rfl : (pj lw).1 100 197 = some (.ifCond .ne 15, 3, 0)) rfl
theorem w100_200 {x : Int64} {l0 l1 l2 l3 : Slot} : W (pj lw) 100 200 (l0 :: l1 :: l2 :: l3 :: .val (.long x) :: L) S k n H Q ↔ W (pj lw) 100 202 (l0 :: l1 :: l2 :: l3 :: .val (.long x) :: L) (.long x :: S) k n H Q := W_s (rfl : (pj lw).1 100 200 = some (.lload 4, 2, 0)) rfl rfl rfl
theorem w100_202 {x : Int64} {l0 l1 l2 l3 l4 l5 : Slot} : W (pj lw) 100 202 (l0 :: l1 :: l2 :: l3 :: l4 :: l5 :: .val (.long x) :: L) S k n H Q ↔ W (pj lw) 100 204 (l0 :: l1 :: l2 :: l3 :: l4 :: l5 :: .val (.long x) :: L) (.long x :: S) k n H Q := W_s (rfl : (pj lw).1 100 202 = some (.lload 6, 2, 0)) rfl rfl rfl
theorem w100_204 {x : Int32} {l0 l1 l2 l3 l4 l5 l6 l7 l8 l9 l10 l11 l12 l13 l14 l15 l16 l17 l18 l19 : Slot} : W (pj lw) 100 204 (l0 :: l1 :: l2 :: l3 :: l4 :: l5 :: l6 :: l7 :: l8 :: l9 :: l10 :: l11 :: l12 :: l13 :: l14 :: l15 :: l16 :: l17 :: l18 :: l19 :: .val (.int x) :: L) S k n H Q ↔ W (pj lw) 100 206 (l0 :: l1 :: l2 :: l3 :: l4 :: l5 :: l6 :: l7 :: l8 :: l9 :: l10 :: l11 :: l12 :: l13 :: l14 :: l15 :: l16 :: l17 :: l18 :: l19 :: .val (.int x) :: L) (.int x :: S) k n H Q := W_s (rfl : (pj lw).1 100 204 = some (.iload 20, 2, 0)) rfl rfl rfl
theorem w100_206 {x0 : Int64} {x1 : Int64} {x2 : Int32} : W (pj lw) 100 206 L (.int x2 :: .long x1 :: .long x0 :: S) k n H Q ↔ (cs S + (7 + 11) + 0 ≤ 192 ∧ Cl (pj lw) 104 [.long x0, .long x1, .int x2] H (fun v H => W (pj lw) 100 209 L (v.toList ++ S) k n H Q)) := W_stat (a := [.long x0, .long x1, .int x2]) (rfl : (pj lw).1 100 206 = some (.invokestatic 22, 3, 104)) rfl rfl rfl (Nat.le_of_ble_eq_true rfl) (Nat.le_of_ble_eq_true rfl) ⟨rfl, rfl⟩
theorem w100_209 {x : Int32} : W (pj lw) 100 209 L (.int x :: S) k n H Q ↔ (if x = 0 then W (pj lw) 100 212 L S k n H Q else W (pj lw) 100 214 L S k n H Q) := W_if_ne (rfl : (pj lw).1 100 209 = some (.ifCond .ne 5, 3, 0)) rfl
theorem w100_214 {x : Int32} {l0 l1 l2 l3 l4 l5 l6 l7 l8 l9 l10 l11 l12 l13 l14 l15 l16 l17 l18 l19 : Slot} : W (pj lw) 100 214 (l0 :: l1 :: l2 :: l3 :: l4 :: l5 :: l6 :: l7 :: l8 :: l9 :: l10 :: l11 :: l12 :: l13 :: l14 :: l15 :: l16 :: l17 :: l18 :: l19 :: .val (.int x) :: L) S k n H Q ↔ W (pj lw) 100 216 (l0 :: l1 :: l2 :: l3 :: l4 :: l5 :: l6 :: l7 :: l8 :: l9 :: l10 :: l11 :: l12 :: l13 :: l14 :: l15 :: l16 :: l17 :: l18 :: l19 :: .val (.int x) :: L) (.int x :: S) k n H Q := W_s (rfl : (pj lw).1 100 214 = some (.iload 20, 2, 0)) rfl rfl rfl
theorem w100_216 : W (pj lw) 100 216 L S k n H Q ↔ W (pj lw) 100 218 L (.int 64 :: S) k n H Q := W_s (rfl : (pj lw).1 100 216 = some (.bipush 64, 2, 0)) rfl rfl rfl
theorem w100_218 {x y : Int32} : W (pj lw) 100 218 L (.int y :: .int x :: S) k n H Q ↔ (if x < y then W (pj lw) 100 221 L S k n H Q else W (pj lw) 100 233 L S k n H Q) := W_icmp_ge (rfl : (pj lw).1 100 218 = some (.if_icmp .ge 15, 3, 0)) rfl
theorem w100_221 {x : Int64} {l0 l1 l2 l3 : Slot} : W (pj lw) 100 221 (l0 :: l1 :: l2 :: l3 :: .val (.long x) :: L) S k n H Q ↔ W (pj lw) 100 223 (l0 :: l1 :: l2 :: l3 :: .val (.long x) :: L) (.long x :: S) k n H Q := W_s (rfl : (pj lw).1 100 221 = some (.lload 4, 2, 0)) rfl rfl rfl
theorem w100_223 : W (pj lw) 100 223 L S k n H Q ↔ W (pj lw) 100 224 L (.long 1 :: S) k n H Q := W_s (rfl : (pj lw).1 100 223 = some (.lconst 1, 1, 0)) rfl rfl rfl
theorem w100_224 {x : Int32} {l0 l1 l2 l3 l4 l5 l6 l7 l8 l9 l10 l11 l12 l13 l14 l15 l16 l17 l18 l19 : Slot} : W (pj lw) 100 224 (l0 :: l1 :: l2 :: l3 :: l4 :: l5 :: l6 :: l7 :: l8 :: l9 :: l10 :: l11 :: l12 :: l13 :: l14 :: l15 :: l16 :: l17 :: l18 :: l19 :: .val (.int x) :: L) S k n H Q ↔ W (pj lw) 100 226 (l0 :: l1 :: l2 :: l3 :: l4 :: l5 :: l6 :: l7 :: l8 :: l9 :: l10 :: l11 :: l12 :: l13 :: l14 :: l15 :: l16 :: l17 :: l18 :: l19 :: .val (.int x) :: L) (.int x :: S) k n H Q := W_s (rfl : (pj lw).1 100 224 = some (.iload 20, 2, 0)) rfl rfl rfl
theorem w100_226 {x : Int64} {y : Int32} : W (pj lw) 100 226 L (.int y :: .long x :: S) k n H Q ↔ W (pj lw) 100 227 L (.long (x <<< (y.toInt64 &&& 63)) :: S) k n H Q := W_s (rfl : (pj lw).1 100 226 = some (.lshl, 1, 0)) rfl rfl rfl
theorem w100_227 {x y : Int64} : W (pj lw) 100 227 L (.long y :: .long x :: S) k n H Q ↔ W (pj lw) 100 228 L (.long (x ||| y) :: S) k n H Q := W_s (rfl : (pj lw).1 100 227 = some (.lor, 1, 0)) rfl rfl rfl
theorem w100_228j {x y : Int64} {l0 l1 l2 l3 : Slot} : W (pj lw) 100 228 (l0 :: l1 :: l2 :: l3 :: .val (.long y) :: .second :: L) (.long x :: S) k n H Q ↔ W (pj lw) 100 230 (l0 :: l1 :: l2 :: l3 :: .val (.long x) :: .second :: L) S k n H Q := W_lst' (rfl : (pj lw).1 100 228 = some (.lstore 4, 2, 0)) rfl rfl
theorem w100_230 : W (pj lw) 100 230 L S k n H Q ↔ W (pj lw) 100 245 L S k n H Q := W_goto (rfl : (pj lw).1 100 230 = some (.goto 15, 3, 0)) rfl
theorem w100_233 {x : Int64} {l0 l1 l2 l3 l4 l5 : Slot} : W (pj lw) 100 233 (l0 :: l1 :: l2 :: l3 :: l4 :: l5 :: .val (.long x) :: L) S k n H Q ↔ W (pj lw) 100 235 (l0 :: l1 :: l2 :: l3 :: l4 :: l5 :: .val (.long x) :: L) (.long x :: S) k n H Q := W_s (rfl : (pj lw).1 100 233 = some (.lload 6, 2, 0)) rfl rfl rfl
theorem w100_235 : W (pj lw) 100 235 L S k n H Q ↔ W (pj lw) 100 236 L (.long 1 :: S) k n H Q := W_s (rfl : (pj lw).1 100 235 = some (.lconst 1, 1, 0)) rfl rfl rfl
theorem w100_236 {x : Int32} {l0 l1 l2 l3 l4 l5 l6 l7 l8 l9 l10 l11 l12 l13 l14 l15 l16 l17 l18 l19 : Slot} : W (pj lw) 100 236 (l0 :: l1 :: l2 :: l3 :: l4 :: l5 :: l6 :: l7 :: l8 :: l9 :: l10 :: l11 :: l12 :: l13 :: l14 :: l15 :: l16 :: l17 :: l18 :: l19 :: .val (.int x) :: L) S k n H Q ↔ W (pj lw) 100 238 (l0 :: l1 :: l2 :: l3 :: l4 :: l5 :: l6 :: l7 :: l8 :: l9 :: l10 :: l11 :: l12 :: l13 :: l14 :: l15 :: l16 :: l17 :: l18 :: l19 :: .val (.int x) :: L) (.int x :: S) k n H Q := W_s (rfl : (pj lw).1 100 236 = some (.iload 20, 2, 0)) rfl rfl rfl
theorem w100_238 : W (pj lw) 100 238 L S k n H Q ↔ W (pj lw) 100 240 L (.int 64 :: S) k n H Q := W_s (rfl : (pj lw).1 100 238 = some (.bipush 64, 2, 0)) rfl rfl rfl
theorem w100_240 {x y : Int32} : W (pj lw) 100 240 L (.int y :: .int x :: S) k n H Q ↔ W (pj lw) 100 241 L (.int (x - y) :: S) k n H Q := W_s (rfl : (pj lw).1 100 240 = some (.isub, 1, 0)) rfl rfl rfl
theorem w100_241 {x : Int64} {y : Int32} : W (pj lw) 100 241 L (.int y :: .long x :: S) k n H Q ↔ W (pj lw) 100 242 L (.long (x <<< (y.toInt64 &&& 63)) :: S) k n H Q := W_s (rfl : (pj lw).1 100 241 = some (.lshl, 1, 0)) rfl rfl rfl
theorem w100_242 {x y : Int64} : W (pj lw) 100 242 L (.long y :: .long x :: S) k n H Q ↔ W (pj lw) 100 243 L (.long (x ||| y) :: S) k n H Q := W_s (rfl : (pj lw).1 100 242 = some (.lor, 1, 0)) rfl rfl rfl
theorem w100_243j {x y : Int64} {l0 l1 l2 l3 l4 l5 : Slot} : W (pj lw) 100 243 (l0 :: l1 :: l2 :: l3 :: l4 :: l5 :: .val (.long y) :: .second :: L) (.long x :: S) k n H Q ↔ W (pj lw) 100 245 (l0 :: l1 :: l2 :: l3 :: l4 :: l5 :: .val (.long x) :: .second :: L) S k n H Q := W_lst' (rfl : (pj lw).1 100 243 = some (.lstore 6, 2, 0)) rfl rfl
theorem w100_245 {x : Int32} {l0 l1 l2 l3 l4 l5 l6 l7 l8 l9 : Slot} : W (pj lw) 100 245 (l0 :: l1 :: l2 :: l3 :: l4 :: l5 :: l6 :: l7 :: l8 :: l9 :: .val (.int x) :: L) S k n H Q ↔ W (pj lw) 100 248 (l0 :: l1 :: l2 :: l3 :: l4 :: l5 :: l6 :: l7 :: l8 :: l9 :: .val (.int (x + 1)) :: L) S k n H Q := W_s (rfl : (pj lw).1 100 245 = some (.iinc 10 1, 3, 0)) rfl rfl rfl
theorem w100_248 {x : Nat} {l0 l1 l2 : Slot} : W (pj lw) 100 248 (l0 :: l1 :: l2 :: .val (.ref x) :: L) S k n H Q ↔ W (pj lw) 100 249 (l0 :: l1 :: l2 :: .val (.ref x) :: L) (.ref x :: S) k n H Q := W_s (rfl : (pj lw).1 100 248 = some (.aload_n 3, 1, 0)) rfl rfl rfl
theorem w100_249 {a : Nat} : W (pj lw) 100 249 L (.ref a :: S) k n H Q ↔ ((isO H a = true ∧ cs S + (1 + 11) + 0 ≤ 192) ∧ Cl (pj lw) 16 [.ref a] H (fun v H => W (pj lw) 100 252 L (v.toList ++ S) k n H Q)) := W_inst (as := []) (rfl : (pj lw).1 100 249 = some (.invokevirtual 25, 3, 16)) rfl rfl rfl (Nat.le_of_ble_eq_true rfl) (Nat.le_of_ble_eq_true rfl) ⟨rfl, rfl⟩
theorem w100_252 {x : Int32} {l0 l1 l2 l3 l4 l5 l6 l7 l8 l9 l10 l11 l12 l13 l14 l15 l16 l17 l18 l19 l20 : Slot} : W (pj lw) 100 252 (l0 :: l1 :: l2 :: l3 :: l4 :: l5 :: l6 :: l7 :: l8 :: l9 :: l10 :: l11 :: l12 :: l13 :: l14 :: l15 :: l16 :: l17 :: l18 :: l19 :: l20 :: .unset :: L) (.int x :: S) k n H Q ↔ W (pj lw) 100 254 (l0 :: l1 :: l2 :: l3 :: l4 :: l5 :: l6 :: l7 :: l8 :: l9 :: l10 :: l11 :: l12 :: l13 :: l14 :: l15 :: l16 :: l17 :: l18 :: l19 :: l20 :: .val (.int x) :: L) S k n H Q := W_ist (rfl : (pj lw).1 100 252 = some (.istore 21, 2, 0)) rfl rfl
theorem w100_254 {x : Nat} {l0 l1 l2 : Slot} : W (pj lw) 100 254 (l0 :: l1 :: l2 :: .val (.ref x) :: L) S k n H Q ↔ W (pj lw) 100 255 (l0 :: l1 :: l2 :: .val (.ref x) :: L) (.ref x :: S) k n H Q := W_s (rfl : (pj lw).1 100 254 = some (.aload_n 3, 1, 0)) rfl rfl rfl
theorem w100_255 {a : Nat} : W (pj lw) 100 255 L (.ref a :: S) k n H Q ↔ ((isO H a = true ∧ cs S + (1 + 11) + 0 ≤ 192) ∧ Cl (pj lw) 17 [.ref a] H (fun v H => W (pj lw) 100 258 L (v.toList ++ S) k n H Q)) := W_inst (as := []) (rfl : (pj lw).1 100 255 = some (.invokevirtual 29, 3, 17)) rfl rfl rfl (Nat.le_of_ble_eq_true rfl) (Nat.le_of_ble_eq_true rfl) ⟨rfl, rfl⟩
theorem w100_258 {x : Int32} {l0 l1 l2 l3 l4 l5 l6 l7 l8 l9 l10 l11 l12 l13 l14 l15 l16 l17 l18 l19 l20 l21 : Slot} : W (pj lw) 100 258 (l0 :: l1 :: l2 :: l3 :: l4 :: l5 :: l6 :: l7 :: l8 :: l9 :: l10 :: l11 :: l12 :: l13 :: l14 :: l15 :: l16 :: l17 :: l18 :: l19 :: l20 :: l21 :: .unset :: L) (.int x :: S) k n H Q ↔ W (pj lw) 100 260 (l0 :: l1 :: l2 :: l3 :: l4 :: l5 :: l6 :: l7 :: l8 :: l9 :: l10 :: l11 :: l12 :: l13 :: l14 :: l15 :: l16 :: l17 :: l18 :: l19 :: l20 :: l21 :: .val (.int x) :: L) S k n H Q := W_ist (rfl : (pj lw).1 100 258 = some (.istore 22, 2, 0)) rfl rfl
theorem w100_260 {x : Int32} {l0 l1 l2 l3 l4 l5 l6 l7 l8 l9 l10 l11 l12 l13 l14 l15 l16 l17 l18 l19 l20 : Slot} : W (pj lw) 100 260 (l0 :: l1 :: l2 :: l3 :: l4 :: l5 :: l6 :: l7 :: l8 :: l9 :: l10 :: l11 :: l12 :: l13 :: l14 :: l15 :: l16 :: l17 :: l18 :: l19 :: l20 :: .val (.int x) :: L) S k n H Q ↔ W (pj lw) 100 262 (l0 :: l1 :: l2 :: l3 :: l4 :: l5 :: l6 :: l7 :: l8 :: l9 :: l10 :: l11 :: l12 :: l13 :: l14 :: l15 :: l16 :: l17 :: l18 :: l19 :: l20 :: .val (.int x) :: L) (.int x :: S) k n H Q := W_s (rfl : (pj lw).1 100 260 = some (.iload 21, 2, 0)) rfl rfl rfl
theorem w100_262 {x : Int32} {l0 l1 l2 l3 l4 l5 l6 l7 l8 l9 l10 l11 l12 l13 l14 l15 l16 l17 l18 l19 : Slot} : W (pj lw) 100 262 (l0 :: l1 :: l2 :: l3 :: l4 :: l5 :: l6 :: l7 :: l8 :: l9 :: l10 :: l11 :: l12 :: l13 :: l14 :: l15 :: l16 :: l17 :: l18 :: l19 :: .val (.int x) :: L) S k n H Q ↔ W (pj lw) 100 264 (l0 :: l1 :: l2 :: l3 :: l4 :: l5 :: l6 :: l7 :: l8 :: l9 :: l10 :: l11 :: l12 :: l13 :: l14 :: l15 :: l16 :: l17 :: l18 :: l19 :: .val (.int x) :: L) (.int x :: S) k n H Q := W_s (rfl : (pj lw).1 100 262 = some (.iload 20, 2, 0)) rfl rfl rfl
theorem w100_264 {x y : Int32} : W (pj lw) 100 264 L (.int y :: .int x :: S) k n H Q ↔ (if x = y then W (pj lw) 100 275 L S k n H Q else W (pj lw) 100 267 L S k n H Q) := W_icmp_eq (rfl : (pj lw).1 100 264 = some (.if_icmp .eq 11, 3, 0)) rfl
theorem w100_267 {x : Int32} {l0 l1 l2 l3 l4 l5 l6 l7 l8 l9 l10 l11 l12 l13 l14 l15 l16 l17 l18 l19 l20 : Slot} : W (pj lw) 100 267 (l0 :: l1 :: l2 :: l3 :: l4 :: l5 :: l6 :: l7 :: l8 :: l9 :: l10 :: l11 :: l12 :: l13 :: l14 :: l15 :: l16 :: l17 :: l18 :: l19 :: l20 :: .val (.int x) :: L) S k n H Q ↔ W (pj lw) 100 269 (l0 :: l1 :: l2 :: l3 :: l4 :: l5 :: l6 :: l7 :: l8 :: l9 :: l10 :: l11 :: l12 :: l13 :: l14 :: l15 :: l16 :: l17 :: l18 :: l19 :: l20 :: .val (.int x) :: L) (.int x :: S) k n H Q := W_s (rfl : (pj lw).1 100 267 = some (.iload 21, 2, 0)) rfl rfl rfl
theorem w100_269 {x : Int32} {l0 l1 : Slot} : W (pj lw) 100 269 (l0 :: l1 :: .val (.int x) :: L) S k n H Q ↔ W (pj lw) 100 270 (l0 :: l1 :: .val (.int x) :: L) (.int x :: S) k n H Q := W_s (rfl : (pj lw).1 100 269 = some (.iload_n 2, 1, 0)) rfl rfl rfl
theorem w100_270 {x y : Int32} : W (pj lw) 100 270 L (.int y :: .int x :: S) k n H Q ↔ (if x = y then W (pj lw) 100 275 L S k n H Q else W (pj lw) 100 273 L S k n H Q) := W_icmp_eq (rfl : (pj lw).1 100 270 = some (.if_icmp .eq 5, 3, 0)) rfl
theorem w100_275 {x : Nat} {l0 l1 l2 : Slot} : W (pj lw) 100 275 (l0 :: l1 :: l2 :: .val (.ref x) :: L) S k n H Q ↔ W (pj lw) 100 276 (l0 :: l1 :: l2 :: .val (.ref x) :: L) (.ref x :: S) k n H Q := W_s (rfl : (pj lw).1 100 275 = some (.aload_n 3, 1, 0)) rfl rfl rfl
theorem w100_276 {x : Int32} {l0 l1 l2 l3 l4 l5 l6 l7 l8 l9 l10 l11 l12 l13 l14 l15 l16 l17 l18 l19 : Slot} : W (pj lw) 100 276 (l0 :: l1 :: l2 :: l3 :: l4 :: l5 :: l6 :: l7 :: l8 :: l9 :: l10 :: l11 :: l12 :: l13 :: l14 :: l15 :: l16 :: l17 :: l18 :: l19 :: .val (.int x) :: L) S k n H Q ↔ W (pj lw) 100 278 (l0 :: l1 :: l2 :: l3 :: l4 :: l5 :: l6 :: l7 :: l8 :: l9 :: l10 :: l11 :: l12 :: l13 :: l14 :: l15 :: l16 :: l17 :: l18 :: l19 :: .val (.int x) :: L) (.int x :: S) k n H Q := W_s (rfl : (pj lw).1 100 276 = some (.iload 20, 2, 0)) rfl rfl rfl
theorem w100_278 {a : Nat} {x0 : Int32} : W (pj lw) 100 278 L (.int x0 :: .ref a :: S) k n H Q ↔ ((isO H a = true ∧ cs S + (2 + 11) + 13 ≤ 192) ∧ Cl (pj lw) 6 [.ref a, .int x0] H (fun v H => W (pj lw) 100 281 L (v.toList ++ S) k n H Q)) := W_inst (as := [.int x0]) (rfl : (pj lw).1 100 278 = some (.invokevirtual 32, 3, 6)) rfl rfl rfl (Nat.le_of_ble_eq_true rfl) (Nat.le_of_ble_eq_true rfl) ⟨rfl, rfl⟩
theorem w100_281 {x : Int32} {l0 l1 l2 l3 l4 l5 l6 l7 l8 l9 l10 l11 l12 l13 l14 l15 l16 l17 l18 l19 l20 : Slot} : W (pj lw) 100 281 (l0 :: l1 :: l2 :: l3 :: l4 :: l5 :: l6 :: l7 :: l8 :: l9 :: l10 :: l11 :: l12 :: l13 :: l14 :: l15 :: l16 :: l17 :: l18 :: l19 :: l20 :: .val (.int x) :: L) S k n H Q ↔ W (pj lw) 100 283 (l0 :: l1 :: l2 :: l3 :: l4 :: l5 :: l6 :: l7 :: l8 :: l9 :: l10 :: l11 :: l12 :: l13 :: l14 :: l15 :: l16 :: l17 :: l18 :: l19 :: l20 :: .val (.int x) :: L) (.int x :: S) k n H Q := W_s (rfl : (pj lw).1 100 281 = some (.iload 21, 2, 0)) rfl rfl rfl
theorem w100_283 {x : Int32} {l0 l1 l2 l3 l4 l5 l6 l7 l8 l9 l10 l11 l12 l13 l14 l15 l16 l17 l18 l19 : Slot} : W (pj lw) 100 283 (l0 :: l1 :: l2 :: l3 :: l4 :: l5 :: l6 :: l7 :: l8 :: l9 :: l10 :: l11 :: l12 :: l13 :: l14 :: l15 :: l16 :: l17 :: l18 :: l19 :: .val (.int x) :: L) S k n H Q ↔ W (pj lw) 100 285 (l0 :: l1 :: l2 :: l3 :: l4 :: l5 :: l6 :: l7 :: l8 :: l9 :: l10 :: l11 :: l12 :: l13 :: l14 :: l15 :: l16 :: l17 :: l18 :: l19 :: .val (.int x) :: L) (.int x :: S) k n H Q := W_s (rfl : (pj lw).1 100 283 = some (.iload 20, 2, 0)) rfl rfl rfl
theorem w100_285 {x y : Int32} : W (pj lw) 100 285 L (.int y :: .int x :: S) k n H Q ↔ (if x = y then W (pj lw) 100 288 L S k n H Q else W (pj lw) 100 292 L S k n H Q) := W_icmp_ne (rfl : (pj lw).1 100 285 = some (.if_icmp .ne 7, 3, 0)) rfl
theorem w100_288 : W (pj lw) 100 288 L S k n H Q ↔ W (pj lw) 100 289 L (.int 1 :: S) k n H Q := W_s (rfl : (pj lw).1 100 288 = some (.iconst 1, 1, 0)) rfl rfl rfl
theorem w100_289 : W (pj lw) 100 289 L S k n H Q ↔ W (pj lw) 100 293 L S k n H Q := W_goto (rfl : (pj lw).1 100 289 = some (.goto 4, 3, 0)) rfl
theorem w100_292 : W (pj lw) 100 292 L S k n H Q ↔ W (pj lw) 100 293 L (.int 0 :: S) k n H Q := W_s (rfl : (pj lw).1 100 292 = some (.iconst 0, 1, 0)) rfl rfl rfl
theorem w100_293 {x y : Int32} : W (pj lw) 100 293 L (.int y :: .int x :: S) k n H Q ↔ (if x = y then W (pj lw) 100 298 L S k n H Q else W (pj lw) 100 296 L S k n H Q) := W_icmp_eq (rfl : (pj lw).1 100 293 = some (.if_icmp .eq 5, 3, 0)) rfl
theorem w100_298 {x : Nat} {l0 l1 l2 : Slot} : W (pj lw) 100 298 (l0 :: l1 :: l2 :: .val (.ref x) :: L) S k n H Q ↔ W (pj lw) 100 299 (l0 :: l1 :: l2 :: .val (.ref x) :: L) (.ref x :: S) k n H Q := W_s (rfl : (pj lw).1 100 298 = some (.aload_n 3, 1, 0)) rfl rfl rfl
theorem w100_299 {x : Int32} {l0 l1 l2 l3 l4 l5 l6 l7 l8 l9 l10 l11 l12 l13 l14 l15 l16 l17 l18 l19 : Slot} : W (pj lw) 100 299 (l0 :: l1 :: l2 :: l3 :: l4 :: l5 :: l6 :: l7 :: l8 :: l9 :: l10 :: l11 :: l12 :: l13 :: l14 :: l15 :: l16 :: l17 :: l18 :: l19 :: .val (.int x) :: L) S k n H Q ↔ W (pj lw) 100 301 (l0 :: l1 :: l2 :: l3 :: l4 :: l5 :: l6 :: l7 :: l8 :: l9 :: l10 :: l11 :: l12 :: l13 :: l14 :: l15 :: l16 :: l17 :: l18 :: l19 :: .val (.int x) :: L) (.int x :: S) k n H Q := W_s (rfl : (pj lw).1 100 299 = some (.iload 20, 2, 0)) rfl rfl rfl
theorem w100_301 {a : Nat} {x0 : Int32} : W (pj lw) 100 301 L (.int x0 :: .ref a :: S) k n H Q ↔ ((isO H a = true ∧ cs S + (2 + 11) + 26 ≤ 192) ∧ Cl (pj lw) 8 [.ref a, .int x0] H (fun v H => W (pj lw) 100 304 L (v.toList ++ S) k n H Q)) := W_inst (as := [.int x0]) (rfl : (pj lw).1 100 301 = some (.invokevirtual 36, 3, 8)) rfl rfl rfl (Nat.le_of_ble_eq_true rfl) (Nat.le_of_ble_eq_true rfl) ⟨rfl, rfl⟩
theorem w100_304 {x : Int32} {l0 l1 l2 l3 l4 l5 l6 l7 l8 l9 l10 l11 l12 l13 l14 l15 l16 l17 l18 : Slot} : W (pj lw) 100 304 (l0 :: l1 :: l2 :: l3 :: l4 :: l5 :: l6 :: l7 :: l8 :: l9 :: l10 :: l11 :: l12 :: l13 :: l14 :: l15 :: l16 :: l17 :: l18 :: .val (.int x) :: L) S k n H Q ↔ W (pj lw) 100 306 (l0 :: l1 :: l2 :: l3 :: l4 :: l5 :: l6 :: l7 :: l8 :: l9 :: l10 :: l11 :: l12 :: l13 :: l14 :: l15 :: l16 :: l17 :: l18 :: .val (.int x) :: L) (.int x :: S) k n H Q := W_s (rfl : (pj lw).1 100 304 = some (.iload 19, 2, 0)) rfl rfl rfl
theorem w100_306 {x y : Int32} : W (pj lw) 100 306 L (.int y :: .int x :: S) k n H Q ↔ (if x = y then W (pj lw) 100 309 L S k n H Q else W (pj lw) 100 333 L S k n H Q) := W_icmp_ne (rfl : (pj lw).1 100 306 = some (.if_icmp .ne 27, 3, 0)) rfl
theorem w100_309 {x : Nat} {l0 l1 l2 : Slot} : W (pj lw) 100 309 (l0 :: l1 :: l2 :: .val (.ref x) :: L) S k n H Q ↔ W (pj lw) 100 310 (l0 :: l1 :: l2 :: .val (.ref x) :: L) (.ref x :: S) k n H Q := W_s (rfl : (pj lw).1 100 309 = some (.aload_n 3, 1, 0)) rfl rfl rfl
theorem w100_310 {x : Int32} {l0 l1 l2 l3 l4 l5 l6 l7 l8 l9 l10 l11 l12 l13 l14 l15 l16 l17 l18 l19 : Slot} : W (pj lw) 100 310 (l0 :: l1 :: l2 :: l3 :: l4 :: l5 :: l6 :: l7 :: l8 :: l9 :: l10 :: l11 :: l12 :: l13 :: l14 :: l15 :: l16 :: l17 :: l18 :: l19 :: .val (.int x) :: L) S k n H Q ↔ W (pj lw) 100 312 (l0 :: l1 :: l2 :: l3 :: l4 :: l5 :: l6 :: l7 :: l8 :: l9 :: l10 :: l11 :: l12 :: l13 :: l14 :: l15 :: l16 :: l17 :: l18 :: l19 :: .val (.int x) :: L) (.int x :: S) k n H Q := W_s (rfl : (pj lw).1 100 310 = some (.iload 20, 2, 0)) rfl rfl rfl
theorem w100_312 : W (pj lw) 100 312 L S k n H Q ↔ W (pj lw) 100 313 L (.int 0 :: S) k n H Q := W_s (rfl : (pj lw).1 100 312 = some (.iconst 0, 1, 0)) rfl rfl rfl
theorem w100_313 {a : Nat} {x0 : Int32} {x1 : Int32} : W (pj lw) 100 313 L (.int x1 :: .int x0 :: .ref a :: S) k n H Q ↔ ((isO H a = true ∧ cs S + (3 + 11) + 26 ≤ 192) ∧ Cl (pj lw) 7 [.ref a, .int x0, .int x1] H (fun v H => W (pj lw) 100 316 L (v.toList ++ S) k n H Q)) := W_inst (as := [.int x0, .int x1]) (rfl : (pj lw).1 100 313 = some (.invokevirtual 40, 3, 7)) rfl rfl rfl (Nat.le_of_ble_eq_true rfl) (Nat.le_of_ble_eq_true rfl) ⟨rfl, rfl⟩
theorem w100_316 {x : Int32} {l0 l1 l2 l3 l4 l5 l6 l7 l8 l9 l10 l11 l12 l13 l14 l15 : Slot} : W (pj lw) 100 316 (l0 :: l1 :: l2 :: l3 :: l4 :: l5 :: l6 :: l7 :: l8 :: l9 :: l10 :: l11 :: l12 :: l13 :: l14 :: l15 :: .val (.int x) :: L) S k n H Q ↔ W (pj lw) 100 318 (l0 :: l1 :: l2 :: l3 :: l4 :: l5 :: l6 :: l7 :: l8 :: l9 :: l10 :: l11 :: l12 :: l13 :: l14 :: l15 :: .val (.int x) :: L) (.int x :: S) k n H Q := W_s (rfl : (pj lw).1 100 316 = some (.iload 16, 2, 0)) rfl rfl rfl
theorem w100_318 {x y : Int32} : W (pj lw) 100 318 L (.int y :: .int x :: S) k n H Q ↔ (if x = y then W (pj lw) 100 321 L S k n H Q else W (pj lw) 100 333 L S k n H Q) := W_icmp_ne (rfl : (pj lw).1 100 318 = some (.if_icmp .ne 15, 3, 0)) rfl
theorem w100_321 {x : Nat} {l0 l1 l2 : Slot} : W (pj lw) 100 321 (l0 :: l1 :: l2 :: .val (.ref x) :: L) S k n H Q ↔ W (pj lw) 100 322 (l0 :: l1 :: l2 :: .val (.ref x) :: L) (.ref x :: S) k n H Q := W_s (rfl : (pj lw).1 100 321 = some (.aload_n 3, 1, 0)) rfl rfl rfl
theorem w100_322 {x : Int32} {l0 l1 l2 l3 l4 l5 l6 l7 l8 l9 l10 l11 l12 l13 l14 l15 l16 l17 l18 l19 : Slot} : W (pj lw) 100 322 (l0 :: l1 :: l2 :: l3 :: l4 :: l5 :: l6 :: l7 :: l8 :: l9 :: l10 :: l11 :: l12 :: l13 :: l14 :: l15 :: l16 :: l17 :: l18 :: l19 :: .val (.int x) :: L) S k n H Q ↔ W (pj lw) 100 324 (l0 :: l1 :: l2 :: l3 :: l4 :: l5 :: l6 :: l7 :: l8 :: l9 :: l10 :: l11 :: l12 :: l13 :: l14 :: l15 :: l16 :: l17 :: l18 :: l19 :: .val (.int x) :: L) (.int x :: S) k n H Q := W_s (rfl : (pj lw).1 100 322 = some (.iload 20, 2, 0)) rfl rfl rfl
theorem w100_324 : W (pj lw) 100 324 L S k n H Q ↔ W (pj lw) 100 325 L (.int 1 :: S) k n H Q := W_s (rfl : (pj lw).1 100 324 = some (.iconst 1, 1, 0)) rfl rfl rfl
theorem w100_325 {a : Nat} {x0 : Int32} {x1 : Int32} : W (pj lw) 100 325 L (.int x1 :: .int x0 :: .ref a :: S) k n H Q ↔ ((isO H a = true ∧ cs S + (3 + 11) + 26 ≤ 192) ∧ Cl (pj lw) 7 [.ref a, .int x0, .int x1] H (fun v H => W (pj lw) 100 328 L (v.toList ++ S) k n H Q)) := W_inst (as := [.int x0, .int x1]) (rfl : (pj lw).1 100 325 = some (.invokevirtual 40, 3, 7)) rfl rfl rfl (Nat.le_of_ble_eq_true rfl) (Nat.le_of_ble_eq_true rfl) ⟨rfl, rfl⟩
theorem w100_328 {x : Int32} {l0 l1 l2 l3 l4 l5 l6 l7 l8 l9 l10 l11 l12 l13 l14 l15 l16 : Slot} : W (pj lw) 100 328 (l0 :: l1 :: l2 :: l3 :: l4 :: l5 :: l6 :: l7 :: l8 :: l9 :: l10 :: l11 :: l12 :: l13 :: l14 :: l15 :: l16 :: .val (.int x) :: L) S k n H Q ↔ W (pj lw) 100 330 (l0 :: l1 :: l2 :: l3 :: l4 :: l5 :: l6 :: l7 :: l8 :: l9 :: l10 :: l11 :: l12 :: l13 :: l14 :: l15 :: l16 :: .val (.int x) :: L) (.int x :: S) k n H Q := W_s (rfl : (pj lw).1 100 328 = some (.iload 17, 2, 0)) rfl rfl rfl
theorem w100_330 {x y : Int32} : W (pj lw) 100 330 L (.int y :: .int x :: S) k n H Q ↔ (if x = y then W (pj lw) 100 335 L S k n H Q else W (pj lw) 100 333 L S k n H Q) := W_icmp_eq (rfl : (pj lw).1 100 330 = some (.if_icmp .eq 5, 3, 0)) rfl
theorem w100_335 {x : Int64} {l0 l1 l2 l3 l4 l5 l6 l7 : Slot} : W (pj lw) 100 335 (l0 :: l1 :: l2 :: l3 :: l4 :: l5 :: l6 :: l7 :: .val (.long x) :: L) S k n H Q ↔ W (pj lw) 100 337 (l0 :: l1 :: l2 :: l3 :: l4 :: l5 :: l6 :: l7 :: .val (.long x) :: L) (.long x :: S) k n H Q := W_s (rfl : (pj lw).1 100 335 = some (.lload 8, 2, 0)) rfl rfl rfl
theorem w100_337 {x : Nat} {l0 l1 l2 : Slot} : W (pj lw) 100 337 (l0 :: l1 :: l2 :: .val (.ref x) :: L) S k n H Q ↔ W (pj lw) 100 338 (l0 :: l1 :: l2 :: .val (.ref x) :: L) (.ref x :: S) k n H Q := W_s (rfl : (pj lw).1 100 337 = some (.aload_n 3, 1, 0)) rfl rfl rfl
theorem w100_338 {x : Int32} {l0 l1 l2 l3 l4 l5 l6 l7 l8 l9 l10 l11 l12 l13 l14 l15 l16 l17 l18 l19 l20 : Slot} : W (pj lw) 100 338 (l0 :: l1 :: l2 :: l3 :: l4 :: l5 :: l6 :: l7 :: l8 :: l9 :: l10 :: l11 :: l12 :: l13 :: l14 :: l15 :: l16 :: l17 :: l18 :: l19 :: l20 :: .val (.int x) :: L) S k n H Q ↔ W (pj lw) 100 340 (l0 :: l1 :: l2 :: l3 :: l4 :: l5 :: l6 :: l7 :: l8 :: l9 :: l10 :: l11 :: l12 :: l13 :: l14 :: l15 :: l16 :: l17 :: l18 :: l19 :: l20 :: .val (.int x) :: L) (.int x :: S) k n H Q := W_s (rfl : (pj lw).1 100 338 = some (.iload 21, 2, 0)) rfl rfl rfl
theorem w100_340 {x0 : Nat} {x1 : Int32} : W (pj lw) 100 340 L (.int x1 :: .ref x0 :: S) k n H Q ↔ (cs S + (2 + 11) + 39 ≤ 192 ∧ Cl (pj lw) 106 [.ref x0, .int x1] H (fun v H => W (pj lw) 100 343 L (v.toList ++ S) k n H Q)) := W_stat (a := [.ref x0, .int x1]) (rfl : (pj lw).1 100 340 = some (.invokestatic 44, 3, 106)) rfl rfl rfl (Nat.le_of_ble_eq_true rfl) (Nat.le_of_ble_eq_true rfl) ⟨rfl, rfl⟩
theorem w100_343 {x : Nat} {l0 l1 l2 : Slot} : W (pj lw) 100 343 (l0 :: l1 :: l2 :: .val (.ref x) :: L) S k n H Q ↔ W (pj lw) 100 344 (l0 :: l1 :: l2 :: .val (.ref x) :: L) (.ref x :: S) k n H Q := W_s (rfl : (pj lw).1 100 343 = some (.aload_n 3, 1, 0)) rfl rfl rfl
theorem w100_344 {x : Int32} {l0 l1 l2 l3 l4 l5 l6 l7 l8 l9 l10 l11 l12 l13 l14 l15 l16 l17 l18 l19 l20 l21 : Slot} : W (pj lw) 100 344 (l0 :: l1 :: l2 :: l3 :: l4 :: l5 :: l6 :: l7 :: l8 :: l9 :: l10 :: l11 :: l12 :: l13 :: l14 :: l15 :: l16 :: l17 :: l18 :: l19 :: l20 :: l21 :: .val (.int x) :: L) S k n H Q ↔ W (pj lw) 100 346 (l0 :: l1 :: l2 :: l3 :: l4 :: l5 :: l6 :: l7 :: l8 :: l9 :: l10 :: l11 :: l12 :: l13 :: l14 :: l15 :: l16 :: l17 :: l18 :: l19 :: l20 :: l21 :: .val (.int x) :: L) (.int x :: S) k n H Q := W_s (rfl : (pj lw).1 100 344 = some (.iload 22, 2, 0)) rfl rfl rfl
theorem w100_346 {x : Int32} {l0 l1 l2 l3 l4 l5 l6 l7 l8 l9 l10 l11 l12 l13 l14 l15 l16 l17 l18 l19 : Slot} : W (pj lw) 100 346 (l0 :: l1 :: l2 :: l3 :: l4 :: l5 :: l6 :: l7 :: l8 :: l9 :: l10 :: l11 :: l12 :: l13 :: l14 :: l15 :: l16 :: l17 :: l18 :: l19 :: .val (.int x) :: L) S k n H Q ↔ W (pj lw) 100 348 (l0 :: l1 :: l2 :: l3 :: l4 :: l5 :: l6 :: l7 :: l8 :: l9 :: l10 :: l11 :: l12 :: l13 :: l14 :: l15 :: l16 :: l17 :: l18 :: l19 :: .val (.int x) :: L) (.int x :: S) k n H Q := W_s (rfl : (pj lw).1 100 346 = some (.iload 20, 2, 0)) rfl rfl rfl
theorem w100_348 : W (pj lw) 100 348 L S k n H Q ↔ W (pj lw) 100 349 L (.int 0 :: S) k n H Q := W_s (rfl : (pj lw).1 100 348 = some (.iconst 0, 1, 0)) rfl rfl rfl
theorem w100_349 {x0 : Nat} {x1 : Int32} {x2 : Int32} {x3 : Int32} : W (pj lw) 100 349 L (.int x3 :: .int x2 :: .int x1 :: .ref x0 :: S) k n H Q ↔ (cs S + (4 + 11) + 39 ≤ 192 ∧ Cl (pj lw) 107 [.ref x0, .int x1, .int x2, .int x3] H (fun v H => W (pj lw) 100 352 L (v.toList ++ S) k n H Q)) := W_stat (a := [.ref x0, .int x1, .int x2, .int x3]) (rfl : (pj lw).1 100 349 = some (.invokestatic 48, 3, 107)) rfl rfl rfl (Nat.le_of_ble_eq_true rfl) (Nat.le_of_ble_eq_true rfl) ⟨rfl, rfl⟩
theorem w100_352 {x y : Int64} : W (pj lw) 100 352 L (.long y :: .long x :: S) k n H Q ↔ W (pj lw) 100 353 L (.long (x - y) :: S) k n H Q := W_s (rfl : (pj lw).1 100 352 = some (.lsub, 1, 0)) rfl rfl rfl
theorem w100_353 {x y : Int64} : W (pj lw) 100 353 L (.long y :: .long x :: S) k n H Q ↔ W (pj lw) 100 354 L (.long (x + y) :: S) k n H Q := W_s (rfl : (pj lw).1 100 353 = some (.ladd, 1, 0)) rfl rfl rfl
theorem w100_354j {x y : Int64} {l0 l1 l2 l3 l4 l5 l6 l7 : Slot} : W (pj lw) 100 354 (l0 :: l1 :: l2 :: l3 :: l4 :: l5 :: l6 :: l7 :: .val (.long y) :: .second :: L) (.long x :: S) k n H Q ↔ W (pj lw) 100 356 (l0 :: l1 :: l2 :: l3 :: l4 :: l5 :: l6 :: l7 :: .val (.long x) :: .second :: L) S k n H Q := W_lst' (rfl : (pj lw).1 100 354 = some (.lstore 8, 2, 0)) rfl rfl
theorem w100_356 {x : Int32} {l0 l1 l2 l3 l4 l5 l6 l7 l8 l9 l10 : Slot} : W (pj lw) 100 356 (l0 :: l1 :: l2 :: l3 :: l4 :: l5 :: l6 :: l7 :: l8 :: l9 :: l10 :: .val (.int x) :: L) S k n H Q ↔ W (pj lw) 100 358 (l0 :: l1 :: l2 :: l3 :: l4 :: l5 :: l6 :: l7 :: l8 :: l9 :: l10 :: .val (.int x) :: L) (.int x :: S) k n H Q := W_s (rfl : (pj lw).1 100 356 = some (.iload 11, 2, 0)) rfl rfl rfl
theorem w100_358 {x : Int32} {l0 l1 l2 l3 l4 l5 l6 l7 l8 l9 l10 l11 l12 l13 l14 l15 l16 l17 l18 l19 l20 : Slot} : W (pj lw) 100 358 (l0 :: l1 :: l2 :: l3 :: l4 :: l5 :: l6 :: l7 :: l8 :: l9 :: l10 :: l11 :: l12 :: l13 :: l14 :: l15 :: l16 :: l17 :: l18 :: l19 :: l20 :: .val (.int x) :: L) S k n H Q ↔ W (pj lw) 100 360 (l0 :: l1 :: l2 :: l3 :: l4 :: l5 :: l6 :: l7 :: l8 :: l9 :: l10 :: l11 :: l12 :: l13 :: l14 :: l15 :: l16 :: l17 :: l18 :: l19 :: l20 :: .val (.int x) :: L) (.int x :: S) k n H Q := W_s (rfl : (pj lw).1 100 358 = some (.iload 21, 2, 0)) rfl rfl rfl
theorem w100_360 {x : Int32} {l0 l1 l2 l3 l4 l5 l6 l7 l8 l9 l10 l11 l12 l13 l14 l15 l16 l17 l18 l19 l20 l21 : Slot} : W (pj lw) 100 360 (l0 :: l1 :: l2 :: l3 :: l4 :: l5 :: l6 :: l7 :: l8 :: l9 :: l10 :: l11 :: l12 :: l13 :: l14 :: l15 :: l16 :: l17 :: l18 :: l19 :: l20 :: l21 :: .val (.int x) :: L) S k n H Q ↔ W (pj lw) 100 362 (l0 :: l1 :: l2 :: l3 :: l4 :: l5 :: l6 :: l7 :: l8 :: l9 :: l10 :: l11 :: l12 :: l13 :: l14 :: l15 :: l16 :: l17 :: l18 :: l19 :: l20 :: l21 :: .val (.int x) :: L) (.int x :: S) k n H Q := W_s (rfl : (pj lw).1 100 360 = some (.iload 22, 2, 0)) rfl rfl rfl
theorem w100_362 {x0 : Int32} {x1 : Int32} : W (pj lw) 100 362 L (.int x1 :: .int x0 :: S) k n H Q ↔ (cs S + (2 + 11) + 0 ≤ 192 ∧ Cl (pj lw) 105 [.int x0, .int x1] H (fun v H => W (pj lw) 100 365 L (v.toList ++ S) k n H Q)) := W_stat (a := [.int x0, .int x1]) (rfl : (pj lw).1 100 362 = some (.invokestatic 52, 3, 105)) rfl rfl rfl (Nat.le_of_ble_eq_true rfl) (Nat.le_of_ble_eq_true rfl) ⟨rfl, rfl⟩
theorem w100_365 {x y : Int32} : W (pj lw) 100 365 L (.int y :: .int x :: S) k n H Q ↔ W (pj lw) 100 366 L (.int (x + y) :: S) k n H Q := W_s (rfl : (pj lw).1 100 365 = some (.iadd, 1, 0)) rfl rfl rfl
theorem w100_366i {y : Int32} {x : Int32} {l0 l1 l2 l3 l4 l5 l6 l7 l8 l9 l10 : Slot} : W (pj lw) 100 366 (l0 :: l1 :: l2 :: l3 :: l4 :: l5 :: l6 :: l7 :: l8 :: l9 :: l10 :: .val (.int y) :: L) (.int x :: S) k n H Q ↔ W (pj lw) 100 368 (l0 :: l1 :: l2 :: l3 :: l4 :: l5 :: l6 :: l7 :: l8 :: l9 :: l10 :: .val (.int x) :: L) S k n H Q := W_ist (rfl : (pj lw).1 100 366 = some (.istore 11, 2, 0)) rfl rfl
theorem w100_368 {x : Int32} {l0 l1 l2 l3 l4 l5 l6 l7 l8 l9 l10 l11 l12 l13 l14 l15 l16 l17 l18 l19 l20 : Slot} : W (pj lw) 100 368 (l0 :: l1 :: l2 :: l3 :: l4 :: l5 :: l6 :: l7 :: l8 :: l9 :: l10 :: l11 :: l12 :: l13 :: l14 :: l15 :: l16 :: l17 :: l18 :: l19 :: l20 :: .val (.int x) :: L) S k n H Q ↔ W (pj lw) 100 370 (l0 :: l1 :: l2 :: l3 :: l4 :: l5 :: l6 :: l7 :: l8 :: l9 :: l10 :: l11 :: l12 :: l13 :: l14 :: l15 :: l16 :: l17 :: l18 :: l19 :: l20 :: .val (.int x) :: L) (.int x :: S) k n H Q := W_s (rfl : (pj lw).1 100 368 = some (.iload 21, 2, 0)) rfl rfl rfl
theorem w100_370i {y : Int32} {x : Int32} {l0 l1 l2 l3 l4 l5 l6 l7 l8 l9 l10 l11 : Slot} : W (pj lw) 100 370 (l0 :: l1 :: l2 :: l3 :: l4 :: l5 :: l6 :: l7 :: l8 :: l9 :: l10 :: l11 :: .val (.int y) :: L) (.int x :: S) k n H Q ↔ W (pj lw) 100 372 (l0 :: l1 :: l2 :: l3 :: l4 :: l5 :: l6 :: l7 :: l8 :: l9 :: l10 :: l11 :: .val (.int x) :: L) S k n H Q := W_ist (rfl : (pj lw).1 100 370 = some (.istore 12, 2, 0)) rfl rfl
theorem w100_372 {x : Int32} {l0 l1 l2 l3 l4 l5 l6 l7 l8 l9 l10 l11 l12 l13 l14 l15 l16 l17 l18 l19 l20 l21 : Slot} : W (pj lw) 100 372 (l0 :: l1 :: l2 :: l3 :: l4 :: l5 :: l6 :: l7 :: l8 :: l9 :: l10 :: l11 :: l12 :: l13 :: l14 :: l15 :: l16 :: l17 :: l18 :: l19 :: l20 :: l21 :: .val (.int x) :: L) S k n H Q ↔ W (pj lw) 100 374 (l0 :: l1 :: l2 :: l3 :: l4 :: l5 :: l6 :: l7 :: l8 :: l9 :: l10 :: l11 :: l12 :: l13 :: l14 :: l15 :: l16 :: l17 :: l18 :: l19 :: l20 :: l21 :: .val (.int x) :: L) (.int x :: S) k n H Q := W_s (rfl : (pj lw).1 100 372 = some (.iload 22, 2, 0)) rfl rfl rfl
theorem w100_374i {y : Int32} {x : Int32} {l0 l1 l2 l3 l4 l5 l6 l7 l8 l9 l10 l11 l12 : Slot} : W (pj lw) 100 374 (l0 :: l1 :: l2 :: l3 :: l4 :: l5 :: l6 :: l7 :: l8 :: l9 :: l10 :: l11 :: l12 :: .val (.int y) :: L) (.int x :: S) k n H Q ↔ W (pj lw) 100 376 (l0 :: l1 :: l2 :: l3 :: l4 :: l5 :: l6 :: l7 :: l8 :: l9 :: l10 :: l11 :: l12 :: .val (.int x) :: L) S k n H Q := W_ist (rfl : (pj lw).1 100 374 = some (.istore 13, 2, 0)) rfl rfl
theorem w100_376 : W (pj lw) 100 376 L S k n H Q ↔ W (pj lw) 100 621 L S k n H Q := W_goto (rfl : (pj lw).1 100 376 = some (.goto 245, 3, 0)) rfl
theorem w100_379 {x : Int64} {l0 l1 l2 l3 : Slot} : W (pj lw) 100 379 (l0 :: l1 :: l2 :: l3 :: .val (.long x) :: L) S k n H Q ↔ W (pj lw) 100 381 (l0 :: l1 :: l2 :: l3 :: .val (.long x) :: L) (.long x :: S) k n H Q := W_s (rfl : (pj lw).1 100 379 = some (.lload 4, 2, 0)) rfl rfl rfl
theorem w100_381 {x : Int64} {l0 l1 l2 l3 l4 l5 : Slot} : W (pj lw) 100 381 (l0 :: l1 :: l2 :: l3 :: l4 :: l5 :: .val (.long x) :: L) S k n H Q ↔ W (pj lw) 100 383 (l0 :: l1 :: l2 :: l3 :: l4 :: l5 :: .val (.long x) :: L) (.long x :: S) k n H Q := W_s (rfl : (pj lw).1 100 381 = some (.lload 6, 2, 0)) rfl rfl rfl
theorem w100_383 {x : Int32} {l0 l1 l2 l3 l4 l5 l6 l7 l8 l9 l10 l11 l12 l13 l14 l15 l16 l17 : Slot} : W (pj lw) 100 383 (l0 :: l1 :: l2 :: l3 :: l4 :: l5 :: l6 :: l7 :: l8 :: l9 :: l10 :: l11 :: l12 :: l13 :: l14 :: l15 :: l16 :: l17 :: .val (.int x) :: L) S k n H Q ↔ W (pj lw) 100 385 (l0 :: l1 :: l2 :: l3 :: l4 :: l5 :: l6 :: l7 :: l8 :: l9 :: l10 :: l11 :: l12 :: l13 :: l14 :: l15 :: l16 :: l17 :: .val (.int x) :: L) (.int x :: S) k n H Q := W_s (rfl : (pj lw).1 100 383 = some (.iload 18, 2, 0)) rfl rfl rfl
theorem w100_385 {x0 : Int64} {x1 : Int64} {x2 : Int32} : W (pj lw) 100 385 L (.int x2 :: .long x1 :: .long x0 :: S) k n H Q ↔ (cs S + (5 + 11) + 0 ≤ 192 ∧ Cl (pj lw) 103 [.long x0, .long x1, .int x2] H (fun v H => W (pj lw) 100 388 L (v.toList ++ S) k n H Q)) := W_stat (a := [.long x0, .long x1, .int x2]) (rfl : (pj lw).1 100 385 = some (.invokestatic 16, 3, 103)) rfl rfl rfl (Nat.le_of_ble_eq_true rfl) (Nat.le_of_ble_eq_true rfl) ⟨rfl, rfl⟩
theorem w100_388 {x : Int32} {l0 l1 l2 l3 l4 l5 l6 l7 l8 l9 l10 l11 l12 l13 l14 l15 l16 l17 l18 l19 : Slot} : W (pj lw) 100 388 (l0 :: l1 :: l2 :: l3 :: l4 :: l5 :: l6 :: l7 :: l8 :: l9 :: l10 :: l11 :: l12 :: l13 :: l14 :: l15 :: l16 :: l17 :: l18 :: l19 :: .unset :: L) (.int x :: S) k n H Q ↔ W (pj lw) 100 390 (l0 :: l1 :: l2 :: l3 :: l4 :: l5 :: l6 :: l7 :: l8 :: l9 :: l10 :: l11 :: l12 :: l13 :: l14 :: l15 :: l16 :: l17 :: l18 :: l19 :: .val (.int x) :: L) S k n H Q := W_ist (rfl : (pj lw).1 100 388 = some (.istore 20, 2, 0)) rfl rfl
theorem w100_390 {x : Nat} {l0 l1 l2 : Slot} : W (pj lw) 100 390 (l0 :: l1 :: l2 :: .val (.ref x) :: L) S k n H Q ↔ W (pj lw) 100 391 (l0 :: l1 :: l2 :: .val (.ref x) :: L) (.ref x :: S) k n H Q := W_s (rfl : (pj lw).1 100 390 = some (.aload_n 3, 1, 0)) rfl rfl rfl
theorem w100_391 {x : Int32} {l0 l1 l2 l3 l4 l5 l6 l7 l8 l9 l10 l11 l12 l13 l14 l15 l16 l17 : Slot} : W (pj lw) 100 391 (l0 :: l1 :: l2 :: l3 :: l4 :: l5 :: l6 :: l7 :: l8 :: l9 :: l10 :: l11 :: l12 :: l13 :: l14 :: l15 :: l16 :: l17 :: .val (.int x) :: L) S k n H Q ↔ W (pj lw) 100 393 (l0 :: l1 :: l2 :: l3 :: l4 :: l5 :: l6 :: l7 :: l8 :: l9 :: l10 :: l11 :: l12 :: l13 :: l14 :: l15 :: l16 :: l17 :: .val (.int x) :: L) (.int x :: S) k n H Q := W_s (rfl : (pj lw).1 100 391 = some (.iload 18, 2, 0)) rfl rfl rfl
theorem w100_393 {a : Nat} {x0 : Int32} : W (pj lw) 100 393 L (.int x0 :: .ref a :: S) k n H Q ↔ ((isO H a = true ∧ cs S + (2 + 11) + 26 ≤ 192) ∧ Cl (pj lw) 8 [.ref a, .int x0] H (fun v H => W (pj lw) 100 396 L (v.toList ++ S) k n H Q)) := W_inst (as := [.int x0]) (rfl : (pj lw).1 100 393 = some (.invokevirtual 36, 3, 8)) rfl rfl rfl (Nat.le_of_ble_eq_true rfl) (Nat.le_of_ble_eq_true rfl) ⟨rfl, rfl⟩
theorem w100_396 {x : Int32} {l0 l1 l2 l3 l4 l5 l6 l7 l8 l9 l10 l11 l12 l13 l14 l15 l16 l17 l18 l19 l20 : Slot} : W (pj lw) 100 396 (l0 :: l1 :: l2 :: l3 :: l4 :: l5 :: l6 :: l7 :: l8 :: l9 :: l10 :: l11 :: l12 :: l13 :: l14 :: l15 :: l16 :: l17 :: l18 :: l19 :: l20 :: .unset :: L) (.int x :: S) k n H Q ↔ W (pj lw) 100 398 (l0 :: l1 :: l2 :: l3 :: l4 :: l5 :: l6 :: l7 :: l8 :: l9 :: l10 :: l11 :: l12 :: l13 :: l14 :: l15 :: l16 :: l17 :: l18 :: l19 :: l20 :: .val (.int x) :: L) S k n H Q := W_ist (rfl : (pj lw).1 100 396 = some (.istore 21, 2, 0)) rfl rfl
theorem w100_398 {x : Nat} {l0 l1 l2 : Slot} : W (pj lw) 100 398 (l0 :: l1 :: l2 :: .val (.ref x) :: L) S k n H Q ↔ W (pj lw) 100 399 (l0 :: l1 :: l2 :: .val (.ref x) :: L) (.ref x :: S) k n H Q := W_s (rfl : (pj lw).1 100 398 = some (.aload_n 3, 1, 0)) rfl rfl rfl
theorem w100_399 {x : Int32} {l0 l1 l2 l3 l4 l5 l6 l7 l8 l9 l10 l11 l12 l13 l14 l15 l16 l17 : Slot} : W (pj lw) 100 399 (l0 :: l1 :: l2 :: l3 :: l4 :: l5 :: l6 :: l7 :: l8 :: l9 :: l10 :: l11 :: l12 :: l13 :: l14 :: l15 :: l16 :: l17 :: .val (.int x) :: L) S k n H Q ↔ W (pj lw) 100 401 (l0 :: l1 :: l2 :: l3 :: l4 :: l5 :: l6 :: l7 :: l8 :: l9 :: l10 :: l11 :: l12 :: l13 :: l14 :: l15 :: l16 :: l17 :: .val (.int x) :: L) (.int x :: S) k n H Q := W_s (rfl : (pj lw).1 100 399 = some (.iload 18, 2, 0)) rfl rfl rfl
theorem w100_401 {a : Nat} {x0 : Int32} : W (pj lw) 100 401 L (.int x0 :: .ref a :: S) k n H Q ↔ ((isO H a = true ∧ cs S + (2 + 11) + 13 ≤ 192) ∧ Cl (pj lw) 6 [.ref a, .int x0] H (fun v H => W (pj lw) 100 404 L (v.toList ++ S) k n H Q)) := W_inst (as := [.int x0]) (rfl : (pj lw).1 100 401 = some (.invokevirtual 32, 3, 6)) rfl rfl rfl (Nat.le_of_ble_eq_true rfl) (Nat.le_of_ble_eq_true rfl) ⟨rfl, rfl⟩
theorem w100_404 {x : Int32} {l0 l1 l2 l3 l4 l5 l6 l7 l8 l9 l10 l11 l12 l13 l14 l15 l16 l17 l18 l19 l20 l21 : Slot} : W (pj lw) 100 404 (l0 :: l1 :: l2 :: l3 :: l4 :: l5 :: l6 :: l7 :: l8 :: l9 :: l10 :: l11 :: l12 :: l13 :: l14 :: l15 :: l16 :: l17 :: l18 :: l19 :: l20 :: l21 :: .unset :: L) (.int x :: S) k n H Q ↔ W (pj lw) 100 406 (l0 :: l1 :: l2 :: l3 :: l4 :: l5 :: l6 :: l7 :: l8 :: l9 :: l10 :: l11 :: l12 :: l13 :: l14 :: l15 :: l16 :: l17 :: l18 :: l19 :: l20 :: l21 :: .val (.int x) :: L) S k n H Q := W_ist (rfl : (pj lw).1 100 404 = some (.istore 22, 2, 0)) rfl rfl
theorem w100_406 {x : Int32} {l0 l1 l2 l3 l4 l5 l6 l7 l8 l9 l10 l11 l12 l13 l14 : Slot} : W (pj lw) 100 406 (l0 :: l1 :: l2 :: l3 :: l4 :: l5 :: l6 :: l7 :: l8 :: l9 :: l10 :: l11 :: l12 :: l13 :: l14 :: .val (.int x) :: L) S k n H Q ↔ W (pj lw) 100 408 (l0 :: l1 :: l2 :: l3 :: l4 :: l5 :: l6 :: l7 :: l8 :: l9 :: l10 :: l11 :: l12 :: l13 :: l14 :: .val (.int x) :: L) (.int x :: S) k n H Q := W_s (rfl : (pj lw).1 100 406 = some (.iload 15, 2, 0)) rfl rfl rfl
theorem w100_408 : W (pj lw) 100 408 L S k n H Q ↔ W (pj lw) 100 409 L (.int 2 :: S) k n H Q := W_s (rfl : (pj lw).1 100 408 = some (.iconst 2, 1, 0)) rfl rfl rfl
theorem w100_409 {x y : Int32} : W (pj lw) 100 409 L (.int y :: .int x :: S) k n H Q ↔ (if x = y then W (pj lw) 100 412 L S k n H Q else W (pj lw) 100 421 L S k n H Q) := W_icmp_ne (rfl : (pj lw).1 100 409 = some (.if_icmp .ne 12, 3, 0)) rfl
theorem w100_412 {x : Nat} {l0 l1 l2 : Slot} : W (pj lw) 100 412 (l0 :: l1 :: l2 :: .val (.ref x) :: L) S k n H Q ↔ W (pj lw) 100 413 (l0 :: l1 :: l2 :: .val (.ref x) :: L) (.ref x :: S) k n H Q := W_s (rfl : (pj lw).1 100 412 = some (.aload_n 3, 1, 0)) rfl rfl rfl
theorem w100_413 {x : Int32} {l0 l1 l2 l3 l4 l5 l6 l7 l8 l9 l10 l11 l12 l13 l14 l15 l16 l17 : Slot} : W (pj lw) 100 413 (l0 :: l1 :: l2 :: l3 :: l4 :: l5 :: l6 :: l7 :: l8 :: l9 :: l10 :: l11 :: l12 :: l13 :: l14 :: l15 :: l16 :: l17 :: .val (.int x) :: L) S k n H Q ↔ W (pj lw) 100 415 (l0 :: l1 :: l2 :: l3 :: l4 :: l5 :: l6 :: l7 :: l8 :: l9 :: l10 :: l11 :: l12 :: l13 :: l14 :: l15 :: l16 :: l17 :: .val (.int x) :: L) (.int x :: S) k n H Q := W_s (rfl : (pj lw).1 100 413 = some (.iload 18, 2, 0)) rfl rfl rfl
theorem w100_415 {a : Nat} {x0 : Int32} : W (pj lw) 100 415 L (.int x0 :: .ref a :: S) k n H Q ↔ ((isO H a = true ∧ cs S + (2 + 11) + 64 ≤ 192) ∧ Cl (pj lw) 3 [.ref a, .int x0] H (fun v H => W (pj lw) 100 418 L (v.toList ++ S) k n H Q)) := W_inst (as := [.int x0]) (rfl : (pj lw).1 100 415 = some (.invokevirtual 55, 3, 3)) rfl rfl rfl (Nat.le_of_ble_eq_true rfl) (Nat.le_of_ble_eq_true rfl) ⟨rfl, rfl⟩
theorem w100_418 : W (pj lw) 100 418 L S k n H Q ↔ W (pj lw) 100 429 L S k n H Q := W_goto (rfl : (pj lw).1 100 418 = some (.goto 11, 3, 0)) rfl
theorem w100_421 {x : Nat} {l0 l1 l2 : Slot} : W (pj lw) 100 421 (l0 :: l1 :: l2 :: .val (.ref x) :: L) S k n H Q ↔ W (pj lw) 100 422 (l0 :: l1 :: l2 :: .val (.ref x) :: L) (.ref x :: S) k n H Q := W_s (rfl : (pj lw).1 100 421 = some (.aload_n 3, 1, 0)) rfl rfl rfl
theorem w100_422 {x : Int32} {l0 l1 l2 l3 l4 l5 l6 l7 l8 l9 l10 l11 l12 l13 l14 l15 l16 l17 : Slot} : W (pj lw) 100 422 (l0 :: l1 :: l2 :: l3 :: l4 :: l5 :: l6 :: l7 :: l8 :: l9 :: l10 :: l11 :: l12 :: l13 :: l14 :: l15 :: l16 :: l17 :: .val (.int x) :: L) S k n H Q ↔ W (pj lw) 100 424 (l0 :: l1 :: l2 :: l3 :: l4 :: l5 :: l6 :: l7 :: l8 :: l9 :: l10 :: l11 :: l12 :: l13 :: l14 :: l15 :: l16 :: l17 :: .val (.int x) :: L) (.int x :: S) k n H Q := W_s (rfl : (pj lw).1 100 422 = some (.iload 18, 2, 0)) rfl rfl rfl
theorem w100_424 {x : Int32} {l0 l1 l2 l3 l4 l5 l6 l7 l8 l9 l10 l11 l12 l13 l14 l15 l16 l17 l18 : Slot} : W (pj lw) 100 424 (l0 :: l1 :: l2 :: l3 :: l4 :: l5 :: l6 :: l7 :: l8 :: l9 :: l10 :: l11 :: l12 :: l13 :: l14 :: l15 :: l16 :: l17 :: l18 :: .val (.int x) :: L) S k n H Q ↔ W (pj lw) 100 426 (l0 :: l1 :: l2 :: l3 :: l4 :: l5 :: l6 :: l7 :: l8 :: l9 :: l10 :: l11 :: l12 :: l13 :: l14 :: l15 :: l16 :: l17 :: l18 :: .val (.int x) :: L) (.int x :: S) k n H Q := W_s (rfl : (pj lw).1 100 424 = some (.iload 19, 2, 0)) rfl rfl rfl
theorem w100_426 {a : Nat} {x0 : Int32} {x1 : Int32} : W (pj lw) 100 426 L (.int x1 :: .int x0 :: .ref a :: S) k n H Q ↔ ((isO H a = true ∧ cs S + (4 + 11) + 65 ≤ 192) ∧ Cl (pj lw) 4 [.ref a, .int x0, .int x1] H (fun v H => W (pj lw) 100 429 L (v.toList ++ S) k n H Q)) := W_inst (as := [.int x0, .int x1]) (rfl : (pj lw).1 100 426 = some (.invokevirtual 58, 3, 4)) rfl rfl rfl (Nat.le_of_ble_eq_true rfl) (Nat.le_of_ble_eq_true rfl) ⟨rfl, rfl⟩
theorem w100_429 {x : Int32} {l0 l1 l2 l3 l4 l5 l6 l7 l8 l9 l10 l11 l12 l13 l14 l15 l16 l17 l18 l19 l20 l21 l22 : Slot} : W (pj lw) 100 429 (l0 :: l1 :: l2 :: l3 :: l4 :: l5 :: l6 :: l7 :: l8 :: l9 :: l10 :: l11 :: l12 :: l13 :: l14 :: l15 :: l16 :: l17 :: l18 :: l19 :: l20 :: l21 :: l22 :: .unset :: L) (.int x :: S) k n H Q ↔ W (pj lw) 100 431 (l0 :: l1 :: l2 :: l3 :: l4 :: l5 :: l6 :: l7 :: l8 :: l9 :: l10 :: l11 :: l12 :: l13 :: l14 :: l15 :: l16 :: l17 :: l18 :: l19 :: l20 :: l21 :: l22 :: .val (.int x) :: L) S k n H Q := W_ist (rfl : (pj lw).1 100 429 = some (.istore 23, 2, 0)) rfl rfl
theorem w100_431 {x : Int32} {l0 l1 l2 l3 l4 l5 l6 l7 l8 l9 l10 l11 l12 l13 l14 l15 l16 l17 l18 l19 l20 l21 l22 : Slot} : W (pj lw) 100 431 (l0 :: l1 :: l2 :: l3 :: l4 :: l5 :: l6 :: l7 :: l8 :: l9 :: l10 :: l11 :: l12 :: l13 :: l14 :: l15 :: l16 :: l17 :: l18 :: l19 :: l20 :: l21 :: l22 :: .val (.int x) :: L) S k n H Q ↔ W (pj lw) 100 433 (l0 :: l1 :: l2 :: l3 :: l4 :: l5 :: l6 :: l7 :: l8 :: l9 :: l10 :: l11 :: l12 :: l13 :: l14 :: l15 :: l16 :: l17 :: l18 :: l19 :: l20 :: l21 :: l22 :: .val (.int x) :: L) (.int x :: S) k n H Q := W_s (rfl : (pj lw).1 100 431 = some (.iload 23, 2, 0)) rfl rfl rfl
theorem w100_433 {x : Int32} {l0 l1 l2 l3 l4 l5 l6 l7 l8 l9 l10 l11 l12 l13 l14 l15 l16 l17 l18 l19 : Slot} : W (pj lw) 100 433 (l0 :: l1 :: l2 :: l3 :: l4 :: l5 :: l6 :: l7 :: l8 :: l9 :: l10 :: l11 :: l12 :: l13 :: l14 :: l15 :: l16 :: l17 :: l18 :: l19 :: .val (.int x) :: L) S k n H Q ↔ W (pj lw) 100 435 (l0 :: l1 :: l2 :: l3 :: l4 :: l5 :: l6 :: l7 :: l8 :: l9 :: l10 :: l11 :: l12 :: l13 :: l14 :: l15 :: l16 :: l17 :: l18 :: l19 :: .val (.int x) :: L) (.int x :: S) k n H Q := W_s (rfl : (pj lw).1 100 433 = some (.iload 20, 2, 0)) rfl rfl rfl
theorem w100_435 {x y : Int32} : W (pj lw) 100 435 L (.int y :: .int x :: S) k n H Q ↔ (if x = y then W (pj lw) 100 440 L S k n H Q else W (pj lw) 100 438 L S k n H Q) := W_icmp_eq (rfl : (pj lw).1 100 435 = some (.if_icmp .eq 5, 3, 0)) rfl
theorem w100_440 {x : Int32} {l0 l1 l2 l3 l4 l5 l6 l7 l8 l9 l10 l11 l12 l13 l14 l15 l16 l17 l18 l19 l20 l21 l22 : Slot} : W (pj lw) 100 440 (l0 :: l1 :: l2 :: l3 :: l4 :: l5 :: l6 :: l7 :: l8 :: l9 :: l10 :: l11 :: l12 :: l13 :: l14 :: l15 :: l16 :: l17 :: l18 :: l19 :: l20 :: l21 :: l22 :: .val (.int x) :: L) S k n H Q ↔ W (pj lw) 100 442 (l0 :: l1 :: l2 :: l3 :: l4 :: l5 :: l6 :: l7 :: l8 :: l9 :: l10 :: l11 :: l12 :: l13 :: l14 :: l15 :: l16 :: l17 :: l18 :: l19 :: l20 :: l21 :: l22 :: .val (.int x) :: L) (.int x :: S) k n H Q := W_s (rfl : (pj lw).1 100 440 = some (.iload 23, 2, 0)) rfl rfl rfl
theorem w100_442 {x : Int32} : W (pj lw) 100 442 L (.int x :: S) k n H Q ↔ (if x = 0 then W (pj lw) 100 621 L S k n H Q else W (pj lw) 100 445 L S k n H Q) := W_if_eq (rfl : (pj lw).1 100 442 = some (.ifCond .eq 179, 3, 0)) rfl
theorem w100_445 {x : Nat} {l0 l1 l2 : Slot} : W (pj lw) 100 445 (l0 :: l1 :: l2 :: .val (.ref x) :: L) S k n H Q ↔ W (pj lw) 100 446 (l0 :: l1 :: l2 :: .val (.ref x) :: L) (.ref x :: S) k n H Q := W_s (rfl : (pj lw).1 100 445 = some (.aload_n 3, 1, 0)) rfl rfl rfl
theorem w100_446 {a : Nat} : W (pj lw) 100 446 L (.ref a :: S) k n H Q ↔ ((isO H a = true ∧ cs S + (1 + 11) + 0 ≤ 192) ∧ Cl (pj lw) 16 [.ref a] H (fun v H => W (pj lw) 100 449 L (v.toList ++ S) k n H Q)) := W_inst (as := []) (rfl : (pj lw).1 100 446 = some (.invokevirtual 25, 3, 16)) rfl rfl rfl (Nat.le_of_ble_eq_true rfl) (Nat.le_of_ble_eq_true rfl) ⟨rfl, rfl⟩
theorem w100_449 {x : Int32} {l0 l1 l2 l3 l4 l5 l6 l7 l8 l9 l10 l11 l12 l13 l14 l15 l16 l17 l18 l19 l20 l21 l22 l23 : Slot} : W (pj lw) 100 449 (l0 :: l1 :: l2 :: l3 :: l4 :: l5 :: l6 :: l7 :: l8 :: l9 :: l10 :: l11 :: l12 :: l13 :: l14 :: l15 :: l16 :: l17 :: l18 :: l19 :: l20 :: l21 :: l22 :: l23 :: .unset :: L) (.int x :: S) k n H Q ↔ W (pj lw) 100 451 (l0 :: l1 :: l2 :: l3 :: l4 :: l5 :: l6 :: l7 :: l8 :: l9 :: l10 :: l11 :: l12 :: l13 :: l14 :: l15 :: l16 :: l17 :: l18 :: l19 :: l20 :: l21 :: l22 :: l23 :: .val (.int x) :: L) S k n H Q := W_ist (rfl : (pj lw).1 100 449 = some (.istore 24, 2, 0)) rfl rfl
theorem w100_451 {x : Nat} {l0 l1 l2 : Slot} : W (pj lw) 100 451 (l0 :: l1 :: l2 :: .val (.ref x) :: L) S k n H Q ↔ W (pj lw) 100 452 (l0 :: l1 :: l2 :: .val (.ref x) :: L) (.ref x :: S) k n H Q := W_s (rfl : (pj lw).1 100 451 = some (.aload_n 3, 1, 0)) rfl rfl rfl
theorem w100_452 {a : Nat} : W (pj lw) 100 452 L (.ref a :: S) k n H Q ↔ ((isO H a = true ∧ cs S + (1 + 11) + 0 ≤ 192) ∧ Cl (pj lw) 17 [.ref a] H (fun v H => W (pj lw) 100 455 L (v.toList ++ S) k n H Q)) := W_inst (as := []) (rfl : (pj lw).1 100 452 = some (.invokevirtual 29, 3, 17)) rfl rfl rfl (Nat.le_of_ble_eq_true rfl) (Nat.le_of_ble_eq_true rfl) ⟨rfl, rfl⟩
theorem w100_455 {x : Int32} {l0 l1 l2 l3 l4 l5 l6 l7 l8 l9 l10 l11 l12 l13 l14 l15 l16 l17 l18 l19 l20 l21 l22 l23 l24 : Slot} : W (pj lw) 100 455 (l0 :: l1 :: l2 :: l3 :: l4 :: l5 :: l6 :: l7 :: l8 :: l9 :: l10 :: l11 :: l12 :: l13 :: l14 :: l15 :: l16 :: l17 :: l18 :: l19 :: l20 :: l21 :: l22 :: l23 :: l24 :: .unset :: L) (.int x :: S) k n H Q ↔ W (pj lw) 100 457 (l0 :: l1 :: l2 :: l3 :: l4 :: l5 :: l6 :: l7 :: l8 :: l9 :: l10 :: l11 :: l12 :: l13 :: l14 :: l15 :: l16 :: l17 :: l18 :: l19 :: l20 :: l21 :: l22 :: l23 :: l24 :: .val (.int x) :: L) S k n H Q := W_ist (rfl : (pj lw).1 100 455 = some (.istore 25, 2, 0)) rfl rfl
theorem w100_457 {x : Int32} {l0 l1 l2 l3 l4 l5 l6 l7 l8 l9 l10 l11 l12 l13 l14 : Slot} : W (pj lw) 100 457 (l0 :: l1 :: l2 :: l3 :: l4 :: l5 :: l6 :: l7 :: l8 :: l9 :: l10 :: l11 :: l12 :: l13 :: l14 :: .val (.int x) :: L) S k n H Q ↔ W (pj lw) 100 459 (l0 :: l1 :: l2 :: l3 :: l4 :: l5 :: l6 :: l7 :: l8 :: l9 :: l10 :: l11 :: l12 :: l13 :: l14 :: .val (.int x) :: L) (.int x :: S) k n H Q := W_s (rfl : (pj lw).1 100 457 = some (.iload 15, 2, 0)) rfl rfl rfl
theorem w100_459 : W (pj lw) 100 459 L S k n H Q ↔ W (pj lw) 100 460 L (.int 2 :: S) k n H Q := W_s (rfl : (pj lw).1 100 459 = some (.iconst 2, 1, 0)) rfl rfl rfl
theorem w100_460 {x y : Int32} : W (pj lw) 100 460 L (.int y :: .int x :: S) k n H Q ↔ (if x = y then W (pj lw) 100 463 L S k n H Q else W (pj lw) 100 508 L S k n H Q) := W_icmp_ne (rfl : (pj lw).1 100 460 = some (.if_icmp .ne 48, 3, 0)) rfl
theorem w100_463 {x : Int64} {l0 l1 l2 l3 : Slot} : W (pj lw) 100 463 (l0 :: l1 :: l2 :: l3 :: .val (.long x) :: L) S k n H Q ↔ W (pj lw) 100 465 (l0 :: l1 :: l2 :: l3 :: .val (.long x) :: L) (.long x :: S) k n H Q := W_s (rfl : (pj lw).1 100 463 = some (.lload 4, 2, 0)) rfl rfl rfl
theorem w100_465 : W (pj lw) 100 465 L S k n H Q ↔ W (pj lw) 100 466 L (.long 1 :: S) k n H Q := W_s (rfl : (pj lw).1 100 465 = some (.lconst 1, 1, 0)) rfl rfl rfl
theorem w100_466 {x : Int32} {l0 l1 l2 l3 l4 l5 l6 l7 l8 l9 l10 l11 l12 l13 l14 l15 l16 l17 : Slot} : W (pj lw) 100 466 (l0 :: l1 :: l2 :: l3 :: l4 :: l5 :: l6 :: l7 :: l8 :: l9 :: l10 :: l11 :: l12 :: l13 :: l14 :: l15 :: l16 :: l17 :: .val (.int x) :: L) S k n H Q ↔ W (pj lw) 100 468 (l0 :: l1 :: l2 :: l3 :: l4 :: l5 :: l6 :: l7 :: l8 :: l9 :: l10 :: l11 :: l12 :: l13 :: l14 :: l15 :: l16 :: l17 :: .val (.int x) :: L) (.int x :: S) k n H Q := W_s (rfl : (pj lw).1 100 466 = some (.iload 18, 2, 0)) rfl rfl rfl
theorem w100_468 {x : Int64} {y : Int32} : W (pj lw) 100 468 L (.int y :: .long x :: S) k n H Q ↔ W (pj lw) 100 469 L (.long (x <<< (y.toInt64 &&& 63)) :: S) k n H Q := W_s (rfl : (pj lw).1 100 468 = some (.lshl, 1, 0)) rfl rfl rfl
theorem w100_469 : W (pj lw) 100 469 L S k n H Q ↔ W (pj lw) 100 472 L (.long (-1) :: S) k n H Q := W_s (rfl : (pj lw).1 100 469 = some (.ldc2_w 62, 3, (-1))) rfl rfl rfl
theorem w100_472 {x y : Int64} : W (pj lw) 100 472 L (.long y :: .long x :: S) k n H Q ↔ W (pj lw) 100 473 L (.long (x ^^^ y) :: S) k n H Q := W_s (rfl : (pj lw).1 100 472 = some (.lxor, 1, 0)) rfl rfl rfl
theorem w100_473 {x y : Int64} : W (pj lw) 100 473 L (.long y :: .long x :: S) k n H Q ↔ W (pj lw) 100 474 L (.long (x &&& y) :: S) k n H Q := W_s (rfl : (pj lw).1 100 473 = some (.land, 1, 0)) rfl rfl rfl
theorem w100_474j {x y : Int64} {l0 l1 l2 l3 : Slot} : W (pj lw) 100 474 (l0 :: l1 :: l2 :: l3 :: .val (.long y) :: .second :: L) (.long x :: S) k n H Q ↔ W (pj lw) 100 476 (l0 :: l1 :: l2 :: l3 :: .val (.long x) :: .second :: L) S k n H Q := W_lst' (rfl : (pj lw).1 100 474 = some (.lstore 4, 2, 0)) rfl rfl
theorem w100_476 {x : Int32} {l0 l1 l2 l3 l4 l5 l6 l7 l8 l9 : Slot} : W (pj lw) 100 476 (l0 :: l1 :: l2 :: l3 :: l4 :: l5 :: l6 :: l7 :: l8 :: l9 :: .val (.int x) :: L) S k n H Q ↔ W (pj lw) 100 479 (l0 :: l1 :: l2 :: l3 :: l4 :: l5 :: l6 :: l7 :: l8 :: l9 :: .val (.int (x + (-1))) :: L) S k n H Q := W_s (rfl : (pj lw).1 100 476 = some (.iinc 10 (-1), 3, 0)) rfl rfl rfl
theorem w100_479 {x : Int32} {l0 l1 l2 l3 l4 l5 l6 l7 l8 l9 l10 l11 l12 l13 l14 l15 l16 l17 l18 l19 l20 l21 : Slot} : W (pj lw) 100 479 (l0 :: l1 :: l2 :: l3 :: l4 :: l5 :: l6 :: l7 :: l8 :: l9 :: l10 :: l11 :: l12 :: l13 :: l14 :: l15 :: l16 :: l17 :: l18 :: l19 :: l20 :: l21 :: .val (.int x) :: L) S k n H Q ↔ W (pj lw) 100 481 (l0 :: l1 :: l2 :: l3 :: l4 :: l5 :: l6 :: l7 :: l8 :: l9 :: l10 :: l11 :: l12 :: l13 :: l14 :: l15 :: l16 :: l17 :: l18 :: l19 :: l20 :: l21 :: .val (.int x) :: L) (.int x :: S) k n H Q := W_s (rfl : (pj lw).1 100 479 = some (.iload 22, 2, 0)) rfl rfl rfl
theorem w100_481 {x : Int32} : W (pj lw) 100 481 L (.int x :: S) k n H Q ↔ (if x = 0 then W (pj lw) 100 494 L S k n H Q else W (pj lw) 100 484 L S k n H Q) := W_if_eq (rfl : (pj lw).1 100 481 = some (.ifCond .eq 13, 3, 0)) rfl
theorem w100_484 {x : Int32} {l0 l1 l2 l3 l4 l5 l6 l7 l8 l9 l10 l11 l12 l13 l14 l15 l16 l17 l18 l19 l20 l21 l22 l23 l24 : Slot} : W (pj lw) 100 484 (l0 :: l1 :: l2 :: l3 :: l4 :: l5 :: l6 :: l7 :: l8 :: l9 :: l10 :: l11 :: l12 :: l13 :: l14 :: l15 :: l16 :: l17 :: l18 :: l19 :: l20 :: l21 :: l22 :: l23 :: l24 :: .val (.int x) :: L) S k n H Q ↔ W (pj lw) 100 486 (l0 :: l1 :: l2 :: l3 :: l4 :: l5 :: l6 :: l7 :: l8 :: l9 :: l10 :: l11 :: l12 :: l13 :: l14 :: l15 :: l16 :: l17 :: l18 :: l19 :: l20 :: l21 :: l22 :: l23 :: l24 :: .val (.int x) :: L) (.int x :: S) k n H Q := W_s (rfl : (pj lw).1 100 484 = some (.iload 25, 2, 0)) rfl rfl rfl
theorem w100_486 {x : Int32} {l0 l1 l2 l3 l4 l5 l6 l7 l8 l9 l10 l11 l12 l13 l14 l15 l16 l17 : Slot} : W (pj lw) 100 486 (l0 :: l1 :: l2 :: l3 :: l4 :: l5 :: l6 :: l7 :: l8 :: l9 :: l10 :: l11 :: l12 :: l13 :: l14 :: l15 :: l16 :: l17 :: .val (.int x) :: L) S k n H Q ↔ W (pj lw) 100 488 (l0 :: l1 :: l2 :: l3 :: l4 :: l5 :: l6 :: l7 :: l8 :: l9 :: l10 :: l11 :: l12 :: l13 :: l14 :: l15 :: l16 :: l17 :: .val (.int x) :: L) (.int x :: S) k n H Q := W_s (rfl : (pj lw).1 100 486 = some (.iload 18, 2, 0)) rfl rfl rfl
theorem w100_488 {x y : Int32} : W (pj lw) 100 488 L (.int y :: .int x :: S) k n H Q ↔ (if x = y then W (pj lw) 100 579 L S k n H Q else W (pj lw) 100 491 L S k n H Q) := W_icmp_eq (rfl : (pj lw).1 100 488 = some (.if_icmp .eq 91, 3, 0)) rfl
theorem w100_494 {x : Int32} {l0 l1 l2 l3 l4 l5 l6 l7 l8 l9 l10 l11 l12 l13 l14 l15 l16 l17 l18 l19 l20 l21 l22 l23 : Slot} : W (pj lw) 100 494 (l0 :: l1 :: l2 :: l3 :: l4 :: l5 :: l6 :: l7 :: l8 :: l9 :: l10 :: l11 :: l12 :: l13 :: l14 :: l15 :: l16 :: l17 :: l18 :: l19 :: l20 :: l21 :: l22 :: l23 :: .val (.int x) :: L) S k n H Q ↔ W (pj lw) 100 496 (l0 :: l1 :: l2 :: l3 :: l4 :: l5 :: l6 :: l7 :: l8 :: l9 :: l10 :: l11 :: l12 :: l13 :: l14 :: l15 :: l16 :: l17 :: l18 :: l19 :: l20 :: l21 :: l22 :: l23 :: .val (.int x) :: L) (.int x :: S) k n H Q := W_s (rfl : (pj lw).1 100 494 = some (.iload 24, 2, 0)) rfl rfl rfl
theorem w100_496 {x : Int32} {l0 l1 : Slot} : W (pj lw) 100 496 (l0 :: l1 :: .val (.int x) :: L) S k n H Q ↔ W (pj lw) 100 497 (l0 :: l1 :: .val (.int x) :: L) (.int x :: S) k n H Q := W_s (rfl : (pj lw).1 100 496 = some (.iload_n 2, 1, 0)) rfl rfl rfl
theorem w100_497 {x y : Int32} : W (pj lw) 100 497 L (.int y :: .int x :: S) k n H Q ↔ (if x = y then W (pj lw) 100 500 L S k n H Q else W (pj lw) 100 506 L S k n H Q) := W_icmp_ne (rfl : (pj lw).1 100 497 = some (.if_icmp .ne 9, 3, 0)) rfl
theorem w100_500 {x : Int32} {l0 l1 l2 l3 l4 l5 l6 l7 l8 l9 l10 l11 l12 l13 l14 l15 l16 l17 l18 l19 l20 l21 l22 l23 l24 : Slot} : W (pj lw) 100 500 (l0 :: l1 :: l2 :: l3 :: l4 :: l5 :: l6 :: l7 :: l8 :: l9 :: l10 :: l11 :: l12 :: l13 :: l14 :: l15 :: l16 :: l17 :: l18 :: l19 :: l20 :: l21 :: l22 :: l23 :: l24 :: .val (.int x) :: L) S k n H Q ↔ W (pj lw) 100 502 (l0 :: l1 :: l2 :: l3 :: l4 :: l5 :: l6 :: l7 :: l8 :: l9 :: l10 :: l11 :: l12 :: l13 :: l14 :: l15 :: l16 :: l17 :: l18 :: l19 :: l20 :: l21 :: l22 :: l23 :: l24 :: .val (.int x) :: L) (.int x :: S) k n H Q := W_s (rfl : (pj lw).1 100 500 = some (.iload 25, 2, 0)) rfl rfl rfl
theorem w100_502 {x : Int32} {l0 l1 : Slot} : W (pj lw) 100 502 (l0 :: l1 :: .val (.int x) :: L) S k n H Q ↔ W (pj lw) 100 503 (l0 :: l1 :: .val (.int x) :: L) (.int x :: S) k n H Q := W_s (rfl : (pj lw).1 100 502 = some (.iload_n 2, 1, 0)) rfl rfl rfl
theorem w100_503 {x y : Int32} : W (pj lw) 100 503 L (.int y :: .int x :: S) k n H Q ↔ (if x = y then W (pj lw) 100 579 L S k n H Q else W (pj lw) 100 506 L S k n H Q) := W_icmp_eq (rfl : (pj lw).1 100 503 = some (.if_icmp .eq 76, 3, 0)) rfl
theorem w100_508 {x : Nat} {l0 l1 l2 : Slot} : W (pj lw) 100 508 (l0 :: l1 :: l2 :: .val (.ref x) :: L) S k n H Q ↔ W (pj lw) 100 509 (l0 :: l1 :: l2 :: .val (.ref x) :: L) (.ref x :: S) k n H Q := W_s (rfl : (pj lw).1 100 508 = some (.aload_n 3, 1, 0)) rfl rfl rfl
theorem w100_509 {x : Int32} {l0 l1 l2 l3 l4 l5 l6 l7 l8 l9 l10 l11 l12 l13 l14 l15 l16 l17 : Slot} : W (pj lw) 100 509 (l0 :: l1 :: l2 :: l3 :: l4 :: l5 :: l6 :: l7 :: l8 :: l9 :: l10 :: l11 :: l12 :: l13 :: l14 :: l15 :: l16 :: l17 :: .val (.int x) :: L) S k n H Q ↔ W (pj lw) 100 511 (l0 :: l1 :: l2 :: l3 :: l4 :: l5 :: l6 :: l7 :: l8 :: l9 :: l10 :: l11 :: l12 :: l13 :: l14 :: l15 :: l16 :: l17 :: .val (.int x) :: L) (.int x :: S) k n H Q := W_s (rfl : (pj lw).1 100 509 = some (.iload 18, 2, 0)) rfl rfl rfl
theorem w100_511 {a : Nat} {x0 : Int32} : W (pj lw) 100 511 L (.int x0 :: .ref a :: S) k n H Q ↔ ((isO H a = true ∧ cs S + (2 + 11) + 26 ≤ 192) ∧ Cl (pj lw) 8 [.ref a, .int x0] H (fun v H => W (pj lw) 100 514 L (v.toList ++ S) k n H Q)) := W_inst (as := [.int x0]) (rfl : (pj lw).1 100 511 = some (.invokevirtual 36, 3, 8)) rfl rfl rfl (Nat.le_of_ble_eq_true rfl) (Nat.le_of_ble_eq_true rfl) ⟨rfl, rfl⟩
theorem w100_514 {x : Int32} {l0 l1 l2 l3 l4 l5 l6 l7 l8 l9 l10 l11 l12 l13 l14 l15 l16 l17 l18 : Slot} : W (pj lw) 100 514 (l0 :: l1 :: l2 :: l3 :: l4 :: l5 :: l6 :: l7 :: l8 :: l9 :: l10 :: l11 :: l12 :: l13 :: l14 :: l15 :: l16 :: l17 :: l18 :: .val (.int x) :: L) S k n H Q ↔ W (pj lw) 100 516 (l0 :: l1 :: l2 :: l3 :: l4 :: l5 :: l6 :: l7 :: l8 :: l9 :: l10 :: l11 :: l12 :: l13 :: l14 :: l15 :: l16 :: l17 :: l18 :: .val (.int x) :: L) (.int x :: S) k n H Q := W_s (rfl : (pj lw).1 100 514 = some (.iload 19, 2, 0)) rfl rfl rfl
theorem w100_516 {x y : Int32} : W (pj lw) 100 516 L (.int y :: .int x :: S) k n H Q ↔ (if x = y then W (pj lw) 100 521 L S k n H Q else W (pj lw) 100 519 L S k n H Q) := W_icmp_eq (rfl : (pj lw).1 100 516 = some (.if_icmp .eq 5, 3, 0)) rfl
theorem w100_521 {x : Nat} {l0 l1 l2 : Slot} : W (pj lw) 100 521 (l0 :: l1 :: l2 :: .val (.ref x) :: L) S k n H Q ↔ W (pj lw) 100 522 (l0 :: l1 :: l2 :: .val (.ref x) :: L) (.ref x :: S) k n H Q := W_s (rfl : (pj lw).1 100 521 = some (.aload_n 3, 1, 0)) rfl rfl rfl
theorem w100_522 {x : Int32} {l0 l1 l2 l3 l4 l5 l6 l7 l8 l9 l10 l11 l12 l13 l14 l15 l16 l17 : Slot} : W (pj lw) 100 522 (l0 :: l1 :: l2 :: l3 :: l4 :: l5 :: l6 :: l7 :: l8 :: l9 :: l10 :: l11 :: l12 :: l13 :: l14 :: l15 :: l16 :: l17 :: .val (.int x) :: L) S k n H Q ↔ W (pj lw) 100 524 (l0 :: l1 :: l2 :: l3 :: l4 :: l5 :: l6 :: l7 :: l8 :: l9 :: l10 :: l11 :: l12 :: l13 :: l14 :: l15 :: l16 :: l17 :: .val (.int x) :: L) (.int x :: S) k n H Q := W_s (rfl : (pj lw).1 100 522 = some (.iload 18, 2, 0)) rfl rfl rfl
theorem w100_524 {a : Nat} {x0 : Int32} : W (pj lw) 100 524 L (.int x0 :: .ref a :: S) k n H Q ↔ ((isO H a = true ∧ cs S + (2 + 11) + 13 ≤ 192) ∧ Cl (pj lw) 6 [.ref a, .int x0] H (fun v H => W (pj lw) 100 527 L (v.toList ++ S) k n H Q)) := W_inst (as := [.int x0]) (rfl : (pj lw).1 100 524 = some (.invokevirtual 32, 3, 6)) rfl rfl rfl (Nat.le_of_ble_eq_true rfl) (Nat.le_of_ble_eq_true rfl) ⟨rfl, rfl⟩
theorem w100_527 {x : Int32} {l0 l1 l2 l3 l4 l5 l6 l7 l8 l9 l10 l11 l12 l13 l14 l15 l16 l17 l18 l19 l20 l21 : Slot} : W (pj lw) 100 527 (l0 :: l1 :: l2 :: l3 :: l4 :: l5 :: l6 :: l7 :: l8 :: l9 :: l10 :: l11 :: l12 :: l13 :: l14 :: l15 :: l16 :: l17 :: l18 :: l19 :: l20 :: l21 :: .val (.int x) :: L) S k n H Q ↔ W (pj lw) 100 529 (l0 :: l1 :: l2 :: l3 :: l4 :: l5 :: l6 :: l7 :: l8 :: l9 :: l10 :: l11 :: l12 :: l13 :: l14 :: l15 :: l16 :: l17 :: l18 :: l19 :: l20 :: l21 :: .val (.int x) :: L) (.int x :: S) k n H Q := W_s (rfl : (pj lw).1 100 527 = some (.iload 22, 2, 0)) rfl rfl rfl
theorem w100_529 {x : Int32} : W (pj lw) 100 529 L (.int x :: S) k n H Q ↔ (if x = 0 then W (pj lw) 100 539 L S k n H Q else W (pj lw) 100 532 L S k n H Q) := W_if_eq (rfl : (pj lw).1 100 529 = some (.ifCond .eq 10, 3, 0)) rfl
theorem w100_532 {x : Int32} {l0 l1 l2 l3 l4 l5 l6 l7 l8 l9 l10 l11 l12 l13 l14 l15 l16 l17 l18 l19 l20 l21 l22 l23 l24 : Slot} : W (pj lw) 100 532 (l0 :: l1 :: l2 :: l3 :: l4 :: l5 :: l6 :: l7 :: l8 :: l9 :: l10 :: l11 :: l12 :: l13 :: l14 :: l15 :: l16 :: l17 :: l18 :: l19 :: l20 :: l21 :: l22 :: l23 :: l24 :: .val (.int x) :: L) S k n H Q ↔ W (pj lw) 100 534 (l0 :: l1 :: l2 :: l3 :: l4 :: l5 :: l6 :: l7 :: l8 :: l9 :: l10 :: l11 :: l12 :: l13 :: l14 :: l15 :: l16 :: l17 :: l18 :: l19 :: l20 :: l21 :: l22 :: l23 :: l24 :: .val (.int x) :: L) (.int x :: S) k n H Q := W_s (rfl : (pj lw).1 100 532 = some (.iload 25, 2, 0)) rfl rfl rfl
theorem w100_534 {x : Int32} {l0 l1 l2 l3 l4 l5 l6 l7 l8 l9 l10 l11 l12 l13 l14 l15 l16 l17 : Slot} : W (pj lw) 100 534 (l0 :: l1 :: l2 :: l3 :: l4 :: l5 :: l6 :: l7 :: l8 :: l9 :: l10 :: l11 :: l12 :: l13 :: l14 :: l15 :: l16 :: l17 :: .val (.int x) :: L) S k n H Q ↔ W (pj lw) 100 536 (l0 :: l1 :: l2 :: l3 :: l4 :: l5 :: l6 :: l7 :: l8 :: l9 :: l10 :: l11 :: l12 :: l13 :: l14 :: l15 :: l16 :: l17 :: .val (.int x) :: L) (.int x :: S) k n H Q := W_s (rfl : (pj lw).1 100 534 = some (.iload 18, 2, 0)) rfl rfl rfl
theorem w100_536 {x y : Int32} : W (pj lw) 100 536 L (.int y :: .int x :: S) k n H Q ↔ (if x = y then W (pj lw) 100 539 L S k n H Q else W (pj lw) 100 546 L S k n H Q) := W_icmp_ne (rfl : (pj lw).1 100 536 = some (.if_icmp .ne 10, 3, 0)) rfl
theorem w100_539 {x : Int32} {l0 l1 l2 l3 l4 l5 l6 l7 l8 l9 l10 l11 l12 l13 l14 l15 l16 l17 l18 l19 l20 l21 l22 l23 : Slot} : W (pj lw) 100 539 (l0 :: l1 :: l2 :: l3 :: l4 :: l5 :: l6 :: l7 :: l8 :: l9 :: l10 :: l11 :: l12 :: l13 :: l14 :: l15 :: l16 :: l17 :: l18 :: l19 :: l20 :: l21 :: l22 :: l23 :: .val (.int x) :: L) S k n H Q ↔ W (pj lw) 100 541 (l0 :: l1 :: l2 :: l3 :: l4 :: l5 :: l6 :: l7 :: l8 :: l9 :: l10 :: l11 :: l12 :: l13 :: l14 :: l15 :: l16 :: l17 :: l18 :: l19 :: l20 :: l21 :: l22 :: l23 :: .val (.int x) :: L) (.int x :: S) k n H Q := W_s (rfl : (pj lw).1 100 539 = some (.iload 24, 2, 0)) rfl rfl rfl
theorem w100_541 {x : Int32} {l0 l1 l2 l3 l4 l5 l6 l7 l8 l9 l10 l11 l12 l13 l14 l15 l16 l17 : Slot} : W (pj lw) 100 541 (l0 :: l1 :: l2 :: l3 :: l4 :: l5 :: l6 :: l7 :: l8 :: l9 :: l10 :: l11 :: l12 :: l13 :: l14 :: l15 :: l16 :: l17 :: .val (.int x) :: L) S k n H Q ↔ W (pj lw) 100 543 (l0 :: l1 :: l2 :: l3 :: l4 :: l5 :: l6 :: l7 :: l8 :: l9 :: l10 :: l11 :: l12 :: l13 :: l14 :: l15 :: l16 :: l17 :: .val (.int x) :: L) (.int x :: S) k n H Q := W_s (rfl : (pj lw).1 100 541 = some (.iload 18, 2, 0)) rfl rfl rfl
theorem w100_543 {x y : Int32} : W (pj lw) 100 543 L (.int y :: .int x :: S) k n H Q ↔ (if x = y then W (pj lw) 100 546 L S k n H Q else W (pj lw) 100 550 L S k n H Q) := W_icmp_ne (rfl : (pj lw).1 100 543 = some (.if_icmp .ne 7, 3, 0)) rfl
theorem w100_546 : W (pj lw) 100 546 L S k n H Q ↔ W (pj lw) 100 547 L (.int 1 :: S) k n H Q := W_s (rfl : (pj lw).1 100 546 = some (.iconst 1, 1, 0)) rfl rfl rfl
theorem w100_547 : W (pj lw) 100 547 L S k n H Q ↔ W (pj lw) 100 551 L S k n H Q := W_goto (rfl : (pj lw).1 100 547 = some (.goto 4, 3, 0)) rfl
theorem w100_550 : W (pj lw) 100 550 L S k n H Q ↔ W (pj lw) 100 551 L (.int 0 :: S) k n H Q := W_s (rfl : (pj lw).1 100 550 = some (.iconst 0, 1, 0)) rfl rfl rfl
theorem w100_551 {x y : Int32} : W (pj lw) 100 551 L (.int y :: .int x :: S) k n H Q ↔ (if x = y then W (pj lw) 100 556 L S k n H Q else W (pj lw) 100 554 L S k n H Q) := W_icmp_eq (rfl : (pj lw).1 100 551 = some (.if_icmp .eq 5, 3, 0)) rfl
theorem w100_556 {x : Int32} {l0 l1 l2 l3 l4 l5 l6 l7 l8 l9 l10 l11 l12 l13 l14 l15 l16 l17 l18 l19 l20 l21 : Slot} : W (pj lw) 100 556 (l0 :: l1 :: l2 :: l3 :: l4 :: l5 :: l6 :: l7 :: l8 :: l9 :: l10 :: l11 :: l12 :: l13 :: l14 :: l15 :: l16 :: l17 :: l18 :: l19 :: l20 :: l21 :: .val (.int x) :: L) S k n H Q ↔ W (pj lw) 100 558 (l0 :: l1 :: l2 :: l3 :: l4 :: l5 :: l6 :: l7 :: l8 :: l9 :: l10 :: l11 :: l12 :: l13 :: l14 :: l15 :: l16 :: l17 :: l18 :: l19 :: l20 :: l21 :: .val (.int x) :: L) (.int x :: S) k n H Q := W_s (rfl : (pj lw).1 100 556 = some (.iload 22, 2, 0)) rfl rfl rfl
theorem w100_558 {x : Int32} : W (pj lw) 100 558 L (.int x :: S) k n H Q ↔ (if x = 0 then W (pj lw) 100 579 L S k n H Q else W (pj lw) 100 561 L S k n H Q) := W_if_eq (rfl : (pj lw).1 100 558 = some (.ifCond .eq 21, 3, 0)) rfl
theorem w100_561 {x : Int32} {l0 l1 l2 l3 l4 l5 l6 l7 l8 l9 l10 l11 l12 l13 l14 l15 l16 l17 l18 l19 l20 l21 l22 l23 l24 : Slot} : W (pj lw) 100 561 (l0 :: l1 :: l2 :: l3 :: l4 :: l5 :: l6 :: l7 :: l8 :: l9 :: l10 :: l11 :: l12 :: l13 :: l14 :: l15 :: l16 :: l17 :: l18 :: l19 :: l20 :: l21 :: l22 :: l23 :: l24 :: .val (.int x) :: L) S k n H Q ↔ W (pj lw) 100 563 (l0 :: l1 :: l2 :: l3 :: l4 :: l5 :: l6 :: l7 :: l8 :: l9 :: l10 :: l11 :: l12 :: l13 :: l14 :: l15 :: l16 :: l17 :: l18 :: l19 :: l20 :: l21 :: l22 :: l23 :: l24 :: .val (.int x) :: L) (.int x :: S) k n H Q := W_s (rfl : (pj lw).1 100 561 = some (.iload 25, 2, 0)) rfl rfl rfl
theorem w100_563 {x : Int32} {l0 l1 l2 l3 l4 l5 l6 l7 l8 l9 l10 l11 l12 l13 l14 l15 l16 l17 : Slot} : W (pj lw) 100 563 (l0 :: l1 :: l2 :: l3 :: l4 :: l5 :: l6 :: l7 :: l8 :: l9 :: l10 :: l11 :: l12 :: l13 :: l14 :: l15 :: l16 :: l17 :: .val (.int x) :: L) S k n H Q ↔ W (pj lw) 100 565 (l0 :: l1 :: l2 :: l3 :: l4 :: l5 :: l6 :: l7 :: l8 :: l9 :: l10 :: l11 :: l12 :: l13 :: l14 :: l15 :: l16 :: l17 :: .val (.int x) :: L) (.int x :: S) k n H Q := W_s (rfl : (pj lw).1 100 563 = some (.iload 18, 2, 0)) rfl rfl rfl
theorem w100_565 {x y : Int32} : W (pj lw) 100 565 L (.int y :: .int x :: S) k n H Q ↔ (if x = y then W (pj lw) 100 579 L S k n H Q else W (pj lw) 100 568 L S k n H Q) := W_icmp_eq (rfl : (pj lw).1 100 565 = some (.if_icmp .eq 14, 3, 0)) rfl
theorem w100_568 {x : Int64} {l0 l1 l2 l3 l4 l5 l6 l7 : Slot} : W (pj lw) 100 568 (l0 :: l1 :: l2 :: l3 :: l4 :: l5 :: l6 :: l7 :: .val (.long x) :: L) S k n H Q ↔ W (pj lw) 100 570 (l0 :: l1 :: l2 :: l3 :: l4 :: l5 :: l6 :: l7 :: .val (.long x) :: L) (.long x :: S) k n H Q := W_s (rfl : (pj lw).1 100 568 = some (.lload 8, 2, 0)) rfl rfl rfl
theorem w100_570 {x : Int32} {l0 l1 l2 l3 l4 l5 l6 l7 l8 l9 l10 l11 l12 l13 l14 l15 l16 l17 l18 : Slot} : W (pj lw) 100 570 (l0 :: l1 :: l2 :: l3 :: l4 :: l5 :: l6 :: l7 :: l8 :: l9 :: l10 :: l11 :: l12 :: l13 :: l14 :: l15 :: l16 :: l17 :: l18 :: .val (.int x) :: L) S k n H Q ↔ W (pj lw) 100 572 (l0 :: l1 :: l2 :: l3 :: l4 :: l5 :: l6 :: l7 :: l8 :: l9 :: l10 :: l11 :: l12 :: l13 :: l14 :: l15 :: l16 :: l17 :: l18 :: .val (.int x) :: L) (.int x :: S) k n H Q := W_s (rfl : (pj lw).1 100 570 = some (.iload 19, 2, 0)) rfl rfl rfl
theorem w100_572 {x : Int32} {l0 l1 l2 l3 l4 l5 l6 l7 l8 l9 l10 l11 l12 l13 l14 l15 l16 l17 l18 l19 l20 : Slot} : W (pj lw) 100 572 (l0 :: l1 :: l2 :: l3 :: l4 :: l5 :: l6 :: l7 :: l8 :: l9 :: l10 :: l11 :: l12 :: l13 :: l14 :: l15 :: l16 :: l17 :: l18 :: l19 :: l20 :: .val (.int x) :: L) S k n H Q ↔ W (pj lw) 100 574 (l0 :: l1 :: l2 :: l3 :: l4 :: l5 :: l6 :: l7 :: l8 :: l9 :: l10 :: l11 :: l12 :: l13 :: l14 :: l15 :: l16 :: l17 :: l18 :: l19 :: l20 :: .val (.int x) :: L) (.int x :: S) k n H Q := W_s (rfl : (pj lw).1 100 572 = some (.iload 21, 2, 0)) rfl rfl rfl
theorem w100_574 {x y : Int32} : W (pj lw) 100 574 L (.int y :: .int x :: S) k n H Q ↔ W (pj lw) 100 575 L (.int (x - y) :: S) k n H Q := W_s (rfl : (pj lw).1 100 574 = some (.isub, 1, 0)) rfl rfl rfl
theorem w100_575 {x : Int32} : W (pj lw) 100 575 L (.int x :: S) k n H Q ↔ W (pj lw) 100 576 L (.long x.toInt64 :: S) k n H Q := W_s (rfl : (pj lw).1 100 575 = some (.i2l, 1, 0)) rfl rfl rfl
theorem w100_576 {x y : Int64} : W (pj lw) 100 576 L (.long y :: .long x :: S) k n H Q ↔ W (pj lw) 100 577 L (.long (x + y) :: S) k n H Q := W_s (rfl : (pj lw).1 100 576 = some (.ladd, 1, 0)) rfl rfl rfl
theorem w100_577j {x y : Int64} {l0 l1 l2 l3 l4 l5 l6 l7 : Slot} : W (pj lw) 100 577 (l0 :: l1 :: l2 :: l3 :: l4 :: l5 :: l6 :: l7 :: .val (.long y) :: .second :: L) (.long x :: S) k n H Q ↔ W (pj lw) 100 579 (l0 :: l1 :: l2 :: l3 :: l4 :: l5 :: l6 :: l7 :: .val (.long x) :: .second :: L) S k n H Q := W_lst' (rfl : (pj lw).1 100 577 = some (.lstore 8, 2, 0)) rfl rfl
theorem w100_579 {x : Int64} {l0 l1 l2 l3 l4 l5 l6 l7 : Slot} : W (pj lw) 100 579 (l0 :: l1 :: l2 :: l3 :: l4 :: l5 :: l6 :: l7 :: .val (.long x) :: L) S k n H Q ↔ W (pj lw) 100 581 (l0 :: l1 :: l2 :: l3 :: l4 :: l5 :: l6 :: l7 :: .val (.long x) :: L) (.long x :: S) k n H Q := W_s (rfl : (pj lw).1 100 579 = some (.lload 8, 2, 0)) rfl rfl rfl
theorem w100_581 {x : Nat} {l0 l1 l2 : Slot} : W (pj lw) 100 581 (l0 :: l1 :: l2 :: .val (.ref x) :: L) S k n H Q ↔ W (pj lw) 100 582 (l0 :: l1 :: l2 :: .val (.ref x) :: L) (.ref x :: S) k n H Q := W_s (rfl : (pj lw).1 100 581 = some (.aload_n 3, 1, 0)) rfl rfl rfl
theorem w100_582 {x : Int32} {l0 l1 l2 l3 l4 l5 l6 l7 l8 l9 l10 l11 l12 l13 l14 l15 l16 l17 l18 l19 l20 l21 l22 l23 : Slot} : W (pj lw) 100 582 (l0 :: l1 :: l2 :: l3 :: l4 :: l5 :: l6 :: l7 :: l8 :: l9 :: l10 :: l11 :: l12 :: l13 :: l14 :: l15 :: l16 :: l17 :: l18 :: l19 :: l20 :: l21 :: l22 :: l23 :: .val (.int x) :: L) S k n H Q ↔ W (pj lw) 100 584 (l0 :: l1 :: l2 :: l3 :: l4 :: l5 :: l6 :: l7 :: l8 :: l9 :: l10 :: l11 :: l12 :: l13 :: l14 :: l15 :: l16 :: l17 :: l18 :: l19 :: l20 :: l21 :: l22 :: l23 :: .val (.int x) :: L) (.int x :: S) k n H Q := W_s (rfl : (pj lw).1 100 582 = some (.iload 24, 2, 0)) rfl rfl rfl
theorem w100_584 {x0 : Nat} {x1 : Int32} : W (pj lw) 100 584 L (.int x1 :: .ref x0 :: S) k n H Q ↔ (cs S + (2 + 11) + 39 ≤ 192 ∧ Cl (pj lw) 106 [.ref x0, .int x1] H (fun v H => W (pj lw) 100 587 L (v.toList ++ S) k n H Q)) := W_stat (a := [.ref x0, .int x1]) (rfl : (pj lw).1 100 584 = some (.invokestatic 44, 3, 106)) rfl rfl rfl (Nat.le_of_ble_eq_true rfl) (Nat.le_of_ble_eq_true rfl) ⟨rfl, rfl⟩
theorem w100_587 {x : Nat} {l0 l1 l2 : Slot} : W (pj lw) 100 587 (l0 :: l1 :: l2 :: .val (.ref x) :: L) S k n H Q ↔ W (pj lw) 100 588 (l0 :: l1 :: l2 :: .val (.ref x) :: L) (.ref x :: S) k n H Q := W_s (rfl : (pj lw).1 100 587 = some (.aload_n 3, 1, 0)) rfl rfl rfl
theorem w100_588 {x : Int32} {l0 l1 l2 l3 l4 l5 l6 l7 l8 l9 l10 l11 l12 l13 l14 l15 l16 l17 l18 l19 l20 l21 l22 l23 l24 : Slot} : W (pj lw) 100 588 (l0 :: l1 :: l2 :: l3 :: l4 :: l5 :: l6 :: l7 :: l8 :: l9 :: l10 :: l11 :: l12 :: l13 :: l14 :: l15 :: l16 :: l17 :: l18 :: l19 :: l20 :: l21 :: l22 :: l23 :: l24 :: .val (.int x) :: L) S k n H Q ↔ W (pj lw) 100 590 (l0 :: l1 :: l2 :: l3 :: l4 :: l5 :: l6 :: l7 :: l8 :: l9 :: l10 :: l11 :: l12 :: l13 :: l14 :: l15 :: l16 :: l17 :: l18 :: l19 :: l20 :: l21 :: l22 :: l23 :: l24 :: .val (.int x) :: L) (.int x :: S) k n H Q := W_s (rfl : (pj lw).1 100 588 = some (.iload 25, 2, 0)) rfl rfl rfl
theorem w100_590 {x : Int32} {l0 l1 l2 l3 l4 l5 l6 l7 l8 l9 l10 l11 l12 l13 l14 l15 l16 l17 : Slot} : W (pj lw) 100 590 (l0 :: l1 :: l2 :: l3 :: l4 :: l5 :: l6 :: l7 :: l8 :: l9 :: l10 :: l11 :: l12 :: l13 :: l14 :: l15 :: l16 :: l17 :: .val (.int x) :: L) S k n H Q ↔ W (pj lw) 100 592 (l0 :: l1 :: l2 :: l3 :: l4 :: l5 :: l6 :: l7 :: l8 :: l9 :: l10 :: l11 :: l12 :: l13 :: l14 :: l15 :: l16 :: l17 :: .val (.int x) :: L) (.int x :: S) k n H Q := W_s (rfl : (pj lw).1 100 590 = some (.iload 18, 2, 0)) rfl rfl rfl
theorem w100_592 {x : Int32} {l0 l1 l2 l3 l4 l5 l6 l7 l8 l9 l10 l11 l12 l13 l14 l15 l16 l17 l18 l19 l20 : Slot} : W (pj lw) 100 592 (l0 :: l1 :: l2 :: l3 :: l4 :: l5 :: l6 :: l7 :: l8 :: l9 :: l10 :: l11 :: l12 :: l13 :: l14 :: l15 :: l16 :: l17 :: l18 :: l19 :: l20 :: .val (.int x) :: L) S k n H Q ↔ W (pj lw) 100 594 (l0 :: l1 :: l2 :: l3 :: l4 :: l5 :: l6 :: l7 :: l8 :: l9 :: l10 :: l11 :: l12 :: l13 :: l14 :: l15 :: l16 :: l17 :: l18 :: l19 :: l20 :: .val (.int x) :: L) (.int x :: S) k n H Q := W_s (rfl : (pj lw).1 100 592 = some (.iload 21, 2, 0)) rfl rfl rfl
theorem w100_594 {x0 : Nat} {x1 : Int32} {x2 : Int32} {x3 : Int32} : W (pj lw) 100 594 L (.int x3 :: .int x2 :: .int x1 :: .ref x0 :: S) k n H Q ↔ (cs S + (4 + 11) + 39 ≤ 192 ∧ Cl (pj lw) 107 [.ref x0, .int x1, .int x2, .int x3] H (fun v H => W (pj lw) 100 597 L (v.toList ++ S) k n H Q)) := W_stat (a := [.ref x0, .int x1, .int x2, .int x3]) (rfl : (pj lw).1 100 594 = some (.invokestatic 48, 3, 107)) rfl rfl rfl (Nat.le_of_ble_eq_true rfl) (Nat.le_of_ble_eq_true rfl) ⟨rfl, rfl⟩
theorem w100_597 {x y : Int64} : W (pj lw) 100 597 L (.long y :: .long x :: S) k n H Q ↔ W (pj lw) 100 598 L (.long (x - y) :: S) k n H Q := W_s (rfl : (pj lw).1 100 597 = some (.lsub, 1, 0)) rfl rfl rfl
theorem w100_598 {x y : Int64} : W (pj lw) 100 598 L (.long y :: .long x :: S) k n H Q ↔ W (pj lw) 100 599 L (.long (x + y) :: S) k n H Q := W_s (rfl : (pj lw).1 100 598 = some (.ladd, 1, 0)) rfl rfl rfl
theorem w100_599j {x y : Int64} {l0 l1 l2 l3 l4 l5 l6 l7 : Slot} : W (pj lw) 100 599 (l0 :: l1 :: l2 :: l3 :: l4 :: l5 :: l6 :: l7 :: .val (.long y) :: .second :: L) (.long x :: S) k n H Q ↔ W (pj lw) 100 601 (l0 :: l1 :: l2 :: l3 :: l4 :: l5 :: l6 :: l7 :: .val (.long x) :: .second :: L) S k n H Q := W_lst' (rfl : (pj lw).1 100 599 = some (.lstore 8, 2, 0)) rfl rfl
theorem w100_601 {x : Int32} {l0 l1 l2 l3 l4 l5 l6 l7 l8 l9 l10 : Slot} : W (pj lw) 100 601 (l0 :: l1 :: l2 :: l3 :: l4 :: l5 :: l6 :: l7 :: l8 :: l9 :: l10 :: .val (.int x) :: L) S k n H Q ↔ W (pj lw) 100 603 (l0 :: l1 :: l2 :: l3 :: l4 :: l5 :: l6 :: l7 :: l8 :: l9 :: l10 :: .val (.int x) :: L) (.int x :: S) k n H Q := W_s (rfl : (pj lw).1 100 601 = some (.iload 11, 2, 0)) rfl rfl rfl
theorem w100_603 {x : Int32} {l0 l1 l2 l3 l4 l5 l6 l7 l8 l9 l10 l11 l12 l13 l14 l15 l16 l17 l18 l19 l20 l21 l22 l23 : Slot} : W (pj lw) 100 603 (l0 :: l1 :: l2 :: l3 :: l4 :: l5 :: l6 :: l7 :: l8 :: l9 :: l10 :: l11 :: l12 :: l13 :: l14 :: l15 :: l16 :: l17 :: l18 :: l19 :: l20 :: l21 :: l22 :: l23 :: .val (.int x) :: L) S k n H Q ↔ W (pj lw) 100 605 (l0 :: l1 :: l2 :: l3 :: l4 :: l5 :: l6 :: l7 :: l8 :: l9 :: l10 :: l11 :: l12 :: l13 :: l14 :: l15 :: l16 :: l17 :: l18 :: l19 :: l20 :: l21 :: l22 :: l23 :: .val (.int x) :: L) (.int x :: S) k n H Q := W_s (rfl : (pj lw).1 100 603 = some (.iload 24, 2, 0)) rfl rfl rfl
theorem w100_605 {x : Int32} {l0 l1 l2 l3 l4 l5 l6 l7 l8 l9 l10 l11 l12 l13 l14 l15 l16 l17 l18 l19 l20 l21 l22 l23 l24 : Slot} : W (pj lw) 100 605 (l0 :: l1 :: l2 :: l3 :: l4 :: l5 :: l6 :: l7 :: l8 :: l9 :: l10 :: l11 :: l12 :: l13 :: l14 :: l15 :: l16 :: l17 :: l18 :: l19 :: l20 :: l21 :: l22 :: l23 :: l24 :: .val (.int x) :: L) S k n H Q ↔ W (pj lw) 100 607 (l0 :: l1 :: l2 :: l3 :: l4 :: l5 :: l6 :: l7 :: l8 :: l9 :: l10 :: l11 :: l12 :: l13 :: l14 :: l15 :: l16 :: l17 :: l18 :: l19 :: l20 :: l21 :: l22 :: l23 :: l24 :: .val (.int x) :: L) (.int x :: S) k n H Q := W_s (rfl : (pj lw).1 100 605 = some (.iload 25, 2, 0)) rfl rfl rfl
theorem w100_607 {x0 : Int32} {x1 : Int32} : W (pj lw) 100 607 L (.int x1 :: .int x0 :: S) k n H Q ↔ (cs S + (2 + 11) + 0 ≤ 192 ∧ Cl (pj lw) 105 [.int x0, .int x1] H (fun v H => W (pj lw) 100 610 L (v.toList ++ S) k n H Q)) := W_stat (a := [.int x0, .int x1]) (rfl : (pj lw).1 100 607 = some (.invokestatic 52, 3, 105)) rfl rfl rfl (Nat.le_of_ble_eq_true rfl) (Nat.le_of_ble_eq_true rfl) ⟨rfl, rfl⟩
theorem w100_610 {x y : Int32} : W (pj lw) 100 610 L (.int y :: .int x :: S) k n H Q ↔ W (pj lw) 100 611 L (.int (x + y) :: S) k n H Q := W_s (rfl : (pj lw).1 100 610 = some (.iadd, 1, 0)) rfl rfl rfl
theorem w100_611i {y : Int32} {x : Int32} {l0 l1 l2 l3 l4 l5 l6 l7 l8 l9 l10 : Slot} : W (pj lw) 100 611 (l0 :: l1 :: l2 :: l3 :: l4 :: l5 :: l6 :: l7 :: l8 :: l9 :: l10 :: .val (.int y) :: L) (.int x :: S) k n H Q ↔ W (pj lw) 100 613 (l0 :: l1 :: l2 :: l3 :: l4 :: l5 :: l6 :: l7 :: l8 :: l9 :: l10 :: .val (.int x) :: L) S k n H Q := W_ist (rfl : (pj lw).1 100 611 = some (.istore 11, 2, 0)) rfl rfl
theorem w100_613 {x : Int32} {l0 l1 l2 l3 l4 l5 l6 l7 l8 l9 l10 l11 l12 l13 l14 l15 l16 l17 l18 l19 l20 l21 l22 l23 : Slot} : W (pj lw) 100 613 (l0 :: l1 :: l2 :: l3 :: l4 :: l5 :: l6 :: l7 :: l8 :: l9 :: l10 :: l11 :: l12 :: l13 :: l14 :: l15 :: l16 :: l17 :: l18 :: l19 :: l20 :: l21 :: l22 :: l23 :: .val (.int x) :: L) S k n H Q ↔ W (pj lw) 100 615 (l0 :: l1 :: l2 :: l3 :: l4 :: l5 :: l6 :: l7 :: l8 :: l9 :: l10 :: l11 :: l12 :: l13 :: l14 :: l15 :: l16 :: l17 :: l18 :: l19 :: l20 :: l21 :: l22 :: l23 :: .val (.int x) :: L) (.int x :: S) k n H Q := W_s (rfl : (pj lw).1 100 613 = some (.iload 24, 2, 0)) rfl rfl rfl
theorem w100_615i {y : Int32} {x : Int32} {l0 l1 l2 l3 l4 l5 l6 l7 l8 l9 l10 l11 : Slot} : W (pj lw) 100 615 (l0 :: l1 :: l2 :: l3 :: l4 :: l5 :: l6 :: l7 :: l8 :: l9 :: l10 :: l11 :: .val (.int y) :: L) (.int x :: S) k n H Q ↔ W (pj lw) 100 617 (l0 :: l1 :: l2 :: l3 :: l4 :: l5 :: l6 :: l7 :: l8 :: l9 :: l10 :: l11 :: .val (.int x) :: L) S k n H Q := W_ist (rfl : (pj lw).1 100 615 = some (.istore 12, 2, 0)) rfl rfl
theorem w100_617 {x : Int32} {l0 l1 l2 l3 l4 l5 l6 l7 l8 l9 l10 l11 l12 l13 l14 l15 l16 l17 l18 l19 l20 l21 l22 l23 l24 : Slot} : W (pj lw) 100 617 (l0 :: l1 :: l2 :: l3 :: l4 :: l5 :: l6 :: l7 :: l8 :: l9 :: l10 :: l11 :: l12 :: l13 :: l14 :: l15 :: l16 :: l17 :: l18 :: l19 :: l20 :: l21 :: l22 :: l23 :: l24 :: .val (.int x) :: L) S k n H Q ↔ W (pj lw) 100 619 (l0 :: l1 :: l2 :: l3 :: l4 :: l5 :: l6 :: l7 :: l8 :: l9 :: l10 :: l11 :: l12 :: l13 :: l14 :: l15 :: l16 :: l17 :: l18 :: l19 :: l20 :: l21 :: l22 :: l23 :: l24 :: .val (.int x) :: L) (.int x :: S) k n H Q := W_s (rfl : (pj lw).1 100 617 = some (.iload 25, 2, 0)) rfl rfl rfl
theorem w100_619i {y : Int32} {x : Int32} {l0 l1 l2 l3 l4 l5 l6 l7 l8 l9 l10 l11 l12 : Slot} : W (pj lw) 100 619 (l0 :: l1 :: l2 :: l3 :: l4 :: l5 :: l6 :: l7 :: l8 :: l9 :: l10 :: l11 :: l12 :: .val (.int y) :: L) (.int x :: S) k n H Q ↔ W (pj lw) 100 621 (l0 :: l1 :: l2 :: l3 :: l4 :: l5 :: l6 :: l7 :: l8 :: l9 :: l10 :: l11 :: l12 :: .val (.int x) :: L) S k n H Q := W_ist (rfl : (pj lw).1 100 619 = some (.istore 13, 2, 0)) rfl rfl
theorem w100_621 {x : Nat} {l0 l1 l2 : Slot} : W (pj lw) 100 621 (l0 :: l1 :: l2 :: .val (.ref x) :: L) S k n H Q ↔ W (pj lw) 100 622 (l0 :: l1 :: l2 :: .val (.ref x) :: L) (.ref x :: S) k n H Q := W_s (rfl : (pj lw).1 100 621 = some (.aload_n 3, 1, 0)) rfl rfl rfl
theorem w100_622 {a : Nat} : W (pj lw) 100 622 L (.ref a :: S) k n H Q ↔ ((isO H a = true ∧ cs S + (1 + 11) + 0 ≤ 192) ∧ Cl (pj lw) 9 [.ref a] H (fun v H => W (pj lw) 100 625 L (v.toList ++ S) k n H Q)) := W_inst (as := []) (rfl : (pj lw).1 100 622 = some (.invokevirtual 64, 3, 9)) rfl rfl rfl (Nat.le_of_ble_eq_true rfl) (Nat.le_of_ble_eq_true rfl) ⟨rfl, rfl⟩
theorem w100_625 {x : Int32} {l0 l1 l2 l3 l4 l5 l6 l7 l8 l9 : Slot} : W (pj lw) 100 625 (l0 :: l1 :: l2 :: l3 :: l4 :: l5 :: l6 :: l7 :: l8 :: l9 :: .val (.int x) :: L) S k n H Q ↔ W (pj lw) 100 627 (l0 :: l1 :: l2 :: l3 :: l4 :: l5 :: l6 :: l7 :: l8 :: l9 :: .val (.int x) :: L) (.int x :: S) k n H Q := W_s (rfl : (pj lw).1 100 625 = some (.iload 10, 2, 0)) rfl rfl rfl
theorem w100_627 {x y : Int32} : W (pj lw) 100 627 L (.int y :: .int x :: S) k n H Q ↔ (if x = y then W (pj lw) 100 630 L S k n H Q else W (pj lw) 100 650 L S k n H Q) := W_icmp_ne (rfl : (pj lw).1 100 627 = some (.if_icmp .ne 23, 3, 0)) rfl
theorem w100_630 {x : Nat} {l0 l1 l2 : Slot} : W (pj lw) 100 630 (l0 :: l1 :: l2 :: .val (.ref x) :: L) S k n H Q ↔ W (pj lw) 100 631 (l0 :: l1 :: l2 :: .val (.ref x) :: L) (.ref x :: S) k n H Q := W_s (rfl : (pj lw).1 100 630 = some (.aload_n 3, 1, 0)) rfl rfl rfl
theorem w100_631 {a : Nat} : W (pj lw) 100 631 L (.ref a :: S) k n H Q ↔ ((isO H a = true ∧ cs S + (1 + 11) + 0 ≤ 192) ∧ Cl (pj lw) 11 [.ref a] H (fun v H => W (pj lw) 100 634 L (v.toList ++ S) k n H Q)) := W_inst (as := []) (rfl : (pj lw).1 100 631 = some (.invokevirtual 67, 3, 11)) rfl rfl rfl (Nat.le_of_ble_eq_true rfl) (Nat.le_of_ble_eq_true rfl) ⟨rfl, rfl⟩
theorem w100_634 {x : Int32} {l0 l1 l2 l3 l4 l5 l6 l7 l8 l9 l10 : Slot} : W (pj lw) 100 634 (l0 :: l1 :: l2 :: l3 :: l4 :: l5 :: l6 :: l7 :: l8 :: l9 :: l10 :: .val (.int x) :: L) S k n H Q ↔ W (pj lw) 100 636 (l0 :: l1 :: l2 :: l3 :: l4 :: l5 :: l6 :: l7 :: l8 :: l9 :: l10 :: .val (.int x) :: L) (.int x :: S) k n H Q := W_s (rfl : (pj lw).1 100 634 = some (.iload 11, 2, 0)) rfl rfl rfl
theorem w100_636 {x y : Int32} : W (pj lw) 100 636 L (.int y :: .int x :: S) k n H Q ↔ (if x = y then W (pj lw) 100 639 L S k n H Q else W (pj lw) 100 650 L S k n H Q) := W_icmp_ne (rfl : (pj lw).1 100 636 = some (.if_icmp .ne 14, 3, 0)) rfl
theorem w100_639 {x : Nat} {l0 l1 l2 : Slot} : W (pj lw) 100 639 (l0 :: l1 :: l2 :: .val (.ref x) :: L) S k n H Q ↔ W (pj lw) 100 640 (l0 :: l1 :: l2 :: .val (.ref x) :: L) (.ref x :: S) k n H Q := W_s (rfl : (pj lw).1 100 639 = some (.aload_n 3, 1, 0)) rfl rfl rfl
theorem w100_640 {a : Nat} : W (pj lw) 100 640 L (.ref a :: S) k n H Q ↔ ((isO H a = true ∧ cs S + (1 + 11) + 0 ≤ 192) ∧ Cl (pj lw) 12 [.ref a] H (fun v H => W (pj lw) 100 643 L (v.toList ++ S) k n H Q)) := W_inst (as := []) (rfl : (pj lw).1 100 640 = some (.invokevirtual 70, 3, 12)) rfl rfl rfl (Nat.le_of_ble_eq_true rfl) (Nat.le_of_ble_eq_true rfl) ⟨rfl, rfl⟩
theorem w100_643 {x : Int32} {l0 : Slot} : W (pj lw) 100 643 (l0 :: .val (.int x) :: L) S k n H Q ↔ W (pj lw) 100 644 (l0 :: .val (.int x) :: L) (.int x :: S) k n H Q := W_s (rfl : (pj lw).1 100 643 = some (.iload_n 1, 1, 0)) rfl rfl rfl
theorem w100_644 {x : Int32} {l0 l1 l2 l3 l4 l5 l6 l7 l8 l9 l10 : Slot} : W (pj lw) 100 644 (l0 :: l1 :: l2 :: l3 :: l4 :: l5 :: l6 :: l7 :: l8 :: l9 :: l10 :: .val (.int x) :: L) S k n H Q ↔ W (pj lw) 100 646 (l0 :: l1 :: l2 :: l3 :: l4 :: l5 :: l6 :: l7 :: l8 :: l9 :: l10 :: .val (.int x) :: L) (.int x :: S) k n H Q := W_s (rfl : (pj lw).1 100 644 = some (.iload 11, 2, 0)) rfl rfl rfl
theorem w100_646 {x y : Int32} : W (pj lw) 100 646 L (.int y :: .int x :: S) k n H Q ↔ W (pj lw) 100 647 L (.int (x - y) :: S) k n H Q := W_s (rfl : (pj lw).1 100 646 = some (.isub, 1, 0)) rfl rfl rfl
theorem w100_647 {x y : Int32} : W (pj lw) 100 647 L (.int y :: .int x :: S) k n H Q ↔ (if x = y then W (pj lw) 100 652 L S k n H Q else W (pj lw) 100 650 L S k n H Q) := W_icmp_eq (rfl : (pj lw).1 100 647 = some (.if_icmp .eq 5, 3, 0)) rfl
theorem w100_652 {x : Nat} {l0 l1 l2 : Slot} : W (pj lw) 100 652 (l0 :: l1 :: l2 :: .val (.ref x) :: L) S k n H Q ↔ W (pj lw) 100 653 (l0 :: l1 :: l2 :: .val (.ref x) :: L) (.ref x :: S) k n H Q := W_s (rfl : (pj lw).1 100 652 = some (.aload_n 3, 1, 0)) rfl rfl rfl
theorem w100_653 {a : Nat} : W (pj lw) 100 653 L (.ref a :: S) k n H Q ↔ ((isO H a = true ∧ cs S + (1 + 11) + 0 ≤ 192) ∧ Cl (pj lw) 10 [.ref a] H (fun v H => W (pj lw) 100 656 L (v.toList ++ S) k n H Q)) := W_inst (as := []) (rfl : (pj lw).1 100 653 = some (.invokevirtual 73, 3, 10)) rfl rfl rfl (Nat.le_of_ble_eq_true rfl) (Nat.le_of_ble_eq_true rfl) ⟨rfl, rfl⟩
theorem w100_656 {x : Int64} {l0 l1 l2 l3 l4 l5 l6 l7 : Slot} : W (pj lw) 100 656 (l0 :: l1 :: l2 :: l3 :: l4 :: l5 :: l6 :: l7 :: .val (.long x) :: L) S k n H Q ↔ W (pj lw) 100 658 (l0 :: l1 :: l2 :: l3 :: l4 :: l5 :: l6 :: l7 :: .val (.long x) :: L) (.long x :: S) k n H Q := W_s (rfl : (pj lw).1 100 656 = some (.lload 8, 2, 0)) rfl rfl rfl
theorem w100_658 {x y : Int64} : W (pj lw) 100 658 L (.long y :: .long x :: S) k n H Q ↔ W (pj lw) 100 659 L (.int (Jvm.Free.XT.cmpL x y) :: S) k n H Q := W_s (rfl : (pj lw).1 100 658 = some (.lcmp, 1, 0)) rfl rfl rfl
theorem w100_659 {x : Int32} : W (pj lw) 100 659 L (.int x :: S) k n H Q ↔ (if x = 0 then W (pj lw) 100 662 L S k n H Q else W (pj lw) 100 680 L S k n H Q) := W_if_ne (rfl : (pj lw).1 100 659 = some (.ifCond .ne 21, 3, 0)) rfl
theorem w100_662 {x : Nat} {l0 l1 l2 : Slot} : W (pj lw) 100 662 (l0 :: l1 :: l2 :: .val (.ref x) :: L) S k n H Q ↔ W (pj lw) 100 663 (l0 :: l1 :: l2 :: .val (.ref x) :: L) (.ref x :: S) k n H Q := W_s (rfl : (pj lw).1 100 662 = some (.aload_n 3, 1, 0)) rfl rfl rfl
theorem w100_663 {a : Nat} : W (pj lw) 100 663 L (.ref a :: S) k n H Q ↔ ((isO H a = true ∧ cs S + (1 + 11) + 0 ≤ 192) ∧ Cl (pj lw) 16 [.ref a] H (fun v H => W (pj lw) 100 666 L (v.toList ++ S) k n H Q)) := W_inst (as := []) (rfl : (pj lw).1 100 663 = some (.invokevirtual 25, 3, 16)) rfl rfl rfl (Nat.le_of_ble_eq_true rfl) (Nat.le_of_ble_eq_true rfl) ⟨rfl, rfl⟩
theorem w100_666 {x : Int32} {l0 l1 l2 l3 l4 l5 l6 l7 l8 l9 l10 l11 : Slot} : W (pj lw) 100 666 (l0 :: l1 :: l2 :: l3 :: l4 :: l5 :: l6 :: l7 :: l8 :: l9 :: l10 :: l11 :: .val (.int x) :: L) S k n H Q ↔ W (pj lw) 100 668 (l0 :: l1 :: l2 :: l3 :: l4 :: l5 :: l6 :: l7 :: l8 :: l9 :: l10 :: l11 :: .val (.int x) :: L) (.int x :: S) k n H Q := W_s (rfl : (pj lw).1 100 666 = some (.iload 12, 2, 0)) rfl rfl rfl
theorem w100_668 {x y : Int32} : W (pj lw) 100 668 L (.int y :: .int x :: S) k n H Q ↔ (if x = y then W (pj lw) 100 671 L S k n H Q else W (pj lw) 100 680 L S k n H Q) := W_icmp_ne (rfl : (pj lw).1 100 668 = some (.if_icmp .ne 12, 3, 0)) rfl
theorem w100_671 {x : Nat} {l0 l1 l2 : Slot} : W (pj lw) 100 671 (l0 :: l1 :: l2 :: .val (.ref x) :: L) S k n H Q ↔ W (pj lw) 100 672 (l0 :: l1 :: l2 :: .val (.ref x) :: L) (.ref x :: S) k n H Q := W_s (rfl : (pj lw).1 100 671 = some (.aload_n 3, 1, 0)) rfl rfl rfl
theorem w100_672 {a : Nat} : W (pj lw) 100 672 L (.ref a :: S) k n H Q ↔ ((isO H a = true ∧ cs S + (1 + 11) + 0 ≤ 192) ∧ Cl (pj lw) 17 [.ref a] H (fun v H => W (pj lw) 100 675 L (v.toList ++ S) k n H Q)) := W_inst (as := []) (rfl : (pj lw).1 100 672 = some (.invokevirtual 29, 3, 17)) rfl rfl rfl (Nat.le_of_ble_eq_true rfl) (Nat.le_of_ble_eq_true rfl) ⟨rfl, rfl⟩
theorem w100_675 {x : Int32} {l0 l1 l2 l3 l4 l5 l6 l7 l8 l9 l10 l11 l12 : Slot} : W (pj lw) 100 675 (l0 :: l1 :: l2 :: l3 :: l4 :: l5 :: l6 :: l7 :: l8 :: l9 :: l10 :: l11 :: l12 :: .val (.int x) :: L) S k n H Q ↔ W (pj lw) 100 677 (l0 :: l1 :: l2 :: l3 :: l4 :: l5 :: l6 :: l7 :: l8 :: l9 :: l10 :: l11 :: l12 :: .val (.int x) :: L) (.int x :: S) k n H Q := W_s (rfl : (pj lw).1 100 675 = some (.iload 13, 2, 0)) rfl rfl rfl
theorem w100_677 {x y : Int32} : W (pj lw) 100 677 L (.int y :: .int x :: S) k n H Q ↔ (if x = y then W (pj lw) 100 682 L S k n H Q else W (pj lw) 100 680 L S k n H Q) := W_icmp_eq (rfl : (pj lw).1 100 677 = some (.if_icmp .eq 5, 3, 0)) rfl
theorem w100_682 : W (pj lw) 100 682 L S k n H Q ↔ W (pj lw) 100 683 L (.int 0 :: S) k n H Q := W_s (rfl : (pj lw).1 100 682 = some (.iconst 0, 1, 0)) rfl rfl rfl
theorem w100_683 {x : Int32} {l0 l1 l2 l3 l4 l5 l6 l7 l8 l9 l10 l11 l12 l13 l14 l15 l16 l17 l18 l19 : Slot} : W (pj lw) 100 683 (l0 :: l1 :: l2 :: l3 :: l4 :: l5 :: l6 :: l7 :: l8 :: l9 :: l10 :: l11 :: l12 :: l13 :: l14 :: l15 :: l16 :: l17 :: l18 :: l19 :: .unset :: L) (.int x :: S) k n H Q ↔ W (pj lw) 100 685 (l0 :: l1 :: l2 :: l3 :: l4 :: l5 :: l6 :: l7 :: l8 :: l9 :: l10 :: l11 :: l12 :: l13 :: l14 :: l15 :: l16 :: l17 :: l18 :: l19 :: .val (.int x) :: L) S k n H Q := W_ist (rfl : (pj lw).1 100 683 = some (.istore 20, 2, 0)) rfl rfl
theorem w100_685 {x : Int32} {l0 l1 l2 l3 l4 l5 l6 l7 l8 l9 l10 l11 l12 l13 l14 l15 l16 l17 l18 l19 : Slot} : W (pj lw) 100 685 (l0 :: l1 :: l2 :: l3 :: l4 :: l5 :: l6 :: l7 :: l8 :: l9 :: l10 :: l11 :: l12 :: l13 :: l14 :: l15 :: l16 :: l17 :: l18 :: l19 :: .val (.int x) :: L) S k n H Q ↔ W (pj lw) 100 687 (l0 :: l1 :: l2 :: l3 :: l4 :: l5 :: l6 :: l7 :: l8 :: l9 :: l10 :: l11 :: l12 :: l13 :: l14 :: l15 :: l16 :: l17 :: l18 :: l19 :: .val (.int x) :: L) (.int x :: S) k n H Q := W_s (rfl : (pj lw).1 100 685 = some (.iload 20, 2, 0)) rfl rfl rfl
theorem w100_687 : W (pj lw) 100 687 L S k n H Q ↔ W (pj lw) 100 689 L (.int 16 :: S) k n H Q := W_s (rfl : (pj lw).1 100 687 = some (.bipush 16, 2, 0)) rfl rfl rfl
theorem w100_689 {x y : Int32} : W (pj lw) 100 689 L (.int y :: .int x :: S) k n H Q ↔ (if x < y then W (pj lw) 100 692 L S k n H Q else W (pj lw) 100 718 L S k n H Q) := W_icmp_ge (rfl : (pj lw).1 100 689 = some (.if_icmp .ge 29, 3, 0)) rfl
theorem w100_692 {x : Nat} {l0 l1 l2 : Slot} : W (pj lw) 100 692 (l0 :: l1 :: l2 :: .val (.ref x) :: L) S k n H Q ↔ W (pj lw) 100 693 (l0 :: l1 :: l2 :: .val (.ref x) :: L) (.ref x :: S) k n H Q := W_s (rfl : (pj lw).1 100 692 = some (.aload_n 3, 1, 0)) rfl rfl rfl
theorem w100_693 {x : Int32} {l0 l1 l2 l3 l4 l5 l6 l7 l8 l9 l10 l11 l12 l13 l14 l15 l16 l17 l18 l19 : Slot} : W (pj lw) 100 693 (l0 :: l1 :: l2 :: l3 :: l4 :: l5 :: l6 :: l7 :: l8 :: l9 :: l10 :: l11 :: l12 :: l13 :: l14 :: l15 :: l16 :: l17 :: l18 :: l19 :: .val (.int x) :: L) S k n H Q ↔ W (pj lw) 100 695 (l0 :: l1 :: l2 :: l3 :: l4 :: l5 :: l6 :: l7 :: l8 :: l9 :: l10 :: l11 :: l12 :: l13 :: l14 :: l15 :: l16 :: l17 :: l18 :: l19 :: .val (.int x) :: L) (.int x :: S) k n H Q := W_s (rfl : (pj lw).1 100 693 = some (.iload 20, 2, 0)) rfl rfl rfl
theorem w100_695 {a : Nat} {x0 : Int32} : W (pj lw) 100 695 L (.int x0 :: .ref a :: S) k n H Q ↔ ((isO H a = true ∧ cs S + (2 + 11) + 13 ≤ 192) ∧ Cl (pj lw) 5 [.ref a, .int x0] H (fun v H => W (pj lw) 100 698 L (v.toList ++ S) k n H Q)) := W_inst (as := [.int x0]) (rfl : (pj lw).1 100 695 = some (.invokevirtual 77, 3, 5)) rfl rfl rfl (Nat.le_of_ble_eq_true rfl) (Nat.le_of_ble_eq_true rfl) ⟨rfl, rfl⟩
theorem w100_698 {x : Int64} {l0 l1 l2 l3 : Slot} : W (pj lw) 100 698 (l0 :: l1 :: l2 :: l3 :: .val (.long x) :: L) S k n H Q ↔ W (pj lw) 100 700 (l0 :: l1 :: l2 :: l3 :: .val (.long x) :: L) (.long x :: S) k n H Q := W_s (rfl : (pj lw).1 100 698 = some (.lload 4, 2, 0)) rfl rfl rfl
theorem w100_700 {x : Int64} {l0 l1 l2 l3 l4 l5 : Slot} : W (pj lw) 100 700 (l0 :: l1 :: l2 :: l3 :: l4 :: l5 :: .val (.long x) :: L) S k n H Q ↔ W (pj lw) 100 702 (l0 :: l1 :: l2 :: l3 :: l4 :: l5 :: .val (.long x) :: L) (.long x :: S) k n H Q := W_s (rfl : (pj lw).1 100 700 = some (.lload 6, 2, 0)) rfl rfl rfl
theorem w100_702 {x : Int32} {l0 l1 l2 l3 l4 l5 l6 l7 l8 l9 l10 l11 l12 l13 l14 l15 l16 l17 l18 l19 : Slot} : W (pj lw) 100 702 (l0 :: l1 :: l2 :: l3 :: l4 :: l5 :: l6 :: l7 :: l8 :: l9 :: l10 :: l11 :: l12 :: l13 :: l14 :: l15 :: l16 :: l17 :: l18 :: l19 :: .val (.int x) :: L) S k n H Q ↔ W (pj lw) 100 704 (l0 :: l1 :: l2 :: l3 :: l4 :: l5 :: l6 :: l7 :: l8 :: l9 :: l10 :: l11 :: l12 :: l13 :: l14 :: l15 :: l16 :: l17 :: l18 :: l19 :: .val (.int x) :: L) (.int x :: S) k n H Q := W_s (rfl : (pj lw).1 100 702 = some (.iload 20, 2, 0)) rfl rfl rfl
theorem w100_704 {x0 : Int64} {x1 : Int64} {x2 : Int32} : W (pj lw) 100 704 L (.int x2 :: .long x1 :: .long x0 :: S) k n H Q ↔ (cs S + (5 + 11) + 0 ≤ 192 ∧ Cl (pj lw) 103 [.long x0, .long x1, .int x2] H (fun v H => W (pj lw) 100 707 L (v.toList ++ S) k n H Q)) := W_stat (a := [.long x0, .long x1, .int x2]) (rfl : (pj lw).1 100 704 = some (.invokestatic 16, 3, 103)) rfl rfl rfl (Nat.le_of_ble_eq_true rfl) (Nat.le_of_ble_eq_true rfl) ⟨rfl, rfl⟩
theorem w100_707 {x y : Int32} : W (pj lw) 100 707 L (.int y :: .int x :: S) k n H Q ↔ (if x = y then W (pj lw) 100 712 L S k n H Q else W (pj lw) 100 710 L S k n H Q) := W_icmp_eq (rfl : (pj lw).1 100 707 = some (.if_icmp .eq 5, 3, 0)) rfl
theorem w100_712 {x : Int32} {l0 l1 l2 l3 l4 l5 l6 l7 l8 l9 l10 l11 l12 l13 l14 l15 l16 l17 l18 l19 : Slot} : W (pj lw) 100 712 (l0 :: l1 :: l2 :: l3 :: l4 :: l5 :: l6 :: l7 :: l8 :: l9 :: l10 :: l11 :: l12 :: l13 :: l14 :: l15 :: l16 :: l17 :: l18 :: l19 :: .val (.int x) :: L) S k n H Q ↔ W (pj lw) 100 715 (l0 :: l1 :: l2 :: l3 :: l4 :: l5 :: l6 :: l7 :: l8 :: l9 :: l10 :: l11 :: l12 :: l13 :: l14 :: l15 :: l16 :: l17 :: l18 :: l19 :: .val (.int (x + 1)) :: L) S k n H Q := W_s (rfl : (pj lw).1 100 712 = some (.iinc 20 1, 3, 0)) rfl rfl rfl
theorem w100_715 : W (pj lw) 100 715 L S k n H Q ↔ W (pj lw) 100 685 L S k n H Q := W_goto (rfl : (pj lw).1 100 715 = some (.goto (-30), 3, 0)) rfl
theorem w100_718 {x : Int32} {l0 l1 l2 l3 l4 l5 l6 l7 l8 l9 l10 l11 l12 l13 : Slot} : W (pj lw) 100 718 (l0 :: l1 :: l2 :: l3 :: l4 :: l5 :: l6 :: l7 :: l8 :: l9 :: l10 :: l11 :: l12 :: l13 :: .val (.int x) :: L) S k n H Q ↔ W (pj lw) 100 721 (l0 :: l1 :: l2 :: l3 :: l4 :: l5 :: l6 :: l7 :: l8 :: l9 :: l10 :: l11 :: l12 :: l13 :: .val (.int (x + 4)) :: L) S k n H Q := W_s (rfl : (pj lw).1 100 718 = some (.iinc 14 4, 3, 0)) rfl rfl rfl
theorem w100_721 : W (pj lw) 100 721 L S k n H Q ↔ W (pj lw) 100 38 L S k n H Q := W_goto (rfl : (pj lw).1 100 721 = some (.goto (-683), 3, 0)) rfl
theorem w100_724 : W (pj lw) 100 724 L S k n H Q ↔ W (pj lw) 100 725 L (.int 1 :: S) k n H Q := W_s (rfl : (pj lw).1 100 724 = some (.iconst 1, 1, 0)) rfl rfl rfl
theorem w100_725 {x : Int32} : W (pj lw) 100 725 L (.int x :: S) k n H Q ↔ ((x = 0 ∨ x = 1) ∧ Q (some (.int x)) H) := W_rz (rfl : (pj lw).1 100 725 = some (.ireturn, 1, 0)) rfl
theorem c103 {x0 : Int64} {x1 : Int64} {x2 : Int32} : Cl (pj lw) 103 [.long x0, .long x1, .int x2] H Q ↔ W (pj lw) 103 0 [.val (.long x0), .second, .val (.long x1), .second, .val (.int x2)] [] 0 0 H Q := cl_unf rfl
theorem w103_0 {x : Int32} {l0 l1 l2 l3 : Slot} : W (pj lw) 103 0 (l0 :: l1 :: l2 :: l3 :: .val (.int x) :: L) S k n H Q ↔ W (pj lw) 103 2 (l0 :: l1 :: l2 :: l3 :: .val (.int x) :: L) (.int x :: S) k n H Q := W_s (rfl : (pj lw).1 103 0 = some (.iload 4, 2, 0)) rfl rfl rfl
theorem w103_2 : W (pj lw) 103 2 L S k n H Q ↔ W (pj lw) 103 4 L (.int 64 :: S) k n H Q := W_s (rfl : (pj lw).1 103 2 = some (.bipush 64, 2, 0)) rfl rfl rfl
theorem w103_4 {x y : Int32} : W (pj lw) 103 4 L (.int y :: .int x :: S) k n H Q ↔ (if x < y then W (pj lw) 103 7 L S k n H Q else W (pj lw) 103 26 L S k n H Q) := W_icmp_ge (rfl : (pj lw).1 103 4 = some (.if_icmp .ge 22, 3, 0)) rfl
theorem w103_7 {x : Int64} : W (pj lw) 103 7 (.val (.long x) :: L) S k n H Q ↔ W (pj lw) 103 8 (.val (.long x) :: L) (.long x :: S) k n H Q := W_s (rfl : (pj lw).1 103 7 = some (.lload_n 0, 1, 0)) rfl rfl rfl
theorem w103_8 {x : Int32} {l0 l1 l2 l3 : Slot} : W (pj lw) 103 8 (l0 :: l1 :: l2 :: l3 :: .val (.int x) :: L) S k n H Q ↔ W (pj lw) 103 10 (l0 :: l1 :: l2 :: l3 :: .val (.int x) :: L) (.int x :: S) k n H Q := W_s (rfl : (pj lw).1 103 8 = some (.iload 4, 2, 0)) rfl rfl rfl
theorem w103_10 {x : Int64} {y : Int32} : W (pj lw) 103 10 L (.int y :: .long x :: S) k n H Q ↔ W (pj lw) 103 11 L (.long (Jvm.Free.XT.ushrL x y) :: S) k n H Q := W_s (rfl : (pj lw).1 103 10 = some (.lushr, 1, 0)) rfl rfl rfl
theorem w103_11 : W (pj lw) 103 11 L S k n H Q ↔ W (pj lw) 103 12 L (.long 1 :: S) k n H Q := W_s (rfl : (pj lw).1 103 11 = some (.lconst 1, 1, 0)) rfl rfl rfl
theorem w103_12 {x y : Int64} : W (pj lw) 103 12 L (.long y :: .long x :: S) k n H Q ↔ W (pj lw) 103 13 L (.long (x &&& y) :: S) k n H Q := W_s (rfl : (pj lw).1 103 12 = some (.land, 1, 0)) rfl rfl rfl
theorem w103_13 : W (pj lw) 103 13 L S k n H Q ↔ W (pj lw) 103 14 L (.long 0 :: S) k n H Q := W_s (rfl : (pj lw).1 103 13 = some (.lconst 0, 1, 0)) rfl rfl rfl
theorem w103_14 {x y : Int64} : W (pj lw) 103 14 L (.long y :: .long x :: S) k n H Q ↔ W (pj lw) 103 15 L (.int (Jvm.Free.XT.cmpL x y) :: S) k n H Q := W_s (rfl : (pj lw).1 103 14 = some (.lcmp, 1, 0)) rfl rfl rfl
theorem w103_15 {x : Int32} : W (pj lw) 103 15 L (.int x :: S) k n H Q ↔ (if x = 0 then W (pj lw) 103 22 L S k n H Q else W (pj lw) 103 18 L S k n H Q) := W_if_eq (rfl : (pj lw).1 103 15 = some (.ifCond .eq 7, 3, 0)) rfl
theorem w103_18 : W (pj lw) 103 18 L S k n H Q ↔ W (pj lw) 103 19 L (.int 1 :: S) k n H Q := W_s (rfl : (pj lw).1 103 18 = some (.iconst 1, 1, 0)) rfl rfl rfl
theorem w103_19 : W (pj lw) 103 19 L S k n H Q ↔ W (pj lw) 103 45 L S k n H Q := W_goto (rfl : (pj lw).1 103 19 = some (.goto 26, 3, 0)) rfl
theorem w103_22 : W (pj lw) 103 22 L S k n H Q ↔ W (pj lw) 103 23 L (.int 0 :: S) k n H Q := W_s (rfl : (pj lw).1 103 22 = some (.iconst 0, 1, 0)) rfl rfl rfl
theorem w103_23 : W (pj lw) 103 23 L S k n H Q ↔ W (pj lw) 103 45 L S k n H Q := W_goto (rfl : (pj lw).1 103 23 = some (.goto 22, 3, 0)) rfl
theorem w103_26 {x : Int64} {l0 l1 : Slot} : W (pj lw) 103 26 (l0 :: l1 :: .val (.long x) :: L) S k n H Q ↔ W (pj lw) 103 27 (l0 :: l1 :: .val (.long x) :: L) (.long x :: S) k n H Q := W_s (rfl : (pj lw).1 103 26 = some (.lload_n 2, 1, 0)) rfl rfl rfl
theorem w103_27 {x : Int32} {l0 l1 l2 l3 : Slot} : W (pj lw) 103 27 (l0 :: l1 :: l2 :: l3 :: .val (.int x) :: L) S k n H Q ↔ W (pj lw) 103 29 (l0 :: l1 :: l2 :: l3 :: .val (.int x) :: L) (.int x :: S) k n H Q := W_s (rfl : (pj lw).1 103 27 = some (.iload 4, 2, 0)) rfl rfl rfl
theorem w103_29 : W (pj lw) 103 29 L S k n H Q ↔ W (pj lw) 103 31 L (.int 64 :: S) k n H Q := W_s (rfl : (pj lw).1 103 29 = some (.bipush 64, 2, 0)) rfl rfl rfl
theorem w103_31 {x y : Int32} : W (pj lw) 103 31 L (.int y :: .int x :: S) k n H Q ↔ W (pj lw) 103 32 L (.int (x - y) :: S) k n H Q := W_s (rfl : (pj lw).1 103 31 = some (.isub, 1, 0)) rfl rfl rfl
theorem w103_32 {x : Int64} {y : Int32} : W (pj lw) 103 32 L (.int y :: .long x :: S) k n H Q ↔ W (pj lw) 103 33 L (.long (Jvm.Free.XT.ushrL x y) :: S) k n H Q := W_s (rfl : (pj lw).1 103 32 = some (.lushr, 1, 0)) rfl rfl rfl
theorem w103_33 : W (pj lw) 103 33 L S k n H Q ↔ W (pj lw) 103 34 L (.long 1 :: S) k n H Q := W_s (rfl : (pj lw).1 103 33 = some (.lconst 1, 1, 0)) rfl rfl rfl
theorem w103_34 {x y : Int64} : W (pj lw) 103 34 L (.long y :: .long x :: S) k n H Q ↔ W (pj lw) 103 35 L (.long (x &&& y) :: S) k n H Q := W_s (rfl : (pj lw).1 103 34 = some (.land, 1, 0)) rfl rfl rfl
theorem w103_35 : W (pj lw) 103 35 L S k n H Q ↔ W (pj lw) 103 36 L (.long 0 :: S) k n H Q := W_s (rfl : (pj lw).1 103 35 = some (.lconst 0, 1, 0)) rfl rfl rfl
theorem w103_36 {x y : Int64} : W (pj lw) 103 36 L (.long y :: .long x :: S) k n H Q ↔ W (pj lw) 103 37 L (.int (Jvm.Free.XT.cmpL x y) :: S) k n H Q := W_s (rfl : (pj lw).1 103 36 = some (.lcmp, 1, 0)) rfl rfl rfl
theorem w103_37 {x : Int32} : W (pj lw) 103 37 L (.int x :: S) k n H Q ↔ (if x = 0 then W (pj lw) 103 44 L S k n H Q else W (pj lw) 103 40 L S k n H Q) := W_if_eq (rfl : (pj lw).1 103 37 = some (.ifCond .eq 7, 3, 0)) rfl
theorem w103_40 : W (pj lw) 103 40 L S k n H Q ↔ W (pj lw) 103 41 L (.int 1 :: S) k n H Q := W_s (rfl : (pj lw).1 103 40 = some (.iconst 1, 1, 0)) rfl rfl rfl
theorem w103_41 : W (pj lw) 103 41 L S k n H Q ↔ W (pj lw) 103 45 L S k n H Q := W_goto (rfl : (pj lw).1 103 41 = some (.goto 4, 3, 0)) rfl
theorem w103_44 : W (pj lw) 103 44 L S k n H Q ↔ W (pj lw) 103 45 L (.int 0 :: S) k n H Q := W_s (rfl : (pj lw).1 103 44 = some (.iconst 0, 1, 0)) rfl rfl rfl
theorem w103_45 {x : Int32} : W (pj lw) 103 45 L (.int x :: S) k n H Q ↔ ((x = 0 ∨ x = 1) ∧ Q (some (.int x)) H) := W_rz (rfl : (pj lw).1 103 45 = some (.ireturn, 1, 0)) rfl
theorem c104 {x0 : Int64} {x1 : Int64} {x2 : Int32} : Cl (pj lw) 104 [.long x0, .long x1, .int x2] H Q ↔ W (pj lw) 104 0 [.val (.long x0), .second, .val (.long x1), .second, .val (.int x2), .unset, .unset] [] 0 0 H Q := cl_unf rfl
theorem w104_0 {x : Int32} {l0 l1 l2 l3 : Slot} : W (pj lw) 104 0 (l0 :: l1 :: l2 :: l3 :: .val (.int x) :: L) S k n H Q ↔ W (pj lw) 104 2 (l0 :: l1 :: l2 :: l3 :: .val (.int x) :: L) (.int x :: S) k n H Q := W_s (rfl : (pj lw).1 104 0 = some (.iload 4, 2, 0)) rfl rfl rfl
theorem w104_2 : W (pj lw) 104 2 L S k n H Q ↔ W (pj lw) 104 4 L (.int 64 :: S) k n H Q := W_s (rfl : (pj lw).1 104 2 = some (.bipush 64, 2, 0)) rfl rfl rfl
theorem w104_4 {x y : Int32} : W (pj lw) 104 4 L (.int y :: .int x :: S) k n H Q ↔ (if x < y then W (pj lw) 104 7 L S k n H Q else W (pj lw) 104 31 L S k n H Q) := W_icmp_ge (rfl : (pj lw).1 104 4 = some (.if_icmp .ge 27, 3, 0)) rfl
theorem w104_7 : W (pj lw) 104 7 L S k n H Q ↔ W (pj lw) 104 8 L (.long 1 :: S) k n H Q := W_s (rfl : (pj lw).1 104 7 = some (.lconst 1, 1, 0)) rfl rfl rfl
theorem w104_8 {x : Int32} {l0 l1 l2 l3 : Slot} : W (pj lw) 104 8 (l0 :: l1 :: l2 :: l3 :: .val (.int x) :: L) S k n H Q ↔ W (pj lw) 104 10 (l0 :: l1 :: l2 :: l3 :: .val (.int x) :: L) (.int x :: S) k n H Q := W_s (rfl : (pj lw).1 104 8 = some (.iload 4, 2, 0)) rfl rfl rfl
theorem w104_10 {x : Int64} {y : Int32} : W (pj lw) 104 10 L (.int y :: .long x :: S) k n H Q ↔ W (pj lw) 104 11 L (.long (x <<< (y.toInt64 &&& 63)) :: S) k n H Q := W_s (rfl : (pj lw).1 104 10 = some (.lshl, 1, 0)) rfl rfl rfl
theorem w104_11 : W (pj lw) 104 11 L S k n H Q ↔ W (pj lw) 104 12 L (.long 1 :: S) k n H Q := W_s (rfl : (pj lw).1 104 11 = some (.lconst 1, 1, 0)) rfl rfl rfl
theorem w104_12 {x y : Int64} : W (pj lw) 104 12 L (.long y :: .long x :: S) k n H Q ↔ W (pj lw) 104 13 L (.long (x - y) :: S) k n H Q := W_s (rfl : (pj lw).1 104 12 = some (.lsub, 1, 0)) rfl rfl rfl
theorem w104_13uu {x : Int64} {l0 l1 l2 l3 l4 : Slot} : W (pj lw) 104 13 (l0 :: l1 :: l2 :: l3 :: l4 :: .unset :: .unset :: L) (.long x :: S) k n H Q ↔ W (pj lw) 104 15 (l0 :: l1 :: l2 :: l3 :: l4 :: .val (.long x) :: .second :: L) S k n H Q := W_lst (rfl : (pj lw).1 104 13 = some (.lstore 5, 2, 0)) rfl rfl rfl rfl
theorem w104_15 {x : Int64} : W (pj lw) 104 15 (.val (.long x) :: L) S k n H Q ↔ W (pj lw) 104 16 (.val (.long x) :: L) (.long x :: S) k n H Q := W_s (rfl : (pj lw).1 104 15 = some (.lload_n 0, 1, 0)) rfl rfl rfl
theorem w104_16 {x : Int64} {l0 l1 l2 l3 l4 : Slot} : W (pj lw) 104 16 (l0 :: l1 :: l2 :: l3 :: l4 :: .val (.long x) :: L) S k n H Q ↔ W (pj lw) 104 18 (l0 :: l1 :: l2 :: l3 :: l4 :: .val (.long x) :: L) (.long x :: S) k n H Q := W_s (rfl : (pj lw).1 104 16 = some (.lload 5, 2, 0)) rfl rfl rfl
theorem w104_18 {x y : Int64} : W (pj lw) 104 18 L (.long y :: .long x :: S) k n H Q ↔ W (pj lw) 104 19 L (.long (x &&& y) :: S) k n H Q := W_s (rfl : (pj lw).1 104 18 = some (.land, 1, 0)) rfl rfl rfl
theorem w104_19 {x : Int64} {l0 l1 l2 l3 l4 : Slot} : W (pj lw) 104 19 (l0 :: l1 :: l2 :: l3 :: l4 :: .val (.long x) :: L) S k n H Q ↔ W (pj lw) 104 21 (l0 :: l1 :: l2 :: l3 :: l4 :: .val (.long x) :: L) (.long x :: S) k n H Q := W_s (rfl : (pj lw).1 104 19 = some (.lload 5, 2, 0)) rfl rfl rfl
theorem w104_21 {x y : Int64} : W (pj lw) 104 21 L (.long y :: .long x :: S) k n H Q ↔ W (pj lw) 104 22 L (.int (Jvm.Free.XT.cmpL x y) :: S) k n H Q := W_s (rfl : (pj lw).1 104 21 = some (.lcmp, 1, 0)) rfl rfl rfl
theorem w104_22 {x : Int32} : W (pj lw) 104 22 L (.int x :: S) k n H Q ↔ (if x = 0 then W (pj lw) 104 25 L S k n H Q else W (pj lw) 104 29 L S k n H Q) := W_if_ne (rfl : (pj lw).1 104 22 = some (.ifCond .ne 7, 3, 0)) rfl
theorem w104_25 : W (pj lw) 104 25 L S k n H Q ↔ W (pj lw) 104 26 L (.int 1 :: S) k n H Q := W_s (rfl : (pj lw).1 104 25 = some (.iconst 1, 1, 0)) rfl rfl rfl
theorem w104_26 : W (pj lw) 104 26 L S k n H Q ↔ W (pj lw) 104 30 L S k n H Q := W_goto (rfl : (pj lw).1 104 26 = some (.goto 4, 3, 0)) rfl
theorem w104_30 {x : Int32} : W (pj lw) 104 30 L (.int x :: S) k n H Q ↔ ((x = 0 ∨ x = 1) ∧ Q (some (.int x)) H) := W_rz (rfl : (pj lw).1 104 30 = some (.ireturn, 1, 0)) rfl
theorem w104_31 {x : Int64} : W (pj lw) 104 31 (.val (.long x) :: L) S k n H Q ↔ W (pj lw) 104 32 (.val (.long x) :: L) (.long x :: S) k n H Q := W_s (rfl : (pj lw).1 104 31 = some (.lload_n 0, 1, 0)) rfl rfl rfl
theorem w104_32 : W (pj lw) 104 32 L S k n H Q ↔ W (pj lw) 104 35 L (.long (-1) :: S) k n H Q := W_s (rfl : (pj lw).1 104 32 = some (.ldc2_w 62, 3, (-1))) rfl rfl rfl
theorem w104_35 {x y : Int64} : W (pj lw) 104 35 L (.long y :: .long x :: S) k n H Q ↔ W (pj lw) 104 36 L (.int (Jvm.Free.XT.cmpL x y) :: S) k n H Q := W_s (rfl : (pj lw).1 104 35 = some (.lcmp, 1, 0)) rfl rfl rfl
theorem w104_36 {x : Int32} : W (pj lw) 104 36 L (.int x :: S) k n H Q ↔ (if x = 0 then W (pj lw) 104 41 L S k n H Q else W (pj lw) 104 39 L S k n H Q) := W_if_eq (rfl : (pj lw).1 104 36 = some (.ifCond .eq 5, 3, 0)) rfl
theorem w104_41 : W (pj lw) 104 41 L S k n H Q ↔ W (pj lw) 104 42 L (.long 1 :: S) k n H Q := W_s (rfl : (pj lw).1 104 41 = some (.lconst 1, 1, 0)) rfl rfl rfl
theorem w104_42 {x : Int32} {l0 l1 l2 l3 : Slot} : W (pj lw) 104 42 (l0 :: l1 :: l2 :: l3 :: .val (.int x) :: L) S k n H Q ↔ W (pj lw) 104 44 (l0 :: l1 :: l2 :: l3 :: .val (.int x) :: L) (.int x :: S) k n H Q := W_s (rfl : (pj lw).1 104 42 = some (.iload 4, 2, 0)) rfl rfl rfl
theorem w104_44 : W (pj lw) 104 44 L S k n H Q ↔ W (pj lw) 104 46 L (.int 64 :: S) k n H Q := W_s (rfl : (pj lw).1 104 44 = some (.bipush 64, 2, 0)) rfl rfl rfl
theorem w104_46 {x y : Int32} : W (pj lw) 104 46 L (.int y :: .int x :: S) k n H Q ↔ W (pj lw) 104 47 L (.int (x - y) :: S) k n H Q := W_s (rfl : (pj lw).1 104 46 = some (.isub, 1, 0)) rfl rfl rfl
theorem w104_47 {x : Int64} {y : Int32} : W (pj lw) 104 47 L (.int y :: .long x :: S) k n H Q ↔ W (pj lw) 104 48 L (.long (x <<< (y.toInt64 &&& 63)) :: S) k n H Q := W_s (rfl : (pj lw).1 104 47 = some (.lshl, 1, 0)) rfl rfl rfl
theorem w104_48 : W (pj lw) 104 48 L S k n H Q ↔ W (pj lw) 104 49 L (.long 1 :: S) k n H Q := W_s (rfl : (pj lw).1 104 48 = some (.lconst 1, 1, 0)) rfl rfl rfl
theorem w104_49 {x y : Int64} : W (pj lw) 104 49 L (.long y :: .long x :: S) k n H Q ↔ W (pj lw) 104 50 L (.long (x - y) :: S) k n H Q := W_s (rfl : (pj lw).1 104 49 = some (.lsub, 1, 0)) rfl rfl rfl
theorem w104_50uu {x : Int64} {l0 l1 l2 l3 l4 : Slot} : W (pj lw) 104 50 (l0 :: l1 :: l2 :: l3 :: l4 :: .unset :: .unset :: L) (.long x :: S) k n H Q ↔ W (pj lw) 104 52 (l0 :: l1 :: l2 :: l3 :: l4 :: .val (.long x) :: .second :: L) S k n H Q := W_lst (rfl : (pj lw).1 104 50 = some (.lstore 5, 2, 0)) rfl rfl rfl rfl
theorem w104_52 {x : Int64} {l0 l1 : Slot} : W (pj lw) 104 52 (l0 :: l1 :: .val (.long x) :: L) S k n H Q ↔ W (pj lw) 104 53 (l0 :: l1 :: .val (.long x) :: L) (.long x :: S) k n H Q := W_s (rfl : (pj lw).1 104 52 = some (.lload_n 2, 1, 0)) rfl rfl rfl
theorem w104_53 {x : Int64} {l0 l1 l2 l3 l4 : Slot} : W (pj lw) 104 53 (l0 :: l1 :: l2 :: l3 :: l4 :: .val (.long x) :: L) S k n H Q ↔ W (pj lw) 104 55 (l0 :: l1 :: l2 :: l3 :: l4 :: .val (.long x) :: L) (.long x :: S) k n H Q := W_s (rfl : (pj lw).1 104 53 = some (.lload 5, 2, 0)) rfl rfl rfl
theorem w104_55 {x y : Int64} : W (pj lw) 104 55 L (.long y :: .long x :: S) k n H Q ↔ W (pj lw) 104 56 L (.long (x &&& y) :: S) k n H Q := W_s (rfl : (pj lw).1 104 55 = some (.land, 1, 0)) rfl rfl rfl
theorem w104_56 {x : Int64} {l0 l1 l2 l3 l4 : Slot} : W (pj lw) 104 56 (l0 :: l1 :: l2 :: l3 :: l4 :: .val (.long x) :: L) S k n H Q ↔ W (pj lw) 104 58 (l0 :: l1 :: l2 :: l3 :: l4 :: .val (.long x) :: L) (.long x :: S) k n H Q := W_s (rfl : (pj lw).1 104 56 = some (.lload 5, 2, 0)) rfl rfl rfl
theorem w104_58 {x y : Int64} : W (pj lw) 104 58 L (.long y :: .long x :: S) k n H Q ↔ W (pj lw) 104 59 L (.int (Jvm.Free.XT.cmpL x y) :: S) k n H Q := W_s (rfl : (pj lw).1 104 58 = some (.lcmp, 1, 0)) rfl rfl rfl
theorem w104_59 {x : Int32} : W (pj lw) 104 59 L (.int x :: S) k n H Q ↔ (if x = 0 then W (pj lw) 104 62 L S k n H Q else W (pj lw) 104 66 L S k n H Q) := W_if_ne (rfl : (pj lw).1 104 59 = some (.ifCond .ne 7, 3, 0)) rfl
theorem w104_62 : W (pj lw) 104 62 L S k n H Q ↔ W (pj lw) 104 63 L (.int 1 :: S) k n H Q := W_s (rfl : (pj lw).1 104 62 = some (.iconst 1, 1, 0)) rfl rfl rfl
theorem w104_63 : W (pj lw) 104 63 L S k n H Q ↔ W (pj lw) 104 67 L S k n H Q := W_goto (rfl : (pj lw).1 104 63 = some (.goto 4, 3, 0)) rfl
theorem w104_67 {x : Int32} : W (pj lw) 104 67 L (.int x :: S) k n H Q ↔ ((x = 0 ∨ x = 1) ∧ Q (some (.int x)) H) := W_rz (rfl : (pj lw).1 104 67 = some (.ireturn, 1, 0)) rfl
theorem c105 {x0 : Int32} {x1 : Int32} : Cl (pj lw) 105 [.int x0, .int x1] H Q ↔ W (pj lw) 105 0 [.val (.int x0), .val (.int x1)] [] 0 0 H Q := cl_unf rfl
theorem w105_0 {x : Int32} : W (pj lw) 105 0 (.val (.int x) :: L) S k n H Q ↔ W (pj lw) 105 1 (.val (.int x) :: L) (.int x :: S) k n H Q := W_s (rfl : (pj lw).1 105 0 = some (.iload_n 0, 1, 0)) rfl rfl rfl
theorem w105_1 : W (pj lw) 105 1 L S k n H Q ↔ W (pj lw) 105 2 L (.int (-1) :: S) k n H Q := W_s (rfl : (pj lw).1 105 1 = some (.iconst (-1), 1, 0)) rfl rfl rfl
theorem w105_2 {x y : Int32} : W (pj lw) 105 2 L (.int y :: .int x :: S) k n H Q ↔ (if x = y then W (pj lw) 105 9 L S k n H Q else W (pj lw) 105 5 L S k n H Q) := W_icmp_eq (rfl : (pj lw).1 105 2 = some (.if_icmp .eq 7, 3, 0)) rfl
theorem w105_5 : W (pj lw) 105 5 L S k n H Q ↔ W (pj lw) 105 6 L (.int 1 :: S) k n H Q := W_s (rfl : (pj lw).1 105 5 = some (.iconst 1, 1, 0)) rfl rfl rfl
theorem w105_6 : W (pj lw) 105 6 L S k n H Q ↔ W (pj lw) 105 10 L S k n H Q := W_goto (rfl : (pj lw).1 105 6 = some (.goto 4, 3, 0)) rfl
theorem w105_9 : W (pj lw) 105 9 L S k n H Q ↔ W (pj lw) 105 10 L (.int 0 :: S) k n H Q := W_s (rfl : (pj lw).1 105 9 = some (.iconst 0, 1, 0)) rfl rfl rfl
theorem w105_10 {x : Int32} {l0 : Slot} : W (pj lw) 105 10 (l0 :: .val (.int x) :: L) S k n H Q ↔ W (pj lw) 105 11 (l0 :: .val (.int x) :: L) (.int x :: S) k n H Q := W_s (rfl : (pj lw).1 105 10 = some (.iload_n 1, 1, 0)) rfl rfl rfl
theorem w105_11 : W (pj lw) 105 11 L S k n H Q ↔ W (pj lw) 105 12 L (.int (-1) :: S) k n H Q := W_s (rfl : (pj lw).1 105 11 = some (.iconst (-1), 1, 0)) rfl rfl rfl
theorem w105_12 {x y : Int32} : W (pj lw) 105 12 L (.int y :: .int x :: S) k n H Q ↔ (if x = y then W (pj lw) 105 19 L S k n H Q else W (pj lw) 105 15 L S k n H Q) := W_icmp_eq (rfl : (pj lw).1 105 12 = some (.if_icmp .eq 7, 3, 0)) rfl
theorem w105_15 : W (pj lw) 105 15 L S k n H Q ↔ W (pj lw) 105 16 L (.int 1 :: S) k n H Q := W_s (rfl : (pj lw).1 105 15 = some (.iconst 1, 1, 0)) rfl rfl rfl
theorem w105_16 : W (pj lw) 105 16 L S k n H Q ↔ W (pj lw) 105 20 L S k n H Q := W_goto (rfl : (pj lw).1 105 16 = some (.goto 4, 3, 0)) rfl
theorem w105_19 : W (pj lw) 105 19 L S k n H Q ↔ W (pj lw) 105 20 L (.int 0 :: S) k n H Q := W_s (rfl : (pj lw).1 105 19 = some (.iconst 0, 1, 0)) rfl rfl rfl
theorem w105_20 {x y : Int32} : W (pj lw) 105 20 L (.int y :: .int x :: S) k n H Q ↔ W (pj lw) 105 21 L (.int (x - y) :: S) k n H Q := W_s (rfl : (pj lw).1 105 20 = some (.isub, 1, 0)) rfl rfl rfl
theorem w105_21 {x : Int32} : W (pj lw) 105 21 L (.int x :: S) k n H Q ↔ Q (some (.int x)) H := W_r (rfl : (pj lw).1 105 21 = some (.ireturn, 1, 0)) rfl
theorem c106 {x0 : Nat} {x1 : Int32} : Cl (pj lw) 106 [.ref x0, .int x1] H Q ↔ W (pj lw) 106 0 [.val (.ref x0), .val (.int x1)] [] 0 0 H Q := cl_unf rfl
theorem w106_0 {x : Int32} {l0 : Slot} : W (pj lw) 106 0 (l0 :: .val (.int x) :: L) S k n H Q ↔ W (pj lw) 106 1 (l0 :: .val (.int x) :: L) (.int x :: S) k n H Q := W_s (rfl : (pj lw).1 106 0 = some (.iload_n 1, 1, 0)) rfl rfl rfl
theorem w106_1 : W (pj lw) 106 1 L S k n H Q ↔ W (pj lw) 106 2 L (.int (-1) :: S) k n H Q := W_s (rfl : (pj lw).1 106 1 = some (.iconst (-1), 1, 0)) rfl rfl rfl
theorem w106_2 {x y : Int32} : W (pj lw) 106 2 L (.int y :: .int x :: S) k n H Q ↔ (if x = y then W (pj lw) 106 5 L S k n H Q else W (pj lw) 106 9 L S k n H Q) := W_icmp_ne (rfl : (pj lw).1 106 2 = some (.if_icmp .ne 7, 3, 0)) rfl
theorem w106_5 : W (pj lw) 106 5 L S k n H Q ↔ W (pj lw) 106 6 L (.long 0 :: S) k n H Q := W_s (rfl : (pj lw).1 106 5 = some (.lconst 0, 1, 0)) rfl rfl rfl
theorem w106_6 : W (pj lw) 106 6 L S k n H Q ↔ W (pj lw) 106 15 L S k n H Q := W_goto (rfl : (pj lw).1 106 6 = some (.goto 9, 3, 0)) rfl
theorem w106_9 {x : Nat} : W (pj lw) 106 9 (.val (.ref x) :: L) S k n H Q ↔ W (pj lw) 106 10 (.val (.ref x) :: L) (.ref x :: S) k n H Q := W_s (rfl : (pj lw).1 106 9 = some (.aload_n 0, 1, 0)) rfl rfl rfl
theorem w106_10 {x : Int32} {l0 : Slot} : W (pj lw) 106 10 (l0 :: .val (.int x) :: L) S k n H Q ↔ W (pj lw) 106 11 (l0 :: .val (.int x) :: L) (.int x :: S) k n H Q := W_s (rfl : (pj lw).1 106 10 = some (.iload_n 1, 1, 0)) rfl rfl rfl
theorem w106_11 {a : Nat} {x0 : Int32} : W (pj lw) 106 11 L (.int x0 :: .ref a :: S) k n H Q ↔ ((isO H a = true ∧ cs S + (2 + 11) + 26 ≤ 39) ∧ Cl (pj lw) 8 [.ref a, .int x0] H (fun v H => W (pj lw) 106 14 L (v.toList ++ S) k n H Q)) := W_inst (as := [.int x0]) (rfl : (pj lw).1 106 11 = some (.invokevirtual 36, 3, 8)) rfl rfl rfl (Nat.le_of_ble_eq_true rfl) (Nat.le_of_ble_eq_true rfl) ⟨rfl, rfl⟩
theorem w106_14 {x : Int32} : W (pj lw) 106 14 L (.int x :: S) k n H Q ↔ W (pj lw) 106 15 L (.long x.toInt64 :: S) k n H Q := W_s (rfl : (pj lw).1 106 14 = some (.i2l, 1, 0)) rfl rfl rfl
theorem w106_15 {x : Int64} : W (pj lw) 106 15 L (.long x :: S) k n H Q ↔ Q (some (.long x)) H := W_r (rfl : (pj lw).1 106 15 = some (.lreturn, 1, 0)) rfl
theorem c107 {x0 : Nat} {x1 : Int32} {x2 : Int32} {x3 : Int32} : Cl (pj lw) 107 [.ref x0, .int x1, .int x2, .int x3] H Q ↔ W (pj lw) 107 0 [.val (.ref x0), .val (.int x1), .val (.int x2), .val (.int x3)] [] 0 0 H Q := cl_unf rfl
theorem w107_0 {x : Int32} {l0 : Slot} : W (pj lw) 107 0 (l0 :: .val (.int x) :: L) S k n H Q ↔ W (pj lw) 107 1 (l0 :: .val (.int x) :: L) (.int x :: S) k n H Q := W_s (rfl : (pj lw).1 107 0 = some (.iload_n 1, 1, 0)) rfl rfl rfl
theorem w107_1 : W (pj lw) 107 1 L S k n H Q ↔ W (pj lw) 107 2 L (.int (-1) :: S) k n H Q := W_s (rfl : (pj lw).1 107 1 = some (.iconst (-1), 1, 0)) rfl rfl rfl
theorem w107_2 {x y : Int32} : W (pj lw) 107 2 L (.int y :: .int x :: S) k n H Q ↔ (if x = y then W (pj lw) 107 5 L S k n H Q else W (pj lw) 107 7 L S k n H Q) := W_icmp_ne (rfl : (pj lw).1 107 2 = some (.if_icmp .ne 5, 3, 0)) rfl
theorem w107_5 : W (pj lw) 107 5 L S k n H Q ↔ W (pj lw) 107 6 L (.long 0 :: S) k n H Q := W_s (rfl : (pj lw).1 107 5 = some (.lconst 0, 1, 0)) rfl rfl rfl
theorem w107_6 {x : Int64} : W (pj lw) 107 6 L (.long x :: S) k n H Q ↔ Q (some (.long x)) H := W_r (rfl : (pj lw).1 107 6 = some (.lreturn, 1, 0)) rfl
theorem w107_7 {x : Int32} {l0 : Slot} : W (pj lw) 107 7 (l0 :: .val (.int x) :: L) S k n H Q ↔ W (pj lw) 107 8 (l0 :: .val (.int x) :: L) (.int x :: S) k n H Q := W_s (rfl : (pj lw).1 107 7 = some (.iload_n 1, 1, 0)) rfl rfl rfl
theorem w107_8 {x : Int32} {l0 l1 : Slot} : W (pj lw) 107 8 (l0 :: l1 :: .val (.int x) :: L) S k n H Q ↔ W (pj lw) 107 9 (l0 :: l1 :: .val (.int x) :: L) (.int x :: S) k n H Q := W_s (rfl : (pj lw).1 107 8 = some (.iload_n 2, 1, 0)) rfl rfl rfl
theorem w107_9 {x y : Int32} : W (pj lw) 107 9 L (.int y :: .int x :: S) k n H Q ↔ (if x = y then W (pj lw) 107 12 L S k n H Q else W (pj lw) 107 17 L S k n H Q) := W_icmp_ne (rfl : (pj lw).1 107 9 = some (.if_icmp .ne 8, 3, 0)) rfl
theorem w107_12 {x : Int32} {l0 l1 l2 : Slot} : W (pj lw) 107 12 (l0 :: l1 :: l2 :: .val (.int x) :: L) S k n H Q ↔ W (pj lw) 107 13 (l0 :: l1 :: l2 :: .val (.int x) :: L) (.int x :: S) k n H Q := W_s (rfl : (pj lw).1 107 12 = some (.iload_n 3, 1, 0)) rfl rfl rfl
theorem w107_13 {x : Int32} : W (pj lw) 107 13 L (.int x :: S) k n H Q ↔ W (pj lw) 107 14 L (.long x.toInt64 :: S) k n H Q := W_s (rfl : (pj lw).1 107 13 = some (.i2l, 1, 0)) rfl rfl rfl
theorem w107_14 : W (pj lw) 107 14 L S k n H Q ↔ W (pj lw) 107 23 L S k n H Q := W_goto (rfl : (pj lw).1 107 14 = some (.goto 9, 3, 0)) rfl
theorem w107_17 {x : Nat} : W (pj lw) 107 17 (.val (.ref x) :: L) S k n H Q ↔ W (pj lw) 107 18 (.val (.ref x) :: L) (.ref x :: S) k n H Q := W_s (rfl : (pj lw).1 107 17 = some (.aload_n 0, 1, 0)) rfl rfl rfl
theorem w107_18 {x : Int32} {l0 : Slot} : W (pj lw) 107 18 (l0 :: .val (.int x) :: L) S k n H Q ↔ W (pj lw) 107 19 (l0 :: .val (.int x) :: L) (.int x :: S) k n H Q := W_s (rfl : (pj lw).1 107 18 = some (.iload_n 1, 1, 0)) rfl rfl rfl
theorem w107_19 {a : Nat} {x0 : Int32} : W (pj lw) 107 19 L (.int x0 :: .ref a :: S) k n H Q ↔ ((isO H a = true ∧ cs S + (2 + 11) + 26 ≤ 39) ∧ Cl (pj lw) 8 [.ref a, .int x0] H (fun v H => W (pj lw) 107 22 L (v.toList ++ S) k n H Q)) := W_inst (as := [.int x0]) (rfl : (pj lw).1 107 19 = some (.invokevirtual 36, 3, 8)) rfl rfl rfl (Nat.le_of_ble_eq_true rfl) (Nat.le_of_ble_eq_true rfl) ⟨rfl, rfl⟩
theorem w107_22 {x : Int32} : W (pj lw) 107 22 L (.int x :: S) k n H Q ↔ W (pj lw) 107 23 L (.long x.toInt64 :: S) k n H Q := W_s (rfl : (pj lw).1 107 22 = some (.i2l, 1, 0)) rfl rfl rfl
theorem w107_23 {x : Int64} : W (pj lw) 107 23 L (.long x :: S) k n H Q ↔ Q (some (.long x)) H := W_r (rfl : (pj lw).1 107 23 = some (.lreturn, 1, 0)) rfl
end LPc
section X8
variable {H : AH} {p : Nat} {s s' : St} {Q : Option Value → AH → Prop} {k n : Nat} {lo hi l1 l2 : Int64} {i x y e z o : Int32} {a : Nat}
def B (lo hi : Int64) (j : Nat) : Bool := if j < 64 then lo.toBitVec.getLsbD j else hi.toBitVec.getLsbD (j - 64)
theorem s103 (h : 0 ≤ x.toInt ∧ x.toInt < 128) : Cl (pj lw) 103 [.long lo, .long hi, .int x] H Q ↔ Q (some (.int (bz (B lo hi x.toNatClampNeg)))) H := by
  rw [c103]; unfold B
  by_cases e1 : x < 64
  · have e1' := e1; rw [lt32] at e1'; simp only [Int32.reduceToInt] at e1'
    have g := and1 (P := lo) (k := x) (by omega)
    rw [if_pos (by rw [cln]; omega)]
    by_cases e2 : Jvm.Free.XT.ushrL lo x &&& 1 = 0
    · have g2 := g.1 e2
      rw [cln, g2]
      simp +decide only [w103_0, w103_2, w103_4, w103_7, w103_8, w103_10, w103_11, w103_12, w103_13, w103_14, w103_15, w103_22, w103_23, w103_45, true_and, ↓reduceIte, e1, e2, bz]
    · have g2 : lo.toBitVec.getLsbD x.toInt.toNat = true := by
        cases q : lo.toBitVec.getLsbD x.toInt.toNat with
        | true => rfl
        | false => exact absurd (g.2 q) e2
      rw [cln, g2]
      simp +decide only [w103_0, w103_2, w103_4, w103_7, w103_8, w103_10, w103_11, w103_12, w103_13, w103_14, w103_15, w103_18, w103_19, w103_45, cmpL_eq, true_and, ↓reduceIte, e1, e2, bz]
  · have e1' := e1; rw [lt32] at e1'; simp only [Int32.reduceToInt] at e1'
    have h6 : (x - 64).toInt = x.toInt - 64 := isb (by simp only [Int32.reduceToInt]; omega) (by simp only [Int32.reduceToInt]; omega)
    have g := and1 (P := hi) (k := x - 64) (by omega)
    rw [if_neg (by rw [cln]; omega), cln, show x.toInt.toNat - 64 = (x - 64).toInt.toNat by omega]
    by_cases e2 : Jvm.Free.XT.ushrL hi (x - 64) &&& 1 = 0
    · have g2 := g.1 e2
      rw [g2]
      simp +decide only [w103_0, w103_2, w103_4, w103_26, w103_27, w103_29, w103_31, w103_32, w103_33, w103_34, w103_35, w103_36, w103_37, w103_44, w103_45, true_and, ↓reduceIte, e1, e2, bz]
    · have g2 : hi.toBitVec.getLsbD (x - 64).toInt.toNat = true := by
        cases q : hi.toBitVec.getLsbD (x - 64).toInt.toNat with
        | true => rfl
        | false => exact absurd (g.2 q) e2
      rw [g2]
      simp +decide only [w103_0, w103_2, w103_4, w103_26, w103_27, w103_29, w103_31, w103_32, w103_33, w103_34, w103_35, w103_36, w103_37, w103_40, w103_41, w103_45, cmpL_eq, true_and, ↓reduceIte, e1, e2, bz]
theorem msk {P : Int64} (h : 0 ≤ x.toInt ∧ x.toInt < 64) (hb : ∀ j, j < x.toInt.toNat → P.toBitVec.getLsbD j = true) : P &&& ((1 : Int64) <<< (x.toInt64 &&& 63) - 1) = (1 : Int64) <<< (x.toInt64 &&& 63) - 1 := by
  have e : ((1 : Int64) <<< (x.toInt64 &&& 63) - 1).toBitVec = BitVec.ofNat 64 (2 ^ x.toInt.toNat - 1) := by
    rw [Int64.toBitVec_sub, bitk x h]
    apply BitVec.eq_of_toNat_eq
    have h1 : (1#64 <<< x.toInt.toNat).toNat = 2 ^ x.toInt.toNat := by
      rw [BitVec.toNat_shiftLeft, Nat.shiftLeft_eq]
      rw [show (1#64).toNat = 1 from rfl, Nat.one_mul]
      exact Nat.mod_eq_of_lt (Nat.pow_lt_pow_right (by decide) (by omega))
    have h2 : 2 ^ x.toInt.toNat < 2 ^ 64 := Nat.pow_lt_pow_right (by decide) (by omega)
    have h3 : 0 < 2 ^ x.toInt.toNat := Nat.pow_pos (by decide)
    rw [BitVec.toNat_sub, h1, BitVec.toNat_ofNat, show (Int64.toBitVec 1).toNat = 1 from rfl]
    generalize 2 ^ x.toInt.toNat = m at *
    rw [Nat.mod_eq_of_lt (a := m - 1) (by omega)]
    omega
  rw [← Int64.toBitVec_inj, Int64.toBitVec_and, e]
  apply BitVec.eq_of_getLsbD_eq
  intro j hj
  rw [BitVec.getLsbD_and, BitVec.getLsbD_ofNat, Nat.testBit_two_pow_sub_one]
  by_cases q : j < x.toInt.toNat
  · rw [hb j q]; simp
  · rw [decide_eq_false q]; simp
theorem s104 (h : 0 ≤ x.toInt ∧ x.toInt < 128) (hb : ∀ j, j < x.toInt.toNat → B lo hi j = true) : Cl (pj lw) 104 [.long lo, .long hi, .int x] H Q ↔ Q (some (.int 1)) H := by
  rw [c104]
  by_cases e1 : x < 64
  · have e1' := e1; rw [lt32] at e1'; simp only [Int32.reduceToInt] at e1'
    have g := msk (P := lo) (x := x) (by omega) (fun j hj => by have := hb j hj; unfold B at this; rwa [if_pos (by omega)] at this)
    simp +decide only [w104_0, w104_2, w104_4, w104_7, w104_8, w104_10, w104_11, w104_12, w104_13uu, w104_15, w104_16, w104_18, w104_19, w104_21, w104_22, w104_25, w104_26, w104_30, cmpL_eq, true_and, ↓reduceIte, e1, g]
  · have e1' := e1; rw [lt32] at e1'; simp only [Int32.reduceToInt] at e1'
    have h6 : (x - 64).toInt = x.toInt - 64 := isb (by simp only [Int32.reduceToInt]; omega) (by simp only [Int32.reduceToInt]; omega)
    have g := msk (P := hi) (x := x - 64) (by omega) (fun j hj => by
      have := hb (j + 64) (by omega); unfold B at this; rwa [if_neg (by omega), Nat.add_sub_cancel] at this)
    have g0 : lo = -1 := by
      rw [← Int64.toBitVec_inj]
      apply BitVec.eq_of_getLsbD_eq
      intro j hj
      have := hb j (by omega); unfold B at this; rw [if_pos hj] at this
      rw [this]
      have : (Int64.toBitVec (-1)) = BitVec.allOnes 64 := by decide
      rw [this, BitVec.getLsbD_allOnes]; simp [hj]
    simp +decide only [w104_0, w104_2, w104_4, w104_31, w104_32, w104_35, w104_36, w104_41, w104_42, w104_44, w104_46, w104_47, w104_48, w104_49, w104_50uu, w104_52, w104_53, w104_55, w104_56, w104_58, w104_59, w104_62, w104_63, w104_67, cmpL_eq, true_and, ↓reduceIte, e1, g, g0]
theorem s105 : Cl (pj lw) 105 [.int x, .int y] H Q ↔ Q (some (.int (stp2 x y))) H := by
  rw [c105]; unfold stp2
  by_cases e1 : x = -1 <;> by_cases e2 : y = -1 <;> simp +decide only [w105_0, w105_1, w105_2, w105_5, w105_6, w105_9, w105_10, w105_11, w105_12, w105_15, w105_16, w105_19, w105_20, w105_21, ↓reduceIte, Nat.reduceSub, Int32.reduceSub, Int64.reduceSub, e1, e2]
theorem s106 : Cl (pj lw) 106 [.ref p, .int x] (ob H p s) Q ↔ Q (some (.long (wI s x))) (ob H p s) := by
  rw [c106]; unfold wI
  by_cases e1 : x = -1 <;> simp +decide only [w106_0, w106_1, w106_2, w106_5, w106_6, w106_9, w106_10, w106_11, w106_14, w106_15, isO_put, Option.toList_some, List.cons_append, List.nil_append, true_and, and_true, ↓reduceIte, t8, e1]
theorem s107 : Cl (pj lw) 107 [.ref p, .int x, .int y, .int z] (ob H p s) Q ↔ Q (some (.long (wO s x y z))) (ob H p s) := by
  rw [c107]; unfold wO
  by_cases e1 : x = -1
  · simp +decide only [w107_0, w107_1, w107_2, w107_5, w107_6, ↓reduceIte, e1]
  · by_cases e2 : x = y
    · subst e2; simp +decide only [w107_0, w107_1, w107_2, w107_7, w107_8, w107_9, w107_12, w107_13, w107_14, w107_23, ↓reduceIte, e1]
    · simp +decide only [w107_0, w107_1, w107_2, w107_7, w107_8, w107_9, w107_17, w107_18, w107_19, w107_22, w107_23, isO_put, Option.toList_some, List.cons_append, List.nil_append, true_and, and_true, ↓reduceIte, t8, e1, e2]
def LI (T : Nat) (s : St) (lo hi : Int64) : Prop := Iv s ∧ WG s ∧ sI s 0 = 6 ∧ (∀ j, j < 128 → B lo hi j = decide (sA s 4 j ≠ 0)) ∧ (∀ j, T ≤ j → sA s 4 j = 0) ∧ (-(T : Int) ≤ (sI s 12).toInt ∧ (sI s 12).toInt ≤ T)
theorem low {g : Nat → Prop} [DecidablePred g] {T : Nat} (h : g T) : ∃ f, f ≤ T ∧ g f ∧ ∀ j, j < f → ¬ g j := by
  induction T using Nat.strongRecOn with
  | ind T ih =>
    by_cases q : ∃ j, j < T ∧ g j
    · obtain ⟨j, q1, q2⟩ := q
      obtain ⟨f, a, b, c⟩ := ih j q1 q2
      exact ⟨f, by omega, b, c⟩
    · exact ⟨T, Nat.le_refl _, h, fun j hj w => q ⟨j, hj, w⟩⟩
theorem LI.bt {T : Nat} (h : LI T s lo hi) (hx : 0 ≤ x.toInt ∧ x.toInt < 128) : B lo hi x.toNatClampNeg = pr s x := by
  rw [h.2.2.2.1 _ (by rw [cln]; omega)]; unfold pr; rw [vi_t hx, Bool.true_and]

theorem B_or1 {j : Nat} (h : 0 ≤ x.toInt ∧ x.toInt < 64) : B (lo ||| (1 : Int64) <<< (x.toInt64 &&& 63)) hi j = (B lo hi j || decide (j = x.toInt.toNat)) := by
  unfold B
  by_cases q : j < 64
  · rw [if_pos q, if_pos q, bit_or x h]
  · rw [if_neg q, if_neg q, decide_eq_false (by omega), Bool.or_false]
theorem B_or2 {j : Nat} (h : 64 ≤ x.toInt ∧ x.toInt < 128) : B lo (hi ||| (1 : Int64) <<< ((x - 64).toInt64 &&& 63)) j = (B lo hi j || decide (j = x.toInt.toNat)) := by
  have h6 : (x - 64).toInt = x.toInt - 64 := isb (by simp only [Int32.reduceToInt]; omega) (by simp only [Int32.reduceToInt]; omega)
  unfold B
  by_cases q : j < 64
  · rw [if_pos q, if_pos q, decide_eq_false (by omega), Bool.or_false]
  · rw [if_neg q, if_neg q, bit_or (x - 64) (by omega)]
    congr 1
    exact decide_eq_decide.mpr (by omega)
theorem B_an {j : Nat} (h : 0 ≤ x.toInt ∧ x.toInt < 64) : B (lo &&& ((1 : Int64) <<< (x.toInt64 &&& 63) ^^^ (-1))) hi j = (B lo hi j && !decide (j = x.toInt.toNat)) := by
  unfold B
  by_cases q : j < 64
  · rw [if_pos q, if_pos q, Int64.toBitVec_and, Int64.toBitVec_xor, bitk x h, BitVec.getLsbD_and, BitVec.getLsbD_xor, shl1 (by omega)]
    have : (Int64.toBitVec (-1)) = BitVec.allOnes 64 := by decide
    rw [this, BitVec.getLsbD_allOnes, decide_eq_true q, Bool.xor_true]
  · rw [if_neg q, if_neg q, decide_eq_false (by omega), Bool.not_false, Bool.and_true]
theorem lk {T : Nat} (hL : LI T s lo hi) (next : W (pj lw) 100 38 [.val (.ref a), .val (.int 6), .val (.int (-1)), .val (.ref p), .val (.long lo), .second, .val (.long hi), .second, .val (.long (sJ s 14)), .second, .val (.int (sI s 12)), .val (.int (sI s 13)), .val (.int (sI s 15)), .val (.int (sI s 16)), .val (.int i), .unset, .unset, .unset, .unset, .unset, .unset, .unset, .unset, .unset, .unset, .unset] [] k n (ob H p s) Q) (m : Nat) : ∀ (j : Int32), j.toInt = 16 - m → m ≤ 16 →
    ∀ i0 : Int32, i0 + 4 = i → W (pj lw) 100 685 [.val (.ref a), .val (.int 6), .val (.int (-1)), .val (.ref p), .val (.long lo), .second, .val (.long hi), .second, .val (.long (sJ s 14)), .second, .val (.int (sI s 12)), .val (.int (sI s 13)), .val (.int (sI s 15)), .val (.int (sI s 16)), .val (.int i0), .unset, .unset, .unset, .unset, .unset, .val (.int j), .unset, .unset, .unset, .unset, .unset] [] k n (ob H p s) Q := by
  induction m with
  | zero =>
    intro j hj _ i0 hi0
    have h1 : ¬ j < 16 := by rw [lt32]; simp only [Int32.reduceToInt]; omega
    rw [w100_685]; simp +decide only [w100_687, w100_689, w100_718, w100_721, ↓reduceIte, h1, hi0]
    refine W_fa 15 rfl ?_
    exact next
  | succ m ih =>
    intro j hj hm i0 hi0
    have h1 : j < 16 := by rw [lt32]; simp only [Int32.reduceToInt]; omega
    have h2 : 0 ≤ j.toInt ∧ j.toInt < 128 := by omega
    have h3 : (j + 1).toInt = j.toInt + 1 := ia (by simp only [Int32.reduceToInt]; omega) (by simp only [Int32.reduceToInt]; omega)
    have q := fun (Q : Option Value → AH → Prop) H => s103 (lo := lo) (hi := hi) (Q := Q) (H := H) h2
    have e := hL.bt h2
    rw [w100_685]; simp +decide only [w100_687, w100_689, w100_692, w100_693, w100_695, w100_698, w100_700, w100_702, w100_704, w100_707, w100_712, w100_715, isO_put, cs_nil, cs_int, Option.toList_some, List.cons_append, List.nil_append, true_and, and_true, ↓reduceIte, Nat.reduceAdd, Nat.reduceLeDiff, Int32.reduceAdd, Int64.reduceAdd, Nat.add_zero, h1, t5, q, e]
    exact ih (j + 1) (by omega) (by omega) i0 hi0
theorem key {T : Nat} (hL : LI T s lo hi) (next : W (pj lw) 100 38 [.val (.ref a), .val (.int 6), .val (.int (-1)), .val (.ref p), .val (.long lo), .second, .val (.long hi), .second, .val (.long (sJ s 14)), .second, .val (.int (sI s 12)), .val (.int (sI s 13)), .val (.int (sI s 15)), .val (.int (sI s 16)), .val (.int i), .unset, .unset, .unset, .unset, .unset, .unset, .unset, .unset, .unset, .unset, .unset] [] k n (ob H p s) Q) (i0 : Int32) (hi0 : i0 + 4 = i) :
    W (pj lw) 100 621 [.val (.ref a), .val (.int 6), .val (.int (-1)), .val (.ref p), .val (.long lo), .second, .val (.long hi), .second, .val (.long (sJ s 14)), .second, .val (.int (sI s 12)), .val (.int (sI s 13)), .val (.int (sI s 15)), .val (.int (sI s 16)), .val (.int i0), .unset, .unset, .unset, .unset, .unset, .unset, .unset, .unset, .unset, .unset, .unset] [] k n (ob H p s) Q := by
  have h0 := hL.2.2.1
  rw [w100_621]; simp +decide only [w100_622, w100_625, w100_627, w100_630, w100_631, w100_634, w100_636, w100_639, w100_640, w100_643, w100_644, w100_646, w100_647, w100_652, w100_653, w100_656, w100_658, w100_659, w100_662, w100_663, w100_666, w100_668, w100_671, w100_672, w100_675, w100_677, w100_682, w100_683, isO_put, cmpL_eq, Option.toList_some, List.cons_append, List.nil_append, true_and, and_true, ↓reduceIte, g0, g12, g13, g14, g15, g16, c9, w9_0, w9_1, w9_4, c10, w10_0, w10_1, w10_4, c11, w11_0, w11_1, w11_4, c12, w12_0, w12_1, w12_4, w12_5, w12_8, w12_9, c16, w16_0, w16_1, w16_4, c17, w17_0, w17_1, w17_4, h0]
  exact lk hL next 16 0 (by decide) (by decide) i0 hi0

theorem LI.mono {T : Nat} (h : LI T s lo hi) : LI (T + 1) s lo hi := ⟨h.1, h.2.1, h.2.2.1, h.2.2.2.1, fun j hj => h.2.2.2.2.1 j (by omega), by have := h.2.2.2.2.2; omega⟩
theorem LI_ad {T f : Nat} {u v w : Int32} (h : LI T s lo hi) (hf : f ≤ T) (hT : T < 100) (hw : -1000000 ≤ w.toInt ∧ w.toInt ≤ 1000000) (hB : ∀ j, B l1 l2 j = (B lo hi j || decide (j = f)))
    (I1 : Iv (adS s f u v w)) (I0 : sI (adS s f u v w) 0 = sI s 0) (a4 : ∀ i, sA (adS s f u v w) 4 i = if i = f then 1 else sA s 4 i) (a3 : ∀ i, sA (adS s f u v w) 3 i = if i = f then w else sA s 3 i) (i12 : sI (adS s f u v w) 12 = sI s 12 + 1) : LI (T + 1) (adS s f u v w) l1 l2 := by
  obtain ⟨h1, h2, h3, h4, h5, h6⟩ := h
  refine ⟨I1, fun i hi => ?_, by rw [I0, h3], fun j hj => ?_, fun j hj => ?_, ?_⟩
  · rw [a3]; split
    · exact hw
    · exact h2 i hi
  · rw [hB, a4, h4 j hj]
    by_cases q : j = f
    · simp +decide [q]
    · simp [q]
  · rw [a4, if_neg (by omega)]; exact h5 j (by omega)
  · rw [i12, ia (by simp only [Int32.reduceToInt]; omega) (by simp only [Int32.reduceToInt]; omega)]; simp only [Int32.reduceToInt]; omega
set_option maxRecDepth 100000 in
set_option maxHeartbeats 1000000 in
theorem opA {T : Nat} {op u v sl w : Int32} (hL : LI T s lo hi) (hT : T ≤ 65) (o1 : ¬ 1 < op) (ru : 0 ≤ u.toInt ∧ u.toInt ≤ 7) (rv : 0 ≤ v.toInt ∧ v.toInt ≤ 7) (hw : -5 ≤ w.toInt ∧ w.toInt ≤ 10)
    (K : ∀ s' lo' hi', LI (T + 1) s' lo' hi' → W (pj lw) 100 621 [.val (.ref a), .val (.int 6), .val (.int (-1)), .val (.ref p), .val (.long lo'), .second, .val (.long hi'), .second, .val (.long (sJ s' 14)), .second, .val (.int (sI s' 12)), .val (.int (sI s' 13)), .val (.int (sI s' 15)), .val (.int (sI s' 16)), .val (.int i), .unset, .unset, .unset, .unset, .unset, .unset, .unset, .unset, .unset, .unset, .unset] [] k n (ob H p s') Q) :
    W (pj lw) 100 101 [.val (.ref a), .val (.int 6), .val (.int (-1)), .val (.ref p), .val (.long lo), .second, .val (.long hi), .second, .val (.long (sJ s 14)), .second, .val (.int (sI s 12)), .val (.int (sI s 13)), .val (.int (sI s 15)), .val (.int (sI s 16)), .val (.int i), .val (.int op), .val (.int u), .val (.int v), .val (.int sl), .val (.int w), .unset, .unset, .unset, .unset, .unset, .unset] [] k n (ob H p s) Q := by
  have hI := hL.1
  have n6 : (sI s 0).toInt = 6 := by rw [hL.2.2.1]; rfl
  have hc : cl (-1000000) 1000000 w = w := by
    unfold cl; rw [if_neg (by rw [lt32]; simp only [Int32.reduceToInt]; omega), if_neg (by rw [lt32]; simp only [Int32.reduceToInt]; omega)]
  have vu : vv s u = decide (u < 6) := by
    unfold vv; rw [hL.2.2.1]; refine decide_eq_decide.mpr ?_
    rw [lt32, lt32, lt32]; simp only [Int32.reduceToInt]; omega
  have vv' : vv s v = decide (v < 6) := by
    unfold vv; rw [hL.2.2.1]; refine decide_eq_decide.mpr ?_
    rw [lt32, lt32, lt32]; simp only [Int32.reduceToInt]; omega
  simp +decide only [w100_101, w100_103, w100_104, w100_107, w100_108, w100_110, w100_112, w100_114, isO_put, true_and, and_true, ↓reduceIte, o1]
  by_cases e1 : u < 6
  rotate_left
  · refine t2n (Or.inl (by rw [vu]; exact decide_eq_false e1)) ?_
    simp +decide only [w100_117, w100_119, w100_121, w100_122, w100_131, w100_133, w100_135, w100_376, Option.toList_some, List.cons_append, List.nil_append, ↓reduceIte, e1]
    refine W_fa 15 rfl ?_
    exact K s lo hi hL.mono
  by_cases e2 : v < 6
  rotate_left
  · refine t2n (Or.inr (by rw [vv']; exact decide_eq_false e2)) ?_
    simp +decide only [w100_117, w100_119, w100_121, w100_122, w100_125, w100_127, w100_128, w100_131, w100_133, w100_135, w100_376, Option.toList_some, List.cons_append, List.nil_append, ↓reduceIte, e1, e2]
    refine W_fa 15 rfl ?_
    exact K s lo hi hL.mono
  rw [decide_eq_true e1] at vu
  rw [decide_eq_true e2] at vv'
  by_cases e3 : u = v
  · subst e3
    refine t2l vu ?_
    simp +decide only [w100_117, w100_119, w100_121, w100_122, w100_125, w100_127, w100_128, w100_140, w100_142, w100_144, w100_147, w100_149, w100_151, w100_376, Option.toList_some, List.cons_append, List.nil_append, ↓reduceIte, e1]
    refine W_fa 15 rfl ?_
    exact K s lo hi hL.mono
  obtain ⟨f, hf, f1, f2⟩ := low (g := fun j => sA s 4 j = 0) (T := T) (hL.2.2.2.2.1 T (Nat.le_refl _))
  have f7 : f < 128 := by omega
  refine t2 f7 f1 f2 vu vv' e3 hI.1 hI.2.1 hI.2.2.1 ?_
  obtain ⟨I1, I0, a4, a3, i12, e_u, e_v, ewf, prf, le, tre, mv⟩ := ad_ok (w := w) hI f7 f1 (vv_rg vu).1 (vv_rg vv').1 e3
  rw [hc] at a3 ewf
  have hF : (Int32.ofNat f).toInt = f := Int32.toInt_ofNat_of_lt (by omega)
  have hfc : (Int32.ofNat f).toNatClampNeg = f := by rw [cln, hF]; omega
  have c1 : ¬ sI s 12 = 128 := by rw [eq32]; have := hL.2.2.2.2.2; simp only [Int32.reduceToInt]; omega
  have c2 : ¬ Int32.ofNat f < 0 := by rw [lt32, hF]; simp only [Int32.reduceToInt]; omega
  have c3 : Int32.ofNat f < 128 := by rw [lt32, hF]; simp only [Int32.reduceToInt]; omega
  have hr : 0 ≤ (Int32.ofNat f).toInt ∧ (Int32.ofNat f).toInt < 128 := by omega
  have q103 := fun (Q : Option Value → AH → Prop) H => s103 (lo := lo) (hi := hi) (Q := Q) (H := H) hr
  have q104 := fun (Q : Option Value → AH → Prop) H => s104 (lo := lo) (hi := hi) (Q := Q) (H := H) hr (fun j hj => by
    rw [hL.2.2.2.1 j (by omega)]; exact decide_eq_true (f2 j (by omega)))
  have eb : B lo hi (Int32.ofNat f).toNatClampNeg = false := by
    rw [hL.2.2.2.1 _ (by omega), hfc]; exact decide_eq_false (fun w => w f1)
  have M1 := mv.1
  have M2 := mv.2
  have K1 := fun l1 l2 hB => K (adS s f u v w) l1 l2 (LI_ad (l1 := l1) (l2 := l2) hL hf (by omega) (by omega) hB I1 I0 a4 a3 i12)
  have i12' := i12.symm
  simp +decide only [w100_117, w100_119, w100_121, w100_122, w100_125, w100_127, w100_128, w100_140, w100_142, w100_144, w100_156, w100_158, w100_161, w100_173, w100_175, w100_178, w100_180, w100_183, w100_188, w100_190, w100_192, w100_194, w100_197, w100_200, w100_202, w100_204, w100_206, w100_209, Option.toList_some, List.cons_append, List.nil_append, true_and, ↓reduceIte, e1, e2, e3, c1, c2, c3, q103, q104, eb, bz]
  have tail : ∀ l1 l2, (∀ j, B l1 l2 j = (B lo hi j || decide (j = f))) → W (pj lw) 100 245 [.val (.ref a), .val (.int 6), .val (.int (-1)), .val (.ref p), .val (.long l1), .second, .val (.long l2), .second, .val (.long (sJ s 14)), .second, .val (.int (sI s 12)), .val (.int (sI s 13)), .val (.int (sI s 15)), .val (.int (sI s 16)), .val (.int i), .val (.int op), .val (.int u), .val (.int v), .val (.int sl), .val (.int w), .val (.int (Int32.ofNat f)), .unset, .unset, .unset, .unset, .unset] [] k n (ob H p (adS s f u v w)) Q := fun l1 l2 hB => by
    rcases le with le | le
    · have x1 := eq_true le
      rw [decide_eq_true le] at tre
      simp +decide only [w100_245, w100_248, w100_249, w100_252, w100_254, w100_255, w100_258, w100_260, w100_262, w100_264, w100_275, w100_276, w100_278, w100_281, w100_283, w100_285, w100_288, w100_289, w100_293, w100_298, w100_299, w100_301, w100_304, w100_306, w100_309, w100_310, w100_312, w100_313, w100_316, w100_318, w100_321, w100_322, w100_324, w100_325, w100_328, w100_330, w100_335, w100_337, w100_338, w100_340, w100_343, w100_344, w100_346, w100_348, w100_349, w100_352, w100_353, w100_354j, w100_356, w100_358, w100_360, w100_362, w100_365, w100_366i, w100_368, w100_370i, w100_372, w100_374i, w100_376, isO_put, cs_nil, cs_int, cs_long, Option.toList_some, List.cons_append, List.nil_append, true_and, and_true, ↓reduceIte, Nat.reduceAdd, Nat.reduceLeDiff, Int32.reduceAdd, Int64.reduceAdd, Nat.add_zero, g15, g16, c16, w16_0, w16_1, w16_4, c17, w17_0, w17_1, w17_4, x1, t6, tre, bz, t8, ewf, t7a, t7b, prf, hfc, e_u, e_v, s105, s106, s107, M1, M2, i12']
      refine W_fa 15 rfl ?_
      exact K1 l1 l2 hB
    · have nf : ¬ sI (adS s f u v w) 15 = Int32.ofNat f := fun q => c2 (by rw [← q, le]; decide)
      have x1 := eq_true le
      rw [decide_eq_false nf] at tre
      simp +decide only [w100_245, w100_248, w100_249, w100_252, w100_254, w100_255, w100_258, w100_260, w100_262, w100_264, w100_267, w100_269, w100_270, w100_275, w100_276, w100_278, w100_281, w100_283, w100_285, w100_292, w100_293, w100_298, w100_299, w100_301, w100_304, w100_306, w100_309, w100_310, w100_312, w100_313, w100_316, w100_318, w100_321, w100_322, w100_324, w100_325, w100_328, w100_330, w100_335, w100_337, w100_338, w100_340, w100_343, w100_344, w100_346, w100_348, w100_349, w100_352, w100_353, w100_354j, w100_356, w100_358, w100_360, w100_362, w100_365, w100_366i, w100_368, w100_370i, w100_372, w100_374i, w100_376, isO_put, cs_nil, cs_int, cs_long, Option.toList_some, List.cons_append, List.nil_append, true_and, and_true, ↓reduceIte, Nat.reduceAdd, Nat.reduceLeDiff, Int32.reduceAdd, Int64.reduceAdd, Nat.add_zero, g15, g16, c16, w16_0, w16_1, w16_4, c17, w17_0, w17_1, w17_4, x1, nf, t6, tre, bz, t8, ewf, t7a, t7b, prf, hfc, e_u, e_v, s105, s106, s107, M1, M2, i12']
      refine W_fa 15 rfl ?_
      exact K1 l1 l2 hB
  by_cases e6 : Int32.ofNat f < 64
  · have e6' := e6; rw [lt32] at e6'; simp only [Int32.reduceToInt] at e6'
    have T0 := tail (lo ||| (1 : Int64) <<< ((Int32.ofNat f).toInt64 &&& 63)) hi (fun j => by rw [B_or1 (by omega), hF]; rfl)
    simp +decide only [w100_214, w100_216, w100_218, w100_221, w100_223, w100_224, w100_226, w100_227, w100_228j, w100_230, ↓reduceIte, e6]
    exact T0
  · have e6' := e6; rw [lt32] at e6'; simp only [Int32.reduceToInt] at e6'
    have T0 := tail lo (hi ||| (1 : Int64) <<< ((Int32.ofNat f - 64).toInt64 &&& 63)) (fun j => by rw [B_or2 (by omega), hF]; rfl)
    simp +decide only [w100_214, w100_216, w100_218, w100_233, w100_235, w100_236, w100_238, w100_240, w100_241, w100_242, w100_243j, ↓reduceIte, e6]
    exact T0
theorem LI_rm {T : Nat} (h : LI T s lo hi) (hT : T < 100) (hr : 0 ≤ e.toInt ∧ e.toInt < 64)
    (I1 : Iv (rmS s e)) (I0 : sI (rmS s e) 0 = sI s 0) (a4 : ∀ i, sA (rmS s e) 4 i = if i = e.toNatClampNeg then 0 else sA s 4 i) (a3 : sA (rmS s e) 3 = sA s 3) (i12 : sI (rmS s e) 12 = sI s 12 - 1) : LI (T + 1) (rmS s e) (lo &&& ((1 : Int64) <<< (e.toInt64 &&& 63) ^^^ (-1))) hi := by
  obtain ⟨h1, h2, h3, h4, h5, h6⟩ := h
  refine ⟨I1, fun i hi => by rw [a3]; exact h2 i hi, by rw [I0, h3], fun j hj => ?_, fun j hj => ?_, ?_⟩
  · rw [B_an hr, a4, h4 j hj, ← cln]
    by_cases q : j = e.toNatClampNeg
    · simp +decide [q]
    · simp [q]
  · rw [a4]; split
    · rfl
    · exact h5 j (by omega)
  · rw [i12, isb (by simp only [Int32.reduceToInt]; omega) (by simp only [Int32.reduceToInt]; omega)]; simp only [Int32.reduceToInt]; omega
theorem LI_sw {T : Nat} {w : Int32} (h : LI T s lo hi) (hw : -1000000 ≤ w.toInt ∧ w.toInt ≤ 1000000)
    (I1 : Iv (swS s e w)) (I0 : sI (swS s e w) 0 = sI s 0) (a4 : sA (swS s e w) 4 = sA s 4) (a3 : ∀ i, sA (swS s e w) 3 i = if i = e.toNatClampNeg then w else sA s 3 i) (i12 : sI (swS s e w) 12 = sI s 12) : LI (T + 1) (swS s e w) lo hi := by
  obtain ⟨h1, h2, h3, h4, h5, h6⟩ := h
  refine ⟨I1, fun i hi => ?_, by rw [I0, h3], fun j hj => by rw [a4]; exact h4 j hj, fun j hj => by rw [a4]; exact h5 j (by omega), by rw [i12]; omega⟩
  rw [a3]; split
  · exact hw
  · exact h2 i hi
set_option maxRecDepth 100000 in
set_option maxHeartbeats 1000000 in
theorem opB {T : Nat} {op u v sl w : Int32} (hL : LI T s lo hi) (hT : T ≤ 65) (o1 : 1 < op) (rs : 0 ≤ sl.toInt ∧ sl.toInt ≤ 15) (hw : -5 ≤ w.toInt ∧ w.toInt ≤ 10)
    (K : ∀ s' lo' hi', LI (T + 1) s' lo' hi' → W (pj lw) 100 621 [.val (.ref a), .val (.int 6), .val (.int (-1)), .val (.ref p), .val (.long lo'), .second, .val (.long hi'), .second, .val (.long (sJ s' 14)), .second, .val (.int (sI s' 12)), .val (.int (sI s' 13)), .val (.int (sI s' 15)), .val (.int (sI s' 16)), .val (.int i), .unset, .unset, .unset, .unset, .unset, .unset, .unset, .unset, .unset, .unset, .unset] [] k n (ob H p s') Q) :
    W (pj lw) 100 101 [.val (.ref a), .val (.int 6), .val (.int (-1)), .val (.ref p), .val (.long lo), .second, .val (.long hi), .second, .val (.long (sJ s 14)), .second, .val (.int (sI s 12)), .val (.int (sI s 13)), .val (.int (sI s 15)), .val (.int (sI s 16)), .val (.int i), .val (.int op), .val (.int u), .val (.int v), .val (.int sl), .val (.int w), .unset, .unset, .unset, .unset, .unset, .unset] [] k n (ob H p s) Q := by
  have hI := hL.1
  have hr : 0 ≤ sl.toInt ∧ sl.toInt < 128 := by omega
  have q103 := fun (Q : Option Value → AH → Prop) H => s103 (lo := lo) (hi := hi) (Q := Q) (H := H) hr
  have eb := hL.bt hr
  have q3 := fun (Q : Option Value → AH → Prop) => @t3 lw H p s Q sl hI.1 hI.2.1 hI.2.2.1
  have q4 := fun (Q : Option Value → AH → Prop) => @t4 lw H p s Q sl w hI.1 hI.2.1 hI.2.2.1
  simp +decide only [w100_101, w100_103, w100_104, w100_379, w100_381, w100_383, w100_385, w100_388, w100_390, w100_391, w100_393, w100_396, w100_398, w100_399, w100_401, w100_404, isO_put, Option.toList_some, List.cons_append, List.nil_append, true_and, and_true, ↓reduceIte, o1, q103, eb, t8, t6]
  by_cases o2 : op = 2
  · have o2' := eq_true o2
    simp +decide only [w100_406, w100_408, w100_409, w100_412, w100_413, w100_415, isO_put, true_and, and_true, ↓reduceIte, o2']
    refine q3 _ ?_
    cases ep : pr s sl with
    | false =>
      have es : rmS s sl = s := by unfold rmS; rw [ep, if_neg (by decide)]
      rw [es]
      simp +decide only [w100_418, w100_429, w100_431, w100_433, w100_435, w100_440, w100_442, Option.toList_some, List.cons_append, List.nil_append, ↓reduceIte, bz]
      refine W_fa 15 rfl ?_
      exact K s lo hi hL.mono
    | true =>
      obtain ⟨I1, I0, a4, a3, i12, r1, r2, mv⟩ := rm_ok hI ep
      have i12' := i12.symm
      have M1 := mv.1
      have M2 := mv.2
      have K1 := K (rmS s sl) _ hi (LI_rm hL (by omega) (by omega) I1 I0 a4 a3 i12)
      cases et : tr s sl with
      | false =>
        obtain ⟨x1, x2⟩ := r2 et
        have x1' := eq_true x1
        have x2' := eq_true x2
        simp +decide only [w100_418, w100_429, w100_431, w100_433, w100_435, w100_440, w100_442, w100_445, w100_446, w100_449, w100_451, w100_452, w100_455, w100_457, w100_459, w100_460, w100_463, w100_465, w100_466, w100_468, w100_469, w100_472, w100_473, w100_474j, w100_476, w100_479, w100_481, w100_494, w100_496, w100_497, w100_500, w100_502, w100_503, w100_579, w100_581, w100_582, w100_584, w100_587, w100_588, w100_590, w100_592, w100_594, w100_597, w100_598, w100_599j, w100_601, w100_603, w100_605, w100_607, w100_610, w100_611i, w100_613, w100_615i, w100_617, w100_619i, isO_put, cs_nil, cs_int, cs_long, Option.toList_some, List.cons_append, List.nil_append, true_and, and_true, ↓reduceIte, Nat.reduceAdd, Nat.reduceLeDiff, Int32.reduceAdd, Int64.reduceAdd, Nat.add_zero, g15, g16, c16, w16_0, w16_1, w16_4, c17, w17_0, w17_1, w17_4, bz, o2', x1', x2', s105, s106, s107, M1, M2]
        rw [show sI s 12 + -1 = sI (rmS s sl) 12 from by rw [i12, Int32.sub_eq_add_neg]]
        refine W_fa 15 rfl ?_
        exact K1
      | true =>
        have x2' := eq_true (r1 et)
        simp +decide only [w100_418, w100_429, w100_431, w100_433, w100_435, w100_440, w100_442, w100_445, w100_446, w100_449, w100_451, w100_452, w100_455, w100_457, w100_459, w100_460, w100_463, w100_465, w100_466, w100_468, w100_469, w100_472, w100_473, w100_474j, w100_476, w100_479, w100_481, w100_484, w100_486, w100_488, w100_579, w100_581, w100_582, w100_584, w100_587, w100_588, w100_590, w100_592, w100_594, w100_597, w100_598, w100_599j, w100_601, w100_603, w100_605, w100_607, w100_610, w100_611i, w100_613, w100_615i, w100_617, w100_619i, isO_put, cs_nil, cs_int, cs_long, Option.toList_some, List.cons_append, List.nil_append, true_and, and_true, ↓reduceIte, Nat.reduceAdd, Nat.reduceLeDiff, Int32.reduceAdd, Int64.reduceAdd, Nat.add_zero, g15, g16, c16, w16_0, w16_1, w16_4, c17, w17_0, w17_1, w17_4, bz, o2', x2', s105, s106, s107, M1, M2]
        rw [show sI s 12 + -1 = sI (rmS s sl) 12 from by rw [i12, Int32.sub_eq_add_neg]]
        refine W_fa 15 rfl ?_
        exact K1
  · simp +decide only [w100_406, w100_408, w100_409, w100_421, w100_422, w100_424, w100_426, isO_put, true_and, and_true, ↓reduceIte, o2]
    refine q4 _ ?_
    cases ep : pr s sl with
    | false =>
      have es : swS s sl w = s := by unfold swS; rw [ep, if_neg (by decide)]
      rw [es]
      simp +decide only [w100_429, w100_431, w100_433, w100_435, w100_440, w100_442, Option.toList_some, List.cons_append, List.nil_append, ↓reduceIte, bz]
      refine W_fa 15 rfl ?_
      exact K s lo hi hL.mono
    | true =>
      obtain ⟨I1, I0, a4, a3, i12, e_w, e_t, M1, M2⟩ := sw_ok (w := w) hI hL.2.1 ep (by omega)
      have i12' := i12.symm
      have K1 := K (swS s sl w) lo hi (LI_sw hL (by omega) I1 I0 a4 a3 i12)
      cases et : tr s sl with
      | false =>
        rw [et] at e_t M2
        rw [if_neg (by simp)] at M2
        by_cases x1 : sI (swS s sl w) 15 = sl
        · have x1' := eq_true x1
          rw [decide_eq_true (Or.inr x1)] at e_t
          simp +decide only [w100_429, w100_431, w100_433, w100_435, w100_440, w100_442, w100_445, w100_446, w100_449, w100_451, w100_452, w100_455, w100_457, w100_459, w100_460, w100_508, w100_509, w100_511, w100_514, w100_516, w100_521, w100_522, w100_524, w100_527, w100_529, w100_539, w100_541, w100_543, w100_546, w100_547, w100_551, w100_556, w100_558, w100_579, w100_581, w100_582, w100_584, w100_587, w100_588, w100_590, w100_592, w100_594, w100_597, w100_598, w100_599j, w100_601, w100_603, w100_605, w100_607, w100_610, w100_611i, w100_613, w100_615i, w100_617, w100_619i, isO_put, cs_nil, cs_int, cs_long, Option.toList_some, List.cons_append, List.nil_append, true_and, and_true, ↓reduceIte, Nat.reduceAdd, Nat.reduceLeDiff, Int32.reduceAdd, Int64.reduceAdd, Nat.add_zero, g15, g16, c16, w16_0, w16_1, w16_4, c17, w17_0, w17_1, w17_4, bz, o2, x1', t8, t6, e_w, e_t, s105, s106, s107, M1, M2]
          rw [← i12]
          refine W_fa 15 rfl ?_
          exact K1
        · rw [decide_eq_false (by simp [x1])] at e_t
          simp +decide only [w100_429, w100_431, w100_433, w100_435, w100_440, w100_442, w100_445, w100_446, w100_449, w100_451, w100_452, w100_455, w100_457, w100_459, w100_460, w100_508, w100_509, w100_511, w100_514, w100_516, w100_521, w100_522, w100_524, w100_527, w100_529, w100_539, w100_541, w100_543, w100_550, w100_551, w100_556, w100_558, w100_579, w100_581, w100_582, w100_584, w100_587, w100_588, w100_590, w100_592, w100_594, w100_597, w100_598, w100_599j, w100_601, w100_603, w100_605, w100_607, w100_610, w100_611i, w100_613, w100_615i, w100_617, w100_619i, isO_put, cs_nil, cs_int, cs_long, Option.toList_some, List.cons_append, List.nil_append, true_and, and_true, ↓reduceIte, Nat.reduceAdd, Nat.reduceLeDiff, Int32.reduceAdd, Int64.reduceAdd, Nat.add_zero, g15, g16, c16, w16_0, w16_1, w16_4, c17, w17_0, w17_1, w17_4, bz, o2, x1, t8, t6, e_w, e_t, s105, s106, s107, M1, M2]
          rw [← i12]
          refine W_fa 15 rfl ?_
          exact K1
      | true =>
        rw [et] at e_t M2
        by_cases x2 : sI (swS s sl w) 16 = sl
        · have x2' := eq_true x2
          rw [if_neg (fun q => q.2 x2)] at M2
          by_cases x1 : sI (swS s sl w) 15 = sl
          · have x1' := eq_true x1
            rw [decide_eq_true (Or.inr x1)] at e_t
            simp +decide only [w100_429, w100_431, w100_433, w100_435, w100_440, w100_442, w100_445, w100_446, w100_449, w100_451, w100_452, w100_455, w100_457, w100_459, w100_460, w100_508, w100_509, w100_511, w100_514, w100_516, w100_521, w100_522, w100_524, w100_527, w100_529, w100_532, w100_534, w100_536, w100_539, w100_541, w100_543, w100_546, w100_547, w100_551, w100_556, w100_558, w100_561, w100_563, w100_565, w100_579, w100_581, w100_582, w100_584, w100_587, w100_588, w100_590, w100_592, w100_594, w100_597, w100_598, w100_599j, w100_601, w100_603, w100_605, w100_607, w100_610, w100_611i, w100_613, w100_615i, w100_617, w100_619i, isO_put, cs_nil, cs_int, cs_long, Option.toList_some, List.cons_append, List.nil_append, true_and, and_true, ↓reduceIte, Nat.reduceAdd, Nat.reduceLeDiff, Int32.reduceAdd, Int64.reduceAdd, Nat.add_zero, g15, g16, c16, w16_0, w16_1, w16_4, c17, w17_0, w17_1, w17_4, bz, o2, x1', x2', t8, t6, e_w, e_t, s105, s106, s107, M1, M2]
            rw [← i12]
            refine W_fa 15 rfl ?_
            exact K1
          · rw [decide_eq_false (by simp [x1, x2])] at e_t
            simp +decide only [w100_429, w100_431, w100_433, w100_435, w100_440, w100_442, w100_445, w100_446, w100_449, w100_451, w100_452, w100_455, w100_457, w100_459, w100_460, w100_508, w100_509, w100_511, w100_514, w100_516, w100_521, w100_522, w100_524, w100_527, w100_529, w100_532, w100_534, w100_536, w100_539, w100_541, w100_543, w100_550, w100_551, w100_556, w100_558, w100_561, w100_563, w100_565, w100_579, w100_581, w100_582, w100_584, w100_587, w100_588, w100_590, w100_592, w100_594, w100_597, w100_598, w100_599j, w100_601, w100_603, w100_605, w100_607, w100_610, w100_611i, w100_613, w100_615i, w100_617, w100_619i, isO_put, cs_nil, cs_int, cs_long, Option.toList_some, List.cons_append, List.nil_append, true_and, and_true, ↓reduceIte, Nat.reduceAdd, Nat.reduceLeDiff, Int32.reduceAdd, Int64.reduceAdd, Nat.add_zero, g15, g16, c16, w16_0, w16_1, w16_4, c17, w17_0, w17_1, w17_4, bz, o2, x1, x2', t8, t6, e_w, e_t, s105, s106, s107, M1, M2]
            rw [← i12]
            refine W_fa 15 rfl ?_
            exact K1
        · rw [if_pos ⟨rfl, x2⟩] at M2
          rw [decide_eq_true (Or.inl ⟨rfl, x2⟩)] at e_t
          simp +decide only [w100_429, w100_431, w100_433, w100_435, w100_440, w100_442, w100_445, w100_446, w100_449, w100_451, w100_452, w100_455, w100_457, w100_459, w100_460, w100_508, w100_509, w100_511, w100_514, w100_516, w100_521, w100_522, w100_524, w100_527, w100_529, w100_532, w100_534, w100_536, w100_546, w100_547, w100_551, w100_556, w100_558, w100_561, w100_563, w100_565, w100_568, w100_570, w100_572, w100_574, w100_575, w100_576, w100_577j, w100_579, w100_581, w100_582, w100_584, w100_587, w100_588, w100_590, w100_592, w100_594, w100_597, w100_598, w100_599j, w100_601, w100_603, w100_605, w100_607, w100_610, w100_611i, w100_613, w100_615i, w100_617, w100_619i, isO_put, cs_nil, cs_int, cs_long, Option.toList_some, List.cons_append, List.nil_append, true_and, and_true, ↓reduceIte, Nat.reduceAdd, Nat.reduceLeDiff, Int32.reduceAdd, Int64.reduceAdd, Nat.add_zero, g15, g16, c16, w16_0, w16_1, w16_4, c17, w17_0, w17_1, w17_4, bz, o2, x2, t8, t6, e_w, e_t, s105, s106, s107, M1, M2]
          rw [← i12]
          refine W_fa 15 rfl ?_
          exact K1
set_option maxRecDepth 100000 in
set_option maxHeartbeats 1000000 in
theorem lp {len : Nat} {f : Nat → Int32} {c : Nat} (y1 : ∀ s, (isA (ob H p s) a = true) = True) (y2 : ∀ s, alen (ob H p s) a = len) (y3 : ∀ s i, (inA (ob H p s) a .int i = true) = (0 ≤ i.toInt ∧ i.toInt < len)) (y4 : ∀ s i, elt (ob H p s) a i = .int (f i.toNatClampNeg)) (hl : len ≤ 260) (m : Nat) :
    ∀ (T : Nat) (i : Int32) (s : St) (lo hi : Int64), LI T s lo hi → i.toInt = 4 * (T : Int) → len < i.toInt + 4 + m → 4 * T ≤ 260 →
    W (pj lw) 100 38 [.val (.ref a), .val (.int 6), .val (.int (-1)), .val (.ref p), .val (.long lo), .second, .val (.long hi), .second, .val (.long (sJ s 14)), .second, .val (.int (sI s 12)), .val (.int (sI s 13)), .val (.int (sI s 15)), .val (.int (sI s 16)), .val (.int i), .unset, .unset, .unset, .unset, .unset, .unset, .unset, .unset, .unset, .unset, .unset] [] k n (ob H p s) (fun v _ => v = some (.int 1)) := by
  have hlen : (len.toInt32).toInt = len := len32 (by omega)
  induction m with
  | zero =>
    intro T i s lo hi hL hi hm hT
    have h1 : (i + 3).toInt = i.toInt + 3 := ia (by simp only [Int32.reduceToInt]; omega) (by simp only [Int32.reduceToInt]; omega)
    have h2 : ¬ (i + 3) < len.toInt32 := by rw [lt32, h1, hlen]; omega
    rw [w100_38]; simp +decide only [w100_40, w100_41, w100_42, w100_43, w100_44, w100_724, w100_725, and_true, ↓reduceIte, y1, y2, h2]
  | succ m ih =>
    intro T i s lo hi hL hi hm hT
    have h1 : (i + 3).toInt = i.toInt + 3 := ia (by simp only [Int32.reduceToInt]; omega) (by simp only [Int32.reduceToInt]; omega)
    by_cases h2 : (i + 3) < len.toInt32
    rotate_left
    · rw [w100_38]; simp +decide only [w100_40, w100_41, w100_42, w100_43, w100_44, w100_724, w100_725, and_true, ↓reduceIte, y1, y2, h2]
    have h2' := h2
    rw [lt32, h1, hlen] at h2'
    have h3 : (i + 4).toInt = i.toInt + 4 := ia (by simp only [Int32.reduceToInt]; omega) (by simp only [Int32.reduceToInt]; omega)
    have g1 : (i + 1).toInt = i.toInt + 1 := ia (by simp only [Int32.reduceToInt]; omega) (by simp only [Int32.reduceToInt]; omega)
    have g2 : (i + 2).toInt = i.toInt + 2 := ia (by simp only [Int32.reduceToInt]; omega) (by simp only [Int32.reduceToInt]; omega)
    have b0 : 0 ≤ i.toInt ∧ i.toInt < (len : Int) := by omega
    have b1 : 0 ≤ (i + 1).toInt ∧ (i + 1).toInt < (len : Int) := by omega
    have b2 : 0 ≤ (i + 2).toInt ∧ (i + 2).toInt < (len : Int) := by omega
    have b3 : 0 ≤ (i + 3).toInt ∧ (i + 3).toInt < (len : Int) := by omega
    have ro := and_rg (x := f i.toNatClampNeg) (m := 3) (by decide)
    have ra := and_rg (x := f (i + 1).toNatClampNeg) (m := 7) (by decide)
    have rb := and_rg (x := f (i + 2).toNatClampNeg) (m := 7) (by decide)
    have rs := and_rg (x := f (i + 1).toNatClampNeg) (m := 15) (by decide)
    have rw0 := and_rg (x := f (i + 3).toNatClampNeg) (m := 15) (by decide)
    rw [w100_38]; simp +decide only [w100_40, w100_41, w100_42, w100_43, w100_44, w100_47, w100_48, w100_50, w100_51, w100_52, w100_53, w100_55, w100_56, w100_58, w100_59, w100_60, w100_61, w100_63, w100_64, w100_66, w100_67, w100_69, w100_70, w100_71, w100_72, w100_74, w100_75, w100_77, w100_78, w100_80, w100_81, w100_82, w100_83, w100_85, w100_86, w100_88, w100_89, w100_91, w100_92, w100_93, w100_94, w100_96, w100_97, w100_98, w100_99, true_and, and_true, ↓reduceIte, y1, y2, y3, y4, h2, b0, b1, b2, b3]
    simp only [Int32.reduceToInt] at ro ra rb rs rw0
    have rw1 : (((f (i + 3).toNatClampNeg) &&& 15) - 5).toInt = ((f (i + 3).toNatClampNeg) &&& 15).toInt - 5 := isb (by simp only [Int32.reduceToInt]; omega) (by simp only [Int32.reduceToInt]; omega)
    generalize f i.toNatClampNeg &&& 3 = op at *
    generalize f (i + 1).toNatClampNeg &&& 7 = u at *
    generalize f (i + 2).toNatClampNeg &&& 7 = v at *
    generalize f (i + 1).toNatClampNeg &&& 15 = sl at *
    generalize ((f (i + 3).toNatClampNeg) &&& 15) - 5 = w at *
    have KK := fun s' lo' hi' (h : LI (T + 1) s' lo' hi') => key (a := a) (H := H) (p := p) (k := k) (n := n) h (ih (T + 1) (i + 4) s' lo' hi' h (by omega) (by omega) (by omega)) i rfl
    by_cases o1 : 1 < op
    · exact opB hL (by omega) o1 (by omega) (by omega) KK
    · exact opA hL (by omega) o1 (by omega) (by omega) (by omega) KK
set_option maxRecDepth 100000 in
set_option maxHeartbeats 1000000 in
theorem law_ok (N a len : Nat) (f : Nat → Int32) (ha : a < N) (hl : len ≤ 260) : Cl (pj lw) 100 [.ref a] (H1 N a len f) (fun v _ => v = some (.int 1)) := by
  have e1 : (H1 N a len f).1 = N := rfl
  obtain ⟨I1, a4, a3, a5, i0, i12, i13, j14, i15, i16⟩ := Iv_ini (a := 6) (by decide)
  have c6 : cl 2 32 6 = 6 := by decide
  rw [c6] at i0
  have hL : LI 0 (ini0 6) 0 0 := ⟨I1, fun i hi => by rw [a3]; decide, i0, fun j hj => by rw [a4]; unfold B; split <;> simp +decide, fun j _ => a4 j, by rw [i12]; decide⟩
  have y1 : ∀ s, (isA (ob (H1 (N + 12) a len f) N s) a = true) = True := fun s => (sc1 ha).1
  have y2 : ∀ s, alen (ob (H1 (N + 12) a len f) N s) a = len := fun s => (sc1 ha).2.1
  have y3 : ∀ s i, (inA (ob (H1 (N + 12) a len f) N s) a .int i = true) = (0 ≤ i.toInt ∧ i.toInt < len) := fun s => (sc1 ha).2.2.1
  have y4 : ∀ s i, elt (ob (H1 (N + 12) a len f) N s) a i = .int (f i.toNatClampNeg) := fun s => (sc1 ha).2.2.2
  have L := fun k n => lp (k := k) (n := n) (c := 0) y1 y2 y3 y4 hl (len + 1) 0 0 (ini0 6) 0 0 hL (by decide) (by simp only [Int32.reduceToInt]; omega) (by decide)
  rw [i12, i13, j14, i15, i16] at L
  rw [c100]
  simp +decide only [w100_0, w100_2, w100_3, w100_4, w100_5, w100_8, w100_9, w100_10, w100_13, w100_14, w100_15uu, w100_17, w100_18uu, w100_20, w100_21uu, w100_23, w100_24, w100_26, w100_27, w100_29, w100_30, w100_32, w100_33, w100_35, w100_36, isO_put, cs_nil, cs_ref, Option.toList_none, List.nil_append, true_and, and_true, Nat.reduceAdd, Nat.reduceLeDiff, Int32.reduceAdd, Int64.reduceAdd, Nat.add_zero, Nat.zero_add, mkO_ob, e1, t1]
  simp only [H1_c]
  exact L _ _
end X8

end Jvm.JX.Lw
namespace Jvm.Pilot.@@N@@
open Jvm Jvm.ClassFile Sem Op Lib Jvm.Free Jvm.Stand Jvm.LawKit Jvm.RoadKit Bundle Jvm.Pilot.@@N@@.Jvm.D Jvm.JX Jvm.JX.Pj Jvm.JX.Lw
def nmL : List (Nat × MethodName) := [(1, ⟨"DynamicMinForest", "<init>", "(I)V"⟩), (2, ⟨"DynamicMinForest", "addEdge", "(III)I"⟩), (3, ⟨"DynamicMinForest", "removeEdge", "(I)Z"⟩), (4, ⟨"DynamicMinForest", "setWeight", "(II)Z"⟩), (5, ⟨"DynamicMinForest", "isPresent", "(I)Z"⟩), (6, ⟨"DynamicMinForest", "isTreeEdge", "(I)Z"⟩), (7, ⟨"DynamicMinForest", "edgeEnd", "(II)I"⟩), (8, ⟨"DynamicMinForest", "edgeWeight", "(I)I"⟩), (9, ⟨"DynamicMinForest", "edgeCount", "()I"⟩), (10, ⟨"DynamicMinForest", "forestWeight", "()J"⟩), (11, ⟨"DynamicMinForest", "forestEdgeCount", "()I"⟩), (12, ⟨"DynamicMinForest", "componentCount", "()I"⟩), (16, ⟨"DynamicMinForest", "lastEntered", "()I"⟩), (17, ⟨"DynamicMinForest", "lastLeft", "()I"⟩), (18, ⟨"DynamicMinForest", "insertUpdate", "(I)V"⟩), (19, ⟨"DynamicMinForest", "cutTreeEdge", "(I)V"⟩), (20, ⟨"DynamicMinForest", "reweightTreeEdge", "(II)V"⟩), (21, ⟨"DynamicMinForest", "setLast", "(II)V"⟩), (22, ⟨"DynamicMinForest", "lowestFreeSlot", "()I"⟩), (23, ⟨"DynamicMinForest", "storeEdge", "(IIII)V"⟩), (24, ⟨"DynamicMinForest", "freeSlot", "(I)V"⟩), (25, ⟨"DynamicMinForest", "joinTree", "(I)V"⟩), (26, ⟨"DynamicMinForest", "leaveTree", "(I)V"⟩), (27, ⟨"DynamicMinForest", "addAdjacent", "(II)V"⟩), (28, ⟨"DynamicMinForest", "removeAdjacent", "(II)V"⟩), (29, ⟨"DynamicMinForest", "resetSearch", "()V"⟩), (30, ⟨"DynamicMinForest", "explore", "(II)I"⟩), (31, ⟨"DynamicMinForest", "visitNeighbours", "(III)I"⟩), (32, ⟨"DynamicMinForest", "heaviestOnPathTo", "(I)I"⟩), (33, ⟨"DynamicMinForest", "lightestCrossing", "()I"⟩), (34, ⟨"DynamicMinForest", "crosses", "(I)Z"⟩), (35, ⟨"DynamicMinForest", "otherEnd", "(II)I"⟩), (36, ⟨"DynamicMinForest", "precedes", "(II)Z"⟩), (37, ⟨"DynamicMinForest", "lighter", "(II)I"⟩), (38, ⟨"DynamicMinForest", "heavier", "(II)I"⟩), (39, ⟨"DynamicMinForest", "validVertex", "(I)Z"⟩), (40, ⟨"DynamicMinForest", "validId", "(I)Z"⟩), (41, ⟨"DynamicMinForest", "clampWeight", "(I)I"⟩), (100, ⟨"DynamicMinForestL6", "law", "([I)Z"⟩), (103, ⟨"DynamicMinForestL6", "bit", "(JJI)Z"⟩), (104, ⟨"DynamicMinForestL6", "lowerFull", "(JJI)Z"⟩), (105, ⟨"DynamicMinForestL6", "step", "(II)I"⟩), (106, ⟨"DynamicMinForestL6", "wIn", "(LDynamicMinForest;I)J"⟩), (107, ⟨"DynamicMinForestL6", "wOut", "(LDynamicMinForest;III)J"⟩)]
def nm (m : Nat) : MethodName := (nmL.lookup m).getD ⟨"", "", ""⟩
def btL : List (Nat × ByteArray) := [(1, prog_1_method_1_code), (2, prog_1_method_2_code), (3, prog_1_method_3_code), (4, prog_1_method_4_code), (5, prog_1_method_5_code), (6, prog_1_method_6_code), (7, prog_1_method_7_code), (8, prog_1_method_8_code), (9, prog_1_method_9_code), (10, prog_1_method_10_code), (11, prog_1_method_11_code), (12, prog_1_method_12_code), (16, prog_1_method_16_code), (17, prog_1_method_17_code), (18, prog_1_method_18_code), (19, prog_1_method_19_code), (20, prog_1_method_20_code), (21, prog_1_method_21_code), (22, prog_1_method_22_code), (23, prog_1_method_23_code), (24, prog_1_method_24_code), (25, prog_1_method_25_code), (26, prog_1_method_26_code), (27, prog_1_method_27_code), (28, prog_1_method_28_code), (29, prog_1_method_29_code), (30, prog_1_method_30_code), (31, prog_1_method_31_code), (32, prog_1_method_32_code), (33, prog_1_method_33_code), (34, prog_1_method_34_code), (35, prog_1_method_35_code), (36, prog_1_method_36_code), (37, prog_1_method_37_code), (38, prog_1_method_38_code), (39, prog_1_method_39_code), (40, prog_1_method_40_code), (41, prog_1_method_41_code), (100, code), (103, method_3_code), (104, method_4_code), (105, method_5_code), (106, method_6_code), (107, method_7_code)]
def bt (m : Nat) : ByteArray := (btL.lookup m).getD ⟨#[]⟩
def fnL : List (String × String) := [("n", "I"), ("endA", "[I"), ("endB", "[I"), ("weight", "[I"), ("used", "[Z"), ("inTree", "[Z"), ("adj", "[I"), ("deg", "[I"), ("seen", "[Z"), ("parentEdge", "[I"), ("parentVertex", "[I"), ("queue", "[I"), ("presentCount", "I"), ("treeCount", "I"), ("treeWeight", "J"), ("entered", "I"), ("left", "I")]
def fn (k : Nat) : String × String := fnL.getD k ("", "")
def RL : List Nat := [1, 2, 3, 4, 5, 6, 7, 8, 9, 10, 11, 12, 16, 17, 18, 19, 20, 21, 22, 23, 24, 25, 26, 27, 28, 29, 30, 31, 32, 33, 34, 35, 36, 37, 38, 39, 40, 41, 100, 103, 104, 105, 106, 107]
def FS : List Nat := [0, 1, 2, 3, 4, 5, 6, 7, 8, 9, 10, 11, 12, 13, 14, 15, 16]
def WF : List Nat := [0, 1, 2, 3, 4, 5, 6, 7, 8, 9, 10, 11, 12, 13, 14, 15, 16]
def FL : List (Nat × Nat × Nat) := [(0, 7, 1), (0, 13, 2), (0, 16, 3), (0, 19, 4), (0, 23, 5), (0, 26, 6), (0, 29, 7), (0, 32, 8), (0, 35, 9), (0, 38, 10), (0, 41, 11), (0, 44, 0), (0, 48, 12), (0, 51, 13), (0, 54, 14), (0, 58, 15), (0, 61, 16)]
def ML : List (Nat × Nat × Nat) := [(0, 64, 29), (0, 67, 39), (0, 71, 22), (0, 75, 41), (0, 79, 23), (0, 83, 18), (0, 87, 5), (0, 90, 24), (0, 93, 21), (0, 97, 19), (0, 100, 20), (0, 103, 40), (0, 106, 30), (0, 119, 25), (0, 110, 32), (0, 122, 36), (0, 126, 26), (0, 116, 33), (0, 129, 27), (0, 132, 28), (0, 135, 31), (0, 139, 35), (0, 142, 38), (0, 145, 34), (0, 148, 37), (1, 9, 1), (1, 12, 2), (1, 16, 103), (1, 22, 104), (1, 25, 16), (1, 29, 17), (1, 32, 6), (1, 36, 8), (1, 40, 7), (1, 44, 106), (1, 48, 107), (1, 52, 105), (1, 55, 3), (1, 58, 4), (1, 64, 9), (1, 67, 11), (1, 70, 12), (1, 73, 10), (1, 77, 5)]
def KI : List (Nat × Nat × Int) := [(0, 151, -1000000), (0, 152, 1000000)]
def KJ : List (Nat × Nat × Int) := [(1, 62, -1)]
def ATL : List FieldType := [.boolean, .int]
def cn (j : Nat) : String := if j = 0 then "DynamicMinForest" else "DynamicMinForestL6"
def own (m : Nat) : Nat := if m < 100 then 0 else 1
def ini (m : Nat) : Bool := m == 1
def rowsOf (m : Nat) : List Jvm.JX.Row := if m < 100 then prows.getD m [] else lrows.getD (m - 100) []
theorem hFL : ∀ t ∈ FL, t.2.2 ∈ FS ∧ Jvm.Cond.fieldLink (cn t.1) t.2.1 "DynamicMinForest" (fn t.2.2).1 (fn t.2.2).2 ∈ tables_1 := (faS ⟨by decide, (List.mem_of_getElem? (i := 10) rfl)⟩ (faS ⟨by decide, (List.mem_of_getElem? (i := 12) rfl)⟩ (faS ⟨by decide, (List.mem_of_getElem? (i := 14) rfl)⟩ (faS ⟨by decide, (List.mem_of_getElem? (i := 17) rfl)⟩ (faS ⟨by decide, (List.mem_of_getElem? (i := 19) rfl)⟩ (faS ⟨by decide, (List.mem_of_getElem? (i := 21) rfl)⟩ (faS ⟨by decide, (List.mem_of_getElem? (i := 23) rfl)⟩ (faS ⟨by decide, (List.mem_of_getElem? (i := 25) rfl)⟩ (faS ⟨by decide, (List.mem_of_getElem? (i := 27) rfl)⟩ (faS ⟨by decide, (List.mem_of_getElem? (i := 29) rfl)⟩ (faS ⟨by decide, (List.mem_of_getElem? (i := 31) rfl)⟩ (faS ⟨by decide, (List.mem_of_getElem? (i := 33) rfl)⟩ (faS ⟨by decide, (List.mem_of_getElem? (i := 35) rfl)⟩ (faS ⟨by decide, (List.mem_of_getElem? (i := 37) rfl)⟩ (faS ⟨by decide, (List.mem_of_getElem? (i := 39) rfl)⟩ (faS ⟨by decide, (List.mem_of_getElem? (i := 41) rfl)⟩ (faS ⟨by decide, (List.mem_of_getElem? (i := 43) rfl)⟩ fa0)))))))))))))))))
theorem hWF : ∀ k ∈ WF, Jvm.Cond.lays "DynamicMinForest" "DynamicMinForest" (fn k).1 (fn k).2 ∈ tables_1 := (faS (List.mem_of_getElem? (i := 34) rfl) (faS (List.mem_of_getElem? (i := 11) rfl) (faS (List.mem_of_getElem? (i := 13) rfl) (faS (List.mem_of_getElem? (i := 15) rfl) (faS (List.mem_of_getElem? (i := 18) rfl) (faS (List.mem_of_getElem? (i := 20) rfl) (faS (List.mem_of_getElem? (i := 22) rfl) (faS (List.mem_of_getElem? (i := 24) rfl) (faS (List.mem_of_getElem? (i := 26) rfl) (faS (List.mem_of_getElem? (i := 28) rfl) (faS (List.mem_of_getElem? (i := 30) rfl) (faS (List.mem_of_getElem? (i := 32) rfl) (faS (List.mem_of_getElem? (i := 36) rfl) (faS (List.mem_of_getElem? (i := 38) rfl) (faS (List.mem_of_getElem? (i := 40) rfl) (faS (List.mem_of_getElem? (i := 42) rfl) (faS (List.mem_of_getElem? (i := 44) rfl) fa0)))))))))))))))))
theorem hML : ∀ t ∈ ML, t.2.2 ∈ RL ∧ Jvm.Cond.methodLink (cn t.1) t.2.1 (nm t.2.2) ∈ tables_1 := (faS ⟨by decide, (List.mem_of_getElem? (i := 45) rfl)⟩ (faS ⟨by decide, (List.mem_of_getElem? (i := 113) rfl)⟩ (faS ⟨by decide, (List.mem_of_getElem? (i := 117) rfl)⟩ (faS ⟨by decide, (List.mem_of_getElem? (i := 121) rfl)⟩ (faS ⟨by decide, (List.mem_of_getElem? (i := 127) rfl)⟩ (faS ⟨by decide, (List.mem_of_getElem? (i := 131) rfl)⟩ (faS ⟨by decide, (List.mem_of_getElem? (i := 58) rfl)⟩ (faS ⟨by decide, (List.mem_of_getElem? (i := 221) rfl)⟩ (faS ⟨by decide, (List.mem_of_getElem? (i := 151) rfl)⟩ (faS ⟨by decide, (List.mem_of_getElem? (i := 217) rfl)⟩ (faS ⟨by decide, (List.mem_of_getElem? (i := 172) rfl)⟩ (faS ⟨by decide, (List.mem_of_getElem? (i := 63) rfl)⟩ (faS ⟨by decide, (List.mem_of_getElem? (i := 135) rfl)⟩ (faS ⟨by decide, (List.mem_of_getElem? (i := 143) rfl)⟩ (faS ⟨by decide, (List.mem_of_getElem? (i := 200) rfl)⟩ (faS ⟨by decide, (List.mem_of_getElem? (i := 208) rfl)⟩ (faS ⟨by decide, (List.mem_of_getElem? (i := 176) rfl)⟩ (faS ⟨by decide, (List.mem_of_getElem? (i := 184) rfl)⟩ (faS ⟨by decide, (List.mem_of_getElem? (i := 147) rfl)⟩ (faS ⟨by decide, (List.mem_of_getElem? (i := 180) rfl)⟩ (faS ⟨by decide, (List.mem_of_getElem? (i := 139) rfl)⟩ (faS ⟨by decide, (List.mem_of_getElem? (i := 196) rfl)⟩ (faS ⟨by decide, (List.mem_of_getElem? (i := 204) rfl)⟩ (faS ⟨by decide, (List.mem_of_getElem? (i := 188) rfl)⟩ (faS ⟨by decide, (List.mem_of_getElem? (i := 192) rfl)⟩ (faS ⟨by decide, (List.mem_of_getElem? (i := 3) rfl)⟩ (faS ⟨by decide, (List.mem_of_getElem? (i := 108) rfl)⟩ (faS ⟨by decide, (List.mem_of_getElem? (i := 49) rfl)⟩ (faS ⟨by decide, (List.mem_of_getElem? (i := 155) rfl)⟩ (faS ⟨by decide, (List.mem_of_getElem? (i := 97) rfl)⟩ (faS ⟨by decide, (List.mem_of_getElem? (i := 102) rfl)⟩ (faS ⟨by decide, (List.mem_of_getElem? (i := 67) rfl)⟩ (faS ⟨by decide, (List.mem_of_getElem? (i := 53) rfl)⟩ (faS ⟨by decide, (List.mem_of_getElem? (i := 158) rfl)⟩ (faS ⟨by decide, (List.mem_of_getElem? (i := 163) rfl)⟩ (faS ⟨by decide, (List.mem_of_getElem? (i := 166) rfl)⟩ (faS ⟨by decide, (List.mem_of_getElem? (i := 169) rfl)⟩ (faS ⟨by decide, (List.mem_of_getElem? (i := 212) rfl)⟩ (faS ⟨by decide, (List.mem_of_getElem? (i := 72) rfl)⟩ (faS ⟨by decide, (List.mem_of_getElem? (i := 77) rfl)⟩ (faS ⟨by decide, (List.mem_of_getElem? (i := 82) rfl)⟩ (faS ⟨by decide, (List.mem_of_getElem? (i := 87) rfl)⟩ (faS ⟨by decide, (List.mem_of_getElem? (i := 92) rfl)⟩ (faS ⟨by decide, (List.mem_of_getElem? (i := 107) rfl)⟩ fa0))))))))))))))))))))))))))))))))))))))))))))
theorem hKI : ∀ t ∈ KI, Jvm.Cond.constant (cn t.1) t.2.1 (Int32.ofInt t.2.2) ∈ tables_1 := (faS (List.mem_of_getElem? (i := 125) rfl) (faS (List.mem_of_getElem? (i := 126) rfl) fa0))
theorem hKJ : ∀ t ∈ KJ, Jvm.Cond.constantLong (cn t.1) t.2.1 (Int64.ofInt t.2.2) ∈ tables_1 := (faS (List.mem_of_getElem? (i := 225) rfl) fa0)
theorem hAT : ∀ t ∈ ATL, Jvm.Cond.arrayClass t ∈ tables_1 := (faS (List.mem_of_getElem? (i := 16) rfl) (faS (List.mem_of_getElem? (i := 9) rfl) fa0))
theorem hr1x0 : ((rowsOf 1).take 40).all (rowOne FL ML KI KJ ATL WF 17 7 bt own ini 1) = true := by decide +kernel
theorem hr1x1 : (((rowsOf 1).drop 40).take 40).all (rowOne FL ML KI KJ ATL WF 17 7 bt own ini 1) = true := by decide +kernel
theorem hr1x2 : (((rowsOf 1).drop 40).drop 40).all (rowOne FL ML KI KJ ATL WF 17 7 bt own ini 1) = true := by decide +kernel
theorem hr1 : (rowsOf 1).all (rowOne FL ML KI KJ ATL WF 17 7 bt own ini 1) = true := (all_td 40 hr1x0 (all_td 40 hr1x1 hr1x2))
theorem hr2 : (rowsOf 2).all (rowOne FL ML KI KJ ATL WF 17 7 bt own ini 2) = true := by decide +kernel
theorem hr3 : (rowsOf 3).all (rowOne FL ML KI KJ ATL WF 17 7 bt own ini 3) = true := by decide +kernel
theorem hr4 : (rowsOf 4).all (rowOne FL ML KI KJ ATL WF 17 7 bt own ini 4) = true := by decide +kernel
theorem hr5 : (rowsOf 5).all (rowOne FL ML KI KJ ATL WF 17 7 bt own ini 5) = true := by decide +kernel
theorem hr6 : (rowsOf 6).all (rowOne FL ML KI KJ ATL WF 17 7 bt own ini 6) = true := by decide +kernel
theorem hr7 : (rowsOf 7).all (rowOne FL ML KI KJ ATL WF 17 7 bt own ini 7) = true := by decide +kernel
theorem hr8 : (rowsOf 8).all (rowOne FL ML KI KJ ATL WF 17 7 bt own ini 8) = true := by decide +kernel
theorem hr9 : (rowsOf 9).all (rowOne FL ML KI KJ ATL WF 17 7 bt own ini 9) = true := by decide +kernel
theorem hr10 : (rowsOf 10).all (rowOne FL ML KI KJ ATL WF 17 7 bt own ini 10) = true := by decide +kernel
theorem hr11 : (rowsOf 11).all (rowOne FL ML KI KJ ATL WF 17 7 bt own ini 11) = true := by decide +kernel
theorem hr12 : (rowsOf 12).all (rowOne FL ML KI KJ ATL WF 17 7 bt own ini 12) = true := by decide +kernel
theorem hr16 : (rowsOf 16).all (rowOne FL ML KI KJ ATL WF 17 7 bt own ini 16) = true := by decide +kernel
theorem hr17 : (rowsOf 17).all (rowOne FL ML KI KJ ATL WF 17 7 bt own ini 17) = true := by decide +kernel
theorem hr18 : (rowsOf 18).all (rowOne FL ML KI KJ ATL WF 17 7 bt own ini 18) = true := by decide +kernel
theorem hr19 : (rowsOf 19).all (rowOne FL ML KI KJ ATL WF 17 7 bt own ini 19) = true := by decide +kernel
theorem hr20 : (rowsOf 20).all (rowOne FL ML KI KJ ATL WF 17 7 bt own ini 20) = true := by decide +kernel
theorem hr21 : (rowsOf 21).all (rowOne FL ML KI KJ ATL WF 17 7 bt own ini 21) = true := by decide +kernel
theorem hr22 : (rowsOf 22).all (rowOne FL ML KI KJ ATL WF 17 7 bt own ini 22) = true := by decide +kernel
theorem hr23 : (rowsOf 23).all (rowOne FL ML KI KJ ATL WF 17 7 bt own ini 23) = true := by decide +kernel
theorem hr24 : (rowsOf 24).all (rowOne FL ML KI KJ ATL WF 17 7 bt own ini 24) = true := by decide +kernel
theorem hr25 : (rowsOf 25).all (rowOne FL ML KI KJ ATL WF 17 7 bt own ini 25) = true := by decide +kernel
theorem hr26 : (rowsOf 26).all (rowOne FL ML KI KJ ATL WF 17 7 bt own ini 26) = true := by decide +kernel
theorem hr27 : (rowsOf 27).all (rowOne FL ML KI KJ ATL WF 17 7 bt own ini 27) = true := by decide +kernel
theorem hr28 : (rowsOf 28).all (rowOne FL ML KI KJ ATL WF 17 7 bt own ini 28) = true := by decide +kernel
theorem hr29 : (rowsOf 29).all (rowOne FL ML KI KJ ATL WF 17 7 bt own ini 29) = true := by decide +kernel
theorem hr30 : (rowsOf 30).all (rowOne FL ML KI KJ ATL WF 17 7 bt own ini 30) = true := by decide +kernel
theorem hr31x0 : ((rowsOf 31).take 40).all (rowOne FL ML KI KJ ATL WF 17 7 bt own ini 31) = true := by decide +kernel
theorem hr31x1 : (((rowsOf 31).drop 40).take 40).all (rowOne FL ML KI KJ ATL WF 17 7 bt own ini 31) = true := by decide +kernel
theorem hr31x2 : (((rowsOf 31).drop 40).drop 40).all (rowOne FL ML KI KJ ATL WF 17 7 bt own ini 31) = true := by decide +kernel
theorem hr31 : (rowsOf 31).all (rowOne FL ML KI KJ ATL WF 17 7 bt own ini 31) = true := (all_td 40 hr31x0 (all_td 40 hr31x1 hr31x2))
theorem hr32 : (rowsOf 32).all (rowOne FL ML KI KJ ATL WF 17 7 bt own ini 32) = true := by decide +kernel
theorem hr33 : (rowsOf 33).all (rowOne FL ML KI KJ ATL WF 17 7 bt own ini 33) = true := by decide +kernel
theorem hr34 : (rowsOf 34).all (rowOne FL ML KI KJ ATL WF 17 7 bt own ini 34) = true := by decide +kernel
theorem hr35 : (rowsOf 35).all (rowOne FL ML KI KJ ATL WF 17 7 bt own ini 35) = true := by decide +kernel
theorem hr36 : (rowsOf 36).all (rowOne FL ML KI KJ ATL WF 17 7 bt own ini 36) = true := by decide +kernel
theorem hr37 : (rowsOf 37).all (rowOne FL ML KI KJ ATL WF 17 7 bt own ini 37) = true := by decide +kernel
theorem hr38 : (rowsOf 38).all (rowOne FL ML KI KJ ATL WF 17 7 bt own ini 38) = true := by decide +kernel
theorem hr39 : (rowsOf 39).all (rowOne FL ML KI KJ ATL WF 17 7 bt own ini 39) = true := by decide +kernel
theorem hr40 : (rowsOf 40).all (rowOne FL ML KI KJ ATL WF 17 7 bt own ini 40) = true := by decide +kernel
theorem hr41 : (rowsOf 41).all (rowOne FL ML KI KJ ATL WF 17 7 bt own ini 41) = true := by decide +kernel
theorem hr100x0 : ((rowsOf 100).take 40).all (rowOne FL ML KI KJ ATL WF 17 7 bt own ini 100) = true := by decide +kernel
theorem hr100x1 : (((rowsOf 100).drop 40).take 40).all (rowOne FL ML KI KJ ATL WF 17 7 bt own ini 100) = true := by decide +kernel
theorem hr100x2 : ((((rowsOf 100).drop 40).drop 40).take 40).all (rowOne FL ML KI KJ ATL WF 17 7 bt own ini 100) = true := by decide +kernel
theorem hr100x3 : (((((rowsOf 100).drop 40).drop 40).drop 40).take 40).all (rowOne FL ML KI KJ ATL WF 17 7 bt own ini 100) = true := by decide +kernel
theorem hr100x4 : ((((((rowsOf 100).drop 40).drop 40).drop 40).drop 40).take 40).all (rowOne FL ML KI KJ ATL WF 17 7 bt own ini 100) = true := by decide +kernel
theorem hr100x5 : (((((((rowsOf 100).drop 40).drop 40).drop 40).drop 40).drop 40).take 40).all (rowOne FL ML KI KJ ATL WF 17 7 bt own ini 100) = true := by decide +kernel
theorem hr100x6 : ((((((((rowsOf 100).drop 40).drop 40).drop 40).drop 40).drop 40).drop 40).take 40).all (rowOne FL ML KI KJ ATL WF 17 7 bt own ini 100) = true := by decide +kernel
theorem hr100x7 : (((((((((rowsOf 100).drop 40).drop 40).drop 40).drop 40).drop 40).drop 40).drop 40).take 40).all (rowOne FL ML KI KJ ATL WF 17 7 bt own ini 100) = true := by decide +kernel
theorem hr100x8 : ((((((((((rowsOf 100).drop 40).drop 40).drop 40).drop 40).drop 40).drop 40).drop 40).drop 40).take 40).all (rowOne FL ML KI KJ ATL WF 17 7 bt own ini 100) = true := by decide +kernel
theorem hr100x9 : ((((((((((rowsOf 100).drop 40).drop 40).drop 40).drop 40).drop 40).drop 40).drop 40).drop 40).drop 40).all (rowOne FL ML KI KJ ATL WF 17 7 bt own ini 100) = true := by decide +kernel
theorem hr100 : (rowsOf 100).all (rowOne FL ML KI KJ ATL WF 17 7 bt own ini 100) = true := (all_td 40 hr100x0 (all_td 40 hr100x1 (all_td 40 hr100x2 (all_td 40 hr100x3 (all_td 40 hr100x4 (all_td 40 hr100x5 (all_td 40 hr100x6 (all_td 40 hr100x7 (all_td 40 hr100x8 hr100x9)))))))))
theorem hr103 : (rowsOf 103).all (rowOne FL ML KI KJ ATL WF 17 7 bt own ini 103) = true := by decide +kernel
theorem hr104 : (rowsOf 104).all (rowOne FL ML KI KJ ATL WF 17 7 bt own ini 104) = true := by decide +kernel
theorem hr105 : (rowsOf 105).all (rowOne FL ML KI KJ ATL WF 17 7 bt own ini 105) = true := by decide +kernel
theorem hr106 : (rowsOf 106).all (rowOne FL ML KI KJ ATL WF 17 7 bt own ini 106) = true := by decide +kernel
theorem hr107 : (rowsOf 107).all (rowOne FL ML KI KJ ATL WF 17 7 bt own ini 107) = true := by decide +kernel
theorem hrows : RL.all (fun m => (rowsOf m).all (rowOne FL ML KI KJ ATL WF 17 7 bt own ini m)) = true := (all_c hr1 (all_c hr2 (all_c hr3 (all_c hr4 (all_c hr5 (all_c hr6 (all_c hr7 (all_c hr8 (all_c hr9 (all_c hr10 (all_c hr11 (all_c hr12 (all_c hr16 (all_c hr17 (all_c hr18 (all_c hr19 (all_c hr20 (all_c hr21 (all_c hr22 (all_c hr23 (all_c hr24 (all_c hr25 (all_c hr26 (all_c hr27 (all_c hr28 (all_c hr29 (all_c hr30 (all_c hr31 (all_c hr32 (all_c hr33 (all_c hr34 (all_c hr35 (all_c hr36 (all_c hr37 (all_c hr38 (all_c hr39 (all_c hr40 (all_c hr41 (all_c hr100 (all_c hr103 (all_c hr104 (all_c hr105 (all_c hr106 (all_c hr107 all_n))))))))))))))))))))))))))))))))))))))))))))
theorem cal1 : CalOk (pj lw) tables_1 "DynamicMinForest" nm bt 1 := ⟨(List.mem_of_getElem? (i := 5) rfl), (List.mem_of_getElem? (i := 2) rfl), ⟨[.int], none, by decide +kernel, rfl⟩, fun h => absurd h (by decide), fun _ => ⟨rfl, (List.mem_of_getElem? (i := 4) rfl)⟩, fun h => absurd h (by decide), fun h => absurd h (by decide), fun _ => ⟨rfl, rfl⟩⟩
theorem cal2 : CalOk (pj lw) tables_1 "DynamicMinForest" nm bt 2 := ⟨(List.mem_of_getElem? (i := 112) rfl), (List.mem_of_getElem? (i := 2) rfl), ⟨[.int, .int, .int], some .int, by decide +kernel, rfl⟩, fun h => absurd h (by decide), fun _ => ⟨rfl, (List.mem_of_getElem? (i := 110) rfl)⟩, fun _ => ⟨(List.mem_of_getElem? (i := 109) rfl), (List.mem_of_getElem? (i := 111) rfl)⟩, fun h => absurd h (by decide), fun h => absurd h (by decide)⟩
theorem cal3 : CalOk (pj lw) tables_1 "DynamicMinForest" nm bt 3 := ⟨(List.mem_of_getElem? (i := 216) rfl), (List.mem_of_getElem? (i := 2) rfl), ⟨[.int], some .boolean, by decide +kernel, rfl⟩, fun h => absurd h (by decide), fun _ => ⟨rfl, (List.mem_of_getElem? (i := 214) rfl)⟩, fun _ => ⟨(List.mem_of_getElem? (i := 213) rfl), (List.mem_of_getElem? (i := 215) rfl)⟩, fun h => absurd h (by decide), fun h => absurd h (by decide)⟩
theorem cal4 : CalOk (pj lw) tables_1 "DynamicMinForest" nm bt 4 := ⟨(List.mem_of_getElem? (i := 76) rfl), (List.mem_of_getElem? (i := 2) rfl), ⟨[.int, .int], some .boolean, by decide +kernel, rfl⟩, fun h => absurd h (by decide), fun _ => ⟨rfl, (List.mem_of_getElem? (i := 74) rfl)⟩, fun _ => ⟨(List.mem_of_getElem? (i := 73) rfl), (List.mem_of_getElem? (i := 75) rfl)⟩, fun h => absurd h (by decide), fun h => absurd h (by decide)⟩
theorem cal5 : CalOk (pj lw) tables_1 "DynamicMinForest" nm bt 5 := ⟨(List.mem_of_getElem? (i := 62) rfl), (List.mem_of_getElem? (i := 2) rfl), ⟨[.int], some .boolean, by decide +kernel, rfl⟩, fun h => absurd h (by decide), fun _ => ⟨rfl, (List.mem_of_getElem? (i := 60) rfl)⟩, fun _ => ⟨(List.mem_of_getElem? (i := 59) rfl), (List.mem_of_getElem? (i := 61) rfl)⟩, fun h => absurd h (by decide), fun h => absurd h (by decide)⟩
theorem cal6 : CalOk (pj lw) tables_1 "DynamicMinForest" nm bt 6 := ⟨(List.mem_of_getElem? (i := 71) rfl), (List.mem_of_getElem? (i := 2) rfl), ⟨[.int], some .boolean, by decide +kernel, rfl⟩, fun h => absurd h (by decide), fun _ => ⟨rfl, (List.mem_of_getElem? (i := 69) rfl)⟩, fun _ => ⟨(List.mem_of_getElem? (i := 68) rfl), (List.mem_of_getElem? (i := 70) rfl)⟩, fun h => absurd h (by decide), fun h => absurd h (by decide)⟩
theorem cal7 : CalOk (pj lw) tables_1 "DynamicMinForest" nm bt 7 := ⟨(List.mem_of_getElem? (i := 162) rfl), (List.mem_of_getElem? (i := 2) rfl), ⟨[.int, .int], some .int, by decide +kernel, rfl⟩, fun h => absurd h (by decide), fun _ => ⟨rfl, (List.mem_of_getElem? (i := 160) rfl)⟩, fun _ => ⟨(List.mem_of_getElem? (i := 159) rfl), (List.mem_of_getElem? (i := 161) rfl)⟩, fun h => absurd h (by decide), fun h => absurd h (by decide)⟩
theorem cal8 : CalOk (pj lw) tables_1 "DynamicMinForest" nm bt 8 := ⟨(List.mem_of_getElem? (i := 57) rfl), (List.mem_of_getElem? (i := 2) rfl), ⟨[.int], some .int, by decide +kernel, rfl⟩, fun h => absurd h (by decide), fun _ => ⟨rfl, (List.mem_of_getElem? (i := 55) rfl)⟩, fun _ => ⟨(List.mem_of_getElem? (i := 54) rfl), (List.mem_of_getElem? (i := 56) rfl)⟩, fun h => absurd h (by decide), fun h => absurd h (by decide)⟩
theorem cal9 : CalOk (pj lw) tables_1 "DynamicMinForest" nm bt 9 := ⟨(List.mem_of_getElem? (i := 81) rfl), (List.mem_of_getElem? (i := 2) rfl), ⟨[], some .int, by decide +kernel, rfl⟩, fun h => absurd h (by decide), fun _ => ⟨rfl, (List.mem_of_getElem? (i := 79) rfl)⟩, fun _ => ⟨(List.mem_of_getElem? (i := 78) rfl), (List.mem_of_getElem? (i := 80) rfl)⟩, fun h => absurd h (by decide), fun h => absurd h (by decide)⟩
theorem cal10 : CalOk (pj lw) tables_1 "DynamicMinForest" nm bt 10 := ⟨(List.mem_of_getElem? (i := 96) rfl), (List.mem_of_getElem? (i := 2) rfl), ⟨[], some .long, by decide +kernel, rfl⟩, fun h => absurd h (by decide), fun _ => ⟨rfl, (List.mem_of_getElem? (i := 94) rfl)⟩, fun _ => ⟨(List.mem_of_getElem? (i := 93) rfl), (List.mem_of_getElem? (i := 95) rfl)⟩, fun h => absurd h (by decide), fun h => absurd h (by decide)⟩
theorem cal11 : CalOk (pj lw) tables_1 "DynamicMinForest" nm bt 11 := ⟨(List.mem_of_getElem? (i := 86) rfl), (List.mem_of_getElem? (i := 2) rfl), ⟨[], some .int, by decide +kernel, rfl⟩, fun h => absurd h (by decide), fun _ => ⟨rfl, (List.mem_of_getElem? (i := 84) rfl)⟩, fun _ => ⟨(List.mem_of_getElem? (i := 83) rfl), (List.mem_of_getElem? (i := 85) rfl)⟩, fun h => absurd h (by decide), fun h => absurd h (by decide)⟩
theorem cal12 : CalOk (pj lw) tables_1 "DynamicMinForest" nm bt 12 := ⟨(List.mem_of_getElem? (i := 91) rfl), (List.mem_of_getElem? (i := 2) rfl), ⟨[], some .int, by decide +kernel, rfl⟩, fun h => absurd h (by decide), fun _ => ⟨rfl, (List.mem_of_getElem? (i := 89) rfl)⟩, fun _ => ⟨(List.mem_of_getElem? (i := 88) rfl), (List.mem_of_getElem? (i := 90) rfl)⟩, fun h => absurd h (by decide), fun h => absurd h (by decide)⟩
theorem cal16 : CalOk (pj lw) tables_1 "DynamicMinForest" nm bt 16 := ⟨(List.mem_of_getElem? (i := 101) rfl), (List.mem_of_getElem? (i := 2) rfl), ⟨[], some .int, by decide +kernel, rfl⟩, fun h => absurd h (by decide), fun _ => ⟨rfl, (List.mem_of_getElem? (i := 99) rfl)⟩, fun _ => ⟨(List.mem_of_getElem? (i := 98) rfl), (List.mem_of_getElem? (i := 100) rfl)⟩, fun h => absurd h (by decide), fun h => absurd h (by decide)⟩
theorem cal17 : CalOk (pj lw) tables_1 "DynamicMinForest" nm bt 17 := ⟨(List.mem_of_getElem? (i := 106) rfl), (List.mem_of_getElem? (i := 2) rfl), ⟨[], some .int, by decide +kernel, rfl⟩, fun h => absurd h (by decide), fun _ => ⟨rfl, (List.mem_of_getElem? (i := 104) rfl)⟩, fun _ => ⟨(List.mem_of_getElem? (i := 103) rfl), (List.mem_of_getElem? (i := 105) rfl)⟩, fun h => absurd h (by decide), fun h => absurd h (by decide)⟩
theorem cal18 : CalOk (pj lw) tables_1 "DynamicMinForest" nm bt 18 := ⟨(List.mem_of_getElem? (i := 134) rfl), (List.mem_of_getElem? (i := 2) rfl), ⟨[.int], none, by decide +kernel, rfl⟩, fun h => absurd h (by decide), fun _ => ⟨rfl, (List.mem_of_getElem? (i := 132) rfl)⟩, fun h => absurd h (by decide), fun _ => (List.mem_of_getElem? (i := 133) rfl), fun h => absurd h (by decide)⟩
theorem cal19 : CalOk (pj lw) tables_1 "DynamicMinForest" nm bt 19 := ⟨(List.mem_of_getElem? (i := 220) rfl), (List.mem_of_getElem? (i := 2) rfl), ⟨[.int], none, by decide +kernel, rfl⟩, fun h => absurd h (by decide), fun _ => ⟨rfl, (List.mem_of_getElem? (i := 218) rfl)⟩, fun h => absurd h (by decide), fun _ => (List.mem_of_getElem? (i := 219) rfl), fun h => absurd h (by decide)⟩
theorem cal20 : CalOk (pj lw) tables_1 "DynamicMinForest" nm bt 20 := ⟨(List.mem_of_getElem? (i := 175) rfl), (List.mem_of_getElem? (i := 2) rfl), ⟨[.int, .int], none, by decide +kernel, rfl⟩, fun h => absurd h (by decide), fun _ => ⟨rfl, (List.mem_of_getElem? (i := 173) rfl)⟩, fun h => absurd h (by decide), fun _ => (List.mem_of_getElem? (i := 174) rfl), fun h => absurd h (by decide)⟩
theorem cal21 : CalOk (pj lw) tables_1 "DynamicMinForest" nm bt 21 := ⟨(List.mem_of_getElem? (i := 154) rfl), (List.mem_of_getElem? (i := 2) rfl), ⟨[.int, .int], none, by decide +kernel, rfl⟩, fun h => absurd h (by decide), fun _ => ⟨rfl, (List.mem_of_getElem? (i := 152) rfl)⟩, fun h => absurd h (by decide), fun _ => (List.mem_of_getElem? (i := 153) rfl), fun h => absurd h (by decide)⟩
theorem cal22 : CalOk (pj lw) tables_1 "DynamicMinForest" nm bt 22 := ⟨(List.mem_of_getElem? (i := 120) rfl), (List.mem_of_getElem? (i := 2) rfl), ⟨[], some .int, by decide +kernel, rfl⟩, fun h => absurd h (by decide), fun _ => ⟨rfl, (List.mem_of_getElem? (i := 118) rfl)⟩, fun h => absurd h (by decide), fun _ => (List.mem_of_getElem? (i := 119) rfl), fun h => absurd h (by decide)⟩
theorem cal23 : CalOk (pj lw) tables_1 "DynamicMinForest" nm bt 23 := ⟨(List.mem_of_getElem? (i := 130) rfl), (List.mem_of_getElem? (i := 2) rfl), ⟨[.int, .int, .int, .int], none, by decide +kernel, rfl⟩, fun h => absurd h (by decide), fun _ => ⟨rfl, (List.mem_of_getElem? (i := 128) rfl)⟩, fun h => absurd h (by decide), fun _ => (List.mem_of_getElem? (i := 129) rfl), fun h => absurd h (by decide)⟩
theorem cal24 : CalOk (pj lw) tables_1 "DynamicMinForest" nm bt 24 := ⟨(List.mem_of_getElem? (i := 224) rfl), (List.mem_of_getElem? (i := 2) rfl), ⟨[.int], none, by decide +kernel, rfl⟩, fun h => absurd h (by decide), fun _ => ⟨rfl, (List.mem_of_getElem? (i := 222) rfl)⟩, fun h => absurd h (by decide), fun _ => (List.mem_of_getElem? (i := 223) rfl), fun h => absurd h (by decide)⟩
theorem cal25 : CalOk (pj lw) tables_1 "DynamicMinForest" nm bt 25 := ⟨(List.mem_of_getElem? (i := 146) rfl), (List.mem_of_getElem? (i := 2) rfl), ⟨[.int], none, by decide +kernel, rfl⟩, fun h => absurd h (by decide), fun _ => ⟨rfl, (List.mem_of_getElem? (i := 144) rfl)⟩, fun h => absurd h (by decide), fun _ => (List.mem_of_getElem? (i := 145) rfl), fun h => absurd h (by decide)⟩
theorem cal26 : CalOk (pj lw) tables_1 "DynamicMinForest" nm bt 26 := ⟨(List.mem_of_getElem? (i := 179) rfl), (List.mem_of_getElem? (i := 2) rfl), ⟨[.int], none, by decide +kernel, rfl⟩, fun h => absurd h (by decide), fun _ => ⟨rfl, (List.mem_of_getElem? (i := 177) rfl)⟩, fun h => absurd h (by decide), fun _ => (List.mem_of_getElem? (i := 178) rfl), fun h => absurd h (by decide)⟩
theorem cal27 : CalOk (pj lw) tables_1 "DynamicMinForest" nm bt 27 := ⟨(List.mem_of_getElem? (i := 150) rfl), (List.mem_of_getElem? (i := 2) rfl), ⟨[.int, .int], none, by decide +kernel, rfl⟩, fun h => absurd h (by decide), fun _ => ⟨rfl, (List.mem_of_getElem? (i := 148) rfl)⟩, fun h => absurd h (by decide), fun _ => (List.mem_of_getElem? (i := 149) rfl), fun h => absurd h (by decide)⟩
theorem cal28 : CalOk (pj lw) tables_1 "DynamicMinForest" nm bt 28 := ⟨(List.mem_of_getElem? (i := 183) rfl), (List.mem_of_getElem? (i := 2) rfl), ⟨[.int, .int], none, by decide +kernel, rfl⟩, fun h => absurd h (by decide), fun _ => ⟨rfl, (List.mem_of_getElem? (i := 181) rfl)⟩, fun h => absurd h (by decide), fun _ => (List.mem_of_getElem? (i := 182) rfl), fun h => absurd h (by decide)⟩
theorem cal29 : CalOk (pj lw) tables_1 "DynamicMinForest" nm bt 29 := ⟨(List.mem_of_getElem? (i := 48) rfl), (List.mem_of_getElem? (i := 2) rfl), ⟨[], none, by decide +kernel, rfl⟩, fun h => absurd h (by decide), fun _ => ⟨rfl, (List.mem_of_getElem? (i := 46) rfl)⟩, fun h => absurd h (by decide), fun _ => (List.mem_of_getElem? (i := 47) rfl), fun h => absurd h (by decide)⟩
theorem cal30 : CalOk (pj lw) tables_1 "DynamicMinForest" nm bt 30 := ⟨(List.mem_of_getElem? (i := 138) rfl), (List.mem_of_getElem? (i := 2) rfl), ⟨[.int, .int], some .int, by decide +kernel, rfl⟩, fun h => absurd h (by decide), fun _ => ⟨rfl, (List.mem_of_getElem? (i := 136) rfl)⟩, fun h => absurd h (by decide), fun _ => (List.mem_of_getElem? (i := 137) rfl), fun h => absurd h (by decide)⟩
theorem cal31 : CalOk (pj lw) tables_1 "DynamicMinForest" nm bt 31 := ⟨(List.mem_of_getElem? (i := 142) rfl), (List.mem_of_getElem? (i := 2) rfl), ⟨[.int, .int, .int], some .int, by decide +kernel, rfl⟩, fun h => absurd h (by decide), fun _ => ⟨rfl, (List.mem_of_getElem? (i := 140) rfl)⟩, fun h => absurd h (by decide), fun _ => (List.mem_of_getElem? (i := 141) rfl), fun h => absurd h (by decide)⟩
theorem cal32 : CalOk (pj lw) tables_1 "DynamicMinForest" nm bt 32 := ⟨(List.mem_of_getElem? (i := 203) rfl), (List.mem_of_getElem? (i := 2) rfl), ⟨[.int], some .int, by decide +kernel, rfl⟩, fun h => absurd h (by decide), fun _ => ⟨rfl, (List.mem_of_getElem? (i := 201) rfl)⟩, fun h => absurd h (by decide), fun _ => (List.mem_of_getElem? (i := 202) rfl), fun h => absurd h (by decide)⟩
theorem cal33 : CalOk (pj lw) tables_1 "DynamicMinForest" nm bt 33 := ⟨(List.mem_of_getElem? (i := 187) rfl), (List.mem_of_getElem? (i := 2) rfl), ⟨[], some .int, by decide +kernel, rfl⟩, fun h => absurd h (by decide), fun _ => ⟨rfl, (List.mem_of_getElem? (i := 185) rfl)⟩, fun h => absurd h (by decide), fun _ => (List.mem_of_getElem? (i := 186) rfl), fun h => absurd h (by decide)⟩
theorem cal34 : CalOk (pj lw) tables_1 "DynamicMinForest" nm bt 34 := ⟨(List.mem_of_getElem? (i := 191) rfl), (List.mem_of_getElem? (i := 2) rfl), ⟨[.int], some .boolean, by decide +kernel, rfl⟩, fun h => absurd h (by decide), fun _ => ⟨rfl, (List.mem_of_getElem? (i := 189) rfl)⟩, fun h => absurd h (by decide), fun _ => (List.mem_of_getElem? (i := 190) rfl), fun h => absurd h (by decide)⟩
theorem cal35 : CalOk (pj lw) tables_1 "DynamicMinForest" nm bt 35 := ⟨(List.mem_of_getElem? (i := 199) rfl), (List.mem_of_getElem? (i := 2) rfl), ⟨[.int, .int], some .int, by decide +kernel, rfl⟩, fun h => absurd h (by decide), fun _ => ⟨rfl, (List.mem_of_getElem? (i := 197) rfl)⟩, fun h => absurd h (by decide), fun _ => (List.mem_of_getElem? (i := 198) rfl), fun h => absurd h (by decide)⟩
theorem cal36 : CalOk (pj lw) tables_1 "DynamicMinForest" nm bt 36 := ⟨(List.mem_of_getElem? (i := 211) rfl), (List.mem_of_getElem? (i := 2) rfl), ⟨[.int, .int], some .boolean, by decide +kernel, rfl⟩, fun h => absurd h (by decide), fun _ => ⟨rfl, (List.mem_of_getElem? (i := 209) rfl)⟩, fun h => absurd h (by decide), fun _ => (List.mem_of_getElem? (i := 210) rfl), fun h => absurd h (by decide)⟩
theorem cal37 : CalOk (pj lw) tables_1 "DynamicMinForest" nm bt 37 := ⟨(List.mem_of_getElem? (i := 195) rfl), (List.mem_of_getElem? (i := 2) rfl), ⟨[.int, .int], some .int, by decide +kernel, rfl⟩, fun h => absurd h (by decide), fun _ => ⟨rfl, (List.mem_of_getElem? (i := 193) rfl)⟩, fun h => absurd h (by decide), fun _ => (List.mem_of_getElem? (i := 194) rfl), fun h => absurd h (by decide)⟩
theorem cal38 : CalOk (pj lw) tables_1 "DynamicMinForest" nm bt 38 := ⟨(List.mem_of_getElem? (i := 207) rfl), (List.mem_of_getElem? (i := 2) rfl), ⟨[.int, .int], some .int, by decide +kernel, rfl⟩, fun h => absurd h (by decide), fun _ => ⟨rfl, (List.mem_of_getElem? (i := 205) rfl)⟩, fun h => absurd h (by decide), fun _ => (List.mem_of_getElem? (i := 206) rfl), fun h => absurd h (by decide)⟩
theorem cal39 : CalOk (pj lw) tables_1 "DynamicMinForest" nm bt 39 := ⟨(List.mem_of_getElem? (i := 116) rfl), (List.mem_of_getElem? (i := 2) rfl), ⟨[.int], some .boolean, by decide +kernel, rfl⟩, fun h => absurd h (by decide), fun _ => ⟨rfl, (List.mem_of_getElem? (i := 114) rfl)⟩, fun h => absurd h (by decide), fun _ => (List.mem_of_getElem? (i := 115) rfl), fun h => absurd h (by decide)⟩
theorem cal40 : CalOk (pj lw) tables_1 "DynamicMinForest" nm bt 40 := ⟨(List.mem_of_getElem? (i := 66) rfl), (List.mem_of_getElem? (i := 2) rfl), ⟨[.int], some .boolean, by decide +kernel, rfl⟩, fun h => absurd h (by decide), fun _ => ⟨rfl, (List.mem_of_getElem? (i := 64) rfl)⟩, fun h => absurd h (by decide), fun _ => (List.mem_of_getElem? (i := 65) rfl), fun h => absurd h (by decide)⟩
theorem cal41 : CalOk (pj lw) tables_1 "DynamicMinForest" nm bt 41 := ⟨(List.mem_of_getElem? (i := 124) rfl), (List.mem_of_getElem? (i := 2) rfl), ⟨[.int], some .int, by decide +kernel, rfl⟩, fun h => absurd h (by decide), fun _ => ⟨rfl, (List.mem_of_getElem? (i := 122) rfl)⟩, fun h => absurd h (by decide), fun _ => (List.mem_of_getElem? (i := 123) rfl), fun h => absurd h (by decide)⟩
theorem cal103 : CalOk (pj lw) tables_1 "DynamicMinForest" nm bt 103 := ⟨(List.mem_of_getElem? (i := 52) rfl), (List.mem_of_getElem? (i := 51) rfl), ⟨[.long, .long, .int], some .boolean, by decide +kernel, rfl⟩, fun _ => (List.mem_of_getElem? (i := 50) rfl), fun h => absurd rfl h, fun h => absurd h (by decide), fun h => absurd h (by decide), fun h => absurd h (by decide)⟩
theorem cal104 : CalOk (pj lw) tables_1 "DynamicMinForest" nm bt 104 := ⟨(List.mem_of_getElem? (i := 157) rfl), (List.mem_of_getElem? (i := 51) rfl), ⟨[.long, .long, .int], some .boolean, by decide +kernel, rfl⟩, fun _ => (List.mem_of_getElem? (i := 156) rfl), fun h => absurd rfl h, fun h => absurd h (by decide), fun h => absurd h (by decide), fun h => absurd h (by decide)⟩
theorem cal105 : CalOk (pj lw) tables_1 "DynamicMinForest" nm bt 105 := ⟨(List.mem_of_getElem? (i := 171) rfl), (List.mem_of_getElem? (i := 51) rfl), ⟨[.int, .int], some .int, by decide +kernel, rfl⟩, fun _ => (List.mem_of_getElem? (i := 170) rfl), fun h => absurd rfl h, fun h => absurd h (by decide), fun h => absurd h (by decide), fun h => absurd h (by decide)⟩
theorem cal106 : CalOk (pj lw) tables_1 "DynamicMinForest" nm bt 106 := ⟨(List.mem_of_getElem? (i := 165) rfl), (List.mem_of_getElem? (i := 51) rfl), ⟨[.object "DynamicMinForest", .int], some .long, by decide +kernel, rfl⟩, fun _ => (List.mem_of_getElem? (i := 164) rfl), fun h => absurd rfl h, fun h => absurd h (by decide), fun h => absurd h (by decide), fun h => absurd h (by decide)⟩
theorem cal107 : CalOk (pj lw) tables_1 "DynamicMinForest" nm bt 107 := ⟨(List.mem_of_getElem? (i := 168) rfl), (List.mem_of_getElem? (i := 51) rfl), ⟨[.object "DynamicMinForest", .int, .int, .int], some .long, by decide +kernel, rfl⟩, fun _ => (List.mem_of_getElem? (i := 167) rfl), fun h => absurd rfl h, fun h => absurd h (by decide), fun h => absurd h (by decide), fun h => absurd h (by decide)⟩
theorem hcal : ∀ m ∈ RL, m ≠ 100 → CalOk (pj lw) tables_1 "DynamicMinForest" nm bt m := (faS (fun _ => cal1) (faS (fun _ => cal2) (faS (fun _ => cal3) (faS (fun _ => cal4) (faS (fun _ => cal5) (faS (fun _ => cal6) (faS (fun _ => cal7) (faS (fun _ => cal8) (faS (fun _ => cal9) (faS (fun _ => cal10) (faS (fun _ => cal11) (faS (fun _ => cal12) (faS (fun _ => cal16) (faS (fun _ => cal17) (faS (fun _ => cal18) (faS (fun _ => cal19) (faS (fun _ => cal20) (faS (fun _ => cal21) (faS (fun _ => cal22) (faS (fun _ => cal23) (faS (fun _ => cal24) (faS (fun _ => cal25) (faS (fun _ => cal26) (faS (fun _ => cal27) (faS (fun _ => cal28) (faS (fun _ => cal29) (faS (fun _ => cal30) (faS (fun _ => cal31) (faS (fun _ => cal32) (faS (fun _ => cal33) (faS (fun _ => cal34) (faS (fun _ => cal35) (faS (fun _ => cal36) (faS (fun _ => cal37) (faS (fun _ => cal38) (faS (fun _ => cal39) (faS (fun _ => cal40) (faS (fun _ => cal41) (faS (fun h => absurd rfl h) (faS (fun _ => cal103) (faS (fun _ => cal104) (faS (fun _ => cal105) (faS (fun _ => cal106) (faS (fun _ => cal107) fa0))))))))))))))))))))))))))))))))))))))))))))
theorem hfld : ∀ k ∈ FS, parseFieldDescriptor (fn k).2 = some ((pj lw).2.2.1 k) ∧ (Jvm.Cond.lays "DynamicMinForest" "DynamicMinForest" (fn k).1 (fn k).2 ∈ tables_1 ∨ Jvm.Cond.laysFinal "DynamicMinForest" "DynamicMinForest" (fn k).1 (fn k).2 ∈ tables_1) := (faS ⟨by decide +kernel, Or.inl (List.mem_of_getElem? (i := 34) rfl)⟩ (faS ⟨by decide +kernel, Or.inl (List.mem_of_getElem? (i := 11) rfl)⟩ (faS ⟨by decide +kernel, Or.inl (List.mem_of_getElem? (i := 13) rfl)⟩ (faS ⟨by decide +kernel, Or.inl (List.mem_of_getElem? (i := 15) rfl)⟩ (faS ⟨by decide +kernel, Or.inl (List.mem_of_getElem? (i := 18) rfl)⟩ (faS ⟨by decide +kernel, Or.inl (List.mem_of_getElem? (i := 20) rfl)⟩ (faS ⟨by decide +kernel, Or.inl (List.mem_of_getElem? (i := 22) rfl)⟩ (faS ⟨by decide +kernel, Or.inl (List.mem_of_getElem? (i := 24) rfl)⟩ (faS ⟨by decide +kernel, Or.inl (List.mem_of_getElem? (i := 26) rfl)⟩ (faS ⟨by decide +kernel, Or.inl (List.mem_of_getElem? (i := 28) rfl)⟩ (faS ⟨by decide +kernel, Or.inl (List.mem_of_getElem? (i := 30) rfl)⟩ (faS ⟨by decide +kernel, Or.inl (List.mem_of_getElem? (i := 32) rfl)⟩ (faS ⟨by decide +kernel, Or.inl (List.mem_of_getElem? (i := 36) rfl)⟩ (faS ⟨by decide +kernel, Or.inl (List.mem_of_getElem? (i := 38) rfl)⟩ (faS ⟨by decide +kernel, Or.inl (List.mem_of_getElem? (i := 40) rfl)⟩ (faS ⟨by decide +kernel, Or.inl (List.mem_of_getElem? (i := 42) rfl)⟩ (faS ⟨by decide +kernel, Or.inl (List.mem_of_getElem? (i := 44) rfl)⟩ fa0)))))))))))))))))
theorem good : Good (pj lw) tables_1 "DynamicMinForest" fn FS 17 nm bt RL 100 := by
  refine ⟨(List.mem_of_getElem? (i := 1) rfl), (List.mem_of_getElem? (i := 2) rfl), hfld, by decide +kernel, fun m hm => ?_, hcal, fun m _ pc ins len aux _ _ => by cases ins <;> rfl⟩
  have hpl : plainName "DynamicMinForest" = true ∧ plainName "DynamicMinForestL6" = true := ⟨by first | (simp [plainName, overriddenIn]; done) | decide +kernel, by first | (simp [plainName, overriddenIn]; done) | decide +kernel⟩
  have hcn : ∀ m ∈ RL, (nm m).cls = cn (own m) := by decide +kernel
  have hin : ∀ m ∈ RL, ini m = true → (nm m).cls = "DynamicMinForest" ∧ (nm m).name = "<init>" := by decide +kernel
  have hor : (nm m).cls = "DynamicMinForest" ∨ (nm m).cls = "DynamicMinForestL6" := by rw [hcn m hm]; unfold cn; split <;> simp
  refine ⟨by rcases hor with h | h <;> rw [h] <;> simp [hpl], by rcases hor with h | h <;> rw [h] <;> decide, fun pc ins len aux h => ?_⟩
  have hmem : (pc, ins, len, aux) ∈ rowsOf m := by
    unfold rowsOf
    by_cases g : m < 100
    · rw [if_pos g]; exact lookup_mem (by simpa [pj, g] using h)
    · rw [if_neg g]; exact lookup_mem (by simpa [pj, lw, g] using h)
  have hrow := List.all_eq_true.mp (List.all_eq_true.mp hrows m hm) _ hmem
  simp only [rowOne, Bool.and_eq_true, decide_eq_true_eq] at hrow
  exact ⟨hrow.1.1, hrow.1.2, row_ok (hcn m hm) (hin m hm) hFL hWF hML hKI hKJ hAT (List.mem_of_getElem? (i := 0) rfl) ⟨(List.mem_of_getElem? (i := 6) rfl), (List.mem_of_getElem? (i := 7) rfl), (List.mem_of_getElem? (i := 8) rfl)⟩ hrow.2⟩
set_option maxRecDepth 65536 in
set_option maxHeartbeats 40000000 in
theorem comes_1 {Post : Tables → Env → Array Value → State → Outcome → State → Prop} (hpost : ∀ tb e args s v u, (limb_1_1.after args s (.returned v) u = true ∧ limb_1_2.after args s (.returned v) u = true ∧ True) → FrameEnd s (.returned v) u (Jvm.fieldLocs frame_1_writes args s ++ Jvm.arrayLocs frame_1_arrays args s ++ Jvm.staticLocs frame_1_statics s) 32 3776 → Post tb e args s (.returned v) u) :
    ArmFor flags0 classFile x code maxLocals ret World_1 tables_1 room_1 Calls_1 rest_1 Pre_1 Post := by
  intro l hfl _ _ p e ha hc hk s m args below hf hA hF happ hP
  obtain ⟨hcalls, hrest, hpre⟩ := hP
  obtain ⟨-, -, -, hnamed, -, -, -, hat⟩ := (Spec.applies_iff hf).mp happ
  obtain ⟨hg, hn⟩ := and_e (Cond.before_iff.mp (show (Jvm.Cond.and given_1 narrow_1).before args s = true from hpre))
  have hw := fun d (hd : d ∈ tables_1) => atoms_spec (ws := Jvm.Cond.code x code maxLocals ret :: tables_1) hat d (List.mem_cons_of_mem _ hd)
  obtain ⟨g0, r0⟩ := and_e hg
  obtain ⟨w0, rfl⟩ : ∃ w0 : Value, args = #[w0] := by
    have hs : args.size = 1 := by simpa [Cond.value, given_1] using g0
    obtain ⟨L⟩ := args
    match L, hs with
    | [w0], _ => exact ⟨w0, rfl⟩
  have hfit : Fit s := fun {y c} hc i hi => by
    obtain ⟨ha, rfl⟩ := Array.getElem?_eq_some_iff.mp hc
    have q := List.all_eq_true.mp ((Array.all_eq_true_iff_forall_mem.mp hF) _ (Array.getElem_mem ha)) i (List.mem_range.mpr hi)
    simpa [Array.getElem?_eq_getElem hi] using q
  obtain ⟨n1, n2⟩ := and_e (show (Jvm.Cond.and (Jvm.Cond.arrayOf (Jvm.Term.arg 0) .int) (Jvm.Cond.le (Jvm.Term.length (Jvm.Term.arg 0)) (Jvm.Term.int 260))).value #[w0] s none s [] = some true from hn)
  obtain ⟨a, ea⟩ := arr_v n1
  obtain rfl : w0 = .ref a := Option.some.inj ea
  obtain ⟨cl, A⟩ := Arr.start ea n1
  have hlen : cl.slots.size < 2 ^ 31 ∧ cl.slots.size ≤ 260 := by
    obtain ⟨x, y, h1, h2, -, -⟩ := cmp_v (Or.inr (Or.inr n2))
    have hA0 := A.fin (Vm.Alike.refl _)
    by_cases hs : cl.slots.size < 2 ^ 31
    · refine ⟨hs, ?_⟩
      have e1 := len_f (args := #[.ref a]) (first := s) (o := none) (idx := []) ea hA0 hs
      have e2 : (Term.int (260 : Int32)).eval #[.ref a] s none [] s = some (.int 260) := rfl
      simp only [Cond.value, e1, e2] at n2
      have n3 : cl.slots.size.toInt32 ≤ (260 : Int32) := by simpa using n2
      rw [Int32.le_iff_toInt_le, len_toInt hs] at n3
      have : ((260 : Int32)).toInt = 260 := by decide
      omega
    · exfalso; simp [Term.eval, hA0, hs, ea] at h1
  obtain ⟨f, hR⟩ := rel_H1 (C := "DynamicMinForest") (fn := fn) (F := FS) hfit A hlen.1
  obtain ⟨n, o, h1, h2, h3, _, L, rfl, ⟨N, H2, rfl⟩, hq⟩ := law_met (l := l) (Z := s) (a0 := _) (n0 := s.heap.size) good hw (as := [.ref a]) (h := s.heap) tables_1 (by decide) (by simp [Sym.laidSlots, Value.category]; decide) hR (law_ok s.heap.size a cl.slots.size f A.lt hlen.2) p e ha hc hk s m _ below hf ((Spec.applies_iff_loose hf).mp happ).1 ⟨rfl, State.Warmed39.refl s, rfl⟩ trivial
  exact ⟨n, _, h1, h2, h3, hpost _ _ _ _ _ _ ⟨Cond.after_iff.mpr rfl, Cond.after_iff.mpr (eq_i res_at (Term.int_eval (1)) rfl), trivial⟩ ⟨hq.1, hq.2.1, (hq.2.2.sift fun y hy => Or.inr (N y hy)).mono (by decide) (by decide)⟩⟩
theorem main_1_1 : Claimed_1_1 := comes_1 fun _ _ _ _ _ _ h hF => ⟨h.1, hF⟩
theorem main_1_2 : Claimed_1_2 := comes_1 fun _ _ _ _ _ _ h hF => ⟨h.2.1, hF⟩
end Jvm.Pilot.@@N@@
namespace Jvm.Pilot.@@N@@
open Jvm Jvm.ClassFile Sem Op Lib Jvm.Free Jvm.Stand Jvm.Pilot.@@N@@.Jvm.D
/-! MADE BY PROGRAM (witnessworld.py) out of the Statement's table words and the real class files: 11 classes; the members and pool entries that the words name. The judged class is class 1, her method 1. -/
namespace start1
open Jvm.ClassFile
def u (s : String) : CpInfo := .utf8 (stringToUtf16 s)
/-- a pool by its gaps: so many unusable entries, then the entry; so many at the end -/
def gap : Nat → List CpInfo → List CpInfo
  | 0, r => r
  | n + 1, r => .unusable :: gap n r
def poolList (es : List (Nat × CpInfo)) (last : Nat) : List CpInfo := es.foldr (fun e r => gap e.1 (e.2 :: r)) (gap last [])
def pool (es : List (Nat × CpInfo)) (last : Nat) : Array CpInfo := ⟨poolList es last⟩
def fileOf (pool : Array CpInfo) (this : Nat) (attrs : Array Attribute := #[]) (ms : Array MethodInfo := #[]) (fl : Nat := 33) (sup : Nat := 0) (ifs : Array Nat := #[]) (fds : Array FieldInfo := #[]) : ClassFile where
  minorVersion := 0
  majorVersion := 65
  constantPool := pool
  accessFlags := fl
  thisClass := this
  superClass := sup
  interfaces := ifs
  fields := fds
  methods := ms
  attributes := attrs
def plain (name : String) (sup : Option ClassId) : Class where
  name := name
  kind := .ordinary
  loader := none
  accessFlags := 33
  super := sup
  interfaces := #[]
  cf := none
  fields := #[]
  methods := #[]
  instanceTypes := #[]
  staticTypes := #[]
  resolved := #[]
  callSites := []
  init := .initialized
  statics := none
  mirror := none

def pool0 : Array CpInfo := pool [(5, u "<init>"), (0, u "()V"), (1, .class_ 10), (1, u "java/lang/Object")] 113

def k0c0 : Code := { maxStack := 0, maxLocals := 1, code := object_method_1_code, exceptionTable := #[], attributes := #[] }
def k0m0 : Method := { name := "<init>", desc := "()V", sig := { parameters := [], returnType := none }, accessFlags := 1, code := some k0c0 }
/-- java/lang/Object -/
def k0 : Class := { plain "java/lang/Object" none with
  accessFlags := 33
  interfaces := #[]
  cf := some (fileOf pool0 8 #[] #[{ accessFlags := 1, nameIndex := 5, descriptorIndex := 6, attributes := #[] }] 33 0 #[] #[])
  fields := #[]
  methods := #[k0m0]
  instanceTypes := #[]
  staticTypes := #[]
  resolved := Array.replicate 124 none
  statics := none }

def pool1 : Array CpInfo := pool [(2, .class_ 4), (1, u "java/lang/Object"), (0, u "<init>"), (0, u "()V"), (0, .class_ 8), (0, u "DynamicMinForest"), (0, .methodref 7 10), (0, .nameAndType 5 11), (0, u "(I)V"), (0, .methodref 7 13), (0, .nameAndType 14 15), (0, u "addEdge"), (0, u "(III)I"), (0, .methodref 17 18), (0, .class_ 19), (0, .nameAndType 20 21), (0, u "DynamicMinForestL6"), (0, u "bit"), (0, u "(JJI)Z"), (0, .methodref 17 23), (0, .nameAndType 24 21), (0, u "lowerFull"), (0, .methodref 7 26), (0, .nameAndType 27 28), (0, u "lastEntered"), (0, u "()I"), (0, .methodref 7 30), (0, .nameAndType 31 28), (0, u "lastLeft"), (0, .methodref 7 33), (0, .nameAndType 34 35), (0, u "isTreeEdge"), (0, u "(I)Z"), (0, .methodref 7 37), (0, .nameAndType 38 39), (0, u "edgeWeight"), (0, u "(I)I"), (0, .methodref 7 41), (0, .nameAndType 42 43), (0, u "edgeEnd"), (0, u "(II)I"), (0, .methodref 17 45), (0, .nameAndType 46 47), (0, u "wIn"), (0, u "(LDynamicMinForest;I)J"), (0, .methodref 17 49), (0, .nameAndType 50 51), (0, u "wOut"), (0, u "(LDynamicMinForest;III)J"), (0, .methodref 17 53), (0, .nameAndType 54 43), (0, u "step"), (0, .methodref 7 56), (0, .nameAndType 57 35), (0, u "removeEdge"), (0, .methodref 7 59), (0, .nameAndType 60 61), (0, u "setWeight"), (0, u "(II)Z"), (0, .long 18446744073709551615), (1, .methodref 7 65), (0, .nameAndType 66 28), (0, u "edgeCount"), (0, .methodref 7 68), (0, .nameAndType 69 28), (0, u "forestEdgeCount"), (0, .methodref 7 71), (0, .nameAndType 72 28), (0, u "componentCount"), (0, .methodref 7 74), (0, .nameAndType 75 76), (0, u "forestWeight"), (0, u "()J"), (0, .methodref 7 78), (0, .nameAndType 79 35), (0, u "isPresent"), (2, u "law"), (0, u "([I)Z")] 5

def k1m0 : Method := { name := "<init>", desc := "()V", sig := { parameters := [], returnType := none }, accessFlags := 1, code := none }
def k1c1 : Code := { maxStack := 8, maxLocals := 26, code := code, exceptionTable := #[], attributes := #[] }
def k1m1 : Method := { name := "law", desc := "([I)Z", sig := { parameters := [(.array .int)], returnType := some .boolean }, accessFlags := 9, code := some k1c1 }
def k1c2 : Code := { maxStack := 4, maxLocals := 5, code := method_3_code, exceptionTable := #[], attributes := #[] }
def k1m2 : Method := { name := "bit", desc := "(JJI)Z", sig := { parameters := [.long, .long, .int], returnType := some .boolean }, accessFlags := 10, code := some k1c2 }
def k1c3 : Code := { maxStack := 4, maxLocals := 7, code := method_4_code, exceptionTable := #[], attributes := #[] }
def k1m3 : Method := { name := "lowerFull", desc := "(JJI)Z", sig := { parameters := [.long, .long, .int], returnType := some .boolean }, accessFlags := 10, code := some k1c3 }
def k1c4 : Code := { maxStack := 3, maxLocals := 2, code := method_5_code, exceptionTable := #[], attributes := #[] }
def k1m4 : Method := { name := "step", desc := "(II)I", sig := { parameters := [.int, .int], returnType := some .int }, accessFlags := 10, code := some k1c4 }
def k1c5 : Code := { maxStack := 2, maxLocals := 2, code := method_6_code, exceptionTable := #[], attributes := #[] }
def k1m5 : Method := { name := "wIn", desc := "(LDynamicMinForest;I)J", sig := { parameters := [(.object "DynamicMinForest"), .int], returnType := some .long }, accessFlags := 10, code := some k1c5 }
def k1c6 : Code := { maxStack := 2, maxLocals := 4, code := method_7_code, exceptionTable := #[], attributes := #[] }
def k1m6 : Method := { name := "wOut", desc := "(LDynamicMinForest;III)J", sig := { parameters := [(.object "DynamicMinForest"), .int, .int, .int], returnType := some .long }, accessFlags := 10, code := some k1c6 }
/-- DynamicMinForestL6 -/
def k1 : Class := { plain "DynamicMinForestL6" (some 0) with
  accessFlags := 33
  interfaces := #[]
  cf := some (fileOf pool1 17 #[] #[{ accessFlags := 1, nameIndex := 5, descriptorIndex := 6, attributes := #[] }, { accessFlags := 9, nameIndex := 82, descriptorIndex := 83, attributes := #[] }, { accessFlags := 10, nameIndex := 20, descriptorIndex := 21, attributes := #[] }, { accessFlags := 10, nameIndex := 24, descriptorIndex := 21, attributes := #[] }, { accessFlags := 10, nameIndex := 54, descriptorIndex := 43, attributes := #[] }, { accessFlags := 10, nameIndex := 46, descriptorIndex := 47, attributes := #[] }, { accessFlags := 10, nameIndex := 50, descriptorIndex := 51, attributes := #[] }] 33 2 #[] #[])
  fields := #[]
  methods := #[k1m0, k1m1, k1m2, k1m3, k1m4, k1m5, k1m6]
  instanceTypes := #[]
  staticTypes := #[]
  resolved := Array.replicate 89 none
  statics := none }

def pool2 : Array CpInfo := pool [(1, .methodref 2 3), (0, .class_ 4), (0, .nameAndType 5 6), (0, u "java/lang/Object"), (0, u "<init>"), (0, u "()V"), (0, .fieldref 8 9), (0, .class_ 10), (0, .nameAndType 11 12), (0, u "DynamicMinForest"), (0, u "endA"), (0, u "[I"), (0, .fieldref 8 14), (0, .nameAndType 15 12), (0, u "endB"), (0, .fieldref 8 17), (0, .nameAndType 18 12), (0, u "weight"), (0, .fieldref 8 20), (0, .nameAndType 21 22), (0, u "used"), (0, u "[Z"), (0, .fieldref 8 24), (0, .nameAndType 25 22), (0, u "inTree"), (0, .fieldref 8 27), (0, .nameAndType 28 12), (0, u "adj"), (0, .fieldref 8 30), (0, .nameAndType 31 12), (0, u "deg"), (0, .fieldref 8 33), (0, .nameAndType 34 22), (0, u "seen"), (0, .fieldref 8 36), (0, .nameAndType 37 12), (0, u "parentEdge"), (0, .fieldref 8 39), (0, .nameAndType 40 12), (0, u "parentVertex"), (0, .fieldref 8 42), (0, .nameAndType 43 12), (0, u "queue"), (0, .fieldref 8 45), (0, .nameAndType 46 47), (0, u "n"), (0, u "I"), (0, .fieldref 8 49), (0, .nameAndType 50 47), (0, u "presentCount"), (0, .fieldref 8 52), (0, .nameAndType 53 47), (0, u "treeCount"), (0, .fieldref 8 55), (0, .nameAndType 56 57), (0, u "treeWeight"), (0, u "J"), (0, .fieldref 8 59), (0, .nameAndType 60 47), (0, u "entered"), (0, .fieldref 8 62), (0, .nameAndType 63 47), (0, u "left"), (0, .methodref 8 65), (0, .nameAndType 66 6), (0, u "resetSearch"), (0, .methodref 8 68), (0, .nameAndType 69 70), (0, u "validVertex"), (0, u "(I)Z"), (0, .methodref 8 72), (0, .nameAndType 73 74), (0, u "lowestFreeSlot"), (0, u "()I"), (0, .methodref 8 76), (0, .nameAndType 77 78), (0, u "clampWeight"), (0, u "(I)I"), (0, .methodref 8 80), (0, .nameAndType 81 82), (0, u "storeEdge"), (0, u "(IIII)V"), (0, .methodref 8 84), (0, .nameAndType 85 86), (0, u "insertUpdate"), (0, u "(I)V"), (0, .methodref 8 88), (0, .nameAndType 89 70), (0, u "isPresent"), (0, .methodref 8 91), (0, .nameAndType 92 86), (0, u "freeSlot"), (0, .methodref 8 94), (0, .nameAndType 95 96), (0, u "setLast"), (0, u "(II)V"), (0, .methodref 8 98), (0, .nameAndType 99 86), (0, u "cutTreeEdge"), (0, .methodref 8 101), (0, .nameAndType 102 96), (0, u "reweightTreeEdge"), (0, .methodref 8 104), (0, .nameAndType 105 70), (0, u "validId"), (0, .methodref 8 107), (0, .nameAndType 108 109), (0, u "explore"), (0, u "(II)I"), (0, .methodref 8 111), (0, .nameAndType 112 78), (0, u "heaviestOnPathTo"), (2, u "isTreeEdge"), (0, .methodref 8 117), (0, .nameAndType 118 74), (0, u "lightestCrossing"), (0, .methodref 8 120), (0, .nameAndType 121 86), (0, u "joinTree"), (0, .methodref 8 123), (0, .nameAndType 124 125), (0, u "precedes"), (0, u "(II)Z"), (0, .methodref 8 127), (0, .nameAndType 128 86), (0, u "leaveTree"), (0, .methodref 8 130), (0, .nameAndType 131 96), (0, u "addAdjacent"), (0, .methodref 8 133), (0, .nameAndType 134 96), (0, u "removeAdjacent"), (0, .methodref 8 136), (0, .nameAndType 137 138), (0, u "visitNeighbours"), (0, u "(III)I"), (0, .methodref 8 140), (0, .nameAndType 141 109), (0, u "otherEnd"), (0, .methodref 8 143), (0, .nameAndType 144 109), (0, u "heavier"), (0, .methodref 8 146), (0, .nameAndType 147 70), (0, u "crosses"), (0, .methodref 8 149), (0, .nameAndType 150 109), (0, u "lighter"), (0, .integer 4293967296), (0, .integer 1000000), (0, u "MIN_VERTICES"), (2, u "MAX_VERTICES"), (1, u "MAX_EDGES"), (1, u "MIN_WEIGHT"), (0, u "MAX_WEIGHT"), (0, u "NONE"), (1, u "ERR_VERTEX"), (1, u "ERR_LOOP"), (1, u "ERR_FULL"), (4, u "addEdge"), (0, u "removeEdge"), (0, u "setWeight"), (0, u "edgeEnd"), (0, u "edgeWeight"), (0, u "edgeCount"), (0, u "forestWeight"), (0, u "()J"), (0, u "forestEdgeCount"), (0, u "componentCount"), (3, u "lastEntered"), (0, u "lastLeft")] 2

def k2c0 : Code := { maxStack := 3, maxLocals := 4, code := prog_1_method_1_code, exceptionTable := #[], attributes := #[] }
def k2m0 : Method := { name := "<init>", desc := "(I)V", sig := { parameters := [.int], returnType := none }, accessFlags := 1, code := some k2c0 }
def k2c1 : Code := { maxStack := 5, maxLocals := 6, code := prog_1_method_2_code, exceptionTable := #[], attributes := #[] }
def k2m1 : Method := { name := "addEdge", desc := "(III)I", sig := { parameters := [.int, .int, .int], returnType := some .int }, accessFlags := 1, code := some k2c1 }
def k2c2 : Code := { maxStack := 3, maxLocals := 2, code := prog_1_method_3_code, exceptionTable := #[], attributes := #[] }
def k2m2 : Method := { name := "removeEdge", desc := "(I)Z", sig := { parameters := [.int], returnType := some .boolean }, accessFlags := 1, code := some k2c2 }
def k2c3 : Code := { maxStack := 3, maxLocals := 4, code := prog_1_method_4_code, exceptionTable := #[], attributes := #[] }
def k2m3 : Method := { name := "setWeight", desc := "(II)Z", sig := { parameters := [.int, .int], returnType := some .boolean }, accessFlags := 1, code := some k2c3 }
def k2c4 : Code := { maxStack := 2, maxLocals := 2, code := prog_1_method_5_code, exceptionTable := #[], attributes := #[] }
def k2m4 : Method := { name := "isPresent", desc := "(I)Z", sig := { parameters := [.int], returnType := some .boolean }, accessFlags := 1, code := some k2c4 }
def k2c5 : Code := { maxStack := 2, maxLocals := 2, code := prog_1_method_6_code, exceptionTable := #[], attributes := #[] }
def k2m5 : Method := { name := "isTreeEdge", desc := "(I)Z", sig := { parameters := [.int], returnType := some .boolean }, accessFlags := 1, code := some k2c5 }
def k2c6 : Code := { maxStack := 2, maxLocals := 3, code := prog_1_method_7_code, exceptionTable := #[], attributes := #[] }
def k2m6 : Method := { name := "edgeEnd", desc := "(II)I", sig := { parameters := [.int, .int], returnType := some .int }, accessFlags := 1, code := some k2c6 }
def k2c7 : Code := { maxStack := 2, maxLocals := 2, code := prog_1_method_8_code, exceptionTable := #[], attributes := #[] }
def k2m7 : Method := { name := "edgeWeight", desc := "(I)I", sig := { parameters := [.int], returnType := some .int }, accessFlags := 1, code := some k2c7 }
def k2c8 : Code := { maxStack := 1, maxLocals := 1, code := prog_1_method_9_code, exceptionTable := #[], attributes := #[] }
def k2m8 : Method := { name := "edgeCount", desc := "()I", sig := { parameters := [], returnType := some .int }, accessFlags := 1, code := some k2c8 }
def k2c9 : Code := { maxStack := 2, maxLocals := 1, code := prog_1_method_10_code, exceptionTable := #[], attributes := #[] }
def k2m9 : Method := { name := "forestWeight", desc := "()J", sig := { parameters := [], returnType := some .long }, accessFlags := 1, code := some k2c9 }
def k2c10 : Code := { maxStack := 1, maxLocals := 1, code := prog_1_method_11_code, exceptionTable := #[], attributes := #[] }
def k2m10 : Method := { name := "forestEdgeCount", desc := "()I", sig := { parameters := [], returnType := some .int }, accessFlags := 1, code := some k2c10 }
def k2c11 : Code := { maxStack := 2, maxLocals := 1, code := prog_1_method_12_code, exceptionTable := #[], attributes := #[] }
def k2m11 : Method := { name := "componentCount", desc := "()I", sig := { parameters := [], returnType := some .int }, accessFlags := 1, code := some k2c11 }
def k2c12 : Code := { maxStack := 1, maxLocals := 1, code := prog_1_method_16_code, exceptionTable := #[], attributes := #[] }
def k2m12 : Method := { name := "lastEntered", desc := "()I", sig := { parameters := [], returnType := some .int }, accessFlags := 1, code := some k2c12 }
def k2c13 : Code := { maxStack := 1, maxLocals := 1, code := prog_1_method_17_code, exceptionTable := #[], attributes := #[] }
def k2m13 : Method := { name := "lastLeft", desc := "()I", sig := { parameters := [], returnType := some .int }, accessFlags := 1, code := some k2c13 }
def k2c14 : Code := { maxStack := 3, maxLocals := 4, code := prog_1_method_18_code, exceptionTable := #[], attributes := #[] }
def k2m14 : Method := { name := "insertUpdate", desc := "(I)V", sig := { parameters := [.int], returnType := none }, accessFlags := 2, code := some k2c14 }
def k2c15 : Code := { maxStack := 3, maxLocals := 3, code := prog_1_method_19_code, exceptionTable := #[], attributes := #[] }
def k2m15 : Method := { name := "cutTreeEdge", desc := "(I)V", sig := { parameters := [.int], returnType := none }, accessFlags := 2, code := some k2c15 }
def k2c16 : Code := { maxStack := 3, maxLocals := 4, code := prog_1_method_20_code, exceptionTable := #[], attributes := #[] }
def k2m16 : Method := { name := "reweightTreeEdge", desc := "(II)V", sig := { parameters := [.int, .int], returnType := none }, accessFlags := 2, code := some k2c16 }
def k2c17 : Code := { maxStack := 2, maxLocals := 3, code := prog_1_method_21_code, exceptionTable := #[], attributes := #[] }
def k2m17 : Method := { name := "setLast", desc := "(II)V", sig := { parameters := [.int, .int], returnType := none }, accessFlags := 2, code := some k2c17 }
def k2c18 : Code := { maxStack := 2, maxLocals := 2, code := prog_1_method_22_code, exceptionTable := #[], attributes := #[] }
def k2m18 : Method := { name := "lowestFreeSlot", desc := "()I", sig := { parameters := [], returnType := some .int }, accessFlags := 2, code := some k2c18 }
def k2c19 : Code := { maxStack := 3, maxLocals := 5, code := prog_1_method_23_code, exceptionTable := #[], attributes := #[] }
def k2m19 : Method := { name := "storeEdge", desc := "(IIII)V", sig := { parameters := [.int, .int, .int, .int], returnType := none }, accessFlags := 2, code := some k2c19 }
def k2c20 : Code := { maxStack := 3, maxLocals := 2, code := prog_1_method_24_code, exceptionTable := #[], attributes := #[] }
def k2m20 : Method := { name := "freeSlot", desc := "(I)V", sig := { parameters := [.int], returnType := none }, accessFlags := 2, code := some k2c20 }
def k2c21 : Code := { maxStack := 5, maxLocals := 2, code := prog_1_method_25_code, exceptionTable := #[], attributes := #[] }
def k2m21 : Method := { name := "joinTree", desc := "(I)V", sig := { parameters := [.int], returnType := none }, accessFlags := 2, code := some k2c21 }
def k2c22 : Code := { maxStack := 5, maxLocals := 2, code := prog_1_method_26_code, exceptionTable := #[], attributes := #[] }
def k2m22 : Method := { name := "leaveTree", desc := "(I)V", sig := { parameters := [.int], returnType := none }, accessFlags := 2, code := some k2c22 }
def k2c23 : Code := { maxStack := 4, maxLocals := 3, code := prog_1_method_27_code, exceptionTable := #[], attributes := #[] }
def k2m23 : Method := { name := "addAdjacent", desc := "(II)V", sig := { parameters := [.int, .int], returnType := none }, accessFlags := 2, code := some k2c23 }
def k2c24 : Code := { maxStack := 6, maxLocals := 5, code := prog_1_method_28_code, exceptionTable := #[], attributes := #[] }
def k2m24 : Method := { name := "removeAdjacent", desc := "(II)V", sig := { parameters := [.int, .int], returnType := none }, accessFlags := 2, code := some k2c24 }
def k2c25 : Code := { maxStack := 3, maxLocals := 2, code := prog_1_method_29_code, exceptionTable := #[], attributes := #[] }
def k2m25 : Method := { name := "resetSearch", desc := "()V", sig := { parameters := [], returnType := none }, accessFlags := 2, code := some k2c25 }
def k2c26 : Code := { maxStack := 4, maxLocals := 5, code := prog_1_method_30_code, exceptionTable := #[], attributes := #[] }
def k2m26 : Method := { name := "explore", desc := "(II)I", sig := { parameters := [.int, .int], returnType := some .int }, accessFlags := 2, code := some k2c26 }
def k2c27 : Code := { maxStack := 3, maxLocals := 9, code := prog_1_method_31_code, exceptionTable := #[], attributes := #[] }
def k2m27 : Method := { name := "visitNeighbours", desc := "(III)I", sig := { parameters := [.int, .int, .int], returnType := some .int }, accessFlags := 2, code := some k2c27 }
def k2c28 : Code := { maxStack := 3, maxLocals := 6, code := prog_1_method_32_code, exceptionTable := #[], attributes := #[] }
def k2m28 : Method := { name := "heaviestOnPathTo", desc := "(I)I", sig := { parameters := [.int], returnType := some .int }, accessFlags := 2, code := some k2c28 }
def k2c29 : Code := { maxStack := 3, maxLocals := 3, code := prog_1_method_33_code, exceptionTable := #[], attributes := #[] }
def k2m29 : Method := { name := "lightestCrossing", desc := "()I", sig := { parameters := [], returnType := some .int }, accessFlags := 2, code := some k2c29 }
def k2c30 : Code := { maxStack := 3, maxLocals := 4, code := prog_1_method_34_code, exceptionTable := #[], attributes := #[] }
def k2m30 : Method := { name := "crosses", desc := "(I)Z", sig := { parameters := [.int], returnType := some .boolean }, accessFlags := 2, code := some k2c30 }
def k2c31 : Code := { maxStack := 2, maxLocals := 3, code := prog_1_method_35_code, exceptionTable := #[], attributes := #[] }
def k2m31 : Method := { name := "otherEnd", desc := "(II)I", sig := { parameters := [.int, .int], returnType := some .int }, accessFlags := 2, code := some k2c31 }
def k2c32 : Code := { maxStack := 3, maxLocals := 3, code := prog_1_method_36_code, exceptionTable := #[], attributes := #[] }
def k2m32 : Method := { name := "precedes", desc := "(II)Z", sig := { parameters := [.int, .int], returnType := some .boolean }, accessFlags := 2, code := some k2c32 }
def k2c33 : Code := { maxStack := 3, maxLocals := 3, code := prog_1_method_37_code, exceptionTable := #[], attributes := #[] }
def k2m33 : Method := { name := "lighter", desc := "(II)I", sig := { parameters := [.int, .int], returnType := some .int }, accessFlags := 2, code := some k2c33 }
def k2c34 : Code := { maxStack := 3, maxLocals := 3, code := prog_1_method_38_code, exceptionTable := #[], attributes := #[] }
def k2m34 : Method := { name := "heavier", desc := "(II)I", sig := { parameters := [.int, .int], returnType := some .int }, accessFlags := 2, code := some k2c34 }
def k2c35 : Code := { maxStack := 2, maxLocals := 2, code := prog_1_method_39_code, exceptionTable := #[], attributes := #[] }
def k2m35 : Method := { name := "validVertex", desc := "(I)Z", sig := { parameters := [.int], returnType := some .boolean }, accessFlags := 2, code := some k2c35 }
def k2c36 : Code := { maxStack := 2, maxLocals := 2, code := prog_1_method_40_code, exceptionTable := #[], attributes := #[] }
def k2m36 : Method := { name := "validId", desc := "(I)Z", sig := { parameters := [.int], returnType := some .boolean }, accessFlags := 2, code := some k2c36 }
def k2c37 : Code := { maxStack := 2, maxLocals := 2, code := prog_1_method_41_code, exceptionTable := #[], attributes := #[] }
def k2m37 : Method := { name := "clampWeight", desc := "(I)I", sig := { parameters := [.int], returnType := some .int }, accessFlags := 2, code := some k2c37 }
/-- DynamicMinForest -/
def k2 : Class := { plain "DynamicMinForest" (some 0) with
  accessFlags := 49
  interfaces := #[]
  cf := some (fileOf pool2 8 #[] #[{ accessFlags := 1, nameIndex := 5, descriptorIndex := 86, attributes := #[] }, { accessFlags := 1, nameIndex := 173, descriptorIndex := 138, attributes := #[] }, { accessFlags := 1, nameIndex := 174, descriptorIndex := 70, attributes := #[] }, { accessFlags := 1, nameIndex := 175, descriptorIndex := 125, attributes := #[] }, { accessFlags := 1, nameIndex := 89, descriptorIndex := 70, attributes := #[] }, { accessFlags := 1, nameIndex := 115, descriptorIndex := 70, attributes := #[] }, { accessFlags := 1, nameIndex := 176, descriptorIndex := 109, attributes := #[] }, { accessFlags := 1, nameIndex := 177, descriptorIndex := 78, attributes := #[] }, { accessFlags := 1, nameIndex := 178, descriptorIndex := 74, attributes := #[] }, { accessFlags := 1, nameIndex := 179, descriptorIndex := 180, attributes := #[] }, { accessFlags := 1, nameIndex := 181, descriptorIndex := 74, attributes := #[] }, { accessFlags := 1, nameIndex := 182, descriptorIndex := 74, attributes := #[] }, { accessFlags := 1, nameIndex := 186, descriptorIndex := 74, attributes := #[] }, { accessFlags := 1, nameIndex := 187, descriptorIndex := 74, attributes := #[] }, { accessFlags := 2, nameIndex := 85, descriptorIndex := 86, attributes := #[] }, { accessFlags := 2, nameIndex := 99, descriptorIndex := 86, attributes := #[] }, { accessFlags := 2, nameIndex := 102, descriptorIndex := 96, attributes := #[] }, { accessFlags := 2, nameIndex := 95, descriptorIndex := 96, attributes := #[] }, { accessFlags := 2, nameIndex := 73, descriptorIndex := 74, attributes := #[] }, { accessFlags := 2, nameIndex := 81, descriptorIndex := 82, attributes := #[] }, { accessFlags := 2, nameIndex := 92, descriptorIndex := 86, attributes := #[] }, { accessFlags := 2, nameIndex := 121, descriptorIndex := 86, attributes := #[] }, { accessFlags := 2, nameIndex := 128, descriptorIndex := 86, attributes := #[] }, { accessFlags := 2, nameIndex := 131, descriptorIndex := 96, attributes := #[] }, { accessFlags := 2, nameIndex := 134, descriptorIndex := 96, attributes := #[] }, { accessFlags := 2, nameIndex := 66, descriptorIndex := 6, attributes := #[] }, { accessFlags := 2, nameIndex := 108, descriptorIndex := 109, attributes := #[] }, { accessFlags := 2, nameIndex := 137, descriptorIndex := 138, attributes := #[] }, { accessFlags := 2, nameIndex := 112, descriptorIndex := 78, attributes := #[] }, { accessFlags := 2, nameIndex := 118, descriptorIndex := 74, attributes := #[] }, { accessFlags := 2, nameIndex := 147, descriptorIndex := 70, attributes := #[] }, { accessFlags := 2, nameIndex := 141, descriptorIndex := 109, attributes := #[] }, { accessFlags := 2, nameIndex := 124, descriptorIndex := 125, attributes := #[] }, { accessFlags := 2, nameIndex := 150, descriptorIndex := 109, attributes := #[] }, { accessFlags := 2, nameIndex := 144, descriptorIndex := 109, attributes := #[] }, { accessFlags := 2, nameIndex := 69, descriptorIndex := 70, attributes := #[] }, { accessFlags := 2, nameIndex := 105, descriptorIndex := 70, attributes := #[] }, { accessFlags := 2, nameIndex := 77, descriptorIndex := 78, attributes := #[] }] 49 2 #[] #[{ accessFlags := 25, nameIndex := 153, descriptorIndex := 47, attributes := #[] }, { accessFlags := 25, nameIndex := 156, descriptorIndex := 47, attributes := #[] }, { accessFlags := 25, nameIndex := 158, descriptorIndex := 47, attributes := #[] }, { accessFlags := 25, nameIndex := 160, descriptorIndex := 47, attributes := #[] }, { accessFlags := 25, nameIndex := 161, descriptorIndex := 47, attributes := #[] }, { accessFlags := 25, nameIndex := 162, descriptorIndex := 47, attributes := #[] }, { accessFlags := 25, nameIndex := 164, descriptorIndex := 47, attributes := #[] }, { accessFlags := 25, nameIndex := 166, descriptorIndex := 47, attributes := #[] }, { accessFlags := 25, nameIndex := 168, descriptorIndex := 47, attributes := #[] }, { accessFlags := 2, nameIndex := 46, descriptorIndex := 47, attributes := #[] }, { accessFlags := 2, nameIndex := 11, descriptorIndex := 12, attributes := #[] }, { accessFlags := 2, nameIndex := 15, descriptorIndex := 12, attributes := #[] }, { accessFlags := 2, nameIndex := 18, descriptorIndex := 12, attributes := #[] }, { accessFlags := 2, nameIndex := 21, descriptorIndex := 22, attributes := #[] }, { accessFlags := 2, nameIndex := 25, descriptorIndex := 22, attributes := #[] }, { accessFlags := 2, nameIndex := 28, descriptorIndex := 12, attributes := #[] }, { accessFlags := 2, nameIndex := 31, descriptorIndex := 12, attributes := #[] }, { accessFlags := 2, nameIndex := 34, descriptorIndex := 22, attributes := #[] }, { accessFlags := 2, nameIndex := 37, descriptorIndex := 12, attributes := #[] }, { accessFlags := 2, nameIndex := 40, descriptorIndex := 12, attributes := #[] }, { accessFlags := 2, nameIndex := 43, descriptorIndex := 12, attributes := #[] }, { accessFlags := 2, nameIndex := 50, descriptorIndex := 47, attributes := #[] }, { accessFlags := 2, nameIndex := 53, descriptorIndex := 47, attributes := #[] }, { accessFlags := 2, nameIndex := 56, descriptorIndex := 57, attributes := #[] }, { accessFlags := 2, nameIndex := 60, descriptorIndex := 47, attributes := #[] }, { accessFlags := 2, nameIndex := 63, descriptorIndex := 47, attributes := #[] }])
  fields := #[{ name := "MIN_VERTICES", type := .int, accessFlags := 25, slot := 0, constantValue := 0 }, { name := "MAX_VERTICES", type := .int, accessFlags := 25, slot := 1, constantValue := 0 }, { name := "MAX_EDGES", type := .int, accessFlags := 25, slot := 2, constantValue := 0 }, { name := "MIN_WEIGHT", type := .int, accessFlags := 25, slot := 3, constantValue := 0 }, { name := "MAX_WEIGHT", type := .int, accessFlags := 25, slot := 4, constantValue := 0 }, { name := "NONE", type := .int, accessFlags := 25, slot := 5, constantValue := 0 }, { name := "ERR_VERTEX", type := .int, accessFlags := 25, slot := 6, constantValue := 0 }, { name := "ERR_LOOP", type := .int, accessFlags := 25, slot := 7, constantValue := 0 }, { name := "ERR_FULL", type := .int, accessFlags := 25, slot := 8, constantValue := 0 }, { name := "n", type := .int, accessFlags := 2, slot := 0, constantValue := 0 }, { name := "endA", type := (.array .int), accessFlags := 2, slot := 1, constantValue := 0 }, { name := "endB", type := (.array .int), accessFlags := 2, slot := 2, constantValue := 0 }, { name := "weight", type := (.array .int), accessFlags := 2, slot := 3, constantValue := 0 }, { name := "used", type := (.array .boolean), accessFlags := 2, slot := 4, constantValue := 0 }, { name := "inTree", type := (.array .boolean), accessFlags := 2, slot := 5, constantValue := 0 }, { name := "adj", type := (.array .int), accessFlags := 2, slot := 6, constantValue := 0 }, { name := "deg", type := (.array .int), accessFlags := 2, slot := 7, constantValue := 0 }, { name := "seen", type := (.array .boolean), accessFlags := 2, slot := 8, constantValue := 0 }, { name := "parentEdge", type := (.array .int), accessFlags := 2, slot := 9, constantValue := 0 }, { name := "parentVertex", type := (.array .int), accessFlags := 2, slot := 10, constantValue := 0 }, { name := "queue", type := (.array .int), accessFlags := 2, slot := 11, constantValue := 0 }, { name := "presentCount", type := .int, accessFlags := 2, slot := 12, constantValue := 0 }, { name := "treeCount", type := .int, accessFlags := 2, slot := 13, constantValue := 0 }, { name := "treeWeight", type := .long, accessFlags := 2, slot := 14, constantValue := 0 }, { name := "entered", type := .int, accessFlags := 2, slot := 15, constantValue := 0 }, { name := "left", type := .int, accessFlags := 2, slot := 16, constantValue := 0 }]
  methods := #[k2m0, k2m1, k2m2, k2m3, k2m4, k2m5, k2m6, k2m7, k2m8, k2m9, k2m10, k2m11, k2m12, k2m13, k2m14, k2m15, k2m16, k2m17, k2m18, k2m19, k2m20, k2m21, k2m22, k2m23, k2m24, k2m25, k2m26, k2m27, k2m28, k2m29, k2m30, k2m31, k2m32, k2m33, k2m34, k2m35, k2m36, k2m37]
  instanceTypes := #[.int, (.array .int), (.array .int), (.array .int), (.array .boolean), (.array .boolean), (.array .int), (.array .int), (.array .boolean), (.array .int), (.array .int), (.array .int), .int, .int, .long, .int, .int]
  staticTypes := #[.int, .int, .int, .int, .int, .int, .int, .int, .int]
  resolved := Array.replicate 190 none
  statics := none }

def pool3 : Array CpInfo := pool [(1, u "java/lang/Cloneable"), (0, .class_ 1), (0, u "java/lang/Object"), (0, .class_ 3)] 3

/-- java/lang/Cloneable -/
def k3 : Class := { plain "java/lang/Cloneable" (some 0) with
  accessFlags := 1537
  interfaces := #[]
  cf := some (fileOf pool3 2 #[] #[] 1537 4 #[] #[])
  fields := #[]
  methods := #[]
  instanceTypes := #[]
  staticTypes := #[]
  resolved := Array.replicate 8 none
  statics := none }

def pool4 : Array CpInfo := pool [(1, u "java/io/Serializable"), (0, .class_ 1), (0, u "java/lang/Object"), (0, .class_ 3)] 3

/-- java/io/Serializable -/
def k4 : Class := { plain "java/io/Serializable" (some 0) with
  accessFlags := 1537
  interfaces := #[]
  cf := some (fileOf pool4 2 #[] #[] 1537 4 #[] #[])
  fields := #[]
  methods := #[]
  instanceTypes := #[]
  staticTypes := #[]
  resolved := Array.replicate 8 none
  statics := none }

/-- the primitive boolean -/
def k5 : Class := { plain "boolean" none with kind := .primitive 'Z', accessFlags := 0x411 }
/-- [Z -/
def k6 : Class := { plain "[Z" (some 0) with kind := .array 5 .boolean, interfaces := #[3, 4], accessFlags := 1041 }

/-- the primitive byte -/
def k7 : Class := { plain "byte" none with kind := .primitive 'B', accessFlags := 0x411 }
/-- [B -/
def k8 : Class := { plain "[B" (some 0) with kind := .array 7 .byte, interfaces := #[3, 4], accessFlags := 1041 }

/-- the primitive int -/
def k9 : Class := { plain "int" none with kind := .primitive 'I', accessFlags := 0x411 }
/-- [I -/
def k10 : Class := { plain "[I" (some 0) with kind := .array 9 .int, interfaces := #[3, 4], accessFlags := 1041 }

def heap : Heap := #[{ cls := 10, slots := #[.int 0, .int 3, .int 5, .int 1], vm := .none }]
def classes : Array Class := #[k0, k1, k2, k3, k4, k5, k6, k7, k8, k9, k10]
def interned : List (Array UInt16 × Addr) := []
def slotsUsed : Nat := 4
def theMethod : MethodId := ⟨1, 1⟩
def args0 : Array Value := #[.ref 0]
def aboutOver (below : List Frame) : State where
  vm := { classes := classes, interned := interned.toArray }
  heap := heap
  slotsUsed := slotsUsed
  threads := #[{ frames := .invoking theMethod args0 :: below }]
def below0 : List Frame := [.native { method := ⟨0, 0⟩, args := #[] }]
def about1 : State := aboutOver below0
def p0 : Program := .bare "" "" ""
def e0 : Env := launch0.env 0 0 0
theorem w_frames : about1.frames = Frame.invoking theMethod args0 :: below0 := rfl
set_option maxRecDepth 65536 in
theorem w_args : argsFit about1.vm theMethod args0 = true := by decide +kernel
set_option maxRecDepth 65536 in
theorem w_heap : heapFits about1 = true := by decide +kernel
set_option maxRecDepth 65536 in
theorem w_runnable : about1.curStatus? = some .runnable := by decide +kernel
set_option maxRecDepth 65536 in
theorem w_alone : about1.alone = true := by decide +kernel
set_option maxRecDepth 65536 in
theorem w_named : about1.methodNamed? x = some theMethod := by decide +kernel
set_option maxRecDepth 65536 in
theorem w_hears : about1.hears theMethod below0 = true := by decide +kernel
set_option maxRecDepth 65536 in
theorem w_ripe : about1.ripe theMethod args0 below0 = true := by decide +kernel
theorem w_running : about1.status = .running := rfl
set_option maxRecDepth 65536 in
theorem w_room : about1.hasRoom e0.platform room_1 = true :=
  launch0.hasRoom_least _ room_1 (by decide +kernel) (by decide +kernel) (by decide +kernel) (by decide +kernel) (by decide +kernel) (by decide +kernel)
theorem allAtoms_all (ts : List Jvm.Cond) (a : Array Jvm.Value) (st : Jvm.State) : (allAtoms ts).before a st = ts.all (fun c => c.before a st) := by
  induction ts with
  | nil => rfl
  | cons c t ih =>
    show (Jvm.Cond.and c (allAtoms t)).before a st = _
    rw [Jvm.Cond.before_and, ih, List.all_cons]
def words1 : List Jvm.Cond := Jvm.Cond.code x code maxLocals ret :: tables_1
/-- a 'code' word, met by the world's own term for the bytes: nothing is compared byte by byte -/
theorem code_word {y : MethodName} {bytes : ByteArray} {mx : Nat} {rt : Option FieldType} {a : Array Value} {s : State} {m : MethodId} {meth : Method} {c : Code} (h1 : s.methodNamed? y = some m) (h2 : s.vm.method? m = some meth) (h3 : meth.code = some c) (h4 : c.code = bytes)
    (h5 : (c.maxLocals == mx && c.exceptionTable.isEmpty && decide (c.maxStack ≤ mostOperands) && decide (meth.sig.returnType = rt) && !meth.locks && decide (parseMethodDescriptor y.desc = some meth.sig)) = true) : (Jvm.Cond.code y bytes mx rt).before a s = true := by
  simp only [Bool.and_eq_true, beq_iff_eq, Bool.not_eq_true', decide_eq_true_eq] at h5
  obtain ⟨⟨⟨⟨⟨g1, g2⟩, g3⟩, g4⟩, g5⟩, g6⟩ := h5
  simp [Cond.before, Cond.holds, Cond.value, h1, h2, h3, h4, g1, g2, g3, g4, g5, g6]
def isCode : Jvm.Cond → Bool
  | .code _ _ _ _ => true
  | _ => false
theorem all_split {L : List Jvm.Cond} {P : Jvm.Cond → Bool} (h1 : L.all (fun c => isCode c || P c) = true) (h2 : ∀ c ∈ L.filter isCode, P c = true) : L.all P = true := by
  refine List.all_eq_true.mpr fun c hc => ?_
  have h := List.all_eq_true.mp h1 c hc
  rcases Bool.eq_false_or_eq_true (isCode c) with hi | hi
  · exact h2 c (List.mem_filter.mpr ⟨hc, hi⟩)
  · simpa [hi] using h
set_option maxRecDepth 65536 in
theorem w_c0 : (Jvm.Cond.code x code maxLocals ret).before args0 about1 = true := code_word (m := ⟨1, 1⟩) (meth := k1m1) (c := k1c1) (by decide +kernel) rfl rfl rfl (by decide +kernel)
set_option maxRecDepth 65536 in
theorem w_c1 : (Jvm.Cond.code ({ cls := "DynamicMinForest", name := "<init>", desc := "(I)V" } : Jvm.MethodName) prog_1_method_1_code (4 : Nat) (Option.none : Option Jvm.ClassFile.FieldType)).before args0 about1 = true := code_word (m := ⟨2, 0⟩) (meth := k2m0) (c := k2c0) (by decide +kernel) rfl rfl rfl (by decide +kernel)
set_option maxRecDepth 65536 in
theorem w_c2 : (Jvm.Cond.code ({ cls := "java/lang/Object", name := "<init>", desc := "()V" } : Jvm.MethodName) object_method_1_code (1 : Nat) (Option.none : Option Jvm.ClassFile.FieldType)).before args0 about1 = true := code_word (m := ⟨0, 0⟩) (meth := k0m0) (c := k0c0) (by decide +kernel) rfl rfl rfl (by decide +kernel)
set_option maxRecDepth 65536 in
theorem w_c3 : (Jvm.Cond.code ({ cls := "DynamicMinForest", name := "resetSearch", desc := "()V" } : Jvm.MethodName) prog_1_method_29_code (2 : Nat) (Option.none : Option Jvm.ClassFile.FieldType)).before args0 about1 = true := code_word (m := ⟨2, 25⟩) (meth := k2m25) (c := k2c25) (by decide +kernel) rfl rfl rfl (by decide +kernel)
set_option maxRecDepth 65536 in
theorem w_c4 : (Jvm.Cond.code ({ cls := "DynamicMinForestL6", name := "bit", desc := "(JJI)Z" } : Jvm.MethodName) method_3_code (5 : Nat) (Option.some Jvm.ClassFile.FieldType.boolean)).before args0 about1 = true := code_word (m := ⟨1, 2⟩) (meth := k1m2) (c := k1c2) (by decide +kernel) rfl rfl rfl (by decide +kernel)
set_option maxRecDepth 65536 in
theorem w_c5 : (Jvm.Cond.code ({ cls := "DynamicMinForest", name := "edgeWeight", desc := "(I)I" } : Jvm.MethodName) prog_1_method_8_code (2 : Nat) (Option.some Jvm.ClassFile.FieldType.int)).before args0 about1 = true := code_word (m := ⟨2, 7⟩) (meth := k2m7) (c := k2c7) (by decide +kernel) rfl rfl rfl (by decide +kernel)
set_option maxRecDepth 65536 in
theorem w_c6 : (Jvm.Cond.code ({ cls := "DynamicMinForest", name := "isPresent", desc := "(I)Z" } : Jvm.MethodName) prog_1_method_5_code (2 : Nat) (Option.some Jvm.ClassFile.FieldType.boolean)).before args0 about1 = true := code_word (m := ⟨2, 4⟩) (meth := k2m4) (c := k2c4) (by decide +kernel) rfl rfl rfl (by decide +kernel)
set_option maxRecDepth 65536 in
theorem w_c7 : (Jvm.Cond.code ({ cls := "DynamicMinForest", name := "validId", desc := "(I)Z" } : Jvm.MethodName) prog_1_method_40_code (2 : Nat) (Option.some Jvm.ClassFile.FieldType.boolean)).before args0 about1 = true := code_word (m := ⟨2, 36⟩) (meth := k2m36) (c := k2c36) (by decide +kernel) rfl rfl rfl (by decide +kernel)
set_option maxRecDepth 65536 in
theorem w_c8 : (Jvm.Cond.code ({ cls := "DynamicMinForest", name := "isTreeEdge", desc := "(I)Z" } : Jvm.MethodName) prog_1_method_6_code (2 : Nat) (Option.some Jvm.ClassFile.FieldType.boolean)).before args0 about1 = true := code_word (m := ⟨2, 5⟩) (meth := k2m5) (c := k2c5) (by decide +kernel) rfl rfl rfl (by decide +kernel)
set_option maxRecDepth 65536 in
theorem w_c9 : (Jvm.Cond.code ({ cls := "DynamicMinForest", name := "setWeight", desc := "(II)Z" } : Jvm.MethodName) prog_1_method_4_code (4 : Nat) (Option.some Jvm.ClassFile.FieldType.boolean)).before args0 about1 = true := code_word (m := ⟨2, 3⟩) (meth := k2m3) (c := k2c3) (by decide +kernel) rfl rfl rfl (by decide +kernel)
set_option maxRecDepth 65536 in
theorem w_c10 : (Jvm.Cond.code ({ cls := "DynamicMinForest", name := "edgeCount", desc := "()I" } : Jvm.MethodName) prog_1_method_9_code (1 : Nat) (Option.some Jvm.ClassFile.FieldType.int)).before args0 about1 = true := code_word (m := ⟨2, 8⟩) (meth := k2m8) (c := k2c8) (by decide +kernel) rfl rfl rfl (by decide +kernel)
set_option maxRecDepth 65536 in
theorem w_c11 : (Jvm.Cond.code ({ cls := "DynamicMinForest", name := "forestEdgeCount", desc := "()I" } : Jvm.MethodName) prog_1_method_11_code (1 : Nat) (Option.some Jvm.ClassFile.FieldType.int)).before args0 about1 = true := code_word (m := ⟨2, 10⟩) (meth := k2m10) (c := k2c10) (by decide +kernel) rfl rfl rfl (by decide +kernel)
set_option maxRecDepth 65536 in
theorem w_c12 : (Jvm.Cond.code ({ cls := "DynamicMinForest", name := "componentCount", desc := "()I" } : Jvm.MethodName) prog_1_method_12_code (1 : Nat) (Option.some Jvm.ClassFile.FieldType.int)).before args0 about1 = true := code_word (m := ⟨2, 11⟩) (meth := k2m11) (c := k2c11) (by decide +kernel) rfl rfl rfl (by decide +kernel)
set_option maxRecDepth 65536 in
theorem w_c13 : (Jvm.Cond.code ({ cls := "DynamicMinForest", name := "forestWeight", desc := "()J" } : Jvm.MethodName) prog_1_method_10_code (1 : Nat) (Option.some Jvm.ClassFile.FieldType.long)).before args0 about1 = true := code_word (m := ⟨2, 9⟩) (meth := k2m9) (c := k2c9) (by decide +kernel) rfl rfl rfl (by decide +kernel)
set_option maxRecDepth 65536 in
theorem w_c14 : (Jvm.Cond.code ({ cls := "DynamicMinForest", name := "lastEntered", desc := "()I" } : Jvm.MethodName) prog_1_method_16_code (1 : Nat) (Option.some Jvm.ClassFile.FieldType.int)).before args0 about1 = true := code_word (m := ⟨2, 12⟩) (meth := k2m12) (c := k2c12) (by decide +kernel) rfl rfl rfl (by decide +kernel)
set_option maxRecDepth 65536 in
theorem w_c15 : (Jvm.Cond.code ({ cls := "DynamicMinForest", name := "lastLeft", desc := "()I" } : Jvm.MethodName) prog_1_method_17_code (1 : Nat) (Option.some Jvm.ClassFile.FieldType.int)).before args0 about1 = true := code_word (m := ⟨2, 13⟩) (meth := k2m13) (c := k2c13) (by decide +kernel) rfl rfl rfl (by decide +kernel)
set_option maxRecDepth 65536 in
theorem w_c16 : (Jvm.Cond.code ({ cls := "DynamicMinForest", name := "addEdge", desc := "(III)I" } : Jvm.MethodName) prog_1_method_2_code (6 : Nat) (Option.some Jvm.ClassFile.FieldType.int)).before args0 about1 = true := code_word (m := ⟨2, 1⟩) (meth := k2m1) (c := k2c1) (by decide +kernel) rfl rfl rfl (by decide +kernel)
set_option maxRecDepth 65536 in
theorem w_c17 : (Jvm.Cond.code ({ cls := "DynamicMinForest", name := "validVertex", desc := "(I)Z" } : Jvm.MethodName) prog_1_method_39_code (2 : Nat) (Option.some Jvm.ClassFile.FieldType.boolean)).before args0 about1 = true := code_word (m := ⟨2, 35⟩) (meth := k2m35) (c := k2c35) (by decide +kernel) rfl rfl rfl (by decide +kernel)
set_option maxRecDepth 65536 in
theorem w_c18 : (Jvm.Cond.code ({ cls := "DynamicMinForest", name := "lowestFreeSlot", desc := "()I" } : Jvm.MethodName) prog_1_method_22_code (2 : Nat) (Option.some Jvm.ClassFile.FieldType.int)).before args0 about1 = true := code_word (m := ⟨2, 18⟩) (meth := k2m18) (c := k2c18) (by decide +kernel) rfl rfl rfl (by decide +kernel)
set_option maxRecDepth 65536 in
theorem w_c19 : (Jvm.Cond.code ({ cls := "DynamicMinForest", name := "clampWeight", desc := "(I)I" } : Jvm.MethodName) prog_1_method_41_code (2 : Nat) (Option.some Jvm.ClassFile.FieldType.int)).before args0 about1 = true := code_word (m := ⟨2, 37⟩) (meth := k2m37) (c := k2c37) (by decide +kernel) rfl rfl rfl (by decide +kernel)
set_option maxRecDepth 65536 in
theorem w_c20 : (Jvm.Cond.code ({ cls := "DynamicMinForest", name := "storeEdge", desc := "(IIII)V" } : Jvm.MethodName) prog_1_method_23_code (5 : Nat) (Option.none : Option Jvm.ClassFile.FieldType)).before args0 about1 = true := code_word (m := ⟨2, 19⟩) (meth := k2m19) (c := k2c19) (by decide +kernel) rfl rfl rfl (by decide +kernel)
set_option maxRecDepth 65536 in
theorem w_c21 : (Jvm.Cond.code ({ cls := "DynamicMinForest", name := "insertUpdate", desc := "(I)V" } : Jvm.MethodName) prog_1_method_18_code (4 : Nat) (Option.none : Option Jvm.ClassFile.FieldType)).before args0 about1 = true := code_word (m := ⟨2, 14⟩) (meth := k2m14) (c := k2c14) (by decide +kernel) rfl rfl rfl (by decide +kernel)
set_option maxRecDepth 65536 in
theorem w_c22 : (Jvm.Cond.code ({ cls := "DynamicMinForest", name := "explore", desc := "(II)I" } : Jvm.MethodName) prog_1_method_30_code (5 : Nat) (Option.some Jvm.ClassFile.FieldType.int)).before args0 about1 = true := code_word (m := ⟨2, 26⟩) (meth := k2m26) (c := k2c26) (by decide +kernel) rfl rfl rfl (by decide +kernel)
set_option maxRecDepth 65536 in
theorem w_c23 : (Jvm.Cond.code ({ cls := "DynamicMinForest", name := "visitNeighbours", desc := "(III)I" } : Jvm.MethodName) prog_1_method_31_code (9 : Nat) (Option.some Jvm.ClassFile.FieldType.int)).before args0 about1 = true := code_word (m := ⟨2, 27⟩) (meth := k2m27) (c := k2c27) (by decide +kernel) rfl rfl rfl (by decide +kernel)
set_option maxRecDepth 65536 in
theorem w_c24 : (Jvm.Cond.code ({ cls := "DynamicMinForest", name := "joinTree", desc := "(I)V" } : Jvm.MethodName) prog_1_method_25_code (2 : Nat) (Option.none : Option Jvm.ClassFile.FieldType)).before args0 about1 = true := code_word (m := ⟨2, 21⟩) (meth := k2m21) (c := k2c21) (by decide +kernel) rfl rfl rfl (by decide +kernel)
set_option maxRecDepth 65536 in
theorem w_c25 : (Jvm.Cond.code ({ cls := "DynamicMinForest", name := "addAdjacent", desc := "(II)V" } : Jvm.MethodName) prog_1_method_27_code (3 : Nat) (Option.none : Option Jvm.ClassFile.FieldType)).before args0 about1 = true := code_word (m := ⟨2, 23⟩) (meth := k2m23) (c := k2c23) (by decide +kernel) rfl rfl rfl (by decide +kernel)
set_option maxRecDepth 65536 in
theorem w_c26 : (Jvm.Cond.code ({ cls := "DynamicMinForest", name := "setLast", desc := "(II)V" } : Jvm.MethodName) prog_1_method_21_code (3 : Nat) (Option.none : Option Jvm.ClassFile.FieldType)).before args0 about1 = true := code_word (m := ⟨2, 17⟩) (meth := k2m17) (c := k2c17) (by decide +kernel) rfl rfl rfl (by decide +kernel)
set_option maxRecDepth 65536 in
theorem w_c27 : (Jvm.Cond.code ({ cls := "DynamicMinForestL6", name := "lowerFull", desc := "(JJI)Z" } : Jvm.MethodName) method_4_code (7 : Nat) (Option.some Jvm.ClassFile.FieldType.boolean)).before args0 about1 = true := code_word (m := ⟨1, 3⟩) (meth := k1m3) (c := k1c3) (by decide +kernel) rfl rfl rfl (by decide +kernel)
set_option maxRecDepth 65536 in
theorem w_c28 : (Jvm.Cond.code ({ cls := "DynamicMinForest", name := "edgeEnd", desc := "(II)I" } : Jvm.MethodName) prog_1_method_7_code (3 : Nat) (Option.some Jvm.ClassFile.FieldType.int)).before args0 about1 = true := code_word (m := ⟨2, 6⟩) (meth := k2m6) (c := k2c6) (by decide +kernel) rfl rfl rfl (by decide +kernel)
set_option maxRecDepth 65536 in
theorem w_c29 : (Jvm.Cond.code ({ cls := "DynamicMinForestL6", name := "wIn", desc := "(LDynamicMinForest;I)J" } : Jvm.MethodName) method_6_code (2 : Nat) (Option.some Jvm.ClassFile.FieldType.long)).before args0 about1 = true := code_word (m := ⟨1, 5⟩) (meth := k1m5) (c := k1c5) (by decide +kernel) rfl rfl rfl (by decide +kernel)
set_option maxRecDepth 65536 in
theorem w_c30 : (Jvm.Cond.code ({ cls := "DynamicMinForestL6", name := "wOut", desc := "(LDynamicMinForest;III)J" } : Jvm.MethodName) method_7_code (4 : Nat) (Option.some Jvm.ClassFile.FieldType.long)).before args0 about1 = true := code_word (m := ⟨1, 6⟩) (meth := k1m6) (c := k1c6) (by decide +kernel) rfl rfl rfl (by decide +kernel)
set_option maxRecDepth 65536 in
theorem w_c31 : (Jvm.Cond.code ({ cls := "DynamicMinForestL6", name := "step", desc := "(II)I" } : Jvm.MethodName) method_5_code (2 : Nat) (Option.some Jvm.ClassFile.FieldType.int)).before args0 about1 = true := code_word (m := ⟨1, 4⟩) (meth := k1m4) (c := k1c4) (by decide +kernel) rfl rfl rfl (by decide +kernel)
set_option maxRecDepth 65536 in
theorem w_c32 : (Jvm.Cond.code ({ cls := "DynamicMinForest", name := "reweightTreeEdge", desc := "(II)V" } : Jvm.MethodName) prog_1_method_20_code (4 : Nat) (Option.none : Option Jvm.ClassFile.FieldType)).before args0 about1 = true := code_word (m := ⟨2, 16⟩) (meth := k2m16) (c := k2c16) (by decide +kernel) rfl rfl rfl (by decide +kernel)
set_option maxRecDepth 65536 in
theorem w_c33 : (Jvm.Cond.code ({ cls := "DynamicMinForest", name := "leaveTree", desc := "(I)V" } : Jvm.MethodName) prog_1_method_26_code (2 : Nat) (Option.none : Option Jvm.ClassFile.FieldType)).before args0 about1 = true := code_word (m := ⟨2, 22⟩) (meth := k2m22) (c := k2c22) (by decide +kernel) rfl rfl rfl (by decide +kernel)
set_option maxRecDepth 65536 in
theorem w_c34 : (Jvm.Cond.code ({ cls := "DynamicMinForest", name := "removeAdjacent", desc := "(II)V" } : Jvm.MethodName) prog_1_method_28_code (5 : Nat) (Option.none : Option Jvm.ClassFile.FieldType)).before args0 about1 = true := code_word (m := ⟨2, 24⟩) (meth := k2m24) (c := k2c24) (by decide +kernel) rfl rfl rfl (by decide +kernel)
set_option maxRecDepth 65536 in
theorem w_c35 : (Jvm.Cond.code ({ cls := "DynamicMinForest", name := "lightestCrossing", desc := "()I" } : Jvm.MethodName) prog_1_method_33_code (3 : Nat) (Option.some Jvm.ClassFile.FieldType.int)).before args0 about1 = true := code_word (m := ⟨2, 29⟩) (meth := k2m29) (c := k2c29) (by decide +kernel) rfl rfl rfl (by decide +kernel)
set_option maxRecDepth 65536 in
theorem w_c36 : (Jvm.Cond.code ({ cls := "DynamicMinForest", name := "crosses", desc := "(I)Z" } : Jvm.MethodName) prog_1_method_34_code (4 : Nat) (Option.some Jvm.ClassFile.FieldType.boolean)).before args0 about1 = true := code_word (m := ⟨2, 30⟩) (meth := k2m30) (c := k2c30) (by decide +kernel) rfl rfl rfl (by decide +kernel)
set_option maxRecDepth 65536 in
theorem w_c37 : (Jvm.Cond.code ({ cls := "DynamicMinForest", name := "lighter", desc := "(II)I" } : Jvm.MethodName) prog_1_method_37_code (3 : Nat) (Option.some Jvm.ClassFile.FieldType.int)).before args0 about1 = true := code_word (m := ⟨2, 33⟩) (meth := k2m33) (c := k2c33) (by decide +kernel) rfl rfl rfl (by decide +kernel)
set_option maxRecDepth 65536 in
theorem w_c38 : (Jvm.Cond.code ({ cls := "DynamicMinForest", name := "otherEnd", desc := "(II)I" } : Jvm.MethodName) prog_1_method_35_code (3 : Nat) (Option.some Jvm.ClassFile.FieldType.int)).before args0 about1 = true := code_word (m := ⟨2, 31⟩) (meth := k2m31) (c := k2c31) (by decide +kernel) rfl rfl rfl (by decide +kernel)
set_option maxRecDepth 65536 in
theorem w_c39 : (Jvm.Cond.code ({ cls := "DynamicMinForest", name := "heaviestOnPathTo", desc := "(I)I" } : Jvm.MethodName) prog_1_method_32_code (6 : Nat) (Option.some Jvm.ClassFile.FieldType.int)).before args0 about1 = true := code_word (m := ⟨2, 28⟩) (meth := k2m28) (c := k2c28) (by decide +kernel) rfl rfl rfl (by decide +kernel)
set_option maxRecDepth 65536 in
theorem w_c40 : (Jvm.Cond.code ({ cls := "DynamicMinForest", name := "heavier", desc := "(II)I" } : Jvm.MethodName) prog_1_method_38_code (3 : Nat) (Option.some Jvm.ClassFile.FieldType.int)).before args0 about1 = true := code_word (m := ⟨2, 34⟩) (meth := k2m34) (c := k2c34) (by decide +kernel) rfl rfl rfl (by decide +kernel)
set_option maxRecDepth 65536 in
theorem w_c41 : (Jvm.Cond.code ({ cls := "DynamicMinForest", name := "precedes", desc := "(II)Z" } : Jvm.MethodName) prog_1_method_36_code (3 : Nat) (Option.some Jvm.ClassFile.FieldType.boolean)).before args0 about1 = true := code_word (m := ⟨2, 32⟩) (meth := k2m32) (c := k2c32) (by decide +kernel) rfl rfl rfl (by decide +kernel)
set_option maxRecDepth 65536 in
theorem w_c42 : (Jvm.Cond.code ({ cls := "DynamicMinForest", name := "removeEdge", desc := "(I)Z" } : Jvm.MethodName) prog_1_method_3_code (2 : Nat) (Option.some Jvm.ClassFile.FieldType.boolean)).before args0 about1 = true := code_word (m := ⟨2, 2⟩) (meth := k2m2) (c := k2c2) (by decide +kernel) rfl rfl rfl (by decide +kernel)
set_option maxRecDepth 65536 in
theorem w_c43 : (Jvm.Cond.code ({ cls := "DynamicMinForest", name := "cutTreeEdge", desc := "(I)V" } : Jvm.MethodName) prog_1_method_19_code (3 : Nat) (Option.none : Option Jvm.ClassFile.FieldType)).before args0 about1 = true := code_word (m := ⟨2, 15⟩) (meth := k2m15) (c := k2c15) (by decide +kernel) rfl rfl rfl (by decide +kernel)
set_option maxRecDepth 65536 in
theorem w_c44 : (Jvm.Cond.code ({ cls := "DynamicMinForest", name := "freeSlot", desc := "(I)V" } : Jvm.MethodName) prog_1_method_24_code (2 : Nat) (Option.none : Option Jvm.ClassFile.FieldType)).before args0 about1 = true := code_word (m := ⟨2, 20⟩) (meth := k2m20) (c := k2c20) (by decide +kernel) rfl rfl rfl (by decide +kernel)
def codes1 : List Jvm.Cond := [Jvm.Cond.code x code maxLocals ret, Jvm.Cond.code ({ cls := "DynamicMinForest", name := "<init>", desc := "(I)V" } : Jvm.MethodName) prog_1_method_1_code (4 : Nat) (Option.none : Option Jvm.ClassFile.FieldType), Jvm.Cond.code ({ cls := "java/lang/Object", name := "<init>", desc := "()V" } : Jvm.MethodName) object_method_1_code (1 : Nat) (Option.none : Option Jvm.ClassFile.FieldType), Jvm.Cond.code ({ cls := "DynamicMinForest", name := "resetSearch", desc := "()V" } : Jvm.MethodName) prog_1_method_29_code (2 : Nat) (Option.none : Option Jvm.ClassFile.FieldType), Jvm.Cond.code ({ cls := "DynamicMinForestL6", name := "bit", desc := "(JJI)Z" } : Jvm.MethodName) method_3_code (5 : Nat) (Option.some Jvm.ClassFile.FieldType.boolean), Jvm.Cond.code ({ cls := "DynamicMinForest", name := "edgeWeight", desc := "(I)I" } : Jvm.MethodName) prog_1_method_8_code (2 : Nat) (Option.some Jvm.ClassFile.FieldType.int), Jvm.Cond.code ({ cls := "DynamicMinForest", name := "isPresent", desc := "(I)Z" } : Jvm.MethodName) prog_1_method_5_code (2 : Nat) (Option.some Jvm.ClassFile.FieldType.boolean), Jvm.Cond.code ({ cls := "DynamicMinForest", name := "validId", desc := "(I)Z" } : Jvm.MethodName) prog_1_method_40_code (2 : Nat) (Option.some Jvm.ClassFile.FieldType.boolean), Jvm.Cond.code ({ cls := "DynamicMinForest", name := "isTreeEdge", desc := "(I)Z" } : Jvm.MethodName) prog_1_method_6_code (2 : Nat) (Option.some Jvm.ClassFile.FieldType.boolean), Jvm.Cond.code ({ cls := "DynamicMinForest", name := "setWeight", desc := "(II)Z" } : Jvm.MethodName) prog_1_method_4_code (4 : Nat) (Option.some Jvm.ClassFile.FieldType.boolean), Jvm.Cond.code ({ cls := "DynamicMinForest", name := "edgeCount", desc := "()I" } : Jvm.MethodName) prog_1_method_9_code (1 : Nat) (Option.some Jvm.ClassFile.FieldType.int), Jvm.Cond.code ({ cls := "DynamicMinForest", name := "forestEdgeCount", desc := "()I" } : Jvm.MethodName) prog_1_method_11_code (1 : Nat) (Option.some Jvm.ClassFile.FieldType.int), Jvm.Cond.code ({ cls := "DynamicMinForest", name := "componentCount", desc := "()I" } : Jvm.MethodName) prog_1_method_12_code (1 : Nat) (Option.some Jvm.ClassFile.FieldType.int), Jvm.Cond.code ({ cls := "DynamicMinForest", name := "forestWeight", desc := "()J" } : Jvm.MethodName) prog_1_method_10_code (1 : Nat) (Option.some Jvm.ClassFile.FieldType.long), Jvm.Cond.code ({ cls := "DynamicMinForest", name := "lastEntered", desc := "()I" } : Jvm.MethodName) prog_1_method_16_code (1 : Nat) (Option.some Jvm.ClassFile.FieldType.int), Jvm.Cond.code ({ cls := "DynamicMinForest", name := "lastLeft", desc := "()I" } : Jvm.MethodName) prog_1_method_17_code (1 : Nat) (Option.some Jvm.ClassFile.FieldType.int), Jvm.Cond.code ({ cls := "DynamicMinForest", name := "addEdge", desc := "(III)I" } : Jvm.MethodName) prog_1_method_2_code (6 : Nat) (Option.some Jvm.ClassFile.FieldType.int), Jvm.Cond.code ({ cls := "DynamicMinForest", name := "validVertex", desc := "(I)Z" } : Jvm.MethodName) prog_1_method_39_code (2 : Nat) (Option.some Jvm.ClassFile.FieldType.boolean), Jvm.Cond.code ({ cls := "DynamicMinForest", name := "lowestFreeSlot", desc := "()I" } : Jvm.MethodName) prog_1_method_22_code (2 : Nat) (Option.some Jvm.ClassFile.FieldType.int), Jvm.Cond.code ({ cls := "DynamicMinForest", name := "clampWeight", desc := "(I)I" } : Jvm.MethodName) prog_1_method_41_code (2 : Nat) (Option.some Jvm.ClassFile.FieldType.int), Jvm.Cond.code ({ cls := "DynamicMinForest", name := "storeEdge", desc := "(IIII)V" } : Jvm.MethodName) prog_1_method_23_code (5 : Nat) (Option.none : Option Jvm.ClassFile.FieldType), Jvm.Cond.code ({ cls := "DynamicMinForest", name := "insertUpdate", desc := "(I)V" } : Jvm.MethodName) prog_1_method_18_code (4 : Nat) (Option.none : Option Jvm.ClassFile.FieldType), Jvm.Cond.code ({ cls := "DynamicMinForest", name := "explore", desc := "(II)I" } : Jvm.MethodName) prog_1_method_30_code (5 : Nat) (Option.some Jvm.ClassFile.FieldType.int), Jvm.Cond.code ({ cls := "DynamicMinForest", name := "visitNeighbours", desc := "(III)I" } : Jvm.MethodName) prog_1_method_31_code (9 : Nat) (Option.some Jvm.ClassFile.FieldType.int), Jvm.Cond.code ({ cls := "DynamicMinForest", name := "joinTree", desc := "(I)V" } : Jvm.MethodName) prog_1_method_25_code (2 : Nat) (Option.none : Option Jvm.ClassFile.FieldType), Jvm.Cond.code ({ cls := "DynamicMinForest", name := "addAdjacent", desc := "(II)V" } : Jvm.MethodName) prog_1_method_27_code (3 : Nat) (Option.none : Option Jvm.ClassFile.FieldType), Jvm.Cond.code ({ cls := "DynamicMinForest", name := "setLast", desc := "(II)V" } : Jvm.MethodName) prog_1_method_21_code (3 : Nat) (Option.none : Option Jvm.ClassFile.FieldType), Jvm.Cond.code ({ cls := "DynamicMinForestL6", name := "lowerFull", desc := "(JJI)Z" } : Jvm.MethodName) method_4_code (7 : Nat) (Option.some Jvm.ClassFile.FieldType.boolean), Jvm.Cond.code ({ cls := "DynamicMinForest", name := "edgeEnd", desc := "(II)I" } : Jvm.MethodName) prog_1_method_7_code (3 : Nat) (Option.some Jvm.ClassFile.FieldType.int), Jvm.Cond.code ({ cls := "DynamicMinForestL6", name := "wIn", desc := "(LDynamicMinForest;I)J" } : Jvm.MethodName) method_6_code (2 : Nat) (Option.some Jvm.ClassFile.FieldType.long), Jvm.Cond.code ({ cls := "DynamicMinForestL6", name := "wOut", desc := "(LDynamicMinForest;III)J" } : Jvm.MethodName) method_7_code (4 : Nat) (Option.some Jvm.ClassFile.FieldType.long), Jvm.Cond.code ({ cls := "DynamicMinForestL6", name := "step", desc := "(II)I" } : Jvm.MethodName) method_5_code (2 : Nat) (Option.some Jvm.ClassFile.FieldType.int), Jvm.Cond.code ({ cls := "DynamicMinForest", name := "reweightTreeEdge", desc := "(II)V" } : Jvm.MethodName) prog_1_method_20_code (4 : Nat) (Option.none : Option Jvm.ClassFile.FieldType), Jvm.Cond.code ({ cls := "DynamicMinForest", name := "leaveTree", desc := "(I)V" } : Jvm.MethodName) prog_1_method_26_code (2 : Nat) (Option.none : Option Jvm.ClassFile.FieldType), Jvm.Cond.code ({ cls := "DynamicMinForest", name := "removeAdjacent", desc := "(II)V" } : Jvm.MethodName) prog_1_method_28_code (5 : Nat) (Option.none : Option Jvm.ClassFile.FieldType), Jvm.Cond.code ({ cls := "DynamicMinForest", name := "lightestCrossing", desc := "()I" } : Jvm.MethodName) prog_1_method_33_code (3 : Nat) (Option.some Jvm.ClassFile.FieldType.int), Jvm.Cond.code ({ cls := "DynamicMinForest", name := "crosses", desc := "(I)Z" } : Jvm.MethodName) prog_1_method_34_code (4 : Nat) (Option.some Jvm.ClassFile.FieldType.boolean), Jvm.Cond.code ({ cls := "DynamicMinForest", name := "lighter", desc := "(II)I" } : Jvm.MethodName) prog_1_method_37_code (3 : Nat) (Option.some Jvm.ClassFile.FieldType.int), Jvm.Cond.code ({ cls := "DynamicMinForest", name := "otherEnd", desc := "(II)I" } : Jvm.MethodName) prog_1_method_35_code (3 : Nat) (Option.some Jvm.ClassFile.FieldType.int), Jvm.Cond.code ({ cls := "DynamicMinForest", name := "heaviestOnPathTo", desc := "(I)I" } : Jvm.MethodName) prog_1_method_32_code (6 : Nat) (Option.some Jvm.ClassFile.FieldType.int), Jvm.Cond.code ({ cls := "DynamicMinForest", name := "heavier", desc := "(II)I" } : Jvm.MethodName) prog_1_method_38_code (3 : Nat) (Option.some Jvm.ClassFile.FieldType.int), Jvm.Cond.code ({ cls := "DynamicMinForest", name := "precedes", desc := "(II)Z" } : Jvm.MethodName) prog_1_method_36_code (3 : Nat) (Option.some Jvm.ClassFile.FieldType.boolean), Jvm.Cond.code ({ cls := "DynamicMinForest", name := "removeEdge", desc := "(I)Z" } : Jvm.MethodName) prog_1_method_3_code (2 : Nat) (Option.some Jvm.ClassFile.FieldType.boolean), Jvm.Cond.code ({ cls := "DynamicMinForest", name := "cutTreeEdge", desc := "(I)V" } : Jvm.MethodName) prog_1_method_19_code (3 : Nat) (Option.none : Option Jvm.ClassFile.FieldType), Jvm.Cond.code ({ cls := "DynamicMinForest", name := "freeSlot", desc := "(I)V" } : Jvm.MethodName) prog_1_method_24_code (2 : Nat) (Option.none : Option Jvm.ClassFile.FieldType)]
set_option maxRecDepth 65536 in
theorem codes_eq : words1.filter isCode = codes1 := rfl
theorem w_codes : ∀ c ∈ words1.filter isCode, c.before args0 about1 = true := by
  rw [codes_eq]
  intro c hc
  simp only [codes1, List.mem_cons, List.not_mem_nil, or_false] at hc
  rcases hc with rfl | rfl | rfl | rfl | rfl | rfl | rfl | rfl | rfl | rfl | rfl | rfl | rfl | rfl | rfl | rfl | rfl | rfl | rfl | rfl | rfl | rfl | rfl | rfl | rfl | rfl | rfl | rfl | rfl | rfl | rfl | rfl | rfl | rfl | rfl | rfl | rfl | rfl | rfl | rfl | rfl | rfl | rfl | rfl | rfl
  · exact w_c0
  · exact w_c1
  · exact w_c2
  · exact w_c3
  · exact w_c4
  · exact w_c5
  · exact w_c6
  · exact w_c7
  · exact w_c8
  · exact w_c9
  · exact w_c10
  · exact w_c11
  · exact w_c12
  · exact w_c13
  · exact w_c14
  · exact w_c15
  · exact w_c16
  · exact w_c17
  · exact w_c18
  · exact w_c19
  · exact w_c20
  · exact w_c21
  · exact w_c22
  · exact w_c23
  · exact w_c24
  · exact w_c25
  · exact w_c26
  · exact w_c27
  · exact w_c28
  · exact w_c29
  · exact w_c30
  · exact w_c31
  · exact w_c32
  · exact w_c33
  · exact w_c34
  · exact w_c35
  · exact w_c36
  · exact w_c37
  · exact w_c38
  · exact w_c39
  · exact w_c40
  · exact w_c41
  · exact w_c42
  · exact w_c43
  · exact w_c44
set_option maxRecDepth 65536 in
theorem w_t1 : (words1.take 24).all (fun c => isCode c || c.before args0 about1) = true := by decide +kernel
set_option maxRecDepth 65536 in
theorem w_t2 : ((words1.drop 24).take 24).all (fun c => isCode c || c.before args0 about1) = true := by decide +kernel
set_option maxRecDepth 65536 in
theorem w_t3 : (((words1.drop 24).drop 24).take 24).all (fun c => isCode c || c.before args0 about1) = true := by decide +kernel
set_option maxRecDepth 65536 in
theorem w_t4 : ((((words1.drop 24).drop 24).drop 24).take 24).all (fun c => isCode c || c.before args0 about1) = true := by decide +kernel
set_option maxRecDepth 65536 in
theorem w_t5 : (((((words1.drop 24).drop 24).drop 24).drop 24).take 24).all (fun c => isCode c || c.before args0 about1) = true := by decide +kernel
set_option maxRecDepth 65536 in
theorem w_t6 : ((((((words1.drop 24).drop 24).drop 24).drop 24).drop 24).take 24).all (fun c => isCode c || c.before args0 about1) = true := by decide +kernel
set_option maxRecDepth 65536 in
theorem w_t7 : (((((((words1.drop 24).drop 24).drop 24).drop 24).drop 24).drop 24).take 24).all (fun c => isCode c || c.before args0 about1) = true := by decide +kernel
set_option maxRecDepth 65536 in
theorem w_t8 : ((((((((words1.drop 24).drop 24).drop 24).drop 24).drop 24).drop 24).drop 24).take 24).all (fun c => isCode c || c.before args0 about1) = true := by decide +kernel
set_option maxRecDepth 65536 in
theorem w_t9 : (((((((((words1.drop 24).drop 24).drop 24).drop 24).drop 24).drop 24).drop 24).drop 24).take 24).all (fun c => isCode c || c.before args0 about1) = true := by decide +kernel
set_option maxRecDepth 65536 in
theorem w_t10 : (((((((((words1.drop 24).drop 24).drop 24).drop 24).drop 24).drop 24).drop 24).drop 24).drop 24).all (fun c => isCode c || c.before args0 about1) = true := by decide +kernel
theorem w_tables : (allAtoms (Jvm.Cond.code x code maxLocals ret :: tables_1)).before args0 about1 = true := by
  rw [allAtoms_all]
  show words1.all (fun c => c.before args0 about1) = true
  refine all_split ?_ w_codes
  rw [← List.take_append_drop 24 words1, List.all_append, w_t1, ← List.take_append_drop 24 (words1.drop 24), List.all_append, w_t2, ← List.take_append_drop 24 ((words1.drop 24).drop 24), List.all_append, w_t3, ← List.take_append_drop 24 (((words1.drop 24).drop 24).drop 24), List.all_append, w_t4, ← List.take_append_drop 24 ((((words1.drop 24).drop 24).drop 24).drop 24), List.all_append, w_t5, ← List.take_append_drop 24 (((((words1.drop 24).drop 24).drop 24).drop 24).drop 24), List.all_append, w_t6, ← List.take_append_drop 24 ((((((words1.drop 24).drop 24).drop 24).drop 24).drop 24).drop 24), List.all_append, w_t7, ← List.take_append_drop 24 (((((((words1.drop 24).drop 24).drop 24).drop 24).drop 24).drop 24).drop 24), List.all_append, w_t8, ← List.take_append_drop 24 ((((((((words1.drop 24).drop 24).drop 24).drop 24).drop 24).drop 24).drop 24).drop 24), List.all_append, w_t9, w_t10]
  rfl
set_option maxRecDepth 65536 in
theorem w_rest : rest_1_c.before args0 about1 = true := by decide +kernel
set_option maxRecDepth 65536 in
theorem w_case : (Jvm.Cond.and given_1 narrow_1).before args0 about1 = true := by decide +kernel
theorem w_applies : (headSpec (Jvm.Cond.code x code maxLocals ret :: tables_1) room_1).applies x e0.platform about1 = true :=
  (Spec.applies_iff w_frames).mpr ⟨w_running, w_runnable, w_alone, w_named, w_hears, w_ripe, w_room, w_tables⟩
theorem atStart : AtStart classFile x code maxLocals ret World_1 tables_1 room_1 Calls_1 rest_1 Pre_1 launch0 p0 e0 about1 theMethod args0 below0 :=
  ⟨lists_1, trivial, launch0.admits_env _ _ _, launch0.least_env, fairChoices_fair.cas, fairChoices_fair.clock, w_frames, w_args, w_heap, w_applies, trivial, w_rest, w_case⟩
end start1
theorem witness_1 : WitnessClaimed_1 := ⟨start1.p0, start1.e0, start1.about1, start1.theMethod, start1.args0, start1.below0, start1.atStart⟩
end Jvm.Pilot.@@N@@
