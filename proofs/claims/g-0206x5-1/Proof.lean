import JvmDerived
import JvmDerived.Pilot.@@N@@Statement
import JvmDerived.Pilot.@@N@@Code
set_option linter.unusedVariables false
set_option linter.unusedSimpArgs false
set_option maxRecDepth 20000
namespace Jvm.JX
open Sem ClassFile Op Lib
abbrev Cel : Type := FieldType × Nat × Bool × (Nat → Value)
abbrev AH : Type := Nat × (Nat → Cel)
abbrev MInfo : Type := Nat × Nat × Nat × Option FieldType × Jvm.Room
abbrev Prog : Type := (Nat → Nat → Option (Instr × Nat × Int)) × (Nat → MInfo) × (Nat → FieldType) × Nat
abbrev Fm : Type := Nat × List Slot × List Value × Nat × Nat × AH
def na (P : Prog) (m : Nat) : Nat := (P.2.1 m).1
def ml (P : Prog) (m : Nat) : Nat := (P.2.1 m).2.1
def kd (P : Prog) (m : Nat) : Nat := (P.2.1 m).2.2.1
def rt (P : Prog) (m : Nat) : Option FieldType := (P.2.1 m).2.2.2.1
def rm (P : Prog) (m : Nat) : Jvm.Room := (P.2.1 m).2.2.2.2
def isO (H : AH) (a : Nat) : Bool := match (H.2 a).1 with | .object _ => true | _ => false
def isOw (H : AH) (a : Nat) : Bool := isO H a && (H.2 a).2.2.1
def inA (H : AH) (a : Nat) (t : FieldType) (i : Int32) : Bool := decide ((H.2 a).1 = .array t) && !decide (i < 0) && decide (i.toNatClampNeg < (H.2 a).2.1)
def inAw (H : AH) (a : Nat) (t : FieldType) (i : Int32) : Bool := inA H a t i && (H.2 a).2.2.1
def isA (H : AH) (a : Nat) : Bool := match (H.2 a).1 with | .array _ => true | _ => false
def elt (H : AH) (a : Nat) (i : Int32) : Value := (H.2 a).2.2.2 i.toNatClampNeg
def fld (H : AH) (a k : Nat) : Value := (H.2 a).2.2.2 k
def alen (H : AH) (a : Nat) : Nat := (H.2 a).2.1
def wr (H : AH) (a j : Nat) (v : Value) : AH := (H.1, fun b => if b = a then ((H.2 a).1, (H.2 a).2.1, (H.2 a).2.2.1, fun i => if i = j then v else (H.2 a).2.2.2 i) else H.2 b)
def okv : FieldType → Value → Bool
  | .int, .int _ => true
  | .boolean, .int z => z == 0 || z == 1
  | .byte, .int z => z.toInt8.toInt32 == z
  | .long, .long _ => true
  | .array _, .ref _ => true
  | _, _ => false
def mkO (P : Prog) (H : AH) : AH := (H.1 + 1, fun b => if b = H.1 then (.object "", P.2.2.2, true, fun k => defaultValue (P.2.2.1 k)) else H.2 b)
def mkA (t : FieldType) (n : Nat) (H : AH) : AH := (H.1 + 1, fun b => if b = H.1 then (.array t, n, true, fun _ => defaultValue t) else H.2 b)
def cat1 : Slot → Bool | .unset => true | .val v => v.category == 1 | .second => false
def cs (S : List Value) : Nat := (S.map fun v => v.category).sum
def stl (L : List Slot) (i : Nat) (v : Value) : Option (List Slot) :=
  match L[i]? with
  | some .unset => some (L.set i (.val v))
  | some (.val w) => if w.category = 1 then some (L.set i (.val v)) else if i + 1 < L.length then some ((L.set (i + 1) .unset).set i (.val v)) else none
  | some .second => if 1 ≤ i then some ((L.set (i - 1) .unset).set i (.val v)) else none
  | none => none
def lng : Slot → Bool | .val v => v.category == 2 | _ => false
def stL (L : List Slot) (i : Nat) (v : Value) : Option (List Slot) :=
  match L[i]?, L[i + 1]? with
  | some (.val w), some o2 => if w.category = 2 then some ((L.set i (.val v)).set (i + 1) .second) else if cat1 o2 = true then some ((L.set i (.val v)).set (i + 1) .second) else if lng o2 = true ∧ i + 2 < L.length then some (((L.set i (.val v)).set (i + 2) .unset).set (i + 1) .second) else none
  | some .unset, some o2 => if cat1 o2 = true then some ((L.set i (.val v)).set (i + 1) .second) else if lng o2 = true ∧ i + 2 < L.length then some (((L.set i (.val v)).set (i + 2) .unset).set (i + 1) .second) else none
  | some .second, some o2 => if 1 ≤ i then (if cat1 o2 = true then some (((L.set (i - 1) .unset).set i (.val v)).set (i + 1) .second) else if lng o2 = true ∧ i + 2 < L.length then some ((((L.set (i - 1) .unset).set i (.val v)).set (i + 2) .unset).set (i + 1) .second) else none) else none
  | _, _ => none
def ent (P : Prog) (m : Nat) (a : List Value) : List Slot := Sym.laidSlots a ++ List.replicate (ml P m - (Sym.laidSlots a).length) .unset
def ilen : Instr → Nat
  | .bipush _ | .iload _ | .istore _ | .aload _ | .astore _ | .lload _ | .lstore _ | .newarray _ | .ldc _ => 2
  | .sipush _ | .getfield _ | .putfield _ | .new _ | .invokevirtual _ | .invokestatic _ | .invokespecial _ | .ldc2_w _ | .goto _ | .ifCond _ _ | .if_icmp _ _ | .iinc _ _ => 3
  | _ => 1
def ldI (L : List Slot) (i : Nat) : Option Value := match L[i]? with | some (.val (.int x)) => some (.int x) | _ => none
def ldJ (L : List Slot) (i : Nat) : Option Value := match L[i]? with | some (.val (.long x)) => some (.long x) | _ => none
def ldR (L : List Slot) (i : Nat) : Option Value := match L[i]? with | some (.val (.ref x)) => some (.ref x) | _ => none
def jmp (pc : Nat) (o : Int) : Option Nat := if 0 ≤ (pc : Int) + o then some ((pc : Int) + o).toNat else none
def ret (P : Prog) (m : Nat) (ins : Instr) (S : List Value) : Option (Option Value) :=
  match ins with
  | .return_ => if rt P m = none ∧ S = [] then some none else none
  | .ireturn => match S, rt P m with
    | .int z :: _, some .int => some (some (.int z))
    | .int z :: _, some .boolean => if z = 0 ∨ z = 1 then some (some (.int z)) else none
    | _, _ => none
  | .lreturn => match S, rt P m with
    | .long z :: _, some .long => some (some (.long z))
    | _, _ => none
  | _ => none
def rcv (H : AH) : List Value → Bool | .ref a :: _ => isO H a | _ => false
def may (P : Prog) (m m' : Nat) (a r : List Value) (k n : Nat) (H : AH) : Bool :=
  decide ((Sym.laidSlots a).length ≤ ml P m') && decide (a.length = na P m') && decide ((rm P m').frames + 1 ≤ (rm P m).frames) && decide (cs r + (ml P m' + 11) + (rm P m').locals ≤ (rm P m).locals)
    && (decide ((rm P m').cells = 0 ∧ (rm P m').slots = 0) || decide (k + (rm P m').cells ≤ (rm P m).cells ∧ n + (rm P m').slots ≤ (rm P m).slots))
    && (decide (kd P m' = 0) || rcv H a)
def kindOk : Instr → Nat → Bool
  | .invokevirtual _, k => k == 1 || k == 2
  | .invokestatic _, k => k == 0
  | .invokespecial _, k => k == 3
  | _, _ => false
def cal1 (P : Prog) (m : Nat) (ins : Instr) (aux : Int) (S : List Value) (k n : Nat) (H : AH) : Option (Nat × List Value × List Value) :=
  if 0 ≤ aux ∧ kindOk ins (kd P aux.toNat) = true ∧ may P m aux.toNat (S.take (na P aux.toNat)).reverse (S.drop (na P aux.toNat)) k n H = true
  then some (aux.toNat, (S.take (na P aux.toNat)).reverse, S.drop (na P aux.toNat)) else none
def cal (P : Prog) (m : Nat) (ins : Instr) (aux : Int) (S : List Value) (k n : Nat) (H : AH) : Option (Nat × List Value × List Value) :=
  match ins with
  | .invokevirtual _ | .invokestatic _ | .invokespecial _ => cal1 P m ins aux S k n H
  | _ => none
def opI : Instr → Option (Int32 → Int32 → Int32)
  | .iadd => some fun x y => x + y
  | .isub => some fun x y => x - y
  | .imul => some fun x y => x * y
  | .iand => some fun x y => x &&& y
  | .ior => some fun x y => x ||| y
  | .ixor => some fun x y => x ^^^ y
  | .ishl => some fun x y => x <<< (y &&& 31)
  | .ishr => some fun x y => x >>> (y &&& 31)
  | .iushr => some Jvm.Free.XT.ushr
  | _ => none
def opJ : Instr → Option (Int64 → Int64 → Int64)
  | .ladd => some fun x y => x + y
  | .lsub => some fun x y => x - y
  | .lmul => some fun x y => x * y
  | .land => some fun x y => x &&& y
  | .lor => some fun x y => x ||| y
  | .lxor => some fun x y => x ^^^ y
  | _ => none
def opS : Instr → Option (Int64 → Int32 → Int64)
  | .lshl => some fun x y => x <<< (y.toInt64 &&& 63)
  | .lshr => some fun x y => x >>> (y.toInt64 &&& 63)
  | .lushr => some Jvm.Free.XT.ushrL
  | _ => none
def stp (P : Prog) (m : Nat) (ins : Instr) (len : Nat) (aux : Int) (pc : Nat) (L : List Slot) (S : List Value) (k n : Nat) (H : AH) : Option Fm :=
  match ins with
  | .iconst i => some (pc + len, L, .int (Int32.ofInt i) :: S, k, n, H)
  | .bipush i => some (pc + len, L, .int (Int8.ofInt i).toInt32 :: S, k, n, H)
  | .sipush i => some (pc + len, L, .int (Int16.ofInt i).toInt32 :: S, k, n, H)
  | .lconst i => some (pc + len, L, .long (Int64.ofNat i) :: S, k, n, H)
  | .ldc _ => some (pc + len, L, .int (Int32.ofInt aux) :: S, k, n, H)
  | .ldc2_w _ => some (pc + len, L, .long (Int64.ofInt aux) :: S, k, n, H)
  | .iload i => (ldI L i).map fun v => (pc + len, L, v :: S, k, n, H)
  | .iload_n i => (ldI L i.val).map fun v => (pc + len, L, v :: S, k, n, H)
  | .lload i => (ldJ L i).map fun v => (pc + len, L, v :: S, k, n, H)
  | .lload_n i => (ldJ L i.val).map fun v => (pc + len, L, v :: S, k, n, H)
  | .aload i => (ldR L i).map fun v => (pc + len, L, v :: S, k, n, H)
  | .aload_n i => (ldR L i.val).map fun v => (pc + len, L, v :: S, k, n, H)
  | .istore i => match S with | .int x :: S => (stl L i (.int x)).map fun L => (pc + len, L, S, k, n, H) | _ => none
  | .istore_n i => match S with | .int x :: S => (stl L i.val (.int x)).map fun L => (pc + len, L, S, k, n, H) | _ => none
  | .astore i => match S with | .ref x :: S => (stl L i (.ref x)).map fun L => (pc + len, L, S, k, n, H) | _ => none
  | .astore_n i => match S with | .ref x :: S => (stl L i.val (.ref x)).map fun L => (pc + len, L, S, k, n, H) | _ => none
  | .lstore i => match S with | .long x :: S => (stL L i (.long x)).map fun L => (pc + len, L, S, k, n, H) | _ => none
  | .lstore_n i => match S with | .long x :: S => (stL L i.val (.long x)).map fun L => (pc + len, L, S, k, n, H) | _ => none
  | .iinc i c => match L[i]? with | some (.val (.int x)) => some (pc + len, L.set i (.val (.int (x + Int32.ofInt c))), S, k, n, H) | _ => none
  | .iadd | .isub | .imul | .iand | .ior | .ixor | .ishl | .ishr | .iushr => match S with | .int y :: .int x :: S => (opI ins).map fun f => (pc + len, L, .int (f x y) :: S, k, n, H) | _ => none
  | .ladd | .lsub | .lmul | .land | .lor | .lxor => match S with | .long y :: .long x :: S => (opJ ins).map fun f => (pc + len, L, .long (f x y) :: S, k, n, H) | _ => none
  | .lshl | .lshr | .lushr => match S with | .int y :: .long x :: S => (opS ins).map fun f => (pc + len, L, .long (f x y) :: S, k, n, H) | _ => none
  | .idiv => match S with | .int y :: .int x :: S => if y = 0 then none else some (pc + len, L, .int (x / y) :: S, k, n, H) | _ => none
  | .irem => match S with | .int y :: .int x :: S => if y = 0 then none else some (pc + len, L, .int (x % y) :: S, k, n, H) | _ => none
  | .ldiv => match S with | .long y :: .long x :: S => if y = 0 then none else some (pc + len, L, .long (x / y) :: S, k, n, H) | _ => none
  | .lrem => match S with | .long y :: .long x :: S => if y = 0 then none else some (pc + len, L, .long (x % y) :: S, k, n, H) | _ => none
  | .ineg => match S with | .int x :: S => some (pc + len, L, .int (-x) :: S, k, n, H) | _ => none
  | .lneg => match S with | .long x :: S => some (pc + len, L, .long (-x) :: S, k, n, H) | _ => none
  | .i2l => match S with | .int x :: S => some (pc + len, L, .long x.toInt64 :: S, k, n, H) | _ => none
  | .l2i => match S with | .long x :: S => some (pc + len, L, .int x.toInt32 :: S, k, n, H) | _ => none
  | .i2b => match S with | .int x :: S => some (pc + len, L, .int x.toInt8.toInt32 :: S, k, n, H) | _ => none
  | .lcmp => match S with | .long y :: .long x :: S => some (pc + len, L, .int (Jvm.Free.XT.cmpL x y) :: S, k, n, H) | _ => none
  | .dup => match S with | v :: S => if v.category = 1 then some (pc + len, L, v :: v :: S, k, n, H) else none | _ => none
  | .dup2 => match S with
    | .long x :: S => some (pc + len, L, .long x :: .long x :: S, k, n, H)
    | v :: w :: S => if v.category = 1 ∧ w.category = 1 then some (pc + len, L, v :: w :: v :: w :: S, k, n, H) else none
    | _ => none
  | .pop => match S with | v :: S => if v.category = 1 then some (pc + len, L, S, k, n, H) else none | _ => none
  | .goto o => (jmp pc o).map fun q => (q, L, S, k, n, H)
  | .ifCond c o => match S with | .int x :: S => if ifCond.holds c x = true then (jmp pc o).map fun q => (q, L, S, k, n, H) else some (pc + len, L, S, k, n, H) | _ => none
  | .if_icmp c o => match S with | .int y :: .int x :: S => if if_icmp.holds c x y = true then (jmp pc o).map fun q => (q, L, S, k, n, H) else some (pc + len, L, S, k, n, H) | _ => none
  | .tableswitch d lo hi os => match S with
    | .int x :: S => if x.toInt < lo ∨ x.toInt > hi then (jmp pc d).map fun q => (q, L, S, k, n, H) else (os[(x.toInt - lo).toNat]?).bind fun o => (jmp pc o).map fun q => (q, L, S, k, n, H)
    | _ => none
  | .getfield _ => match S with | .ref a :: S => if isO H a = true then some (pc + len, L, fld H a aux.toNat :: S, k, n, H) else none | _ => none
  | .putfield _ => match S with | v :: .ref a :: S => if isOw H a = true ∧ okv (P.2.2.1 aux.toNat) v = true then some (pc + len, L, S, k, n, wr H a aux.toNat v) else none | _ => none
  | .iaload => match S with | .int i :: .ref a :: S => if inA H a .int i = true then some (pc + len, L, elt H a i :: S, k, n, H) else none | _ => none
  | .laload => match S with | .int i :: .ref a :: S => if inA H a .long i = true then some (pc + len, L, elt H a i :: S, k, n, H) else none | _ => none
  | .baload => match S with | .int i :: .ref a :: S => if inA H a .byte i = true ∨ inA H a .boolean i = true then some (pc + len, L, elt H a i :: S, k, n, H) else none | _ => none
  | .iastore => match S with | .int x :: .int i :: .ref a :: S => if inAw H a .int i = true then some (pc + len, L, S, k, n, wr H a i.toNatClampNeg (.int x)) else none | _ => none
  | .lastore => match S with | .long x :: .int i :: .ref a :: S => if inAw H a .long i = true then some (pc + len, L, S, k, n, wr H a i.toNatClampNeg (.long x)) else none | _ => none
  | .bastore => match S with
    | .int x :: .int i :: .ref a :: S => if (inAw H a .byte i = true ∧ okv .byte (.int x) = true) ∨ (inAw H a .boolean i = true ∧ okv .boolean (.int x) = true) then some (pc + len, L, S, k, n, wr H a i.toNatClampNeg (.int x)) else none
    | _ => none
  | .arraylength => match S with | .ref a :: S => if isA H a = true then some (pc + len, L, .int (alen H a).toInt32 :: S, k, n, H) else none | _ => none
  | .newarray t => match S with | .int c :: S => if ¬ c < 0 ∧ c.toNatClampNeg * 8 ≤ 536870912 ∧ k + 1 ≤ (rm P m).cells ∧ n + c.toNatClampNeg ≤ (rm P m).slots then some (pc + len, L, .ref H.1 :: S, k + 1, n + c.toNatClampNeg, mkA (newarray.typeOf t) c.toNatClampNeg H) else none | _ => none
  | .new _ => if 0 ≤ aux ∧ k + 1 ≤ (rm P m).cells ∧ n + aux.toNat ≤ (rm P m).slots then some (pc + len, L, .ref H.1 :: S, k + 1, n + aux.toNat, mkO P H) else none
  | .invokespecial _ => match S with | .ref a :: S => if aux = -1 ∧ 1 ≤ (rm P m).frames ∧ cs S + 12 ≤ (rm P m).locals then some (pc + len, L, S, k, n, H) else none | _ => none
  | _ => none
def run (P : Prog) : Nat → Nat → Nat → List Slot → List Value → Nat → Nat → AH → Option (Option Value × AH)
  | 0, _, _, _, _, _, _, _ => none
  | f + 1, m, pc, L, S, k, n, H =>
    match P.1 m pc with
    | none => none
    | some d =>
      match ret P m d.1 S with
      | some v => some (v, H)
      | none => match cal P m d.1 d.2.2 S k n H with
        | some c => match run P f c.1 0 (ent P c.1 c.2.1) [] 0 0 H with
          | none => none
          | some r => run P f m (pc + d.2.1) L (r.1.toList ++ c.2.2) (k + (rm P c.1).cells) (n + (rm P c.1).slots) r.2
        | none => match stp P m d.1 d.2.1 d.2.2 pc L S k n H with
          | none => none
          | some q => run P f m q.1 q.2.1 q.2.2.1 q.2.2.2.1 q.2.2.2.2.1 q.2.2.2.2.2
end Jvm.JX

namespace Jvm.JX
open Sem ClassFile Op Lib
section
variable {P : Prog}
theorem run_succ (f m pc : Nat) (L : List Slot) (S : List Value) (k n : Nat) (H : AH) : run P (f + 1) m pc L S k n H =
    match P.1 m pc with
    | none => none
    | some d =>
      match ret P m d.1 S with
      | some v => some (v, H)
      | none => match cal P m d.1 d.2.2 S k n H with
        | some c => match run P f c.1 0 (ent P c.1 c.2.1) [] 0 0 H with
          | none => none
          | some r => run P f m (pc + d.2.1) L (r.1.toList ++ c.2.2) (k + (rm P c.1).cells) (n + (rm P c.1).slots) r.2
        | none => match stp P m d.1 d.2.1 d.2.2 pc L S k n H with
          | none => none
          | some q => run P f m q.1 q.2.1 q.2.2.1 q.2.2.2.1 q.2.2.2.2.1 q.2.2.2.2.2 := rfl
theorem run_mono : ∀ (f m pc : Nat) (L : List Slot) (S : List Value) (k n : Nat) (H : AH) (r : Option Value × AH), run P f m pc L S k n H = some r → run P (f + 1) m pc L S k n H = some r := by
  intro f
  induction f with
  | zero => intro m pc L S k n H r h; cases h
  | succ f ih =>
    intro m pc L S k n H r h
    rw [run_succ] at h ⊢
    cases hd : P.1 m pc with
    | none => rw [hd] at h; cases h
    | some d =>
      rw [hd] at h
      simp only at h ⊢
      cases hr : ret P m d.1 S with
      | some v => rw [hr] at h; exact h
      | none =>
        rw [hr] at h
        simp only at h ⊢
        cases hc : cal P m d.1 d.2.2 S k n H with
        | some c =>
          rw [hc] at h
          simp only at h ⊢
          cases hq : run P f c.1 0 (ent P c.1 c.2.1) [] 0 0 H with
          | none => rw [hq] at h; cases h
          | some q =>
            rw [hq] at h
            rw [ih _ _ _ _ _ _ _ _ hq]
            exact ih _ _ _ _ _ _ _ _ h
        | none =>
          rw [hc] at h
          simp only at h ⊢
          cases hs : stp P m d.1 d.2.1 d.2.2 pc L S k n H with
          | none => rw [hs] at h; cases h
          | some q => rw [hs] at h; exact ih _ _ _ _ _ _ _ _ h
theorem run_le {f g : Nat} (hfg : f ≤ g) {m pc : Nat} {L : List Slot} {S : List Value} {k n : Nat} {H : AH} {r : Option Value × AH} (h : run P f m pc L S k n H = some r) : run P g m pc L S k n H = some r := by
  induction hfg with
  | refl => exact h
  | step _ ih => exact run_mono _ _ _ _ _ _ _ _ _ ih
end
def W (P : Prog) (m pc : Nat) (L : List Slot) (S : List Value) (k n : Nat) (H : AH) (Q : Option Value → AH → Prop) : Prop := ∃ f v H', run P f m pc L S k n H = some (v, H') ∧ Q v H'
def Cl (P : Prog) (m : Nat) (a : List Value) (H : AH) (Q : Option Value → AH → Prop) : Prop := W P m 0 (ent P m a) [] 0 0 H Q
section Rules
variable {P : Prog} {m pc : Nat} {L : List Slot} {S : List Value} {k n : Nat} {H : AH} {Q : Option Value → AH → Prop} {ins : Instr} {len : Nat} {aux : Int}
theorem W_r {v : Option Value} (hd : P.1 m pc = some (ins, len, aux)) (hr : ret P m ins S = some v) : W P m pc L S k n H Q ↔ Q v H := by
  constructor
  · rintro ⟨f, v', H', h1, h2⟩
    cases f with
    | zero => cases h1
    | succ f => rw [run_succ, hd] at h1; simp only [hr] at h1; cases h1; exact h2
  · intro h
    refine ⟨1, v, H, ?_, h⟩
    rw [run_succ, hd]; simp only [hr]
theorem W_c {m' : Nat} {a r : List Value} (hd : P.1 m pc = some (ins, len, aux)) (hr : ret P m ins S = none) (hc : cal P m ins aux S k n H = some (m', a, r)) :
    W P m pc L S k n H Q ↔ Cl P m' a H (fun v H' => W P m (pc + len) L (v.toList ++ r) (k + (rm P m').cells) (n + (rm P m').slots) H' Q) := by
  constructor
  · rintro ⟨f, v', H', h1, h2⟩
    cases f with
    | zero => cases h1
    | succ f =>
      rw [run_succ, hd] at h1; simp only [hr, hc] at h1
      cases hq : run P f m' 0 (ent P m' a) [] 0 0 H with
      | none => rw [hq] at h1; cases h1
      | some q => rw [hq] at h1; exact ⟨f, q.1, q.2, hq, f, v', H', h1, h2⟩
  · rintro ⟨f, v, H', h1, g, v', H'', h2, h3⟩
    refine ⟨max f g + 1, v', H'', ?_, h3⟩
    rw [run_succ, hd]; simp only [hr, hc]
    rw [run_le (Nat.le_max_left f g) h1]
    exact run_le (Nat.le_max_right f g) h2
theorem W_q (hd : P.1 m pc = some (ins, len, aux)) (hr : ret P m ins S = none) (hc : cal P m ins aux S k n H = none) :
    W P m pc L S k n H Q ↔ ∃ q, stp P m ins len aux pc L S k n H = some q ∧ W P m q.1 q.2.1 q.2.2.1 q.2.2.2.1 q.2.2.2.2.1 q.2.2.2.2.2 Q := by
  constructor
  · rintro ⟨f, v', H', h1, h2⟩
    cases f with
    | zero => cases h1
    | succ f =>
      rw [run_succ, hd] at h1; simp only [hr, hc] at h1
      cases hq : stp P m ins len aux pc L S k n H with
      | none => rw [hq] at h1; cases h1
      | some q => rw [hq] at h1; exact ⟨q, rfl, f, v', H', h1, h2⟩
  · rintro ⟨q, hq, f, v', H', h1, h2⟩
    refine ⟨f + 1, v', H', ?_, h2⟩
    rw [run_succ, hd]; simp only [hr, hc, hq]; exact h1
theorem W_s {pc' : Nat} {L' : List Slot} {S' : List Value} {k' n' : Nat} {H' : AH} (hd : P.1 m pc = some (ins, len, aux)) (hr : ret P m ins S = none) (hc : cal P m ins aux S k n H = none)
    (hs : stp P m ins len aux pc L S k n H = some (pc', L', S', k', n', H')) : W P m pc L S k n H Q ↔ W P m pc' L' S' k' n' H' Q := by
  rw [W_q hd hr hc, hs]
  exact ⟨fun ⟨q, e, h⟩ => by cases e; exact h, fun h => ⟨_, rfl, h⟩⟩
theorem W_g {G : Prop} [Decidable G] {pc' : Nat} {L' : List Slot} {S' : List Value} {k' n' : Nat} {H' : AH} (hd : P.1 m pc = some (ins, len, aux)) (hr : ret P m ins S = none) (hc : cal P m ins aux S k n H = none)
    (hs : stp P m ins len aux pc L S k n H = if G then some (pc', L', S', k', n', H') else none) : W P m pc L S k n H Q ↔ (G ∧ W P m pc' L' S' k' n' H' Q) := by
  rw [W_q hd hr hc, hs]
  by_cases g : G
  · rw [if_pos g]; exact ⟨fun ⟨q, e, h⟩ => by cases e; exact ⟨g, h⟩, fun h => ⟨_, rfl, h.2⟩⟩
  · rw [if_neg g]; exact ⟨fun ⟨q, e, h⟩ => (by cases e), fun h => absurd h.1 g⟩
theorem W_n {G : Prop} [Decidable G] {pc' : Nat} {L' : List Slot} {S' : List Value} {k' n' : Nat} {H' : AH} (hd : P.1 m pc = some (ins, len, aux)) (hr : ret P m ins S = none) (hc : cal P m ins aux S k n H = none)
    (hs : stp P m ins len aux pc L S k n H = if G then none else some (pc', L', S', k', n', H')) : W P m pc L S k n H Q ↔ (¬ G ∧ W P m pc' L' S' k' n' H' Q) := by
  rw [W_q hd hr hc, hs]
  by_cases g : G
  · rw [if_pos g]; exact ⟨fun ⟨q, e, h⟩ => (by cases e), fun h => absurd g h.1⟩
  · rw [if_neg g]; exact ⟨fun ⟨q, e, h⟩ => by cases e; exact ⟨g, h⟩, fun h => ⟨_, rfl, h.2⟩⟩
theorem W_f {G : Prop} [Decidable G] {q1 q2 : Fm} (hd : P.1 m pc = some (ins, len, aux)) (hr : ret P m ins S = none) (hc : cal P m ins aux S k n H = none)
    (hs : stp P m ins len aux pc L S k n H = if G then some q1 else some q2) : W P m pc L S k n H Q ↔ (if G then W P m q1.1 q1.2.1 q1.2.2.1 q1.2.2.2.1 q1.2.2.2.2.1 q1.2.2.2.2.2 Q else W P m q2.1 q2.2.1 q2.2.2.1 q2.2.2.2.1 q2.2.2.2.2.1 q2.2.2.2.2.2 Q) := by
  rw [W_q hd hr hc, hs]
  by_cases g : G
  · rw [if_pos g, if_pos g]; exact ⟨fun ⟨q, e, h⟩ => by cases e; exact h, fun h => ⟨_, rfl, h⟩⟩
  · rw [if_neg g, if_neg g]; exact ⟨fun ⟨q, e, h⟩ => by cases e; exact h, fun h => ⟨_, rfl, h⟩⟩
section Cmp
variable {x y : Int32} {o : Int} {q : Nat}
theorem W_icmp_eq (hd : P.1 m pc = some (.if_icmp .eq o, len, aux)) (hj : jmp pc o = some q) : W P m pc L (.int y :: .int x :: S) k n H Q ↔ (if x = y then W P m q L S k n H Q else W P m (pc + len) L S k n H Q) :=
  W_f (G := x = y) (q1 := (q, L, S, k, n, H)) (q2 := (pc + len, L, S, k, n, H)) hd rfl rfl (by simp only [stp, hj, if_icmp.holds]; by_cases h : x = y <;> simp [h])
theorem W_icmp_ne (hd : P.1 m pc = some (.if_icmp .ne o, len, aux)) (hj : jmp pc o = some q) : W P m pc L (.int y :: .int x :: S) k n H Q ↔ (if x = y then W P m (pc + len) L S k n H Q else W P m q L S k n H Q) :=
  W_f (G := x = y) (q1 := (pc + len, L, S, k, n, H)) (q2 := (q, L, S, k, n, H)) hd rfl rfl (by simp only [stp, hj, if_icmp.holds]; by_cases h : x = y <;> simp [h])
theorem W_icmp_lt (hd : P.1 m pc = some (.if_icmp .lt o, len, aux)) (hj : jmp pc o = some q) : W P m pc L (.int y :: .int x :: S) k n H Q ↔ (if x < y then W P m q L S k n H Q else W P m (pc + len) L S k n H Q) :=
  W_f (G := x < y) (q1 := (q, L, S, k, n, H)) (q2 := (pc + len, L, S, k, n, H)) hd rfl rfl (by
    by_cases h : x < y
    · simp [stp, hj, Jvm.Free.XT.ii_lt_t h, h]
    · simp [stp, hj, Jvm.Free.XT.ii_lt_f h, h])
theorem W_icmp_ge (hd : P.1 m pc = some (.if_icmp .ge o, len, aux)) (hj : jmp pc o = some q) : W P m pc L (.int y :: .int x :: S) k n H Q ↔ (if x < y then W P m (pc + len) L S k n H Q else W P m q L S k n H Q) :=
  W_f (G := x < y) (q1 := (pc + len, L, S, k, n, H)) (q2 := (q, L, S, k, n, H)) hd rfl rfl (by
    by_cases h : x < y
    · simp [stp, hj, Jvm.Free.XT.ii_ge_f h, h]
    · simp [stp, hj, Jvm.Free.XT.ii_ge_t h, h])
theorem W_icmp_gt (hd : P.1 m pc = some (.if_icmp .gt o, len, aux)) (hj : jmp pc o = some q) : W P m pc L (.int y :: .int x :: S) k n H Q ↔ (if y < x then W P m q L S k n H Q else W P m (pc + len) L S k n H Q) :=
  W_f (G := y < x) (q1 := (q, L, S, k, n, H)) (q2 := (pc + len, L, S, k, n, H)) hd rfl rfl (by
    by_cases h : y < x
    · simp [stp, hj, Jvm.Free.XT.ii_gt_t h, h]
    · simp [stp, hj, Jvm.Free.XT.ii_gt_f h, h])
theorem W_icmp_le (hd : P.1 m pc = some (.if_icmp .le o, len, aux)) (hj : jmp pc o = some q) : W P m pc L (.int y :: .int x :: S) k n H Q ↔ (if y < x then W P m (pc + len) L S k n H Q else W P m q L S k n H Q) :=
  W_f (G := y < x) (q1 := (pc + len, L, S, k, n, H)) (q2 := (q, L, S, k, n, H)) hd rfl rfl (by
    by_cases h : y < x
    · simp [stp, hj, Jvm.Free.XT.ii_le_f h, h]
    · simp [stp, hj, Jvm.Free.XT.ii_le_t h, h])
theorem W_if_eq (hd : P.1 m pc = some (.ifCond .eq o, len, aux)) (hj : jmp pc o = some q) : W P m pc L (.int x :: S) k n H Q ↔ (if x = 0 then W P m q L S k n H Q else W P m (pc + len) L S k n H Q) :=
  W_f (G := x = 0) (q1 := (q, L, S, k, n, H)) (q2 := (pc + len, L, S, k, n, H)) hd rfl rfl (by
    by_cases h : x = 0
    · have e := Jvm.Free.XT.i0_eq_t h; simp only [stp, hj, e, if_pos h, if_true, Option.map_some]
    · simp [stp, hj, Jvm.Free.XT.i0_eq_f h, h])
theorem W_if_ne (hd : P.1 m pc = some (.ifCond .ne o, len, aux)) (hj : jmp pc o = some q) : W P m pc L (.int x :: S) k n H Q ↔ (if x = 0 then W P m (pc + len) L S k n H Q else W P m q L S k n H Q) :=
  W_f (G := x = 0) (q1 := (pc + len, L, S, k, n, H)) (q2 := (q, L, S, k, n, H)) hd rfl rfl (by
    by_cases h : x = 0
    · have e := Jvm.Free.XT.i0_ne_f h; simp only [stp, hj, e, if_pos h, Bool.false_eq_true, if_false]
    · simp [stp, hj, Jvm.Free.XT.i0_ne_t h, h])
theorem W_if_lt (hd : P.1 m pc = some (.ifCond .lt o, len, aux)) (hj : jmp pc o = some q) : W P m pc L (.int x :: S) k n H Q ↔ (if x < 0 then W P m q L S k n H Q else W P m (pc + len) L S k n H Q) :=
  W_f (G := x < 0) (q1 := (q, L, S, k, n, H)) (q2 := (pc + len, L, S, k, n, H)) hd rfl rfl (by
    by_cases h : x < 0
    · simp [stp, hj, Jvm.Free.XT.i0_lt_t h, h]
    · simp [stp, hj, Jvm.Free.XT.i0_lt_f h, h])
theorem W_if_ge (hd : P.1 m pc = some (.ifCond .ge o, len, aux)) (hj : jmp pc o = some q) : W P m pc L (.int x :: S) k n H Q ↔ (if x < 0 then W P m (pc + len) L S k n H Q else W P m q L S k n H Q) :=
  W_f (G := x < 0) (q1 := (pc + len, L, S, k, n, H)) (q2 := (q, L, S, k, n, H)) hd rfl rfl (by
    by_cases h : x < 0
    · simp [stp, hj, Jvm.Free.XT.i0_ge_f h, h]
    · simp [stp, hj, Jvm.Free.XT.i0_ge_t h, h])
theorem W_if_le (hd : P.1 m pc = some (.ifCond .le o, len, aux)) (hj : jmp pc o = some q) : W P m pc L (.int x :: S) k n H Q ↔ (if 0 < x then W P m (pc + len) L S k n H Q else W P m q L S k n H Q) :=
  W_f (G := 0 < x) (q1 := (pc + len, L, S, k, n, H)) (q2 := (q, L, S, k, n, H)) hd rfl rfl (by
    by_cases h : 0 < x
    · simp [stp, hj, Jvm.Free.XT.i0_le_f h, h]
    · simp [stp, hj, Jvm.Free.XT.i0_le_t h, h])
theorem W_goto (hd : P.1 m pc = some (.goto o, len, aux)) (hj : jmp pc o = some q) : W P m pc L S k n H Q ↔ W P m q L S k n H Q := W_s hd rfl rfl (by simp [stp, hj])
end Cmp
section Sto
variable {i : Nat} {o o2 : Slot} {x y : Int32} {v : Value} {l : Int64} {a : Nat}
theorem stl_plain (h : L[i]? = some o) (ho : cat1 o = true) : stl L i v = some (L.set i (.val v)) := by
  unfold stl
  rw [h]
  cases o with
  | unset => rfl
  | second => cases ho
  | val w => simp only [cat1, beq_iff_eq] at ho; simp [ho]
theorem stL_plain (h : L[i]? = some o) (h2 : L[i + 1]? = some o2) (ho : cat1 o = true) (ho2 : cat1 o2 = true) : stL L i v = some ((L.set i (.val v)).set (i + 1) .second) := by
  unfold stL
  rw [h, h2]
  cases o with
  | unset => simp [ho2]
  | second => cases ho
  | val w => simp only [cat1, beq_iff_eq] at ho; simp [ho, ho2]
theorem stL_again (h : L[i]? = some (.val (.long l))) (h2 : L[i + 1]? = some o2) : stL L i v = some ((L.set i (.val v)).set (i + 1) .second) := by
  unfold stL
  rw [h, h2]; simp [Value.category]
theorem W_ist (hd : P.1 m pc = some (.istore i, len, aux)) (h : L[i]? = some o) (ho : cat1 o = true) : W P m pc L (.int x :: S) k n H Q ↔ W P m (pc + len) (L.set i (.val (.int x))) S k n H Q := W_s hd rfl rfl (by simp [stp, stl_plain h ho])
theorem W_istn {i : Fin 4} (hd : P.1 m pc = some (.istore_n i, len, aux)) (h : L[i.val]? = some o) (ho : cat1 o = true) : W P m pc L (.int x :: S) k n H Q ↔ W P m (pc + len) (L.set i.val (.val (.int x))) S k n H Q := W_s hd rfl rfl (by simp [stp, stl_plain h ho])
theorem W_ast (hd : P.1 m pc = some (.astore i, len, aux)) (h : L[i]? = some o) (ho : cat1 o = true) : W P m pc L (.ref a :: S) k n H Q ↔ W P m (pc + len) (L.set i (.val (.ref a))) S k n H Q := W_s hd rfl rfl (by simp [stp, stl_plain h ho])
theorem W_lst (hd : P.1 m pc = some (.lstore i, len, aux)) (h : L[i]? = some o) (h2 : L[i + 1]? = some o2) (ho : cat1 o = true) (ho2 : cat1 o2 = true) : W P m pc L (.long l :: S) k n H Q ↔ W P m (pc + len) ((L.set i (.val (.long l))).set (i + 1) .second) S k n H Q := W_s hd rfl rfl (by simp [stp, stL_plain h h2 ho ho2])
theorem W_lstn {i : Fin 4} (hd : P.1 m pc = some (.lstore_n i, len, aux)) (h : L[i.val]? = some o) (h2 : L[i.val + 1]? = some o2) (ho : cat1 o = true) (ho2 : cat1 o2 = true) : W P m pc L (.long l :: S) k n H Q ↔ W P m (pc + len) ((L.set i.val (.val (.long l))).set (i.val + 1) .second) S k n H Q := W_s hd rfl rfl (by simp [stp, stL_plain h h2 ho ho2])
theorem W_lst' {l' : Int64} (hd : P.1 m pc = some (.lstore i, len, aux)) (h : L[i]? = some (.val (.long l'))) (h2 : L[i + 1]? = some o2) : W P m pc L (.long l :: S) k n H Q ↔ W P m (pc + len) ((L.set i (.val (.long l))).set (i + 1) .second) S k n H Q := W_s hd rfl rfl (by simp [stp, stL_again h h2])
theorem cs_nil : cs [] = 0 := by simp [cs]
theorem cs_ref : cs (.ref a :: S) = 1 + cs S := by simp [cs, Value.category]
theorem cs_long : cs (.long l :: S) = 2 + cs S := by simp [cs, Value.category]
end Sto
section Heap
variable {a j : Nat} {i x c : Int32} {v : Value} {l : Int64}
theorem W_getf {ix : Nat} (hd : P.1 m pc = some (.getfield ix, len, aux)) : W P m pc L (.ref a :: S) k n H Q ↔ (isO H a = true ∧ W P m (pc + len) L (fld H a aux.toNat :: S) k n H Q) := W_g hd rfl rfl rfl
theorem W_putf {ix : Nat} (hd : P.1 m pc = some (.putfield ix, len, aux)) : W P m pc L (v :: .ref a :: S) k n H Q ↔ ((isOw H a = true ∧ okv (P.2.2.1 aux.toNat) v = true) ∧ W P m (pc + len) L S k n (wr H a aux.toNat v) Q) := W_g hd rfl rfl rfl
theorem W_iaload (hd : P.1 m pc = some (.iaload, len, aux)) : W P m pc L (.int i :: .ref a :: S) k n H Q ↔ (inA H a .int i = true ∧ W P m (pc + len) L (elt H a i :: S) k n H Q) := W_g hd rfl rfl rfl
theorem W_laload (hd : P.1 m pc = some (.laload, len, aux)) : W P m pc L (.int i :: .ref a :: S) k n H Q ↔ (inA H a .long i = true ∧ W P m (pc + len) L (elt H a i :: S) k n H Q) := W_g hd rfl rfl rfl
theorem W_baload (hd : P.1 m pc = some (.baload, len, aux)) : W P m pc L (.int i :: .ref a :: S) k n H Q ↔ ((inA H a .byte i = true ∨ inA H a .boolean i = true) ∧ W P m (pc + len) L (elt H a i :: S) k n H Q) := W_g hd rfl rfl rfl
theorem W_iastore (hd : P.1 m pc = some (.iastore, len, aux)) : W P m pc L (.int x :: .int i :: .ref a :: S) k n H Q ↔ (inAw H a .int i = true ∧ W P m (pc + len) L S k n (wr H a i.toNatClampNeg (.int x)) Q) := W_g hd rfl rfl rfl
theorem W_lastore (hd : P.1 m pc = some (.lastore, len, aux)) : W P m pc L (.long l :: .int i :: .ref a :: S) k n H Q ↔ (inAw H a .long i = true ∧ W P m (pc + len) L S k n (wr H a i.toNatClampNeg (.long l)) Q) := W_g hd rfl rfl rfl
theorem W_bastore (hd : P.1 m pc = some (.bastore, len, aux)) : W P m pc L (.int x :: .int i :: .ref a :: S) k n H Q ↔ (((inAw H a .byte i = true ∧ okv .byte (.int x) = true) ∨ (inAw H a .boolean i = true ∧ okv .boolean (.int x) = true)) ∧ W P m (pc + len) L S k n (wr H a i.toNatClampNeg (.int x)) Q) := W_g hd rfl rfl rfl
theorem W_newarr {t : ArrayType} (hd : P.1 m pc = some (.newarray t, len, aux)) : W P m pc L (.int c :: S) k n H Q ↔ ((¬ c < 0 ∧ c.toNatClampNeg * 8 ≤ 536870912 ∧ k + 1 ≤ (rm P m).cells ∧ n + c.toNatClampNeg ≤ (rm P m).slots) ∧ W P m (pc + len) L (.ref H.1 :: S) (k + 1) (n + c.toNatClampNeg) (mkA (newarray.typeOf t) c.toNatClampNeg H) Q) := W_g hd rfl rfl rfl
theorem W_new {ix : Nat} (hd : P.1 m pc = some (.new ix, len, aux)) : W P m pc L S k n H Q ↔ ((0 ≤ aux ∧ k + 1 ≤ (rm P m).cells ∧ n + aux.toNat ≤ (rm P m).slots) ∧ W P m (pc + len) L (.ref H.1 :: S) (k + 1) (n + aux.toNat) (mkO P H) Q) := W_g hd rfl rfl rfl
theorem W_oinit {ix : Nat} (hd : P.1 m pc = some (.invokespecial ix, len, -1)) : W P m pc L (.ref a :: S) k n H Q ↔ ((1 ≤ (rm P m).frames ∧ cs S + 12 ≤ (rm P m).locals) ∧ W P m (pc + len) L S k n H Q) :=
  W_g (G := 1 ≤ (rm P m).frames ∧ cs S + 12 ≤ (rm P m).locals) hd rfl (by simp [cal, cal1]) (by simp [stp])
theorem W_idiv {y : Int32} (hd : P.1 m pc = some (.idiv, len, aux)) : W P m pc L (.int y :: .int x :: S) k n H Q ↔ (¬ y = 0 ∧ W P m (pc + len) L (.int (x / y) :: S) k n H Q) := W_n hd rfl rfl rfl
theorem W_irem {y : Int32} (hd : P.1 m pc = some (.irem, len, aux)) : W P m pc L (.int y :: .int x :: S) k n H Q ↔ (¬ y = 0 ∧ W P m (pc + len) L (.int (x % y) :: S) k n H Q) := W_n hd rfl rfl rfl
end Heap
section Call
variable {m' : Nat} {a r : List Value} {b : Nat}
theorem cal_eq (hk : kindOk ins (kd P m') = true) (hl : a.length = na P m') : cal P m ins (m' : Int) (a.reverse ++ r) k n H = if may P m m' a r k n H = true then some (m', a, r) else none := by
  have e1 : (a.reverse ++ r).take (na P m') = a.reverse := by rw [← hl, ← List.length_reverse (as := a)]; exact List.take_left ..
  have e2 : (a.reverse ++ r).drop (na P m') = r := by rw [← hl, ← List.length_reverse (as := a)]; exact List.drop_left ..
  have key : cal1 P m ins (m' : Int) (a.reverse ++ r) k n H = if may P m m' a r k n H = true then some (m', a, r) else none := by
    unfold cal1
    rw [Int.toNat_natCast, e1, e2, List.reverse_reverse]
    simp [hk]
  cases ins <;> first | exact key | (cases hk)
theorem W_call (hd : P.1 m pc = some (ins, len, (m' : Int))) (hr : ret P m ins S = none) (hk : kindOk ins (kd P m') = true) (hl : a.length = na P m') (hS : S = a.reverse ++ r) (hns : stp P m ins len (m' : Int) pc L S k n H = none) :
    W P m pc L S k n H Q ↔ (may P m m' a r k n H = true ∧ Cl P m' a H (fun v H' => W P m (pc + len) L (v.toList ++ r) (k + (rm P m').cells) (n + (rm P m').slots) H' Q)) := by
  have hc : cal P m ins (m' : Int) S k n H = if may P m m' a r k n H = true then some (m', a, r) else none := by rw [hS]; exact cal_eq hk hl
  by_cases g : may P m m' a r k n H = true
  · rw [if_pos g] at hc
    rw [W_c hd hr hc]; simp [g]
  · rw [if_neg g] at hc
    rw [W_q hd hr hc, hns]
    exact ⟨fun ⟨q, e, h⟩ => (by cases e), fun h => absurd h.1 g⟩
theorem W_inst {ix : Nat} {as : List Value} (hd : P.1 m pc = some (.invokevirtual ix, len, (m' : Int))) (hk : kindOk (.invokevirtual ix) (kd P m') = true) (hl : as.length + 1 = na P m') (hS : S = as.reverse ++ .ref b :: r)
    (h1 : (Sym.laidSlots (.ref b :: as)).length ≤ ml P m') (h2 : (rm P m').frames + 1 ≤ (rm P m).frames) (h3 : (rm P m').cells = 0 ∧ (rm P m').slots = 0) :
    W P m pc L S k n H Q ↔ ((isO H b = true ∧ cs r + (ml P m' + 11) + (rm P m').locals ≤ (rm P m).locals) ∧ Cl P m' (.ref b :: as) H (fun v H' => W P m (pc + len) L (v.toList ++ r) k n H' Q)) := by
  rw [W_call (a := .ref b :: as) (r := r) hd rfl hk hl (by rw [hS]; simp) rfl]
  have e : may P m m' (.ref b :: as) r k n H = true ↔ (isO H b = true ∧ cs r + (ml P m' + 11) + (rm P m').locals ≤ (rm P m).locals) := by
    have hk0 : kd P m' ≠ 0 := by intro h; rw [h] at hk; cases hk
    simp [may, rcv, h1, h2, h3, ← hl, hk0]; exact And.comm
  rw [e, h3.1, h3.2]; rfl
theorem W_stat {ix : Nat} (hd : P.1 m pc = some (.invokestatic ix, len, (m' : Int))) (hk : kindOk (.invokestatic ix) (kd P m') = true) (hl : a.length = na P m') (hS : S = a.reverse ++ r)
    (h1 : (Sym.laidSlots a).length ≤ ml P m') (h2 : (rm P m').frames + 1 ≤ (rm P m).frames) (h3 : (rm P m').cells = 0 ∧ (rm P m').slots = 0) :
    W P m pc L S k n H Q ↔ ((cs r + (ml P m' + 11) + (rm P m').locals ≤ (rm P m).locals) ∧ Cl P m' a H (fun v H' => W P m (pc + len) L (v.toList ++ r) k n H' Q)) := by
  rw [W_call (a := a) (r := r) hd rfl hk hl hS rfl]
  have e : may P m m' a r k n H = true ↔ (cs r + (ml P m' + 11) + (rm P m').locals ≤ (rm P m).locals) := by
    have hk0 : kd P m' = 0 := by simpa [kindOk] using hk
    simp [may, h1, h2, h3, hl, hk0]
  rw [e, h3.1, h3.2]; rfl
theorem W_init {ix : Nat} {as : List Value} (hd : P.1 m pc = some (.invokespecial ix, len, (m' : Int))) (hk : kindOk (.invokespecial ix) (kd P m') = true) (hl : as.length + 1 = na P m') (hS : S = as.reverse ++ .ref b :: r)
    (h1 : (Sym.laidSlots (.ref b :: as)).length ≤ ml P m') (h2 : (rm P m').frames + 1 ≤ (rm P m).frames) (h3 : ¬ ((rm P m').cells = 0 ∧ (rm P m').slots = 0)) :
    W P m pc L S k n H Q ↔ ((isO H b = true ∧ cs r + (ml P m' + 11) + (rm P m').locals ≤ (rm P m).locals ∧ k + (rm P m').cells ≤ (rm P m).cells ∧ n + (rm P m').slots ≤ (rm P m).slots) ∧ Cl P m' (.ref b :: as) H (fun v H' => W P m (pc + len) L (v.toList ++ r) (k + (rm P m').cells) (n + (rm P m').slots) H' Q)) := by
  have hns : stp P m (.invokespecial ix) len (m' : Int) pc L S k n H = none := by
    dsimp only [stp]
    split
    · rw [if_neg]; omega
    · rfl
  rw [W_call (a := .ref b :: as) (r := r) hd rfl hk hl (by rw [hS]; simp) hns]
  have e : may P m m' (.ref b :: as) r k n H = true ↔ (isO H b = true ∧ cs r + (ml P m' + 11) + (rm P m').locals ≤ (rm P m).locals ∧ k + (rm P m').cells ≤ (rm P m).cells ∧ n + (rm P m').slots ≤ (rm P m).slots) := by
    have hk0 : kd P m' ≠ 0 := by intro h; rw [h] at hk; cases hk
    simp only [may, rcv, h1, h2, h3, ← hl, hk0, List.length_cons, decide_true, decide_false, Bool.true_and, Bool.false_or, Bool.and_eq_true, decide_eq_true_eq]
    constructor
    · rintro ⟨⟨q1, q2⟩, q3⟩; exact ⟨q3, q1, q2⟩
    · rintro ⟨q3, q1, q2⟩; exact ⟨⟨q1, q2⟩, q3⟩
  rw [e]
end Call
section Last
theorem W_rz {x : Int32} (hd : P.1 m pc = some (.ireturn, len, aux)) (hr : rt P m = some .boolean) : W P m pc L (.int x :: S) k n H Q ↔ ((x = 0 ∨ x = 1) ∧ Q (some (.int x)) H) := by
  by_cases g : x = 0 ∨ x = 1
  · rw [W_r hd (by simp only [ret, hr]; rw [if_pos g])]; simp [g]
  · rw [W_q hd (by simp only [ret, hr]; rw [if_neg g]) rfl]
    constructor
    · rintro ⟨q, e, -⟩; cases e
    · intro h; exact absurd h.1 g
theorem W_newarr' {t : ArrayType} {c : Int32} {N : Nat} (hd : P.1 m pc = some (.newarray t, len, aux)) (hN : c.toNatClampNeg = N) (h1 : ¬ c < 0) (h2 : N * 8 ≤ 536870912) :
    W P m pc L (.int c :: S) k n H Q ↔ ((k + 1 ≤ (rm P m).cells ∧ n + N ≤ (rm P m).slots) ∧ W P m (pc + len) L (.ref H.1 :: S) (k + 1) (n + N) (mkA (newarray.typeOf t) N H) Q) := by
  rw [W_newarr hd, hN]; simp [h1, h2]
theorem W_new' {ix : Nat} (hd : P.1 m pc = some (.new ix, len, aux)) (h0 : 0 ≤ aux) : W P m pc L S k n H Q ↔ ((k + 1 ≤ (rm P m).cells ∧ n + aux.toNat ≤ (rm P m).slots) ∧ W P m (pc + len) L (.ref H.1 :: S) (k + 1) (n + aux.toNat) (mkO P H) Q) := by
  rw [W_new hd]; simp [h0]
theorem cmpL_lt {x y : Int64} : Jvm.Free.XT.cmpL x y < 0 ↔ x < y := by
  unfold Jvm.Free.XT.cmpL
  by_cases h1 : y < x
  · rw [if_pos h1]; exact ⟨fun h => absurd h (by decide), fun h => by rw [Int64.lt_iff_toInt_lt] at *; omega⟩
  · rw [if_neg h1]
    by_cases h2 : x = y
    · rw [if_pos h2]; exact ⟨fun h => absurd h (by decide), fun h => by subst h2; rw [Int64.lt_iff_toInt_lt] at *; omega⟩
    · rw [if_neg h2]; refine ⟨fun _ => ?_, fun _ => by decide⟩
      rw [Int64.lt_iff_toInt_lt] at *; rw [← Int64.toInt_inj] at h2; omega
theorem cmpL_gt {x y : Int64} : 0 < Jvm.Free.XT.cmpL x y ↔ y < x := by
  unfold Jvm.Free.XT.cmpL
  by_cases h1 : y < x
  · rw [if_pos h1]; exact ⟨fun _ => h1, fun _ => by decide⟩
  · rw [if_neg h1]
    by_cases h2 : x = y
    · rw [if_pos h2]; exact ⟨fun h => absurd h (by decide), fun h => absurd h h1⟩
    · rw [if_neg h2]; exact ⟨fun h => absurd h (by decide), fun h => absurd h h1⟩
theorem cmpL_eq {x y : Int64} : Jvm.Free.XT.cmpL x y = 0 ↔ x = y := by
  unfold Jvm.Free.XT.cmpL
  by_cases h1 : y < x
  · rw [if_pos h1]; exact ⟨fun h => absurd h (by decide), fun h => by subst h; rw [Int64.lt_iff_toInt_lt] at h1; omega⟩
  · rw [if_neg h1]
    by_cases h2 : x = y
    · rw [if_pos h2]; exact ⟨fun _ => h2, fun _ => rfl⟩
    · rw [if_neg h2]; exact ⟨fun h => absurd h (by decide), fun h => absurd h h2⟩
end Last
end Rules
abbrev LW : Type := (Nat → Nat → Option (Instr × Nat × Int)) × (Nat → MInfo)
abbrev Row : Type := Nat × Instr × Nat × Int
end Jvm.JX

namespace Jvm.JX
open Sem ClassFile Op Lib
abbrev St : Type := (Nat → Int32) × (Nat → Int64) × (Nat → Nat → Int32) × (Nat → Nat → Int64)
abbrev Lay : Type := List (FieldType × Nat) × List (FieldType × Nat)
def sI (s : St) (k : Nat) : Int32 := s.1 k
def sJ (s : St) (k : Nat) : Int64 := s.2.1 k
def sA (s : St) (t i : Nat) : Int32 := s.2.2.1 t i
def sB (s : St) (t i : Nat) : Int64 := s.2.2.2 t i
def uI (s : St) (k : Nat) (v : Int32) : St := (fun j => if j = k then v else s.1 j, s.2.1, s.2.2.1, s.2.2.2)
def uJ (s : St) (k : Nat) (v : Int64) : St := (s.1, fun j => if j = k then v else s.2.1 j, s.2.2.1, s.2.2.2)
def uA (s : St) (t i : Nat) (v : Int32) : St := (s.1, s.2.1, fun t' i' => if t' = t ∧ i' = i then v else s.2.2.1 t' i', s.2.2.2)
def uB (s : St) (t i : Nat) (v : Int64) : St := (s.1, s.2.1, s.2.2.1, fun t' i' => if t' = t ∧ i' = i then v else s.2.2.2 t' i')
def z0 : St := (fun _ => 0, fun _ => 0, fun _ _ => 0, fun _ _ => 0)
section St
variable {s : St} {k j t i t' i' : Nat} {v : Int32} {w : Int64}
theorem sI_uI : sI (uI s k v) j = if j = k then v else sI s j := by simp [sI, sJ, sA, sB, uI, uJ, uA, uB, z0]
theorem sI_uJ : sI (uJ s k w) j = sI s j := by simp [sI, sJ, sA, sB, uI, uJ, uA, uB, z0]
theorem sI_uA : sI (uA s t i v) j = sI s j := by simp [sI, sJ, sA, sB, uI, uJ, uA, uB, z0]
theorem sI_uB : sI (uB s t i w) j = sI s j := by simp [sI, sJ, sA, sB, uI, uJ, uA, uB, z0]
theorem sJ_uI : sJ (uI s k v) j = sJ s j := by simp [sI, sJ, sA, sB, uI, uJ, uA, uB, z0]
theorem sJ_uJ : sJ (uJ s k w) j = if j = k then w else sJ s j := by simp [sI, sJ, sA, sB, uI, uJ, uA, uB, z0]
theorem sJ_uA : sJ (uA s t i v) j = sJ s j := by simp [sI, sJ, sA, sB, uI, uJ, uA, uB, z0]
theorem sJ_uB : sJ (uB s t i w) j = sJ s j := by simp [sI, sJ, sA, sB, uI, uJ, uA, uB, z0]
theorem sA_uI : sA (uI s k v) t' i' = sA s t' i' := by simp [sI, sJ, sA, sB, uI, uJ, uA, uB, z0]
theorem sA_uJ : sA (uJ s k w) t' i' = sA s t' i' := by simp [sI, sJ, sA, sB, uI, uJ, uA, uB, z0]
theorem sA_uA : sA (uA s t i v) t' i' = if t' = t ∧ i' = i then v else sA s t' i' := by simp [sI, sJ, sA, sB, uI, uJ, uA, uB, z0]
theorem sA_uB : sA (uB s t i w) t' i' = sA s t' i' := by simp [sI, sJ, sA, sB, uI, uJ, uA, uB, z0]
theorem sB_uI : sB (uI s k v) t' i' = sB s t' i' := by simp [sI, sJ, sA, sB, uI, uJ, uA, uB, z0]
theorem sB_uJ : sB (uJ s k w) t' i' = sB s t' i' := by simp [sI, sJ, sA, sB, uI, uJ, uA, uB, z0]
theorem sB_uA : sB (uA s t i v) t' i' = sB s t' i' := by simp [sI, sJ, sA, sB, uI, uJ, uA, uB, z0]
theorem sB_uB : sB (uB s t i w) t' i' = if t' = t ∧ i' = i then w else sB s t' i' := by simp [sI, sJ, sA, sB, uI, uJ, uA, uB, z0]
theorem sI_z0 : sI z0 k = 0 := by simp [sI, sJ, sA, sB, uI, uJ, uA, uB, z0]
theorem sA_z0 : sA z0 t i = 0 := by simp [sI, sJ, sA, sB, uI, uJ, uA, uB, z0]
theorem sB_z0 : sB z0 t i = 0 := by simp [sI, sJ, sA, sB, uI, uJ, uA, uB, z0]
theorem St_ext {s s' : St} (h1 : ∀ k, sI s k = sI s' k) (h2 : ∀ k, sJ s k = sJ s' k) (h3 : ∀ t i, sA s t i = sA s' t i) (h4 : ∀ t i, sB s t i = sB s' t i) : s = s' :=
  Prod.ext (funext h1) (Prod.ext (funext h2) (Prod.ext (funext fun t => funext (h3 t)) (funext fun t => funext (h4 t))))
end St
def zr (s : St) (t : Nat) : Prop := (∀ i, sA s t i = 0) ∧ ∀ i, sB s t i = 0
theorem zr_z0 {t : Nat} : zr z0 t = True := by simp [zr, sA_z0, sB_z0]
def fvl (y : Lay) (j p : Nat) (s : St) (k : Nat) : Value := match y.1[k]? with
  | some (.long, _) => .long (sJ s k)
  | some (.array _, t) => if t ≤ j then .ref (p + t) else .null
  | _ => .int (sI s k)
def blk (y : Lay) (j p : Nat) (s : St) : Nat → Cel
  | 0 => (.object "", y.1.length, true, fvl y j p s)
  | t + 1 => match y.2[t]? with
    | some (.long, n) => (.array .long, n, true, fun i => .long (sB s (t + 1) i))
    | some (ty, n) => (.array ty, n, true, fun i => .int (sA s (t + 1) i))
    | none => (.char, 0, false, fun _ => .null)
def put (y : Lay) (j : Nat) (H : AH) (p : Nat) (s : St) : AH := (H.1, fun a => if p ≤ a ∧ a ≤ p + j then blk y j p s (a - p) else H.2 a)
section Put
variable {y : Lay} {j : Nat} {H : AH} {p : Nat} {s : St} {k t n : Nat} {ty : FieldType} {i : Int32}
theorem put_0 : (put y j H p s).2 p = (.object "", y.1.length, true, fvl y j p s) := by simp [put, blk]
theorem put_t (ht : t ≤ j) : (put y j H p s).2 (p + t) = blk y j p s t := by simp [put, ht]
theorem isO_put : isO (put y j H p s) p = true := by simp [isO, put_0]
theorem isOw_put : isOw (put y j H p s) p = true := by simp [isOw, isO_put, put_0]
theorem fld_I (h : y.1[k]? = some (ty, t)) (hl : ty ≠ .long) (ha : ∀ e, ty ≠ .array e) : fld (put y j H p s) p k = .int (sI s k) := by
  simp only [fld, put_0, fvl, h]; cases ty <;> first | rfl | exact absurd rfl hl | exact absurd rfl (ha _)
theorem fld_J (h : y.1[k]? = some (.long, t)) : fld (put y j H p s) p k = .long (sJ s k) := by simp only [fld, put_0, fvl, h]
theorem fld_R (h : y.1[k]? = some (.array ty, t)) (ht : t ≤ j) : fld (put y j H p s) p k = .ref (p + t) := by simp only [fld, put_0, fvl, h, ht, if_true]
theorem blk_I (h : y.2[t]? = some (ty, n)) (hl : ty ≠ .long) : blk y j p s (t + 1) = (.array ty, n, true, fun i => .int (sA s (t + 1) i)) := by
  simp only [blk, h]
theorem blk_J (h : y.2[t]? = some (.long, n)) : blk y j p s (t + 1) = (.array .long, n, true, fun i => .long (sB s (t + 1) i)) := by simp only [blk, h]
theorem clamp_lt {i : Int32} {n : Nat} : (¬ i < 0 ∧ i.toNatClampNeg < n) ↔ (0 ≤ i.toInt ∧ i.toInt < n) := by
  simp only [Int32.lt_iff_toInt_lt, Int32.toNatClampNeg, Int32.reduceToInt]; omega
theorem inA_I (h : y.2[t]? = some (ty, n)) (hl : ty ≠ .long) (ht : t + 1 ≤ j) : inA (put y j H p s) (p + (t + 1)) ty i = true ↔ (0 ≤ i.toInt ∧ i.toInt < n) := by
  rw [← clamp_lt]; simp [inA, put_t ht, blk_I h hl]
theorem inA_J (h : y.2[t]? = some (.long, n)) (ht : t + 1 ≤ j) : inA (put y j H p s) (p + (t + 1)) .long i = true ↔ (0 ≤ i.toInt ∧ i.toInt < n) := by
  rw [← clamp_lt]; simp [inA, put_t ht, blk_J h]
theorem inA_no {ty' : FieldType} (h : y.2[t]? = some (ty, n)) (hl : ty ≠ .long) (ht : t + 1 ≤ j) (hne : ty ≠ ty') : inA (put y j H p s) (p + (t + 1)) ty' i = true ↔ False := by
  simp [inA, put_t ht, blk_I h hl, hne]
theorem inAw_I (h : y.2[t]? = some (ty, n)) (hl : ty ≠ .long) (ht : t + 1 ≤ j) : inAw (put y j H p s) (p + (t + 1)) ty i = true ↔ (0 ≤ i.toInt ∧ i.toInt < n) := by
  rw [← inA_I (H := H) (p := p) (s := s) h hl ht]; simp [inAw, put_t ht, blk_I h hl]
theorem inAw_J (h : y.2[t]? = some (.long, n)) (ht : t + 1 ≤ j) : inAw (put y j H p s) (p + (t + 1)) .long i = true ↔ (0 ≤ i.toInt ∧ i.toInt < n) := by
  rw [← inA_J (H := H) (p := p) (s := s) h ht]; simp [inAw, put_t ht, blk_J h]
theorem inAw_no {ty' : FieldType} (h : y.2[t]? = some (ty, n)) (hl : ty ≠ .long) (ht : t + 1 ≤ j) (hne : ty ≠ ty') : inAw (put y j H p s) (p + (t + 1)) ty' i = true ↔ False := by
  simp [inAw, inA, put_t ht, blk_I h hl, hne]
theorem elt_I (h : y.2[t]? = some (ty, n)) (hl : ty ≠ .long) (ht : t + 1 ≤ j) : elt (put y j H p s) (p + (t + 1)) i = .int (sA s (t + 1) i.toNatClampNeg) := by
  simp only [elt, put_t ht, blk_I h hl]
theorem elt_J (h : y.2[t]? = some (.long, n)) (ht : t + 1 ≤ j) : elt (put y j H p s) (p + (t + 1)) i = .long (sB s (t + 1) i.toNatClampNeg) := by
  simp only [elt, put_t ht, blk_J h]
theorem put_wr {s' : St} {t q : Nat} {v : Value} (ht : t ≤ j) (hb : ∀ t', blk y j p s' t' = if t' = t then ((blk y j p s t).1, (blk y j p s t).2.1, (blk y j p s t).2.2.1, fun i => if i = q then v else (blk y j p s t).2.2.2 i) else blk y j p s t') :
    wr (put y j H p s) (p + t) q v = put y j H p s' := by
  refine Prod.ext rfl (funext fun a => ?_)
  simp only [wr, put_t ht]
  by_cases e : a = p + t
  · subst e; simp [put, ht, hb]
  · simp only [e, if_false, put]
    by_cases g : p ≤ a ∧ a ≤ p + j
    · have : a - p ≠ t := by omega
      simp [g, hb, this]
    · simp [g]
theorem fvl_uI {v : Int32} (h : y.1[k]? = some (ty, t)) (hl : ty ≠ .long) (ha : ∀ e, ty ≠ .array e) (i : Nat) : fvl y j p (uI s k v) i = if i = k then .int v else fvl y j p s i := by
  by_cases e : i = k
  · subst e; simp only [fvl, h, if_true]; cases ty <;> first | (simp [sI_uI]; done) | exact absurd rfl hl | exact absurd rfl (ha _)
  · simp only [fvl, e, if_false, sI_uI, sJ_uI]
theorem fvl_uJ {v : Int64} (h : y.1[k]? = some (.long, t)) (i : Nat) : fvl y j p (uJ s k v) i = if i = k then .long v else fvl y j p s i := by
  by_cases e : i = k
  · subst e; simp only [fvl, h, if_true, sJ_uJ]
  · simp only [fvl, e, if_false, sI_uJ, sJ_uJ]
theorem wr_I {v : Int32} (h : y.1[k]? = some (ty, t)) (hl : ty ≠ .long) (ha : ∀ e, ty ≠ .array e) : wr (put y j H p s) p k (.int v) = put y j H p (uI s k v) := by
  refine put_wr (t := 0) (Nat.zero_le _) fun t' => ?_
  cases t' with
  | zero => simp only [blk, if_true]; exact congrArg (fun f => (_, _, _, f)) (funext fun i => fvl_uI h hl ha i)
  | succ t' => simp [blk, sA_uI, sB_uI]
theorem wr_J {v : Int64} (h : y.1[k]? = some (.long, t)) : wr (put y j H p s) p k (.long v) = put y j H p (uJ s k v) := by
  refine put_wr (t := 0) (Nat.zero_le _) fun t' => ?_
  cases t' with
  | zero => simp only [blk, if_true]; exact congrArg (fun f => (_, _, _, f)) (funext fun i => fvl_uJ h i)
  | succ t' => simp [blk, sA_uJ, sB_uJ]
theorem wr_A {v : Int32} {q : Nat} (h : y.2[t]? = some (ty, n)) (hl : ty ≠ .long) (ht : t + 1 ≤ j) : wr (put y j H p s) (p + (t + 1)) q (.int v) = put y j H p (uA s (t + 1) q v) := by
  refine put_wr ht fun t' => ?_
  by_cases e : t' = t + 1
  · subst e
    simp only [blk_I h hl, if_true, sA_uA, true_and]
    exact congrArg (fun f => (_, _, _, f)) (funext fun i => by split <;> rfl)
  · simp only [e, if_false]
    cases t' with
    | zero => rfl
    | succ t' => have : ¬ t' = t := fun q => e (by rw [q]); simp [blk, sA_uA, sB_uA, this]
theorem wr_B {v : Int64} {q : Nat} (h : y.2[t]? = some (.long, n)) (ht : t + 1 ≤ j) : wr (put y j H p s) (p + (t + 1)) q (.long v) = put y j H p (uB s (t + 1) q v) := by
  refine put_wr ht fun t' => ?_
  by_cases e : t' = t + 1
  · subst e
    simp only [blk_J h, if_true, sB_uB, true_and]
    exact congrArg (fun f => (_, _, _, f)) (funext fun i => by split <;> rfl)
  · simp only [e, if_false]
    cases t' with
    | zero => rfl
    | succ t' => have : ¬ t' = t := fun q => e (by rw [q]); simp [blk, sA_uB, sB_uB, this]
theorem mkO_put {P : Prog} (hn : P.2.2.2 = y.1.length) (hf : ∀ k, defaultValue (P.2.2.1 k) = fvl y 0 H.1 z0 k) : mkO P H = put y 0 (H.1 + 1, H.2) H.1 z0 := by
  refine Prod.ext rfl (funext fun a => ?_)
  by_cases e : a = H.1
  · subst e; simp only [mkO, if_true, put_0, hn]; exact congrArg (fun f => (_, _, _, f)) (funext fun k => hf k)
  · have : ¬ (H.1 ≤ a ∧ a ≤ H.1 + 0) := by omega
    simp only [mkO, put, e, if_false, if_neg this]
theorem mkA_put {h : Nat → Cel} (h1 : y.1[k]? = some (.array ty, j + 1)) (h2 : y.2[j]? = some (ty, n)) (hu : (List.range y.1.length).all (fun k' => decide (k' = k) || ((y.1.getD k' (.int, 0)).2 != j + 1)) = true) (hz : ∀ i, sA s (j + 1) i = 0) (hz' : ∀ i, sB s (j + 1) i = 0) (hty : ty = .int ∨ ty = .long ∨ ty = .byte ∨ ty = .boolean) :
    wr (mkA ty n (put y j (p + (j + 1), h) p s)) p k (.ref (p + (j + 1))) = put y (j + 1) (p + (j + 1) + 1, h) p s := by
  refine Prod.ext rfl (funext fun a => ?_)
  have hp : ¬ p = p + (j + 1) := by omega
  have hN : (put y j (p + (j + 1), h) p s).1 = p + (j + 1) := rfl
  by_cases e : a = p
  · subst e
    simp only [wr, mkA, hN, if_true, hp, if_false, put_0]
    refine congrArg (fun f => (_, _, _, f)) (funext fun i => ?_)
    by_cases e2 : i = k
    · subst e2; simp [fvl, h1]
    · simp only [e2, if_false, fvl]
      cases hq : y.1[i]? with
      | none => rfl
      | some x =>
        obtain ⟨x1, x2⟩ := x
        cases x1 <;> try rfl
        rename_i el
        have : x2 ≠ j + 1 := fun q => by
          have hlt : i < y.1.length := (List.getElem?_eq_some_iff.mp hq).1
          have u := List.all_eq_true.mp hu i (List.mem_range.mpr hlt)
          simp [e2, hq, q] at u
        have : (x2 ≤ j + 1) = (x2 ≤ j) := propext ⟨fun _ => by omega, fun _ => by omega⟩
        simp [this]
  · simp only [wr, mkA, hN, e, if_false]
    by_cases e2 : a = p + (j + 1)
    · subst e2
      simp only [if_true, put_t (Nat.le_refl (j + 1))]
      rcases hty with rfl | rfl | rfl | rfl
      · simp only [blk, h2, hz]; rfl
      · simp only [blk, h2, hz']; rfl
      · simp only [blk, h2, hz]; rfl
      · simp only [blk, h2, hz]; rfl
    · simp only [e2, if_false, put]
      by_cases g : p ≤ a ∧ a ≤ p + j
      · have g2 : p ≤ a ∧ a ≤ p + (j + 1) := by omega
        simp only [g, g2, and_self, if_true]
        obtain ⟨t, ht⟩ : ∃ t, a - p = t + 1 := ⟨a - p - 1, by omega⟩
        rw [ht]; rfl
      · have g2 : ¬ (p ≤ a ∧ a ≤ p + (j + 1)) := by omega
        simp only [g, g2, if_false]
theorem isOw_mk {h : Nat → Cel} {c : Nat} : isOw (mkA ty n (put y j (p + (c + 1), h) p s)) p = true := by
  have : ¬ p = p + (c + 1) := by omega
  have hN : (put y j (p + (c + 1), h) p s).1 = p + (c + 1) := rfl
  simp [isOw, isO, mkA, hN, this, put_0]
theorem put_fst : (put y j H p s).1 = H.1 := by simp [put]
theorem cl_unf {P : Prog} {m : Nat} {a : List Value} {L : List Slot} {Q : Option Value → AH → Prop} (h : ent P m a = L) : Cl P m a H Q ↔ W P m 0 L [] 0 0 H Q := by unfold Cl; rw [h]
end Put
def noc : Cel := (.char, 0, false, fun _ => .null)
def H0 (n : Nat) : AH := (n, fun _ => noc)
def H1 (n a len : Nat) (f : Nat → Int32) : AH := (n, fun b => if b = a then (.array .int, len, false, fun i => .int (f i)) else noc)
def cl (lo hi v : Int32) : Int32 := if v < lo then lo else if hi < v then hi else v
theorem cl3 {lo hi : Int32} (v : Int32) (h : ¬ hi < lo) : (v < lo ∧ ¬ hi < v) ∨ (¬ v < lo ∧ hi < v) ∨ (¬ v < lo ∧ ¬ hi < v) := by
  by_cases h1 : v < lo
  · exact Or.inl ⟨h1, fun h2 => h (by rw [Int32.lt_iff_toInt_lt] at *; omega)⟩
  · by_cases h2 : hi < v
    · exact Or.inr (Or.inl ⟨h1, h2⟩)
    · exact Or.inr (Or.inr ⟨h1, h2⟩)
section Okv
variable {x : Int32} {l : Int64} {a : Nat} {t : FieldType}
theorem okv_int : (okv .int (.int x) = true) = True := by simp [okv]
theorem okv_long : (okv .long (.long l) = true) = True := by simp [okv]
theorem okv_ref : (okv (.array t) (.ref a) = true) = True := by simp [okv]
end Okv
end Jvm.JX

namespace Jvm.JX
open Sem ClassFile Op Lib
section Num
theorem ia {x y : Int32} (h1 : -2147483648 ≤ x.toInt + y.toInt) (h2 : x.toInt + y.toInt ≤ 2147483647) : (x + y).toInt = x.toInt + y.toInt := by
  rw [Int32.toInt_add]; exact Int.bmod_eq_of_le (by omega) (by omega)
theorem lt32 {x y : Int32} : x < y ↔ x.toInt < y.toInt := Int32.lt_iff_toInt_lt
theorem eq32 {x y : Int32} : x = y ↔ x.toInt = y.toInt := Int32.toInt_inj.symm
theorem eq64 {x y : Int64} : x = y ↔ x.toInt = y.toInt := Int64.toInt_inj.symm
theorem cln {i : Int32} : i.toNatClampNeg = i.toInt.toNat := rfl
end Num
section Fill
def fA (s : St) (t lo hi : Nat) (v : Int32) : St := (s.1, s.2.1, fun t' i => if t' = t ∧ lo ≤ i ∧ i < hi then v else s.2.2.1 t' i, s.2.2.2)
variable {s : St} {t lo hi k i t' : Nat} {v : Int32}
theorem sI_fA : sI (fA s t lo hi v) k = sI s k := by simp [sI, fA]
theorem sJ_fA : sJ (fA s t lo hi v) k = sJ s k := by simp [sJ, fA]
theorem sA_fA : sA (fA s t lo hi v) t' i = if t' = t ∧ lo ≤ i ∧ i < hi then v else sA s t' i := by simp [sA, fA]
theorem sB_fA : sB (fA s t lo hi v) t' i = sB s t' i := by simp [sB, fA]
theorem fA_nil (h : hi ≤ lo) : fA s t lo hi v = s := by
  refine St_ext (fun k => sI_fA) (fun k => sJ_fA) (fun t' i => ?_) (fun t' i => sB_fA)
  rw [sA_fA, if_neg (by omega)]
theorem fA_step (h : lo < hi) : fA (uA s t lo v) t (lo + 1) hi v = fA s t lo hi v := by
  refine St_ext (fun k => by simp only [sI_fA, sI_uA]) (fun k => by simp only [sJ_fA, sJ_uA]) (fun t' i => ?_) (fun t' i => by simp only [sB_fA, sB_uA])
  simp only [sA_fA, sA_uA]
  by_cases h1 : t' = t ∧ lo + 1 ≤ i ∧ i < hi
  · rw [if_pos h1, if_pos (by omega)]
  · rw [if_neg h1]
    by_cases h2 : t' = t ∧ i = lo
    · rw [if_pos h2, if_pos (by omega)]
    · rw [if_neg h2, if_neg (by omega)]
end Fill
section Cnt
def cnt (f : Nat → Bool) : Nat → Nat → Nat
  | _, 0 => 0
  | j, k + 1 => (if f j = true then 1 else 0) + cnt f (j + 1) k
end Cnt
section Ite
variable {P : Prog} {m pc : Nat} {L : List Slot} {S : List Value} {k n : Nat} {H : AH} {Q : Option Value → AH → Prop} {c : Prop} [Decidable c]
end Ite
end Jvm.JX

namespace Jvm.JX
open Sem ClassFile Op Lib
section Forget
variable {P : Prog} {m pc len k n i : Nat} {aux : Int} {ins : Instr} {L L' M : List Slot} {S : List Value} {H : AH} {v : Value} {Q : Option Value → AH → Prop}
def lel (L L' : List Slot) : Prop := ∀ i : Nat, L[i]? = L'[i]? ∨ (L[i]? = some .unset ∧ ∃ o, L'[i]? = some o ∧ cat1 o = true)
theorem lel_refl : lel L L := fun _ => Or.inl rfl
theorem lel_cons {a : Slot} (h : lel L L') : lel (a :: L) (a :: L') := fun i => by cases i with
  | zero => exact Or.inl rfl
  | succ i => simpa using h i
theorem lel_un {o : Slot} (ho : cat1 o = true) (h : lel L L') : lel (.unset :: L) (o :: L') := fun i => by cases i with
  | zero => exact Or.inr ⟨rfl, o, rfl, ho⟩
  | succ i => simpa using h i
theorem lel_len (h : lel L L') : L.length = L'.length := by
  rcases Nat.lt_trichotomy L.length L'.length with g | g | g
  · have h1 : L[L.length]? = none := List.getElem?_eq_none (Nat.le_refl _)
    rcases h L.length with e | ⟨e, -⟩
    · rw [h1] at e; have := List.getElem?_eq_none_iff.mp e.symm; omega
    · rw [h1] at e; cases e
  · exact g
  · have h1 : L'[L'.length]? = none := List.getElem?_eq_none (Nat.le_refl _)
    rcases h L'.length with e | ⟨-, o, e, -⟩
    · rw [h1] at e; have := List.getElem?_eq_none_iff.mp e; omega
    · rw [h1] at e; cases e
theorem lel_set {a : Slot} (h : lel L L') : lel (L.set i a) (L'.set i a) := fun j => by
  rw [List.getElem?_set, List.getElem?_set, lel_len h]
  by_cases e : i = j
  · rw [if_pos e, if_pos e]; exact Or.inl rfl
  · rw [if_neg e, if_neg e]; exact h j
theorem ldI_le (h : lel L L') (e : ldI L i = some v) : ldI L' i = some v := by
  unfold ldI at *; rcases h i with g | ⟨g, -⟩
  · rw [← g]; exact e
  · rw [g] at e; cases e
theorem ldJ_le (h : lel L L') (e : ldJ L i = some v) : ldJ L' i = some v := by
  unfold ldJ at *; rcases h i with g | ⟨g, -⟩
  · rw [← g]; exact e
  · rw [g] at e; cases e
theorem ldR_le (h : lel L L') (e : ldR L i = some v) : ldR L' i = some v := by
  unfold ldR at *; rcases h i with g | ⟨g, -⟩
  · rw [← g]; exact e
  · rw [g] at e; cases e
theorem stl_le (h : lel L L') (e : stl L i v = some M) : ∃ M', stl L' i v = some M' ∧ lel M M' := by
  unfold stl at *
  rcases h i with g | ⟨g, o, g', ho⟩
  · rw [← g, ← lel_len h]
    revert e; generalize L[i]? = x; intro e
    match x, e with
    | some .unset, e => cases e; exact ⟨_, rfl, lel_set h⟩
    | some (.val w), e =>
      simp only at e ⊢
      by_cases c : w.category = 1
      · simp only [c, if_true] at e ⊢; cases e; exact ⟨_, rfl, lel_set h⟩
      · simp only [c, if_false] at e ⊢
        by_cases d : i + 1 < L.length
        · simp only [d, if_true] at e ⊢; cases e; exact ⟨_, rfl, lel_set (lel_set h)⟩
        · simp only [d, if_false] at e; cases e
    | some .second, e =>
      simp only at e ⊢
      by_cases d : 1 ≤ i
      · simp only [d, if_true] at e ⊢; cases e; exact ⟨_, rfl, lel_set (lel_set h)⟩
      · simp only [d, if_false] at e; cases e
    | none, e => cases e
  · rw [g] at e; cases e; rw [g']
    match o, ho with
    | .unset, _ => exact ⟨_, rfl, lel_set h⟩
    | .val w, ho =>
      have c : w.category = 1 := by simpa [cat1] using ho
      simp only [c, if_true]; exact ⟨_, rfl, lel_set h⟩
theorem stL_le (h : lel L L') (e : stL L i v = some M) : ∃ M', stL L' i v = some M' ∧ lel M M' := by
  have key : ∀ o2, L[i + 1]? = some o2 → ∃ o3, L'[i + 1]? = some o3 ∧ (cat1 o2 = true → cat1 o3 = true) ∧ (cat1 o2 = false → o3 = o2) := by
    intro o2 e2
    rcases h (i + 1) with g | ⟨g, o, g', ho⟩
    · exact ⟨o2, by rw [← g]; exact e2, id, fun _ => rfl⟩
    · exact ⟨o, g', fun _ => ho, fun z => by rw [e2] at g; cases g; cases z⟩
  unfold stL at *
  have hs : lel ((L.set i (.val v)).set (i + 1) .second) ((L'.set i (.val v)).set (i + 1) .second) := lel_set (lel_set h)
  have hs3 : lel (((L.set i (.val v)).set (i + 2) .unset).set (i + 1) .second) (((L'.set i (.val v)).set (i + 2) .unset).set (i + 1) .second) := lel_set (lel_set (lel_set h))
  cases e2 : L[i + 1]? with
  | none => rw [e2] at e; revert e; cases L[i]? with
    | none => intro e; cases e
    | some o => intro e; cases o <;> cases e
  | some o2 =>
    obtain ⟨o3, g3, c3, c4⟩ := key o2 e2
    rw [e2] at e; rw [g3, ← lel_len h]
    rcases h i with g | ⟨g, o, g', ho⟩
    · rw [← g]
      revert e; generalize L[i]? = x; intro e
      match x, e with
      | some .unset, e =>
        simp only at e ⊢
        by_cases c : cat1 o2 = true
        · simp only [c, if_true] at e; cases e; simp only [c3 c, if_true]; exact ⟨_, rfl, hs⟩
        · rw [if_neg c] at e
          have c' : cat1 o2 = false := by simpa using c
          rw [c4 c', if_neg c]
          by_cases l3 : lng o2 = true ∧ i + 2 < L.length
          · rw [if_pos l3] at e; cases e; rw [if_pos l3]; exact ⟨_, rfl, hs3⟩
          · rw [if_neg l3] at e; cases e
      | some (.val w), e =>
        simp only at e ⊢
        by_cases d : w.category = 2
        · simp only [d, if_true] at e ⊢; cases e; exact ⟨_, rfl, hs⟩
        · rw [if_neg d] at e ⊢
          by_cases c : cat1 o2 = true
          · simp only [c, if_true] at e; cases e; simp only [c3 c, if_true]; exact ⟨_, rfl, hs⟩
          · rw [if_neg c] at e
            have c' : cat1 o2 = false := by simpa using c
            rw [c4 c', if_neg c]
            by_cases l3 : lng o2 = true ∧ i + 2 < L.length
            · rw [if_pos l3] at e; cases e; rw [if_pos l3]; exact ⟨_, rfl, hs3⟩
            · rw [if_neg l3] at e; cases e
      | some .second, e =>
        simp only at e ⊢
        by_cases d : 1 ≤ i
        · rw [if_pos d] at e ⊢
          by_cases c : cat1 o2 = true
          · rw [if_pos c] at e; cases e; rw [if_pos (c3 c)]; exact ⟨_, rfl, lel_set (lel_set (lel_set h))⟩
          · rw [if_neg c] at e
            have c' : cat1 o2 = false := by simpa using c
            rw [c4 c', if_neg c]
            by_cases l3 : lng o2 = true ∧ i + 2 < L.length
            · rw [if_pos l3] at e; cases e; rw [if_pos l3]; exact ⟨_, rfl, lel_set (lel_set (lel_set (lel_set h)))⟩
            · rw [if_neg l3] at e; cases e
        · rw [if_neg d] at e; cases e
      | none, e => cases e
    · rw [g] at e; rw [g']
      simp only at e
      by_cases c : cat1 o2 = true
      · simp only [c, if_true] at e; cases e
        match o, ho with
        | .unset, _ => simp only [c3 c, if_true]; exact ⟨_, rfl, hs⟩
        | .val w, ho =>
          by_cases d : w.category = 2
          · simp only [d, if_true]; exact ⟨_, rfl, hs⟩
          · simp only [d, if_false, c3 c, if_true]; exact ⟨_, rfl, hs⟩
      · rw [if_neg c] at e
        have c' : cat1 o2 = false := by simpa using c
        rw [c4 c']
        by_cases l3 : lng o2 = true ∧ i + 2 < L.length
        · rw [if_pos l3] at e; cases e
          match o, ho with
          | .unset, _ => simp only [if_neg c, if_pos l3]; exact ⟨_, rfl, hs3⟩
          | .val w, ho =>
            have d : ¬ w.category = 2 := by simp only [cat1, beq_iff_eq] at ho; omega
            simp only [if_neg d, if_neg c, if_pos l3]; exact ⟨_, rfl, hs3⟩
        · rw [if_neg l3] at e; cases e
def loc : Instr → Bool
  | .iload _ | .iload_n _ | .lload _ | .lload_n _ | .aload _ | .aload_n _ | .istore _ | .istore_n _ | .astore _ | .astore_n _ | .lstore _ | .lstore_n _ | .iinc _ _ => true
  | _ => false
theorem stp_fr {q : Fm} (hl : loc ins = false) (e : stp P m ins len aux pc L S k n H = some q) : q.2.1 = L ∧ stp P m ins len aux pc L' S k n H = some (q.1, L', q.2.2) := by
  cases ins <;> first
    | (cases hl; done)
    | (simp only [stp] at e ⊢; cases e; done)
    | (simp only [stp] at e ⊢; cases e; exact ⟨rfl, rfl⟩)
    | (simp only [stp, Option.map_eq_some_iff] at e ⊢; (repeat' split at e) <;> first
        | (cases e; done)
        | (cases e; exact ⟨rfl, rfl⟩)
        | (obtain ⟨w, h1, h2⟩ := e; subst h2; exact ⟨rfl, w, h1, rfl⟩)
        | (simp_all; done)
        | (simp_all; subst e; simp; done)
        | (simp_all; obtain ⟨e1, e2, e3⟩ := e; subst e3; simp_all; done)
        | (simp only [Option.bind_eq_some_iff, Option.map_eq_some_iff] at e; obtain ⟨w, h1, u, h2, h3⟩ := e; subst h3; simp_all; done)
        | (simp only [Option.bind_eq_some_iff, Option.map_eq_some_iff] at e; obtain ⟨w, h1, u, h2, h3⟩ := e; subst h3; simp_all; omega))
theorem stp_le {q : Fm} (h : lel L L') (e : stp P m ins len aux pc L S k n H = some q) : ∃ M, stp P m ins len aux pc L' S k n H = some (q.1, M, q.2.2) ∧ lel q.2.1 M := by
  cases hl : loc ins with
  | false =>
    obtain ⟨h1, h2⟩ := stp_fr (L' := L') hl e
    exact ⟨L', h2, by rw [h1]; exact h⟩
  | true =>
    cases ins <;> first
      | (cases hl; done)
      | (simp only [stp, Option.map_eq_some_iff] at e ⊢; obtain ⟨w, h1, h2⟩ := e; subst h2; first
          | exact ⟨L', ⟨w, ldI_le h h1, rfl⟩, h⟩
          | exact ⟨L', ⟨w, ldJ_le h h1, rfl⟩, h⟩
          | exact ⟨L', ⟨w, ldR_le h h1, rfl⟩, h⟩)
      | (simp only [stp] at e ⊢; split at e
         · simp only [Option.map_eq_some_iff] at e ⊢
           obtain ⟨w, h1, h2⟩ := e; subst h2
           first
            | (obtain ⟨M, g1, g2⟩ := stl_le h h1; exact ⟨M, ⟨M, g1, rfl⟩, g2⟩)
            | (obtain ⟨M, g1, g2⟩ := stL_le h h1; exact ⟨M, ⟨M, g1, rfl⟩, g2⟩)
         · cases e)
      | (simp only [stp] at e ⊢; rename_i i c; rcases h i with g | ⟨g, -⟩
         · rw [← g]; revert e; generalize L[i]? = x; intro e
           split at e
           · cases e; exact ⟨_, rfl, lel_set h⟩
           · cases e
         · rw [g] at e; cases e)
theorem run_fg : ∀ (f m pc : Nat) (L L' : List Slot) (S : List Value) (k n : Nat) (H : AH) (r : Option Value × AH), lel L L' → run P f m pc L S k n H = some r → run P f m pc L' S k n H = some r
  | 0, _, _, _, _, _, _, _, _, _, _, e => by cases e
  | f + 1, m, pc, L, L', S, k, n, H, r, h, e => by
    unfold run at e ⊢
    cases hd : P.1 m pc with
    | none => rw [hd] at e; cases e
    | some d =>
      rw [hd] at e; simp only at e ⊢
      cases hr : ret P m d.1 S with
      | some v => rw [hr] at e; exact e
      | none =>
        rw [hr] at e; simp only at e ⊢
        cases hc : cal P m d.1 d.2.2 S k n H with
        | some c =>
          rw [hc] at e; simp only at e ⊢
          cases hx : run P f c.1 0 (ent P c.1 c.2.1) [] 0 0 H with
          | none => rw [hx] at e; cases e
          | some y => rw [hx] at e; simp only at e ⊢; exact run_fg f _ _ _ _ _ _ _ _ _ h e
        | none =>
          rw [hc] at e; simp only at e ⊢
          cases hs : stp P m d.1 d.2.1 d.2.2 pc L S k n H with
          | none => rw [hs] at e; cases e
          | some q =>
            rw [hs] at e; simp only at e
            obtain ⟨M, g1, g2⟩ := stp_le h hs
            rw [g1]; exact run_fg f _ _ _ _ _ _ _ _ _ g2 e
theorem W_fg (h : lel L L') (w : W P m pc L S k n H Q) : W P m pc L' S k n H Q := by
  obtain ⟨f, v, H', e, q⟩ := w
  exact ⟨f, v, H', run_fg f m pc L L' S k n H _ h e, q⟩
end Forget
section ForgetL
variable {P : Prog} {m pc len k n i j : Nat} {aux : Int} {ins : Instr} {L M N : List Slot} {S : List Value} {H : AH} {v : Value} {a : Slot} {Q : Option Value → AH → Prop}
def ff (j : Nat) (M : List Slot) : List Slot := (M.set j .unset).set (j + 1) .unset
def Gl (j : Nat) (M : List Slot) : Prop := (∃ w : Value, M[j]? = some (.val w) ∧ w.category = 2) ∧ M[j + 1]? = some .second ∧ (∀ i o, i + 1 = j → M[i]? = some o → lng o = false) ∧ M[j + 2]? ≠ some .second
def lfr (j : Nat) (L M : List Slot) : Prop := L = M ∨ (L = ff j M ∧ Gl j M)
theorem ff_set (h1 : i ≠ j) (h2 : i ≠ j + 1) : (ff j M).set i a = ff j (M.set i a) := by
  unfold ff; rw [List.set_comm _ _ (Ne.symm h2), List.set_comm _ _ (Ne.symm h1)]
theorem ff_get (h1 : i ≠ j) (h2 : i ≠ j + 1) : (ff j M)[i]? = M[i]? := by
  unfold ff; rw [List.getElem?_set_ne (Ne.symm h2), List.getElem?_set_ne (Ne.symm h1)]
theorem ff_len : (ff j M).length = M.length := by simp [ff]
theorem Gl_set (h : Gl j M) (h1 : i ≠ j) (h2 : i ≠ j + 1) (h3 : i + 1 = j → lng a = false) (h4 : i = j + 2 → a ≠ .second) : Gl j (M.set i a) := by
  obtain ⟨⟨w, g1, g2⟩, g3, g4, g5⟩ := h
  refine ⟨⟨w, ?_, g2⟩, ?_, ?_, ?_⟩
  · rw [List.getElem?_set_ne h1]; exact g1
  · rw [List.getElem?_set_ne h2]; exact g3
  · intro i' o e h
    by_cases c : i = i'
    · subst c
      rw [List.getElem?_set] at h
      simp only [if_true] at h
      split at h
      · cases h; exact h3 e
      · cases h
    · rw [List.getElem?_set_ne c] at h; exact g4 i' o e h
  · by_cases c : i = j + 2
    · rw [List.getElem?_set]; simp only [c, if_true]
      split
      · intro e; cases e; exact h4 c rfl
      · intro e; cases e
    · rw [List.getElem?_set_ne c]; exact g5
theorem Gl_lt (h : Gl j M) : j + 1 < M.length := (List.getElem?_eq_some_iff.mp h.2.1).1
theorem ff_j (h : Gl j M) : (ff j M)[j]? = some .unset ∧ (ff j M)[j + 1]? = some .unset := by
  have := Gl_lt h
  unfold ff; constructor
  · rw [List.getElem?_set_ne (by omega), List.getElem?_set]; simp only [if_true]; rw [if_pos (by omega)]
  · rw [List.getElem?_set]; simp only [if_true, List.length_set]; rw [if_pos (by omega)]
theorem ff_0 {b : Slot} : (ff j M).set j b = (M.set (j + 1) .unset).set j b := by
  unfold ff; rw [List.set_comm _ _ (by omega : j ≠ j + 1), List.set_set]
theorem ff_1 {b : Slot} : (ff j M).set (j + 1) b = (M.set j .unset).set (j + 1) b := by
  unfold ff; rw [List.set_set]
theorem stl_fr (hv : v.category = 1) (h : lfr j L M) (e : stl L i v = some N) : ∃ N', stl M i v = some N' ∧ lfr j N N' := by
  rcases h with rfl | ⟨rfl, h⟩
  · exact ⟨N, e, Or.inl rfl⟩
  have lv : lng (.val v) = false := by simp [lng, hv]
  obtain ⟨⟨w, g1, g2⟩, g3, g4, g5⟩ := id h
  have hl := Gl_lt h
  unfold stl at e ⊢
  by_cases c1 : i = j
  · subst c1
    rw [(ff_j h).1] at e; cases e
    rw [g1]; simp only [g2, hl, if_true]
    exact ⟨_, rfl, Or.inl ff_0⟩
  by_cases c2 : i = j + 1
  · subst c2
    rw [(ff_j h).2] at e; cases e
    rw [g3]; simp only [Nat.le_add_left, if_true]
    exact ⟨_, rfl, Or.inl ff_1⟩
  rw [ff_get c1 c2, ff_len] at e
  revert e; cases hx : M[i]? with
  | none => intro e; cases e
  | some o =>
    intro e
    have s1 : ∀ {M}, Gl j M → Gl j (M.set i (.val v)) := fun h => Gl_set h c1 c2 (fun _ => lv) (fun _ => by intro z; cases z)
    cases o with
    | unset => cases e; exact ⟨_, rfl, Or.inr ⟨ff_set c1 c2, s1 h⟩⟩
    | second =>
      simp only at e ⊢
      by_cases d : 1 ≤ i
      · rw [if_pos d] at e ⊢; cases e
        have c3 : i - 1 ≠ j := by omega
        have c4 : i - 1 ≠ j + 1 := by intro z; exact g5 (by rw [← hx]; congr 1; omega)
        exact ⟨_, rfl, Or.inr ⟨by rw [ff_set c3 c4, ff_set c1 c2], s1 (Gl_set h c3 c4 (fun _ => rfl) (fun _ => by intro z; cases z))⟩⟩
      · rw [if_neg d] at e; cases e
    | val x =>
      simp only at e ⊢
      by_cases d : x.category = 1
      · rw [if_pos d] at e ⊢; cases e; exact ⟨_, rfl, Or.inr ⟨ff_set c1 c2, s1 h⟩⟩
      · rw [if_neg d] at e ⊢
        by_cases d2 : i + 1 < M.length
        · rw [if_pos d2] at e ⊢; cases e
          have d3 : x.category = 2 := by cases x <;> simp [Value.category] at d ⊢
          have c3 : i + 1 ≠ j := by intro z; have := g4 i _ z hx; simp [lng, d3] at this
          exact ⟨_, rfl, Or.inr ⟨by rw [ff_set c3 (by omega), ff_set c1 c2], s1 (Gl_set h c3 (by omega) (fun _ => rfl) (fun _ => by intro z; cases z))⟩⟩
        · rw [if_neg d2] at e; cases e
theorem stL_fr (h : lfr j L M) (e : stL L i v = some N) : ∃ N', stL M i v = some N' ∧ lfr j N N' := by
  rcases h with rfl | ⟨rfl, h⟩
  · exact ⟨N, e, Or.inl rfl⟩
  obtain ⟨⟨w, g1, g2⟩, g3, g4, g5⟩ := id h
  have hl := Gl_lt h
  unfold stL at e ⊢
  by_cases c1 : i = j
  · subst c1
    rw [(ff_j h).1, (ff_j h).2] at e; simp only [cat1, if_true] at e; cases e
    rw [g1, g3]; simp only [g2, if_true]
    exact ⟨_, rfl, Or.inl (by rw [ff_0, List.set_comm _ _ (by omega : i + 1 ≠ i), List.set_set])⟩
  by_cases c2 : i = j + 1
  · subst c2
    rw [(ff_j h).2, ff_get (i := j + 1 + 1) (by omega) (by omega), ff_len, ff_1] at e
    rw [g3]
    revert e; cases hy : M[j + 1 + 1]? with
    | none => intro e; cases e
    | some o2 =>
      intro e; simp only [Nat.le_add_left, if_true, Nat.add_sub_cancel] at e ⊢
      exact ⟨N, e, Or.inl rfl⟩
  by_cases c3 : i + 1 = j
  · subst c3
    rw [ff_get c1 c2, (ff_j h).1] at e
    rw [g1]
    have w1 : ¬ cat1 (.val w) = true := by simp [cat1, g2]
    have w2 : lng (.val w) = true ∧ i + 2 < M.length := ⟨by simp [lng, g2], hl⟩
    have en : ∀ b : Slot, ((ff (i + 1) M).set i b).set (i + 1) .second = ((M.set i b).set (i + 2) .unset).set (i + 1) .second := fun b => by
      rw [ff_set (by omega) (by omega), ff_0]
    revert e; cases hx : M[i]? with
    | none => intro e; cases e
    | some o =>
      intro e
      have lo := g4 i o rfl hx
      cases o with
      | unset => simp only [cat1, if_true] at e; cases e; simp only [if_neg w1, if_pos w2]; exact ⟨_, rfl, Or.inl (en _)⟩
      | val x =>
        have x2 : ¬ x.category = 2 := by simpa [lng] using lo
        simp only [cat1, if_true, if_neg x2] at e; cases e; simp only [if_neg w1, if_pos w2, if_neg x2]; exact ⟨_, rfl, Or.inl (en _)⟩
      | second =>
        simp only [cat1, if_true] at e
        by_cases d : 1 ≤ i
        · simp only [if_pos d, if_neg w1, if_pos w2] at e ⊢; cases e
          exact ⟨_, rfl, Or.inl (by rw [ff_set (by omega) (by omega), ff_set (by omega) (by omega), ff_0])⟩
        · rw [if_neg d] at e; cases e
  rw [ff_get c1 c2, ff_get (i := i + 1) c3 (by omega), ff_len] at e
  revert e; cases hx : M[i]? with
  | none => intro e; cases e
  | some o =>
    cases hy : M[i + 1]? with
    | none => intro e; cases o <;> cases e
    | some o2 =>
      intro e
      have s1 : ∀ {M}, Gl j M → Gl j (M.set i (.val v)) := fun h => Gl_set h c1 c2 (fun z => absurd z c3) (fun _ => by intro z; cases z)
      have s2 : ∀ {M}, Gl j M → Gl j (M.set (i + 1) .second) := fun h => Gl_set h c3 (by omega) (fun _ => rfl) (fun z => absurd z (by omega))
      have f1 : ∀ {M : List Slot}, (ff j M).set i (.val v) = ff j (M.set i (.val v)) := ff_set c1 c2
      have f2 : ∀ {M : List Slot}, (ff j M).set (i + 1) .second = ff j (M.set (i + 1) .second) := ff_set c3 (by omega)
      have t3 : lng o2 = true → i + 2 ≠ j := fun l z => by have := g4 (i + 1) o2 (by omega) hy; rw [l] at this; cases this
      have s3 : lng o2 = true → ∀ {M}, Gl j M → Gl j (M.set (i + 2) .unset) := fun l _ h => Gl_set h (t3 l) (by omega) (fun _ => rfl) (fun _ => by intro z; cases z)
      have f3 : lng o2 = true → ∀ {M : List Slot}, (ff j M).set (i + 2) .unset = ff j (M.set (i + 2) .unset) := fun l _ => ff_set (t3 l) (by omega)
      cases o with
      | unset =>
        simp only at e ⊢
        by_cases c : cat1 o2 = true
        · rw [if_pos c] at e ⊢; cases e; exact ⟨_, rfl, Or.inr ⟨by rw [f1, f2], s2 (s1 h)⟩⟩
        · rw [if_neg c] at e ⊢
          by_cases l : lng o2 = true ∧ i + 2 < M.length
          · rw [if_pos l] at e ⊢; cases e; exact ⟨_, rfl, Or.inr ⟨by rw [f1, f3 l.1, f2], s2 (s3 l.1 (s1 h))⟩⟩
          · rw [if_neg l] at e; cases e
      | val x =>
        simp only at e ⊢
        by_cases d : x.category = 2
        · rw [if_pos d] at e ⊢; cases e; exact ⟨_, rfl, Or.inr ⟨by rw [f1, f2], s2 (s1 h)⟩⟩
        rw [if_neg d] at e ⊢
        by_cases c : cat1 o2 = true
        · rw [if_pos c] at e ⊢; cases e; exact ⟨_, rfl, Or.inr ⟨by rw [f1, f2], s2 (s1 h)⟩⟩
        · rw [if_neg c] at e ⊢
          by_cases l : lng o2 = true ∧ i + 2 < M.length
          · rw [if_pos l] at e ⊢; cases e; exact ⟨_, rfl, Or.inr ⟨by rw [f1, f3 l.1, f2], s2 (s3 l.1 (s1 h))⟩⟩
          · rw [if_neg l] at e; cases e
      | second =>
        simp only at e ⊢
        by_cases d : 1 ≤ i
        · rw [if_pos d] at e ⊢
          have t0 : i - 1 ≠ j := by omega
          have t1 : i - 1 ≠ j + 1 := by intro z; exact g5 (by rw [← hx]; congr 1; omega)
          have f0 : (ff j M).set (i - 1) .unset = ff j (M.set (i - 1) .unset) := ff_set t0 t1
          have s0 : Gl j (M.set (i - 1) .unset) := Gl_set h t0 t1 (fun _ => rfl) (fun _ => by intro z; cases z)
          by_cases c : cat1 o2 = true
          · rw [if_pos c] at e ⊢; cases e; exact ⟨_, rfl, Or.inr ⟨by rw [f0, f1, f2], s2 (s1 s0)⟩⟩
          · rw [if_neg c] at e ⊢
            by_cases l : lng o2 = true ∧ i + 2 < M.length
            · rw [if_pos l] at e ⊢; cases e; exact ⟨_, rfl, Or.inr ⟨by rw [f0, f1, f3 l.1, f2], s2 (s3 l.1 (s1 s0))⟩⟩
            · rw [if_neg l] at e; cases e
        · rw [if_neg d] at e; cases e
theorem get_fr {o : Slot} (h : lfr j L M) (e : L[i]? = some o) (ho : o ≠ .unset) : M[i]? = some o := by
  rcases h with rfl | ⟨rfl, h⟩
  · exact e
  by_cases c1 : i = j
  · subst c1; rw [(ff_j h).1] at e; cases e; exact absurd rfl ho
  by_cases c2 : i = j + 1
  · subst c2; rw [(ff_j h).2] at e; cases e; exact absurd rfl ho
  rw [ff_get c1 c2] at e; exact e
theorem ldI_fr (h : lfr j L M) (e : ldI L i = some v) : ldI M i = some v := by
  unfold ldI at *
  split at e
  · rename_i g; rw [get_fr h g (by intro z; cases z)]; exact e
  · cases e
theorem ldJ_fr (h : lfr j L M) (e : ldJ L i = some v) : ldJ M i = some v := by
  unfold ldJ at *
  split at e
  · rename_i g; rw [get_fr h g (by intro z; cases z)]; exact e
  · cases e
theorem ldR_fr (h : lfr j L M) (e : ldR L i = some v) : ldR M i = some v := by
  unfold ldR at *
  split at e
  · rename_i g; rw [get_fr h g (by intro z; cases z)]; exact e
  · cases e
theorem inc_fr {x : Int32} {b : Value} (hb : b.category = 1) (h : lfr j L M) (e : L[i]? = some (.val (.int x))) : lfr j (L.set i (.val b)) (M.set i (.val b)) := by
  have e' := get_fr h e (by intro z; cases z)
  rcases h with rfl | ⟨rfl, h⟩
  · exact Or.inl rfl
  have c1 : i ≠ j := by intro z; subst z; rw [(ff_j h).1] at e; cases e
  have c2 : i ≠ j + 1 := by intro z; subst z; rw [(ff_j h).2] at e; cases e
  exact Or.inr ⟨ff_set c1 c2, Gl_set h c1 c2 (fun _ => by simp [lng, hb]) (fun _ => by intro z; cases z)⟩
theorem stp_fl {q : Fm} (h : lfr j L M) (e : stp P m ins len aux pc L S k n H = some q) : ∃ M', stp P m ins len aux pc M S k n H = some (q.1, M', q.2.2) ∧ lfr j q.2.1 M' := by
  cases hl : loc ins with
  | false =>
    obtain ⟨h1, h2⟩ := stp_fr (L' := M) hl e
    exact ⟨M, h2, by rw [h1]; exact h⟩
  | true =>
    cases ins <;> first
      | (cases hl; done)
      | (simp only [stp, Option.map_eq_some_iff] at e ⊢; obtain ⟨w, h1, h2⟩ := e; subst h2; first
          | exact ⟨M, ⟨w, ldI_fr h h1, rfl⟩, h⟩
          | exact ⟨M, ⟨w, ldJ_fr h h1, rfl⟩, h⟩
          | exact ⟨M, ⟨w, ldR_fr h h1, rfl⟩, h⟩)
      | (simp only [stp] at e ⊢; split at e
         · simp only [Option.map_eq_some_iff] at e ⊢
           obtain ⟨w, h1, h2⟩ := e; subst h2
           first
            | (obtain ⟨M, g1, g2⟩ := stl_fr rfl h h1; exact ⟨M, ⟨M, g1, rfl⟩, g2⟩)
            | (obtain ⟨M, g1, g2⟩ := stL_fr h h1; exact ⟨M, ⟨M, g1, rfl⟩, g2⟩)
         · cases e)
      | (simp only [stp] at e ⊢; rename_i i c
         revert e; cases hx : L[i]? with
         | none => intro e; cases e
         | some o =>
           intro e
           split at e
           · rename_i x g; cases g
             rw [get_fr h hx (by intro z; cases z)]
             cases e; exact ⟨_, rfl, inc_fr rfl h hx⟩
           · cases e)
theorem run_fl : ∀ (f m pc : Nat) (L L' : List Slot) (S : List Value) (k n : Nat) (H : AH) (r : Option Value × AH), lfr j L L' → run P f m pc L S k n H = some r → run P f m pc L' S k n H = some r
  | 0, _, _, _, _, _, _, _, _, _, _, e => by cases e
  | f + 1, m, pc, L, L', S, k, n, H, r, h, e => by
    unfold run at e ⊢
    cases hd : P.1 m pc with
    | none => rw [hd] at e; cases e
    | some d =>
      rw [hd] at e; simp only at e ⊢
      cases hr : ret P m d.1 S with
      | some v => rw [hr] at e; exact e
      | none =>
        rw [hr] at e; simp only at e ⊢
        cases hc : cal P m d.1 d.2.2 S k n H with
        | some c =>
          rw [hc] at e; simp only at e ⊢
          cases hx : run P f c.1 0 (ent P c.1 c.2.1) [] 0 0 H with
          | none => rw [hx] at e; cases e
          | some y => rw [hx] at e; simp only at e ⊢; exact run_fl f _ _ _ _ _ _ _ _ _ h e
        | none =>
          rw [hc] at e; simp only at e ⊢
          cases hs : stp P m d.1 d.2.1 d.2.2 pc L S k n H with
          | none => rw [hs] at e; cases e
          | some q =>
            rw [hs] at e; simp only at e
            obtain ⟨M, g1, g2⟩ := stp_fl h hs
            rw [g1]; exact run_fl f _ _ _ _ _ _ _ _ _ g2 e
theorem W_fl (j : Nat) (h : Gl j L) (w : W P m pc (ff j L) S k n H Q) : W P m pc L S k n H Q := by
  obtain ⟨f, v, H', e, q⟩ := w
  exact ⟨f, v, H', run_fl f m pc _ L S k n H _ (Or.inr ⟨rfl, h⟩) e, q⟩
def wfb : List Slot → Bool
  | [] => true
  | .second :: _ => false
  | .unset :: L => wfb L
  | .val v :: L => if v.category = 2 then (match L with | .second :: L => wfb L | _ => false) else if v.category = 1 then wfb L else false
theorem lel_app : ∀ (A : List Slot) {C D : List Slot}, lel C D → lel (A ++ C) (A ++ D)
  | [], _, _, h => h
  | a :: A, _, _, h => lel_cons (lel_app A h)
theorem ff_app {A B : List Slot} {x y : Slot} : ff A.length (A ++ x :: y :: B) = A ++ .unset :: .unset :: B := by
  unfold ff
  rw [List.set_append_right _ _ (Nat.le_refl _), List.set_append_right _ _ (by omega)]
  simp
theorem wfb_hd {B : List Slot} (h : wfb B = true) : B[0]? ≠ some .second := by
  cases B with
  | nil => intro e; cases e
  | cons b B => intro e; cases b <;> cases e; cases h
theorem W_fB : ∀ (c : Nat) (A B : List Slot), B.length ≤ c → wfb B = true → (∀ i o, i + 1 = A.length → A[i]? = some o → lng o = false) → W P m pc (A ++ B.map fun _ => .unset) S k n H Q → W P m pc (A ++ B) S k n H Q
  | 0, A, B, hc, hw, ha, w => by
    have : B = [] := List.eq_nil_of_length_eq_zero (by omega)
    subst this; exact w
  | c + 1, A, [], hc, hw, ha, w => w
  | c + 1, A, .second :: B, hc, hw, ha, w => by cases hw
  | c + 1, A, .unset :: B, hc, hw, ha, w => by
    have := W_fB c (A ++ [.unset]) B (by simpa using hc) hw (fun i o e h => by
      rw [List.length_append, List.length_singleton] at e
      have : i = A.length := by omega
      subst this; rw [List.getElem?_concat_length] at h; cases h; rfl) (by simpa using w)
    simpa using this
  | c + 1, A, .val v :: B, hc, hw, ha, w => by
    by_cases d : v.category = 2
    · unfold wfb at hw; rw [if_pos d] at hw
      cases B with
      | nil => cases hw
      | cons b B =>
        cases b with
        | unset => cases hw
        | val u => cases hw
        | second =>
          simp only at hw
          refine W_fl A.length ⟨⟨v, by simp, d⟩, by simp, fun i o e h => ?_, ?_⟩ ?_
          · rw [List.getElem?_append_left (by omega)] at h; exact ha i o e h
          · have := wfb_hd hw
            rw [List.getElem?_append_right (by omega)]; simpa using this
          · rw [ff_app]
            have := W_fB c (A ++ [.unset, .unset]) B (by simp only [List.length_cons] at hc; omega) hw (fun i o e h => by
              rw [List.length_append] at e; simp only [List.length_cons, List.length_nil] at e
              have : i = A.length + 1 := by omega
              subst this; rw [List.getElem?_append_right (by omega)] at h; simp at h; subst h; rfl) (by simpa using w)
            simpa using this
    · have d1 : v.category = 1 := by cases v <;> simp [Value.category] at d ⊢
      unfold wfb at hw; rw [if_neg d, if_pos d1] at hw
      have := W_fB c (A ++ [.val v]) B (by simpa using hc) (by simpa using hw) (fun i o e h => by
        rw [List.length_append, List.length_singleton] at e
        have : i = A.length := by omega
        subst this; rw [List.getElem?_concat_length] at h; cases h; simp [lng, d1]) (by
          rw [List.append_assoc]
          refine W_fg (lel_app A ?_) w
          exact lel_un (by simp [cat1, d1]) lel_refl)
      simpa using this
def okf (c : Nat) (L : List Slot) : Bool := decide (c ≤ L.length) && (wfb (L.drop c) && (match c with | 0 => true | c + 1 => match L[c]? with | some o => !lng o | none => true))
theorem W_fa (c : Nat) (h : okf c L = true) (w : W P m pc (L.take c ++ (L.drop c).map fun _ => .unset) S k n H Q) : W P m pc L S k n H Q := by
  unfold okf at h; rw [Bool.and_eq_true, Bool.and_eq_true, decide_eq_true_eq] at h
  have := W_fB _ (L.take c) (L.drop c) (Nat.le_refl _) h.2.1 (fun i o e h' => by
    rw [List.length_take, Nat.min_eq_left h.1] at e; subst e
    rw [List.getElem?_take_of_lt (by omega)] at h'
    have h2 := h.2.2; simp only [h'] at h2; simpa using h2) w
  rwa [List.take_append_drop] at this
end ForgetL
section Ist
variable {P : Prog} {m pc len k n i : Nat} {aux : Int} {L : List Slot} {S : List Value} {H : AH} {Q : Option Value → AH → Prop} {x : Int32} {l : Int64}
end Ist
section Num2
end Num2
end Jvm.JX

namespace Jvm.JX
open Sem ClassFile Op Lib
def G2 (P : Int64) (j : Int32) : Int64 := Jvm.Free.XT.ushrL P (2 * j) &&& 3
end Jvm.JX

namespace Jvm.JX
open Sem ClassFile Op Lib Jvm.Stand Jvm.Free Jvm.LawKit Jvm.RoadKit
def CRel (C : String) (fn : Nat → String × String) (F : List Nat) (Z : State) (n0 : Nat) (h : Heap) (a : Nat) (c : Cel) : Prop :=
  (c.2.2.1 = true → n0 ≤ a) ∧
  match c.1 with
  | .object _ => Exa Z h a C ∧ ∀ k ∈ F, Fld Z h a C (fn k).1 (fn k).2 (c.2.2.2 k)
  | .array t => c.2.1 < 2 ^ 31 ∧ ∃ cl : Cell, Arr Z h a cl t ∧ cl.slots.size = c.2.1 ∧ ∀ i, i < c.2.1 → cl.slots[i]? = some (c.2.2.2 i)
  | _ => True
def RelH (C : String) (fn : Nat → String × String) (F : List Nat) (Z : State) (n0 : Nat) (h : Heap) (H : AH) : Prop := h.size = H.1 ∧ n0 ≤ H.1 ∧ ∀ a, CRel C fn F Z n0 h a (H.2 a)
def ilen2 : Instr → Nat → Nat
  | .tableswitch _ _ _ _, l => l
  | i, _ => ilen i
def RowOk (P : Prog) (tb : List Jvm.Cond) (C : String) (fn : Nat → String × String) (F : List Nat) (nsl : Nat) (nm : Nat → MethodName) (R : List Nat) (m : Nat) (ins : Instr) (aux : Int) : Prop :=
  match ins with
  | .getfield i => aux.toNat ∈ F ∧ Jvm.Cond.fieldLink (nm m).cls i C (fn aux.toNat).1 (fn aux.toNat).2 ∈ tb
  | .putfield i => aux.toNat ∈ F ∧ Jvm.Cond.fieldLink (nm m).cls i C (fn aux.toNat).1 (fn aux.toNat).2 ∈ tb ∧ (Jvm.Cond.lays C C (fn aux.toNat).1 (fn aux.toNat).2 ∈ tb ∨ (nm m).cls = C ∧ (nm m).name = "<init>")
  | .new i => aux.toNat = nsl ∧ Jvm.Cond.classLink (nm m).cls i C ∈ tb
  | .newarray t => Jvm.Cond.arrayClass (newarray.typeOf t) ∈ tb
  | .ldc i => Jvm.Cond.constant (nm m).cls i (Int32.ofInt aux) ∈ tb
  | .ldc2_w i => Jvm.Cond.constantLong (nm m).cls i (Int64.ofInt aux) ∈ tb
  | .invokevirtual i => aux.toNat ∈ R ∧ Jvm.Cond.methodLink (nm m).cls i (nm aux.toNat) ∈ tb
  | .invokestatic i => aux.toNat ∈ R ∧ Jvm.Cond.methodLink (nm m).cls i (nm aux.toNat) ∈ tb
  | .invokespecial i => (aux = -1 → Jvm.Cond.methodLink (nm m).cls i Lib.objectInit ∈ tb ∧ Jvm.Cond.instanceMethod Lib.objectInit ∈ tb ∧ Jvm.Cond.code Lib.objectInit ⟨#[0xb1]⟩ 1 none ∈ tb) ∧ (0 ≤ aux → aux.toNat ∈ R ∧ Jvm.Cond.methodLink (nm m).cls i (nm aux.toNat) ∈ tb)
  | _ => True
def CalOk (P : Prog) (tb : List Jvm.Cond) (C : String) (nm : Nat → MethodName) (bt : Nat → ByteArray) (m : Nat) : Prop :=
  Jvm.Cond.code (nm m) (bt m) (ml P m) (rt P m) ∈ tb ∧ Jvm.Cond.initialized (nm m).cls ∈ tb ∧ (∃ ps r, parseMethodDescriptor (nm m).desc = some ⟨ps, r⟩ ∧ ps.length + (if kd P m = 0 then 0 else 1) = na P m) ∧
  (kd P m = 0 → Jvm.Cond.static (nm m) ∈ tb) ∧
  (kd P m ≠ 0 → (nm m).cls = C ∧ Jvm.Cond.instanceMethod (nm m) ∈ tb) ∧
  (kd P m = 1 → Jvm.Cond.declares (nm m) ∈ tb ∧ Jvm.Cond.selects C (nm m) (nm m) ∈ tb) ∧
  (kd P m = 2 → Jvm.Cond.privateMethod (nm m) ∈ tb) ∧
  (kd P m = 3 → (nm m).name = "<init>" ∧ rt P m = none)
def Good (P : Prog) (tb : List Jvm.Cond) (C : String) (fn : Nat → String × String) (F : List Nat) (nsl : Nat) (nm : Nat → MethodName) (bt : Nat → ByteArray) (R : List Nat) (top : Nat) : Prop :=
  Jvm.Cond.instantiable C nsl ∈ tb ∧ Jvm.Cond.initialized C ∈ tb ∧
  (∀ k ∈ F, parseFieldDescriptor (fn k).2 = some (P.2.2.1 k) ∧ (Jvm.Cond.lays C C (fn k).1 (fn k).2 ∈ tb ∨ Jvm.Cond.laysFinal C C (fn k).1 (fn k).2 ∈ tb)) ∧
  (∀ j ∈ F, ∀ k ∈ F, (fn j).1 = (fn k).1 → j = k) ∧
  (∀ m ∈ R, plainName (nm m).cls = true ∧ ((nm m).cls ≠ "java/lang/invoke/MethodHandle" ∧ (nm m).cls ≠ "java/lang/invoke/VarHandle") ∧
    ∀ pc ins len aux, P.1 m pc = some (ins, len, aux) → decode (bt m) pc = .ok (ins, len) ∧ len = ilen2 ins len ∧ RowOk P tb C fn F nsl nm R m ins aux) ∧
  (∀ m ∈ R, m ≠ top → CalOk P tb C nm bt m) ∧
  (∀ m ∈ R, ∀ pc ins len aux, P.1 m pc = some (ins, len, aux) → aux = (top : Int) → kindOk ins (kd P top) = false)
section Rel
variable {C : String} {fn : Nat → String × String} {F : List Nat} {Z : State} {n0 : Nat} {h h' : Heap} {H : AH}
theorem RelH.obj (r : RelH C fn F Z n0 h H) {a : Nat} (ha : isO H a = true) : Exa Z h a C ∧ ∀ k ∈ F, Fld Z h a C (fn k).1 (fn k).2 (fld H a k) := by
  have q := (r.2.2 a).2
  unfold isO at ha
  cases hk : (H.2 a).1 <;> rw [hk] at ha <;> first | (cases ha; done) | (simp only [hk] at q; exact q)
theorem RelH.own (r : RelH C fn F Z n0 h H) {a : Nat} (ha : (H.2 a).2.2.1 = true) : n0 ≤ a := (r.2.2 a).1 ha
theorem RelH.arr (r : RelH C fn F Z n0 h H) {a : Nat} {t : FieldType} (ha : (H.2 a).1 = .array t) : (H.2 a).2.1 < 2 ^ 31 ∧ ∃ cl : Cell, Arr Z h a cl t ∧ cl.slots.size = (H.2 a).2.1 ∧ ∀ i, i < (H.2 a).2.1 → cl.slots[i]? = some ((H.2 a).2.2.2 i) := by
  have q := (r.2.2 a).2
  simp only [ha] at q; exact q
theorem RelH.ext (r : RelH C fn F Z n0 h H) (E : Ext h h') {c : Cel} (hs : h'.size = h.size + 1) (hc : CRel C fn F Z n0 h' h.size c) : RelH C fn F Z n0 h' (H.1 + 1, fun b => if b = H.1 then c else H.2 b) := by
  refine ⟨by rw [hs, r.1], Nat.le_succ_of_le r.2.1, fun a => ?_⟩
  by_cases e : a = H.1
  · subst e; simp only [if_true]; rw [← r.1]; exact hc
  · simp only [e, if_false]
    obtain ⟨q1, q2⟩ := r.2.2 a
    refine ⟨q1, ?_⟩
    cases hk : (H.2 a).1 <;> simp only [hk] at q2 ⊢
    · exact ⟨q2.1.ext E, fun k hk => (q2.2 k hk).ext E⟩
    · obtain ⟨q3, cl, q4, q5⟩ := q2; exact ⟨q3, cl, q4.ext E, q5⟩
end Rel
def Go (C : String) (fn : Nat → String × String) (F : List Nat) (Z : State) (n0 : Nat) (p : Program) (l : Launch) (e : Env) (R : Jvm.Room) (s : State) (mid : MethodId) (args : Array Value) (below : List Frame) (meth : Method) (c : Code) (start : State) (nl : Nat) (q : Fm) : Prop :=
  ∃ T' locs', Stand p l e R s mid args below meth c T' locs' q.2.2.2.1 q.2.2.2.2.1 ∧ RelH C fn F Z n0 T'.heap q.2.2.2.2.2 ∧ Fr n0 locs' ∧ q.2.2.2.1 ≤ R.cells ∧ q.2.2.2.2.1 ≤ R.slots ∧ q.2.1.length = nl ∧
    ∀ target, Steps p.tables e below (T'.setTop (mkF mid q.1 q.2.1.toArray q.2.2.1)) target → Steps p.tables e below start target
theorem lrem_mod (x y : Int64) : x - (x / y) * y = x % y := by
  apply Int64.toInt_inj.mp
  have h1 := Int64.le_toInt (x % y)
  have h2 := Int64.toInt_lt (x % y)
  rw [Int64.toInt_sub, Int64.toInt_mul, Int64.toInt_div, Int.bmod_mul_bmod, Int.sub_bmod_bmod, Int.mul_comm (x.toInt.tdiv y.toInt), ← Int.tmod_def, ← Int64.toInt_mod]
  exact Int.bmod_eq_of_le_mul_two (by omega) (by omega)
theorem arr_get {L : List Slot} {i : Nat} {o : Slot} (h : L[i]? = some o) : L.toArray[i]? = some o := by simpa using h
theorem stl_ok {L L' : List Slot} {i : Nat} {v : Value} (hv : v.category = 1) (h : stl L i v = some L') : storeLocals L.toArray i v = some L'.toArray ∧ L'.length = L.length := by
  unfold stl at h
  unfold storeLocals
  cases hi : L[i]? with
  | none => rw [hi] at h; cases h
  | some o =>
    have hlt : i < L.length := (List.getElem?_eq_some_iff.mp hi).1
    rw [hi] at h
    rw [arr_get hi]
    cases o with
    | unset => cases h; simp [storeSelf, setAt, hlt, hv]
    | second =>
      simp only at h
      split at h
      · cases h; simp [storeSelf, setAt, hv, hlt, Nat.lt_of_le_of_lt (Nat.sub_le i 1) hlt]
      · cases h
    | val w =>
      simp only at h
      split at h
      · rename_i hw; cases h; simp [storeSelf, setAt, hv, hlt, hw]
      · rename_i hw
        split at h
        · rename_i h1
          have hw2 : w.category = 2 := by cases w <;> simp [Value.category] at hw ⊢
          cases h; simp [storeSelf, setAt, hv, hlt, hw2, h1]
        · cases h
theorem stL_ok {L L' : List Slot} {i : Nat} {v : Value} (hv : v.category = 2) (h : stL L i v = some L') : storeLocals L.toArray i v = some L'.toArray ∧ L'.length = L.length := by
  unfold stL at h
  unfold storeLocals
  cases hi : L[i]? with
  | none => rw [hi] at h; cases h
  | some o =>
    cases hi2 : L[i + 1]? with
    | none => rw [hi, hi2] at h; cases o <;> cases h
    | some o2 =>
      have hlt : i < L.length := (List.getElem?_eq_some_iff.mp hi).1
      have hlt2 : i + 1 < L.length := (List.getElem?_eq_some_iff.mp hi2).1
      rw [hi, hi2] at h
      rw [arr_get hi]
      have g2 : (L.set i (.val v))[i + 1]? = some o2 := by rw [List.getElem?_set_ne (by omega)]; exact hi2
      have g4 : L[i + 1] = o2 := (List.getElem?_eq_some_iff.mp hi2).2
      cases o with
      | second =>
        simp only at h
        have h0 : i - 1 < L.length := by omega
        split at h
        · rename_i h1
          have g2' : ((L.set (i - 1) .unset).set i (.val v))[i + 1]? = some o2 := by rw [List.getElem?_set_ne (by omega), List.getElem?_set_ne (by omega)]; exact hi2
          have g4' : ((L.set (i - 1) .unset).set i (.val v))[i + 1]'(by simpa using hlt2) = o2 := (List.getElem?_eq_some_iff.mp g2').2
          split at h
          · rename_i hc
            cases h
            cases o2 with
            | second => cases hc
            | unset => simp [storeSelf, setAt, hv, hlt, hlt2, h0, g4']
            | val w => simp only [cat1, beq_iff_eq] at hc; simp [storeSelf, setAt, hv, hlt, hlt2, h0, g4', hc]
          · split at h
            · rename_i hc
              cases h
              obtain ⟨hc, hlt3⟩ := hc
              cases o2 with
              | second => cases hc
              | unset => cases hc
              | val w => simp only [lng, beq_iff_eq] at hc; simp [storeSelf, setAt, hv, hlt, hlt2, hlt3, h0, g4', hc]
            · cases h
        · cases h
      | unset =>
        simp only at h
        split at h
        · rename_i hc
          cases h
          cases o2 with
          | second => cases hc
          | unset => simp [storeSelf, setAt, hv, hlt, hlt2, g2, g4]
          | val w => simp only [cat1, beq_iff_eq] at hc; simp [storeSelf, setAt, hv, hlt, hlt2, g2, g4, hc]
        · split at h
          · rename_i hc
            cases h
            obtain ⟨hc, hlt3⟩ := hc
            cases o2 with
            | second => cases hc
            | unset => cases hc
            | val w => simp only [lng, beq_iff_eq] at hc; simp [storeSelf, setAt, hv, hlt, hlt2, hlt3, g2, g4, hc]
          · cases h
      | val w =>
        simp only at h
        split at h
        · rename_i hw
          cases h
          have g3 : ((L.set (i + 1) .unset).set i (.val v))[i + 1]? = some .unset := by rw [List.getElem?_set_ne (by omega)]; simp [hlt2]
          simp [storeSelf, setAt, hv, hlt, hlt2, hw, g3]
          rw [List.set_comm _ _ (by omega), List.set_set, List.set_comm _ _ (by omega)]
        · rename_i hw
          have hw1 : ¬ w.category = 2 := hw
          split at h
          · rename_i hc
            cases h
            cases o2 with
            | second => cases hc
            | unset => simp [storeSelf, setAt, hv, hlt, hlt2, g2, g4, hw1]
            | val w => simp only [cat1, beq_iff_eq] at hc; simp [storeSelf, setAt, hv, hlt, hlt2, g2, g4, hw1, hc]
          · split at h
            · rename_i hc
              cases h
              obtain ⟨hc, hlt3⟩ := hc
              cases o2 with
              | second => cases hc
              | unset => cases hc
              | val w2 => simp only [lng, beq_iff_eq] at hc; simp [storeSelf, setAt, hv, hlt, hlt2, hlt3, g2, g4, hw1, hc]
            · cases h
theorem jmp_ok {pc q : Nat} {o : Int} (h : jmp pc o = some q) : 0 ≤ (pc : Int) + o ∧ ((pc : Int) + o).toNat = q := by
  unfold jmp at h
  split at h
  · rename_i g; cases h; exact ⟨g, rfl⟩
  · cases h
theorem ldI_ok {L : List Slot} {i : Nat} {v : Value} (h : ldI L i = some v) : ∃ x, v = .int x ∧ L.toArray[i]? = some (.val (.int x)) := by
  unfold ldI at h
  split at h
  · rename_i x e; cases h; exact ⟨x, rfl, arr_get e⟩
  · cases h
theorem ldJ_ok {L : List Slot} {i : Nat} {v : Value} (h : ldJ L i = some v) : ∃ x, v = .long x ∧ L.toArray[i]? = some (.val (.long x)) := by
  unfold ldJ at h
  split at h
  · rename_i x e; cases h; exact ⟨x, rfl, arr_get e⟩
  · cases h
theorem ldR_ok {L : List Slot} {i : Nat} {v : Value} (h : ldR L i = some v) : ∃ x, v = .ref x ∧ L.toArray[i]? = some (.val (.ref x)) := by
  unfold ldR at h
  split at h
  · rename_i x e; cases h; exact ⟨x, rfl, arr_get e⟩
  · cases h
theorem okv_ok {t : FieldType} {v : Value} (h : okv t v = true) : narrow t v = v ∧ fits t v = true := by
  unfold okv at h
  split at h
  · exact ⟨rfl, rfl⟩
  · rename_i z
    simp only [Bool.or_eq_true, beq_iff_eq] at h
    rcases h with rfl | rfl <;> exact ⟨rfl, rfl⟩
  · rename_i z
    simp only [beq_iff_eq] at h
    have q := fits_nar_byte z
    rw [h] at q
    exact ⟨by show Value.int _ = _; rw [h], q⟩
  · exact ⟨rfl, rfl⟩
  · exact ⟨rfl, rfl⟩
  · cases h
end Jvm.JX

namespace Jvm.JX
open Sem ClassFile Op Lib Jvm.Stand Jvm.Free Jvm.LawKit Jvm.RoadKit
section Step
variable {P : Prog} {tb : List Jvm.Cond} {C : String} {fn : Nat → String × String} {F : List Nat} {nsl : Nat} {nm : Nat → MethodName} {bt : Nat → ByteArray} {R : List Nat} {top : Nat}
variable {l : Launch} {Z : State} {a0 : Array Value} {n0 : Nat} {m pc len k n : Nat} {aux : Int} {L : List Slot} {S : List Value} {H : AH} {ins : Instr} {q : Fm}
variable {p : Program} {e : Env} {s : State} {mid : MethodId} {args : Array Value} {below : List Frame} {meth : Method} {c : Code} {T : State} {locs : List Loc} {Rm : Jvm.Room}
theorem go_same {start : State} {nl pc' : Nat} {L' : List Slot} {S' : List Value} (X : Stand p l e Rm s mid args below meth c T locs k n) (r : RelH C fn F Z n0 T.heap H) (N : Fr n0 locs) (hk : k ≤ Rm.cells) (hn : n ≤ Rm.slots) (hL : L'.length = nl)
    (st : ∀ target, Steps p.tables e below (T.setTop (mkF mid pc' L'.toArray S')) target → Steps p.tables e below start target) : Go C fn F Z n0 p l e Rm s mid args below meth c start nl (pc', L', S', k, n, H) := ⟨T, locs, X, r, N, hk, hn, hL, st⟩
theorem go_heap {start : State} {nl pc' : Nat} {L' : List Slot} {S' : List Value} {T' : State} (X : Stand p l e Rm s mid args below meth c T' locs k n) (r : RelH C fn F Z n0 T.heap H) (hh : T'.heap = T.heap) (N : Fr n0 locs) (hk : k ≤ Rm.cells) (hn : n ≤ Rm.slots) (hL : L'.length = nl)
    (st : ∀ target, Steps p.tables e below (T'.setTop (mkF mid pc' L'.toArray S')) target → Steps p.tables e below start target) : Go C fn F Z n0 p l e Rm s mid args below meth c start nl (pc', L', S', k, n, H) := ⟨T', locs, X, by rw [hh]; exact r, N, hk, hn, hL, st⟩
theorem idx_not {i : Int32} {n : Nat} (h1 : ¬ i < 0) (h2 : i.toNatClampNeg < n) : ¬ (i < 0 ∨ n ≤ i.toNatClampNeg) := fun h => h.elim h1 (Nat.not_le.mpr h2)
theorem inA_ok {a : Nat} {t : FieldType} {i : Int32} (h : inA H a t i = true) : (H.2 a).1 = .array t ∧ ¬ i < 0 ∧ i.toNatClampNeg < (H.2 a).2.1 := by
  simpa [inA, and_assoc] using h
theorem inAw_ok {a : Nat} {t : FieldType} {i : Int32} (h : inAw H a t i = true) : inA H a t i = true ∧ (H.2 a).2.2.1 = true := by
  simpa [inAw] using h
theorem isOw_ok {a : Nat} (h : isOw H a = true) : isO H a = true ∧ (H.2 a).2.2.1 = true := by simpa [isOw] using h
theorem RelH.wrF {h h' : Heap} {a j : Nat} {v : Value} (hG : Good P tb C fn F nsl nm bt R top) (hw : ∀ d ∈ tb, d.before a0 Z = true) (r : RelH C fn F Z n0 h H) (ha : isO H a = true) (hj : j ∈ F) (Wt : Wr h h' a (Jvm.RoadKit.slotOf Z C (fn j).1 (fn j).2) v) : RelH C fn F Z n0 h' (wr H a j v) := by
  refine ⟨by rw [Wt.size]; exact r.1, r.2.1, fun b => ?_⟩
  by_cases e : b = a
  · subst e
    obtain ⟨q1, q2⟩ := r.2.2 b
    obtain ⟨E, Fs⟩ := r.obj ha
    simp only [wr, if_true]
    refine ⟨q1, ?_⟩
    unfold isO at ha
    cases hk : (H.2 b).1 <;> rw [hk] at ha <;> try (cases ha; done)
    simp only
    refine ⟨E.wr Wt, fun i hi => ?_⟩
    by_cases e2 : i = j
    · subst e2; simp only [if_true]; exact (Fs i hi).same Wt
    · simp only [e2, if_false]
      refine (Fs i hi).other Wt (Or.inr ?_)
      have lw : ∀ k ∈ F, Laid Z a0 C C (fn k).1 (fn k).2 := fun k hk => ((hG.2.2.1 k hk).2).imp (hw _) (hw _)
      exact slot_ne (lw i hi) (lw j hj) (fun q => e2 (hG.2.2.2.1 i hi j hj q)) (hG.2.2.1 i hi).1 (hG.2.2.1 j hj).1
  · simp only [wr, e, if_false]
    obtain ⟨q1, q2⟩ := r.2.2 b
    refine ⟨q1, ?_⟩
    cases hk : (H.2 b).1 <;> simp only [hk] at q2 ⊢
    · exact ⟨q2.1.wr Wt, fun k hk => (q2.2 k hk).other Wt (Or.inl e)⟩
    · obtain ⟨q3, cl, q4, q5⟩ := q2; exact ⟨q3, cl, q4.other Wt e, q5⟩
theorem RelH.wrA {h h' : Heap} {a j : Nat} {t : FieldType} {v : Value} (r : RelH C fn F Z n0 h H) (ha : (H.2 a).1 = .array t) (hj : j < (H.2 a).2.1) (Wt : Wr h h' a j v) : RelH C fn F Z n0 h' (wr H a j v) := by
  refine ⟨by rw [Wt.size]; exact r.1, r.2.1, fun b => ?_⟩
  by_cases e : b = a
  · subst e
    obtain ⟨q1, q2⟩ := r.2.2 b
    obtain ⟨g1, cl, g2, g3, g4⟩ := r.arr ha
    simp only [wr, if_true]
    refine ⟨q1, ?_⟩
    simp only [ha]
    refine ⟨g1, cl.setSlot j v, g2.same Wt, by rw [sz_set]; exact g3, fun i hi => ?_⟩
    by_cases e2 : i = j
    · subst e2; simp [Cell.setSlot, g3, hj]
    · simp only [e2, if_false]; rw [← g4 i hi]; exact Array.getElem?_setIfInBounds_ne (Ne.symm e2)
  · simp only [wr, e, if_false]
    obtain ⟨q1, q2⟩ := r.2.2 b
    refine ⟨q1, ?_⟩
    cases hk : (H.2 b).1 <;> simp only [hk] at q2 ⊢
    · exact ⟨q2.1.wr Wt, fun k hk => (q2.2 k hk).other Wt (Or.inl e)⟩
    · obtain ⟨q3, cl, q4, q5⟩ := q2; exact ⟨q3, cl, q4.other Wt e, q5⟩
theorem ext_push (h : Heap) (x : Cell) : Ext h (h.push x) := ⟨by simp, fun a c q => by rw [Array.getElem?_push_lt (Array.getElem?_eq_some_iff.mp q).1]; exact (Array.getElem?_eq_getElem _).symm.trans q⟩
theorem made_obj {h : Heap} {cC : ClassId} {kC : Class} (hZ : Z.Warmed39 s.vm) (h1 : s.vm.findClass C = some cC) (h2 : s.vm.classes[cC]? = some kC) :
    Exa Z (h.push { cls := cC, slots := kC.instanceTypes.map defaultValue, vm := .none }) h.size C ∧ ∀ {nm d : String} {ty : FieldType}, Laid Z a0 C C nm d → parseFieldDescriptor d = some ty → Fld Z (h.push { cls := cC, slots := kC.instanceTypes.map defaultValue, vm := .none }) h.size C nm d (defaultValue ty) := by
  rw [hZ.alike.findClass] at h1
  obtain ⟨kZ, z1, -⟩ := Vm.findClass_spec h1
  obtain ⟨k', z2, z3⟩ := hZ.alike.2.2 _ _ z1
  cases h2.symm.trans z2
  have ei : kC.instanceTypes = kZ.instanceTypes := by rw [z3]
  have hN : ∀ x : Cell, (h.push x)[h.size]? = some x := fun x => by simp
  refine ⟨⟨_, kZ, hN _, h1, z1, rfl, fun _ => by simp [ei]⟩, fun {nm d ty} lw ht => ?_⟩
  obtain ⟨c1, k1, cf, kf, i, f, a1, a2, a3, a4, a5, a6, -⟩ := lw.spec
  cases h1.symm.trans a1
  cases z1.symm.trans a2
  exact ⟨_, cf, kf, i, f, hN _, a3, a4, by simp, rfl, a5, by simp [ei, a6, (State.fieldFound?_type a3 ht).2]⟩
theorem made_arr {h : Heap} {t : FieldType} {cA comp : ClassId} {kA : Class} {xs : Array Value} (hZ : Z.Warmed39 s.vm) (h1 : s.vm.findClass ("[" ++ t.toString) = some cA) (h2 : s.vm.classes[cA]? = some kA) (h3 : kA.kind = .array comp t) : Arr Z (h.push { cls := cA, slots := xs, vm := .none }) h.size { cls := cA, slots := xs, vm := .none } t := by
  rw [hZ.alike.findClass] at h1
  obtain ⟨kZ, z1, -⟩ := Vm.findClass_spec h1
  obtain ⟨k', z2, z3⟩ := hZ.alike.2.2 _ _ z1
  cases h2.symm.trans z2
  exact ⟨by simp, ⟨by simp, kZ, z1, comp, by rw [← h3, z3]⟩, by simp⟩
set_option maxHeartbeats 4000000 in
theorem stp_go (hG : Good P tb C fn F nsl nm bt R top) (hw : ∀ d ∈ tb, d.before a0 Z = true) (hm : m ∈ R) (hrow : P.1 m pc = some (ins, len, aux)) (h : stp P m ins len aux pc L S k n H = some q) (X : Stand p l e (rm P m) s mid args below meth c T locs k n) (hx : p.tables.exec = Jvm.exec) (hZ : Z.Warmed39 s.vm)
    (hby : c.code = bt m) (hml : c.maxLocals = ml P m) (hown : s.vm.findClass (nm m).cls = some mid.cls) (hnm : meth.name = (nm m).name) (hL : L.length = ml P m) (r : RelH C fn F Z n0 T.heap H) (N : Fr n0 locs) (hk : k ≤ (rm P m).cells) (hn : n ≤ (rm P m).slots) :
    Go C fn F Z n0 p l e (rm P m) s mid args below meth c (T.setTop (mkF mid pc L.toArray S)) (ml P m) q := by
  obtain ⟨hd, hl, ho⟩ := (hG.2.2.2.2.1 m hm).2.2 pc ins len aux hrow
  replace hd := hb hby hd
  cases ins with
  | iconst i =>
    have hl : len = 1 := hl; subst hl
    obtain rfl := Option.some.inj h
    exact go_same X r N hk hn hL fun t g => XS.iconst X.here hx rfl hd g
  | bipush i =>
    have hl : len = 2 := hl; subst hl
    obtain rfl := Option.some.inj h
    exact go_same X r N hk hn hL fun t g => XS.bipush X.here hx rfl hd g
  | sipush i =>
    have hl : len = 3 := hl; subst hl
    obtain rfl := Option.some.inj h
    exact go_same X r N hk hn hL fun t g => XS.sipush X.here hx rfl hd g
  | lconst i =>
    have hl : len = 1 := hl; subst hl
    obtain rfl := Option.some.inj h
    exact go_same X r N hk hn hL fun t g => XT.lconst X.here hx rfl hd g
  | ldc i =>
    have hl : len = 2 := hl; subst hl
    obtain rfl := Option.some.inj h
    exact go_same X r N hk hn hL fun t g => X.ldcI hx hown (mv hZ (hw _ ho)) rfl hd g
  | ldc2_w i =>
    have hl : len = 3 := hl; subst hl
    obtain rfl := Option.some.inj h
    exact go_same X r N hk hn hL fun t g => X.ldc2J hx hown (mv hZ (hw _ ho)) rfl hd g
  | iload i =>
    have hl : len = 2 := hl; subst hl
    obtain ⟨v, hv, rfl⟩ := Option.map_eq_some_iff.mp h
    obtain ⟨x, rfl, hg⟩ := ldI_ok hv
    exact go_same X r N hk hn hL fun t g => XS.iload X.here hx rfl hd hg g
  | iload_n i =>
    have hl : len = 1 := hl; subst hl
    obtain ⟨v, hv, rfl⟩ := Option.map_eq_some_iff.mp h
    obtain ⟨x, rfl, hg⟩ := ldI_ok hv
    exact go_same X r N hk hn hL fun t g => XS.iloadN X.here hx rfl hd hg g
  | lload i =>
    have hl : len = 2 := hl; subst hl
    obtain ⟨v, hv, rfl⟩ := Option.map_eq_some_iff.mp h
    obtain ⟨x, rfl, hg⟩ := ldJ_ok hv
    exact go_same X r N hk hn hL fun t g => XT.lload X.here hx rfl hd hg g
  | lload_n i =>
    have hl : len = 1 := hl; subst hl
    obtain ⟨v, hv, rfl⟩ := Option.map_eq_some_iff.mp h
    obtain ⟨x, rfl, hg⟩ := ldJ_ok hv
    exact go_same X r N hk hn hL fun t g => XT.lloadN X.here hx rfl hd hg g
  | aload i =>
    have hl : len = 2 := hl; subst hl
    obtain ⟨v, hv, rfl⟩ := Option.map_eq_some_iff.mp h
    obtain ⟨x, rfl, hg⟩ := ldR_ok hv
    exact go_same X r N hk hn hL fun t g => XS.aload X.here hx rfl hd hg rfl g
  | aload_n i =>
    have hl : len = 1 := hl; subst hl
    obtain ⟨v, hv, rfl⟩ := Option.map_eq_some_iff.mp h
    obtain ⟨x, rfl, hg⟩ := ldR_ok hv
    exact go_same X r N hk hn hL fun t g => XS.aloadN X.here hx rfl hd hg rfl g
  | istore i =>
    have hl : len = 2 := hl; subst hl
    dsimp only [stp] at h
    split at h
    · rename_i x S'
      obtain ⟨L', hv, rfl⟩ := Option.map_eq_some_iff.mp h
      obtain ⟨g1, g2⟩ := stl_ok rfl hv
      exact go_same X r N hk hn (g2.trans hL) fun t g => XS.istore X.here hx rfl hd rfl g1 g
    · cases h
  | istore_n i =>
    have hl : len = 1 := hl; subst hl
    dsimp only [stp] at h
    split at h
    · rename_i x S'
      obtain ⟨L', hv, rfl⟩ := Option.map_eq_some_iff.mp h
      obtain ⟨g1, g2⟩ := stl_ok rfl hv
      exact go_same X r N hk hn (g2.trans hL) fun t g => XS.istoreN X.here hx rfl hd rfl g1 g
    · cases h
  | astore i =>
    have hl : len = 2 := hl; subst hl
    dsimp only [stp] at h
    split at h
    · rename_i x S'
      obtain ⟨L', hv, rfl⟩ := Option.map_eq_some_iff.mp h
      obtain ⟨g1, g2⟩ := stl_ok rfl hv
      exact go_same X r N hk hn (g2.trans hL) fun t g => XS.astore X.here hx rfl hd rfl rfl g1 g
    · cases h
  | astore_n i =>
    have hl : len = 1 := hl; subst hl
    dsimp only [stp] at h
    split at h
    · rename_i x S'
      obtain ⟨L', hv, rfl⟩ := Option.map_eq_some_iff.mp h
      obtain ⟨g1, g2⟩ := stl_ok rfl hv
      exact go_same X r N hk hn (g2.trans hL) fun t g => XS.astoreN X.here hx rfl hd rfl rfl g1 g
    · cases h
  | lstore i =>
    have hl : len = 2 := hl; subst hl
    dsimp only [stp] at h
    split at h
    · rename_i x S'
      obtain ⟨L', hv, rfl⟩ := Option.map_eq_some_iff.mp h
      obtain ⟨g1, g2⟩ := stL_ok rfl hv
      exact go_same X r N hk hn (g2.trans hL) fun t g => XT.lstore X.here hx rfl hd rfl g1 g
    · cases h
  | lstore_n i =>
    have hl : len = 1 := hl; subst hl
    dsimp only [stp] at h
    split at h
    · rename_i x S'
      obtain ⟨L', hv, rfl⟩ := Option.map_eq_some_iff.mp h
      obtain ⟨g1, g2⟩ := stL_ok rfl hv
      exact go_same X r N hk hn (g2.trans hL) fun t g => XT.lstoreN X.here hx rfl hd rfl g1 g
    · cases h
  | iinc i cst =>
    have hl : len = 3 := hl; subst hl
    dsimp only [stp] at h
    split at h
    · rename_i x hx1
      obtain rfl := Option.some.inj h
      have g1 : storeLocals L.toArray i (.int (x + Int32.ofInt cst)) = some (L.set i (.val (.int (x + Int32.ofInt cst)))).toArray := (stl_ok rfl (stl_plain hx1 rfl)).1
      exact go_same X r N hk hn (by simpa using hL) fun t g => XS.iinc X.here hx rfl hd (arr_get hx1) g1 g
    · cases h
  | iadd =>
    have hl : len = 1 := hl; subst hl
    dsimp only [stp] at h
    split at h
    · rename_i y x S'
      obtain rfl := Option.some.inj h
      exact go_same X r N hk hn hL fun t g => XS.iadd X.here hx rfl hd rfl g
    · cases h
  | isub =>
    have hl : len = 1 := hl; subst hl
    dsimp only [stp] at h
    split at h
    · rename_i y x S'
      obtain rfl := Option.some.inj h
      exact go_same X r N hk hn hL fun t g => XS.isub X.here hx rfl hd rfl g
    · cases h
  | imul =>
    have hl : len = 1 := hl; subst hl
    dsimp only [stp] at h
    split at h
    · rename_i y x S'
      obtain rfl := Option.some.inj h
      exact go_same X r N hk hn hL fun t g => XS.imul X.here hx rfl hd rfl g
    · cases h
  | iand =>
    have hl : len = 1 := hl; subst hl
    dsimp only [stp] at h
    split at h
    · rename_i y x S'
      obtain rfl := Option.some.inj h
      exact go_same X r N hk hn hL fun t g => XS.iand X.here hx rfl hd rfl g
    · cases h
  | ior =>
    have hl : len = 1 := hl; subst hl
    dsimp only [stp] at h
    split at h
    · rename_i y x S'
      obtain rfl := Option.some.inj h
      exact go_same X r N hk hn hL fun t g => XT.ior X.here hx rfl hd rfl g
    · cases h
  | ixor =>
    have hl : len = 1 := hl; subst hl
    dsimp only [stp] at h
    split at h
    · rename_i y x S'
      obtain rfl := Option.some.inj h
      exact go_same X r N hk hn hL fun t g => XT.ixor X.here hx rfl hd rfl g
    · cases h
  | ishl =>
    have hl : len = 1 := hl; subst hl
    dsimp only [stp] at h
    split at h
    · rename_i y x S'
      obtain rfl := Option.some.inj h
      exact go_same X r N hk hn hL fun t g => XT.ishl X.here hx rfl hd rfl g
    · cases h
  | ishr =>
    have hl : len = 1 := hl; subst hl
    dsimp only [stp] at h
    split at h
    · rename_i y x S'
      obtain rfl := Option.some.inj h
      exact go_same X r N hk hn hL fun t g => XT.ishr X.here hx rfl hd rfl g
    · cases h
  | iushr =>
    have hl : len = 1 := hl; subst hl
    dsimp only [stp] at h
    split at h
    · rename_i y x S'
      obtain rfl := Option.some.inj h
      exact go_same X r N hk hn hL fun t g => XT.iushr X.here hx rfl hd rfl g
    · cases h
  | ladd =>
    have hl : len = 1 := hl; subst hl
    dsimp only [stp] at h
    split at h
    · rename_i y x S'
      obtain rfl := Option.some.inj h
      exact go_same X r N hk hn hL fun t g => XT.ladd X.here hx rfl hd rfl g
    · cases h
  | lsub =>
    have hl : len = 1 := hl; subst hl
    dsimp only [stp] at h
    split at h
    · rename_i y x S'
      obtain rfl := Option.some.inj h
      exact go_same X r N hk hn hL fun t g => XT.lsub X.here hx rfl hd rfl g
    · cases h
  | lmul =>
    have hl : len = 1 := hl; subst hl
    dsimp only [stp] at h
    split at h
    · rename_i y x S'
      obtain rfl := Option.some.inj h
      exact go_same X r N hk hn hL fun t g => XT.lmul X.here hx rfl hd rfl g
    · cases h
  | land =>
    have hl : len = 1 := hl; subst hl
    dsimp only [stp] at h
    split at h
    · rename_i y x S'
      obtain rfl := Option.some.inj h
      exact go_same X r N hk hn hL fun t g => XT.land X.here hx rfl hd rfl g
    · cases h
  | lor =>
    have hl : len = 1 := hl; subst hl
    dsimp only [stp] at h
    split at h
    · rename_i y x S'
      obtain rfl := Option.some.inj h
      exact go_same X r N hk hn hL fun t g => XT.lor X.here hx rfl hd rfl g
    · cases h
  | lxor =>
    have hl : len = 1 := hl; subst hl
    dsimp only [stp] at h
    split at h
    · rename_i y x S'
      obtain rfl := Option.some.inj h
      exact go_same X r N hk hn hL fun t g => XT.lxor X.here hx rfl hd rfl g
    · cases h
  | lshl =>
    have hl : len = 1 := hl; subst hl
    dsimp only [stp] at h
    split at h
    · rename_i y x S'
      obtain rfl := Option.some.inj h
      exact go_same X r N hk hn hL fun t g => XT.lshl X.here hx rfl hd rfl g
    · cases h
  | lshr =>
    have hl : len = 1 := hl; subst hl
    dsimp only [stp] at h
    split at h
    · rename_i y x S'
      obtain rfl := Option.some.inj h
      exact go_same X r N hk hn hL fun t g => XT.lshr X.here hx rfl hd rfl g
    · cases h
  | lushr =>
    have hl : len = 1 := hl; subst hl
    dsimp only [stp] at h
    split at h
    · rename_i y x S'
      obtain rfl := Option.some.inj h
      exact go_same X r N hk hn hL fun t g => XT.lushr X.here hx rfl hd rfl g
    · cases h
  | idiv =>
    have hl : len = 1 := hl; subst hl
    dsimp only [stp] at h
    split at h
    · rename_i y x S'
      split at h
      · cases h
      · rename_i g0
        obtain rfl := Option.some.inj h
        exact go_same X r N hk hn hL fun t g => XS.idiv X.here hx rfl hd rfl g0 g
    · cases h
  | irem =>
    have hl : len = 1 := hl; subst hl
    dsimp only [stp] at h
    split at h
    · rename_i y x S'
      split at h
      · cases h
      · rename_i g0
        obtain rfl := Option.some.inj h
        exact go_same X r N hk hn hL fun t g => iremM X hx rfl hd rfl g0 g
    · cases h
  | ldiv =>
    have hl : len = 1 := hl; subst hl
    dsimp only [stp] at h
    split at h
    · rename_i y x S'
      split at h
      · cases h
      · rename_i g0
        obtain rfl := Option.some.inj h
        exact go_same X r N hk hn hL fun t g => XT.ldiv X.here hx rfl hd rfl g0 g
    · cases h
  | lrem =>
    have hl : len = 1 := hl; subst hl
    dsimp only [stp] at h
    split at h
    · rename_i y x S'
      split at h
      · cases h
      · rename_i g0
        obtain rfl := Option.some.inj h
        exact go_same X r N hk hn hL fun t g => XT.lrem X.here hx rfl hd rfl g0 (by rw [lrem_mod]; exact g)
    · cases h
  | ineg =>
    have hl : len = 1 := hl; subst hl
    dsimp only [stp] at h
    split at h
    · rename_i x S'
      obtain rfl := Option.some.inj h
      exact go_same X r N hk hn hL fun t g => XS.ineg X.here hx rfl hd rfl g
    · cases h
  | lneg =>
    have hl : len = 1 := hl; subst hl
    dsimp only [stp] at h
    split at h
    · rename_i x S'
      obtain rfl := Option.some.inj h
      exact go_same X r N hk hn hL fun t g => XT.lneg X.here hx rfl hd rfl g
    · cases h
  | i2l =>
    have hl : len = 1 := hl; subst hl
    dsimp only [stp] at h
    split at h
    · rename_i x S'
      obtain rfl := Option.some.inj h
      exact go_same X r N hk hn hL fun t g => XT.i2l X.here hx rfl hd rfl g
    · cases h
  | l2i =>
    have hl : len = 1 := hl; subst hl
    dsimp only [stp] at h
    split at h
    · rename_i x S'
      obtain rfl := Option.some.inj h
      exact go_same X r N hk hn hL fun t g => XT.l2i X.here hx rfl hd rfl g
    · cases h
  | i2b =>
    have hl : len = 1 := hl; subst hl
    dsimp only [stp] at h
    split at h
    · rename_i x S'
      obtain rfl := Option.some.inj h
      exact go_same X r N hk hn hL fun t g => XT.i2b X.here hx rfl hd rfl g
    · cases h
  | lcmp =>
    have hl : len = 1 := hl; subst hl
    dsimp only [stp] at h
    split at h
    · rename_i y x S'
      obtain rfl := Option.some.inj h
      exact go_same X r N hk hn hL fun t g => XT.lcmp X.here hx rfl hd rfl g
    · cases h
  | dup =>
    have hl : len = 1 := hl; subst hl
    dsimp only [stp] at h
    split at h
    · rename_i v S'
      split at h
      · rename_i g0
        obtain rfl := Option.some.inj h
        exact go_same X r N hk hn hL fun t g => XS.dup X.here hx rfl hd rfl g0 g
      · cases h
    · cases h
  | pop =>
    have hl : len = 1 := hl; subst hl
    dsimp only [stp] at h
    split at h
    · rename_i v S'
      split at h
      · rename_i g0
        obtain rfl := Option.some.inj h
        exact go_same X r N hk hn hL fun t g => XT.pop X.here hx rfl hd rfl g0 g
      · cases h
    · cases h
  | dup2 =>
    have hl : len = 1 := hl; subst hl
    dsimp only [stp] at h
    split at h
    · rename_i x S'
      obtain rfl := Option.some.inj h
      exact go_same X r N hk hn hL fun t g => XT.dup2L X.here hx rfl hd rfl g
    · rename_i v w S' _
      split at h
      · rename_i g0
        obtain rfl := Option.some.inj h
        exact go_same X r N hk hn hL fun t g => XT.dup2 X.here hx rfl hd rfl g0.1 g0.2 g
      · cases h
    · cases h
  | goto o =>
    have hl : len = 3 := hl; subst hl
    obtain ⟨v, hv, rfl⟩ := Option.map_eq_some_iff.mp h
    obtain ⟨g1, g2⟩ := jmp_ok hv
    exact go_same X r N hk hn hL fun t g => XS.goto X.here hx rfl rfl hd g1 g2 g
  | ifCond cd o =>
    have hl : len = 3 := hl; subst hl
    dsimp only [stp] at h
    split at h
    · rename_i x S'
      split at h
      · rename_i g0
        obtain ⟨v, hv, rfl⟩ := Option.map_eq_some_iff.mp h
        obtain ⟨g1, g2⟩ := jmp_ok hv
        exact go_same X r N hk hn hL fun t g => XS.ifYes X.here hx rfl rfl hd rfl g0 g1 g2 g
      · rename_i g0
        obtain rfl := Option.some.inj h
        exact go_same X r N hk hn hL fun t g => XS.ifNo X.here hx rfl hd rfl (by simpa using g0) g
    · cases h
  | if_icmp cd o =>
    have hl : len = 3 := hl; subst hl
    dsimp only [stp] at h
    split at h
    · rename_i y x S'
      split at h
      · rename_i g0
        obtain ⟨v, hv, rfl⟩ := Option.map_eq_some_iff.mp h
        obtain ⟨g1, g2⟩ := jmp_ok hv
        exact go_same X r N hk hn hL fun t g => XS.icmpYes X.here hx rfl rfl hd rfl g0 g1 g2 g
      · rename_i g0
        obtain rfl := Option.some.inj h
        exact go_same X r N hk hn hL fun t g => XS.icmpNo X.here hx rfl hd rfl (by simpa using g0) g
    · cases h
  | tableswitch d lo hi os =>
    dsimp only [stp] at h
    split at h
    · rename_i x S'
      split at h
      · rename_i g0
        obtain ⟨v, hv, rfl⟩ := Option.map_eq_some_iff.mp h
        obtain ⟨g1, g2⟩ := jmp_ok hv
        exact go_same X r N hk hn hL fun t g => XS.tswOut X.here hx rfl rfl hd rfl g0 g1 g2 g
      · rename_i g0
        obtain ⟨o, ho1, h⟩ := Option.bind_eq_some_iff.mp h
        obtain ⟨v, hv, rfl⟩ := Option.map_eq_some_iff.mp h
        obtain ⟨g1, g2⟩ := jmp_ok hv
        exact go_same X r N hk hn hL fun t g => XS.tswIn X.here hx rfl rfl hd rfl g0 ho1 g1 g2 g
    · cases h
  | getfield i =>
    have hl : len = 3 := hl; subst hl
    dsimp only [stp] at h
    split at h
    · rename_i a S'
      split at h
      · rename_i g0
        obtain rfl := Option.some.inj h
        obtain ⟨T1, X1, e1, st1⟩ := getF X hx hZ hown (host := "") (Or.inl (hw _ ho.2)) Via.refl rfl ((r.obj g0).2 _ ho.1) (g := mkF mid pc L.toArray (.ref a :: S')) rfl rfl hd
        exact go_heap X1 r e1 N hk hn hL fun t g => st1 t g
      · cases h
    · cases h
  | putfield i =>
    have hl : len = 3 := hl; subst hl
    dsimp only [stp] at h
    split at h
    · rename_i v a S'
      split at h
      · rename_i g0
        obtain rfl := Option.some.inj h
        obtain ⟨o1, o2, o3⟩ := ho
        obtain ⟨w1, w2⟩ := isOw_ok g0.1
        obtain ⟨n1, n2⟩ := okv_ok g0.2
        have hlay : (Jvm.Cond.lays C C (fn aux.toNat).1 (fn aux.toNat).2).before a0 Z = true ∨ ((Jvm.Cond.laysFinal C C (fn aux.toNat).1 (fn aux.toNat).2).before a0 Z = true ∧ (nm m).cls = C ∧ meth.name = "<init>") := by
          rcases o3 with q | ⟨q1, q2⟩
          · exact Or.inl (hw _ q)
          · rcases (hG.2.2.1 _ o1).2 with q | q
            · exact Or.inl (hw _ q)
            · exact Or.inr ⟨hw _ q, q1, hnm.trans q2⟩
        obtain ⟨T1, h1, X1, e1, W1, st1⟩ := putF X hx hZ hown (host := "") (Or.inl (hw _ o2)) Via.refl rfl ((r.obj w1).2 _ o1) (r.obj w1).1 hlay (hw _ hG.1) (hG.2.2.1 _ o1).1 n1 n2 (g := mkF mid pc L.toArray (v :: .ref a :: S')) rfl rfl hd
        exact ⟨T1, _, X1, by rw [e1]; exact r.wrF hG hw w1 o1 W1, Fr.snoc X1 N (r.own w2), hk, hn, hL, st1⟩
      · cases h
    · cases h
  | iaload =>
    have hl : len = 1 := hl; subst hl
    dsimp only [stp] at h
    split at h
    · rename_i i a S'
      split at h
      · rename_i g0
        obtain rfl := Option.some.inj h
        obtain ⟨w1, w2, w3⟩ := inA_ok g0
        obtain ⟨b1, cl, b2, b3, b4⟩ := r.arr w1
        exact go_same X r N hk hn hL fun t g => X.iaload hx (g := mkF mid pc L.toArray (.int i :: .ref a :: S')) b2.1 (State.isArrayOf_alike hZ.alike b2.2.1) b2.2.2 (by rw [b3]; exact idx_not w2 w3) (b4 _ w3) rfl rfl hd t g
      · cases h
    · cases h
  | laload =>
    have hl : len = 1 := hl; subst hl
    dsimp only [stp] at h
    split at h
    · rename_i i a S'
      split at h
      · rename_i g0
        obtain rfl := Option.some.inj h
        obtain ⟨w1, w2, w3⟩ := inA_ok g0
        obtain ⟨b1, cl, b2, b3, b4⟩ := r.arr w1
        exact go_same X r N hk hn hL fun t g => X.laload hx (g := mkF mid pc L.toArray (.int i :: .ref a :: S')) b2.1 (State.isArrayOf_alike hZ.alike b2.2.1) b2.2.2 (by rw [b3]; exact idx_not w2 w3) (b4 _ w3) rfl rfl hd t g
      · cases h
    · cases h
  | baload =>
    have hl : len = 1 := hl; subst hl
    dsimp only [stp] at h
    split at h
    · rename_i i a S'
      split at h
      · rename_i g0
        obtain rfl := Option.some.inj h
        rcases g0 with g0 | g0
        · obtain ⟨w1, w2, w3⟩ := inA_ok g0
          obtain ⟨b1, cl, b2, b3, b4⟩ := r.arr w1
          exact go_same X r N hk hn hL fun t g => X.baloadBytes hx (g := mkF mid pc L.toArray (.int i :: .ref a :: S')) b2.1 (State.isArrayOf_alike hZ.alike b2.2.1) b2.2.2 (by rw [b3]; exact idx_not w2 w3) (b4 _ w3) rfl rfl hd t g
        · obtain ⟨w1, w2, w3⟩ := inA_ok g0
          obtain ⟨b1, cl, b2, b3, b4⟩ := r.arr w1
          exact go_same X r N hk hn hL fun t g => X.baloadBooleans hx (g := mkF mid pc L.toArray (.int i :: .ref a :: S')) b2.1 (State.isArrayOf_alike hZ.alike b2.2.1) b2.2.2 (by rw [b3]; exact idx_not w2 w3) (b4 _ w3) rfl rfl hd t g
      · cases h
    · cases h
  | iastore =>
    have hl : len = 1 := hl; subst hl
    dsimp only [stp] at h
    split at h
    · rename_i x i a S'
      split at h
      · rename_i g0
        obtain rfl := Option.some.inj h
        obtain ⟨g1, g2⟩ := inAw_ok g0
        obtain ⟨w1, w2, w3⟩ := inA_ok g1
        obtain ⟨b1, cl, b2, b3, b4⟩ := r.arr w1
        obtain ⟨T1, h1, X1, e1, W1, st1⟩ := stI X hx hZ rfl b2 (j := i) (x := x) (by rw [b3]; exact idx_not w2 w3) (g := mkF mid pc L.toArray (.int x :: .int i :: .ref a :: S')) rfl rfl hd
        exact ⟨T1, _, X1, by rw [e1]; exact r.wrA w1 w3 W1, Fr.snoc X1 N (r.own g2), hk, hn, hL, st1⟩
      · cases h
    · cases h
  | lastore =>
    have hl : len = 1 := hl; subst hl
    dsimp only [stp] at h
    split at h
    · rename_i x i a S'
      split at h
      · rename_i g0
        obtain rfl := Option.some.inj h
        obtain ⟨g1, g2⟩ := inAw_ok g0
        obtain ⟨w1, w2, w3⟩ := inA_ok g1
        obtain ⟨b1, cl, b2, b3, b4⟩ := r.arr w1
        obtain ⟨T1, h1, X1, e1, W1, st1⟩ := stJ X hx hZ rfl b2 (j := i) (x := x) (by rw [b3]; exact idx_not w2 w3) (g := mkF mid pc L.toArray (.long x :: .int i :: .ref a :: S')) rfl rfl hd
        exact ⟨T1, _, X1, by rw [e1]; exact r.wrA w1 w3 W1, Fr.snoc X1 N (r.own g2), hk, hn, hL, st1⟩
      · cases h
    · cases h
  | bastore =>
    have hl : len = 1 := hl; subst hl
    dsimp only [stp] at h
    split at h
    · rename_i x i a S'
      split at h
      · rename_i g0
        obtain rfl := Option.some.inj h
        rcases g0 with ⟨g0, gx⟩ | ⟨g0, gx⟩
        · obtain ⟨g1, g2⟩ := inAw_ok g0
          obtain ⟨w1, w2, w3⟩ := inA_ok g1
          obtain ⟨b1, cl, b2, b3, b4⟩ := r.arr w1
          have hx2 : nar .byte x = x := Value.int.inj (okv_ok gx).1
          obtain ⟨T1, h1, X1, e1, W1, st1⟩ := stB X hx hZ rfl b2 (j := i) (x := x) (by rw [b3]; exact idx_not w2 w3) (g := mkF mid pc L.toArray (.int x :: .int i :: .ref a :: S')) rfl rfl hd
          rw [hx2] at W1
          exact ⟨T1, _, X1, by rw [e1]; exact r.wrA w1 w3 W1, Fr.snoc X1 N (r.own g2), hk, hn, hL, st1⟩
        · obtain ⟨g1, g2⟩ := inAw_ok g0
          obtain ⟨w1, w2, w3⟩ := inA_ok g1
          obtain ⟨b1, cl, b2, b3, b4⟩ := r.arr w1
          have hx2 : nar .boolean x = x := Value.int.inj (okv_ok gx).1
          obtain ⟨T1, h1, X1, e1, W1, st1⟩ := stZ X hx hZ rfl b2 (j := i) (x := x) (by rw [b3]; exact idx_not w2 w3) (g := mkF mid pc L.toArray (.int x :: .int i :: .ref a :: S')) rfl rfl hd
          rw [hx2] at W1
          exact ⟨T1, _, X1, by rw [e1]; exact r.wrA w1 w3 W1, Fr.snoc X1 N (r.own g2), hk, hn, hL, st1⟩
      · cases h
    · cases h
  | arraylength =>
    have hl : len = 1 := hl; subst hl
    dsimp only [stp] at h
    split at h
    · rename_i a S'
      split at h
      · rename_i g0
        obtain rfl := Option.some.inj h
        obtain ⟨t0, w1⟩ : ∃ t0, (H.2 a).1 = .array t0 := by unfold isA at g0; cases hq : (H.2 a).1 <;> rw [hq] at g0 <;> first | (cases g0; done) | exact ⟨_, rfl⟩
        obtain ⟨b1, cl, b2, b3, b4⟩ := r.arr w1
        refine go_same X r N hk hn hL fun t g => X.arraylength hx (g := mkF mid pc L.toArray (.ref a :: S')) b2.1 (State.isArrayOf_alike hZ.alike b2.2.1) rfl rfl hd t ?_
        rw [b3]; exact g
      · cases h
    · cases h
  | newarray t =>
    have hl : len = 2 := hl; subst hl
    dsimp only [stp] at h
    split at h
    · rename_i cnt S'
      split at h
      · rename_i g0
        obtain rfl := Option.some.inj h
        obtain ⟨z1, z2, z3, z4⟩ := g0
        have hcb : componentBytes (newarray.typeOf t) ≤ 8 := by cases t <;> decide
        obtain ⟨cA, kA, comp, h1, h2, h3, X1, st1⟩ := X.newarrayPrim hx (mvA hZ (hw _ ho)) (g := mkF mid pc L.toArray (.int cnt :: S')) rfl hd rfl z1 (Nat.le_trans (Nat.mul_le_mul_left _ hcb) z2) z3 z4
        refine ⟨_, locs, X1, ?_, N, z3, z4, hL, fun t g => st1 t (by rw [r.1]; exact g)⟩
        exact r.ext (ext_push _ _) (by show (T.heap.push _).size = _; simp) ⟨fun _ => by rw [r.1]; exact r.2.1, (back32 z1).2, _, made_arr hZ h1 h2 h3, by simp, fun i hi => by simp [hi]⟩
      · cases h
    · cases h
  | new i =>
    have hl : len = 3 := hl; subst hl
    dsimp only [stp] at h
    split at h
    · rename_i g0
      obtain rfl := Option.some.inj h
      obtain ⟨z1, z2, z3⟩ := g0
      rw [ho.1] at z3 ⊢
      obtain ⟨vm1, cC, kC, h1, h2, h3, h4, X1, st1⟩ := X.newCold hx hown (mv hZ (hw _ ho.2)) (mv hZ (hw _ hG.1)) (mv hZ (hw _ hG.2.1)) (g := mkF mid pc L.toArray S) rfl hd z2 z3
      obtain ⟨A1, D1⟩ := made_obj (h := T.heap) (a0 := a0) hZ h1 h2
      refine ⟨_, locs, X1, ?_, N, z2, z3, hL, fun t g => st1 t (by rw [r.1]; exact g)⟩
      exact r.ext (ext_push _ _) (by show (T.heap.push _).size = _; simp) ⟨fun _ => by rw [r.1]; exact r.2.1, A1, fun j hj => D1 (((hG.2.2.1 j hj).2).imp (hw _) (hw _)) (hG.2.2.1 j hj).1⟩
    · cases h
  | invokespecial i =>
    have hl : len = 3 := hl; subst hl
    dsimp only [stp] at h
    split at h
    · rename_i a S'
      split at h
      · rename_i g0
        obtain rfl := Option.some.inj h
        obtain ⟨rfl, z2, z3⟩ := g0
        obtain ⟨o1, o2, o3⟩ := ho.1 rfl
        obtain ⟨T1, X1, e1, st1⟩ := initO X hx hZ hown (hw _ o1) (hw _ o2) (hw _ o3) rfl (g := mkF mid pc L.toArray (.ref a :: S')) rfl (by rw [hml, ← hL]; simp) rfl hd z2 (W := cs S') (by show 2 * 0 + _ ≤ _; exact Nat.le_of_eq (Nat.zero_add _)) z3
        exact go_heap X1 r e1 N hk hn hL fun t g => st1 t g
      · cases h
    · cases h
  | _ => exact absurd (show (none : Option Fm) = some q from h) (by simp)
end Step
end Jvm.JX

namespace Jvm.JX
open Sem ClassFile Op Lib Jvm.Stand Jvm.Free Jvm.LawKit Jvm.RoadKit
section Sound
variable {P : Prog} {tb : List Jvm.Cond} {C : String} {fn : Nat → String × String} {F : List Nat} {nsl : Nat} {nm : Nat → MethodName} {bt : Nat → ByteArray} {R : List Nat} {top : Nat}
variable {l : Launch} {Z : State} {a0 : Array Value} {n0 : Nat}
def Endd (C : String) (fn : Nat → String × String) (F : List Nat) (Z : State) (n0 : Nat) (p : Program) (l : Launch) (e : Env) (Rm : Jvm.Room) (s : State) (mid : MethodId) (args : Array Value) (below : List Frame) (meth : Method) (c : Code) (rt0 : Option FieldType) (start : State) (v : Option Value) (H' : AH) : Prop :=
  ∃ T' locs' k' n', Stand p l e Rm s mid args below meth c T' locs' k' n' ∧ RelH C fn F Z n0 T'.heap H' ∧ Fr n0 locs' ∧ k' ≤ Rm.cells ∧ n' ≤ Rm.slots ∧ (rt0 = none → v = none) ∧
    ∀ fs, (∀ (f : JFrame) (acts : List Action), f.method = mid → f.locked = none → f.entered = [] → (doReturn e (T'.setTop f) acts v).1 = T'.setFrames fs) → Steps p.tables e below start (T'.setFrames fs)
def Says (P : Prog) (C : String) (fn : Nat → String × String) (F : List Nat) (nm : Nat → MethodName) (bt : Nat → ByteArray) (l : Launch) (Z : State) (n0 m pc : Nat) (L : List Slot) (S : List Value) (k n : Nat) (H : AH) (v : Option Value) (H' : AH) : Prop :=
  ∀ (p : Program) (e : Env) (s : State) (mid : MethodId) (args : Array Value) (below : List Frame) (meth : Method) (c : Code) (T : State) (locs : List Loc), Stand p l e (rm P m) s mid args below meth c T locs k n → p.tables.exec = Jvm.exec → Z.Warmed39 s.vm → c.code = bt m → c.maxLocals = ml P m →
    s.vm.findClass (nm m).cls = some mid.cls → meth.name = (nm m).name → meth.sig.returnType = rt P m → L.length = ml P m → RelH C fn F Z n0 T.heap H → Fr n0 locs → k ≤ (rm P m).cells → n ≤ (rm P m).slots →
    Endd C fn F Z n0 p l e (rm P m) s mid args below meth c (rt P m) (T.setTop (mkF mid pc L.toArray S)) v H'
theorem Endd.back {p : Program} {e : Env} {Rm : Jvm.Room} {s : State} {mid : MethodId} {args : Array Value} {below : List Frame} {meth : Method} {c : Code} {rt0 : Option FieldType} {start start' : State} {v : Option Value} {H' : AH}
    (h : Endd C fn F Z n0 p l e Rm s mid args below meth c rt0 start' v H') (st : ∀ t, Steps p.tables e below start' t → Steps p.tables e below start t) : Endd C fn F Z n0 p l e Rm s mid args below meth c rt0 start v H' := by
  obtain ⟨T', locs', k', n', h1, h2, h3, h4, h5, h6, h7⟩ := h
  exact ⟨T', locs', k', n', h1, h2, h3, h4, h5, h6, fun fs g => st _ (h7 fs g)⟩
theorem met_of {m : Nat} {as : List Value} {H H' : AH} {v : Option Value} {h : Heap} (ws : List Jvm.Cond) (hp : plainName (nm m).cls = true) (hl : (Sym.laidSlots as).length ≤ ml P m) (r : RelH C fn F Z n0 h H)
    (hS : Says P C fn F nm bt l Z n0 m 0 (ent P m as) [] 0 0 H v H') :
    MetFree l (nm m) (head1 (Jvm.Cond.code (nm m) (bt m) (ml P m) (rt P m) :: ws) (rm P m)) (fun a U => a = as.toArray ∧ Z.Warmed39 U.vm ∧ U.heap = h) (fun _ _ _ _ _ => True)
      (fun _ U o U' => ∃ v' L, o = .returned v' ∧ (v' = v ∧ Fr n0 L ∧ RelH C fn F Z n0 U'.heap H') ∧ FrameEnd U o U' L (rm P m).cells (rm P m).slots) := by
  refine MetFree.of_bodySF (plainFor_of_name hp) hisR ?_
  intro p e s mid args below meth c s₁ Bd hml0 hP hK
  obtain ⟨rfl, hZ, hh⟩ := hP
  have X0 : Stand p l e (rm P m) s mid as.toArray below meth c s₁ [] 0 0 := Stand.of_body Bd
  have e0 : s₁.heap = h := by rw [← hh, Bd.state]; rfl
  have hle : (ent P m as).length = ml P m := by simp [ent]; omega
  obtain ⟨T', locs', k', n', X1, r1, N1, hk1, hn1, hv1, st1⟩ := hS p e s mid as.toArray below meth c s₁ [] X0 Bd.exec hZ Bd.bytes hml0 (findClass_of_methodNamed Bd.named) (name_of_methodNamed Bd.named Bd.method).1 Bd.returns hle (by rw [e0]; exact r) (Fr.nil n0) (Nat.zero_le _) (Nat.zero_le _)
  obtain ⟨fs, hr, hrun, hended, hW, hsame⟩ := X1.leave (v := v) (fun q => hv1 (Bd.returns.symm.trans q))
  refine ⟨_, _, (Jvm.Free.XT.entry (Ls := (ent P m as).toArray) (by simp [ent])).trans (st1 fs hr), hrun, hended, v, locs', rfl, ⟨rfl, N1, r1⟩, ⟨_, rfl⟩, hW, hsame.mono hk1 hn1⟩
theorem ret_ok {m : Nat} {ins : Instr} {S : List Value} {v : Option Value} (h : ret P m ins S = some v) : (rt P m = none ∧ v = none ∧ ins = .return_ ∧ S = []) ∨ ∃ t w rest, rt P m = some t ∧ v = some w ∧ S = w :: rest ∧ narrow t w = w ∧
    ((ins = .ireturn ∧ (t = .int ∨ t = .boolean ∨ t = .byte ∨ t = .char ∨ t = .short) ∧ ∃ z, w = .int z) ∨ (ins = .lreturn ∧ t = .long ∧ ∃ z, w = .long z)) := by
  unfold ret at h
  split at h
  · split at h
    · rename_i g; cases h; exact Or.inl ⟨g.1, rfl, rfl, g.2⟩
    · cases h
  · split at h
    · rename_i z rest g; cases h; exact Or.inr ⟨.int, _, rest, g, rfl, rfl, rfl, Or.inl ⟨rfl, Or.inl rfl, z, rfl⟩⟩
    · rename_i z rest g
      split at h
      · rename_i g0
        cases h
        refine Or.inr ⟨.boolean, _, rest, g, rfl, rfl, ?_, Or.inl ⟨rfl, Or.inr (Or.inl rfl), z, rfl⟩⟩
        rcases g0 with rfl | rfl <;> rfl
      · cases h
    · cases h
  · split at h
    · rename_i z rest g; cases h; exact Or.inr ⟨.long, _, rest, g, rfl, rfl, rfl, Or.inr ⟨rfl, rfl, z, rfl⟩⟩
    · cases h
  · cases h
theorem cal_ok {m m' k n : Nat} {ins : Instr} {aux : Int} {S a r : List Value} {H : AH} (h : cal P m ins aux S k n H = some (m', a, r)) : aux = (m' : Int) ∧ kindOk ins (kd P m') = true ∧ may P m m' a r k n H = true ∧ S = a.reverse ++ r := by
  have h1 : cal1 P m ins aux S k n H = some (m', a, r) := by
    unfold cal at h
    split at h <;> first | exact h | (cases h)
  unfold cal1 at h1
  split at h1
  · rename_i g
    cases h1
    exact ⟨by omega, g.2.1, g.2.2, by rw [List.reverse_reverse]; exact (List.take_append_drop ..).symm⟩
  · cases h1
end Sound
end Jvm.JX

namespace Jvm.JX
open Sem ClassFile Op Lib Jvm.Stand Jvm.Free Jvm.LawKit Jvm.RoadKit
section Sound
variable {P : Prog} {tb : List Jvm.Cond} {C : String} {fn : Nat → String × String} {F : List Nat} {nsl : Nat} {nm : Nat → MethodName} {bt : Nat → ByteArray} {R : List Nat} {top : Nat}
variable {l : Launch} {Z : State} {a0 : Array Value} {n0 : Nat}
theorem may_ok {m m' k n : Nat} {a r : List Value} {H : AH} (h : may P m m' a r k n H = true) : (Sym.laidSlots a).length ≤ ml P m' ∧ a.length = na P m' ∧ (rm P m').frames + 1 ≤ (rm P m).frames ∧ cs r + (ml P m' + 11) + (rm P m').locals ≤ (rm P m).locals ∧
    (((rm P m').cells = 0 ∧ (rm P m').slots = 0) ∨ (k + (rm P m').cells ≤ (rm P m).cells ∧ n + (rm P m').slots ≤ (rm P m).slots)) ∧ (kd P m' = 0 ∨ rcv H a = true) := by
  simpa [may, and_assoc] using h
theorem rcv_ok {H : AH} {a : List Value} (h : rcv H a = true) : ∃ b as, a = .ref b :: as ∧ isO H b = true := by
  unfold rcv at h
  split at h
  · exact ⟨_, _, rfl, h⟩
  · cases h
set_option maxHeartbeats 1000000 in
theorem call_go {m pc len k n m' : Nat} {aux : Int} {L : List Slot} {S a r : List Value} {H H1 : AH} {ins : Instr} {v1 : Option Value} {p : Program} {e : Env} {s : State} {mid : MethodId} {args : Array Value} {below : List Frame} {meth : Method} {c : Code} {T : State} {locs : List Loc}
    (hG : Good P tb C fn F nsl nm bt R top) (hw : ∀ d ∈ tb, d.before a0 Z = true) (hm : m ∈ R) (hrow : P.1 m pc = some (ins, len, aux)) (hc : cal P m ins aux S k n H = some (m', a, r)) (hS : m' ∈ R → Says P C fn F nm bt l Z n0 m' 0 (ent P m' a) [] 0 0 H v1 H1)
    (X : Stand p l e (rm P m) s mid args below meth c T locs k n) (hx : p.tables.exec = Jvm.exec) (hZ : Z.Warmed39 s.vm)
    (hby : c.code = bt m) (hml : c.maxLocals = ml P m) (hown : s.vm.findClass (nm m).cls = some mid.cls) (hL : L.length = ml P m) (rr : RelH C fn F Z n0 T.heap H) (N : Fr n0 locs) (hk : k ≤ (rm P m).cells) (hn : n ≤ (rm P m).slots) :
    Go C fn F Z n0 p l e (rm P m) s mid args below meth c (T.setTop (mkF mid pc L.toArray S)) (ml P m) (pc + len, L, v1.toList ++ r, k + (rm P m').cells, n + (rm P m').slots, H1) := by
  obtain ⟨hd, hl, ho⟩ := (hG.2.2.2.2.1 m hm).2.2 pc ins len aux hrow
  replace hd := hb hby hd
  obtain ⟨e1, e2, e3, e4⟩ := cal_ok hc
  obtain ⟨y1, y2, y3, y4, y5, y6⟩ := may_ok e3
  have hnt : m' ≠ top := fun q => by
    have := hG.2.2.2.2.2.2 m hm pc ins len aux hrow (by rw [e1, q])
    rw [q, this] at e2; cases e2
  have y5' : k + (rm P m').cells ≤ (rm P m).cells ∧ n + (rm P m').slots ≤ (rm P m).slots := by rcases y5 with ⟨q1, q2⟩ | q <;> omega
  have hsize : (mkF mid pc L.toArray S).locals.size = c.maxLocals := by rw [hml, ← hL]; simp
  have hcs : 2 * (mkF mid pc L.toArray S).monitorRoom + (r.map fun v => v.category).sum ≤ cs r := by show 2 * 0 + _ ≤ _; exact Nat.le_of_eq (Nat.zero_add _)
  subst e1
  cases ins with
  | invokevirtual ix =>
    have hl : len = 3 := hl
    subst hl
    obtain ⟨mR, lnk⟩ := ho
    rw [Int.toNat_natCast] at mR lnk
    obtain ⟨c1, c2, ⟨ps, rr0, c3, c4⟩, c5, c6, c7, c8, c9⟩ := hG.2.2.2.2.2.1 m' mR hnt
    have hk0 : kd P m' ≠ 0 := fun q => by rw [q] at e2; cases e2
    obtain ⟨hcls, hinst⟩ := c6 hk0
    obtain ⟨b, as, rfl, hb⟩ := rcv_ok (y6.resolve_left hk0)
    obtain ⟨Eb, -⟩ := rr.obj hb
    have hlen : as.length = ps.length := by rw [if_neg hk0] at c4; simp only [List.length_cons] at y2; omega
    have eS : S = as.reverse ++ .ref b :: r := by rw [e4]; simp
    subst eS
    obtain ⟨pn, hy, -⟩ := hG.2.2.2.2.1 m' mR
    have BK := backOf (Q := fun v' h' L' => v' = v1 ∧ Fr n0 L' ∧ RelH C fn F Z n0 h' H1) (R := rm P m) (W := cs r) (p := p) (e := e) (below := below) (s := s) (args := args) (len := 3) (met_of [] pn y1 rr (hS mR)) hZ (hw _ c1) (hw _ c2) y3 y4
    have hkk : kd P m' = 1 ∨ kd P m' = 2 := by simpa [kindOk] using e2
    rcases hkk with hkk | hkk
    · obtain ⟨d1, d2⟩ := c7 hkk
      obtain ⟨cB, kB, q1, q2, q3⟩ := isOf (T := T) hZ rfl Eb
      obtain ⟨v, vm1, ⟨T1, L1, k1, n1⟩, -, X1, ⟨Lc, hQ, l1, z1, z2⟩, st⟩ := X.virtualBack hx (y := nm m') (z := nm m') hown (mvT hZ (hw _ lnk)) (mvT hZ (hw _ d1)) (notFace_of_selects (args := #[]) (mvT hZ (hw _ d2))) (mvT hZ (hw _ d2)) (mvT hZ (hw _ hinst)) hy BK q1 q3 (g := mkF mid pc L.toArray (as.reverse ++ .ref b :: r)) rfl hsize (Steps.refl _) (argsL := as) (rest := r) (lenOf c3 hlen) rfl hcs hd (fun _ _ => ⟨rfl, rfl, y5'.1, y5'.2⟩)
      dsimp only [Pt.U, Pt.locs, Pt.cells, Pt.slots] at X1 l1 z1 z2 st hQ
      subst l1 z1 z2
      obtain ⟨rfl, N1, r1⟩ := hQ
      exact ⟨T1, _, X1, r1, Fr.app N N1, y5'.1, y5'.2, hL, fun t g => st.trans g⟩
    · obtain ⟨ci, ki, i1, i2, i3, i4, -⟩ := Cond.instantiable_spec (show (Jvm.Cond.instantiable C nsl).before args s = true from mv hZ (hw _ hG.1))
      have hni : ki.isInterface = false := (Bool.or_eq_false_iff.mp i4).1
      have hpriv := Cond.privateMethod_at (mvP hZ (hw _ (c8 hkk)) (args := #[]))
      have hsel : (Jvm.Cond.selects (nm m').cls (nm m') (nm m')).before args s = true := selects_self_of_private (by rw [hcls]; exact i1) i2 hni hpriv (mvT hZ (hw _ hinst)) hy
      obtain ⟨cl, hcl, hcl'⟩ := Eb.cell
      obtain ⟨v, vm1, ⟨T1, L1, k1, n1⟩, -, X1, ⟨Lc, hQ, l1, z1, z2⟩, st⟩ := X.privateBack hx (y := nm m') hown (mvT hZ (hw _ lnk)) (mvT hZ (hw _ hinst)) hsel hpriv (mvT hZ (hw _ c1)) hy BK (g := mkF mid pc L.toArray (as.reverse ++ .ref b :: r)) rfl hsize (Steps.refl _) (a := b) hcl hcl' (argsL := as) (rest := r) (lenOf c3 hlen) rfl hcs hd (fun _ _ => ⟨rfl, rfl, y5'.1, y5'.2⟩)
      dsimp only [Pt.U, Pt.locs, Pt.cells, Pt.slots] at X1 l1 z1 z2 st hQ
      subst l1 z1 z2
      obtain ⟨rfl, N1, r1⟩ := hQ
      exact ⟨T1, _, X1, r1, Fr.app N N1, y5'.1, y5'.2, hL, fun t g => st.trans g⟩
  | invokestatic ix =>
    have hl : len = 3 := hl
    subst hl
    obtain ⟨mR, lnk⟩ := ho
    rw [Int.toNat_natCast] at mR lnk
    obtain ⟨c1, c2, ⟨ps, rr0, c3, c4⟩, c5, c6, c7, c8, c9⟩ := hG.2.2.2.2.2.1 m' mR hnt
    have hk0 : kd P m' = 0 := by simpa [kindOk] using e2
    have hlen : a.length = ps.length := by rw [if_pos hk0] at c4; omega
    subst e4
    obtain ⟨pn, hy, -⟩ := hG.2.2.2.2.1 m' mR
    have BK := backOf (Q := fun v' h' L' => v' = v1 ∧ Fr n0 L' ∧ RelH C fn F Z n0 h' H1) (R := rm P m) (W := cs r) (p := p) (e := e) (below := below) (s := s) (args := args) (len := 3) (met_of [] pn y1 rr (hS mR)) hZ (hw _ c1) (hw _ c2) y3 y4
    obtain ⟨v, vm1, ⟨T1, L1, k1, n1⟩, -, X1, ⟨Lc, hQ, l1, z1, z2⟩, st⟩ := Jvm.LawKit.callS X hx (y := nm m') hown (mvT hZ (hw _ lnk)) (mvT hZ (hw _ (c5 hk0))) (mvT hZ (hw _ c2)) (mvT hZ (hw _ c1)) hy BK (g := mkF mid pc L.toArray (a.reverse ++ r)) rfl hsize (argsL := a) (rest := r) (lenOf c3 hlen) rfl hcs hd (fun _ _ => ⟨rfl, rfl, y5'.1, y5'.2⟩)
    dsimp only [Pt.U, Pt.locs, Pt.cells, Pt.slots] at X1 l1 z1 z2 st hQ
    subst l1 z1 z2
    obtain ⟨rfl, N1, r1⟩ := hQ
    exact ⟨T1, _, X1, r1, Fr.app N N1, y5'.1, y5'.2, hL, fun t g => st t g⟩
  | invokespecial ix =>
    have hl : len = 3 := hl
    subst hl
    obtain ⟨mR, lnk⟩ := ho.2 (by omega)
    rw [Int.toNat_natCast] at mR lnk
    obtain ⟨c1, c2, ⟨ps, rr0, c3, c4⟩, c5, c6, c7, c8, c9⟩ := hG.2.2.2.2.2.1 m' mR hnt
    have hk3 : kd P m' = 3 := by simpa [kindOk] using e2
    have hk0 : kd P m' ≠ 0 := by omega
    obtain ⟨hcls, hinst⟩ := c6 hk0
    obtain ⟨hn3, hr3⟩ := c9 hk3
    obtain ⟨b, as, rfl, hb⟩ := rcv_ok (y6.resolve_left hk0)
    have hlen : as.length = ps.length := by rw [if_neg hk0] at c4; simp only [List.length_cons] at y2; omega
    have eS : S = as.reverse ++ .ref b :: r := by rw [e4]; simp
    subst eS
    obtain ⟨pn, hy, -⟩ := hG.2.2.2.2.1 m' mR
    have BK := backOf (Q := fun v' h' L' => v' = v1 ∧ Fr n0 L' ∧ RelH C fn F Z n0 h' H1) (R := rm P m) (W := cs r) (p := p) (e := e) (below := below) (s := s) (args := args) (len := 3) (met_of [] pn y1 rr (hS mR)) hZ (hw _ c1) (hw _ c2) y3 y4
    rw [hr3] at c1
    obtain ⟨v, vm1, ⟨T1, L1, k1, n1⟩, -, X1, ⟨Lc, hQ, l1, z1, z2⟩, st⟩ := X.specialBack hx (y := nm m') hn3 hown (mvT hZ (hw _ lnk)) (mvT hZ (hw _ hinst)) (mvT hZ (hw _ c1)) hy BK (g := mkF mid pc L.toArray (as.reverse ++ .ref b :: r)) rfl hsize (Steps.refl _) (a := b) (argsL := as) (rest := r) (lenOf c3 hlen) rfl hcs hd (fun _ _ => ⟨rfl, rfl, y5'.1, y5'.2⟩)
    dsimp only [Pt.U, Pt.locs, Pt.cells, Pt.slots] at X1 l1 z1 z2 st hQ
    subst l1 z1 z2
    obtain ⟨rfl, N1, r1⟩ := hQ
    exact ⟨T1, _, X1, r1, Fr.app N N1, y5'.1, y5'.2, hL, fun t g => st.trans g⟩
  | _ => cases e2
theorem sound (hG : Good P tb C fn F nsl nm bt R top) (hw : ∀ d ∈ tb, d.before a0 Z = true) : ∀ (f m : Nat), m ∈ R → ∀ (pc : Nat) (L : List Slot) (S : List Value) (k n : Nat) (H : AH) (v : Option Value) (H' : AH), run P f m pc L S k n H = some (v, H') → Says P C fn F nm bt l Z n0 m pc L S k n H v H' := by
  intro f
  induction f with
  | zero => intro m _ pc L S k n H v H' h; cases h
  | succ f ih =>
    intro m hm pc L S k n H v H' h p e s mid args below meth c T locs X hx hZ hby hml hown hnm hret hL r N hk hn
    rw [run_succ] at h
    cases hd : P.1 m pc with
    | none => rw [hd] at h; cases h
    | some d =>
      obtain ⟨ins, len, aux⟩ := d
      rw [hd] at h
      simp only at h
      cases hr : ret P m ins S with
      | some v1 =>
        rw [hr] at h
        cases h
        obtain ⟨hdec, hl, -⟩ := (hG.2.2.2.2.1 m hm).2.2 pc ins len aux hd
        replace hdec := hb hby hdec
        rcases ret_ok hr with ⟨q1, rfl, rfl, q0⟩ | ⟨t, w, rest, q1, rfl, rfl, q4, q5⟩
        · have hl : len = 1 := hl
          subst hl
          exact ⟨T, locs, k, n, X, r, N, hk, hn, fun _ => rfl, fun fs g => by subst q0; exact X.returnOut hx (hret.trans q1) hdec g⟩
        · refine ⟨T, locs, k, n, X, r, N, hk, hn, fun q => absurd (q1.symm.trans q) (by simp), fun fs g => ?_⟩
          have hl1 : len = 1 := by
            rcases q5 with ⟨rfl, -⟩ | ⟨rfl, -⟩ <;> exact hl
          subst hl1
          exact retOut X hx (hret.trans q1) q4 (q5.elim (fun u => Or.inl u) (fun u => Or.inr (Or.inl u))) hdec g
      | none =>
        rw [hr] at h
        simp only at h
        cases hc : cal P m ins aux S k n H with
        | some cc =>
          obtain ⟨m', a, rs⟩ := cc
          rw [hc] at h
          simp only at h
          cases hq : run P f m' 0 (ent P m' a) [] 0 0 H with
          | none => rw [hq] at h; cases h
          | some q =>
            obtain ⟨v1, H1⟩ := q
            rw [hq] at h
            obtain ⟨T1, locs1, X1, r1, N1, hk1, hn1, hL1, st⟩ := call_go hG hw hm hd hc (fun mR => ih m' mR _ _ _ _ _ _ _ _ hq) X hx hZ hby hml hown hL r N hk hn
            exact (ih m hm _ _ _ _ _ _ _ _ h p e s mid args below meth c T1 locs1 X1 hx hZ hby hml hown hnm hret hL1 r1 N1 hk1 hn1).back st
        | none =>
          rw [hc] at h
          simp only at h
          cases hs : stp P m ins len aux pc L S k n H with
          | none => rw [hs] at h; cases h
          | some q =>
            rw [hs] at h
            obtain ⟨T1, locs1, X1, r1, N1, hk1, hn1, hL1, st⟩ := stp_go hG hw hm hd hs X hx hZ hby hml hown hnm hL r N hk hn
            exact (ih m hm _ _ _ _ _ _ _ _ h p e s mid args below meth c T1 locs1 X1 hx hZ hby hml hown hnm hret hL1 r1 N1 hk1 hn1).back st
theorem law_met (hG : Good P tb C fn F nsl nm bt R top) (hw : ∀ d ∈ tb, d.before a0 Z = true) {as : List Value} {H : AH} {h : Heap} {Q : Option Value → AH → Prop} (ws : List Jvm.Cond) (ht : top ∈ R) (hl : (Sym.laidSlots as).length ≤ ml P top) (r : RelH C fn F Z n0 h H) (hC : Cl P top as H Q) :
    MetFree l (nm top) (head1 (Jvm.Cond.code (nm top) (bt top) (ml P top) (rt P top) :: ws) (rm P top)) (fun a U => a = as.toArray ∧ Z.Warmed39 U.vm ∧ U.heap = h) (fun _ _ _ _ _ => True)
      (fun _ U o U' => ∃ v' L, o = .returned v' ∧ (Fr n0 L ∧ ∃ H', Q v' H') ∧ FrameEnd U o U' L (rm P top).cells (rm P top).slots) := by
  obtain ⟨f, v, H', h1, h2⟩ := hC
  have hM := met_of (l := l) (h := h) ws (hG.2.2.2.2.1 top ht).1 hl r (sound hG hw f top ht _ _ _ _ _ _ _ _ h1)
  intro p e ha hc hk s m args below hf happ hP hK
  obtain ⟨n, o, q1, q2, q3, v', L, q4, ⟨q5, q6, q7⟩, q8⟩ := hM p e ha hc hk s m args below hf happ hP hK
  exact ⟨n, o, q1, q2, q3, v', L, q4, ⟨q6, H', by rw [q5]; exact h2⟩, q8⟩
end Sound
end Jvm.JX
namespace Jvm.JX
open Sem ClassFile Op Lib Jvm.Stand Jvm.Free Jvm.LawKit Jvm.RoadKit
theorem fa0 {α : Type} {p : α → Prop} : ∀ x ∈ ([] : List α), p x := fun _ q => nomatch q
theorem faS {α : Type} {p : α → Prop} {y : α} {L : List α} (q : p y) (r : ∀ x ∈ L, p x) : ∀ x ∈ y :: L, p x := fun x z => (List.mem_cons.mp z).elim (fun u => u ▸ q) (r x)
def rowChk (FL ML : List (Nat × Nat × Nat)) (KI KJ : List (Nat × Nat × Int)) (AT : List FieldType) (WF : List Nat) (nsl nw : Nat) (own : Nat) (ini : Bool) (ins : Instr) (aux : Int) : Bool :=
  match ins with
  | .getfield i => FL.contains (own, i, aux.toNat)
  | .putfield i => FL.contains (own, i, aux.toNat) && (WF.contains aux.toNat || ini)
  | .new i => decide (aux.toNat = nsl) && decide (own = 1) && decide (i = nw)
  | .newarray t => decide (newarray.typeOf t ∈ AT)
  | .ldc i => KI.contains (own, i, aux)
  | .ldc2_w i => KJ.contains (own, i, aux)
  | .invokevirtual i => ML.contains (own, i, aux.toNat)
  | .invokestatic i => ML.contains (own, i, aux.toNat)
  | .invokespecial i => if aux = -1 then decide (own = 0) && decide (i = 1) else ML.contains (own, i, aux.toNat)
  | _ => true
def rowOne (FL ML : List (Nat × Nat × Nat)) (KI KJ : List (Nat × Nat × Int)) (AT : List FieldType) (WF : List Nat) (nsl nw : Nat) (bt : Nat → ByteArray) (own : Nat → Nat) (ini : Nat → Bool) (m : Nat) (r : Row) : Bool :=
  decide (decode (bt m) r.1 = .ok (r.2.1, r.2.2.1)) && decide (r.2.2.1 = ilen2 r.2.1 r.2.2.1) && rowChk FL ML KI KJ AT WF nsl nw (own m) (ini m) r.2.1 r.2.2.2
theorem all_td {α : Type} {p : α → Bool} {l : List α} (c : Nat) (h1 : (l.take c).all p = true) (h2 : (l.drop c).all p = true) : l.all p = true := by
  rw [← List.take_append_drop c l, List.all_append, h1, h2]; rfl
theorem all_c {α : Type} {p : α → Bool} {l : List α} {a : α} (h1 : p a = true) (h2 : l.all p = true) : (a :: l).all p = true := by
  rw [List.all_cons, h1, h2]; rfl
theorem all_n {α : Type} {p : α → Bool} : ([] : List α).all p = true := rfl
theorem lookup_mem {L : List Row} {pc : Nat} {d : Instr × Nat × Int} (h : L.lookup pc = some d) : (pc, d) ∈ L := by
  induction L with
  | nil => cases h
  | cons x L ih =>
    obtain ⟨k, v⟩ := x
    rw [List.lookup_cons] at h
    by_cases e : pc = k
    · subst e; simp at h; subst h; exact List.mem_cons_self ..
    · have : (pc == k) = false := by simpa using e
      rw [this] at h; exact List.mem_cons_of_mem _ (ih h)
theorem row_ok {P : Prog} {tb : List Jvm.Cond} {C : String} {fn : Nat → String × String} {F : List Nat} {nsl nw : Nat} {nm : Nat → MethodName} {R : List Nat} {cn : Nat → String} {own : Nat → Nat} {ini : Nat → Bool}
    {FL ML : List (Nat × Nat × Nat)} {KI KJ : List (Nat × Nat × Int)} {AT : List FieldType} {WF : List Nat} {m : Nat} {ins : Instr} {aux : Int}
    (hown : (nm m).cls = cn (own m)) (hini : ini m = true → (nm m).cls = C ∧ (nm m).name = "<init>")
    (hFL : ∀ t ∈ FL, t.2.2 ∈ F ∧ Jvm.Cond.fieldLink (cn t.1) t.2.1 C (fn t.2.2).1 (fn t.2.2).2 ∈ tb) (hWF : ∀ k ∈ WF, Jvm.Cond.lays C C (fn k).1 (fn k).2 ∈ tb)
    (hML : ∀ t ∈ ML, t.2.2 ∈ R ∧ Jvm.Cond.methodLink (cn t.1) t.2.1 (nm t.2.2) ∈ tb) (hKI : ∀ t ∈ KI, Jvm.Cond.constant (cn t.1) t.2.1 (Int32.ofInt t.2.2) ∈ tb) (hKJ : ∀ t ∈ KJ, Jvm.Cond.constantLong (cn t.1) t.2.1 (Int64.ofInt t.2.2) ∈ tb)
    (hAT : ∀ t ∈ AT, Jvm.Cond.arrayClass t ∈ tb) (hN : Jvm.Cond.classLink (cn 1) nw C ∈ tb)
    (hO : Jvm.Cond.methodLink (cn 0) 1 Lib.objectInit ∈ tb ∧ Jvm.Cond.instanceMethod Lib.objectInit ∈ tb ∧ Jvm.Cond.code Lib.objectInit ⟨#[0xb1]⟩ 1 none ∈ tb)
    (h : rowChk FL ML KI KJ AT WF nsl nw (own m) (ini m) ins aux = true) : RowOk P tb C fn F nsl nm R m ins aux := by
  cases ins <;> first | trivial | skip
  case getfield i => have q := hFL _ (List.contains_iff_mem.mp h); exact ⟨q.1, by rw [hown]; exact q.2⟩
  case putfield i =>
    simp only [rowChk, Bool.and_eq_true, Bool.or_eq_true] at h
    have q := hFL _ (List.contains_iff_mem.mp h.1)
    exact ⟨q.1, by rw [hown]; exact q.2, h.2.imp (fun u => hWF _ (List.contains_iff_mem.mp u)) hini⟩
  case new i =>
    simp only [rowChk, Bool.and_eq_true, decide_eq_true_eq] at h
    obtain ⟨⟨h1, h2⟩, h3⟩ := h
    exact ⟨h1, by rw [hown, h2, h3]; exact hN⟩
  case newarray t => exact hAT _ (of_decide_eq_true h)
  case ldc i => have q := hKI _ (List.contains_iff_mem.mp h); show _ ∈ tb; rw [hown]; exact q
  case ldc2_w i => have q := hKJ _ (List.contains_iff_mem.mp h); show _ ∈ tb; rw [hown]; exact q
  case invokevirtual i => have q := hML _ (List.contains_iff_mem.mp h); exact ⟨q.1, by rw [hown]; exact q.2⟩
  case invokestatic i => have q := hML _ (List.contains_iff_mem.mp h); exact ⟨q.1, by rw [hown]; exact q.2⟩
  case invokespecial i =>
    simp only [rowChk] at h
    refine ⟨fun e => ?_, fun e => ?_⟩
    · rw [if_pos e] at h
      simp only [Bool.and_eq_true, decide_eq_true_eq] at h
      rw [hown, h.1, h.2]; exact hO
    · rw [if_neg (by omega)] at h
      have q := hML _ (List.contains_iff_mem.mp h)
      exact ⟨q.1, by rw [hown]; exact q.2⟩
theorem rel_H0 {C : String} {fn : Nat → String × String} {F : List Nat} {Z : State} (h : Heap) : RelH C fn F Z h.size h (H0 h.size) := ⟨rfl, Nat.le_refl _, fun a => ⟨fun q => (by cases q), trivial⟩⟩
end Jvm.JX

namespace Jvm.JX.Pj
open Jvm Jvm.ClassFile Sem Op Lib Jvm.JX
def r1 : List Row := [(0, .aload_n 0, 1, 0), (1, .invokespecial 1, 3, (-1)), (4, .aload_n 0, 1, 0), (5, .sipush 576, 3, 0), (8, .newarray .boolean, 2, 0), (10, .putfield 7, 3, 2), (13, .aload_n 0, 1, 0), (14, .sipush 576, 3, 0), (17, .newarray .int, 2, 0), (19, .putfield 13, 3, 3), (22, .aload_n 0, 1, 0), (23, .bipush 24, 2, 0), (25, .newarray .int, 2, 0), (27, .putfield 17, 3, 8), (30, .aload_n 0, 1, 0), (31, .bipush 24, 2, 0), (33, .newarray .boolean, 2, 0), (35, .putfield 20, 3, 9), (38, .aload_n 0, 1, 0), (39, .bipush 24, 2, 0), (41, .newarray .long, 2, 0), (43, .putfield 23, 3, 10), (46, .aload_n 0, 1, 0), (47, .sipush 600, 3, 0), (50, .newarray .long, 2, 0), (52, .putfield 27, 3, 11), (55, .aload_n 0, 1, 0), (56, .sipush 576, 3, 0), (59, .newarray .boolean, 2, 0), (61, .putfield 30, 3, 12), (64, .aload_n 0, 1, 0), (65, .bipush 24, 2, 0), (67, .newarray .int, 2, 0), (69, .putfield 33, 3, 13), (72, .aload_n 0, 1, 0), (73, .bipush 24, 2, 0), (75, .newarray .int, 2, 0), (77, .putfield 36, 3, 14), (80, .aload_n 0, 1, 0), (81, .bipush 24, 2, 0), (83, .newarray .int, 2, 0), (85, .putfield 39, 3, 15), (88, .aload_n 0, 1, 0), (89, .ldc2_w 42, 3, 4000000000000000000), (92, .putfield 44, 3, 16), (95, .iload_n 1, 1, 0), (96, .istore_n 2, 1, 0), (97, .iload_n 2, 1, 0), (98, .iconst 1, 1, 0), (99, .if_icmp .ge 5, 3, 0), (102, .iconst 1, 1, 0), (103, .istore_n 2, 1, 0), (104, .iload_n 2, 1, 0), (105, .bipush 24, 2, 0), (107, .if_icmp .le 6, 3, 0), (110, .bipush 24, 2, 0), (112, .istore_n 2, 1, 0), (113, .aload_n 0, 1, 0), (114, .iload_n 2, 1, 0), (115, .putfield 48, 3, 0), (118, .return_, 1, 0)]
def r2 : List Row := [(0, .iload_n 1, 1, 0), (1, .ifCond .lt 15, 3, 0), (4, .iload_n 1, 1, 0), (5, .aload_n 0, 1, 0), (6, .getfield 48, 3, 0), (9, .if_icmp .ge 7, 3, 0), (12, .iconst 1, 1, 0), (13, .goto 4, 3, 0), (16, .iconst 0, 1, 0), (17, .ireturn, 1, 0)]
def r3 : List Row := [(0, .iload_n 1, 1, 0), (1, .sipush (-10000), 3, 0), (4, .if_icmp .lt 14, 3, 0), (7, .iload_n 1, 1, 0), (8, .sipush 10000, 3, 0), (11, .if_icmp .gt 7, 3, 0), (14, .iconst 1, 1, 0), (15, .goto 4, 3, 0), (18, .iconst 0, 1, 0), (19, .ireturn, 1, 0)]
def r4 : List Row := [(0, .aload_n 0, 1, 0), (1, .iconst 0, 1, 0), (2, .putfield 52, 3, 4), (5, .aload_n 0, 1, 0), (6, .iconst 0, 1, 0), (7, .putfield 56, 3, 5), (10, .return_, 1, 0)]
def r5 : List Row := [(0, .aload_n 0, 1, 0), (1, .iload_n 1, 1, 0), (2, .invokevirtual 59, 3, 2), (5, .ifCond .eq 11, 3, 0), (8, .aload_n 0, 1, 0), (9, .iload_n 2, 1, 0), (10, .invokevirtual 59, 3, 2), (13, .ifCond .ne 5, 3, 0), (16, .iconst 1, 1, 0), (17, .ireturn, 1, 0), (18, .aload_n 0, 1, 0), (19, .iload_n 3, 1, 0), (20, .invokevirtual 63, 3, 3), (23, .ifCond .ne 5, 3, 0), (26, .iconst 2, 1, 0), (27, .ireturn, 1, 0), (28, .iload_n 1, 1, 0), (29, .bipush 24, 2, 0), (31, .imul, 1, 0), (32, .iload_n 2, 1, 0), (33, .iadd, 1, 0), (34, .istore 4, 2, 0), (36, .aload_n 0, 1, 0), (37, .getfield 7, 3, 2), (40, .iload 4, 2, 0), (42, .baload, 1, 0), (43, .ifCond .eq 5, 3, 0), (46, .iconst 3, 1, 0), (47, .ireturn, 1, 0), (48, .aload_n 0, 1, 0), (49, .getfield 66, 3, 1), (52, .bipush 96, 2, 0), (54, .if_icmp .lt 5, 3, 0), (57, .iconst 5, 1, 0), (58, .ireturn, 1, 0), (59, .aload_n 0, 1, 0), (60, .getfield 7, 3, 2), (63, .iload 4, 2, 0), (65, .iconst 1, 1, 0), (66, .bastore, 1, 0), (67, .aload_n 0, 1, 0), (68, .getfield 13, 3, 3), (71, .iload 4, 2, 0), (73, .iload_n 3, 1, 0), (74, .iastore, 1, 0), (75, .aload_n 0, 1, 0), (76, .dup, 1, 0), (77, .getfield 66, 3, 1), (80, .iconst 1, 1, 0), (81, .iadd, 1, 0), (82, .putfield 66, 3, 1), (85, .aload_n 0, 1, 0), (86, .invokevirtual 69, 3, 4), (89, .iconst 0, 1, 0), (90, .ireturn, 1, 0)]
def r8 : List Row := [(0, .aload_n 0, 1, 0), (1, .iload_n 1, 1, 0), (2, .invokevirtual 59, 3, 2), (5, .ifCond .eq 29, 3, 0), (8, .aload_n 0, 1, 0), (9, .iload_n 2, 1, 0), (10, .invokevirtual 59, 3, 2), (13, .ifCond .eq 21, 3, 0), (16, .aload_n 0, 1, 0), (17, .getfield 7, 3, 2), (20, .iload_n 1, 1, 0), (21, .bipush 24, 2, 0), (23, .imul, 1, 0), (24, .iload_n 2, 1, 0), (25, .iadd, 1, 0), (26, .baload, 1, 0), (27, .ifCond .eq 7, 3, 0), (30, .iconst 1, 1, 0), (31, .goto 4, 3, 0), (34, .iconst 0, 1, 0), (35, .ireturn, 1, 0)]
def r12 : List Row := [(0, .aload_n 0, 1, 0), (1, .invokevirtual 76, 3, 13), (4, .aload_n 0, 1, 0), (5, .iconst 1, 1, 0), (6, .putfield 52, 3, 4), (9, .aload_n 0, 1, 0), (10, .invokevirtual 79, 3, 14), (13, .ifCond .ne 5, 3, 0), (16, .iconst 0, 1, 0), (17, .ireturn, 1, 0), (18, .aload_n 0, 1, 0), (19, .aload_n 0, 1, 0), (20, .getfield 83, 3, 18), (23, .aload_n 0, 1, 0), (24, .getfield 86, 3, 17), (27, .invokevirtual 89, 3, 17), (30, .aload_n 0, 1, 0), (31, .aload_n 0, 1, 0), (32, .getfield 83, 3, 18), (35, .aload_n 0, 1, 0), (36, .getfield 86, 3, 17), (39, .invokevirtual 93, 3, 18), (42, .aload_n 0, 1, 0), (43, .invokevirtual 96, 3, 19), (46, .iconst (-1), 1, 0), (47, .istore_n 1, 1, 0), (48, .iconst 0, 1, 0), (49, .istore_n 2, 1, 0), (50, .iload_n 2, 1, 0), (51, .aload_n 0, 1, 0), (52, .getfield 48, 3, 0), (55, .if_icmp .ge 48, 3, 0), (58, .aload_n 0, 1, 0), (59, .getfield 20, 3, 9), (62, .iload_n 2, 1, 0), (63, .aload_n 0, 1, 0), (64, .getfield 33, 3, 13), (67, .iload_n 2, 1, 0), (68, .iaload, 1, 0), (69, .iload_n 2, 1, 0), (70, .ishr, 1, 0), (71, .iconst 1, 1, 0), (72, .iand, 1, 0), (73, .ifCond .eq 7, 3, 0), (76, .iconst 1, 1, 0), (77, .goto 4, 3, 0), (80, .iconst 0, 1, 0), (81, .bastore, 1, 0), (82, .aload_n 0, 1, 0), (83, .getfield 20, 3, 9), (86, .iload_n 2, 1, 0), (87, .baload, 1, 0), (88, .ifCond .eq 9, 3, 0), (91, .iload_n 1, 1, 0), (92, .ifCond .ge 5, 3, 0), (95, .iload_n 2, 1, 0), (96, .istore_n 1, 1, 0), (97, .iinc 2 1, 3, 0), (100, .goto (-50), 3, 0), (103, .iload_n 1, 1, 0), (104, .ifCond .ge 5, 3, 0), (107, .iconst 0, 1, 0), (108, .istore_n 1, 1, 0), (109, .aload_n 0, 1, 0), (110, .iload_n 1, 1, 0), (111, .invokevirtual 99, 3, 20), (114, .aload_n 0, 1, 0), (115, .iload_n 1, 1, 0), (116, .invokevirtual 103, 3, 21), (119, .aload_n 0, 1, 0), (120, .aload_n 0, 1, 0), (121, .getfield 106, 3, 6), (124, .i2l, 1, 0), (125, .aload_n 0, 1, 0), (126, .getfield 109, 3, 7), (129, .invokevirtual 89, 3, 17), (132, .aload_n 0, 1, 0), (133, .iconst 1, 1, 0), (134, .putfield 56, 3, 5), (137, .iconst 1, 1, 0), (138, .ireturn, 1, 0)]
def r13 : List Row := [(0, .aload_n 0, 1, 0), (1, .iconst 0, 1, 0), (2, .putfield 56, 3, 5), (5, .aload_n 0, 1, 0), (6, .iconst 0, 1, 0), (7, .putfield 106, 3, 6), (10, .aload_n 0, 1, 0), (11, .lconst 0, 1, 0), (12, .putfield 109, 3, 7), (15, .iconst 0, 1, 0), (16, .istore_n 1, 1, 0), (17, .iload_n 1, 1, 0), (18, .bipush 24, 2, 0), (20, .if_icmp .ge 30, 3, 0), (23, .aload_n 0, 1, 0), (24, .getfield 17, 3, 8), (27, .iload_n 1, 1, 0), (28, .iconst (-1), 1, 0), (29, .iastore, 1, 0), (30, .aload_n 0, 1, 0), (31, .getfield 20, 3, 9), (34, .iload_n 1, 1, 0), (35, .iconst 0, 1, 0), (36, .bastore, 1, 0), (37, .aload_n 0, 1, 0), (38, .getfield 23, 3, 10), (41, .iload_n 1, 1, 0), (42, .lconst 0, 1, 0), (43, .lastore, 1, 0), (44, .iinc 1 1, 3, 0), (47, .goto (-30), 3, 0), (50, .return_, 1, 0)]
def r14 : List Row := [(0, .iconst 0, 1, 0), (1, .istore_n 1, 1, 0), (2, .iload_n 1, 1, 0), (3, .sipush 600, 3, 0), (6, .if_icmp .ge 19, 3, 0), (9, .aload_n 0, 1, 0), (10, .getfield 27, 3, 11), (13, .iload_n 1, 1, 0), (14, .aload_n 0, 1, 0), (15, .getfield 44, 3, 16), (18, .lastore, 1, 0), (19, .iinc 1 1, 3, 0), (22, .goto (-20), 3, 0), (25, .iconst 0, 1, 0), (26, .istore_n 1, 1, 0), (27, .iload_n 1, 1, 0), (28, .aload_n 0, 1, 0), (29, .getfield 48, 3, 0), (32, .if_icmp .ge 16, 3, 0), (35, .aload_n 0, 1, 0), (36, .getfield 27, 3, 11), (39, .iload_n 1, 1, 0), (40, .lconst 0, 1, 0), (41, .lastore, 1, 0), (42, .iinc 1 1, 3, 0), (45, .goto (-18), 3, 0), (48, .iconst 1, 1, 0), (49, .istore_n 1, 1, 0), (50, .iload_n 1, 1, 0), (51, .aload_n 0, 1, 0), (52, .getfield 48, 3, 0), (55, .if_icmp .gt 39, 3, 0), (58, .iconst 0, 1, 0), (59, .istore_n 2, 1, 0), (60, .iload_n 2, 1, 0), (61, .sipush 576, 3, 0), (64, .if_icmp .ge 24, 3, 0), (67, .aload_n 0, 1, 0), (68, .getfield 7, 3, 2), (71, .iload_n 2, 1, 0), (72, .baload, 1, 0), (73, .ifCond .eq 9, 3, 0), (76, .aload_n 0, 1, 0), (77, .iload_n 1, 1, 0), (78, .iload_n 2, 1, 0), (79, .invokevirtual 112, 3, 15), (82, .iinc 2 1, 3, 0), (85, .goto (-25), 3, 0), (88, .iinc 1 1, 3, 0), (91, .goto (-41), 3, 0), (94, .iconst 0, 1, 0), (95, .istore_n 1, 1, 0), (96, .iconst 0, 1, 0), (97, .istore_n 2, 1, 0), (98, .iload_n 2, 1, 0), (99, .aload_n 0, 1, 0), (100, .getfield 48, 3, 0), (103, .if_icmp .ge 80, 3, 0), (106, .aload_n 0, 1, 0), (107, .getfield 27, 3, 11), (110, .aload_n 0, 1, 0), (111, .getfield 48, 3, 0), (114, .bipush 24, 2, 0), (116, .imul, 1, 0), (117, .iload_n 2, 1, 0), (118, .iadd, 1, 0), (119, .laload, 1, 0), (120, .aload_n 0, 1, 0), (121, .getfield 44, 3, 16), (124, .lcmp, 1, 0), (125, .ifCond .eq 52, 3, 0), (128, .aload_n 0, 1, 0), (129, .iload_n 2, 1, 0), (130, .invokevirtual 116, 3, 16), (133, .iload_n 1, 1, 0), (134, .ifCond .eq 25, 3, 0), (137, .aload_n 0, 1, 0), (138, .getfield 119, 3, 19), (141, .aload_n 0, 1, 0), (142, .getfield 83, 3, 18), (145, .lmul, 1, 0), (146, .aload_n 0, 1, 0), (147, .getfield 86, 3, 17), (150, .aload_n 0, 1, 0), (151, .getfield 122, 3, 20), (154, .lmul, 1, 0), (155, .lcmp, 1, 0), (156, .ifCond .ge 21, 3, 0), (159, .aload_n 0, 1, 0), (160, .aload_n 0, 1, 0), (161, .getfield 119, 3, 19), (164, .putfield 86, 3, 17), (167, .aload_n 0, 1, 0), (168, .aload_n 0, 1, 0), (169, .getfield 122, 3, 20), (172, .putfield 83, 3, 18), (175, .iconst 1, 1, 0), (176, .istore_n 1, 1, 0), (177, .iinc 2 1, 3, 0), (180, .goto (-82), 3, 0), (183, .iload_n 1, 1, 0), (184, .ireturn, 1, 0)]
def r15 : List Row := [(0, .iload_n 2, 1, 0), (1, .bipush 24, 2, 0), (3, .idiv, 1, 0), (4, .istore_n 3, 1, 0), (5, .iload_n 2, 1, 0), (6, .bipush 24, 2, 0), (8, .irem, 1, 0), (9, .istore 4, 2, 0), (11, .aload_n 0, 1, 0), (12, .getfield 27, 3, 11), (15, .iload_n 1, 1, 0), (16, .iconst 1, 1, 0), (17, .isub, 1, 0), (18, .bipush 24, 2, 0), (20, .imul, 1, 0), (21, .iload_n 3, 1, 0), (22, .iadd, 1, 0), (23, .laload, 1, 0), (24, .lstore 5, 2, 0), (26, .lload 5, 2, 0), (28, .aload_n 0, 1, 0), (29, .getfield 44, 3, 16), (32, .lcmp, 1, 0), (33, .ifCond .ne 4, 3, 0), (36, .return_, 1, 0), (37, .lload 5, 2, 0), (39, .aload_n 0, 1, 0), (40, .getfield 13, 3, 3), (43, .iload_n 2, 1, 0), (44, .iaload, 1, 0), (45, .i2l, 1, 0), (46, .ladd, 1, 0), (47, .lstore 7, 2, 0), (49, .lload 7, 2, 0), (51, .aload_n 0, 1, 0), (52, .getfield 27, 3, 11), (55, .iload_n 1, 1, 0), (56, .bipush 24, 2, 0), (58, .imul, 1, 0), (59, .iload 4, 2, 0), (61, .iadd, 1, 0), (62, .laload, 1, 0), (63, .lcmp, 1, 0), (64, .ifCond .ge 17, 3, 0), (67, .aload_n 0, 1, 0), (68, .getfield 27, 3, 11), (71, .iload_n 1, 1, 0), (72, .bipush 24, 2, 0), (74, .imul, 1, 0), (75, .iload 4, 2, 0), (77, .iadd, 1, 0), (78, .lload 7, 2, 0), (80, .lastore, 1, 0), (81, .return_, 1, 0)]
def r16 : List Row := [(0, .aload_n 0, 1, 0), (1, .getfield 27, 3, 11), (4, .aload_n 0, 1, 0), (5, .getfield 48, 3, 0), (8, .bipush 24, 2, 0), (10, .imul, 1, 0), (11, .iload_n 1, 1, 0), (12, .iadd, 1, 0), (13, .laload, 1, 0), (14, .lstore_n 2, 1, 0), (15, .iconst 1, 1, 0), (16, .istore 4, 2, 0), (18, .aload_n 0, 1, 0), (19, .lconst 0, 1, 0), (20, .putfield 119, 3, 19), (23, .aload_n 0, 1, 0), (24, .lconst 1, 1, 0), (25, .putfield 122, 3, 20), (28, .iconst 0, 1, 0), (29, .istore 5, 2, 0), (31, .iload 5, 2, 0), (33, .aload_n 0, 1, 0), (34, .getfield 48, 3, 0), (37, .if_icmp .ge 90, 3, 0), (40, .aload_n 0, 1, 0), (41, .getfield 27, 3, 11), (44, .iload 5, 2, 0), (46, .bipush 24, 2, 0), (48, .imul, 1, 0), (49, .iload_n 1, 1, 0), (50, .iadd, 1, 0), (51, .laload, 1, 0), (52, .lstore 6, 2, 0), (54, .lload 6, 2, 0), (56, .aload_n 0, 1, 0), (57, .getfield 44, 3, 16), (60, .lcmp, 1, 0), (61, .ifCond .ne 6, 3, 0), (64, .goto 57, 3, 0), (67, .lload_n 2, 1, 0), (68, .lload 6, 2, 0), (70, .lsub, 1, 0), (71, .lstore 8, 2, 0), (73, .aload_n 0, 1, 0), (74, .getfield 48, 3, 0), (77, .iload 5, 2, 0), (79, .isub, 1, 0), (80, .i2l, 1, 0), (81, .lstore 10, 2, 0), (83, .iload 4, 2, 0), (85, .ifCond .ne 21, 3, 0), (88, .lload 8, 2, 0), (90, .aload_n 0, 1, 0), (91, .getfield 122, 3, 20), (94, .lmul, 1, 0), (95, .aload_n 0, 1, 0), (96, .getfield 119, 3, 19), (99, .lload 10, 2, 0), (101, .lmul, 1, 0), (102, .lcmp, 1, 0), (103, .ifCond .le 18, 3, 0), (106, .aload_n 0, 1, 0), (107, .lload 8, 2, 0), (109, .putfield 119, 3, 19), (112, .aload_n 0, 1, 0), (113, .lload 10, 2, 0), (115, .putfield 122, 3, 20), (118, .iconst 0, 1, 0), (119, .istore 4, 2, 0), (121, .iinc 5 1, 3, 0), (124, .goto (-93), 3, 0), (127, .return_, 1, 0)]
def r17 : List Row := [(0, .iconst 0, 1, 0), (1, .istore 5, 2, 0), (3, .iload 5, 2, 0), (5, .bipush 24, 2, 0), (7, .if_icmp .ge 17, 3, 0), (10, .aload_n 0, 1, 0), (11, .getfield 23, 3, 10), (14, .iload 5, 2, 0), (16, .lconst 0, 1, 0), (17, .lastore, 1, 0), (18, .iinc 5 1, 3, 0), (21, .goto (-18), 3, 0), (24, .iconst 0, 1, 0), (25, .istore 5, 2, 0), (27, .iload 5, 2, 0), (29, .aload_n 0, 1, 0), (30, .getfield 48, 3, 0), (33, .iconst 1, 1, 0), (34, .iadd, 1, 0), (35, .if_icmp .gt 111, 3, 0), (38, .iconst 0, 1, 0), (39, .istore 6, 2, 0), (41, .iconst 0, 1, 0), (42, .istore 7, 2, 0), (44, .iload 7, 2, 0), (46, .sipush 576, 3, 0), (49, .if_icmp .ge 83, 3, 0), (52, .aload_n 0, 1, 0), (53, .getfield 7, 3, 2), (56, .iload 7, 2, 0), (58, .baload, 1, 0), (59, .ifCond .ne 6, 3, 0), (62, .goto 64, 3, 0), (65, .iload 7, 2, 0), (67, .bipush 24, 2, 0), (69, .idiv, 1, 0), (70, .istore 8, 2, 0), (72, .iload 7, 2, 0), (74, .bipush 24, 2, 0), (76, .irem, 1, 0), (77, .istore 9, 2, 0), (79, .aload_n 0, 1, 0), (80, .getfield 23, 3, 10), (83, .iload 8, 2, 0), (85, .laload, 1, 0), (86, .lload_n 1, 1, 0), (87, .aload_n 0, 1, 0), (88, .getfield 13, 3, 3), (91, .iload 7, 2, 0), (93, .iaload, 1, 0), (94, .i2l, 1, 0), (95, .lmul, 1, 0), (96, .ladd, 1, 0), (97, .lload_n 3, 1, 0), (98, .lsub, 1, 0), (99, .lstore 10, 2, 0), (101, .lload 10, 2, 0), (103, .aload_n 0, 1, 0), (104, .getfield 23, 3, 10), (107, .iload 9, 2, 0), (109, .laload, 1, 0), (110, .lcmp, 1, 0), (111, .ifCond .ge 15, 3, 0), (114, .aload_n 0, 1, 0), (115, .getfield 23, 3, 10), (118, .iload 9, 2, 0), (120, .lload 10, 2, 0), (122, .lastore, 1, 0), (123, .iconst 1, 1, 0), (124, .istore 6, 2, 0), (126, .iinc 7 1, 3, 0), (129, .goto (-85), 3, 0), (132, .iload 6, 2, 0), (134, .ifCond .ne 6, 3, 0), (137, .goto 9, 3, 0), (140, .iinc 5 1, 3, 0), (143, .goto (-116), 3, 0), (146, .return_, 1, 0)]
def r18 : List Row := [(0, .iconst 0, 1, 0), (1, .istore 5, 2, 0), (3, .iload 5, 2, 0), (5, .sipush 576, 3, 0), (8, .if_icmp .ge 78, 3, 0), (11, .iload 5, 2, 0), (13, .bipush 24, 2, 0), (15, .idiv, 1, 0), (16, .istore 6, 2, 0), (18, .iload 5, 2, 0), (20, .bipush 24, 2, 0), (22, .irem, 1, 0), (23, .istore 7, 2, 0), (25, .aload_n 0, 1, 0), (26, .getfield 30, 3, 12), (29, .iload 5, 2, 0), (31, .aload_n 0, 1, 0), (32, .getfield 7, 3, 2), (35, .iload 5, 2, 0), (37, .baload, 1, 0), (38, .ifCond .eq 40, 3, 0), (41, .aload_n 0, 1, 0), (42, .getfield 23, 3, 10), (45, .iload 6, 2, 0), (47, .laload, 1, 0), (48, .lload_n 1, 1, 0), (49, .aload_n 0, 1, 0), (50, .getfield 13, 3, 3), (53, .iload 5, 2, 0), (55, .iaload, 1, 0), (56, .i2l, 1, 0), (57, .lmul, 1, 0), (58, .ladd, 1, 0), (59, .lload_n 3, 1, 0), (60, .lsub, 1, 0), (61, .aload_n 0, 1, 0), (62, .getfield 23, 3, 10), (65, .iload 7, 2, 0), (67, .laload, 1, 0), (68, .lsub, 1, 0), (69, .lconst 0, 1, 0), (70, .lcmp, 1, 0), (71, .ifCond .ne 7, 3, 0), (74, .iconst 1, 1, 0), (75, .goto 4, 3, 0), (78, .iconst 0, 1, 0), (79, .bastore, 1, 0), (80, .iinc 5 1, 3, 0), (83, .goto (-80), 3, 0), (86, .return_, 1, 0)]
def r19 : List Row := [(0, .iconst 0, 1, 0), (1, .istore_n 1, 1, 0), (2, .iload_n 1, 1, 0), (3, .bipush 24, 2, 0), (5, .if_icmp .ge 16, 3, 0), (8, .aload_n 0, 1, 0), (9, .getfield 33, 3, 13), (12, .iload_n 1, 1, 0), (13, .iconst 0, 1, 0), (14, .iastore, 1, 0), (15, .iinc 1 1, 3, 0), (18, .goto (-16), 3, 0), (21, .iconst 0, 1, 0), (22, .istore_n 1, 1, 0), (23, .iload_n 1, 1, 0), (24, .sipush 576, 3, 0), (27, .if_icmp .ge 36, 3, 0), (30, .aload_n 0, 1, 0), (31, .getfield 30, 3, 12), (34, .iload_n 1, 1, 0), (35, .baload, 1, 0), (36, .ifCond .eq 21, 3, 0), (39, .aload_n 0, 1, 0), (40, .getfield 33, 3, 13), (43, .iload_n 1, 1, 0), (44, .bipush 24, 2, 0), (46, .idiv, 1, 0), (47, .dup2, 1, 0), (48, .iaload, 1, 0), (49, .iconst 1, 1, 0), (50, .iload_n 1, 1, 0), (51, .bipush 24, 2, 0), (53, .irem, 1, 0), (54, .ishl, 1, 0), (55, .ior, 1, 0), (56, .iastore, 1, 0), (57, .iinc 1 1, 3, 0), (60, .goto (-37), 3, 0), (63, .iconst 0, 1, 0), (64, .istore_n 1, 1, 0), (65, .iload_n 1, 1, 0), (66, .aload_n 0, 1, 0), (67, .getfield 48, 3, 0), (70, .if_icmp .ge 53, 3, 0), (73, .iconst 0, 1, 0), (74, .istore_n 2, 1, 0), (75, .iload_n 2, 1, 0), (76, .aload_n 0, 1, 0), (77, .getfield 48, 3, 0), (80, .if_icmp .ge 37, 3, 0), (83, .aload_n 0, 1, 0), (84, .getfield 33, 3, 13), (87, .iload_n 2, 1, 0), (88, .iaload, 1, 0), (89, .iload_n 1, 1, 0), (90, .ishr, 1, 0), (91, .iconst 1, 1, 0), (92, .iand, 1, 0), (93, .ifCond .eq 18, 3, 0), (96, .aload_n 0, 1, 0), (97, .getfield 33, 3, 13), (100, .iload_n 2, 1, 0), (101, .dup2, 1, 0), (102, .iaload, 1, 0), (103, .aload_n 0, 1, 0), (104, .getfield 33, 3, 13), (107, .iload_n 1, 1, 0), (108, .iaload, 1, 0), (109, .ior, 1, 0), (110, .iastore, 1, 0), (111, .iinc 2 1, 3, 0), (114, .goto (-39), 3, 0), (117, .iinc 1 1, 3, 0), (120, .goto (-55), 3, 0), (123, .return_, 1, 0)]
def r20 : List Row := [(0, .iconst 0, 1, 0), (1, .istore_n 2, 1, 0), (2, .iload_n 2, 1, 0), (3, .bipush 24, 2, 0), (5, .if_icmp .ge 16, 3, 0), (8, .aload_n 0, 1, 0), (9, .getfield 36, 3, 14), (12, .iload_n 2, 1, 0), (13, .iconst (-1), 1, 0), (14, .iastore, 1, 0), (15, .iinc 2 1, 3, 0), (18, .goto (-16), 3, 0), (21, .aload_n 0, 1, 0), (22, .getfield 36, 3, 14), (25, .iload_n 1, 1, 0), (26, .iconst 0, 1, 0), (27, .iastore, 1, 0), (28, .aload_n 0, 1, 0), (29, .getfield 39, 3, 15), (32, .iconst 0, 1, 0), (33, .iload_n 1, 1, 0), (34, .iastore, 1, 0), (35, .iconst 1, 1, 0), (36, .istore_n 2, 1, 0), (37, .iconst 0, 1, 0), (38, .istore_n 3, 1, 0), (39, .iload_n 3, 1, 0), (40, .iload_n 2, 1, 0), (41, .if_icmp .ge 100, 3, 0), (44, .iload_n 3, 1, 0), (45, .bipush 24, 2, 0), (47, .if_icmp .ge 94, 3, 0), (50, .aload_n 0, 1, 0), (51, .getfield 39, 3, 15), (54, .iload_n 3, 1, 0), (55, .iaload, 1, 0), (56, .istore 4, 2, 0), (58, .iconst 0, 1, 0), (59, .istore 5, 2, 0), (61, .iload 5, 2, 0), (63, .aload_n 0, 1, 0), (64, .getfield 48, 3, 0), (67, .if_icmp .ge 68, 3, 0), (70, .aload_n 0, 1, 0), (71, .getfield 30, 3, 12), (74, .iload 5, 2, 0), (76, .bipush 24, 2, 0), (78, .imul, 1, 0), (79, .iload 4, 2, 0), (81, .iadd, 1, 0), (82, .baload, 1, 0), (83, .ifCond .eq 46, 3, 0), (86, .aload_n 0, 1, 0), (87, .getfield 36, 3, 14), (90, .iload 5, 2, 0), (92, .iaload, 1, 0), (93, .ifCond .ge 36, 3, 0), (96, .iload_n 2, 1, 0), (97, .bipush 24, 2, 0), (99, .if_icmp .ge 30, 3, 0), (102, .aload_n 0, 1, 0), (103, .getfield 36, 3, 14), (106, .iload 5, 2, 0), (108, .aload_n 0, 1, 0), (109, .getfield 36, 3, 14), (112, .iload 4, 2, 0), (114, .iaload, 1, 0), (115, .iconst 1, 1, 0), (116, .iadd, 1, 0), (117, .iastore, 1, 0), (118, .aload_n 0, 1, 0), (119, .getfield 39, 3, 15), (122, .iload_n 2, 1, 0), (123, .iload 5, 2, 0), (125, .iastore, 1, 0), (126, .iinc 2 1, 3, 0), (129, .iinc 5 1, 3, 0), (132, .goto (-71), 3, 0), (135, .iinc 3 1, 3, 0), (138, .goto (-99), 3, 0), (141, .return_, 1, 0)]
def r21 : List Row := [(0, .iconst (-1), 1, 0), (1, .istore_n 2, 1, 0), (2, .iconst 0, 1, 0), (3, .istore_n 3, 1, 0), (4, .iload_n 3, 1, 0), (5, .aload_n 0, 1, 0), (6, .getfield 48, 3, 0), (9, .if_icmp .ge 55, 3, 0), (12, .aload_n 0, 1, 0), (13, .getfield 30, 3, 12), (16, .iload_n 1, 1, 0), (17, .bipush 24, 2, 0), (19, .imul, 1, 0), (20, .iload_n 3, 1, 0), (21, .iadd, 1, 0), (22, .baload, 1, 0), (23, .ifCond .eq 35, 3, 0), (26, .aload_n 0, 1, 0), (27, .getfield 36, 3, 14), (30, .iload_n 3, 1, 0), (31, .iaload, 1, 0), (32, .ifCond .lt 26, 3, 0), (35, .aload_n 0, 1, 0), (36, .getfield 36, 3, 14), (39, .iload_n 3, 1, 0), (40, .iaload, 1, 0), (41, .iconst 1, 1, 0), (42, .iadd, 1, 0), (43, .istore 4, 2, 0), (45, .iload_n 2, 1, 0), (46, .ifCond .lt 9, 3, 0), (49, .iload 4, 2, 0), (51, .iload_n 2, 1, 0), (52, .if_icmp .ge 6, 3, 0), (55, .iload 4, 2, 0), (57, .istore_n 2, 1, 0), (58, .iinc 3 1, 3, 0), (61, .goto (-57), 3, 0), (64, .iload_n 2, 1, 0), (65, .iconst 1, 1, 0), (66, .if_icmp .ge 5, 3, 0), (69, .iconst 1, 1, 0), (70, .istore_n 2, 1, 0), (71, .iload_n 2, 1, 0), (72, .aload_n 0, 1, 0), (73, .getfield 48, 3, 0), (76, .if_icmp .le 8, 3, 0), (79, .aload_n 0, 1, 0), (80, .getfield 48, 3, 0), (83, .istore_n 2, 1, 0), (84, .aload_n 0, 1, 0), (85, .iload_n 2, 1, 0), (86, .putfield 106, 3, 6), (89, .aload_n 0, 1, 0), (90, .getfield 17, 3, 8), (93, .iconst 0, 1, 0), (94, .iload_n 1, 1, 0), (95, .iastore, 1, 0), (96, .iload_n 1, 1, 0), (97, .istore_n 3, 1, 0), (98, .iconst 1, 1, 0), (99, .istore 4, 2, 0), (101, .iload 4, 2, 0), (103, .aload_n 0, 1, 0), (104, .getfield 106, 3, 6), (107, .if_icmp .ge 83, 3, 0), (110, .aload_n 0, 1, 0), (111, .getfield 106, 3, 6), (114, .iload 4, 2, 0), (116, .isub, 1, 0), (117, .istore 5, 2, 0), (119, .iload_n 3, 1, 0), (120, .istore 6, 2, 0), (122, .aload_n 0, 1, 0), (123, .getfield 48, 3, 0), (126, .iconst 1, 1, 0), (127, .isub, 1, 0), (128, .istore 7, 2, 0), (130, .iload 7, 2, 0), (132, .ifCond .lt 40, 3, 0), (135, .aload_n 0, 1, 0), (136, .getfield 30, 3, 12), (139, .iload_n 3, 1, 0), (140, .bipush 24, 2, 0), (142, .imul, 1, 0), (143, .iload 7, 2, 0), (145, .iadd, 1, 0), (146, .baload, 1, 0), (147, .ifCond .eq 19, 3, 0), (150, .aload_n 0, 1, 0), (151, .getfield 36, 3, 14), (154, .iload 7, 2, 0), (156, .iaload, 1, 0), (157, .iload 5, 2, 0), (159, .if_icmp .ne 7, 3, 0), (162, .iload 7, 2, 0), (164, .istore 6, 2, 0), (166, .iinc 7 (-1), 3, 0), (169, .goto (-39), 3, 0), (172, .aload_n 0, 1, 0), (173, .getfield 17, 3, 8), (176, .iload 4, 2, 0), (178, .iload 6, 2, 0), (180, .iastore, 1, 0), (181, .iload 6, 2, 0), (183, .istore_n 3, 1, 0), (184, .iinc 4 1, 3, 0), (187, .goto (-86), 3, 0), (190, .lconst 0, 1, 0), (191, .lstore 4, 2, 0), (193, .iconst 0, 1, 0), (194, .istore 6, 2, 0), (196, .iload 6, 2, 0), (198, .aload_n 0, 1, 0), (199, .getfield 106, 3, 6), (202, .if_icmp .ge 53, 3, 0), (205, .aload_n 0, 1, 0), (206, .getfield 17, 3, 8), (209, .iload 6, 2, 0), (211, .iaload, 1, 0), (212, .istore 7, 2, 0), (214, .aload_n 0, 1, 0), (215, .getfield 17, 3, 8), (218, .iload 6, 2, 0), (220, .iconst 1, 1, 0), (221, .iadd, 1, 0), (222, .aload_n 0, 1, 0), (223, .getfield 106, 3, 6), (226, .irem, 1, 0), (227, .iaload, 1, 0), (228, .istore 8, 2, 0), (230, .lload 4, 2, 0), (232, .aload_n 0, 1, 0), (233, .getfield 13, 3, 3), (236, .iload 7, 2, 0), (238, .bipush 24, 2, 0), (240, .imul, 1, 0), (241, .iload 8, 2, 0), (243, .iadd, 1, 0), (244, .iaload, 1, 0), (245, .i2l, 1, 0), (246, .ladd, 1, 0), (247, .lstore 4, 2, 0), (249, .iinc 6 1, 3, 0), (252, .goto (-56), 3, 0), (255, .aload_n 0, 1, 0), (256, .lload 4, 2, 0), (258, .putfield 109, 3, 7), (261, .return_, 1, 0)]
def r23 : List Row := [(0, .aload_n 0, 1, 0), (1, .getfield 52, 3, 4), (4, .ifCond .eq 14, 3, 0), (7, .aload_n 0, 1, 0), (8, .getfield 56, 3, 5), (11, .ifCond .eq 7, 3, 0), (14, .iconst 1, 1, 0), (15, .goto 4, 3, 0), (18, .iconst 0, 1, 0), (19, .ireturn, 1, 0)]
def r24 : List Row := [(0, .aload_n 0, 1, 0), (1, .invokevirtual 125, 3, 23), (4, .ifCond .eq 10, 3, 0), (7, .aload_n 0, 1, 0), (8, .getfield 106, 3, 6), (11, .goto 4, 3, 0), (14, .iconst 0, 1, 0), (15, .ireturn, 1, 0)]
def r25 : List Row := [(0, .aload_n 0, 1, 0), (1, .invokevirtual 125, 3, 23), (4, .ifCond .eq 10, 3, 0), (7, .aload_n 0, 1, 0), (8, .getfield 109, 3, 7), (11, .goto 4, 3, 0), (14, .lconst 0, 1, 0), (15, .lreturn, 1, 0)]
def r26 : List Row := [(0, .aload_n 0, 1, 0), (1, .invokevirtual 125, 3, 23), (4, .ifCond .eq 15, 3, 0), (7, .iload_n 1, 1, 0), (8, .ifCond .lt 11, 3, 0), (11, .iload_n 1, 1, 0), (12, .aload_n 0, 1, 0), (13, .getfield 106, 3, 6), (16, .if_icmp .lt 5, 3, 0), (19, .iconst (-1), 1, 0), (20, .ireturn, 1, 0), (21, .aload_n 0, 1, 0), (22, .getfield 17, 3, 8), (25, .iload_n 1, 1, 0), (26, .iaload, 1, 0), (27, .ireturn, 1, 0)]
def r27 : List Row := [(0, .aload_n 0, 1, 0), (1, .invokevirtual 125, 3, 23), (4, .ifCond .eq 24, 3, 0), (7, .aload_n 0, 1, 0), (8, .iload_n 1, 1, 0), (9, .invokevirtual 59, 3, 2), (12, .ifCond .eq 16, 3, 0), (15, .aload_n 0, 1, 0), (16, .getfield 20, 3, 9), (19, .iload_n 1, 1, 0), (20, .baload, 1, 0), (21, .ifCond .eq 7, 3, 0), (24, .iconst 1, 1, 0), (25, .goto 4, 3, 0), (28, .iconst 0, 1, 0), (29, .ireturn, 1, 0)]
def r28 : List Row := [(0, .aload_n 0, 1, 0), (1, .invokevirtual 125, 3, 23), (4, .ifCond .eq 11, 3, 0), (7, .aload_n 0, 1, 0), (8, .iload_n 1, 1, 0), (9, .invokevirtual 59, 3, 2), (12, .ifCond .ne 5, 3, 0), (15, .lconst 0, 1, 0), (16, .lreturn, 1, 0), (17, .aload_n 0, 1, 0), (18, .getfield 23, 3, 10), (21, .iload_n 1, 1, 0), (22, .laload, 1, 0), (23, .lreturn, 1, 0)]
def r29 : List Row := [(0, .aload_n 0, 1, 0), (1, .invokevirtual 125, 3, 23), (4, .ifCond .eq 12, 3, 0), (7, .aload_n 0, 1, 0), (8, .iload_n 1, 1, 0), (9, .iload_n 2, 1, 0), (10, .invokevirtual 72, 3, 8), (13, .ifCond .ne 7, 3, 0), (16, .ldc2_w 128, 3, (-1)), (19, .lreturn, 1, 0), (20, .aload_n 0, 1, 0), (21, .getfield 106, 3, 6), (24, .i2l, 1, 0), (25, .aload_n 0, 1, 0), (26, .getfield 13, 3, 3), (29, .iload_n 1, 1, 0), (30, .bipush 24, 2, 0), (32, .imul, 1, 0), (33, .iload_n 2, 1, 0), (34, .iadd, 1, 0), (35, .iaload, 1, 0), (36, .i2l, 1, 0), (37, .lmul, 1, 0), (38, .aload_n 0, 1, 0), (39, .getfield 109, 3, 7), (42, .lsub, 1, 0), (43, .aload_n 0, 1, 0), (44, .getfield 23, 3, 10), (47, .iload_n 1, 1, 0), (48, .laload, 1, 0), (49, .ladd, 1, 0), (50, .aload_n 0, 1, 0), (51, .getfield 23, 3, 10), (54, .iload_n 2, 1, 0), (55, .laload, 1, 0), (56, .lsub, 1, 0), (57, .lreturn, 1, 0)]
def prows : List (List Row) := [[], r1, r2, r3, r4, r5, [], [], r8, [], [], [], r12, r13, r14, r15, r16, r17, r18, r19, r20, r21, [], r23, r24, r25, r26, r27, r28, r29]
def pinfo : List MInfo := [(0, 0, 9, none, {}), (2, 3, 3, none, { frames := 1, cells := 10, slots := 2472, locals := 12 }), (2, 2, 2, some .boolean, { frames := 0, cells := 0, slots := 0, locals := 0 }), (2, 2, 2, some .boolean, { frames := 0, cells := 0, slots := 0, locals := 0 }), (1, 1, 2, none, { frames := 0, cells := 0, slots := 0, locals := 0 }), (4, 5, 1, some .int, { frames := 1, cells := 0, slots := 0, locals := 13 }), (3, 4, 1, some .int, { frames := 1, cells := 0, slots := 0, locals := 13 }), (4, 5, 1, some .int, { frames := 1, cells := 0, slots := 0, locals := 13 }), (3, 3, 1, some .boolean, { frames := 1, cells := 0, slots := 0, locals := 13 }), (3, 3, 1, some .int, { frames := 2, cells := 0, slots := 0, locals := 27 }), (1, 1, 1, some .int, { frames := 0, cells := 0, slots := 0, locals := 0 }), (1, 1, 1, some .int, { frames := 0, cells := 0, slots := 0, locals := 0 }), (1, 3, 1, some .int, { frames := 2, cells := 0, slots := 0, locals := 37 }), (1, 2, 2, none, { frames := 0, cells := 0, slots := 0, locals := 0 }), (1, 3, 2, some .boolean, { frames := 1, cells := 0, slots := 0, locals := 23 }), (3, 9, 2, none, { frames := 0, cells := 0, slots := 0, locals := 0 }), (2, 12, 2, none, { frames := 0, cells := 0, slots := 0, locals := 0 }), (3, 12, 2, none, { frames := 0, cells := 0, slots := 0, locals := 0 }), (3, 8, 2, none, { frames := 0, cells := 0, slots := 0, locals := 0 }), (1, 3, 2, none, { frames := 0, cells := 0, slots := 0, locals := 0 }), (2, 6, 2, none, { frames := 0, cells := 0, slots := 0, locals := 0 }), (2, 9, 2, none, { frames := 0, cells := 0, slots := 0, locals := 0 }), (1, 1, 1, some .boolean, { frames := 0, cells := 0, slots := 0, locals := 0 }), (1, 1, 2, some .boolean, { frames := 0, cells := 0, slots := 0, locals := 0 }), (1, 1, 1, some .int, { frames := 1, cells := 0, slots := 0, locals := 12 }), (1, 1, 1, some .long, { frames := 1, cells := 0, slots := 0, locals := 12 }), (2, 2, 1, some .int, { frames := 1, cells := 0, slots := 0, locals := 12 }), (2, 2, 1, some .boolean, { frames := 1, cells := 0, slots := 0, locals := 13 }), (2, 2, 1, some .long, { frames := 1, cells := 0, slots := 0, locals := 13 }), (3, 3, 1, some .long, { frames := 2, cells := 0, slots := 0, locals := 27 })]
def pft : List FieldType := [.int, .int, .array .boolean, .array .int, .boolean, .boolean, .int, .long, .array .int, .array .boolean, .array .long, .array .long, .array .boolean, .array .int, .array .int, .array .int, .long, .long, .long, .long, .long]
def pj (lw : LW) : Prog := (fun m pc => if m < 100 then (prows.getD m []).lookup pc else lw.1 (m - 100) pc, fun m => if m < 100 then pinfo.getD m (0, 0, 9, none, {}) else lw.2 (m - 100), fun k => pft.getD k .int, 21)
def lay : Lay := ([(.int, 0), (.int, 0), (.array .boolean, 1), (.array .int, 2), (.boolean, 0), (.boolean, 0), (.int, 0), (.long, 0), (.array .int, 3), (.array .boolean, 4), (.array .long, 5), (.array .long, 6), (.array .boolean, 7), (.array .int, 8), (.array .int, 9), (.array .int, 10), (.long, 0), (.long, 0), (.long, 0), (.long, 0), (.long, 0)], [(.boolean, 576), (.int, 576), (.int, 24), (.boolean, 24), (.long, 24), (.long, 600), (.boolean, 576), (.int, 24), (.int, 24), (.int, 24)])
abbrev ob (H : AH) (p : Nat) (s : St) : AH := put lay 10 H p s
section Acc
variable {H : AH} {p : Nat} {s : St} {i : Int32} {j q : Nat} {v : Int32} {w : Int64}
theorem g0 : fld (put lay j H p s) p 0 = .int (sI s 0) := fld_I (ty := .int) rfl (by decide) (by simp)
theorem s0 : wr (put lay j H p s) p 0 (.int v) = put lay j H p (uI s 0 v) := wr_I (ty := .int) rfl (by decide) (by simp)
theorem g1 : fld (put lay j H p s) p 1 = .int (sI s 1) := fld_I (ty := .int) rfl (by decide) (by simp)
theorem s1 : wr (put lay j H p s) p 1 (.int v) = put lay j H p (uI s 1 v) := wr_I (ty := .int) rfl (by decide) (by simp)
theorem g2 : fld (ob H p s) p 2 = .ref (p + 1) := fld_R (ty := .boolean) rfl (by decide)
theorem g3 : fld (ob H p s) p 3 = .ref (p + 2) := fld_R (ty := .int) rfl (by decide)
theorem g4 : fld (put lay j H p s) p 4 = .int (sI s 4) := fld_I (ty := .boolean) rfl (by decide) (by simp)
theorem s4 : wr (put lay j H p s) p 4 (.int v) = put lay j H p (uI s 4 v) := wr_I (ty := .boolean) rfl (by decide) (by simp)
theorem g5 : fld (put lay j H p s) p 5 = .int (sI s 5) := fld_I (ty := .boolean) rfl (by decide) (by simp)
theorem s5 : wr (put lay j H p s) p 5 (.int v) = put lay j H p (uI s 5 v) := wr_I (ty := .boolean) rfl (by decide) (by simp)
theorem g6 : fld (put lay j H p s) p 6 = .int (sI s 6) := fld_I (ty := .int) rfl (by decide) (by simp)
theorem s6 : wr (put lay j H p s) p 6 (.int v) = put lay j H p (uI s 6 v) := wr_I (ty := .int) rfl (by decide) (by simp)
theorem g7 : fld (put lay j H p s) p 7 = .long (sJ s 7) := fld_J rfl
theorem s7 : wr (put lay j H p s) p 7 (.long w) = put lay j H p (uJ s 7 w) := wr_J rfl
theorem g8 : fld (ob H p s) p 8 = .ref (p + 3) := fld_R (ty := .int) rfl (by decide)
theorem g9 : fld (ob H p s) p 9 = .ref (p + 4) := fld_R (ty := .boolean) rfl (by decide)
theorem g10 : fld (ob H p s) p 10 = .ref (p + 5) := fld_R (ty := .long) rfl (by decide)
theorem g11 : fld (ob H p s) p 11 = .ref (p + 6) := fld_R (ty := .long) rfl (by decide)
theorem g12 : fld (ob H p s) p 12 = .ref (p + 7) := fld_R (ty := .boolean) rfl (by decide)
theorem g13 : fld (ob H p s) p 13 = .ref (p + 8) := fld_R (ty := .int) rfl (by decide)
theorem g14 : fld (ob H p s) p 14 = .ref (p + 9) := fld_R (ty := .int) rfl (by decide)
theorem g15 : fld (ob H p s) p 15 = .ref (p + 10) := fld_R (ty := .int) rfl (by decide)
theorem g16 : fld (put lay j H p s) p 16 = .long (sJ s 16) := fld_J rfl
theorem s16 : wr (put lay j H p s) p 16 (.long w) = put lay j H p (uJ s 16 w) := wr_J rfl
theorem g17 : fld (put lay j H p s) p 17 = .long (sJ s 17) := fld_J rfl
theorem s17 : wr (put lay j H p s) p 17 (.long w) = put lay j H p (uJ s 17 w) := wr_J rfl
theorem g18 : fld (put lay j H p s) p 18 = .long (sJ s 18) := fld_J rfl
theorem s18 : wr (put lay j H p s) p 18 (.long w) = put lay j H p (uJ s 18 w) := wr_J rfl
theorem g19 : fld (put lay j H p s) p 19 = .long (sJ s 19) := fld_J rfl
theorem s19 : wr (put lay j H p s) p 19 (.long w) = put lay j H p (uJ s 19 w) := wr_J rfl
theorem g20 : fld (put lay j H p s) p 20 = .long (sJ s 20) := fld_J rfl
theorem s20 : wr (put lay j H p s) p 20 (.long w) = put lay j H p (uJ s 20 w) := wr_J rfl
theorem ai1 : inA (ob H p s) (p + 1) .boolean i = true ↔ (0 ≤ i.toInt ∧ i.toInt < 576) := inA_I (t := 0) rfl (by decide) (by decide)
theorem aw1 : inAw (ob H p s) (p + 1) .boolean i = true ↔ (0 ≤ i.toInt ∧ i.toInt < 576) := inAw_I (t := 0) rfl (by decide) (by decide)
theorem ain1 : inA (ob H p s) (p + 1) .byte i = true ↔ False := inA_no (t := 0) (ty := .boolean) rfl (by decide) (by decide) (by decide)
theorem awn1 : inAw (ob H p s) (p + 1) .byte i = true ↔ False := inAw_no (t := 0) (ty := .boolean) rfl (by decide) (by decide) (by decide)
theorem ae1 : elt (ob H p s) (p + 1) i = .int (sA s 1 i.toNatClampNeg) := elt_I (t := 0) (ty := .boolean) rfl (by decide) (by decide)
theorem as1 : wr (ob H p s) (p + 1) q (.int v) = ob H p (uA s 1 q v) := wr_A (t := 0) (ty := .boolean) rfl (by decide) (by decide)
theorem ai2 : inA (ob H p s) (p + 2) .int i = true ↔ (0 ≤ i.toInt ∧ i.toInt < 576) := inA_I (t := 1) rfl (by decide) (by decide)
theorem aw2 : inAw (ob H p s) (p + 2) .int i = true ↔ (0 ≤ i.toInt ∧ i.toInt < 576) := inAw_I (t := 1) rfl (by decide) (by decide)
theorem ae2 : elt (ob H p s) (p + 2) i = .int (sA s 2 i.toNatClampNeg) := elt_I (t := 1) (ty := .int) rfl (by decide) (by decide)
theorem as2 : wr (ob H p s) (p + 2) q (.int v) = ob H p (uA s 2 q v) := wr_A (t := 1) (ty := .int) rfl (by decide) (by decide)
theorem ai3 : inA (ob H p s) (p + 3) .int i = true ↔ (0 ≤ i.toInt ∧ i.toInt < 24) := inA_I (t := 2) rfl (by decide) (by decide)
theorem aw3 : inAw (ob H p s) (p + 3) .int i = true ↔ (0 ≤ i.toInt ∧ i.toInt < 24) := inAw_I (t := 2) rfl (by decide) (by decide)
theorem ae3 : elt (ob H p s) (p + 3) i = .int (sA s 3 i.toNatClampNeg) := elt_I (t := 2) (ty := .int) rfl (by decide) (by decide)
theorem as3 : wr (ob H p s) (p + 3) q (.int v) = ob H p (uA s 3 q v) := wr_A (t := 2) (ty := .int) rfl (by decide) (by decide)
theorem ai4 : inA (ob H p s) (p + 4) .boolean i = true ↔ (0 ≤ i.toInt ∧ i.toInt < 24) := inA_I (t := 3) rfl (by decide) (by decide)
theorem aw4 : inAw (ob H p s) (p + 4) .boolean i = true ↔ (0 ≤ i.toInt ∧ i.toInt < 24) := inAw_I (t := 3) rfl (by decide) (by decide)
theorem ain4 : inA (ob H p s) (p + 4) .byte i = true ↔ False := inA_no (t := 3) (ty := .boolean) rfl (by decide) (by decide) (by decide)
theorem awn4 : inAw (ob H p s) (p + 4) .byte i = true ↔ False := inAw_no (t := 3) (ty := .boolean) rfl (by decide) (by decide) (by decide)
theorem ae4 : elt (ob H p s) (p + 4) i = .int (sA s 4 i.toNatClampNeg) := elt_I (t := 3) (ty := .boolean) rfl (by decide) (by decide)
theorem as4 : wr (ob H p s) (p + 4) q (.int v) = ob H p (uA s 4 q v) := wr_A (t := 3) (ty := .boolean) rfl (by decide) (by decide)
theorem ai5 : inA (ob H p s) (p + 5) .long i = true ↔ (0 ≤ i.toInt ∧ i.toInt < 24) := inA_J (t := 4) rfl (by decide)
theorem aw5 : inAw (ob H p s) (p + 5) .long i = true ↔ (0 ≤ i.toInt ∧ i.toInt < 24) := inAw_J (t := 4) rfl (by decide)
theorem ae5 : elt (ob H p s) (p + 5) i = .long (sB s 5 i.toNatClampNeg) := elt_J (t := 4) rfl (by decide)
theorem as5 : wr (ob H p s) (p + 5) q (.long w) = ob H p (uB s 5 q w) := wr_B (t := 4) rfl (by decide)
theorem ai6 : inA (ob H p s) (p + 6) .long i = true ↔ (0 ≤ i.toInt ∧ i.toInt < 600) := inA_J (t := 5) rfl (by decide)
theorem aw6 : inAw (ob H p s) (p + 6) .long i = true ↔ (0 ≤ i.toInt ∧ i.toInt < 600) := inAw_J (t := 5) rfl (by decide)
theorem ae6 : elt (ob H p s) (p + 6) i = .long (sB s 6 i.toNatClampNeg) := elt_J (t := 5) rfl (by decide)
theorem as6 : wr (ob H p s) (p + 6) q (.long w) = ob H p (uB s 6 q w) := wr_B (t := 5) rfl (by decide)
theorem ai7 : inA (ob H p s) (p + 7) .boolean i = true ↔ (0 ≤ i.toInt ∧ i.toInt < 576) := inA_I (t := 6) rfl (by decide) (by decide)
theorem aw7 : inAw (ob H p s) (p + 7) .boolean i = true ↔ (0 ≤ i.toInt ∧ i.toInt < 576) := inAw_I (t := 6) rfl (by decide) (by decide)
theorem ain7 : inA (ob H p s) (p + 7) .byte i = true ↔ False := inA_no (t := 6) (ty := .boolean) rfl (by decide) (by decide) (by decide)
theorem awn7 : inAw (ob H p s) (p + 7) .byte i = true ↔ False := inAw_no (t := 6) (ty := .boolean) rfl (by decide) (by decide) (by decide)
theorem ae7 : elt (ob H p s) (p + 7) i = .int (sA s 7 i.toNatClampNeg) := elt_I (t := 6) (ty := .boolean) rfl (by decide) (by decide)
theorem as7 : wr (ob H p s) (p + 7) q (.int v) = ob H p (uA s 7 q v) := wr_A (t := 6) (ty := .boolean) rfl (by decide) (by decide)
theorem ai8 : inA (ob H p s) (p + 8) .int i = true ↔ (0 ≤ i.toInt ∧ i.toInt < 24) := inA_I (t := 7) rfl (by decide) (by decide)
theorem aw8 : inAw (ob H p s) (p + 8) .int i = true ↔ (0 ≤ i.toInt ∧ i.toInt < 24) := inAw_I (t := 7) rfl (by decide) (by decide)
theorem ae8 : elt (ob H p s) (p + 8) i = .int (sA s 8 i.toNatClampNeg) := elt_I (t := 7) (ty := .int) rfl (by decide) (by decide)
theorem as8 : wr (ob H p s) (p + 8) q (.int v) = ob H p (uA s 8 q v) := wr_A (t := 7) (ty := .int) rfl (by decide) (by decide)
theorem ai9 : inA (ob H p s) (p + 9) .int i = true ↔ (0 ≤ i.toInt ∧ i.toInt < 24) := inA_I (t := 8) rfl (by decide) (by decide)
theorem aw9 : inAw (ob H p s) (p + 9) .int i = true ↔ (0 ≤ i.toInt ∧ i.toInt < 24) := inAw_I (t := 8) rfl (by decide) (by decide)
theorem ae9 : elt (ob H p s) (p + 9) i = .int (sA s 9 i.toNatClampNeg) := elt_I (t := 8) (ty := .int) rfl (by decide) (by decide)
theorem as9 : wr (ob H p s) (p + 9) q (.int v) = ob H p (uA s 9 q v) := wr_A (t := 8) (ty := .int) rfl (by decide) (by decide)
theorem ai10 : inA (ob H p s) (p + 10) .int i = true ↔ (0 ≤ i.toInt ∧ i.toInt < 24) := inA_I (t := 9) rfl (by decide) (by decide)
theorem aw10 : inAw (ob H p s) (p + 10) .int i = true ↔ (0 ≤ i.toInt ∧ i.toInt < 24) := inAw_I (t := 9) rfl (by decide) (by decide)
theorem ae10 : elt (ob H p s) (p + 10) i = .int (sA s 10 i.toNatClampNeg) := elt_I (t := 9) (ty := .int) rfl (by decide) (by decide)
theorem as10 : wr (ob H p s) (p + 10) q (.int v) = ob H p (uA s 10 q v) := wr_A (t := 9) (ty := .int) rfl (by decide) (by decide)
theorem mkO_ob {lw : LW} : mkO (pj lw) H = put lay 0 (H.1 + 1, H.2) H.1 z0 := mkO_put rfl (fun k => match k with | 0 => rfl | 1 => rfl | 2 => rfl | 3 => rfl | 4 => rfl | 5 => rfl | 6 => rfl | 7 => rfl | 8 => rfl | 9 => rfl | 10 => rfl | 11 => rfl | 12 => rfl | 13 => rfl | 14 => rfl | 15 => rfl | 16 => rfl | 17 => rfl | 18 => rfl | 19 => rfl | 20 => rfl | (_ + 21) => rfl)
theorem mk1 {h : Nat → Cel} (hz : zr s 1) : wr (mkA .boolean 576 (put lay 0 (p + 1, h) p s)) p 2 (.ref (p + 1)) = put lay 1 (p + 2, h) p s := mkA_put (j := 0) rfl rfl (by decide) hz.1 hz.2 (Or.inr (Or.inr (Or.inr rfl)))
theorem io1 {h : Nat → Cel} : isOw (mkA .boolean 576 (put lay 0 (p + 1, h) p s)) p = true := isOw_mk (c := 0)
theorem mk2 {h : Nat → Cel} (hz : zr s 2) : wr (mkA .int 576 (put lay 1 (p + 2, h) p s)) p 3 (.ref (p + 2)) = put lay 2 (p + 3, h) p s := mkA_put (j := 1) rfl rfl (by decide) hz.1 hz.2 (Or.inl rfl)
theorem io2 {h : Nat → Cel} : isOw (mkA .int 576 (put lay 1 (p + 2, h) p s)) p = true := isOw_mk (c := 1)
theorem mk3 {h : Nat → Cel} (hz : zr s 3) : wr (mkA .int 24 (put lay 2 (p + 3, h) p s)) p 8 (.ref (p + 3)) = put lay 3 (p + 4, h) p s := mkA_put (j := 2) rfl rfl (by decide) hz.1 hz.2 (Or.inl rfl)
theorem io3 {h : Nat → Cel} : isOw (mkA .int 24 (put lay 2 (p + 3, h) p s)) p = true := isOw_mk (c := 2)
theorem mk4 {h : Nat → Cel} (hz : zr s 4) : wr (mkA .boolean 24 (put lay 3 (p + 4, h) p s)) p 9 (.ref (p + 4)) = put lay 4 (p + 5, h) p s := mkA_put (j := 3) rfl rfl (by decide) hz.1 hz.2 (Or.inr (Or.inr (Or.inr rfl)))
theorem io4 {h : Nat → Cel} : isOw (mkA .boolean 24 (put lay 3 (p + 4, h) p s)) p = true := isOw_mk (c := 3)
theorem mk5 {h : Nat → Cel} (hz : zr s 5) : wr (mkA .long 24 (put lay 4 (p + 5, h) p s)) p 10 (.ref (p + 5)) = put lay 5 (p + 6, h) p s := mkA_put (j := 4) rfl rfl (by decide) hz.1 hz.2 (Or.inr (Or.inl rfl))
theorem io5 {h : Nat → Cel} : isOw (mkA .long 24 (put lay 4 (p + 5, h) p s)) p = true := isOw_mk (c := 4)
theorem mk6 {h : Nat → Cel} (hz : zr s 6) : wr (mkA .long 600 (put lay 5 (p + 6, h) p s)) p 11 (.ref (p + 6)) = put lay 6 (p + 7, h) p s := mkA_put (j := 5) rfl rfl (by decide) hz.1 hz.2 (Or.inr (Or.inl rfl))
theorem io6 {h : Nat → Cel} : isOw (mkA .long 600 (put lay 5 (p + 6, h) p s)) p = true := isOw_mk (c := 5)
theorem mk7 {h : Nat → Cel} (hz : zr s 7) : wr (mkA .boolean 576 (put lay 6 (p + 7, h) p s)) p 12 (.ref (p + 7)) = put lay 7 (p + 8, h) p s := mkA_put (j := 6) rfl rfl (by decide) hz.1 hz.2 (Or.inr (Or.inr (Or.inr rfl)))
theorem io7 {h : Nat → Cel} : isOw (mkA .boolean 576 (put lay 6 (p + 7, h) p s)) p = true := isOw_mk (c := 6)
theorem mk8 {h : Nat → Cel} (hz : zr s 8) : wr (mkA .int 24 (put lay 7 (p + 8, h) p s)) p 13 (.ref (p + 8)) = put lay 8 (p + 9, h) p s := mkA_put (j := 7) rfl rfl (by decide) hz.1 hz.2 (Or.inl rfl)
theorem io8 {h : Nat → Cel} : isOw (mkA .int 24 (put lay 7 (p + 8, h) p s)) p = true := isOw_mk (c := 7)
theorem mk9 {h : Nat → Cel} (hz : zr s 9) : wr (mkA .int 24 (put lay 8 (p + 9, h) p s)) p 14 (.ref (p + 9)) = put lay 9 (p + 10, h) p s := mkA_put (j := 8) rfl rfl (by decide) hz.1 hz.2 (Or.inl rfl)
theorem io9 {h : Nat → Cel} : isOw (mkA .int 24 (put lay 8 (p + 9, h) p s)) p = true := isOw_mk (c := 8)
theorem mk10 {h : Nat → Cel} (hz : zr s 10) : wr (mkA .int 24 (put lay 9 (p + 10, h) p s)) p 15 (.ref (p + 10)) = put lay 10 (p + 11, h) p s := mkA_put (j := 9) rfl rfl (by decide) hz.1 hz.2 (Or.inl rfl)
theorem io10 {h : Nat → Cel} : isOw (mkA .int 24 (put lay 9 (p + 10, h) p s)) p = true := isOw_mk (c := 9)
end Acc
section Pc
variable {lw : LW} {L : List Slot} {S : List Value} {k n : Nat} {H : AH} {Q : Option Value → AH → Prop}
theorem c1 {x0 : Nat} {x1 : Int32} : Cl (pj lw) 1 [.ref x0, .int x1] H Q ↔ W (pj lw) 1 0 [.val (.ref x0), .val (.int x1), .unset] [] 0 0 H Q := cl_unf rfl
theorem w1_0 {x : Nat} : W (pj lw) 1 0 (.val (.ref x) :: L) S k n H Q ↔ W (pj lw) 1 1 (.val (.ref x) :: L) (.ref x :: S) k n H Q := W_s (rfl : (pj lw).1 1 0 = some (.aload_n 0, 1, 0)) rfl rfl rfl
theorem w1_1 {a : Nat} : W (pj lw) 1 1 L (.ref a :: S) k n H Q ↔ ((1 ≤ 1 ∧ cs S + 12 ≤ 12) ∧ W (pj lw) 1 4 L S k n H Q) := W_oinit (rfl : (pj lw).1 1 1 = some (.invokespecial 1, 3, (-1)))
theorem w1_4 {x : Nat} : W (pj lw) 1 4 (.val (.ref x) :: L) S k n H Q ↔ W (pj lw) 1 5 (.val (.ref x) :: L) (.ref x :: S) k n H Q := W_s (rfl : (pj lw).1 1 4 = some (.aload_n 0, 1, 0)) rfl rfl rfl
theorem w1_5 : W (pj lw) 1 5 L S k n H Q ↔ W (pj lw) 1 8 L (.int 576 :: S) k n H Q := W_s (rfl : (pj lw).1 1 5 = some (.sipush 576, 3, 0)) rfl rfl rfl
theorem w1_8 : W (pj lw) 1 8 L (.int 576 :: S) k n H Q ↔ ((k + 1 ≤ 10 ∧ n + 576 ≤ 2472) ∧ W (pj lw) 1 10 L (.ref H.1 :: S) (k + 1) (n + 576) (mkA .boolean 576 H) Q) := W_newarr' (rfl : (pj lw).1 1 8 = some (.newarray .boolean, 2, 0)) rfl (by decide) (by decide)
theorem w1_10 {a : Nat} {v : Value} : W (pj lw) 1 10 L (v :: .ref a :: S) k n H Q ↔ ((isOw H a = true ∧ okv (.array .boolean) v = true) ∧ W (pj lw) 1 13 L S k n (wr H a 2 v) Q) := W_putf (rfl : (pj lw).1 1 10 = some (.putfield 7, 3, 2))
theorem w1_13 {x : Nat} : W (pj lw) 1 13 (.val (.ref x) :: L) S k n H Q ↔ W (pj lw) 1 14 (.val (.ref x) :: L) (.ref x :: S) k n H Q := W_s (rfl : (pj lw).1 1 13 = some (.aload_n 0, 1, 0)) rfl rfl rfl
theorem w1_14 : W (pj lw) 1 14 L S k n H Q ↔ W (pj lw) 1 17 L (.int 576 :: S) k n H Q := W_s (rfl : (pj lw).1 1 14 = some (.sipush 576, 3, 0)) rfl rfl rfl
theorem w1_17 : W (pj lw) 1 17 L (.int 576 :: S) k n H Q ↔ ((k + 1 ≤ 10 ∧ n + 576 ≤ 2472) ∧ W (pj lw) 1 19 L (.ref H.1 :: S) (k + 1) (n + 576) (mkA .int 576 H) Q) := W_newarr' (rfl : (pj lw).1 1 17 = some (.newarray .int, 2, 0)) rfl (by decide) (by decide)
theorem w1_19 {a : Nat} {v : Value} : W (pj lw) 1 19 L (v :: .ref a :: S) k n H Q ↔ ((isOw H a = true ∧ okv (.array .int) v = true) ∧ W (pj lw) 1 22 L S k n (wr H a 3 v) Q) := W_putf (rfl : (pj lw).1 1 19 = some (.putfield 13, 3, 3))
theorem w1_22 {x : Nat} : W (pj lw) 1 22 (.val (.ref x) :: L) S k n H Q ↔ W (pj lw) 1 23 (.val (.ref x) :: L) (.ref x :: S) k n H Q := W_s (rfl : (pj lw).1 1 22 = some (.aload_n 0, 1, 0)) rfl rfl rfl
theorem w1_23 : W (pj lw) 1 23 L S k n H Q ↔ W (pj lw) 1 25 L (.int 24 :: S) k n H Q := W_s (rfl : (pj lw).1 1 23 = some (.bipush 24, 2, 0)) rfl rfl rfl
theorem w1_25 : W (pj lw) 1 25 L (.int 24 :: S) k n H Q ↔ ((k + 1 ≤ 10 ∧ n + 24 ≤ 2472) ∧ W (pj lw) 1 27 L (.ref H.1 :: S) (k + 1) (n + 24) (mkA .int 24 H) Q) := W_newarr' (rfl : (pj lw).1 1 25 = some (.newarray .int, 2, 0)) rfl (by decide) (by decide)
theorem w1_27 {a : Nat} {v : Value} : W (pj lw) 1 27 L (v :: .ref a :: S) k n H Q ↔ ((isOw H a = true ∧ okv (.array .int) v = true) ∧ W (pj lw) 1 30 L S k n (wr H a 8 v) Q) := W_putf (rfl : (pj lw).1 1 27 = some (.putfield 17, 3, 8))
theorem w1_30 {x : Nat} : W (pj lw) 1 30 (.val (.ref x) :: L) S k n H Q ↔ W (pj lw) 1 31 (.val (.ref x) :: L) (.ref x :: S) k n H Q := W_s (rfl : (pj lw).1 1 30 = some (.aload_n 0, 1, 0)) rfl rfl rfl
theorem w1_31 : W (pj lw) 1 31 L S k n H Q ↔ W (pj lw) 1 33 L (.int 24 :: S) k n H Q := W_s (rfl : (pj lw).1 1 31 = some (.bipush 24, 2, 0)) rfl rfl rfl
theorem w1_33 : W (pj lw) 1 33 L (.int 24 :: S) k n H Q ↔ ((k + 1 ≤ 10 ∧ n + 24 ≤ 2472) ∧ W (pj lw) 1 35 L (.ref H.1 :: S) (k + 1) (n + 24) (mkA .boolean 24 H) Q) := W_newarr' (rfl : (pj lw).1 1 33 = some (.newarray .boolean, 2, 0)) rfl (by decide) (by decide)
theorem w1_35 {a : Nat} {v : Value} : W (pj lw) 1 35 L (v :: .ref a :: S) k n H Q ↔ ((isOw H a = true ∧ okv (.array .boolean) v = true) ∧ W (pj lw) 1 38 L S k n (wr H a 9 v) Q) := W_putf (rfl : (pj lw).1 1 35 = some (.putfield 20, 3, 9))
theorem w1_38 {x : Nat} : W (pj lw) 1 38 (.val (.ref x) :: L) S k n H Q ↔ W (pj lw) 1 39 (.val (.ref x) :: L) (.ref x :: S) k n H Q := W_s (rfl : (pj lw).1 1 38 = some (.aload_n 0, 1, 0)) rfl rfl rfl
theorem w1_39 : W (pj lw) 1 39 L S k n H Q ↔ W (pj lw) 1 41 L (.int 24 :: S) k n H Q := W_s (rfl : (pj lw).1 1 39 = some (.bipush 24, 2, 0)) rfl rfl rfl
theorem w1_41 : W (pj lw) 1 41 L (.int 24 :: S) k n H Q ↔ ((k + 1 ≤ 10 ∧ n + 24 ≤ 2472) ∧ W (pj lw) 1 43 L (.ref H.1 :: S) (k + 1) (n + 24) (mkA .long 24 H) Q) := W_newarr' (rfl : (pj lw).1 1 41 = some (.newarray .long, 2, 0)) rfl (by decide) (by decide)
theorem w1_43 {a : Nat} {v : Value} : W (pj lw) 1 43 L (v :: .ref a :: S) k n H Q ↔ ((isOw H a = true ∧ okv (.array .long) v = true) ∧ W (pj lw) 1 46 L S k n (wr H a 10 v) Q) := W_putf (rfl : (pj lw).1 1 43 = some (.putfield 23, 3, 10))
theorem w1_46 {x : Nat} : W (pj lw) 1 46 (.val (.ref x) :: L) S k n H Q ↔ W (pj lw) 1 47 (.val (.ref x) :: L) (.ref x :: S) k n H Q := W_s (rfl : (pj lw).1 1 46 = some (.aload_n 0, 1, 0)) rfl rfl rfl
theorem w1_47 : W (pj lw) 1 47 L S k n H Q ↔ W (pj lw) 1 50 L (.int 600 :: S) k n H Q := W_s (rfl : (pj lw).1 1 47 = some (.sipush 600, 3, 0)) rfl rfl rfl
theorem w1_50 : W (pj lw) 1 50 L (.int 600 :: S) k n H Q ↔ ((k + 1 ≤ 10 ∧ n + 600 ≤ 2472) ∧ W (pj lw) 1 52 L (.ref H.1 :: S) (k + 1) (n + 600) (mkA .long 600 H) Q) := W_newarr' (rfl : (pj lw).1 1 50 = some (.newarray .long, 2, 0)) rfl (by decide) (by decide)
theorem w1_52 {a : Nat} {v : Value} : W (pj lw) 1 52 L (v :: .ref a :: S) k n H Q ↔ ((isOw H a = true ∧ okv (.array .long) v = true) ∧ W (pj lw) 1 55 L S k n (wr H a 11 v) Q) := W_putf (rfl : (pj lw).1 1 52 = some (.putfield 27, 3, 11))
theorem w1_55 {x : Nat} : W (pj lw) 1 55 (.val (.ref x) :: L) S k n H Q ↔ W (pj lw) 1 56 (.val (.ref x) :: L) (.ref x :: S) k n H Q := W_s (rfl : (pj lw).1 1 55 = some (.aload_n 0, 1, 0)) rfl rfl rfl
theorem w1_56 : W (pj lw) 1 56 L S k n H Q ↔ W (pj lw) 1 59 L (.int 576 :: S) k n H Q := W_s (rfl : (pj lw).1 1 56 = some (.sipush 576, 3, 0)) rfl rfl rfl
theorem w1_59 : W (pj lw) 1 59 L (.int 576 :: S) k n H Q ↔ ((k + 1 ≤ 10 ∧ n + 576 ≤ 2472) ∧ W (pj lw) 1 61 L (.ref H.1 :: S) (k + 1) (n + 576) (mkA .boolean 576 H) Q) := W_newarr' (rfl : (pj lw).1 1 59 = some (.newarray .boolean, 2, 0)) rfl (by decide) (by decide)
theorem w1_61 {a : Nat} {v : Value} : W (pj lw) 1 61 L (v :: .ref a :: S) k n H Q ↔ ((isOw H a = true ∧ okv (.array .boolean) v = true) ∧ W (pj lw) 1 64 L S k n (wr H a 12 v) Q) := W_putf (rfl : (pj lw).1 1 61 = some (.putfield 30, 3, 12))
theorem w1_64 {x : Nat} : W (pj lw) 1 64 (.val (.ref x) :: L) S k n H Q ↔ W (pj lw) 1 65 (.val (.ref x) :: L) (.ref x :: S) k n H Q := W_s (rfl : (pj lw).1 1 64 = some (.aload_n 0, 1, 0)) rfl rfl rfl
theorem w1_65 : W (pj lw) 1 65 L S k n H Q ↔ W (pj lw) 1 67 L (.int 24 :: S) k n H Q := W_s (rfl : (pj lw).1 1 65 = some (.bipush 24, 2, 0)) rfl rfl rfl
theorem w1_67 : W (pj lw) 1 67 L (.int 24 :: S) k n H Q ↔ ((k + 1 ≤ 10 ∧ n + 24 ≤ 2472) ∧ W (pj lw) 1 69 L (.ref H.1 :: S) (k + 1) (n + 24) (mkA .int 24 H) Q) := W_newarr' (rfl : (pj lw).1 1 67 = some (.newarray .int, 2, 0)) rfl (by decide) (by decide)
theorem w1_69 {a : Nat} {v : Value} : W (pj lw) 1 69 L (v :: .ref a :: S) k n H Q ↔ ((isOw H a = true ∧ okv (.array .int) v = true) ∧ W (pj lw) 1 72 L S k n (wr H a 13 v) Q) := W_putf (rfl : (pj lw).1 1 69 = some (.putfield 33, 3, 13))
theorem w1_72 {x : Nat} : W (pj lw) 1 72 (.val (.ref x) :: L) S k n H Q ↔ W (pj lw) 1 73 (.val (.ref x) :: L) (.ref x :: S) k n H Q := W_s (rfl : (pj lw).1 1 72 = some (.aload_n 0, 1, 0)) rfl rfl rfl
theorem w1_73 : W (pj lw) 1 73 L S k n H Q ↔ W (pj lw) 1 75 L (.int 24 :: S) k n H Q := W_s (rfl : (pj lw).1 1 73 = some (.bipush 24, 2, 0)) rfl rfl rfl
theorem w1_75 : W (pj lw) 1 75 L (.int 24 :: S) k n H Q ↔ ((k + 1 ≤ 10 ∧ n + 24 ≤ 2472) ∧ W (pj lw) 1 77 L (.ref H.1 :: S) (k + 1) (n + 24) (mkA .int 24 H) Q) := W_newarr' (rfl : (pj lw).1 1 75 = some (.newarray .int, 2, 0)) rfl (by decide) (by decide)
theorem w1_77 {a : Nat} {v : Value} : W (pj lw) 1 77 L (v :: .ref a :: S) k n H Q ↔ ((isOw H a = true ∧ okv (.array .int) v = true) ∧ W (pj lw) 1 80 L S k n (wr H a 14 v) Q) := W_putf (rfl : (pj lw).1 1 77 = some (.putfield 36, 3, 14))
theorem w1_80 {x : Nat} : W (pj lw) 1 80 (.val (.ref x) :: L) S k n H Q ↔ W (pj lw) 1 81 (.val (.ref x) :: L) (.ref x :: S) k n H Q := W_s (rfl : (pj lw).1 1 80 = some (.aload_n 0, 1, 0)) rfl rfl rfl
theorem w1_81 : W (pj lw) 1 81 L S k n H Q ↔ W (pj lw) 1 83 L (.int 24 :: S) k n H Q := W_s (rfl : (pj lw).1 1 81 = some (.bipush 24, 2, 0)) rfl rfl rfl
theorem w1_83 : W (pj lw) 1 83 L (.int 24 :: S) k n H Q ↔ ((k + 1 ≤ 10 ∧ n + 24 ≤ 2472) ∧ W (pj lw) 1 85 L (.ref H.1 :: S) (k + 1) (n + 24) (mkA .int 24 H) Q) := W_newarr' (rfl : (pj lw).1 1 83 = some (.newarray .int, 2, 0)) rfl (by decide) (by decide)
theorem w1_85 {a : Nat} {v : Value} : W (pj lw) 1 85 L (v :: .ref a :: S) k n H Q ↔ ((isOw H a = true ∧ okv (.array .int) v = true) ∧ W (pj lw) 1 88 L S k n (wr H a 15 v) Q) := W_putf (rfl : (pj lw).1 1 85 = some (.putfield 39, 3, 15))
theorem w1_88 {x : Nat} : W (pj lw) 1 88 (.val (.ref x) :: L) S k n H Q ↔ W (pj lw) 1 89 (.val (.ref x) :: L) (.ref x :: S) k n H Q := W_s (rfl : (pj lw).1 1 88 = some (.aload_n 0, 1, 0)) rfl rfl rfl
theorem w1_89 : W (pj lw) 1 89 L S k n H Q ↔ W (pj lw) 1 92 L (.long 4000000000000000000 :: S) k n H Q := W_s (rfl : (pj lw).1 1 89 = some (.ldc2_w 42, 3, 4000000000000000000)) rfl rfl rfl
theorem w1_92 {a : Nat} {v : Value} : W (pj lw) 1 92 L (v :: .ref a :: S) k n H Q ↔ ((isOw H a = true ∧ okv (.long) v = true) ∧ W (pj lw) 1 95 L S k n (wr H a 16 v) Q) := W_putf (rfl : (pj lw).1 1 92 = some (.putfield 44, 3, 16))
theorem w1_95 {x : Int32} {l0 : Slot} : W (pj lw) 1 95 (l0 :: .val (.int x) :: L) S k n H Q ↔ W (pj lw) 1 96 (l0 :: .val (.int x) :: L) (.int x :: S) k n H Q := W_s (rfl : (pj lw).1 1 95 = some (.iload_n 1, 1, 0)) rfl rfl rfl
theorem w1_96 {x : Int32} {l0 l1 : Slot} : W (pj lw) 1 96 (l0 :: l1 :: .unset :: L) (.int x :: S) k n H Q ↔ W (pj lw) 1 97 (l0 :: l1 :: .val (.int x) :: L) S k n H Q := W_istn (rfl : (pj lw).1 1 96 = some (.istore_n 2, 1, 0)) rfl rfl
theorem w1_97 {x : Int32} {l0 l1 : Slot} : W (pj lw) 1 97 (l0 :: l1 :: .val (.int x) :: L) S k n H Q ↔ W (pj lw) 1 98 (l0 :: l1 :: .val (.int x) :: L) (.int x :: S) k n H Q := W_s (rfl : (pj lw).1 1 97 = some (.iload_n 2, 1, 0)) rfl rfl rfl
theorem w1_98 : W (pj lw) 1 98 L S k n H Q ↔ W (pj lw) 1 99 L (.int 1 :: S) k n H Q := W_s (rfl : (pj lw).1 1 98 = some (.iconst 1, 1, 0)) rfl rfl rfl
theorem w1_99 {x y : Int32} : W (pj lw) 1 99 L (.int y :: .int x :: S) k n H Q ↔ (if x < y then W (pj lw) 1 102 L S k n H Q else W (pj lw) 1 104 L S k n H Q) := W_icmp_ge (rfl : (pj lw).1 1 99 = some (.if_icmp .ge 5, 3, 0)) rfl
theorem w1_102 : W (pj lw) 1 102 L S k n H Q ↔ W (pj lw) 1 103 L (.int 1 :: S) k n H Q := W_s (rfl : (pj lw).1 1 102 = some (.iconst 1, 1, 0)) rfl rfl rfl
theorem w1_103i {y : Int32} {x : Int32} {l0 l1 : Slot} : W (pj lw) 1 103 (l0 :: l1 :: .val (.int y) :: L) (.int x :: S) k n H Q ↔ W (pj lw) 1 104 (l0 :: l1 :: .val (.int x) :: L) S k n H Q := W_istn (rfl : (pj lw).1 1 103 = some (.istore_n 2, 1, 0)) rfl rfl
theorem w1_104 {x : Int32} {l0 l1 : Slot} : W (pj lw) 1 104 (l0 :: l1 :: .val (.int x) :: L) S k n H Q ↔ W (pj lw) 1 105 (l0 :: l1 :: .val (.int x) :: L) (.int x :: S) k n H Q := W_s (rfl : (pj lw).1 1 104 = some (.iload_n 2, 1, 0)) rfl rfl rfl
theorem w1_105 : W (pj lw) 1 105 L S k n H Q ↔ W (pj lw) 1 107 L (.int 24 :: S) k n H Q := W_s (rfl : (pj lw).1 1 105 = some (.bipush 24, 2, 0)) rfl rfl rfl
theorem w1_107 {x y : Int32} : W (pj lw) 1 107 L (.int y :: .int x :: S) k n H Q ↔ (if y < x then W (pj lw) 1 110 L S k n H Q else W (pj lw) 1 113 L S k n H Q) := W_icmp_le (rfl : (pj lw).1 1 107 = some (.if_icmp .le 6, 3, 0)) rfl
theorem w1_110 : W (pj lw) 1 110 L S k n H Q ↔ W (pj lw) 1 112 L (.int 24 :: S) k n H Q := W_s (rfl : (pj lw).1 1 110 = some (.bipush 24, 2, 0)) rfl rfl rfl
theorem w1_112i {y : Int32} {x : Int32} {l0 l1 : Slot} : W (pj lw) 1 112 (l0 :: l1 :: .val (.int y) :: L) (.int x :: S) k n H Q ↔ W (pj lw) 1 113 (l0 :: l1 :: .val (.int x) :: L) S k n H Q := W_istn (rfl : (pj lw).1 1 112 = some (.istore_n 2, 1, 0)) rfl rfl
theorem w1_113 {x : Nat} : W (pj lw) 1 113 (.val (.ref x) :: L) S k n H Q ↔ W (pj lw) 1 114 (.val (.ref x) :: L) (.ref x :: S) k n H Q := W_s (rfl : (pj lw).1 1 113 = some (.aload_n 0, 1, 0)) rfl rfl rfl
theorem w1_114 {x : Int32} {l0 l1 : Slot} : W (pj lw) 1 114 (l0 :: l1 :: .val (.int x) :: L) S k n H Q ↔ W (pj lw) 1 115 (l0 :: l1 :: .val (.int x) :: L) (.int x :: S) k n H Q := W_s (rfl : (pj lw).1 1 114 = some (.iload_n 2, 1, 0)) rfl rfl rfl
theorem w1_115 {a : Nat} {v : Value} : W (pj lw) 1 115 L (v :: .ref a :: S) k n H Q ↔ ((isOw H a = true ∧ okv (.int) v = true) ∧ W (pj lw) 1 118 L S k n (wr H a 0 v) Q) := W_putf (rfl : (pj lw).1 1 115 = some (.putfield 48, 3, 0))
theorem w1_118 : W (pj lw) 1 118 L [] k n H Q ↔ Q none H := W_r (rfl : (pj lw).1 1 118 = some (.return_, 1, 0)) rfl
theorem c2 {x0 : Nat} {x1 : Int32} : Cl (pj lw) 2 [.ref x0, .int x1] H Q ↔ W (pj lw) 2 0 [.val (.ref x0), .val (.int x1)] [] 0 0 H Q := cl_unf rfl
theorem w2_0 {x : Int32} {l0 : Slot} : W (pj lw) 2 0 (l0 :: .val (.int x) :: L) S k n H Q ↔ W (pj lw) 2 1 (l0 :: .val (.int x) :: L) (.int x :: S) k n H Q := W_s (rfl : (pj lw).1 2 0 = some (.iload_n 1, 1, 0)) rfl rfl rfl
theorem w2_1 {x : Int32} : W (pj lw) 2 1 L (.int x :: S) k n H Q ↔ (if x < 0 then W (pj lw) 2 16 L S k n H Q else W (pj lw) 2 4 L S k n H Q) := W_if_lt (rfl : (pj lw).1 2 1 = some (.ifCond .lt 15, 3, 0)) rfl
theorem w2_4 {x : Int32} {l0 : Slot} : W (pj lw) 2 4 (l0 :: .val (.int x) :: L) S k n H Q ↔ W (pj lw) 2 5 (l0 :: .val (.int x) :: L) (.int x :: S) k n H Q := W_s (rfl : (pj lw).1 2 4 = some (.iload_n 1, 1, 0)) rfl rfl rfl
theorem w2_5 {x : Nat} : W (pj lw) 2 5 (.val (.ref x) :: L) S k n H Q ↔ W (pj lw) 2 6 (.val (.ref x) :: L) (.ref x :: S) k n H Q := W_s (rfl : (pj lw).1 2 5 = some (.aload_n 0, 1, 0)) rfl rfl rfl
theorem w2_6 {a : Nat} : W (pj lw) 2 6 L (.ref a :: S) k n H Q ↔ (isO H a = true ∧ W (pj lw) 2 9 L (fld H a 0 :: S) k n H Q) := W_getf (rfl : (pj lw).1 2 6 = some (.getfield 48, 3, 0))
theorem w2_9 {x y : Int32} : W (pj lw) 2 9 L (.int y :: .int x :: S) k n H Q ↔ (if x < y then W (pj lw) 2 12 L S k n H Q else W (pj lw) 2 16 L S k n H Q) := W_icmp_ge (rfl : (pj lw).1 2 9 = some (.if_icmp .ge 7, 3, 0)) rfl
theorem w2_12 : W (pj lw) 2 12 L S k n H Q ↔ W (pj lw) 2 13 L (.int 1 :: S) k n H Q := W_s (rfl : (pj lw).1 2 12 = some (.iconst 1, 1, 0)) rfl rfl rfl
theorem w2_13 : W (pj lw) 2 13 L S k n H Q ↔ W (pj lw) 2 17 L S k n H Q := W_goto (rfl : (pj lw).1 2 13 = some (.goto 4, 3, 0)) rfl
theorem w2_17 {x : Int32} : W (pj lw) 2 17 L (.int x :: S) k n H Q ↔ ((x = 0 ∨ x = 1) ∧ Q (some (.int x)) H) := W_rz (rfl : (pj lw).1 2 17 = some (.ireturn, 1, 0)) rfl
theorem c3 {x0 : Nat} {x1 : Int32} : Cl (pj lw) 3 [.ref x0, .int x1] H Q ↔ W (pj lw) 3 0 [.val (.ref x0), .val (.int x1)] [] 0 0 H Q := cl_unf rfl
theorem w3_0 {x : Int32} {l0 : Slot} : W (pj lw) 3 0 (l0 :: .val (.int x) :: L) S k n H Q ↔ W (pj lw) 3 1 (l0 :: .val (.int x) :: L) (.int x :: S) k n H Q := W_s (rfl : (pj lw).1 3 0 = some (.iload_n 1, 1, 0)) rfl rfl rfl
theorem w3_1 : W (pj lw) 3 1 L S k n H Q ↔ W (pj lw) 3 4 L (.int (-10000) :: S) k n H Q := W_s (rfl : (pj lw).1 3 1 = some (.sipush (-10000), 3, 0)) rfl rfl rfl
theorem w3_4 {x y : Int32} : W (pj lw) 3 4 L (.int y :: .int x :: S) k n H Q ↔ (if x < y then W (pj lw) 3 18 L S k n H Q else W (pj lw) 3 7 L S k n H Q) := W_icmp_lt (rfl : (pj lw).1 3 4 = some (.if_icmp .lt 14, 3, 0)) rfl
theorem w3_7 {x : Int32} {l0 : Slot} : W (pj lw) 3 7 (l0 :: .val (.int x) :: L) S k n H Q ↔ W (pj lw) 3 8 (l0 :: .val (.int x) :: L) (.int x :: S) k n H Q := W_s (rfl : (pj lw).1 3 7 = some (.iload_n 1, 1, 0)) rfl rfl rfl
theorem w3_8 : W (pj lw) 3 8 L S k n H Q ↔ W (pj lw) 3 11 L (.int 10000 :: S) k n H Q := W_s (rfl : (pj lw).1 3 8 = some (.sipush 10000, 3, 0)) rfl rfl rfl
theorem w3_11 {x y : Int32} : W (pj lw) 3 11 L (.int y :: .int x :: S) k n H Q ↔ (if y < x then W (pj lw) 3 18 L S k n H Q else W (pj lw) 3 14 L S k n H Q) := W_icmp_gt (rfl : (pj lw).1 3 11 = some (.if_icmp .gt 7, 3, 0)) rfl
theorem w3_14 : W (pj lw) 3 14 L S k n H Q ↔ W (pj lw) 3 15 L (.int 1 :: S) k n H Q := W_s (rfl : (pj lw).1 3 14 = some (.iconst 1, 1, 0)) rfl rfl rfl
theorem w3_15 : W (pj lw) 3 15 L S k n H Q ↔ W (pj lw) 3 19 L S k n H Q := W_goto (rfl : (pj lw).1 3 15 = some (.goto 4, 3, 0)) rfl
theorem w3_19 {x : Int32} : W (pj lw) 3 19 L (.int x :: S) k n H Q ↔ ((x = 0 ∨ x = 1) ∧ Q (some (.int x)) H) := W_rz (rfl : (pj lw).1 3 19 = some (.ireturn, 1, 0)) rfl
theorem c4 {x0 : Nat} : Cl (pj lw) 4 [.ref x0] H Q ↔ W (pj lw) 4 0 [.val (.ref x0)] [] 0 0 H Q := cl_unf rfl
theorem w4_0 {x : Nat} : W (pj lw) 4 0 (.val (.ref x) :: L) S k n H Q ↔ W (pj lw) 4 1 (.val (.ref x) :: L) (.ref x :: S) k n H Q := W_s (rfl : (pj lw).1 4 0 = some (.aload_n 0, 1, 0)) rfl rfl rfl
theorem w4_1 : W (pj lw) 4 1 L S k n H Q ↔ W (pj lw) 4 2 L (.int 0 :: S) k n H Q := W_s (rfl : (pj lw).1 4 1 = some (.iconst 0, 1, 0)) rfl rfl rfl
theorem w4_2 {a : Nat} {v : Value} : W (pj lw) 4 2 L (v :: .ref a :: S) k n H Q ↔ ((isOw H a = true ∧ okv (.boolean) v = true) ∧ W (pj lw) 4 5 L S k n (wr H a 4 v) Q) := W_putf (rfl : (pj lw).1 4 2 = some (.putfield 52, 3, 4))
theorem w4_5 {x : Nat} : W (pj lw) 4 5 (.val (.ref x) :: L) S k n H Q ↔ W (pj lw) 4 6 (.val (.ref x) :: L) (.ref x :: S) k n H Q := W_s (rfl : (pj lw).1 4 5 = some (.aload_n 0, 1, 0)) rfl rfl rfl
theorem w4_6 : W (pj lw) 4 6 L S k n H Q ↔ W (pj lw) 4 7 L (.int 0 :: S) k n H Q := W_s (rfl : (pj lw).1 4 6 = some (.iconst 0, 1, 0)) rfl rfl rfl
theorem w4_7 {a : Nat} {v : Value} : W (pj lw) 4 7 L (v :: .ref a :: S) k n H Q ↔ ((isOw H a = true ∧ okv (.boolean) v = true) ∧ W (pj lw) 4 10 L S k n (wr H a 5 v) Q) := W_putf (rfl : (pj lw).1 4 7 = some (.putfield 56, 3, 5))
theorem w4_10 : W (pj lw) 4 10 L [] k n H Q ↔ Q none H := W_r (rfl : (pj lw).1 4 10 = some (.return_, 1, 0)) rfl
theorem c5 {x0 : Nat} {x1 : Int32} {x2 : Int32} {x3 : Int32} : Cl (pj lw) 5 [.ref x0, .int x1, .int x2, .int x3] H Q ↔ W (pj lw) 5 0 [.val (.ref x0), .val (.int x1), .val (.int x2), .val (.int x3), .unset] [] 0 0 H Q := cl_unf rfl
theorem w5_0 {x : Nat} : W (pj lw) 5 0 (.val (.ref x) :: L) S k n H Q ↔ W (pj lw) 5 1 (.val (.ref x) :: L) (.ref x :: S) k n H Q := W_s (rfl : (pj lw).1 5 0 = some (.aload_n 0, 1, 0)) rfl rfl rfl
theorem w5_1 {x : Int32} {l0 : Slot} : W (pj lw) 5 1 (l0 :: .val (.int x) :: L) S k n H Q ↔ W (pj lw) 5 2 (l0 :: .val (.int x) :: L) (.int x :: S) k n H Q := W_s (rfl : (pj lw).1 5 1 = some (.iload_n 1, 1, 0)) rfl rfl rfl
theorem w5_2 {a : Nat} {x0 : Int32} : W (pj lw) 5 2 L (.int x0 :: .ref a :: S) k n H Q ↔ ((isO H a = true ∧ cs S + (2 + 11) + 0 ≤ 13) ∧ Cl (pj lw) 2 [.ref a, .int x0] H (fun v H => W (pj lw) 5 5 L (v.toList ++ S) k n H Q)) := W_inst (as := [.int x0]) (rfl : (pj lw).1 5 2 = some (.invokevirtual 59, 3, 2)) rfl rfl rfl (Nat.le_of_ble_eq_true rfl) (Nat.le_of_ble_eq_true rfl) ⟨rfl, rfl⟩
theorem w5_5 {x : Int32} : W (pj lw) 5 5 L (.int x :: S) k n H Q ↔ (if x = 0 then W (pj lw) 5 16 L S k n H Q else W (pj lw) 5 8 L S k n H Q) := W_if_eq (rfl : (pj lw).1 5 5 = some (.ifCond .eq 11, 3, 0)) rfl
theorem w5_8 {x : Nat} : W (pj lw) 5 8 (.val (.ref x) :: L) S k n H Q ↔ W (pj lw) 5 9 (.val (.ref x) :: L) (.ref x :: S) k n H Q := W_s (rfl : (pj lw).1 5 8 = some (.aload_n 0, 1, 0)) rfl rfl rfl
theorem w5_9 {x : Int32} {l0 l1 : Slot} : W (pj lw) 5 9 (l0 :: l1 :: .val (.int x) :: L) S k n H Q ↔ W (pj lw) 5 10 (l0 :: l1 :: .val (.int x) :: L) (.int x :: S) k n H Q := W_s (rfl : (pj lw).1 5 9 = some (.iload_n 2, 1, 0)) rfl rfl rfl
theorem w5_10 {a : Nat} {x0 : Int32} : W (pj lw) 5 10 L (.int x0 :: .ref a :: S) k n H Q ↔ ((isO H a = true ∧ cs S + (2 + 11) + 0 ≤ 13) ∧ Cl (pj lw) 2 [.ref a, .int x0] H (fun v H => W (pj lw) 5 13 L (v.toList ++ S) k n H Q)) := W_inst (as := [.int x0]) (rfl : (pj lw).1 5 10 = some (.invokevirtual 59, 3, 2)) rfl rfl rfl (Nat.le_of_ble_eq_true rfl) (Nat.le_of_ble_eq_true rfl) ⟨rfl, rfl⟩
theorem w5_13 {x : Int32} : W (pj lw) 5 13 L (.int x :: S) k n H Q ↔ (if x = 0 then W (pj lw) 5 16 L S k n H Q else W (pj lw) 5 18 L S k n H Q) := W_if_ne (rfl : (pj lw).1 5 13 = some (.ifCond .ne 5, 3, 0)) rfl
theorem w5_18 {x : Nat} : W (pj lw) 5 18 (.val (.ref x) :: L) S k n H Q ↔ W (pj lw) 5 19 (.val (.ref x) :: L) (.ref x :: S) k n H Q := W_s (rfl : (pj lw).1 5 18 = some (.aload_n 0, 1, 0)) rfl rfl rfl
theorem w5_19 {x : Int32} {l0 l1 l2 : Slot} : W (pj lw) 5 19 (l0 :: l1 :: l2 :: .val (.int x) :: L) S k n H Q ↔ W (pj lw) 5 20 (l0 :: l1 :: l2 :: .val (.int x) :: L) (.int x :: S) k n H Q := W_s (rfl : (pj lw).1 5 19 = some (.iload_n 3, 1, 0)) rfl rfl rfl
theorem w5_20 {a : Nat} {x0 : Int32} : W (pj lw) 5 20 L (.int x0 :: .ref a :: S) k n H Q ↔ ((isO H a = true ∧ cs S + (2 + 11) + 0 ≤ 13) ∧ Cl (pj lw) 3 [.ref a, .int x0] H (fun v H => W (pj lw) 5 23 L (v.toList ++ S) k n H Q)) := W_inst (as := [.int x0]) (rfl : (pj lw).1 5 20 = some (.invokevirtual 63, 3, 3)) rfl rfl rfl (Nat.le_of_ble_eq_true rfl) (Nat.le_of_ble_eq_true rfl) ⟨rfl, rfl⟩
theorem w5_23 {x : Int32} : W (pj lw) 5 23 L (.int x :: S) k n H Q ↔ (if x = 0 then W (pj lw) 5 26 L S k n H Q else W (pj lw) 5 28 L S k n H Q) := W_if_ne (rfl : (pj lw).1 5 23 = some (.ifCond .ne 5, 3, 0)) rfl
theorem w5_28 {x : Int32} {l0 : Slot} : W (pj lw) 5 28 (l0 :: .val (.int x) :: L) S k n H Q ↔ W (pj lw) 5 29 (l0 :: .val (.int x) :: L) (.int x :: S) k n H Q := W_s (rfl : (pj lw).1 5 28 = some (.iload_n 1, 1, 0)) rfl rfl rfl
theorem w5_29 : W (pj lw) 5 29 L S k n H Q ↔ W (pj lw) 5 31 L (.int 24 :: S) k n H Q := W_s (rfl : (pj lw).1 5 29 = some (.bipush 24, 2, 0)) rfl rfl rfl
theorem w5_31 {x y : Int32} : W (pj lw) 5 31 L (.int y :: .int x :: S) k n H Q ↔ W (pj lw) 5 32 L (.int (x * y) :: S) k n H Q := W_s (rfl : (pj lw).1 5 31 = some (.imul, 1, 0)) rfl rfl rfl
theorem w5_32 {x : Int32} {l0 l1 : Slot} : W (pj lw) 5 32 (l0 :: l1 :: .val (.int x) :: L) S k n H Q ↔ W (pj lw) 5 33 (l0 :: l1 :: .val (.int x) :: L) (.int x :: S) k n H Q := W_s (rfl : (pj lw).1 5 32 = some (.iload_n 2, 1, 0)) rfl rfl rfl
theorem w5_33 {x y : Int32} : W (pj lw) 5 33 L (.int y :: .int x :: S) k n H Q ↔ W (pj lw) 5 34 L (.int (x + y) :: S) k n H Q := W_s (rfl : (pj lw).1 5 33 = some (.iadd, 1, 0)) rfl rfl rfl
theorem w5_34 {x : Int32} {l0 l1 l2 l3 : Slot} : W (pj lw) 5 34 (l0 :: l1 :: l2 :: l3 :: .unset :: L) (.int x :: S) k n H Q ↔ W (pj lw) 5 36 (l0 :: l1 :: l2 :: l3 :: .val (.int x) :: L) S k n H Q := W_ist (rfl : (pj lw).1 5 34 = some (.istore 4, 2, 0)) rfl rfl
theorem w5_36 {x : Nat} : W (pj lw) 5 36 (.val (.ref x) :: L) S k n H Q ↔ W (pj lw) 5 37 (.val (.ref x) :: L) (.ref x :: S) k n H Q := W_s (rfl : (pj lw).1 5 36 = some (.aload_n 0, 1, 0)) rfl rfl rfl
theorem w5_37 {a : Nat} : W (pj lw) 5 37 L (.ref a :: S) k n H Q ↔ (isO H a = true ∧ W (pj lw) 5 40 L (fld H a 2 :: S) k n H Q) := W_getf (rfl : (pj lw).1 5 37 = some (.getfield 7, 3, 2))
theorem w5_40 {x : Int32} {l0 l1 l2 l3 : Slot} : W (pj lw) 5 40 (l0 :: l1 :: l2 :: l3 :: .val (.int x) :: L) S k n H Q ↔ W (pj lw) 5 42 (l0 :: l1 :: l2 :: l3 :: .val (.int x) :: L) (.int x :: S) k n H Q := W_s (rfl : (pj lw).1 5 40 = some (.iload 4, 2, 0)) rfl rfl rfl
theorem w5_42 {i : Int32} {a : Nat} : W (pj lw) 5 42 L (.int i :: .ref a :: S) k n H Q ↔ ((inA H a .byte i = true ∨ inA H a .boolean i = true) ∧ W (pj lw) 5 43 L (elt H a i :: S) k n H Q) := W_baload (rfl : (pj lw).1 5 42 = some (.baload, 1, 0))
theorem w5_43 {x : Int32} : W (pj lw) 5 43 L (.int x :: S) k n H Q ↔ (if x = 0 then W (pj lw) 5 48 L S k n H Q else W (pj lw) 5 46 L S k n H Q) := W_if_eq (rfl : (pj lw).1 5 43 = some (.ifCond .eq 5, 3, 0)) rfl
theorem w5_48 {x : Nat} : W (pj lw) 5 48 (.val (.ref x) :: L) S k n H Q ↔ W (pj lw) 5 49 (.val (.ref x) :: L) (.ref x :: S) k n H Q := W_s (rfl : (pj lw).1 5 48 = some (.aload_n 0, 1, 0)) rfl rfl rfl
theorem w5_49 {a : Nat} : W (pj lw) 5 49 L (.ref a :: S) k n H Q ↔ (isO H a = true ∧ W (pj lw) 5 52 L (fld H a 1 :: S) k n H Q) := W_getf (rfl : (pj lw).1 5 49 = some (.getfield 66, 3, 1))
theorem w5_52 : W (pj lw) 5 52 L S k n H Q ↔ W (pj lw) 5 54 L (.int 96 :: S) k n H Q := W_s (rfl : (pj lw).1 5 52 = some (.bipush 96, 2, 0)) rfl rfl rfl
theorem w5_54 {x y : Int32} : W (pj lw) 5 54 L (.int y :: .int x :: S) k n H Q ↔ (if x < y then W (pj lw) 5 59 L S k n H Q else W (pj lw) 5 57 L S k n H Q) := W_icmp_lt (rfl : (pj lw).1 5 54 = some (.if_icmp .lt 5, 3, 0)) rfl
theorem w5_59 {x : Nat} : W (pj lw) 5 59 (.val (.ref x) :: L) S k n H Q ↔ W (pj lw) 5 60 (.val (.ref x) :: L) (.ref x :: S) k n H Q := W_s (rfl : (pj lw).1 5 59 = some (.aload_n 0, 1, 0)) rfl rfl rfl
theorem w5_60 {a : Nat} : W (pj lw) 5 60 L (.ref a :: S) k n H Q ↔ (isO H a = true ∧ W (pj lw) 5 63 L (fld H a 2 :: S) k n H Q) := W_getf (rfl : (pj lw).1 5 60 = some (.getfield 7, 3, 2))
theorem w5_63 {x : Int32} {l0 l1 l2 l3 : Slot} : W (pj lw) 5 63 (l0 :: l1 :: l2 :: l3 :: .val (.int x) :: L) S k n H Q ↔ W (pj lw) 5 65 (l0 :: l1 :: l2 :: l3 :: .val (.int x) :: L) (.int x :: S) k n H Q := W_s (rfl : (pj lw).1 5 63 = some (.iload 4, 2, 0)) rfl rfl rfl
theorem w5_65 : W (pj lw) 5 65 L S k n H Q ↔ W (pj lw) 5 66 L (.int 1 :: S) k n H Q := W_s (rfl : (pj lw).1 5 65 = some (.iconst 1, 1, 0)) rfl rfl rfl
theorem w5_66 {x i : Int32} {a : Nat} : W (pj lw) 5 66 L (.int x :: .int i :: .ref a :: S) k n H Q ↔ (((inAw H a .byte i = true ∧ okv .byte (.int x) = true) ∨ (inAw H a .boolean i = true ∧ okv .boolean (.int x) = true)) ∧ W (pj lw) 5 67 L S k n (wr H a i.toNatClampNeg (.int x)) Q) := W_bastore (rfl : (pj lw).1 5 66 = some (.bastore, 1, 0))
theorem w5_67 {x : Nat} : W (pj lw) 5 67 (.val (.ref x) :: L) S k n H Q ↔ W (pj lw) 5 68 (.val (.ref x) :: L) (.ref x :: S) k n H Q := W_s (rfl : (pj lw).1 5 67 = some (.aload_n 0, 1, 0)) rfl rfl rfl
theorem w5_68 {a : Nat} : W (pj lw) 5 68 L (.ref a :: S) k n H Q ↔ (isO H a = true ∧ W (pj lw) 5 71 L (fld H a 3 :: S) k n H Q) := W_getf (rfl : (pj lw).1 5 68 = some (.getfield 13, 3, 3))
theorem w5_71 {x : Int32} {l0 l1 l2 l3 : Slot} : W (pj lw) 5 71 (l0 :: l1 :: l2 :: l3 :: .val (.int x) :: L) S k n H Q ↔ W (pj lw) 5 73 (l0 :: l1 :: l2 :: l3 :: .val (.int x) :: L) (.int x :: S) k n H Q := W_s (rfl : (pj lw).1 5 71 = some (.iload 4, 2, 0)) rfl rfl rfl
theorem w5_73 {x : Int32} {l0 l1 l2 : Slot} : W (pj lw) 5 73 (l0 :: l1 :: l2 :: .val (.int x) :: L) S k n H Q ↔ W (pj lw) 5 74 (l0 :: l1 :: l2 :: .val (.int x) :: L) (.int x :: S) k n H Q := W_s (rfl : (pj lw).1 5 73 = some (.iload_n 3, 1, 0)) rfl rfl rfl
theorem w5_74 {x i : Int32} {a : Nat} : W (pj lw) 5 74 L (.int x :: .int i :: .ref a :: S) k n H Q ↔ (inAw H a .int i = true ∧ W (pj lw) 5 75 L S k n (wr H a i.toNatClampNeg (.int x)) Q) := W_iastore (rfl : (pj lw).1 5 74 = some (.iastore, 1, 0))
theorem w5_75 {x : Nat} : W (pj lw) 5 75 (.val (.ref x) :: L) S k n H Q ↔ W (pj lw) 5 76 (.val (.ref x) :: L) (.ref x :: S) k n H Q := W_s (rfl : (pj lw).1 5 75 = some (.aload_n 0, 1, 0)) rfl rfl rfl
theorem w5_76 {x : Nat} : W (pj lw) 5 76 L (.ref x :: S) k n H Q ↔ W (pj lw) 5 77 L (.ref x :: .ref x :: S) k n H Q := W_s (rfl : (pj lw).1 5 76 = some (.dup, 1, 0)) rfl rfl rfl
theorem w5_77 {a : Nat} : W (pj lw) 5 77 L (.ref a :: S) k n H Q ↔ (isO H a = true ∧ W (pj lw) 5 80 L (fld H a 1 :: S) k n H Q) := W_getf (rfl : (pj lw).1 5 77 = some (.getfield 66, 3, 1))
theorem w5_80 : W (pj lw) 5 80 L S k n H Q ↔ W (pj lw) 5 81 L (.int 1 :: S) k n H Q := W_s (rfl : (pj lw).1 5 80 = some (.iconst 1, 1, 0)) rfl rfl rfl
theorem w5_81 {x y : Int32} : W (pj lw) 5 81 L (.int y :: .int x :: S) k n H Q ↔ W (pj lw) 5 82 L (.int (x + y) :: S) k n H Q := W_s (rfl : (pj lw).1 5 81 = some (.iadd, 1, 0)) rfl rfl rfl
theorem w5_82 {a : Nat} {v : Value} : W (pj lw) 5 82 L (v :: .ref a :: S) k n H Q ↔ ((isOw H a = true ∧ okv (.int) v = true) ∧ W (pj lw) 5 85 L S k n (wr H a 1 v) Q) := W_putf (rfl : (pj lw).1 5 82 = some (.putfield 66, 3, 1))
theorem w5_85 {x : Nat} : W (pj lw) 5 85 (.val (.ref x) :: L) S k n H Q ↔ W (pj lw) 5 86 (.val (.ref x) :: L) (.ref x :: S) k n H Q := W_s (rfl : (pj lw).1 5 85 = some (.aload_n 0, 1, 0)) rfl rfl rfl
theorem w5_86 {a : Nat} : W (pj lw) 5 86 L (.ref a :: S) k n H Q ↔ ((isO H a = true ∧ cs S + (1 + 11) + 0 ≤ 13) ∧ Cl (pj lw) 4 [.ref a] H (fun v H => W (pj lw) 5 89 L (v.toList ++ S) k n H Q)) := W_inst (as := []) (rfl : (pj lw).1 5 86 = some (.invokevirtual 69, 3, 4)) rfl rfl rfl (Nat.le_of_ble_eq_true rfl) (Nat.le_of_ble_eq_true rfl) ⟨rfl, rfl⟩
theorem w5_89 : W (pj lw) 5 89 L S k n H Q ↔ W (pj lw) 5 90 L (.int 0 :: S) k n H Q := W_s (rfl : (pj lw).1 5 89 = some (.iconst 0, 1, 0)) rfl rfl rfl
theorem w5_90 {x : Int32} : W (pj lw) 5 90 L (.int x :: S) k n H Q ↔ Q (some (.int x)) H := W_r (rfl : (pj lw).1 5 90 = some (.ireturn, 1, 0)) rfl
theorem c8 {x0 : Nat} {x1 : Int32} {x2 : Int32} : Cl (pj lw) 8 [.ref x0, .int x1, .int x2] H Q ↔ W (pj lw) 8 0 [.val (.ref x0), .val (.int x1), .val (.int x2)] [] 0 0 H Q := cl_unf rfl
theorem w8_0 {x : Nat} : W (pj lw) 8 0 (.val (.ref x) :: L) S k n H Q ↔ W (pj lw) 8 1 (.val (.ref x) :: L) (.ref x :: S) k n H Q := W_s (rfl : (pj lw).1 8 0 = some (.aload_n 0, 1, 0)) rfl rfl rfl
theorem w8_1 {x : Int32} {l0 : Slot} : W (pj lw) 8 1 (l0 :: .val (.int x) :: L) S k n H Q ↔ W (pj lw) 8 2 (l0 :: .val (.int x) :: L) (.int x :: S) k n H Q := W_s (rfl : (pj lw).1 8 1 = some (.iload_n 1, 1, 0)) rfl rfl rfl
theorem w8_2 {a : Nat} {x0 : Int32} : W (pj lw) 8 2 L (.int x0 :: .ref a :: S) k n H Q ↔ ((isO H a = true ∧ cs S + (2 + 11) + 0 ≤ 13) ∧ Cl (pj lw) 2 [.ref a, .int x0] H (fun v H => W (pj lw) 8 5 L (v.toList ++ S) k n H Q)) := W_inst (as := [.int x0]) (rfl : (pj lw).1 8 2 = some (.invokevirtual 59, 3, 2)) rfl rfl rfl (Nat.le_of_ble_eq_true rfl) (Nat.le_of_ble_eq_true rfl) ⟨rfl, rfl⟩
theorem w8_5 {x : Int32} : W (pj lw) 8 5 L (.int x :: S) k n H Q ↔ (if x = 0 then W (pj lw) 8 34 L S k n H Q else W (pj lw) 8 8 L S k n H Q) := W_if_eq (rfl : (pj lw).1 8 5 = some (.ifCond .eq 29, 3, 0)) rfl
theorem w8_8 {x : Nat} : W (pj lw) 8 8 (.val (.ref x) :: L) S k n H Q ↔ W (pj lw) 8 9 (.val (.ref x) :: L) (.ref x :: S) k n H Q := W_s (rfl : (pj lw).1 8 8 = some (.aload_n 0, 1, 0)) rfl rfl rfl
theorem w8_9 {x : Int32} {l0 l1 : Slot} : W (pj lw) 8 9 (l0 :: l1 :: .val (.int x) :: L) S k n H Q ↔ W (pj lw) 8 10 (l0 :: l1 :: .val (.int x) :: L) (.int x :: S) k n H Q := W_s (rfl : (pj lw).1 8 9 = some (.iload_n 2, 1, 0)) rfl rfl rfl
theorem w8_10 {a : Nat} {x0 : Int32} : W (pj lw) 8 10 L (.int x0 :: .ref a :: S) k n H Q ↔ ((isO H a = true ∧ cs S + (2 + 11) + 0 ≤ 13) ∧ Cl (pj lw) 2 [.ref a, .int x0] H (fun v H => W (pj lw) 8 13 L (v.toList ++ S) k n H Q)) := W_inst (as := [.int x0]) (rfl : (pj lw).1 8 10 = some (.invokevirtual 59, 3, 2)) rfl rfl rfl (Nat.le_of_ble_eq_true rfl) (Nat.le_of_ble_eq_true rfl) ⟨rfl, rfl⟩
theorem w8_13 {x : Int32} : W (pj lw) 8 13 L (.int x :: S) k n H Q ↔ (if x = 0 then W (pj lw) 8 34 L S k n H Q else W (pj lw) 8 16 L S k n H Q) := W_if_eq (rfl : (pj lw).1 8 13 = some (.ifCond .eq 21, 3, 0)) rfl
theorem w8_16 {x : Nat} : W (pj lw) 8 16 (.val (.ref x) :: L) S k n H Q ↔ W (pj lw) 8 17 (.val (.ref x) :: L) (.ref x :: S) k n H Q := W_s (rfl : (pj lw).1 8 16 = some (.aload_n 0, 1, 0)) rfl rfl rfl
theorem w8_17 {a : Nat} : W (pj lw) 8 17 L (.ref a :: S) k n H Q ↔ (isO H a = true ∧ W (pj lw) 8 20 L (fld H a 2 :: S) k n H Q) := W_getf (rfl : (pj lw).1 8 17 = some (.getfield 7, 3, 2))
theorem w8_20 {x : Int32} {l0 : Slot} : W (pj lw) 8 20 (l0 :: .val (.int x) :: L) S k n H Q ↔ W (pj lw) 8 21 (l0 :: .val (.int x) :: L) (.int x :: S) k n H Q := W_s (rfl : (pj lw).1 8 20 = some (.iload_n 1, 1, 0)) rfl rfl rfl
theorem w8_21 : W (pj lw) 8 21 L S k n H Q ↔ W (pj lw) 8 23 L (.int 24 :: S) k n H Q := W_s (rfl : (pj lw).1 8 21 = some (.bipush 24, 2, 0)) rfl rfl rfl
theorem w8_23 {x y : Int32} : W (pj lw) 8 23 L (.int y :: .int x :: S) k n H Q ↔ W (pj lw) 8 24 L (.int (x * y) :: S) k n H Q := W_s (rfl : (pj lw).1 8 23 = some (.imul, 1, 0)) rfl rfl rfl
theorem w8_24 {x : Int32} {l0 l1 : Slot} : W (pj lw) 8 24 (l0 :: l1 :: .val (.int x) :: L) S k n H Q ↔ W (pj lw) 8 25 (l0 :: l1 :: .val (.int x) :: L) (.int x :: S) k n H Q := W_s (rfl : (pj lw).1 8 24 = some (.iload_n 2, 1, 0)) rfl rfl rfl
theorem w8_25 {x y : Int32} : W (pj lw) 8 25 L (.int y :: .int x :: S) k n H Q ↔ W (pj lw) 8 26 L (.int (x + y) :: S) k n H Q := W_s (rfl : (pj lw).1 8 25 = some (.iadd, 1, 0)) rfl rfl rfl
theorem w8_26 {i : Int32} {a : Nat} : W (pj lw) 8 26 L (.int i :: .ref a :: S) k n H Q ↔ ((inA H a .byte i = true ∨ inA H a .boolean i = true) ∧ W (pj lw) 8 27 L (elt H a i :: S) k n H Q) := W_baload (rfl : (pj lw).1 8 26 = some (.baload, 1, 0))
theorem w8_27 {x : Int32} : W (pj lw) 8 27 L (.int x :: S) k n H Q ↔ (if x = 0 then W (pj lw) 8 34 L S k n H Q else W (pj lw) 8 30 L S k n H Q) := W_if_eq (rfl : (pj lw).1 8 27 = some (.ifCond .eq 7, 3, 0)) rfl
theorem w8_30 : W (pj lw) 8 30 L S k n H Q ↔ W (pj lw) 8 31 L (.int 1 :: S) k n H Q := W_s (rfl : (pj lw).1 8 30 = some (.iconst 1, 1, 0)) rfl rfl rfl
theorem w8_31 : W (pj lw) 8 31 L S k n H Q ↔ W (pj lw) 8 35 L S k n H Q := W_goto (rfl : (pj lw).1 8 31 = some (.goto 4, 3, 0)) rfl
theorem w8_34 : W (pj lw) 8 34 L S k n H Q ↔ W (pj lw) 8 35 L (.int 0 :: S) k n H Q := W_s (rfl : (pj lw).1 8 34 = some (.iconst 0, 1, 0)) rfl rfl rfl
theorem w8_35 {x : Int32} : W (pj lw) 8 35 L (.int x :: S) k n H Q ↔ ((x = 0 ∨ x = 1) ∧ Q (some (.int x)) H) := W_rz (rfl : (pj lw).1 8 35 = some (.ireturn, 1, 0)) rfl
theorem c12 {x0 : Nat} : Cl (pj lw) 12 [.ref x0] H Q ↔ W (pj lw) 12 0 [.val (.ref x0), .unset, .unset] [] 0 0 H Q := cl_unf rfl
theorem w12_0 {x : Nat} : W (pj lw) 12 0 (.val (.ref x) :: L) S k n H Q ↔ W (pj lw) 12 1 (.val (.ref x) :: L) (.ref x :: S) k n H Q := W_s (rfl : (pj lw).1 12 0 = some (.aload_n 0, 1, 0)) rfl rfl rfl
theorem w12_1 {a : Nat} : W (pj lw) 12 1 L (.ref a :: S) k n H Q ↔ ((isO H a = true ∧ cs S + (2 + 11) + 0 ≤ 37) ∧ Cl (pj lw) 13 [.ref a] H (fun v H => W (pj lw) 12 4 L (v.toList ++ S) k n H Q)) := W_inst (as := []) (rfl : (pj lw).1 12 1 = some (.invokevirtual 76, 3, 13)) rfl rfl rfl (Nat.le_of_ble_eq_true rfl) (Nat.le_of_ble_eq_true rfl) ⟨rfl, rfl⟩
theorem w12_4 {x : Nat} : W (pj lw) 12 4 (.val (.ref x) :: L) S k n H Q ↔ W (pj lw) 12 5 (.val (.ref x) :: L) (.ref x :: S) k n H Q := W_s (rfl : (pj lw).1 12 4 = some (.aload_n 0, 1, 0)) rfl rfl rfl
theorem w12_5 : W (pj lw) 12 5 L S k n H Q ↔ W (pj lw) 12 6 L (.int 1 :: S) k n H Q := W_s (rfl : (pj lw).1 12 5 = some (.iconst 1, 1, 0)) rfl rfl rfl
theorem w12_6 {a : Nat} {v : Value} : W (pj lw) 12 6 L (v :: .ref a :: S) k n H Q ↔ ((isOw H a = true ∧ okv (.boolean) v = true) ∧ W (pj lw) 12 9 L S k n (wr H a 4 v) Q) := W_putf (rfl : (pj lw).1 12 6 = some (.putfield 52, 3, 4))
theorem w12_9 {x : Nat} : W (pj lw) 12 9 (.val (.ref x) :: L) S k n H Q ↔ W (pj lw) 12 10 (.val (.ref x) :: L) (.ref x :: S) k n H Q := W_s (rfl : (pj lw).1 12 9 = some (.aload_n 0, 1, 0)) rfl rfl rfl
theorem w12_10 {a : Nat} : W (pj lw) 12 10 L (.ref a :: S) k n H Q ↔ ((isO H a = true ∧ cs S + (3 + 11) + 23 ≤ 37) ∧ Cl (pj lw) 14 [.ref a] H (fun v H => W (pj lw) 12 13 L (v.toList ++ S) k n H Q)) := W_inst (as := []) (rfl : (pj lw).1 12 10 = some (.invokevirtual 79, 3, 14)) rfl rfl rfl (Nat.le_of_ble_eq_true rfl) (Nat.le_of_ble_eq_true rfl) ⟨rfl, rfl⟩
theorem w12_13 {x : Int32} : W (pj lw) 12 13 L (.int x :: S) k n H Q ↔ (if x = 0 then W (pj lw) 12 16 L S k n H Q else W (pj lw) 12 18 L S k n H Q) := W_if_ne (rfl : (pj lw).1 12 13 = some (.ifCond .ne 5, 3, 0)) rfl
theorem w12_18 {x : Nat} : W (pj lw) 12 18 (.val (.ref x) :: L) S k n H Q ↔ W (pj lw) 12 19 (.val (.ref x) :: L) (.ref x :: S) k n H Q := W_s (rfl : (pj lw).1 12 18 = some (.aload_n 0, 1, 0)) rfl rfl rfl
theorem w12_19 {x : Nat} : W (pj lw) 12 19 (.val (.ref x) :: L) S k n H Q ↔ W (pj lw) 12 20 (.val (.ref x) :: L) (.ref x :: S) k n H Q := W_s (rfl : (pj lw).1 12 19 = some (.aload_n 0, 1, 0)) rfl rfl rfl
theorem w12_20 {a : Nat} : W (pj lw) 12 20 L (.ref a :: S) k n H Q ↔ (isO H a = true ∧ W (pj lw) 12 23 L (fld H a 18 :: S) k n H Q) := W_getf (rfl : (pj lw).1 12 20 = some (.getfield 83, 3, 18))
theorem w12_23 {x : Nat} : W (pj lw) 12 23 (.val (.ref x) :: L) S k n H Q ↔ W (pj lw) 12 24 (.val (.ref x) :: L) (.ref x :: S) k n H Q := W_s (rfl : (pj lw).1 12 23 = some (.aload_n 0, 1, 0)) rfl rfl rfl
theorem w12_24 {a : Nat} : W (pj lw) 12 24 L (.ref a :: S) k n H Q ↔ (isO H a = true ∧ W (pj lw) 12 27 L (fld H a 17 :: S) k n H Q) := W_getf (rfl : (pj lw).1 12 24 = some (.getfield 86, 3, 17))
theorem w12_27 {a : Nat} {x0 : Int64} {x1 : Int64} : W (pj lw) 12 27 L (.long x1 :: .long x0 :: .ref a :: S) k n H Q ↔ ((isO H a = true ∧ cs S + (12 + 11) + 0 ≤ 37) ∧ Cl (pj lw) 17 [.ref a, .long x0, .long x1] H (fun v H => W (pj lw) 12 30 L (v.toList ++ S) k n H Q)) := W_inst (as := [.long x0, .long x1]) (rfl : (pj lw).1 12 27 = some (.invokevirtual 89, 3, 17)) rfl rfl rfl (Nat.le_of_ble_eq_true rfl) (Nat.le_of_ble_eq_true rfl) ⟨rfl, rfl⟩
theorem w12_30 {x : Nat} : W (pj lw) 12 30 (.val (.ref x) :: L) S k n H Q ↔ W (pj lw) 12 31 (.val (.ref x) :: L) (.ref x :: S) k n H Q := W_s (rfl : (pj lw).1 12 30 = some (.aload_n 0, 1, 0)) rfl rfl rfl
theorem w12_31 {x : Nat} : W (pj lw) 12 31 (.val (.ref x) :: L) S k n H Q ↔ W (pj lw) 12 32 (.val (.ref x) :: L) (.ref x :: S) k n H Q := W_s (rfl : (pj lw).1 12 31 = some (.aload_n 0, 1, 0)) rfl rfl rfl
theorem w12_32 {a : Nat} : W (pj lw) 12 32 L (.ref a :: S) k n H Q ↔ (isO H a = true ∧ W (pj lw) 12 35 L (fld H a 18 :: S) k n H Q) := W_getf (rfl : (pj lw).1 12 32 = some (.getfield 83, 3, 18))
theorem w12_35 {x : Nat} : W (pj lw) 12 35 (.val (.ref x) :: L) S k n H Q ↔ W (pj lw) 12 36 (.val (.ref x) :: L) (.ref x :: S) k n H Q := W_s (rfl : (pj lw).1 12 35 = some (.aload_n 0, 1, 0)) rfl rfl rfl
theorem w12_36 {a : Nat} : W (pj lw) 12 36 L (.ref a :: S) k n H Q ↔ (isO H a = true ∧ W (pj lw) 12 39 L (fld H a 17 :: S) k n H Q) := W_getf (rfl : (pj lw).1 12 36 = some (.getfield 86, 3, 17))
theorem w12_39 {a : Nat} {x0 : Int64} {x1 : Int64} : W (pj lw) 12 39 L (.long x1 :: .long x0 :: .ref a :: S) k n H Q ↔ ((isO H a = true ∧ cs S + (8 + 11) + 0 ≤ 37) ∧ Cl (pj lw) 18 [.ref a, .long x0, .long x1] H (fun v H => W (pj lw) 12 42 L (v.toList ++ S) k n H Q)) := W_inst (as := [.long x0, .long x1]) (rfl : (pj lw).1 12 39 = some (.invokevirtual 93, 3, 18)) rfl rfl rfl (Nat.le_of_ble_eq_true rfl) (Nat.le_of_ble_eq_true rfl) ⟨rfl, rfl⟩
theorem w12_42 {x : Nat} : W (pj lw) 12 42 (.val (.ref x) :: L) S k n H Q ↔ W (pj lw) 12 43 (.val (.ref x) :: L) (.ref x :: S) k n H Q := W_s (rfl : (pj lw).1 12 42 = some (.aload_n 0, 1, 0)) rfl rfl rfl
theorem w12_43 {a : Nat} : W (pj lw) 12 43 L (.ref a :: S) k n H Q ↔ ((isO H a = true ∧ cs S + (3 + 11) + 0 ≤ 37) ∧ Cl (pj lw) 19 [.ref a] H (fun v H => W (pj lw) 12 46 L (v.toList ++ S) k n H Q)) := W_inst (as := []) (rfl : (pj lw).1 12 43 = some (.invokevirtual 96, 3, 19)) rfl rfl rfl (Nat.le_of_ble_eq_true rfl) (Nat.le_of_ble_eq_true rfl) ⟨rfl, rfl⟩
theorem w12_46 : W (pj lw) 12 46 L S k n H Q ↔ W (pj lw) 12 47 L (.int (-1) :: S) k n H Q := W_s (rfl : (pj lw).1 12 46 = some (.iconst (-1), 1, 0)) rfl rfl rfl
theorem w12_47 {x : Int32} {l0 : Slot} : W (pj lw) 12 47 (l0 :: .unset :: L) (.int x :: S) k n H Q ↔ W (pj lw) 12 48 (l0 :: .val (.int x) :: L) S k n H Q := W_istn (rfl : (pj lw).1 12 47 = some (.istore_n 1, 1, 0)) rfl rfl
theorem w12_48 : W (pj lw) 12 48 L S k n H Q ↔ W (pj lw) 12 49 L (.int 0 :: S) k n H Q := W_s (rfl : (pj lw).1 12 48 = some (.iconst 0, 1, 0)) rfl rfl rfl
theorem w12_49 {x : Int32} {l0 l1 : Slot} : W (pj lw) 12 49 (l0 :: l1 :: .unset :: L) (.int x :: S) k n H Q ↔ W (pj lw) 12 50 (l0 :: l1 :: .val (.int x) :: L) S k n H Q := W_istn (rfl : (pj lw).1 12 49 = some (.istore_n 2, 1, 0)) rfl rfl
theorem w12_50 {x : Int32} {l0 l1 : Slot} : W (pj lw) 12 50 (l0 :: l1 :: .val (.int x) :: L) S k n H Q ↔ W (pj lw) 12 51 (l0 :: l1 :: .val (.int x) :: L) (.int x :: S) k n H Q := W_s (rfl : (pj lw).1 12 50 = some (.iload_n 2, 1, 0)) rfl rfl rfl
theorem w12_51 {x : Nat} : W (pj lw) 12 51 (.val (.ref x) :: L) S k n H Q ↔ W (pj lw) 12 52 (.val (.ref x) :: L) (.ref x :: S) k n H Q := W_s (rfl : (pj lw).1 12 51 = some (.aload_n 0, 1, 0)) rfl rfl rfl
theorem w12_52 {a : Nat} : W (pj lw) 12 52 L (.ref a :: S) k n H Q ↔ (isO H a = true ∧ W (pj lw) 12 55 L (fld H a 0 :: S) k n H Q) := W_getf (rfl : (pj lw).1 12 52 = some (.getfield 48, 3, 0))
theorem w12_55 {x y : Int32} : W (pj lw) 12 55 L (.int y :: .int x :: S) k n H Q ↔ (if x < y then W (pj lw) 12 58 L S k n H Q else W (pj lw) 12 103 L S k n H Q) := W_icmp_ge (rfl : (pj lw).1 12 55 = some (.if_icmp .ge 48, 3, 0)) rfl
theorem w12_58 {x : Nat} : W (pj lw) 12 58 (.val (.ref x) :: L) S k n H Q ↔ W (pj lw) 12 59 (.val (.ref x) :: L) (.ref x :: S) k n H Q := W_s (rfl : (pj lw).1 12 58 = some (.aload_n 0, 1, 0)) rfl rfl rfl
theorem w12_59 {a : Nat} : W (pj lw) 12 59 L (.ref a :: S) k n H Q ↔ (isO H a = true ∧ W (pj lw) 12 62 L (fld H a 9 :: S) k n H Q) := W_getf (rfl : (pj lw).1 12 59 = some (.getfield 20, 3, 9))
theorem w12_62 {x : Int32} {l0 l1 : Slot} : W (pj lw) 12 62 (l0 :: l1 :: .val (.int x) :: L) S k n H Q ↔ W (pj lw) 12 63 (l0 :: l1 :: .val (.int x) :: L) (.int x :: S) k n H Q := W_s (rfl : (pj lw).1 12 62 = some (.iload_n 2, 1, 0)) rfl rfl rfl
theorem w12_63 {x : Nat} : W (pj lw) 12 63 (.val (.ref x) :: L) S k n H Q ↔ W (pj lw) 12 64 (.val (.ref x) :: L) (.ref x :: S) k n H Q := W_s (rfl : (pj lw).1 12 63 = some (.aload_n 0, 1, 0)) rfl rfl rfl
theorem w12_64 {a : Nat} : W (pj lw) 12 64 L (.ref a :: S) k n H Q ↔ (isO H a = true ∧ W (pj lw) 12 67 L (fld H a 13 :: S) k n H Q) := W_getf (rfl : (pj lw).1 12 64 = some (.getfield 33, 3, 13))
theorem w12_67 {x : Int32} {l0 l1 : Slot} : W (pj lw) 12 67 (l0 :: l1 :: .val (.int x) :: L) S k n H Q ↔ W (pj lw) 12 68 (l0 :: l1 :: .val (.int x) :: L) (.int x :: S) k n H Q := W_s (rfl : (pj lw).1 12 67 = some (.iload_n 2, 1, 0)) rfl rfl rfl
theorem w12_68 {i : Int32} {a : Nat} : W (pj lw) 12 68 L (.int i :: .ref a :: S) k n H Q ↔ (inA H a .int i = true ∧ W (pj lw) 12 69 L (elt H a i :: S) k n H Q) := W_iaload (rfl : (pj lw).1 12 68 = some (.iaload, 1, 0))
theorem w12_69 {x : Int32} {l0 l1 : Slot} : W (pj lw) 12 69 (l0 :: l1 :: .val (.int x) :: L) S k n H Q ↔ W (pj lw) 12 70 (l0 :: l1 :: .val (.int x) :: L) (.int x :: S) k n H Q := W_s (rfl : (pj lw).1 12 69 = some (.iload_n 2, 1, 0)) rfl rfl rfl
theorem w12_70 {x y : Int32} : W (pj lw) 12 70 L (.int y :: .int x :: S) k n H Q ↔ W (pj lw) 12 71 L (.int (x >>> (y &&& 31)) :: S) k n H Q := W_s (rfl : (pj lw).1 12 70 = some (.ishr, 1, 0)) rfl rfl rfl
theorem w12_71 : W (pj lw) 12 71 L S k n H Q ↔ W (pj lw) 12 72 L (.int 1 :: S) k n H Q := W_s (rfl : (pj lw).1 12 71 = some (.iconst 1, 1, 0)) rfl rfl rfl
theorem w12_72 {x y : Int32} : W (pj lw) 12 72 L (.int y :: .int x :: S) k n H Q ↔ W (pj lw) 12 73 L (.int (x &&& y) :: S) k n H Q := W_s (rfl : (pj lw).1 12 72 = some (.iand, 1, 0)) rfl rfl rfl
theorem w12_73 {x : Int32} : W (pj lw) 12 73 L (.int x :: S) k n H Q ↔ (if x = 0 then W (pj lw) 12 80 L S k n H Q else W (pj lw) 12 76 L S k n H Q) := W_if_eq (rfl : (pj lw).1 12 73 = some (.ifCond .eq 7, 3, 0)) rfl
theorem w12_76 : W (pj lw) 12 76 L S k n H Q ↔ W (pj lw) 12 77 L (.int 1 :: S) k n H Q := W_s (rfl : (pj lw).1 12 76 = some (.iconst 1, 1, 0)) rfl rfl rfl
theorem w12_77 : W (pj lw) 12 77 L S k n H Q ↔ W (pj lw) 12 81 L S k n H Q := W_goto (rfl : (pj lw).1 12 77 = some (.goto 4, 3, 0)) rfl
theorem w12_80 : W (pj lw) 12 80 L S k n H Q ↔ W (pj lw) 12 81 L (.int 0 :: S) k n H Q := W_s (rfl : (pj lw).1 12 80 = some (.iconst 0, 1, 0)) rfl rfl rfl
theorem w12_81 {x i : Int32} {a : Nat} : W (pj lw) 12 81 L (.int x :: .int i :: .ref a :: S) k n H Q ↔ (((inAw H a .byte i = true ∧ okv .byte (.int x) = true) ∨ (inAw H a .boolean i = true ∧ okv .boolean (.int x) = true)) ∧ W (pj lw) 12 82 L S k n (wr H a i.toNatClampNeg (.int x)) Q) := W_bastore (rfl : (pj lw).1 12 81 = some (.bastore, 1, 0))
theorem w12_82 {x : Nat} : W (pj lw) 12 82 (.val (.ref x) :: L) S k n H Q ↔ W (pj lw) 12 83 (.val (.ref x) :: L) (.ref x :: S) k n H Q := W_s (rfl : (pj lw).1 12 82 = some (.aload_n 0, 1, 0)) rfl rfl rfl
theorem w12_83 {a : Nat} : W (pj lw) 12 83 L (.ref a :: S) k n H Q ↔ (isO H a = true ∧ W (pj lw) 12 86 L (fld H a 9 :: S) k n H Q) := W_getf (rfl : (pj lw).1 12 83 = some (.getfield 20, 3, 9))
theorem w12_86 {x : Int32} {l0 l1 : Slot} : W (pj lw) 12 86 (l0 :: l1 :: .val (.int x) :: L) S k n H Q ↔ W (pj lw) 12 87 (l0 :: l1 :: .val (.int x) :: L) (.int x :: S) k n H Q := W_s (rfl : (pj lw).1 12 86 = some (.iload_n 2, 1, 0)) rfl rfl rfl
theorem w12_87 {i : Int32} {a : Nat} : W (pj lw) 12 87 L (.int i :: .ref a :: S) k n H Q ↔ ((inA H a .byte i = true ∨ inA H a .boolean i = true) ∧ W (pj lw) 12 88 L (elt H a i :: S) k n H Q) := W_baload (rfl : (pj lw).1 12 87 = some (.baload, 1, 0))
theorem w12_88 {x : Int32} : W (pj lw) 12 88 L (.int x :: S) k n H Q ↔ (if x = 0 then W (pj lw) 12 97 L S k n H Q else W (pj lw) 12 91 L S k n H Q) := W_if_eq (rfl : (pj lw).1 12 88 = some (.ifCond .eq 9, 3, 0)) rfl
theorem w12_91 {x : Int32} {l0 : Slot} : W (pj lw) 12 91 (l0 :: .val (.int x) :: L) S k n H Q ↔ W (pj lw) 12 92 (l0 :: .val (.int x) :: L) (.int x :: S) k n H Q := W_s (rfl : (pj lw).1 12 91 = some (.iload_n 1, 1, 0)) rfl rfl rfl
theorem w12_92 {x : Int32} : W (pj lw) 12 92 L (.int x :: S) k n H Q ↔ (if x < 0 then W (pj lw) 12 95 L S k n H Q else W (pj lw) 12 97 L S k n H Q) := W_if_ge (rfl : (pj lw).1 12 92 = some (.ifCond .ge 5, 3, 0)) rfl
theorem w12_95 {x : Int32} {l0 l1 : Slot} : W (pj lw) 12 95 (l0 :: l1 :: .val (.int x) :: L) S k n H Q ↔ W (pj lw) 12 96 (l0 :: l1 :: .val (.int x) :: L) (.int x :: S) k n H Q := W_s (rfl : (pj lw).1 12 95 = some (.iload_n 2, 1, 0)) rfl rfl rfl
theorem w12_96i {y : Int32} {x : Int32} {l0 : Slot} : W (pj lw) 12 96 (l0 :: .val (.int y) :: L) (.int x :: S) k n H Q ↔ W (pj lw) 12 97 (l0 :: .val (.int x) :: L) S k n H Q := W_istn (rfl : (pj lw).1 12 96 = some (.istore_n 1, 1, 0)) rfl rfl
theorem w12_97 {x : Int32} {l0 l1 : Slot} : W (pj lw) 12 97 (l0 :: l1 :: .val (.int x) :: L) S k n H Q ↔ W (pj lw) 12 100 (l0 :: l1 :: .val (.int (x + 1)) :: L) S k n H Q := W_s (rfl : (pj lw).1 12 97 = some (.iinc 2 1, 3, 0)) rfl rfl rfl
theorem w12_100 : W (pj lw) 12 100 L S k n H Q ↔ W (pj lw) 12 50 L S k n H Q := W_goto (rfl : (pj lw).1 12 100 = some (.goto (-50), 3, 0)) rfl
theorem w12_103 {x : Int32} {l0 : Slot} : W (pj lw) 12 103 (l0 :: .val (.int x) :: L) S k n H Q ↔ W (pj lw) 12 104 (l0 :: .val (.int x) :: L) (.int x :: S) k n H Q := W_s (rfl : (pj lw).1 12 103 = some (.iload_n 1, 1, 0)) rfl rfl rfl
theorem w12_104 {x : Int32} : W (pj lw) 12 104 L (.int x :: S) k n H Q ↔ (if x < 0 then W (pj lw) 12 107 L S k n H Q else W (pj lw) 12 109 L S k n H Q) := W_if_ge (rfl : (pj lw).1 12 104 = some (.ifCond .ge 5, 3, 0)) rfl
theorem w12_109 {x : Nat} : W (pj lw) 12 109 (.val (.ref x) :: L) S k n H Q ↔ W (pj lw) 12 110 (.val (.ref x) :: L) (.ref x :: S) k n H Q := W_s (rfl : (pj lw).1 12 109 = some (.aload_n 0, 1, 0)) rfl rfl rfl
theorem w12_110 {x : Int32} {l0 : Slot} : W (pj lw) 12 110 (l0 :: .val (.int x) :: L) S k n H Q ↔ W (pj lw) 12 111 (l0 :: .val (.int x) :: L) (.int x :: S) k n H Q := W_s (rfl : (pj lw).1 12 110 = some (.iload_n 1, 1, 0)) rfl rfl rfl
theorem w12_111 {a : Nat} {x0 : Int32} : W (pj lw) 12 111 L (.int x0 :: .ref a :: S) k n H Q ↔ ((isO H a = true ∧ cs S + (6 + 11) + 0 ≤ 37) ∧ Cl (pj lw) 20 [.ref a, .int x0] H (fun v H => W (pj lw) 12 114 L (v.toList ++ S) k n H Q)) := W_inst (as := [.int x0]) (rfl : (pj lw).1 12 111 = some (.invokevirtual 99, 3, 20)) rfl rfl rfl (Nat.le_of_ble_eq_true rfl) (Nat.le_of_ble_eq_true rfl) ⟨rfl, rfl⟩
theorem w12_114 {x : Nat} : W (pj lw) 12 114 (.val (.ref x) :: L) S k n H Q ↔ W (pj lw) 12 115 (.val (.ref x) :: L) (.ref x :: S) k n H Q := W_s (rfl : (pj lw).1 12 114 = some (.aload_n 0, 1, 0)) rfl rfl rfl
theorem w12_115 {x : Int32} {l0 : Slot} : W (pj lw) 12 115 (l0 :: .val (.int x) :: L) S k n H Q ↔ W (pj lw) 12 116 (l0 :: .val (.int x) :: L) (.int x :: S) k n H Q := W_s (rfl : (pj lw).1 12 115 = some (.iload_n 1, 1, 0)) rfl rfl rfl
theorem w12_116 {a : Nat} {x0 : Int32} : W (pj lw) 12 116 L (.int x0 :: .ref a :: S) k n H Q ↔ ((isO H a = true ∧ cs S + (9 + 11) + 0 ≤ 37) ∧ Cl (pj lw) 21 [.ref a, .int x0] H (fun v H => W (pj lw) 12 119 L (v.toList ++ S) k n H Q)) := W_inst (as := [.int x0]) (rfl : (pj lw).1 12 116 = some (.invokevirtual 103, 3, 21)) rfl rfl rfl (Nat.le_of_ble_eq_true rfl) (Nat.le_of_ble_eq_true rfl) ⟨rfl, rfl⟩
theorem w12_119 {x : Nat} : W (pj lw) 12 119 (.val (.ref x) :: L) S k n H Q ↔ W (pj lw) 12 120 (.val (.ref x) :: L) (.ref x :: S) k n H Q := W_s (rfl : (pj lw).1 12 119 = some (.aload_n 0, 1, 0)) rfl rfl rfl
theorem w12_120 {x : Nat} : W (pj lw) 12 120 (.val (.ref x) :: L) S k n H Q ↔ W (pj lw) 12 121 (.val (.ref x) :: L) (.ref x :: S) k n H Q := W_s (rfl : (pj lw).1 12 120 = some (.aload_n 0, 1, 0)) rfl rfl rfl
theorem w12_121 {a : Nat} : W (pj lw) 12 121 L (.ref a :: S) k n H Q ↔ (isO H a = true ∧ W (pj lw) 12 124 L (fld H a 6 :: S) k n H Q) := W_getf (rfl : (pj lw).1 12 121 = some (.getfield 106, 3, 6))
theorem w12_124 {x : Int32} : W (pj lw) 12 124 L (.int x :: S) k n H Q ↔ W (pj lw) 12 125 L (.long x.toInt64 :: S) k n H Q := W_s (rfl : (pj lw).1 12 124 = some (.i2l, 1, 0)) rfl rfl rfl
theorem w12_125 {x : Nat} : W (pj lw) 12 125 (.val (.ref x) :: L) S k n H Q ↔ W (pj lw) 12 126 (.val (.ref x) :: L) (.ref x :: S) k n H Q := W_s (rfl : (pj lw).1 12 125 = some (.aload_n 0, 1, 0)) rfl rfl rfl
theorem w12_126 {a : Nat} : W (pj lw) 12 126 L (.ref a :: S) k n H Q ↔ (isO H a = true ∧ W (pj lw) 12 129 L (fld H a 7 :: S) k n H Q) := W_getf (rfl : (pj lw).1 12 126 = some (.getfield 109, 3, 7))
theorem w12_129 {a : Nat} {x0 : Int64} {x1 : Int64} : W (pj lw) 12 129 L (.long x1 :: .long x0 :: .ref a :: S) k n H Q ↔ ((isO H a = true ∧ cs S + (12 + 11) + 0 ≤ 37) ∧ Cl (pj lw) 17 [.ref a, .long x0, .long x1] H (fun v H => W (pj lw) 12 132 L (v.toList ++ S) k n H Q)) := W_inst (as := [.long x0, .long x1]) (rfl : (pj lw).1 12 129 = some (.invokevirtual 89, 3, 17)) rfl rfl rfl (Nat.le_of_ble_eq_true rfl) (Nat.le_of_ble_eq_true rfl) ⟨rfl, rfl⟩
theorem w12_132 {x : Nat} : W (pj lw) 12 132 (.val (.ref x) :: L) S k n H Q ↔ W (pj lw) 12 133 (.val (.ref x) :: L) (.ref x :: S) k n H Q := W_s (rfl : (pj lw).1 12 132 = some (.aload_n 0, 1, 0)) rfl rfl rfl
theorem w12_133 : W (pj lw) 12 133 L S k n H Q ↔ W (pj lw) 12 134 L (.int 1 :: S) k n H Q := W_s (rfl : (pj lw).1 12 133 = some (.iconst 1, 1, 0)) rfl rfl rfl
theorem w12_134 {a : Nat} {v : Value} : W (pj lw) 12 134 L (v :: .ref a :: S) k n H Q ↔ ((isOw H a = true ∧ okv (.boolean) v = true) ∧ W (pj lw) 12 137 L S k n (wr H a 5 v) Q) := W_putf (rfl : (pj lw).1 12 134 = some (.putfield 56, 3, 5))
theorem w12_137 : W (pj lw) 12 137 L S k n H Q ↔ W (pj lw) 12 138 L (.int 1 :: S) k n H Q := W_s (rfl : (pj lw).1 12 137 = some (.iconst 1, 1, 0)) rfl rfl rfl
theorem w12_138 {x : Int32} : W (pj lw) 12 138 L (.int x :: S) k n H Q ↔ Q (some (.int x)) H := W_r (rfl : (pj lw).1 12 138 = some (.ireturn, 1, 0)) rfl
theorem c13 {x0 : Nat} : Cl (pj lw) 13 [.ref x0] H Q ↔ W (pj lw) 13 0 [.val (.ref x0), .unset] [] 0 0 H Q := cl_unf rfl
theorem w13_0 {x : Nat} : W (pj lw) 13 0 (.val (.ref x) :: L) S k n H Q ↔ W (pj lw) 13 1 (.val (.ref x) :: L) (.ref x :: S) k n H Q := W_s (rfl : (pj lw).1 13 0 = some (.aload_n 0, 1, 0)) rfl rfl rfl
theorem w13_1 : W (pj lw) 13 1 L S k n H Q ↔ W (pj lw) 13 2 L (.int 0 :: S) k n H Q := W_s (rfl : (pj lw).1 13 1 = some (.iconst 0, 1, 0)) rfl rfl rfl
theorem w13_2 {a : Nat} {v : Value} : W (pj lw) 13 2 L (v :: .ref a :: S) k n H Q ↔ ((isOw H a = true ∧ okv (.boolean) v = true) ∧ W (pj lw) 13 5 L S k n (wr H a 5 v) Q) := W_putf (rfl : (pj lw).1 13 2 = some (.putfield 56, 3, 5))
theorem w13_5 {x : Nat} : W (pj lw) 13 5 (.val (.ref x) :: L) S k n H Q ↔ W (pj lw) 13 6 (.val (.ref x) :: L) (.ref x :: S) k n H Q := W_s (rfl : (pj lw).1 13 5 = some (.aload_n 0, 1, 0)) rfl rfl rfl
theorem w13_6 : W (pj lw) 13 6 L S k n H Q ↔ W (pj lw) 13 7 L (.int 0 :: S) k n H Q := W_s (rfl : (pj lw).1 13 6 = some (.iconst 0, 1, 0)) rfl rfl rfl
theorem w13_7 {a : Nat} {v : Value} : W (pj lw) 13 7 L (v :: .ref a :: S) k n H Q ↔ ((isOw H a = true ∧ okv (.int) v = true) ∧ W (pj lw) 13 10 L S k n (wr H a 6 v) Q) := W_putf (rfl : (pj lw).1 13 7 = some (.putfield 106, 3, 6))
theorem w13_10 {x : Nat} : W (pj lw) 13 10 (.val (.ref x) :: L) S k n H Q ↔ W (pj lw) 13 11 (.val (.ref x) :: L) (.ref x :: S) k n H Q := W_s (rfl : (pj lw).1 13 10 = some (.aload_n 0, 1, 0)) rfl rfl rfl
theorem w13_11 : W (pj lw) 13 11 L S k n H Q ↔ W (pj lw) 13 12 L (.long 0 :: S) k n H Q := W_s (rfl : (pj lw).1 13 11 = some (.lconst 0, 1, 0)) rfl rfl rfl
theorem w13_12 {a : Nat} {v : Value} : W (pj lw) 13 12 L (v :: .ref a :: S) k n H Q ↔ ((isOw H a = true ∧ okv (.long) v = true) ∧ W (pj lw) 13 15 L S k n (wr H a 7 v) Q) := W_putf (rfl : (pj lw).1 13 12 = some (.putfield 109, 3, 7))
theorem w13_15 : W (pj lw) 13 15 L S k n H Q ↔ W (pj lw) 13 16 L (.int 0 :: S) k n H Q := W_s (rfl : (pj lw).1 13 15 = some (.iconst 0, 1, 0)) rfl rfl rfl
theorem w13_16 {x : Int32} {l0 : Slot} : W (pj lw) 13 16 (l0 :: .unset :: L) (.int x :: S) k n H Q ↔ W (pj lw) 13 17 (l0 :: .val (.int x) :: L) S k n H Q := W_istn (rfl : (pj lw).1 13 16 = some (.istore_n 1, 1, 0)) rfl rfl
theorem w13_17 {x : Int32} {l0 : Slot} : W (pj lw) 13 17 (l0 :: .val (.int x) :: L) S k n H Q ↔ W (pj lw) 13 18 (l0 :: .val (.int x) :: L) (.int x :: S) k n H Q := W_s (rfl : (pj lw).1 13 17 = some (.iload_n 1, 1, 0)) rfl rfl rfl
theorem w13_18 : W (pj lw) 13 18 L S k n H Q ↔ W (pj lw) 13 20 L (.int 24 :: S) k n H Q := W_s (rfl : (pj lw).1 13 18 = some (.bipush 24, 2, 0)) rfl rfl rfl
theorem w13_20 {x y : Int32} : W (pj lw) 13 20 L (.int y :: .int x :: S) k n H Q ↔ (if x < y then W (pj lw) 13 23 L S k n H Q else W (pj lw) 13 50 L S k n H Q) := W_icmp_ge (rfl : (pj lw).1 13 20 = some (.if_icmp .ge 30, 3, 0)) rfl
theorem w13_23 {x : Nat} : W (pj lw) 13 23 (.val (.ref x) :: L) S k n H Q ↔ W (pj lw) 13 24 (.val (.ref x) :: L) (.ref x :: S) k n H Q := W_s (rfl : (pj lw).1 13 23 = some (.aload_n 0, 1, 0)) rfl rfl rfl
theorem w13_24 {a : Nat} : W (pj lw) 13 24 L (.ref a :: S) k n H Q ↔ (isO H a = true ∧ W (pj lw) 13 27 L (fld H a 8 :: S) k n H Q) := W_getf (rfl : (pj lw).1 13 24 = some (.getfield 17, 3, 8))
theorem w13_27 {x : Int32} {l0 : Slot} : W (pj lw) 13 27 (l0 :: .val (.int x) :: L) S k n H Q ↔ W (pj lw) 13 28 (l0 :: .val (.int x) :: L) (.int x :: S) k n H Q := W_s (rfl : (pj lw).1 13 27 = some (.iload_n 1, 1, 0)) rfl rfl rfl
theorem w13_28 : W (pj lw) 13 28 L S k n H Q ↔ W (pj lw) 13 29 L (.int (-1) :: S) k n H Q := W_s (rfl : (pj lw).1 13 28 = some (.iconst (-1), 1, 0)) rfl rfl rfl
theorem w13_29 {x i : Int32} {a : Nat} : W (pj lw) 13 29 L (.int x :: .int i :: .ref a :: S) k n H Q ↔ (inAw H a .int i = true ∧ W (pj lw) 13 30 L S k n (wr H a i.toNatClampNeg (.int x)) Q) := W_iastore (rfl : (pj lw).1 13 29 = some (.iastore, 1, 0))
theorem w13_30 {x : Nat} : W (pj lw) 13 30 (.val (.ref x) :: L) S k n H Q ↔ W (pj lw) 13 31 (.val (.ref x) :: L) (.ref x :: S) k n H Q := W_s (rfl : (pj lw).1 13 30 = some (.aload_n 0, 1, 0)) rfl rfl rfl
theorem w13_31 {a : Nat} : W (pj lw) 13 31 L (.ref a :: S) k n H Q ↔ (isO H a = true ∧ W (pj lw) 13 34 L (fld H a 9 :: S) k n H Q) := W_getf (rfl : (pj lw).1 13 31 = some (.getfield 20, 3, 9))
theorem w13_34 {x : Int32} {l0 : Slot} : W (pj lw) 13 34 (l0 :: .val (.int x) :: L) S k n H Q ↔ W (pj lw) 13 35 (l0 :: .val (.int x) :: L) (.int x :: S) k n H Q := W_s (rfl : (pj lw).1 13 34 = some (.iload_n 1, 1, 0)) rfl rfl rfl
theorem w13_35 : W (pj lw) 13 35 L S k n H Q ↔ W (pj lw) 13 36 L (.int 0 :: S) k n H Q := W_s (rfl : (pj lw).1 13 35 = some (.iconst 0, 1, 0)) rfl rfl rfl
theorem w13_36 {x i : Int32} {a : Nat} : W (pj lw) 13 36 L (.int x :: .int i :: .ref a :: S) k n H Q ↔ (((inAw H a .byte i = true ∧ okv .byte (.int x) = true) ∨ (inAw H a .boolean i = true ∧ okv .boolean (.int x) = true)) ∧ W (pj lw) 13 37 L S k n (wr H a i.toNatClampNeg (.int x)) Q) := W_bastore (rfl : (pj lw).1 13 36 = some (.bastore, 1, 0))
theorem w13_37 {x : Nat} : W (pj lw) 13 37 (.val (.ref x) :: L) S k n H Q ↔ W (pj lw) 13 38 (.val (.ref x) :: L) (.ref x :: S) k n H Q := W_s (rfl : (pj lw).1 13 37 = some (.aload_n 0, 1, 0)) rfl rfl rfl
theorem w13_38 {a : Nat} : W (pj lw) 13 38 L (.ref a :: S) k n H Q ↔ (isO H a = true ∧ W (pj lw) 13 41 L (fld H a 10 :: S) k n H Q) := W_getf (rfl : (pj lw).1 13 38 = some (.getfield 23, 3, 10))
theorem w13_41 {x : Int32} {l0 : Slot} : W (pj lw) 13 41 (l0 :: .val (.int x) :: L) S k n H Q ↔ W (pj lw) 13 42 (l0 :: .val (.int x) :: L) (.int x :: S) k n H Q := W_s (rfl : (pj lw).1 13 41 = some (.iload_n 1, 1, 0)) rfl rfl rfl
theorem w13_42 : W (pj lw) 13 42 L S k n H Q ↔ W (pj lw) 13 43 L (.long 0 :: S) k n H Q := W_s (rfl : (pj lw).1 13 42 = some (.lconst 0, 1, 0)) rfl rfl rfl
theorem w13_43 {x : Int64} {i : Int32} {a : Nat} : W (pj lw) 13 43 L (.long x :: .int i :: .ref a :: S) k n H Q ↔ (inAw H a .long i = true ∧ W (pj lw) 13 44 L S k n (wr H a i.toNatClampNeg (.long x)) Q) := W_lastore (rfl : (pj lw).1 13 43 = some (.lastore, 1, 0))
theorem w13_44 {x : Int32} {l0 : Slot} : W (pj lw) 13 44 (l0 :: .val (.int x) :: L) S k n H Q ↔ W (pj lw) 13 47 (l0 :: .val (.int (x + 1)) :: L) S k n H Q := W_s (rfl : (pj lw).1 13 44 = some (.iinc 1 1, 3, 0)) rfl rfl rfl
theorem w13_47 : W (pj lw) 13 47 L S k n H Q ↔ W (pj lw) 13 17 L S k n H Q := W_goto (rfl : (pj lw).1 13 47 = some (.goto (-30), 3, 0)) rfl
theorem w13_50 : W (pj lw) 13 50 L [] k n H Q ↔ Q none H := W_r (rfl : (pj lw).1 13 50 = some (.return_, 1, 0)) rfl
theorem c14 {x0 : Nat} : Cl (pj lw) 14 [.ref x0] H Q ↔ W (pj lw) 14 0 [.val (.ref x0), .unset, .unset] [] 0 0 H Q := cl_unf rfl
theorem w14_0 : W (pj lw) 14 0 L S k n H Q ↔ W (pj lw) 14 1 L (.int 0 :: S) k n H Q := W_s (rfl : (pj lw).1 14 0 = some (.iconst 0, 1, 0)) rfl rfl rfl
theorem w14_1 {x : Int32} {l0 : Slot} : W (pj lw) 14 1 (l0 :: .unset :: L) (.int x :: S) k n H Q ↔ W (pj lw) 14 2 (l0 :: .val (.int x) :: L) S k n H Q := W_istn (rfl : (pj lw).1 14 1 = some (.istore_n 1, 1, 0)) rfl rfl
theorem w14_2 {x : Int32} {l0 : Slot} : W (pj lw) 14 2 (l0 :: .val (.int x) :: L) S k n H Q ↔ W (pj lw) 14 3 (l0 :: .val (.int x) :: L) (.int x :: S) k n H Q := W_s (rfl : (pj lw).1 14 2 = some (.iload_n 1, 1, 0)) rfl rfl rfl
theorem w14_3 : W (pj lw) 14 3 L S k n H Q ↔ W (pj lw) 14 6 L (.int 600 :: S) k n H Q := W_s (rfl : (pj lw).1 14 3 = some (.sipush 600, 3, 0)) rfl rfl rfl
theorem w14_6 {x y : Int32} : W (pj lw) 14 6 L (.int y :: .int x :: S) k n H Q ↔ (if x < y then W (pj lw) 14 9 L S k n H Q else W (pj lw) 14 25 L S k n H Q) := W_icmp_ge (rfl : (pj lw).1 14 6 = some (.if_icmp .ge 19, 3, 0)) rfl
theorem w14_9 {x : Nat} : W (pj lw) 14 9 (.val (.ref x) :: L) S k n H Q ↔ W (pj lw) 14 10 (.val (.ref x) :: L) (.ref x :: S) k n H Q := W_s (rfl : (pj lw).1 14 9 = some (.aload_n 0, 1, 0)) rfl rfl rfl
theorem w14_10 {a : Nat} : W (pj lw) 14 10 L (.ref a :: S) k n H Q ↔ (isO H a = true ∧ W (pj lw) 14 13 L (fld H a 11 :: S) k n H Q) := W_getf (rfl : (pj lw).1 14 10 = some (.getfield 27, 3, 11))
theorem w14_13 {x : Int32} {l0 : Slot} : W (pj lw) 14 13 (l0 :: .val (.int x) :: L) S k n H Q ↔ W (pj lw) 14 14 (l0 :: .val (.int x) :: L) (.int x :: S) k n H Q := W_s (rfl : (pj lw).1 14 13 = some (.iload_n 1, 1, 0)) rfl rfl rfl
theorem w14_14 {x : Nat} : W (pj lw) 14 14 (.val (.ref x) :: L) S k n H Q ↔ W (pj lw) 14 15 (.val (.ref x) :: L) (.ref x :: S) k n H Q := W_s (rfl : (pj lw).1 14 14 = some (.aload_n 0, 1, 0)) rfl rfl rfl
theorem w14_15 {a : Nat} : W (pj lw) 14 15 L (.ref a :: S) k n H Q ↔ (isO H a = true ∧ W (pj lw) 14 18 L (fld H a 16 :: S) k n H Q) := W_getf (rfl : (pj lw).1 14 15 = some (.getfield 44, 3, 16))
theorem w14_18 {x : Int64} {i : Int32} {a : Nat} : W (pj lw) 14 18 L (.long x :: .int i :: .ref a :: S) k n H Q ↔ (inAw H a .long i = true ∧ W (pj lw) 14 19 L S k n (wr H a i.toNatClampNeg (.long x)) Q) := W_lastore (rfl : (pj lw).1 14 18 = some (.lastore, 1, 0))
theorem w14_19 {x : Int32} {l0 : Slot} : W (pj lw) 14 19 (l0 :: .val (.int x) :: L) S k n H Q ↔ W (pj lw) 14 22 (l0 :: .val (.int (x + 1)) :: L) S k n H Q := W_s (rfl : (pj lw).1 14 19 = some (.iinc 1 1, 3, 0)) rfl rfl rfl
theorem w14_22 : W (pj lw) 14 22 L S k n H Q ↔ W (pj lw) 14 2 L S k n H Q := W_goto (rfl : (pj lw).1 14 22 = some (.goto (-20), 3, 0)) rfl
theorem w14_25 : W (pj lw) 14 25 L S k n H Q ↔ W (pj lw) 14 26 L (.int 0 :: S) k n H Q := W_s (rfl : (pj lw).1 14 25 = some (.iconst 0, 1, 0)) rfl rfl rfl
theorem w14_26i {y : Int32} {x : Int32} {l0 : Slot} : W (pj lw) 14 26 (l0 :: .val (.int y) :: L) (.int x :: S) k n H Q ↔ W (pj lw) 14 27 (l0 :: .val (.int x) :: L) S k n H Q := W_istn (rfl : (pj lw).1 14 26 = some (.istore_n 1, 1, 0)) rfl rfl
theorem w14_27 {x : Int32} {l0 : Slot} : W (pj lw) 14 27 (l0 :: .val (.int x) :: L) S k n H Q ↔ W (pj lw) 14 28 (l0 :: .val (.int x) :: L) (.int x :: S) k n H Q := W_s (rfl : (pj lw).1 14 27 = some (.iload_n 1, 1, 0)) rfl rfl rfl
theorem w14_28 {x : Nat} : W (pj lw) 14 28 (.val (.ref x) :: L) S k n H Q ↔ W (pj lw) 14 29 (.val (.ref x) :: L) (.ref x :: S) k n H Q := W_s (rfl : (pj lw).1 14 28 = some (.aload_n 0, 1, 0)) rfl rfl rfl
theorem w14_29 {a : Nat} : W (pj lw) 14 29 L (.ref a :: S) k n H Q ↔ (isO H a = true ∧ W (pj lw) 14 32 L (fld H a 0 :: S) k n H Q) := W_getf (rfl : (pj lw).1 14 29 = some (.getfield 48, 3, 0))
theorem w14_32 {x y : Int32} : W (pj lw) 14 32 L (.int y :: .int x :: S) k n H Q ↔ (if x < y then W (pj lw) 14 35 L S k n H Q else W (pj lw) 14 48 L S k n H Q) := W_icmp_ge (rfl : (pj lw).1 14 32 = some (.if_icmp .ge 16, 3, 0)) rfl
theorem w14_35 {x : Nat} : W (pj lw) 14 35 (.val (.ref x) :: L) S k n H Q ↔ W (pj lw) 14 36 (.val (.ref x) :: L) (.ref x :: S) k n H Q := W_s (rfl : (pj lw).1 14 35 = some (.aload_n 0, 1, 0)) rfl rfl rfl
theorem w14_36 {a : Nat} : W (pj lw) 14 36 L (.ref a :: S) k n H Q ↔ (isO H a = true ∧ W (pj lw) 14 39 L (fld H a 11 :: S) k n H Q) := W_getf (rfl : (pj lw).1 14 36 = some (.getfield 27, 3, 11))
theorem w14_39 {x : Int32} {l0 : Slot} : W (pj lw) 14 39 (l0 :: .val (.int x) :: L) S k n H Q ↔ W (pj lw) 14 40 (l0 :: .val (.int x) :: L) (.int x :: S) k n H Q := W_s (rfl : (pj lw).1 14 39 = some (.iload_n 1, 1, 0)) rfl rfl rfl
theorem w14_40 : W (pj lw) 14 40 L S k n H Q ↔ W (pj lw) 14 41 L (.long 0 :: S) k n H Q := W_s (rfl : (pj lw).1 14 40 = some (.lconst 0, 1, 0)) rfl rfl rfl
theorem w14_41 {x : Int64} {i : Int32} {a : Nat} : W (pj lw) 14 41 L (.long x :: .int i :: .ref a :: S) k n H Q ↔ (inAw H a .long i = true ∧ W (pj lw) 14 42 L S k n (wr H a i.toNatClampNeg (.long x)) Q) := W_lastore (rfl : (pj lw).1 14 41 = some (.lastore, 1, 0))
theorem w14_42 {x : Int32} {l0 : Slot} : W (pj lw) 14 42 (l0 :: .val (.int x) :: L) S k n H Q ↔ W (pj lw) 14 45 (l0 :: .val (.int (x + 1)) :: L) S k n H Q := W_s (rfl : (pj lw).1 14 42 = some (.iinc 1 1, 3, 0)) rfl rfl rfl
theorem w14_45 : W (pj lw) 14 45 L S k n H Q ↔ W (pj lw) 14 27 L S k n H Q := W_goto (rfl : (pj lw).1 14 45 = some (.goto (-18), 3, 0)) rfl
theorem w14_48 : W (pj lw) 14 48 L S k n H Q ↔ W (pj lw) 14 49 L (.int 1 :: S) k n H Q := W_s (rfl : (pj lw).1 14 48 = some (.iconst 1, 1, 0)) rfl rfl rfl
theorem w14_49i {y : Int32} {x : Int32} {l0 : Slot} : W (pj lw) 14 49 (l0 :: .val (.int y) :: L) (.int x :: S) k n H Q ↔ W (pj lw) 14 50 (l0 :: .val (.int x) :: L) S k n H Q := W_istn (rfl : (pj lw).1 14 49 = some (.istore_n 1, 1, 0)) rfl rfl
theorem w14_50 {x : Int32} {l0 : Slot} : W (pj lw) 14 50 (l0 :: .val (.int x) :: L) S k n H Q ↔ W (pj lw) 14 51 (l0 :: .val (.int x) :: L) (.int x :: S) k n H Q := W_s (rfl : (pj lw).1 14 50 = some (.iload_n 1, 1, 0)) rfl rfl rfl
theorem w14_51 {x : Nat} : W (pj lw) 14 51 (.val (.ref x) :: L) S k n H Q ↔ W (pj lw) 14 52 (.val (.ref x) :: L) (.ref x :: S) k n H Q := W_s (rfl : (pj lw).1 14 51 = some (.aload_n 0, 1, 0)) rfl rfl rfl
theorem w14_52 {a : Nat} : W (pj lw) 14 52 L (.ref a :: S) k n H Q ↔ (isO H a = true ∧ W (pj lw) 14 55 L (fld H a 0 :: S) k n H Q) := W_getf (rfl : (pj lw).1 14 52 = some (.getfield 48, 3, 0))
theorem w14_55 {x y : Int32} : W (pj lw) 14 55 L (.int y :: .int x :: S) k n H Q ↔ (if y < x then W (pj lw) 14 94 L S k n H Q else W (pj lw) 14 58 L S k n H Q) := W_icmp_gt (rfl : (pj lw).1 14 55 = some (.if_icmp .gt 39, 3, 0)) rfl
theorem w14_58 : W (pj lw) 14 58 L S k n H Q ↔ W (pj lw) 14 59 L (.int 0 :: S) k n H Q := W_s (rfl : (pj lw).1 14 58 = some (.iconst 0, 1, 0)) rfl rfl rfl
theorem w14_59i {y : Int32} {x : Int32} {l0 l1 : Slot} : W (pj lw) 14 59 (l0 :: l1 :: .val (.int y) :: L) (.int x :: S) k n H Q ↔ W (pj lw) 14 60 (l0 :: l1 :: .val (.int x) :: L) S k n H Q := W_istn (rfl : (pj lw).1 14 59 = some (.istore_n 2, 1, 0)) rfl rfl
theorem w14_59 {x : Int32} {l0 l1 : Slot} : W (pj lw) 14 59 (l0 :: l1 :: .unset :: L) (.int x :: S) k n H Q ↔ W (pj lw) 14 60 (l0 :: l1 :: .val (.int x) :: L) S k n H Q := W_istn (rfl : (pj lw).1 14 59 = some (.istore_n 2, 1, 0)) rfl rfl
theorem w14_60 {x : Int32} {l0 l1 : Slot} : W (pj lw) 14 60 (l0 :: l1 :: .val (.int x) :: L) S k n H Q ↔ W (pj lw) 14 61 (l0 :: l1 :: .val (.int x) :: L) (.int x :: S) k n H Q := W_s (rfl : (pj lw).1 14 60 = some (.iload_n 2, 1, 0)) rfl rfl rfl
theorem w14_61 : W (pj lw) 14 61 L S k n H Q ↔ W (pj lw) 14 64 L (.int 576 :: S) k n H Q := W_s (rfl : (pj lw).1 14 61 = some (.sipush 576, 3, 0)) rfl rfl rfl
theorem w14_64 {x y : Int32} : W (pj lw) 14 64 L (.int y :: .int x :: S) k n H Q ↔ (if x < y then W (pj lw) 14 67 L S k n H Q else W (pj lw) 14 88 L S k n H Q) := W_icmp_ge (rfl : (pj lw).1 14 64 = some (.if_icmp .ge 24, 3, 0)) rfl
theorem w14_67 {x : Nat} : W (pj lw) 14 67 (.val (.ref x) :: L) S k n H Q ↔ W (pj lw) 14 68 (.val (.ref x) :: L) (.ref x :: S) k n H Q := W_s (rfl : (pj lw).1 14 67 = some (.aload_n 0, 1, 0)) rfl rfl rfl
theorem w14_68 {a : Nat} : W (pj lw) 14 68 L (.ref a :: S) k n H Q ↔ (isO H a = true ∧ W (pj lw) 14 71 L (fld H a 2 :: S) k n H Q) := W_getf (rfl : (pj lw).1 14 68 = some (.getfield 7, 3, 2))
theorem w14_71 {x : Int32} {l0 l1 : Slot} : W (pj lw) 14 71 (l0 :: l1 :: .val (.int x) :: L) S k n H Q ↔ W (pj lw) 14 72 (l0 :: l1 :: .val (.int x) :: L) (.int x :: S) k n H Q := W_s (rfl : (pj lw).1 14 71 = some (.iload_n 2, 1, 0)) rfl rfl rfl
theorem w14_72 {i : Int32} {a : Nat} : W (pj lw) 14 72 L (.int i :: .ref a :: S) k n H Q ↔ ((inA H a .byte i = true ∨ inA H a .boolean i = true) ∧ W (pj lw) 14 73 L (elt H a i :: S) k n H Q) := W_baload (rfl : (pj lw).1 14 72 = some (.baload, 1, 0))
theorem w14_73 {x : Int32} : W (pj lw) 14 73 L (.int x :: S) k n H Q ↔ (if x = 0 then W (pj lw) 14 82 L S k n H Q else W (pj lw) 14 76 L S k n H Q) := W_if_eq (rfl : (pj lw).1 14 73 = some (.ifCond .eq 9, 3, 0)) rfl
theorem w14_76 {x : Nat} : W (pj lw) 14 76 (.val (.ref x) :: L) S k n H Q ↔ W (pj lw) 14 77 (.val (.ref x) :: L) (.ref x :: S) k n H Q := W_s (rfl : (pj lw).1 14 76 = some (.aload_n 0, 1, 0)) rfl rfl rfl
theorem w14_77 {x : Int32} {l0 : Slot} : W (pj lw) 14 77 (l0 :: .val (.int x) :: L) S k n H Q ↔ W (pj lw) 14 78 (l0 :: .val (.int x) :: L) (.int x :: S) k n H Q := W_s (rfl : (pj lw).1 14 77 = some (.iload_n 1, 1, 0)) rfl rfl rfl
theorem w14_78 {x : Int32} {l0 l1 : Slot} : W (pj lw) 14 78 (l0 :: l1 :: .val (.int x) :: L) S k n H Q ↔ W (pj lw) 14 79 (l0 :: l1 :: .val (.int x) :: L) (.int x :: S) k n H Q := W_s (rfl : (pj lw).1 14 78 = some (.iload_n 2, 1, 0)) rfl rfl rfl
theorem w14_79 {a : Nat} {x0 : Int32} {x1 : Int32} : W (pj lw) 14 79 L (.int x1 :: .int x0 :: .ref a :: S) k n H Q ↔ ((isO H a = true ∧ cs S + (9 + 11) + 0 ≤ 23) ∧ Cl (pj lw) 15 [.ref a, .int x0, .int x1] H (fun v H => W (pj lw) 14 82 L (v.toList ++ S) k n H Q)) := W_inst (as := [.int x0, .int x1]) (rfl : (pj lw).1 14 79 = some (.invokevirtual 112, 3, 15)) rfl rfl rfl (Nat.le_of_ble_eq_true rfl) (Nat.le_of_ble_eq_true rfl) ⟨rfl, rfl⟩
theorem w14_82 {x : Int32} {l0 l1 : Slot} : W (pj lw) 14 82 (l0 :: l1 :: .val (.int x) :: L) S k n H Q ↔ W (pj lw) 14 85 (l0 :: l1 :: .val (.int (x + 1)) :: L) S k n H Q := W_s (rfl : (pj lw).1 14 82 = some (.iinc 2 1, 3, 0)) rfl rfl rfl
theorem w14_85 : W (pj lw) 14 85 L S k n H Q ↔ W (pj lw) 14 60 L S k n H Q := W_goto (rfl : (pj lw).1 14 85 = some (.goto (-25), 3, 0)) rfl
theorem w14_88 {x : Int32} {l0 : Slot} : W (pj lw) 14 88 (l0 :: .val (.int x) :: L) S k n H Q ↔ W (pj lw) 14 91 (l0 :: .val (.int (x + 1)) :: L) S k n H Q := W_s (rfl : (pj lw).1 14 88 = some (.iinc 1 1, 3, 0)) rfl rfl rfl
theorem w14_91 : W (pj lw) 14 91 L S k n H Q ↔ W (pj lw) 14 50 L S k n H Q := W_goto (rfl : (pj lw).1 14 91 = some (.goto (-41), 3, 0)) rfl
theorem w14_94 : W (pj lw) 14 94 L S k n H Q ↔ W (pj lw) 14 95 L (.int 0 :: S) k n H Q := W_s (rfl : (pj lw).1 14 94 = some (.iconst 0, 1, 0)) rfl rfl rfl
theorem w14_95i {y : Int32} {x : Int32} {l0 : Slot} : W (pj lw) 14 95 (l0 :: .val (.int y) :: L) (.int x :: S) k n H Q ↔ W (pj lw) 14 96 (l0 :: .val (.int x) :: L) S k n H Q := W_istn (rfl : (pj lw).1 14 95 = some (.istore_n 1, 1, 0)) rfl rfl
theorem w14_96 : W (pj lw) 14 96 L S k n H Q ↔ W (pj lw) 14 97 L (.int 0 :: S) k n H Q := W_s (rfl : (pj lw).1 14 96 = some (.iconst 0, 1, 0)) rfl rfl rfl
theorem w14_97i {y : Int32} {x : Int32} {l0 l1 : Slot} : W (pj lw) 14 97 (l0 :: l1 :: .val (.int y) :: L) (.int x :: S) k n H Q ↔ W (pj lw) 14 98 (l0 :: l1 :: .val (.int x) :: L) S k n H Q := W_istn (rfl : (pj lw).1 14 97 = some (.istore_n 2, 1, 0)) rfl rfl
theorem w14_98 {x : Int32} {l0 l1 : Slot} : W (pj lw) 14 98 (l0 :: l1 :: .val (.int x) :: L) S k n H Q ↔ W (pj lw) 14 99 (l0 :: l1 :: .val (.int x) :: L) (.int x :: S) k n H Q := W_s (rfl : (pj lw).1 14 98 = some (.iload_n 2, 1, 0)) rfl rfl rfl
theorem w14_99 {x : Nat} : W (pj lw) 14 99 (.val (.ref x) :: L) S k n H Q ↔ W (pj lw) 14 100 (.val (.ref x) :: L) (.ref x :: S) k n H Q := W_s (rfl : (pj lw).1 14 99 = some (.aload_n 0, 1, 0)) rfl rfl rfl
theorem w14_100 {a : Nat} : W (pj lw) 14 100 L (.ref a :: S) k n H Q ↔ (isO H a = true ∧ W (pj lw) 14 103 L (fld H a 0 :: S) k n H Q) := W_getf (rfl : (pj lw).1 14 100 = some (.getfield 48, 3, 0))
theorem w14_103 {x y : Int32} : W (pj lw) 14 103 L (.int y :: .int x :: S) k n H Q ↔ (if x < y then W (pj lw) 14 106 L S k n H Q else W (pj lw) 14 183 L S k n H Q) := W_icmp_ge (rfl : (pj lw).1 14 103 = some (.if_icmp .ge 80, 3, 0)) rfl
theorem w14_106 {x : Nat} : W (pj lw) 14 106 (.val (.ref x) :: L) S k n H Q ↔ W (pj lw) 14 107 (.val (.ref x) :: L) (.ref x :: S) k n H Q := W_s (rfl : (pj lw).1 14 106 = some (.aload_n 0, 1, 0)) rfl rfl rfl
theorem w14_107 {a : Nat} : W (pj lw) 14 107 L (.ref a :: S) k n H Q ↔ (isO H a = true ∧ W (pj lw) 14 110 L (fld H a 11 :: S) k n H Q) := W_getf (rfl : (pj lw).1 14 107 = some (.getfield 27, 3, 11))
theorem w14_110 {x : Nat} : W (pj lw) 14 110 (.val (.ref x) :: L) S k n H Q ↔ W (pj lw) 14 111 (.val (.ref x) :: L) (.ref x :: S) k n H Q := W_s (rfl : (pj lw).1 14 110 = some (.aload_n 0, 1, 0)) rfl rfl rfl
theorem w14_111 {a : Nat} : W (pj lw) 14 111 L (.ref a :: S) k n H Q ↔ (isO H a = true ∧ W (pj lw) 14 114 L (fld H a 0 :: S) k n H Q) := W_getf (rfl : (pj lw).1 14 111 = some (.getfield 48, 3, 0))
theorem w14_114 : W (pj lw) 14 114 L S k n H Q ↔ W (pj lw) 14 116 L (.int 24 :: S) k n H Q := W_s (rfl : (pj lw).1 14 114 = some (.bipush 24, 2, 0)) rfl rfl rfl
theorem w14_116 {x y : Int32} : W (pj lw) 14 116 L (.int y :: .int x :: S) k n H Q ↔ W (pj lw) 14 117 L (.int (x * y) :: S) k n H Q := W_s (rfl : (pj lw).1 14 116 = some (.imul, 1, 0)) rfl rfl rfl
theorem w14_117 {x : Int32} {l0 l1 : Slot} : W (pj lw) 14 117 (l0 :: l1 :: .val (.int x) :: L) S k n H Q ↔ W (pj lw) 14 118 (l0 :: l1 :: .val (.int x) :: L) (.int x :: S) k n H Q := W_s (rfl : (pj lw).1 14 117 = some (.iload_n 2, 1, 0)) rfl rfl rfl
theorem w14_118 {x y : Int32} : W (pj lw) 14 118 L (.int y :: .int x :: S) k n H Q ↔ W (pj lw) 14 119 L (.int (x + y) :: S) k n H Q := W_s (rfl : (pj lw).1 14 118 = some (.iadd, 1, 0)) rfl rfl rfl
theorem w14_119 {i : Int32} {a : Nat} : W (pj lw) 14 119 L (.int i :: .ref a :: S) k n H Q ↔ (inA H a .long i = true ∧ W (pj lw) 14 120 L (elt H a i :: S) k n H Q) := W_laload (rfl : (pj lw).1 14 119 = some (.laload, 1, 0))
theorem w14_120 {x : Nat} : W (pj lw) 14 120 (.val (.ref x) :: L) S k n H Q ↔ W (pj lw) 14 121 (.val (.ref x) :: L) (.ref x :: S) k n H Q := W_s (rfl : (pj lw).1 14 120 = some (.aload_n 0, 1, 0)) rfl rfl rfl
theorem w14_121 {a : Nat} : W (pj lw) 14 121 L (.ref a :: S) k n H Q ↔ (isO H a = true ∧ W (pj lw) 14 124 L (fld H a 16 :: S) k n H Q) := W_getf (rfl : (pj lw).1 14 121 = some (.getfield 44, 3, 16))
theorem w14_124 {x y : Int64} : W (pj lw) 14 124 L (.long y :: .long x :: S) k n H Q ↔ W (pj lw) 14 125 L (.int (Jvm.Free.XT.cmpL x y) :: S) k n H Q := W_s (rfl : (pj lw).1 14 124 = some (.lcmp, 1, 0)) rfl rfl rfl
theorem w14_125 {x : Int32} : W (pj lw) 14 125 L (.int x :: S) k n H Q ↔ (if x = 0 then W (pj lw) 14 177 L S k n H Q else W (pj lw) 14 128 L S k n H Q) := W_if_eq (rfl : (pj lw).1 14 125 = some (.ifCond .eq 52, 3, 0)) rfl
theorem w14_128 {x : Nat} : W (pj lw) 14 128 (.val (.ref x) :: L) S k n H Q ↔ W (pj lw) 14 129 (.val (.ref x) :: L) (.ref x :: S) k n H Q := W_s (rfl : (pj lw).1 14 128 = some (.aload_n 0, 1, 0)) rfl rfl rfl
theorem w14_129 {x : Int32} {l0 l1 : Slot} : W (pj lw) 14 129 (l0 :: l1 :: .val (.int x) :: L) S k n H Q ↔ W (pj lw) 14 130 (l0 :: l1 :: .val (.int x) :: L) (.int x :: S) k n H Q := W_s (rfl : (pj lw).1 14 129 = some (.iload_n 2, 1, 0)) rfl rfl rfl
theorem w14_130 {a : Nat} {x0 : Int32} : W (pj lw) 14 130 L (.int x0 :: .ref a :: S) k n H Q ↔ ((isO H a = true ∧ cs S + (12 + 11) + 0 ≤ 23) ∧ Cl (pj lw) 16 [.ref a, .int x0] H (fun v H => W (pj lw) 14 133 L (v.toList ++ S) k n H Q)) := W_inst (as := [.int x0]) (rfl : (pj lw).1 14 130 = some (.invokevirtual 116, 3, 16)) rfl rfl rfl (Nat.le_of_ble_eq_true rfl) (Nat.le_of_ble_eq_true rfl) ⟨rfl, rfl⟩
theorem w14_133 {x : Int32} {l0 : Slot} : W (pj lw) 14 133 (l0 :: .val (.int x) :: L) S k n H Q ↔ W (pj lw) 14 134 (l0 :: .val (.int x) :: L) (.int x :: S) k n H Q := W_s (rfl : (pj lw).1 14 133 = some (.iload_n 1, 1, 0)) rfl rfl rfl
theorem w14_134 {x : Int32} : W (pj lw) 14 134 L (.int x :: S) k n H Q ↔ (if x = 0 then W (pj lw) 14 159 L S k n H Q else W (pj lw) 14 137 L S k n H Q) := W_if_eq (rfl : (pj lw).1 14 134 = some (.ifCond .eq 25, 3, 0)) rfl
theorem w14_137 {x : Nat} : W (pj lw) 14 137 (.val (.ref x) :: L) S k n H Q ↔ W (pj lw) 14 138 (.val (.ref x) :: L) (.ref x :: S) k n H Q := W_s (rfl : (pj lw).1 14 137 = some (.aload_n 0, 1, 0)) rfl rfl rfl
theorem w14_138 {a : Nat} : W (pj lw) 14 138 L (.ref a :: S) k n H Q ↔ (isO H a = true ∧ W (pj lw) 14 141 L (fld H a 19 :: S) k n H Q) := W_getf (rfl : (pj lw).1 14 138 = some (.getfield 119, 3, 19))
theorem w14_141 {x : Nat} : W (pj lw) 14 141 (.val (.ref x) :: L) S k n H Q ↔ W (pj lw) 14 142 (.val (.ref x) :: L) (.ref x :: S) k n H Q := W_s (rfl : (pj lw).1 14 141 = some (.aload_n 0, 1, 0)) rfl rfl rfl
theorem w14_142 {a : Nat} : W (pj lw) 14 142 L (.ref a :: S) k n H Q ↔ (isO H a = true ∧ W (pj lw) 14 145 L (fld H a 18 :: S) k n H Q) := W_getf (rfl : (pj lw).1 14 142 = some (.getfield 83, 3, 18))
theorem w14_145 {x y : Int64} : W (pj lw) 14 145 L (.long y :: .long x :: S) k n H Q ↔ W (pj lw) 14 146 L (.long (x * y) :: S) k n H Q := W_s (rfl : (pj lw).1 14 145 = some (.lmul, 1, 0)) rfl rfl rfl
theorem w14_146 {x : Nat} : W (pj lw) 14 146 (.val (.ref x) :: L) S k n H Q ↔ W (pj lw) 14 147 (.val (.ref x) :: L) (.ref x :: S) k n H Q := W_s (rfl : (pj lw).1 14 146 = some (.aload_n 0, 1, 0)) rfl rfl rfl
theorem w14_147 {a : Nat} : W (pj lw) 14 147 L (.ref a :: S) k n H Q ↔ (isO H a = true ∧ W (pj lw) 14 150 L (fld H a 17 :: S) k n H Q) := W_getf (rfl : (pj lw).1 14 147 = some (.getfield 86, 3, 17))
theorem w14_150 {x : Nat} : W (pj lw) 14 150 (.val (.ref x) :: L) S k n H Q ↔ W (pj lw) 14 151 (.val (.ref x) :: L) (.ref x :: S) k n H Q := W_s (rfl : (pj lw).1 14 150 = some (.aload_n 0, 1, 0)) rfl rfl rfl
theorem w14_151 {a : Nat} : W (pj lw) 14 151 L (.ref a :: S) k n H Q ↔ (isO H a = true ∧ W (pj lw) 14 154 L (fld H a 20 :: S) k n H Q) := W_getf (rfl : (pj lw).1 14 151 = some (.getfield 122, 3, 20))
theorem w14_154 {x y : Int64} : W (pj lw) 14 154 L (.long y :: .long x :: S) k n H Q ↔ W (pj lw) 14 155 L (.long (x * y) :: S) k n H Q := W_s (rfl : (pj lw).1 14 154 = some (.lmul, 1, 0)) rfl rfl rfl
theorem w14_155 {x y : Int64} : W (pj lw) 14 155 L (.long y :: .long x :: S) k n H Q ↔ W (pj lw) 14 156 L (.int (Jvm.Free.XT.cmpL x y) :: S) k n H Q := W_s (rfl : (pj lw).1 14 155 = some (.lcmp, 1, 0)) rfl rfl rfl
theorem w14_156 {x : Int32} : W (pj lw) 14 156 L (.int x :: S) k n H Q ↔ (if x < 0 then W (pj lw) 14 159 L S k n H Q else W (pj lw) 14 177 L S k n H Q) := W_if_ge (rfl : (pj lw).1 14 156 = some (.ifCond .ge 21, 3, 0)) rfl
theorem w14_159 {x : Nat} : W (pj lw) 14 159 (.val (.ref x) :: L) S k n H Q ↔ W (pj lw) 14 160 (.val (.ref x) :: L) (.ref x :: S) k n H Q := W_s (rfl : (pj lw).1 14 159 = some (.aload_n 0, 1, 0)) rfl rfl rfl
theorem w14_160 {x : Nat} : W (pj lw) 14 160 (.val (.ref x) :: L) S k n H Q ↔ W (pj lw) 14 161 (.val (.ref x) :: L) (.ref x :: S) k n H Q := W_s (rfl : (pj lw).1 14 160 = some (.aload_n 0, 1, 0)) rfl rfl rfl
theorem w14_161 {a : Nat} : W (pj lw) 14 161 L (.ref a :: S) k n H Q ↔ (isO H a = true ∧ W (pj lw) 14 164 L (fld H a 19 :: S) k n H Q) := W_getf (rfl : (pj lw).1 14 161 = some (.getfield 119, 3, 19))
theorem w14_164 {a : Nat} {v : Value} : W (pj lw) 14 164 L (v :: .ref a :: S) k n H Q ↔ ((isOw H a = true ∧ okv (.long) v = true) ∧ W (pj lw) 14 167 L S k n (wr H a 17 v) Q) := W_putf (rfl : (pj lw).1 14 164 = some (.putfield 86, 3, 17))
theorem w14_167 {x : Nat} : W (pj lw) 14 167 (.val (.ref x) :: L) S k n H Q ↔ W (pj lw) 14 168 (.val (.ref x) :: L) (.ref x :: S) k n H Q := W_s (rfl : (pj lw).1 14 167 = some (.aload_n 0, 1, 0)) rfl rfl rfl
theorem w14_168 {x : Nat} : W (pj lw) 14 168 (.val (.ref x) :: L) S k n H Q ↔ W (pj lw) 14 169 (.val (.ref x) :: L) (.ref x :: S) k n H Q := W_s (rfl : (pj lw).1 14 168 = some (.aload_n 0, 1, 0)) rfl rfl rfl
theorem w14_169 {a : Nat} : W (pj lw) 14 169 L (.ref a :: S) k n H Q ↔ (isO H a = true ∧ W (pj lw) 14 172 L (fld H a 20 :: S) k n H Q) := W_getf (rfl : (pj lw).1 14 169 = some (.getfield 122, 3, 20))
theorem w14_172 {a : Nat} {v : Value} : W (pj lw) 14 172 L (v :: .ref a :: S) k n H Q ↔ ((isOw H a = true ∧ okv (.long) v = true) ∧ W (pj lw) 14 175 L S k n (wr H a 18 v) Q) := W_putf (rfl : (pj lw).1 14 172 = some (.putfield 83, 3, 18))
theorem w14_175 : W (pj lw) 14 175 L S k n H Q ↔ W (pj lw) 14 176 L (.int 1 :: S) k n H Q := W_s (rfl : (pj lw).1 14 175 = some (.iconst 1, 1, 0)) rfl rfl rfl
theorem w14_176i {y : Int32} {x : Int32} {l0 : Slot} : W (pj lw) 14 176 (l0 :: .val (.int y) :: L) (.int x :: S) k n H Q ↔ W (pj lw) 14 177 (l0 :: .val (.int x) :: L) S k n H Q := W_istn (rfl : (pj lw).1 14 176 = some (.istore_n 1, 1, 0)) rfl rfl
theorem w14_177 {x : Int32} {l0 l1 : Slot} : W (pj lw) 14 177 (l0 :: l1 :: .val (.int x) :: L) S k n H Q ↔ W (pj lw) 14 180 (l0 :: l1 :: .val (.int (x + 1)) :: L) S k n H Q := W_s (rfl : (pj lw).1 14 177 = some (.iinc 2 1, 3, 0)) rfl rfl rfl
theorem w14_180 : W (pj lw) 14 180 L S k n H Q ↔ W (pj lw) 14 98 L S k n H Q := W_goto (rfl : (pj lw).1 14 180 = some (.goto (-82), 3, 0)) rfl
theorem w14_183 {x : Int32} {l0 : Slot} : W (pj lw) 14 183 (l0 :: .val (.int x) :: L) S k n H Q ↔ W (pj lw) 14 184 (l0 :: .val (.int x) :: L) (.int x :: S) k n H Q := W_s (rfl : (pj lw).1 14 183 = some (.iload_n 1, 1, 0)) rfl rfl rfl
theorem w14_184 {x : Int32} : W (pj lw) 14 184 L (.int x :: S) k n H Q ↔ ((x = 0 ∨ x = 1) ∧ Q (some (.int x)) H) := W_rz (rfl : (pj lw).1 14 184 = some (.ireturn, 1, 0)) rfl
theorem c15 {x0 : Nat} {x1 : Int32} {x2 : Int32} : Cl (pj lw) 15 [.ref x0, .int x1, .int x2] H Q ↔ W (pj lw) 15 0 [.val (.ref x0), .val (.int x1), .val (.int x2), .unset, .unset, .unset, .unset, .unset, .unset] [] 0 0 H Q := cl_unf rfl
theorem w15_0 {x : Int32} {l0 l1 : Slot} : W (pj lw) 15 0 (l0 :: l1 :: .val (.int x) :: L) S k n H Q ↔ W (pj lw) 15 1 (l0 :: l1 :: .val (.int x) :: L) (.int x :: S) k n H Q := W_s (rfl : (pj lw).1 15 0 = some (.iload_n 2, 1, 0)) rfl rfl rfl
theorem w15_1 : W (pj lw) 15 1 L S k n H Q ↔ W (pj lw) 15 3 L (.int 24 :: S) k n H Q := W_s (rfl : (pj lw).1 15 1 = some (.bipush 24, 2, 0)) rfl rfl rfl
theorem w15_3 {x y : Int32} : W (pj lw) 15 3 L (.int y :: .int x :: S) k n H Q ↔ (¬ y = 0 ∧ W (pj lw) 15 4 L (.int (x / y) :: S) k n H Q) := W_idiv (rfl : (pj lw).1 15 3 = some (.idiv, 1, 0))
theorem w15_4 {x : Int32} {l0 l1 l2 : Slot} : W (pj lw) 15 4 (l0 :: l1 :: l2 :: .unset :: L) (.int x :: S) k n H Q ↔ W (pj lw) 15 5 (l0 :: l1 :: l2 :: .val (.int x) :: L) S k n H Q := W_istn (rfl : (pj lw).1 15 4 = some (.istore_n 3, 1, 0)) rfl rfl
theorem w15_5 {x : Int32} {l0 l1 : Slot} : W (pj lw) 15 5 (l0 :: l1 :: .val (.int x) :: L) S k n H Q ↔ W (pj lw) 15 6 (l0 :: l1 :: .val (.int x) :: L) (.int x :: S) k n H Q := W_s (rfl : (pj lw).1 15 5 = some (.iload_n 2, 1, 0)) rfl rfl rfl
theorem w15_6 : W (pj lw) 15 6 L S k n H Q ↔ W (pj lw) 15 8 L (.int 24 :: S) k n H Q := W_s (rfl : (pj lw).1 15 6 = some (.bipush 24, 2, 0)) rfl rfl rfl
theorem w15_8 {x y : Int32} : W (pj lw) 15 8 L (.int y :: .int x :: S) k n H Q ↔ (¬ y = 0 ∧ W (pj lw) 15 9 L (.int (x % y) :: S) k n H Q) := W_irem (rfl : (pj lw).1 15 8 = some (.irem, 1, 0))
theorem w15_9 {x : Int32} {l0 l1 l2 l3 : Slot} : W (pj lw) 15 9 (l0 :: l1 :: l2 :: l3 :: .unset :: L) (.int x :: S) k n H Q ↔ W (pj lw) 15 11 (l0 :: l1 :: l2 :: l3 :: .val (.int x) :: L) S k n H Q := W_ist (rfl : (pj lw).1 15 9 = some (.istore 4, 2, 0)) rfl rfl
theorem w15_11 {x : Nat} : W (pj lw) 15 11 (.val (.ref x) :: L) S k n H Q ↔ W (pj lw) 15 12 (.val (.ref x) :: L) (.ref x :: S) k n H Q := W_s (rfl : (pj lw).1 15 11 = some (.aload_n 0, 1, 0)) rfl rfl rfl
theorem w15_12 {a : Nat} : W (pj lw) 15 12 L (.ref a :: S) k n H Q ↔ (isO H a = true ∧ W (pj lw) 15 15 L (fld H a 11 :: S) k n H Q) := W_getf (rfl : (pj lw).1 15 12 = some (.getfield 27, 3, 11))
theorem w15_15 {x : Int32} {l0 : Slot} : W (pj lw) 15 15 (l0 :: .val (.int x) :: L) S k n H Q ↔ W (pj lw) 15 16 (l0 :: .val (.int x) :: L) (.int x :: S) k n H Q := W_s (rfl : (pj lw).1 15 15 = some (.iload_n 1, 1, 0)) rfl rfl rfl
theorem w15_16 : W (pj lw) 15 16 L S k n H Q ↔ W (pj lw) 15 17 L (.int 1 :: S) k n H Q := W_s (rfl : (pj lw).1 15 16 = some (.iconst 1, 1, 0)) rfl rfl rfl
theorem w15_17 {x y : Int32} : W (pj lw) 15 17 L (.int y :: .int x :: S) k n H Q ↔ W (pj lw) 15 18 L (.int (x - y) :: S) k n H Q := W_s (rfl : (pj lw).1 15 17 = some (.isub, 1, 0)) rfl rfl rfl
theorem w15_18 : W (pj lw) 15 18 L S k n H Q ↔ W (pj lw) 15 20 L (.int 24 :: S) k n H Q := W_s (rfl : (pj lw).1 15 18 = some (.bipush 24, 2, 0)) rfl rfl rfl
theorem w15_20 {x y : Int32} : W (pj lw) 15 20 L (.int y :: .int x :: S) k n H Q ↔ W (pj lw) 15 21 L (.int (x * y) :: S) k n H Q := W_s (rfl : (pj lw).1 15 20 = some (.imul, 1, 0)) rfl rfl rfl
theorem w15_21 {x : Int32} {l0 l1 l2 : Slot} : W (pj lw) 15 21 (l0 :: l1 :: l2 :: .val (.int x) :: L) S k n H Q ↔ W (pj lw) 15 22 (l0 :: l1 :: l2 :: .val (.int x) :: L) (.int x :: S) k n H Q := W_s (rfl : (pj lw).1 15 21 = some (.iload_n 3, 1, 0)) rfl rfl rfl
theorem w15_22 {x y : Int32} : W (pj lw) 15 22 L (.int y :: .int x :: S) k n H Q ↔ W (pj lw) 15 23 L (.int (x + y) :: S) k n H Q := W_s (rfl : (pj lw).1 15 22 = some (.iadd, 1, 0)) rfl rfl rfl
theorem w15_23 {i : Int32} {a : Nat} : W (pj lw) 15 23 L (.int i :: .ref a :: S) k n H Q ↔ (inA H a .long i = true ∧ W (pj lw) 15 24 L (elt H a i :: S) k n H Q) := W_laload (rfl : (pj lw).1 15 23 = some (.laload, 1, 0))
theorem w15_24uu {x : Int64} {l0 l1 l2 l3 l4 : Slot} : W (pj lw) 15 24 (l0 :: l1 :: l2 :: l3 :: l4 :: .unset :: .unset :: L) (.long x :: S) k n H Q ↔ W (pj lw) 15 26 (l0 :: l1 :: l2 :: l3 :: l4 :: .val (.long x) :: .second :: L) S k n H Q := W_lst (rfl : (pj lw).1 15 24 = some (.lstore 5, 2, 0)) rfl rfl rfl rfl
theorem w15_26 {x : Int64} {l0 l1 l2 l3 l4 : Slot} : W (pj lw) 15 26 (l0 :: l1 :: l2 :: l3 :: l4 :: .val (.long x) :: L) S k n H Q ↔ W (pj lw) 15 28 (l0 :: l1 :: l2 :: l3 :: l4 :: .val (.long x) :: L) (.long x :: S) k n H Q := W_s (rfl : (pj lw).1 15 26 = some (.lload 5, 2, 0)) rfl rfl rfl
theorem w15_28 {x : Nat} : W (pj lw) 15 28 (.val (.ref x) :: L) S k n H Q ↔ W (pj lw) 15 29 (.val (.ref x) :: L) (.ref x :: S) k n H Q := W_s (rfl : (pj lw).1 15 28 = some (.aload_n 0, 1, 0)) rfl rfl rfl
theorem w15_29 {a : Nat} : W (pj lw) 15 29 L (.ref a :: S) k n H Q ↔ (isO H a = true ∧ W (pj lw) 15 32 L (fld H a 16 :: S) k n H Q) := W_getf (rfl : (pj lw).1 15 29 = some (.getfield 44, 3, 16))
theorem w15_32 {x y : Int64} : W (pj lw) 15 32 L (.long y :: .long x :: S) k n H Q ↔ W (pj lw) 15 33 L (.int (Jvm.Free.XT.cmpL x y) :: S) k n H Q := W_s (rfl : (pj lw).1 15 32 = some (.lcmp, 1, 0)) rfl rfl rfl
theorem w15_33 {x : Int32} : W (pj lw) 15 33 L (.int x :: S) k n H Q ↔ (if x = 0 then W (pj lw) 15 36 L S k n H Q else W (pj lw) 15 37 L S k n H Q) := W_if_ne (rfl : (pj lw).1 15 33 = some (.ifCond .ne 4, 3, 0)) rfl
theorem w15_37 {x : Int64} {l0 l1 l2 l3 l4 : Slot} : W (pj lw) 15 37 (l0 :: l1 :: l2 :: l3 :: l4 :: .val (.long x) :: L) S k n H Q ↔ W (pj lw) 15 39 (l0 :: l1 :: l2 :: l3 :: l4 :: .val (.long x) :: L) (.long x :: S) k n H Q := W_s (rfl : (pj lw).1 15 37 = some (.lload 5, 2, 0)) rfl rfl rfl
theorem w15_39 {x : Nat} : W (pj lw) 15 39 (.val (.ref x) :: L) S k n H Q ↔ W (pj lw) 15 40 (.val (.ref x) :: L) (.ref x :: S) k n H Q := W_s (rfl : (pj lw).1 15 39 = some (.aload_n 0, 1, 0)) rfl rfl rfl
theorem w15_40 {a : Nat} : W (pj lw) 15 40 L (.ref a :: S) k n H Q ↔ (isO H a = true ∧ W (pj lw) 15 43 L (fld H a 3 :: S) k n H Q) := W_getf (rfl : (pj lw).1 15 40 = some (.getfield 13, 3, 3))
theorem w15_43 {x : Int32} {l0 l1 : Slot} : W (pj lw) 15 43 (l0 :: l1 :: .val (.int x) :: L) S k n H Q ↔ W (pj lw) 15 44 (l0 :: l1 :: .val (.int x) :: L) (.int x :: S) k n H Q := W_s (rfl : (pj lw).1 15 43 = some (.iload_n 2, 1, 0)) rfl rfl rfl
theorem w15_44 {i : Int32} {a : Nat} : W (pj lw) 15 44 L (.int i :: .ref a :: S) k n H Q ↔ (inA H a .int i = true ∧ W (pj lw) 15 45 L (elt H a i :: S) k n H Q) := W_iaload (rfl : (pj lw).1 15 44 = some (.iaload, 1, 0))
theorem w15_45 {x : Int32} : W (pj lw) 15 45 L (.int x :: S) k n H Q ↔ W (pj lw) 15 46 L (.long x.toInt64 :: S) k n H Q := W_s (rfl : (pj lw).1 15 45 = some (.i2l, 1, 0)) rfl rfl rfl
theorem w15_46 {x y : Int64} : W (pj lw) 15 46 L (.long y :: .long x :: S) k n H Q ↔ W (pj lw) 15 47 L (.long (x + y) :: S) k n H Q := W_s (rfl : (pj lw).1 15 46 = some (.ladd, 1, 0)) rfl rfl rfl
theorem w15_47uu {x : Int64} {l0 l1 l2 l3 l4 l5 l6 : Slot} : W (pj lw) 15 47 (l0 :: l1 :: l2 :: l3 :: l4 :: l5 :: l6 :: .unset :: .unset :: L) (.long x :: S) k n H Q ↔ W (pj lw) 15 49 (l0 :: l1 :: l2 :: l3 :: l4 :: l5 :: l6 :: .val (.long x) :: .second :: L) S k n H Q := W_lst (rfl : (pj lw).1 15 47 = some (.lstore 7, 2, 0)) rfl rfl rfl rfl
theorem w15_49 {x : Int64} {l0 l1 l2 l3 l4 l5 l6 : Slot} : W (pj lw) 15 49 (l0 :: l1 :: l2 :: l3 :: l4 :: l5 :: l6 :: .val (.long x) :: L) S k n H Q ↔ W (pj lw) 15 51 (l0 :: l1 :: l2 :: l3 :: l4 :: l5 :: l6 :: .val (.long x) :: L) (.long x :: S) k n H Q := W_s (rfl : (pj lw).1 15 49 = some (.lload 7, 2, 0)) rfl rfl rfl
theorem w15_51 {x : Nat} : W (pj lw) 15 51 (.val (.ref x) :: L) S k n H Q ↔ W (pj lw) 15 52 (.val (.ref x) :: L) (.ref x :: S) k n H Q := W_s (rfl : (pj lw).1 15 51 = some (.aload_n 0, 1, 0)) rfl rfl rfl
theorem w15_52 {a : Nat} : W (pj lw) 15 52 L (.ref a :: S) k n H Q ↔ (isO H a = true ∧ W (pj lw) 15 55 L (fld H a 11 :: S) k n H Q) := W_getf (rfl : (pj lw).1 15 52 = some (.getfield 27, 3, 11))
theorem w15_55 {x : Int32} {l0 : Slot} : W (pj lw) 15 55 (l0 :: .val (.int x) :: L) S k n H Q ↔ W (pj lw) 15 56 (l0 :: .val (.int x) :: L) (.int x :: S) k n H Q := W_s (rfl : (pj lw).1 15 55 = some (.iload_n 1, 1, 0)) rfl rfl rfl
theorem w15_56 : W (pj lw) 15 56 L S k n H Q ↔ W (pj lw) 15 58 L (.int 24 :: S) k n H Q := W_s (rfl : (pj lw).1 15 56 = some (.bipush 24, 2, 0)) rfl rfl rfl
theorem w15_58 {x y : Int32} : W (pj lw) 15 58 L (.int y :: .int x :: S) k n H Q ↔ W (pj lw) 15 59 L (.int (x * y) :: S) k n H Q := W_s (rfl : (pj lw).1 15 58 = some (.imul, 1, 0)) rfl rfl rfl
theorem w15_59 {x : Int32} {l0 l1 l2 l3 : Slot} : W (pj lw) 15 59 (l0 :: l1 :: l2 :: l3 :: .val (.int x) :: L) S k n H Q ↔ W (pj lw) 15 61 (l0 :: l1 :: l2 :: l3 :: .val (.int x) :: L) (.int x :: S) k n H Q := W_s (rfl : (pj lw).1 15 59 = some (.iload 4, 2, 0)) rfl rfl rfl
theorem w15_61 {x y : Int32} : W (pj lw) 15 61 L (.int y :: .int x :: S) k n H Q ↔ W (pj lw) 15 62 L (.int (x + y) :: S) k n H Q := W_s (rfl : (pj lw).1 15 61 = some (.iadd, 1, 0)) rfl rfl rfl
theorem w15_62 {i : Int32} {a : Nat} : W (pj lw) 15 62 L (.int i :: .ref a :: S) k n H Q ↔ (inA H a .long i = true ∧ W (pj lw) 15 63 L (elt H a i :: S) k n H Q) := W_laload (rfl : (pj lw).1 15 62 = some (.laload, 1, 0))
theorem w15_63 {x y : Int64} : W (pj lw) 15 63 L (.long y :: .long x :: S) k n H Q ↔ W (pj lw) 15 64 L (.int (Jvm.Free.XT.cmpL x y) :: S) k n H Q := W_s (rfl : (pj lw).1 15 63 = some (.lcmp, 1, 0)) rfl rfl rfl
theorem w15_64 {x : Int32} : W (pj lw) 15 64 L (.int x :: S) k n H Q ↔ (if x < 0 then W (pj lw) 15 67 L S k n H Q else W (pj lw) 15 81 L S k n H Q) := W_if_ge (rfl : (pj lw).1 15 64 = some (.ifCond .ge 17, 3, 0)) rfl
theorem w15_67 {x : Nat} : W (pj lw) 15 67 (.val (.ref x) :: L) S k n H Q ↔ W (pj lw) 15 68 (.val (.ref x) :: L) (.ref x :: S) k n H Q := W_s (rfl : (pj lw).1 15 67 = some (.aload_n 0, 1, 0)) rfl rfl rfl
theorem w15_68 {a : Nat} : W (pj lw) 15 68 L (.ref a :: S) k n H Q ↔ (isO H a = true ∧ W (pj lw) 15 71 L (fld H a 11 :: S) k n H Q) := W_getf (rfl : (pj lw).1 15 68 = some (.getfield 27, 3, 11))
theorem w15_71 {x : Int32} {l0 : Slot} : W (pj lw) 15 71 (l0 :: .val (.int x) :: L) S k n H Q ↔ W (pj lw) 15 72 (l0 :: .val (.int x) :: L) (.int x :: S) k n H Q := W_s (rfl : (pj lw).1 15 71 = some (.iload_n 1, 1, 0)) rfl rfl rfl
theorem w15_72 : W (pj lw) 15 72 L S k n H Q ↔ W (pj lw) 15 74 L (.int 24 :: S) k n H Q := W_s (rfl : (pj lw).1 15 72 = some (.bipush 24, 2, 0)) rfl rfl rfl
theorem w15_74 {x y : Int32} : W (pj lw) 15 74 L (.int y :: .int x :: S) k n H Q ↔ W (pj lw) 15 75 L (.int (x * y) :: S) k n H Q := W_s (rfl : (pj lw).1 15 74 = some (.imul, 1, 0)) rfl rfl rfl
theorem w15_75 {x : Int32} {l0 l1 l2 l3 : Slot} : W (pj lw) 15 75 (l0 :: l1 :: l2 :: l3 :: .val (.int x) :: L) S k n H Q ↔ W (pj lw) 15 77 (l0 :: l1 :: l2 :: l3 :: .val (.int x) :: L) (.int x :: S) k n H Q := W_s (rfl : (pj lw).1 15 75 = some (.iload 4, 2, 0)) rfl rfl rfl
theorem w15_77 {x y : Int32} : W (pj lw) 15 77 L (.int y :: .int x :: S) k n H Q ↔ W (pj lw) 15 78 L (.int (x + y) :: S) k n H Q := W_s (rfl : (pj lw).1 15 77 = some (.iadd, 1, 0)) rfl rfl rfl
theorem w15_78 {x : Int64} {l0 l1 l2 l3 l4 l5 l6 : Slot} : W (pj lw) 15 78 (l0 :: l1 :: l2 :: l3 :: l4 :: l5 :: l6 :: .val (.long x) :: L) S k n H Q ↔ W (pj lw) 15 80 (l0 :: l1 :: l2 :: l3 :: l4 :: l5 :: l6 :: .val (.long x) :: L) (.long x :: S) k n H Q := W_s (rfl : (pj lw).1 15 78 = some (.lload 7, 2, 0)) rfl rfl rfl
theorem w15_80 {x : Int64} {i : Int32} {a : Nat} : W (pj lw) 15 80 L (.long x :: .int i :: .ref a :: S) k n H Q ↔ (inAw H a .long i = true ∧ W (pj lw) 15 81 L S k n (wr H a i.toNatClampNeg (.long x)) Q) := W_lastore (rfl : (pj lw).1 15 80 = some (.lastore, 1, 0))
theorem w15_81 : W (pj lw) 15 81 L [] k n H Q ↔ Q none H := W_r (rfl : (pj lw).1 15 81 = some (.return_, 1, 0)) rfl
theorem c16 {x0 : Nat} {x1 : Int32} : Cl (pj lw) 16 [.ref x0, .int x1] H Q ↔ W (pj lw) 16 0 [.val (.ref x0), .val (.int x1), .unset, .unset, .unset, .unset, .unset, .unset, .unset, .unset, .unset, .unset] [] 0 0 H Q := cl_unf rfl
theorem w16_0 {x : Nat} : W (pj lw) 16 0 (.val (.ref x) :: L) S k n H Q ↔ W (pj lw) 16 1 (.val (.ref x) :: L) (.ref x :: S) k n H Q := W_s (rfl : (pj lw).1 16 0 = some (.aload_n 0, 1, 0)) rfl rfl rfl
theorem w16_1 {a : Nat} : W (pj lw) 16 1 L (.ref a :: S) k n H Q ↔ (isO H a = true ∧ W (pj lw) 16 4 L (fld H a 11 :: S) k n H Q) := W_getf (rfl : (pj lw).1 16 1 = some (.getfield 27, 3, 11))
theorem w16_4 {x : Nat} : W (pj lw) 16 4 (.val (.ref x) :: L) S k n H Q ↔ W (pj lw) 16 5 (.val (.ref x) :: L) (.ref x :: S) k n H Q := W_s (rfl : (pj lw).1 16 4 = some (.aload_n 0, 1, 0)) rfl rfl rfl
theorem w16_5 {a : Nat} : W (pj lw) 16 5 L (.ref a :: S) k n H Q ↔ (isO H a = true ∧ W (pj lw) 16 8 L (fld H a 0 :: S) k n H Q) := W_getf (rfl : (pj lw).1 16 5 = some (.getfield 48, 3, 0))
theorem w16_8 : W (pj lw) 16 8 L S k n H Q ↔ W (pj lw) 16 10 L (.int 24 :: S) k n H Q := W_s (rfl : (pj lw).1 16 8 = some (.bipush 24, 2, 0)) rfl rfl rfl
theorem w16_10 {x y : Int32} : W (pj lw) 16 10 L (.int y :: .int x :: S) k n H Q ↔ W (pj lw) 16 11 L (.int (x * y) :: S) k n H Q := W_s (rfl : (pj lw).1 16 10 = some (.imul, 1, 0)) rfl rfl rfl
theorem w16_11 {x : Int32} {l0 : Slot} : W (pj lw) 16 11 (l0 :: .val (.int x) :: L) S k n H Q ↔ W (pj lw) 16 12 (l0 :: .val (.int x) :: L) (.int x :: S) k n H Q := W_s (rfl : (pj lw).1 16 11 = some (.iload_n 1, 1, 0)) rfl rfl rfl
theorem w16_12 {x y : Int32} : W (pj lw) 16 12 L (.int y :: .int x :: S) k n H Q ↔ W (pj lw) 16 13 L (.int (x + y) :: S) k n H Q := W_s (rfl : (pj lw).1 16 12 = some (.iadd, 1, 0)) rfl rfl rfl
theorem w16_13 {i : Int32} {a : Nat} : W (pj lw) 16 13 L (.int i :: .ref a :: S) k n H Q ↔ (inA H a .long i = true ∧ W (pj lw) 16 14 L (elt H a i :: S) k n H Q) := W_laload (rfl : (pj lw).1 16 13 = some (.laload, 1, 0))
theorem w16_14uu {x : Int64} {l0 l1 : Slot} : W (pj lw) 16 14 (l0 :: l1 :: .unset :: .unset :: L) (.long x :: S) k n H Q ↔ W (pj lw) 16 15 (l0 :: l1 :: .val (.long x) :: .second :: L) S k n H Q := W_lstn (rfl : (pj lw).1 16 14 = some (.lstore_n 2, 1, 0)) rfl rfl rfl rfl
theorem w16_15 : W (pj lw) 16 15 L S k n H Q ↔ W (pj lw) 16 16 L (.int 1 :: S) k n H Q := W_s (rfl : (pj lw).1 16 15 = some (.iconst 1, 1, 0)) rfl rfl rfl
theorem w16_16 {x : Int32} {l0 l1 l2 l3 : Slot} : W (pj lw) 16 16 (l0 :: l1 :: l2 :: l3 :: .unset :: L) (.int x :: S) k n H Q ↔ W (pj lw) 16 18 (l0 :: l1 :: l2 :: l3 :: .val (.int x) :: L) S k n H Q := W_ist (rfl : (pj lw).1 16 16 = some (.istore 4, 2, 0)) rfl rfl
theorem w16_18 {x : Nat} : W (pj lw) 16 18 (.val (.ref x) :: L) S k n H Q ↔ W (pj lw) 16 19 (.val (.ref x) :: L) (.ref x :: S) k n H Q := W_s (rfl : (pj lw).1 16 18 = some (.aload_n 0, 1, 0)) rfl rfl rfl
theorem w16_19 : W (pj lw) 16 19 L S k n H Q ↔ W (pj lw) 16 20 L (.long 0 :: S) k n H Q := W_s (rfl : (pj lw).1 16 19 = some (.lconst 0, 1, 0)) rfl rfl rfl
theorem w16_20 {a : Nat} {v : Value} : W (pj lw) 16 20 L (v :: .ref a :: S) k n H Q ↔ ((isOw H a = true ∧ okv (.long) v = true) ∧ W (pj lw) 16 23 L S k n (wr H a 19 v) Q) := W_putf (rfl : (pj lw).1 16 20 = some (.putfield 119, 3, 19))
theorem w16_23 {x : Nat} : W (pj lw) 16 23 (.val (.ref x) :: L) S k n H Q ↔ W (pj lw) 16 24 (.val (.ref x) :: L) (.ref x :: S) k n H Q := W_s (rfl : (pj lw).1 16 23 = some (.aload_n 0, 1, 0)) rfl rfl rfl
theorem w16_24 : W (pj lw) 16 24 L S k n H Q ↔ W (pj lw) 16 25 L (.long 1 :: S) k n H Q := W_s (rfl : (pj lw).1 16 24 = some (.lconst 1, 1, 0)) rfl rfl rfl
theorem w16_25 {a : Nat} {v : Value} : W (pj lw) 16 25 L (v :: .ref a :: S) k n H Q ↔ ((isOw H a = true ∧ okv (.long) v = true) ∧ W (pj lw) 16 28 L S k n (wr H a 20 v) Q) := W_putf (rfl : (pj lw).1 16 25 = some (.putfield 122, 3, 20))
theorem w16_28 : W (pj lw) 16 28 L S k n H Q ↔ W (pj lw) 16 29 L (.int 0 :: S) k n H Q := W_s (rfl : (pj lw).1 16 28 = some (.iconst 0, 1, 0)) rfl rfl rfl
theorem w16_29 {x : Int32} {l0 l1 l2 l3 l4 : Slot} : W (pj lw) 16 29 (l0 :: l1 :: l2 :: l3 :: l4 :: .unset :: L) (.int x :: S) k n H Q ↔ W (pj lw) 16 31 (l0 :: l1 :: l2 :: l3 :: l4 :: .val (.int x) :: L) S k n H Q := W_ist (rfl : (pj lw).1 16 29 = some (.istore 5, 2, 0)) rfl rfl
theorem w16_31 {x : Int32} {l0 l1 l2 l3 l4 : Slot} : W (pj lw) 16 31 (l0 :: l1 :: l2 :: l3 :: l4 :: .val (.int x) :: L) S k n H Q ↔ W (pj lw) 16 33 (l0 :: l1 :: l2 :: l3 :: l4 :: .val (.int x) :: L) (.int x :: S) k n H Q := W_s (rfl : (pj lw).1 16 31 = some (.iload 5, 2, 0)) rfl rfl rfl
theorem w16_33 {x : Nat} : W (pj lw) 16 33 (.val (.ref x) :: L) S k n H Q ↔ W (pj lw) 16 34 (.val (.ref x) :: L) (.ref x :: S) k n H Q := W_s (rfl : (pj lw).1 16 33 = some (.aload_n 0, 1, 0)) rfl rfl rfl
theorem w16_34 {a : Nat} : W (pj lw) 16 34 L (.ref a :: S) k n H Q ↔ (isO H a = true ∧ W (pj lw) 16 37 L (fld H a 0 :: S) k n H Q) := W_getf (rfl : (pj lw).1 16 34 = some (.getfield 48, 3, 0))
theorem w16_37 {x y : Int32} : W (pj lw) 16 37 L (.int y :: .int x :: S) k n H Q ↔ (if x < y then W (pj lw) 16 40 L S k n H Q else W (pj lw) 16 127 L S k n H Q) := W_icmp_ge (rfl : (pj lw).1 16 37 = some (.if_icmp .ge 90, 3, 0)) rfl
theorem w16_40 {x : Nat} : W (pj lw) 16 40 (.val (.ref x) :: L) S k n H Q ↔ W (pj lw) 16 41 (.val (.ref x) :: L) (.ref x :: S) k n H Q := W_s (rfl : (pj lw).1 16 40 = some (.aload_n 0, 1, 0)) rfl rfl rfl
theorem w16_41 {a : Nat} : W (pj lw) 16 41 L (.ref a :: S) k n H Q ↔ (isO H a = true ∧ W (pj lw) 16 44 L (fld H a 11 :: S) k n H Q) := W_getf (rfl : (pj lw).1 16 41 = some (.getfield 27, 3, 11))
theorem w16_44 {x : Int32} {l0 l1 l2 l3 l4 : Slot} : W (pj lw) 16 44 (l0 :: l1 :: l2 :: l3 :: l4 :: .val (.int x) :: L) S k n H Q ↔ W (pj lw) 16 46 (l0 :: l1 :: l2 :: l3 :: l4 :: .val (.int x) :: L) (.int x :: S) k n H Q := W_s (rfl : (pj lw).1 16 44 = some (.iload 5, 2, 0)) rfl rfl rfl
theorem w16_46 : W (pj lw) 16 46 L S k n H Q ↔ W (pj lw) 16 48 L (.int 24 :: S) k n H Q := W_s (rfl : (pj lw).1 16 46 = some (.bipush 24, 2, 0)) rfl rfl rfl
theorem w16_48 {x y : Int32} : W (pj lw) 16 48 L (.int y :: .int x :: S) k n H Q ↔ W (pj lw) 16 49 L (.int (x * y) :: S) k n H Q := W_s (rfl : (pj lw).1 16 48 = some (.imul, 1, 0)) rfl rfl rfl
theorem w16_49 {x : Int32} {l0 : Slot} : W (pj lw) 16 49 (l0 :: .val (.int x) :: L) S k n H Q ↔ W (pj lw) 16 50 (l0 :: .val (.int x) :: L) (.int x :: S) k n H Q := W_s (rfl : (pj lw).1 16 49 = some (.iload_n 1, 1, 0)) rfl rfl rfl
theorem w16_50 {x y : Int32} : W (pj lw) 16 50 L (.int y :: .int x :: S) k n H Q ↔ W (pj lw) 16 51 L (.int (x + y) :: S) k n H Q := W_s (rfl : (pj lw).1 16 50 = some (.iadd, 1, 0)) rfl rfl rfl
theorem w16_51 {i : Int32} {a : Nat} : W (pj lw) 16 51 L (.int i :: .ref a :: S) k n H Q ↔ (inA H a .long i = true ∧ W (pj lw) 16 52 L (elt H a i :: S) k n H Q) := W_laload (rfl : (pj lw).1 16 51 = some (.laload, 1, 0))
theorem w16_52j {x y : Int64} {l0 l1 l2 l3 l4 l5 : Slot} : W (pj lw) 16 52 (l0 :: l1 :: l2 :: l3 :: l4 :: l5 :: .val (.long y) :: .second :: L) (.long x :: S) k n H Q ↔ W (pj lw) 16 54 (l0 :: l1 :: l2 :: l3 :: l4 :: l5 :: .val (.long x) :: .second :: L) S k n H Q := W_lst' (rfl : (pj lw).1 16 52 = some (.lstore 6, 2, 0)) rfl rfl
theorem w16_52uu {x : Int64} {l0 l1 l2 l3 l4 l5 : Slot} : W (pj lw) 16 52 (l0 :: l1 :: l2 :: l3 :: l4 :: l5 :: .unset :: .unset :: L) (.long x :: S) k n H Q ↔ W (pj lw) 16 54 (l0 :: l1 :: l2 :: l3 :: l4 :: l5 :: .val (.long x) :: .second :: L) S k n H Q := W_lst (rfl : (pj lw).1 16 52 = some (.lstore 6, 2, 0)) rfl rfl rfl rfl
theorem w16_54 {x : Int64} {l0 l1 l2 l3 l4 l5 : Slot} : W (pj lw) 16 54 (l0 :: l1 :: l2 :: l3 :: l4 :: l5 :: .val (.long x) :: L) S k n H Q ↔ W (pj lw) 16 56 (l0 :: l1 :: l2 :: l3 :: l4 :: l5 :: .val (.long x) :: L) (.long x :: S) k n H Q := W_s (rfl : (pj lw).1 16 54 = some (.lload 6, 2, 0)) rfl rfl rfl
theorem w16_56 {x : Nat} : W (pj lw) 16 56 (.val (.ref x) :: L) S k n H Q ↔ W (pj lw) 16 57 (.val (.ref x) :: L) (.ref x :: S) k n H Q := W_s (rfl : (pj lw).1 16 56 = some (.aload_n 0, 1, 0)) rfl rfl rfl
theorem w16_57 {a : Nat} : W (pj lw) 16 57 L (.ref a :: S) k n H Q ↔ (isO H a = true ∧ W (pj lw) 16 60 L (fld H a 16 :: S) k n H Q) := W_getf (rfl : (pj lw).1 16 57 = some (.getfield 44, 3, 16))
theorem w16_60 {x y : Int64} : W (pj lw) 16 60 L (.long y :: .long x :: S) k n H Q ↔ W (pj lw) 16 61 L (.int (Jvm.Free.XT.cmpL x y) :: S) k n H Q := W_s (rfl : (pj lw).1 16 60 = some (.lcmp, 1, 0)) rfl rfl rfl
theorem w16_61 {x : Int32} : W (pj lw) 16 61 L (.int x :: S) k n H Q ↔ (if x = 0 then W (pj lw) 16 64 L S k n H Q else W (pj lw) 16 67 L S k n H Q) := W_if_ne (rfl : (pj lw).1 16 61 = some (.ifCond .ne 6, 3, 0)) rfl
theorem w16_67 {x : Int64} {l0 l1 : Slot} : W (pj lw) 16 67 (l0 :: l1 :: .val (.long x) :: L) S k n H Q ↔ W (pj lw) 16 68 (l0 :: l1 :: .val (.long x) :: L) (.long x :: S) k n H Q := W_s (rfl : (pj lw).1 16 67 = some (.lload_n 2, 1, 0)) rfl rfl rfl
theorem w16_68 {x : Int64} {l0 l1 l2 l3 l4 l5 : Slot} : W (pj lw) 16 68 (l0 :: l1 :: l2 :: l3 :: l4 :: l5 :: .val (.long x) :: L) S k n H Q ↔ W (pj lw) 16 70 (l0 :: l1 :: l2 :: l3 :: l4 :: l5 :: .val (.long x) :: L) (.long x :: S) k n H Q := W_s (rfl : (pj lw).1 16 68 = some (.lload 6, 2, 0)) rfl rfl rfl
theorem w16_70 {x y : Int64} : W (pj lw) 16 70 L (.long y :: .long x :: S) k n H Q ↔ W (pj lw) 16 71 L (.long (x - y) :: S) k n H Q := W_s (rfl : (pj lw).1 16 70 = some (.lsub, 1, 0)) rfl rfl rfl
theorem w16_71j {x y : Int64} {l0 l1 l2 l3 l4 l5 l6 l7 : Slot} : W (pj lw) 16 71 (l0 :: l1 :: l2 :: l3 :: l4 :: l5 :: l6 :: l7 :: .val (.long y) :: .second :: L) (.long x :: S) k n H Q ↔ W (pj lw) 16 73 (l0 :: l1 :: l2 :: l3 :: l4 :: l5 :: l6 :: l7 :: .val (.long x) :: .second :: L) S k n H Q := W_lst' (rfl : (pj lw).1 16 71 = some (.lstore 8, 2, 0)) rfl rfl
theorem w16_71uu {x : Int64} {l0 l1 l2 l3 l4 l5 l6 l7 : Slot} : W (pj lw) 16 71 (l0 :: l1 :: l2 :: l3 :: l4 :: l5 :: l6 :: l7 :: .unset :: .unset :: L) (.long x :: S) k n H Q ↔ W (pj lw) 16 73 (l0 :: l1 :: l2 :: l3 :: l4 :: l5 :: l6 :: l7 :: .val (.long x) :: .second :: L) S k n H Q := W_lst (rfl : (pj lw).1 16 71 = some (.lstore 8, 2, 0)) rfl rfl rfl rfl
theorem w16_73 {x : Nat} : W (pj lw) 16 73 (.val (.ref x) :: L) S k n H Q ↔ W (pj lw) 16 74 (.val (.ref x) :: L) (.ref x :: S) k n H Q := W_s (rfl : (pj lw).1 16 73 = some (.aload_n 0, 1, 0)) rfl rfl rfl
theorem w16_74 {a : Nat} : W (pj lw) 16 74 L (.ref a :: S) k n H Q ↔ (isO H a = true ∧ W (pj lw) 16 77 L (fld H a 0 :: S) k n H Q) := W_getf (rfl : (pj lw).1 16 74 = some (.getfield 48, 3, 0))
theorem w16_77 {x : Int32} {l0 l1 l2 l3 l4 : Slot} : W (pj lw) 16 77 (l0 :: l1 :: l2 :: l3 :: l4 :: .val (.int x) :: L) S k n H Q ↔ W (pj lw) 16 79 (l0 :: l1 :: l2 :: l3 :: l4 :: .val (.int x) :: L) (.int x :: S) k n H Q := W_s (rfl : (pj lw).1 16 77 = some (.iload 5, 2, 0)) rfl rfl rfl
theorem w16_79 {x y : Int32} : W (pj lw) 16 79 L (.int y :: .int x :: S) k n H Q ↔ W (pj lw) 16 80 L (.int (x - y) :: S) k n H Q := W_s (rfl : (pj lw).1 16 79 = some (.isub, 1, 0)) rfl rfl rfl
theorem w16_80 {x : Int32} : W (pj lw) 16 80 L (.int x :: S) k n H Q ↔ W (pj lw) 16 81 L (.long x.toInt64 :: S) k n H Q := W_s (rfl : (pj lw).1 16 80 = some (.i2l, 1, 0)) rfl rfl rfl
theorem w16_81j {x y : Int64} {l0 l1 l2 l3 l4 l5 l6 l7 l8 l9 : Slot} : W (pj lw) 16 81 (l0 :: l1 :: l2 :: l3 :: l4 :: l5 :: l6 :: l7 :: l8 :: l9 :: .val (.long y) :: .second :: L) (.long x :: S) k n H Q ↔ W (pj lw) 16 83 (l0 :: l1 :: l2 :: l3 :: l4 :: l5 :: l6 :: l7 :: l8 :: l9 :: .val (.long x) :: .second :: L) S k n H Q := W_lst' (rfl : (pj lw).1 16 81 = some (.lstore 10, 2, 0)) rfl rfl
theorem w16_81uu {x : Int64} {l0 l1 l2 l3 l4 l5 l6 l7 l8 l9 : Slot} : W (pj lw) 16 81 (l0 :: l1 :: l2 :: l3 :: l4 :: l5 :: l6 :: l7 :: l8 :: l9 :: .unset :: .unset :: L) (.long x :: S) k n H Q ↔ W (pj lw) 16 83 (l0 :: l1 :: l2 :: l3 :: l4 :: l5 :: l6 :: l7 :: l8 :: l9 :: .val (.long x) :: .second :: L) S k n H Q := W_lst (rfl : (pj lw).1 16 81 = some (.lstore 10, 2, 0)) rfl rfl rfl rfl
theorem w16_83 {x : Int32} {l0 l1 l2 l3 : Slot} : W (pj lw) 16 83 (l0 :: l1 :: l2 :: l3 :: .val (.int x) :: L) S k n H Q ↔ W (pj lw) 16 85 (l0 :: l1 :: l2 :: l3 :: .val (.int x) :: L) (.int x :: S) k n H Q := W_s (rfl : (pj lw).1 16 83 = some (.iload 4, 2, 0)) rfl rfl rfl
theorem w16_85 {x : Int32} : W (pj lw) 16 85 L (.int x :: S) k n H Q ↔ (if x = 0 then W (pj lw) 16 88 L S k n H Q else W (pj lw) 16 106 L S k n H Q) := W_if_ne (rfl : (pj lw).1 16 85 = some (.ifCond .ne 21, 3, 0)) rfl
theorem w16_88 {x : Int64} {l0 l1 l2 l3 l4 l5 l6 l7 : Slot} : W (pj lw) 16 88 (l0 :: l1 :: l2 :: l3 :: l4 :: l5 :: l6 :: l7 :: .val (.long x) :: L) S k n H Q ↔ W (pj lw) 16 90 (l0 :: l1 :: l2 :: l3 :: l4 :: l5 :: l6 :: l7 :: .val (.long x) :: L) (.long x :: S) k n H Q := W_s (rfl : (pj lw).1 16 88 = some (.lload 8, 2, 0)) rfl rfl rfl
theorem w16_90 {x : Nat} : W (pj lw) 16 90 (.val (.ref x) :: L) S k n H Q ↔ W (pj lw) 16 91 (.val (.ref x) :: L) (.ref x :: S) k n H Q := W_s (rfl : (pj lw).1 16 90 = some (.aload_n 0, 1, 0)) rfl rfl rfl
theorem w16_91 {a : Nat} : W (pj lw) 16 91 L (.ref a :: S) k n H Q ↔ (isO H a = true ∧ W (pj lw) 16 94 L (fld H a 20 :: S) k n H Q) := W_getf (rfl : (pj lw).1 16 91 = some (.getfield 122, 3, 20))
theorem w16_94 {x y : Int64} : W (pj lw) 16 94 L (.long y :: .long x :: S) k n H Q ↔ W (pj lw) 16 95 L (.long (x * y) :: S) k n H Q := W_s (rfl : (pj lw).1 16 94 = some (.lmul, 1, 0)) rfl rfl rfl
theorem w16_95 {x : Nat} : W (pj lw) 16 95 (.val (.ref x) :: L) S k n H Q ↔ W (pj lw) 16 96 (.val (.ref x) :: L) (.ref x :: S) k n H Q := W_s (rfl : (pj lw).1 16 95 = some (.aload_n 0, 1, 0)) rfl rfl rfl
theorem w16_96 {a : Nat} : W (pj lw) 16 96 L (.ref a :: S) k n H Q ↔ (isO H a = true ∧ W (pj lw) 16 99 L (fld H a 19 :: S) k n H Q) := W_getf (rfl : (pj lw).1 16 96 = some (.getfield 119, 3, 19))
theorem w16_99 {x : Int64} {l0 l1 l2 l3 l4 l5 l6 l7 l8 l9 : Slot} : W (pj lw) 16 99 (l0 :: l1 :: l2 :: l3 :: l4 :: l5 :: l6 :: l7 :: l8 :: l9 :: .val (.long x) :: L) S k n H Q ↔ W (pj lw) 16 101 (l0 :: l1 :: l2 :: l3 :: l4 :: l5 :: l6 :: l7 :: l8 :: l9 :: .val (.long x) :: L) (.long x :: S) k n H Q := W_s (rfl : (pj lw).1 16 99 = some (.lload 10, 2, 0)) rfl rfl rfl
theorem w16_101 {x y : Int64} : W (pj lw) 16 101 L (.long y :: .long x :: S) k n H Q ↔ W (pj lw) 16 102 L (.long (x * y) :: S) k n H Q := W_s (rfl : (pj lw).1 16 101 = some (.lmul, 1, 0)) rfl rfl rfl
theorem w16_102 {x y : Int64} : W (pj lw) 16 102 L (.long y :: .long x :: S) k n H Q ↔ W (pj lw) 16 103 L (.int (Jvm.Free.XT.cmpL x y) :: S) k n H Q := W_s (rfl : (pj lw).1 16 102 = some (.lcmp, 1, 0)) rfl rfl rfl
theorem w16_103 {x : Int32} : W (pj lw) 16 103 L (.int x :: S) k n H Q ↔ (if 0 < x then W (pj lw) 16 106 L S k n H Q else W (pj lw) 16 121 L S k n H Q) := W_if_le (rfl : (pj lw).1 16 103 = some (.ifCond .le 18, 3, 0)) rfl
theorem w16_106 {x : Nat} : W (pj lw) 16 106 (.val (.ref x) :: L) S k n H Q ↔ W (pj lw) 16 107 (.val (.ref x) :: L) (.ref x :: S) k n H Q := W_s (rfl : (pj lw).1 16 106 = some (.aload_n 0, 1, 0)) rfl rfl rfl
theorem w16_107 {x : Int64} {l0 l1 l2 l3 l4 l5 l6 l7 : Slot} : W (pj lw) 16 107 (l0 :: l1 :: l2 :: l3 :: l4 :: l5 :: l6 :: l7 :: .val (.long x) :: L) S k n H Q ↔ W (pj lw) 16 109 (l0 :: l1 :: l2 :: l3 :: l4 :: l5 :: l6 :: l7 :: .val (.long x) :: L) (.long x :: S) k n H Q := W_s (rfl : (pj lw).1 16 107 = some (.lload 8, 2, 0)) rfl rfl rfl
theorem w16_109 {a : Nat} {v : Value} : W (pj lw) 16 109 L (v :: .ref a :: S) k n H Q ↔ ((isOw H a = true ∧ okv (.long) v = true) ∧ W (pj lw) 16 112 L S k n (wr H a 19 v) Q) := W_putf (rfl : (pj lw).1 16 109 = some (.putfield 119, 3, 19))
theorem w16_112 {x : Nat} : W (pj lw) 16 112 (.val (.ref x) :: L) S k n H Q ↔ W (pj lw) 16 113 (.val (.ref x) :: L) (.ref x :: S) k n H Q := W_s (rfl : (pj lw).1 16 112 = some (.aload_n 0, 1, 0)) rfl rfl rfl
theorem w16_113 {x : Int64} {l0 l1 l2 l3 l4 l5 l6 l7 l8 l9 : Slot} : W (pj lw) 16 113 (l0 :: l1 :: l2 :: l3 :: l4 :: l5 :: l6 :: l7 :: l8 :: l9 :: .val (.long x) :: L) S k n H Q ↔ W (pj lw) 16 115 (l0 :: l1 :: l2 :: l3 :: l4 :: l5 :: l6 :: l7 :: l8 :: l9 :: .val (.long x) :: L) (.long x :: S) k n H Q := W_s (rfl : (pj lw).1 16 113 = some (.lload 10, 2, 0)) rfl rfl rfl
theorem w16_115 {a : Nat} {v : Value} : W (pj lw) 16 115 L (v :: .ref a :: S) k n H Q ↔ ((isOw H a = true ∧ okv (.long) v = true) ∧ W (pj lw) 16 118 L S k n (wr H a 20 v) Q) := W_putf (rfl : (pj lw).1 16 115 = some (.putfield 122, 3, 20))
theorem w16_118 : W (pj lw) 16 118 L S k n H Q ↔ W (pj lw) 16 119 L (.int 0 :: S) k n H Q := W_s (rfl : (pj lw).1 16 118 = some (.iconst 0, 1, 0)) rfl rfl rfl
theorem w16_119i {y : Int32} {x : Int32} {l0 l1 l2 l3 : Slot} : W (pj lw) 16 119 (l0 :: l1 :: l2 :: l3 :: .val (.int y) :: L) (.int x :: S) k n H Q ↔ W (pj lw) 16 121 (l0 :: l1 :: l2 :: l3 :: .val (.int x) :: L) S k n H Q := W_ist (rfl : (pj lw).1 16 119 = some (.istore 4, 2, 0)) rfl rfl
theorem w16_121 {x : Int32} {l0 l1 l2 l3 l4 : Slot} : W (pj lw) 16 121 (l0 :: l1 :: l2 :: l3 :: l4 :: .val (.int x) :: L) S k n H Q ↔ W (pj lw) 16 124 (l0 :: l1 :: l2 :: l3 :: l4 :: .val (.int (x + 1)) :: L) S k n H Q := W_s (rfl : (pj lw).1 16 121 = some (.iinc 5 1, 3, 0)) rfl rfl rfl
theorem w16_124 : W (pj lw) 16 124 L S k n H Q ↔ W (pj lw) 16 31 L S k n H Q := W_goto (rfl : (pj lw).1 16 124 = some (.goto (-93), 3, 0)) rfl
theorem w16_127 : W (pj lw) 16 127 L [] k n H Q ↔ Q none H := W_r (rfl : (pj lw).1 16 127 = some (.return_, 1, 0)) rfl
theorem c17 {x0 : Nat} {x1 : Int64} {x2 : Int64} : Cl (pj lw) 17 [.ref x0, .long x1, .long x2] H Q ↔ W (pj lw) 17 0 [.val (.ref x0), .val (.long x1), .second, .val (.long x2), .second, .unset, .unset, .unset, .unset, .unset, .unset, .unset] [] 0 0 H Q := cl_unf rfl
theorem w17_0 : W (pj lw) 17 0 L S k n H Q ↔ W (pj lw) 17 1 L (.int 0 :: S) k n H Q := W_s (rfl : (pj lw).1 17 0 = some (.iconst 0, 1, 0)) rfl rfl rfl
theorem w17_1 {x : Int32} {l0 l1 l2 l3 l4 : Slot} : W (pj lw) 17 1 (l0 :: l1 :: l2 :: l3 :: l4 :: .unset :: L) (.int x :: S) k n H Q ↔ W (pj lw) 17 3 (l0 :: l1 :: l2 :: l3 :: l4 :: .val (.int x) :: L) S k n H Q := W_ist (rfl : (pj lw).1 17 1 = some (.istore 5, 2, 0)) rfl rfl
theorem w17_3 {x : Int32} {l0 l1 l2 l3 l4 : Slot} : W (pj lw) 17 3 (l0 :: l1 :: l2 :: l3 :: l4 :: .val (.int x) :: L) S k n H Q ↔ W (pj lw) 17 5 (l0 :: l1 :: l2 :: l3 :: l4 :: .val (.int x) :: L) (.int x :: S) k n H Q := W_s (rfl : (pj lw).1 17 3 = some (.iload 5, 2, 0)) rfl rfl rfl
theorem w17_5 : W (pj lw) 17 5 L S k n H Q ↔ W (pj lw) 17 7 L (.int 24 :: S) k n H Q := W_s (rfl : (pj lw).1 17 5 = some (.bipush 24, 2, 0)) rfl rfl rfl
theorem w17_7 {x y : Int32} : W (pj lw) 17 7 L (.int y :: .int x :: S) k n H Q ↔ (if x < y then W (pj lw) 17 10 L S k n H Q else W (pj lw) 17 24 L S k n H Q) := W_icmp_ge (rfl : (pj lw).1 17 7 = some (.if_icmp .ge 17, 3, 0)) rfl
theorem w17_10 {x : Nat} : W (pj lw) 17 10 (.val (.ref x) :: L) S k n H Q ↔ W (pj lw) 17 11 (.val (.ref x) :: L) (.ref x :: S) k n H Q := W_s (rfl : (pj lw).1 17 10 = some (.aload_n 0, 1, 0)) rfl rfl rfl
theorem w17_11 {a : Nat} : W (pj lw) 17 11 L (.ref a :: S) k n H Q ↔ (isO H a = true ∧ W (pj lw) 17 14 L (fld H a 10 :: S) k n H Q) := W_getf (rfl : (pj lw).1 17 11 = some (.getfield 23, 3, 10))
theorem w17_14 {x : Int32} {l0 l1 l2 l3 l4 : Slot} : W (pj lw) 17 14 (l0 :: l1 :: l2 :: l3 :: l4 :: .val (.int x) :: L) S k n H Q ↔ W (pj lw) 17 16 (l0 :: l1 :: l2 :: l3 :: l4 :: .val (.int x) :: L) (.int x :: S) k n H Q := W_s (rfl : (pj lw).1 17 14 = some (.iload 5, 2, 0)) rfl rfl rfl
theorem w17_16 : W (pj lw) 17 16 L S k n H Q ↔ W (pj lw) 17 17 L (.long 0 :: S) k n H Q := W_s (rfl : (pj lw).1 17 16 = some (.lconst 0, 1, 0)) rfl rfl rfl
theorem w17_17 {x : Int64} {i : Int32} {a : Nat} : W (pj lw) 17 17 L (.long x :: .int i :: .ref a :: S) k n H Q ↔ (inAw H a .long i = true ∧ W (pj lw) 17 18 L S k n (wr H a i.toNatClampNeg (.long x)) Q) := W_lastore (rfl : (pj lw).1 17 17 = some (.lastore, 1, 0))
theorem w17_18 {x : Int32} {l0 l1 l2 l3 l4 : Slot} : W (pj lw) 17 18 (l0 :: l1 :: l2 :: l3 :: l4 :: .val (.int x) :: L) S k n H Q ↔ W (pj lw) 17 21 (l0 :: l1 :: l2 :: l3 :: l4 :: .val (.int (x + 1)) :: L) S k n H Q := W_s (rfl : (pj lw).1 17 18 = some (.iinc 5 1, 3, 0)) rfl rfl rfl
theorem w17_21 : W (pj lw) 17 21 L S k n H Q ↔ W (pj lw) 17 3 L S k n H Q := W_goto (rfl : (pj lw).1 17 21 = some (.goto (-18), 3, 0)) rfl
theorem w17_24 : W (pj lw) 17 24 L S k n H Q ↔ W (pj lw) 17 25 L (.int 0 :: S) k n H Q := W_s (rfl : (pj lw).1 17 24 = some (.iconst 0, 1, 0)) rfl rfl rfl
theorem w17_25i {y : Int32} {x : Int32} {l0 l1 l2 l3 l4 : Slot} : W (pj lw) 17 25 (l0 :: l1 :: l2 :: l3 :: l4 :: .val (.int y) :: L) (.int x :: S) k n H Q ↔ W (pj lw) 17 27 (l0 :: l1 :: l2 :: l3 :: l4 :: .val (.int x) :: L) S k n H Q := W_ist (rfl : (pj lw).1 17 25 = some (.istore 5, 2, 0)) rfl rfl
theorem w17_27 {x : Int32} {l0 l1 l2 l3 l4 : Slot} : W (pj lw) 17 27 (l0 :: l1 :: l2 :: l3 :: l4 :: .val (.int x) :: L) S k n H Q ↔ W (pj lw) 17 29 (l0 :: l1 :: l2 :: l3 :: l4 :: .val (.int x) :: L) (.int x :: S) k n H Q := W_s (rfl : (pj lw).1 17 27 = some (.iload 5, 2, 0)) rfl rfl rfl
theorem w17_29 {x : Nat} : W (pj lw) 17 29 (.val (.ref x) :: L) S k n H Q ↔ W (pj lw) 17 30 (.val (.ref x) :: L) (.ref x :: S) k n H Q := W_s (rfl : (pj lw).1 17 29 = some (.aload_n 0, 1, 0)) rfl rfl rfl
theorem w17_30 {a : Nat} : W (pj lw) 17 30 L (.ref a :: S) k n H Q ↔ (isO H a = true ∧ W (pj lw) 17 33 L (fld H a 0 :: S) k n H Q) := W_getf (rfl : (pj lw).1 17 30 = some (.getfield 48, 3, 0))
theorem w17_33 : W (pj lw) 17 33 L S k n H Q ↔ W (pj lw) 17 34 L (.int 1 :: S) k n H Q := W_s (rfl : (pj lw).1 17 33 = some (.iconst 1, 1, 0)) rfl rfl rfl
theorem w17_34 {x y : Int32} : W (pj lw) 17 34 L (.int y :: .int x :: S) k n H Q ↔ W (pj lw) 17 35 L (.int (x + y) :: S) k n H Q := W_s (rfl : (pj lw).1 17 34 = some (.iadd, 1, 0)) rfl rfl rfl
theorem w17_35 {x y : Int32} : W (pj lw) 17 35 L (.int y :: .int x :: S) k n H Q ↔ (if y < x then W (pj lw) 17 146 L S k n H Q else W (pj lw) 17 38 L S k n H Q) := W_icmp_gt (rfl : (pj lw).1 17 35 = some (.if_icmp .gt 111, 3, 0)) rfl
theorem w17_38 : W (pj lw) 17 38 L S k n H Q ↔ W (pj lw) 17 39 L (.int 0 :: S) k n H Q := W_s (rfl : (pj lw).1 17 38 = some (.iconst 0, 1, 0)) rfl rfl rfl
theorem w17_39 {x : Int32} {l0 l1 l2 l3 l4 l5 : Slot} : W (pj lw) 17 39 (l0 :: l1 :: l2 :: l3 :: l4 :: l5 :: .unset :: L) (.int x :: S) k n H Q ↔ W (pj lw) 17 41 (l0 :: l1 :: l2 :: l3 :: l4 :: l5 :: .val (.int x) :: L) S k n H Q := W_ist (rfl : (pj lw).1 17 39 = some (.istore 6, 2, 0)) rfl rfl
theorem w17_41 : W (pj lw) 17 41 L S k n H Q ↔ W (pj lw) 17 42 L (.int 0 :: S) k n H Q := W_s (rfl : (pj lw).1 17 41 = some (.iconst 0, 1, 0)) rfl rfl rfl
theorem w17_42 {x : Int32} {l0 l1 l2 l3 l4 l5 l6 : Slot} : W (pj lw) 17 42 (l0 :: l1 :: l2 :: l3 :: l4 :: l5 :: l6 :: .unset :: L) (.int x :: S) k n H Q ↔ W (pj lw) 17 44 (l0 :: l1 :: l2 :: l3 :: l4 :: l5 :: l6 :: .val (.int x) :: L) S k n H Q := W_ist (rfl : (pj lw).1 17 42 = some (.istore 7, 2, 0)) rfl rfl
theorem w17_44 {x : Int32} {l0 l1 l2 l3 l4 l5 l6 : Slot} : W (pj lw) 17 44 (l0 :: l1 :: l2 :: l3 :: l4 :: l5 :: l6 :: .val (.int x) :: L) S k n H Q ↔ W (pj lw) 17 46 (l0 :: l1 :: l2 :: l3 :: l4 :: l5 :: l6 :: .val (.int x) :: L) (.int x :: S) k n H Q := W_s (rfl : (pj lw).1 17 44 = some (.iload 7, 2, 0)) rfl rfl rfl
theorem w17_46 : W (pj lw) 17 46 L S k n H Q ↔ W (pj lw) 17 49 L (.int 576 :: S) k n H Q := W_s (rfl : (pj lw).1 17 46 = some (.sipush 576, 3, 0)) rfl rfl rfl
theorem w17_49 {x y : Int32} : W (pj lw) 17 49 L (.int y :: .int x :: S) k n H Q ↔ (if x < y then W (pj lw) 17 52 L S k n H Q else W (pj lw) 17 132 L S k n H Q) := W_icmp_ge (rfl : (pj lw).1 17 49 = some (.if_icmp .ge 83, 3, 0)) rfl
theorem w17_52 {x : Nat} : W (pj lw) 17 52 (.val (.ref x) :: L) S k n H Q ↔ W (pj lw) 17 53 (.val (.ref x) :: L) (.ref x :: S) k n H Q := W_s (rfl : (pj lw).1 17 52 = some (.aload_n 0, 1, 0)) rfl rfl rfl
theorem w17_53 {a : Nat} : W (pj lw) 17 53 L (.ref a :: S) k n H Q ↔ (isO H a = true ∧ W (pj lw) 17 56 L (fld H a 2 :: S) k n H Q) := W_getf (rfl : (pj lw).1 17 53 = some (.getfield 7, 3, 2))
theorem w17_56 {x : Int32} {l0 l1 l2 l3 l4 l5 l6 : Slot} : W (pj lw) 17 56 (l0 :: l1 :: l2 :: l3 :: l4 :: l5 :: l6 :: .val (.int x) :: L) S k n H Q ↔ W (pj lw) 17 58 (l0 :: l1 :: l2 :: l3 :: l4 :: l5 :: l6 :: .val (.int x) :: L) (.int x :: S) k n H Q := W_s (rfl : (pj lw).1 17 56 = some (.iload 7, 2, 0)) rfl rfl rfl
theorem w17_58 {i : Int32} {a : Nat} : W (pj lw) 17 58 L (.int i :: .ref a :: S) k n H Q ↔ ((inA H a .byte i = true ∨ inA H a .boolean i = true) ∧ W (pj lw) 17 59 L (elt H a i :: S) k n H Q) := W_baload (rfl : (pj lw).1 17 58 = some (.baload, 1, 0))
theorem w17_59 {x : Int32} : W (pj lw) 17 59 L (.int x :: S) k n H Q ↔ (if x = 0 then W (pj lw) 17 62 L S k n H Q else W (pj lw) 17 65 L S k n H Q) := W_if_ne (rfl : (pj lw).1 17 59 = some (.ifCond .ne 6, 3, 0)) rfl
theorem w17_62 : W (pj lw) 17 62 L S k n H Q ↔ W (pj lw) 17 126 L S k n H Q := W_goto (rfl : (pj lw).1 17 62 = some (.goto 64, 3, 0)) rfl
theorem w17_65 {x : Int32} {l0 l1 l2 l3 l4 l5 l6 : Slot} : W (pj lw) 17 65 (l0 :: l1 :: l2 :: l3 :: l4 :: l5 :: l6 :: .val (.int x) :: L) S k n H Q ↔ W (pj lw) 17 67 (l0 :: l1 :: l2 :: l3 :: l4 :: l5 :: l6 :: .val (.int x) :: L) (.int x :: S) k n H Q := W_s (rfl : (pj lw).1 17 65 = some (.iload 7, 2, 0)) rfl rfl rfl
theorem w17_67 : W (pj lw) 17 67 L S k n H Q ↔ W (pj lw) 17 69 L (.int 24 :: S) k n H Q := W_s (rfl : (pj lw).1 17 67 = some (.bipush 24, 2, 0)) rfl rfl rfl
theorem w17_69 {x y : Int32} : W (pj lw) 17 69 L (.int y :: .int x :: S) k n H Q ↔ (¬ y = 0 ∧ W (pj lw) 17 70 L (.int (x / y) :: S) k n H Q) := W_idiv (rfl : (pj lw).1 17 69 = some (.idiv, 1, 0))
theorem w17_70 {x : Int32} {l0 l1 l2 l3 l4 l5 l6 l7 : Slot} : W (pj lw) 17 70 (l0 :: l1 :: l2 :: l3 :: l4 :: l5 :: l6 :: l7 :: .unset :: L) (.int x :: S) k n H Q ↔ W (pj lw) 17 72 (l0 :: l1 :: l2 :: l3 :: l4 :: l5 :: l6 :: l7 :: .val (.int x) :: L) S k n H Q := W_ist (rfl : (pj lw).1 17 70 = some (.istore 8, 2, 0)) rfl rfl
theorem w17_72 {x : Int32} {l0 l1 l2 l3 l4 l5 l6 : Slot} : W (pj lw) 17 72 (l0 :: l1 :: l2 :: l3 :: l4 :: l5 :: l6 :: .val (.int x) :: L) S k n H Q ↔ W (pj lw) 17 74 (l0 :: l1 :: l2 :: l3 :: l4 :: l5 :: l6 :: .val (.int x) :: L) (.int x :: S) k n H Q := W_s (rfl : (pj lw).1 17 72 = some (.iload 7, 2, 0)) rfl rfl rfl
theorem w17_74 : W (pj lw) 17 74 L S k n H Q ↔ W (pj lw) 17 76 L (.int 24 :: S) k n H Q := W_s (rfl : (pj lw).1 17 74 = some (.bipush 24, 2, 0)) rfl rfl rfl
theorem w17_76 {x y : Int32} : W (pj lw) 17 76 L (.int y :: .int x :: S) k n H Q ↔ (¬ y = 0 ∧ W (pj lw) 17 77 L (.int (x % y) :: S) k n H Q) := W_irem (rfl : (pj lw).1 17 76 = some (.irem, 1, 0))
theorem w17_77 {x : Int32} {l0 l1 l2 l3 l4 l5 l6 l7 l8 : Slot} : W (pj lw) 17 77 (l0 :: l1 :: l2 :: l3 :: l4 :: l5 :: l6 :: l7 :: l8 :: .unset :: L) (.int x :: S) k n H Q ↔ W (pj lw) 17 79 (l0 :: l1 :: l2 :: l3 :: l4 :: l5 :: l6 :: l7 :: l8 :: .val (.int x) :: L) S k n H Q := W_ist (rfl : (pj lw).1 17 77 = some (.istore 9, 2, 0)) rfl rfl
theorem w17_79 {x : Nat} : W (pj lw) 17 79 (.val (.ref x) :: L) S k n H Q ↔ W (pj lw) 17 80 (.val (.ref x) :: L) (.ref x :: S) k n H Q := W_s (rfl : (pj lw).1 17 79 = some (.aload_n 0, 1, 0)) rfl rfl rfl
theorem w17_80 {a : Nat} : W (pj lw) 17 80 L (.ref a :: S) k n H Q ↔ (isO H a = true ∧ W (pj lw) 17 83 L (fld H a 10 :: S) k n H Q) := W_getf (rfl : (pj lw).1 17 80 = some (.getfield 23, 3, 10))
theorem w17_83 {x : Int32} {l0 l1 l2 l3 l4 l5 l6 l7 : Slot} : W (pj lw) 17 83 (l0 :: l1 :: l2 :: l3 :: l4 :: l5 :: l6 :: l7 :: .val (.int x) :: L) S k n H Q ↔ W (pj lw) 17 85 (l0 :: l1 :: l2 :: l3 :: l4 :: l5 :: l6 :: l7 :: .val (.int x) :: L) (.int x :: S) k n H Q := W_s (rfl : (pj lw).1 17 83 = some (.iload 8, 2, 0)) rfl rfl rfl
theorem w17_85 {i : Int32} {a : Nat} : W (pj lw) 17 85 L (.int i :: .ref a :: S) k n H Q ↔ (inA H a .long i = true ∧ W (pj lw) 17 86 L (elt H a i :: S) k n H Q) := W_laload (rfl : (pj lw).1 17 85 = some (.laload, 1, 0))
theorem w17_86 {x : Int64} {l0 : Slot} : W (pj lw) 17 86 (l0 :: .val (.long x) :: L) S k n H Q ↔ W (pj lw) 17 87 (l0 :: .val (.long x) :: L) (.long x :: S) k n H Q := W_s (rfl : (pj lw).1 17 86 = some (.lload_n 1, 1, 0)) rfl rfl rfl
theorem w17_87 {x : Nat} : W (pj lw) 17 87 (.val (.ref x) :: L) S k n H Q ↔ W (pj lw) 17 88 (.val (.ref x) :: L) (.ref x :: S) k n H Q := W_s (rfl : (pj lw).1 17 87 = some (.aload_n 0, 1, 0)) rfl rfl rfl
theorem w17_88 {a : Nat} : W (pj lw) 17 88 L (.ref a :: S) k n H Q ↔ (isO H a = true ∧ W (pj lw) 17 91 L (fld H a 3 :: S) k n H Q) := W_getf (rfl : (pj lw).1 17 88 = some (.getfield 13, 3, 3))
theorem w17_91 {x : Int32} {l0 l1 l2 l3 l4 l5 l6 : Slot} : W (pj lw) 17 91 (l0 :: l1 :: l2 :: l3 :: l4 :: l5 :: l6 :: .val (.int x) :: L) S k n H Q ↔ W (pj lw) 17 93 (l0 :: l1 :: l2 :: l3 :: l4 :: l5 :: l6 :: .val (.int x) :: L) (.int x :: S) k n H Q := W_s (rfl : (pj lw).1 17 91 = some (.iload 7, 2, 0)) rfl rfl rfl
theorem w17_93 {i : Int32} {a : Nat} : W (pj lw) 17 93 L (.int i :: .ref a :: S) k n H Q ↔ (inA H a .int i = true ∧ W (pj lw) 17 94 L (elt H a i :: S) k n H Q) := W_iaload (rfl : (pj lw).1 17 93 = some (.iaload, 1, 0))
theorem w17_94 {x : Int32} : W (pj lw) 17 94 L (.int x :: S) k n H Q ↔ W (pj lw) 17 95 L (.long x.toInt64 :: S) k n H Q := W_s (rfl : (pj lw).1 17 94 = some (.i2l, 1, 0)) rfl rfl rfl
theorem w17_95 {x y : Int64} : W (pj lw) 17 95 L (.long y :: .long x :: S) k n H Q ↔ W (pj lw) 17 96 L (.long (x * y) :: S) k n H Q := W_s (rfl : (pj lw).1 17 95 = some (.lmul, 1, 0)) rfl rfl rfl
theorem w17_96 {x y : Int64} : W (pj lw) 17 96 L (.long y :: .long x :: S) k n H Q ↔ W (pj lw) 17 97 L (.long (x + y) :: S) k n H Q := W_s (rfl : (pj lw).1 17 96 = some (.ladd, 1, 0)) rfl rfl rfl
theorem w17_97 {x : Int64} {l0 l1 l2 : Slot} : W (pj lw) 17 97 (l0 :: l1 :: l2 :: .val (.long x) :: L) S k n H Q ↔ W (pj lw) 17 98 (l0 :: l1 :: l2 :: .val (.long x) :: L) (.long x :: S) k n H Q := W_s (rfl : (pj lw).1 17 97 = some (.lload_n 3, 1, 0)) rfl rfl rfl
theorem w17_98 {x y : Int64} : W (pj lw) 17 98 L (.long y :: .long x :: S) k n H Q ↔ W (pj lw) 17 99 L (.long (x - y) :: S) k n H Q := W_s (rfl : (pj lw).1 17 98 = some (.lsub, 1, 0)) rfl rfl rfl
theorem w17_99uu {x : Int64} {l0 l1 l2 l3 l4 l5 l6 l7 l8 l9 : Slot} : W (pj lw) 17 99 (l0 :: l1 :: l2 :: l3 :: l4 :: l5 :: l6 :: l7 :: l8 :: l9 :: .unset :: .unset :: L) (.long x :: S) k n H Q ↔ W (pj lw) 17 101 (l0 :: l1 :: l2 :: l3 :: l4 :: l5 :: l6 :: l7 :: l8 :: l9 :: .val (.long x) :: .second :: L) S k n H Q := W_lst (rfl : (pj lw).1 17 99 = some (.lstore 10, 2, 0)) rfl rfl rfl rfl
theorem w17_101 {x : Int64} {l0 l1 l2 l3 l4 l5 l6 l7 l8 l9 : Slot} : W (pj lw) 17 101 (l0 :: l1 :: l2 :: l3 :: l4 :: l5 :: l6 :: l7 :: l8 :: l9 :: .val (.long x) :: L) S k n H Q ↔ W (pj lw) 17 103 (l0 :: l1 :: l2 :: l3 :: l4 :: l5 :: l6 :: l7 :: l8 :: l9 :: .val (.long x) :: L) (.long x :: S) k n H Q := W_s (rfl : (pj lw).1 17 101 = some (.lload 10, 2, 0)) rfl rfl rfl
theorem w17_103 {x : Nat} : W (pj lw) 17 103 (.val (.ref x) :: L) S k n H Q ↔ W (pj lw) 17 104 (.val (.ref x) :: L) (.ref x :: S) k n H Q := W_s (rfl : (pj lw).1 17 103 = some (.aload_n 0, 1, 0)) rfl rfl rfl
theorem w17_104 {a : Nat} : W (pj lw) 17 104 L (.ref a :: S) k n H Q ↔ (isO H a = true ∧ W (pj lw) 17 107 L (fld H a 10 :: S) k n H Q) := W_getf (rfl : (pj lw).1 17 104 = some (.getfield 23, 3, 10))
theorem w17_107 {x : Int32} {l0 l1 l2 l3 l4 l5 l6 l7 l8 : Slot} : W (pj lw) 17 107 (l0 :: l1 :: l2 :: l3 :: l4 :: l5 :: l6 :: l7 :: l8 :: .val (.int x) :: L) S k n H Q ↔ W (pj lw) 17 109 (l0 :: l1 :: l2 :: l3 :: l4 :: l5 :: l6 :: l7 :: l8 :: .val (.int x) :: L) (.int x :: S) k n H Q := W_s (rfl : (pj lw).1 17 107 = some (.iload 9, 2, 0)) rfl rfl rfl
theorem w17_109 {i : Int32} {a : Nat} : W (pj lw) 17 109 L (.int i :: .ref a :: S) k n H Q ↔ (inA H a .long i = true ∧ W (pj lw) 17 110 L (elt H a i :: S) k n H Q) := W_laload (rfl : (pj lw).1 17 109 = some (.laload, 1, 0))
theorem w17_110 {x y : Int64} : W (pj lw) 17 110 L (.long y :: .long x :: S) k n H Q ↔ W (pj lw) 17 111 L (.int (Jvm.Free.XT.cmpL x y) :: S) k n H Q := W_s (rfl : (pj lw).1 17 110 = some (.lcmp, 1, 0)) rfl rfl rfl
theorem w17_111 {x : Int32} : W (pj lw) 17 111 L (.int x :: S) k n H Q ↔ (if x < 0 then W (pj lw) 17 114 L S k n H Q else W (pj lw) 17 126 L S k n H Q) := W_if_ge (rfl : (pj lw).1 17 111 = some (.ifCond .ge 15, 3, 0)) rfl
theorem w17_114 {x : Nat} : W (pj lw) 17 114 (.val (.ref x) :: L) S k n H Q ↔ W (pj lw) 17 115 (.val (.ref x) :: L) (.ref x :: S) k n H Q := W_s (rfl : (pj lw).1 17 114 = some (.aload_n 0, 1, 0)) rfl rfl rfl
theorem w17_115 {a : Nat} : W (pj lw) 17 115 L (.ref a :: S) k n H Q ↔ (isO H a = true ∧ W (pj lw) 17 118 L (fld H a 10 :: S) k n H Q) := W_getf (rfl : (pj lw).1 17 115 = some (.getfield 23, 3, 10))
theorem w17_118 {x : Int32} {l0 l1 l2 l3 l4 l5 l6 l7 l8 : Slot} : W (pj lw) 17 118 (l0 :: l1 :: l2 :: l3 :: l4 :: l5 :: l6 :: l7 :: l8 :: .val (.int x) :: L) S k n H Q ↔ W (pj lw) 17 120 (l0 :: l1 :: l2 :: l3 :: l4 :: l5 :: l6 :: l7 :: l8 :: .val (.int x) :: L) (.int x :: S) k n H Q := W_s (rfl : (pj lw).1 17 118 = some (.iload 9, 2, 0)) rfl rfl rfl
theorem w17_120 {x : Int64} {l0 l1 l2 l3 l4 l5 l6 l7 l8 l9 : Slot} : W (pj lw) 17 120 (l0 :: l1 :: l2 :: l3 :: l4 :: l5 :: l6 :: l7 :: l8 :: l9 :: .val (.long x) :: L) S k n H Q ↔ W (pj lw) 17 122 (l0 :: l1 :: l2 :: l3 :: l4 :: l5 :: l6 :: l7 :: l8 :: l9 :: .val (.long x) :: L) (.long x :: S) k n H Q := W_s (rfl : (pj lw).1 17 120 = some (.lload 10, 2, 0)) rfl rfl rfl
theorem w17_122 {x : Int64} {i : Int32} {a : Nat} : W (pj lw) 17 122 L (.long x :: .int i :: .ref a :: S) k n H Q ↔ (inAw H a .long i = true ∧ W (pj lw) 17 123 L S k n (wr H a i.toNatClampNeg (.long x)) Q) := W_lastore (rfl : (pj lw).1 17 122 = some (.lastore, 1, 0))
theorem w17_123 : W (pj lw) 17 123 L S k n H Q ↔ W (pj lw) 17 124 L (.int 1 :: S) k n H Q := W_s (rfl : (pj lw).1 17 123 = some (.iconst 1, 1, 0)) rfl rfl rfl
theorem w17_124i {y : Int32} {x : Int32} {l0 l1 l2 l3 l4 l5 : Slot} : W (pj lw) 17 124 (l0 :: l1 :: l2 :: l3 :: l4 :: l5 :: .val (.int y) :: L) (.int x :: S) k n H Q ↔ W (pj lw) 17 126 (l0 :: l1 :: l2 :: l3 :: l4 :: l5 :: .val (.int x) :: L) S k n H Q := W_ist (rfl : (pj lw).1 17 124 = some (.istore 6, 2, 0)) rfl rfl
theorem w17_126 {x : Int32} {l0 l1 l2 l3 l4 l5 l6 : Slot} : W (pj lw) 17 126 (l0 :: l1 :: l2 :: l3 :: l4 :: l5 :: l6 :: .val (.int x) :: L) S k n H Q ↔ W (pj lw) 17 129 (l0 :: l1 :: l2 :: l3 :: l4 :: l5 :: l6 :: .val (.int (x + 1)) :: L) S k n H Q := W_s (rfl : (pj lw).1 17 126 = some (.iinc 7 1, 3, 0)) rfl rfl rfl
theorem w17_129 : W (pj lw) 17 129 L S k n H Q ↔ W (pj lw) 17 44 L S k n H Q := W_goto (rfl : (pj lw).1 17 129 = some (.goto (-85), 3, 0)) rfl
theorem w17_132 {x : Int32} {l0 l1 l2 l3 l4 l5 : Slot} : W (pj lw) 17 132 (l0 :: l1 :: l2 :: l3 :: l4 :: l5 :: .val (.int x) :: L) S k n H Q ↔ W (pj lw) 17 134 (l0 :: l1 :: l2 :: l3 :: l4 :: l5 :: .val (.int x) :: L) (.int x :: S) k n H Q := W_s (rfl : (pj lw).1 17 132 = some (.iload 6, 2, 0)) rfl rfl rfl
theorem w17_134 {x : Int32} : W (pj lw) 17 134 L (.int x :: S) k n H Q ↔ (if x = 0 then W (pj lw) 17 137 L S k n H Q else W (pj lw) 17 140 L S k n H Q) := W_if_ne (rfl : (pj lw).1 17 134 = some (.ifCond .ne 6, 3, 0)) rfl
theorem w17_137 : W (pj lw) 17 137 L S k n H Q ↔ W (pj lw) 17 146 L S k n H Q := W_goto (rfl : (pj lw).1 17 137 = some (.goto 9, 3, 0)) rfl
theorem w17_140 {x : Int32} {l0 l1 l2 l3 l4 : Slot} : W (pj lw) 17 140 (l0 :: l1 :: l2 :: l3 :: l4 :: .val (.int x) :: L) S k n H Q ↔ W (pj lw) 17 143 (l0 :: l1 :: l2 :: l3 :: l4 :: .val (.int (x + 1)) :: L) S k n H Q := W_s (rfl : (pj lw).1 17 140 = some (.iinc 5 1, 3, 0)) rfl rfl rfl
theorem w17_143 : W (pj lw) 17 143 L S k n H Q ↔ W (pj lw) 17 27 L S k n H Q := W_goto (rfl : (pj lw).1 17 143 = some (.goto (-116), 3, 0)) rfl
theorem w17_146 : W (pj lw) 17 146 L [] k n H Q ↔ Q none H := W_r (rfl : (pj lw).1 17 146 = some (.return_, 1, 0)) rfl
theorem c18 {x0 : Nat} {x1 : Int64} {x2 : Int64} : Cl (pj lw) 18 [.ref x0, .long x1, .long x2] H Q ↔ W (pj lw) 18 0 [.val (.ref x0), .val (.long x1), .second, .val (.long x2), .second, .unset, .unset, .unset] [] 0 0 H Q := cl_unf rfl
theorem w18_0 : W (pj lw) 18 0 L S k n H Q ↔ W (pj lw) 18 1 L (.int 0 :: S) k n H Q := W_s (rfl : (pj lw).1 18 0 = some (.iconst 0, 1, 0)) rfl rfl rfl
theorem w18_1 {x : Int32} {l0 l1 l2 l3 l4 : Slot} : W (pj lw) 18 1 (l0 :: l1 :: l2 :: l3 :: l4 :: .unset :: L) (.int x :: S) k n H Q ↔ W (pj lw) 18 3 (l0 :: l1 :: l2 :: l3 :: l4 :: .val (.int x) :: L) S k n H Q := W_ist (rfl : (pj lw).1 18 1 = some (.istore 5, 2, 0)) rfl rfl
theorem w18_3 {x : Int32} {l0 l1 l2 l3 l4 : Slot} : W (pj lw) 18 3 (l0 :: l1 :: l2 :: l3 :: l4 :: .val (.int x) :: L) S k n H Q ↔ W (pj lw) 18 5 (l0 :: l1 :: l2 :: l3 :: l4 :: .val (.int x) :: L) (.int x :: S) k n H Q := W_s (rfl : (pj lw).1 18 3 = some (.iload 5, 2, 0)) rfl rfl rfl
theorem w18_5 : W (pj lw) 18 5 L S k n H Q ↔ W (pj lw) 18 8 L (.int 576 :: S) k n H Q := W_s (rfl : (pj lw).1 18 5 = some (.sipush 576, 3, 0)) rfl rfl rfl
theorem w18_8 {x y : Int32} : W (pj lw) 18 8 L (.int y :: .int x :: S) k n H Q ↔ (if x < y then W (pj lw) 18 11 L S k n H Q else W (pj lw) 18 86 L S k n H Q) := W_icmp_ge (rfl : (pj lw).1 18 8 = some (.if_icmp .ge 78, 3, 0)) rfl
theorem w18_11 {x : Int32} {l0 l1 l2 l3 l4 : Slot} : W (pj lw) 18 11 (l0 :: l1 :: l2 :: l3 :: l4 :: .val (.int x) :: L) S k n H Q ↔ W (pj lw) 18 13 (l0 :: l1 :: l2 :: l3 :: l4 :: .val (.int x) :: L) (.int x :: S) k n H Q := W_s (rfl : (pj lw).1 18 11 = some (.iload 5, 2, 0)) rfl rfl rfl
theorem w18_13 : W (pj lw) 18 13 L S k n H Q ↔ W (pj lw) 18 15 L (.int 24 :: S) k n H Q := W_s (rfl : (pj lw).1 18 13 = some (.bipush 24, 2, 0)) rfl rfl rfl
theorem w18_15 {x y : Int32} : W (pj lw) 18 15 L (.int y :: .int x :: S) k n H Q ↔ (¬ y = 0 ∧ W (pj lw) 18 16 L (.int (x / y) :: S) k n H Q) := W_idiv (rfl : (pj lw).1 18 15 = some (.idiv, 1, 0))
theorem w18_16 {x : Int32} {l0 l1 l2 l3 l4 l5 : Slot} : W (pj lw) 18 16 (l0 :: l1 :: l2 :: l3 :: l4 :: l5 :: .unset :: L) (.int x :: S) k n H Q ↔ W (pj lw) 18 18 (l0 :: l1 :: l2 :: l3 :: l4 :: l5 :: .val (.int x) :: L) S k n H Q := W_ist (rfl : (pj lw).1 18 16 = some (.istore 6, 2, 0)) rfl rfl
theorem w18_18 {x : Int32} {l0 l1 l2 l3 l4 : Slot} : W (pj lw) 18 18 (l0 :: l1 :: l2 :: l3 :: l4 :: .val (.int x) :: L) S k n H Q ↔ W (pj lw) 18 20 (l0 :: l1 :: l2 :: l3 :: l4 :: .val (.int x) :: L) (.int x :: S) k n H Q := W_s (rfl : (pj lw).1 18 18 = some (.iload 5, 2, 0)) rfl rfl rfl
theorem w18_20 : W (pj lw) 18 20 L S k n H Q ↔ W (pj lw) 18 22 L (.int 24 :: S) k n H Q := W_s (rfl : (pj lw).1 18 20 = some (.bipush 24, 2, 0)) rfl rfl rfl
theorem w18_22 {x y : Int32} : W (pj lw) 18 22 L (.int y :: .int x :: S) k n H Q ↔ (¬ y = 0 ∧ W (pj lw) 18 23 L (.int (x % y) :: S) k n H Q) := W_irem (rfl : (pj lw).1 18 22 = some (.irem, 1, 0))
theorem w18_23 {x : Int32} {l0 l1 l2 l3 l4 l5 l6 : Slot} : W (pj lw) 18 23 (l0 :: l1 :: l2 :: l3 :: l4 :: l5 :: l6 :: .unset :: L) (.int x :: S) k n H Q ↔ W (pj lw) 18 25 (l0 :: l1 :: l2 :: l3 :: l4 :: l5 :: l6 :: .val (.int x) :: L) S k n H Q := W_ist (rfl : (pj lw).1 18 23 = some (.istore 7, 2, 0)) rfl rfl
theorem w18_25 {x : Nat} : W (pj lw) 18 25 (.val (.ref x) :: L) S k n H Q ↔ W (pj lw) 18 26 (.val (.ref x) :: L) (.ref x :: S) k n H Q := W_s (rfl : (pj lw).1 18 25 = some (.aload_n 0, 1, 0)) rfl rfl rfl
theorem w18_26 {a : Nat} : W (pj lw) 18 26 L (.ref a :: S) k n H Q ↔ (isO H a = true ∧ W (pj lw) 18 29 L (fld H a 12 :: S) k n H Q) := W_getf (rfl : (pj lw).1 18 26 = some (.getfield 30, 3, 12))
theorem w18_29 {x : Int32} {l0 l1 l2 l3 l4 : Slot} : W (pj lw) 18 29 (l0 :: l1 :: l2 :: l3 :: l4 :: .val (.int x) :: L) S k n H Q ↔ W (pj lw) 18 31 (l0 :: l1 :: l2 :: l3 :: l4 :: .val (.int x) :: L) (.int x :: S) k n H Q := W_s (rfl : (pj lw).1 18 29 = some (.iload 5, 2, 0)) rfl rfl rfl
theorem w18_31 {x : Nat} : W (pj lw) 18 31 (.val (.ref x) :: L) S k n H Q ↔ W (pj lw) 18 32 (.val (.ref x) :: L) (.ref x :: S) k n H Q := W_s (rfl : (pj lw).1 18 31 = some (.aload_n 0, 1, 0)) rfl rfl rfl
theorem w18_32 {a : Nat} : W (pj lw) 18 32 L (.ref a :: S) k n H Q ↔ (isO H a = true ∧ W (pj lw) 18 35 L (fld H a 2 :: S) k n H Q) := W_getf (rfl : (pj lw).1 18 32 = some (.getfield 7, 3, 2))
theorem w18_35 {x : Int32} {l0 l1 l2 l3 l4 : Slot} : W (pj lw) 18 35 (l0 :: l1 :: l2 :: l3 :: l4 :: .val (.int x) :: L) S k n H Q ↔ W (pj lw) 18 37 (l0 :: l1 :: l2 :: l3 :: l4 :: .val (.int x) :: L) (.int x :: S) k n H Q := W_s (rfl : (pj lw).1 18 35 = some (.iload 5, 2, 0)) rfl rfl rfl
theorem w18_37 {i : Int32} {a : Nat} : W (pj lw) 18 37 L (.int i :: .ref a :: S) k n H Q ↔ ((inA H a .byte i = true ∨ inA H a .boolean i = true) ∧ W (pj lw) 18 38 L (elt H a i :: S) k n H Q) := W_baload (rfl : (pj lw).1 18 37 = some (.baload, 1, 0))
theorem w18_38 {x : Int32} : W (pj lw) 18 38 L (.int x :: S) k n H Q ↔ (if x = 0 then W (pj lw) 18 78 L S k n H Q else W (pj lw) 18 41 L S k n H Q) := W_if_eq (rfl : (pj lw).1 18 38 = some (.ifCond .eq 40, 3, 0)) rfl
theorem w18_41 {x : Nat} : W (pj lw) 18 41 (.val (.ref x) :: L) S k n H Q ↔ W (pj lw) 18 42 (.val (.ref x) :: L) (.ref x :: S) k n H Q := W_s (rfl : (pj lw).1 18 41 = some (.aload_n 0, 1, 0)) rfl rfl rfl
theorem w18_42 {a : Nat} : W (pj lw) 18 42 L (.ref a :: S) k n H Q ↔ (isO H a = true ∧ W (pj lw) 18 45 L (fld H a 10 :: S) k n H Q) := W_getf (rfl : (pj lw).1 18 42 = some (.getfield 23, 3, 10))
theorem w18_45 {x : Int32} {l0 l1 l2 l3 l4 l5 : Slot} : W (pj lw) 18 45 (l0 :: l1 :: l2 :: l3 :: l4 :: l5 :: .val (.int x) :: L) S k n H Q ↔ W (pj lw) 18 47 (l0 :: l1 :: l2 :: l3 :: l4 :: l5 :: .val (.int x) :: L) (.int x :: S) k n H Q := W_s (rfl : (pj lw).1 18 45 = some (.iload 6, 2, 0)) rfl rfl rfl
theorem w18_47 {i : Int32} {a : Nat} : W (pj lw) 18 47 L (.int i :: .ref a :: S) k n H Q ↔ (inA H a .long i = true ∧ W (pj lw) 18 48 L (elt H a i :: S) k n H Q) := W_laload (rfl : (pj lw).1 18 47 = some (.laload, 1, 0))
theorem w18_48 {x : Int64} {l0 : Slot} : W (pj lw) 18 48 (l0 :: .val (.long x) :: L) S k n H Q ↔ W (pj lw) 18 49 (l0 :: .val (.long x) :: L) (.long x :: S) k n H Q := W_s (rfl : (pj lw).1 18 48 = some (.lload_n 1, 1, 0)) rfl rfl rfl
theorem w18_49 {x : Nat} : W (pj lw) 18 49 (.val (.ref x) :: L) S k n H Q ↔ W (pj lw) 18 50 (.val (.ref x) :: L) (.ref x :: S) k n H Q := W_s (rfl : (pj lw).1 18 49 = some (.aload_n 0, 1, 0)) rfl rfl rfl
theorem w18_50 {a : Nat} : W (pj lw) 18 50 L (.ref a :: S) k n H Q ↔ (isO H a = true ∧ W (pj lw) 18 53 L (fld H a 3 :: S) k n H Q) := W_getf (rfl : (pj lw).1 18 50 = some (.getfield 13, 3, 3))
theorem w18_53 {x : Int32} {l0 l1 l2 l3 l4 : Slot} : W (pj lw) 18 53 (l0 :: l1 :: l2 :: l3 :: l4 :: .val (.int x) :: L) S k n H Q ↔ W (pj lw) 18 55 (l0 :: l1 :: l2 :: l3 :: l4 :: .val (.int x) :: L) (.int x :: S) k n H Q := W_s (rfl : (pj lw).1 18 53 = some (.iload 5, 2, 0)) rfl rfl rfl
theorem w18_55 {i : Int32} {a : Nat} : W (pj lw) 18 55 L (.int i :: .ref a :: S) k n H Q ↔ (inA H a .int i = true ∧ W (pj lw) 18 56 L (elt H a i :: S) k n H Q) := W_iaload (rfl : (pj lw).1 18 55 = some (.iaload, 1, 0))
theorem w18_56 {x : Int32} : W (pj lw) 18 56 L (.int x :: S) k n H Q ↔ W (pj lw) 18 57 L (.long x.toInt64 :: S) k n H Q := W_s (rfl : (pj lw).1 18 56 = some (.i2l, 1, 0)) rfl rfl rfl
theorem w18_57 {x y : Int64} : W (pj lw) 18 57 L (.long y :: .long x :: S) k n H Q ↔ W (pj lw) 18 58 L (.long (x * y) :: S) k n H Q := W_s (rfl : (pj lw).1 18 57 = some (.lmul, 1, 0)) rfl rfl rfl
theorem w18_58 {x y : Int64} : W (pj lw) 18 58 L (.long y :: .long x :: S) k n H Q ↔ W (pj lw) 18 59 L (.long (x + y) :: S) k n H Q := W_s (rfl : (pj lw).1 18 58 = some (.ladd, 1, 0)) rfl rfl rfl
theorem w18_59 {x : Int64} {l0 l1 l2 : Slot} : W (pj lw) 18 59 (l0 :: l1 :: l2 :: .val (.long x) :: L) S k n H Q ↔ W (pj lw) 18 60 (l0 :: l1 :: l2 :: .val (.long x) :: L) (.long x :: S) k n H Q := W_s (rfl : (pj lw).1 18 59 = some (.lload_n 3, 1, 0)) rfl rfl rfl
theorem w18_60 {x y : Int64} : W (pj lw) 18 60 L (.long y :: .long x :: S) k n H Q ↔ W (pj lw) 18 61 L (.long (x - y) :: S) k n H Q := W_s (rfl : (pj lw).1 18 60 = some (.lsub, 1, 0)) rfl rfl rfl
theorem w18_61 {x : Nat} : W (pj lw) 18 61 (.val (.ref x) :: L) S k n H Q ↔ W (pj lw) 18 62 (.val (.ref x) :: L) (.ref x :: S) k n H Q := W_s (rfl : (pj lw).1 18 61 = some (.aload_n 0, 1, 0)) rfl rfl rfl
theorem w18_62 {a : Nat} : W (pj lw) 18 62 L (.ref a :: S) k n H Q ↔ (isO H a = true ∧ W (pj lw) 18 65 L (fld H a 10 :: S) k n H Q) := W_getf (rfl : (pj lw).1 18 62 = some (.getfield 23, 3, 10))
theorem w18_65 {x : Int32} {l0 l1 l2 l3 l4 l5 l6 : Slot} : W (pj lw) 18 65 (l0 :: l1 :: l2 :: l3 :: l4 :: l5 :: l6 :: .val (.int x) :: L) S k n H Q ↔ W (pj lw) 18 67 (l0 :: l1 :: l2 :: l3 :: l4 :: l5 :: l6 :: .val (.int x) :: L) (.int x :: S) k n H Q := W_s (rfl : (pj lw).1 18 65 = some (.iload 7, 2, 0)) rfl rfl rfl
theorem w18_67 {i : Int32} {a : Nat} : W (pj lw) 18 67 L (.int i :: .ref a :: S) k n H Q ↔ (inA H a .long i = true ∧ W (pj lw) 18 68 L (elt H a i :: S) k n H Q) := W_laload (rfl : (pj lw).1 18 67 = some (.laload, 1, 0))
theorem w18_68 {x y : Int64} : W (pj lw) 18 68 L (.long y :: .long x :: S) k n H Q ↔ W (pj lw) 18 69 L (.long (x - y) :: S) k n H Q := W_s (rfl : (pj lw).1 18 68 = some (.lsub, 1, 0)) rfl rfl rfl
theorem w18_69 : W (pj lw) 18 69 L S k n H Q ↔ W (pj lw) 18 70 L (.long 0 :: S) k n H Q := W_s (rfl : (pj lw).1 18 69 = some (.lconst 0, 1, 0)) rfl rfl rfl
theorem w18_70 {x y : Int64} : W (pj lw) 18 70 L (.long y :: .long x :: S) k n H Q ↔ W (pj lw) 18 71 L (.int (Jvm.Free.XT.cmpL x y) :: S) k n H Q := W_s (rfl : (pj lw).1 18 70 = some (.lcmp, 1, 0)) rfl rfl rfl
theorem w18_71 {x : Int32} : W (pj lw) 18 71 L (.int x :: S) k n H Q ↔ (if x = 0 then W (pj lw) 18 74 L S k n H Q else W (pj lw) 18 78 L S k n H Q) := W_if_ne (rfl : (pj lw).1 18 71 = some (.ifCond .ne 7, 3, 0)) rfl
theorem w18_74 : W (pj lw) 18 74 L S k n H Q ↔ W (pj lw) 18 75 L (.int 1 :: S) k n H Q := W_s (rfl : (pj lw).1 18 74 = some (.iconst 1, 1, 0)) rfl rfl rfl
theorem w18_75 : W (pj lw) 18 75 L S k n H Q ↔ W (pj lw) 18 79 L S k n H Q := W_goto (rfl : (pj lw).1 18 75 = some (.goto 4, 3, 0)) rfl
theorem w18_78 : W (pj lw) 18 78 L S k n H Q ↔ W (pj lw) 18 79 L (.int 0 :: S) k n H Q := W_s (rfl : (pj lw).1 18 78 = some (.iconst 0, 1, 0)) rfl rfl rfl
theorem w18_79 {x i : Int32} {a : Nat} : W (pj lw) 18 79 L (.int x :: .int i :: .ref a :: S) k n H Q ↔ (((inAw H a .byte i = true ∧ okv .byte (.int x) = true) ∨ (inAw H a .boolean i = true ∧ okv .boolean (.int x) = true)) ∧ W (pj lw) 18 80 L S k n (wr H a i.toNatClampNeg (.int x)) Q) := W_bastore (rfl : (pj lw).1 18 79 = some (.bastore, 1, 0))
theorem w18_80 {x : Int32} {l0 l1 l2 l3 l4 : Slot} : W (pj lw) 18 80 (l0 :: l1 :: l2 :: l3 :: l4 :: .val (.int x) :: L) S k n H Q ↔ W (pj lw) 18 83 (l0 :: l1 :: l2 :: l3 :: l4 :: .val (.int (x + 1)) :: L) S k n H Q := W_s (rfl : (pj lw).1 18 80 = some (.iinc 5 1, 3, 0)) rfl rfl rfl
theorem w18_83 : W (pj lw) 18 83 L S k n H Q ↔ W (pj lw) 18 3 L S k n H Q := W_goto (rfl : (pj lw).1 18 83 = some (.goto (-80), 3, 0)) rfl
theorem w18_86 : W (pj lw) 18 86 L [] k n H Q ↔ Q none H := W_r (rfl : (pj lw).1 18 86 = some (.return_, 1, 0)) rfl
theorem c19 {x0 : Nat} : Cl (pj lw) 19 [.ref x0] H Q ↔ W (pj lw) 19 0 [.val (.ref x0), .unset, .unset] [] 0 0 H Q := cl_unf rfl
theorem w19_0 : W (pj lw) 19 0 L S k n H Q ↔ W (pj lw) 19 1 L (.int 0 :: S) k n H Q := W_s (rfl : (pj lw).1 19 0 = some (.iconst 0, 1, 0)) rfl rfl rfl
theorem w19_1 {x : Int32} {l0 : Slot} : W (pj lw) 19 1 (l0 :: .unset :: L) (.int x :: S) k n H Q ↔ W (pj lw) 19 2 (l0 :: .val (.int x) :: L) S k n H Q := W_istn (rfl : (pj lw).1 19 1 = some (.istore_n 1, 1, 0)) rfl rfl
theorem w19_2 {x : Int32} {l0 : Slot} : W (pj lw) 19 2 (l0 :: .val (.int x) :: L) S k n H Q ↔ W (pj lw) 19 3 (l0 :: .val (.int x) :: L) (.int x :: S) k n H Q := W_s (rfl : (pj lw).1 19 2 = some (.iload_n 1, 1, 0)) rfl rfl rfl
theorem w19_3 : W (pj lw) 19 3 L S k n H Q ↔ W (pj lw) 19 5 L (.int 24 :: S) k n H Q := W_s (rfl : (pj lw).1 19 3 = some (.bipush 24, 2, 0)) rfl rfl rfl
theorem w19_5 {x y : Int32} : W (pj lw) 19 5 L (.int y :: .int x :: S) k n H Q ↔ (if x < y then W (pj lw) 19 8 L S k n H Q else W (pj lw) 19 21 L S k n H Q) := W_icmp_ge (rfl : (pj lw).1 19 5 = some (.if_icmp .ge 16, 3, 0)) rfl
theorem w19_8 {x : Nat} : W (pj lw) 19 8 (.val (.ref x) :: L) S k n H Q ↔ W (pj lw) 19 9 (.val (.ref x) :: L) (.ref x :: S) k n H Q := W_s (rfl : (pj lw).1 19 8 = some (.aload_n 0, 1, 0)) rfl rfl rfl
theorem w19_9 {a : Nat} : W (pj lw) 19 9 L (.ref a :: S) k n H Q ↔ (isO H a = true ∧ W (pj lw) 19 12 L (fld H a 13 :: S) k n H Q) := W_getf (rfl : (pj lw).1 19 9 = some (.getfield 33, 3, 13))
theorem w19_12 {x : Int32} {l0 : Slot} : W (pj lw) 19 12 (l0 :: .val (.int x) :: L) S k n H Q ↔ W (pj lw) 19 13 (l0 :: .val (.int x) :: L) (.int x :: S) k n H Q := W_s (rfl : (pj lw).1 19 12 = some (.iload_n 1, 1, 0)) rfl rfl rfl
theorem w19_13 : W (pj lw) 19 13 L S k n H Q ↔ W (pj lw) 19 14 L (.int 0 :: S) k n H Q := W_s (rfl : (pj lw).1 19 13 = some (.iconst 0, 1, 0)) rfl rfl rfl
theorem w19_14 {x i : Int32} {a : Nat} : W (pj lw) 19 14 L (.int x :: .int i :: .ref a :: S) k n H Q ↔ (inAw H a .int i = true ∧ W (pj lw) 19 15 L S k n (wr H a i.toNatClampNeg (.int x)) Q) := W_iastore (rfl : (pj lw).1 19 14 = some (.iastore, 1, 0))
theorem w19_15 {x : Int32} {l0 : Slot} : W (pj lw) 19 15 (l0 :: .val (.int x) :: L) S k n H Q ↔ W (pj lw) 19 18 (l0 :: .val (.int (x + 1)) :: L) S k n H Q := W_s (rfl : (pj lw).1 19 15 = some (.iinc 1 1, 3, 0)) rfl rfl rfl
theorem w19_18 : W (pj lw) 19 18 L S k n H Q ↔ W (pj lw) 19 2 L S k n H Q := W_goto (rfl : (pj lw).1 19 18 = some (.goto (-16), 3, 0)) rfl
theorem w19_21 : W (pj lw) 19 21 L S k n H Q ↔ W (pj lw) 19 22 L (.int 0 :: S) k n H Q := W_s (rfl : (pj lw).1 19 21 = some (.iconst 0, 1, 0)) rfl rfl rfl
theorem w19_22i {y : Int32} {x : Int32} {l0 : Slot} : W (pj lw) 19 22 (l0 :: .val (.int y) :: L) (.int x :: S) k n H Q ↔ W (pj lw) 19 23 (l0 :: .val (.int x) :: L) S k n H Q := W_istn (rfl : (pj lw).1 19 22 = some (.istore_n 1, 1, 0)) rfl rfl
theorem w19_23 {x : Int32} {l0 : Slot} : W (pj lw) 19 23 (l0 :: .val (.int x) :: L) S k n H Q ↔ W (pj lw) 19 24 (l0 :: .val (.int x) :: L) (.int x :: S) k n H Q := W_s (rfl : (pj lw).1 19 23 = some (.iload_n 1, 1, 0)) rfl rfl rfl
theorem w19_24 : W (pj lw) 19 24 L S k n H Q ↔ W (pj lw) 19 27 L (.int 576 :: S) k n H Q := W_s (rfl : (pj lw).1 19 24 = some (.sipush 576, 3, 0)) rfl rfl rfl
theorem w19_27 {x y : Int32} : W (pj lw) 19 27 L (.int y :: .int x :: S) k n H Q ↔ (if x < y then W (pj lw) 19 30 L S k n H Q else W (pj lw) 19 63 L S k n H Q) := W_icmp_ge (rfl : (pj lw).1 19 27 = some (.if_icmp .ge 36, 3, 0)) rfl
theorem w19_30 {x : Nat} : W (pj lw) 19 30 (.val (.ref x) :: L) S k n H Q ↔ W (pj lw) 19 31 (.val (.ref x) :: L) (.ref x :: S) k n H Q := W_s (rfl : (pj lw).1 19 30 = some (.aload_n 0, 1, 0)) rfl rfl rfl
theorem w19_31 {a : Nat} : W (pj lw) 19 31 L (.ref a :: S) k n H Q ↔ (isO H a = true ∧ W (pj lw) 19 34 L (fld H a 12 :: S) k n H Q) := W_getf (rfl : (pj lw).1 19 31 = some (.getfield 30, 3, 12))
theorem w19_34 {x : Int32} {l0 : Slot} : W (pj lw) 19 34 (l0 :: .val (.int x) :: L) S k n H Q ↔ W (pj lw) 19 35 (l0 :: .val (.int x) :: L) (.int x :: S) k n H Q := W_s (rfl : (pj lw).1 19 34 = some (.iload_n 1, 1, 0)) rfl rfl rfl
theorem w19_35 {i : Int32} {a : Nat} : W (pj lw) 19 35 L (.int i :: .ref a :: S) k n H Q ↔ ((inA H a .byte i = true ∨ inA H a .boolean i = true) ∧ W (pj lw) 19 36 L (elt H a i :: S) k n H Q) := W_baload (rfl : (pj lw).1 19 35 = some (.baload, 1, 0))
theorem w19_36 {x : Int32} : W (pj lw) 19 36 L (.int x :: S) k n H Q ↔ (if x = 0 then W (pj lw) 19 57 L S k n H Q else W (pj lw) 19 39 L S k n H Q) := W_if_eq (rfl : (pj lw).1 19 36 = some (.ifCond .eq 21, 3, 0)) rfl
theorem w19_39 {x : Nat} : W (pj lw) 19 39 (.val (.ref x) :: L) S k n H Q ↔ W (pj lw) 19 40 (.val (.ref x) :: L) (.ref x :: S) k n H Q := W_s (rfl : (pj lw).1 19 39 = some (.aload_n 0, 1, 0)) rfl rfl rfl
theorem w19_40 {a : Nat} : W (pj lw) 19 40 L (.ref a :: S) k n H Q ↔ (isO H a = true ∧ W (pj lw) 19 43 L (fld H a 13 :: S) k n H Q) := W_getf (rfl : (pj lw).1 19 40 = some (.getfield 33, 3, 13))
theorem w19_43 {x : Int32} {l0 : Slot} : W (pj lw) 19 43 (l0 :: .val (.int x) :: L) S k n H Q ↔ W (pj lw) 19 44 (l0 :: .val (.int x) :: L) (.int x :: S) k n H Q := W_s (rfl : (pj lw).1 19 43 = some (.iload_n 1, 1, 0)) rfl rfl rfl
theorem w19_44 : W (pj lw) 19 44 L S k n H Q ↔ W (pj lw) 19 46 L (.int 24 :: S) k n H Q := W_s (rfl : (pj lw).1 19 44 = some (.bipush 24, 2, 0)) rfl rfl rfl
theorem w19_46 {x y : Int32} : W (pj lw) 19 46 L (.int y :: .int x :: S) k n H Q ↔ (¬ y = 0 ∧ W (pj lw) 19 47 L (.int (x / y) :: S) k n H Q) := W_idiv (rfl : (pj lw).1 19 46 = some (.idiv, 1, 0))
theorem w19_47 {x : Int32} {y : Nat} : W (pj lw) 19 47 L (.int x :: .ref y :: S) k n H Q ↔ W (pj lw) 19 48 L (.int x :: .ref y :: .int x :: .ref y :: S) k n H Q := W_s (rfl : (pj lw).1 19 47 = some (.dup2, 1, 0)) rfl rfl rfl
theorem w19_48 {i : Int32} {a : Nat} : W (pj lw) 19 48 L (.int i :: .ref a :: S) k n H Q ↔ (inA H a .int i = true ∧ W (pj lw) 19 49 L (elt H a i :: S) k n H Q) := W_iaload (rfl : (pj lw).1 19 48 = some (.iaload, 1, 0))
theorem w19_49 : W (pj lw) 19 49 L S k n H Q ↔ W (pj lw) 19 50 L (.int 1 :: S) k n H Q := W_s (rfl : (pj lw).1 19 49 = some (.iconst 1, 1, 0)) rfl rfl rfl
theorem w19_50 {x : Int32} {l0 : Slot} : W (pj lw) 19 50 (l0 :: .val (.int x) :: L) S k n H Q ↔ W (pj lw) 19 51 (l0 :: .val (.int x) :: L) (.int x :: S) k n H Q := W_s (rfl : (pj lw).1 19 50 = some (.iload_n 1, 1, 0)) rfl rfl rfl
theorem w19_51 : W (pj lw) 19 51 L S k n H Q ↔ W (pj lw) 19 53 L (.int 24 :: S) k n H Q := W_s (rfl : (pj lw).1 19 51 = some (.bipush 24, 2, 0)) rfl rfl rfl
theorem w19_53 {x y : Int32} : W (pj lw) 19 53 L (.int y :: .int x :: S) k n H Q ↔ (¬ y = 0 ∧ W (pj lw) 19 54 L (.int (x % y) :: S) k n H Q) := W_irem (rfl : (pj lw).1 19 53 = some (.irem, 1, 0))
theorem w19_54 {x y : Int32} : W (pj lw) 19 54 L (.int y :: .int x :: S) k n H Q ↔ W (pj lw) 19 55 L (.int (x <<< (y &&& 31)) :: S) k n H Q := W_s (rfl : (pj lw).1 19 54 = some (.ishl, 1, 0)) rfl rfl rfl
theorem w19_55 {x y : Int32} : W (pj lw) 19 55 L (.int y :: .int x :: S) k n H Q ↔ W (pj lw) 19 56 L (.int (x ||| y) :: S) k n H Q := W_s (rfl : (pj lw).1 19 55 = some (.ior, 1, 0)) rfl rfl rfl
theorem w19_56 {x i : Int32} {a : Nat} : W (pj lw) 19 56 L (.int x :: .int i :: .ref a :: S) k n H Q ↔ (inAw H a .int i = true ∧ W (pj lw) 19 57 L S k n (wr H a i.toNatClampNeg (.int x)) Q) := W_iastore (rfl : (pj lw).1 19 56 = some (.iastore, 1, 0))
theorem w19_57 {x : Int32} {l0 : Slot} : W (pj lw) 19 57 (l0 :: .val (.int x) :: L) S k n H Q ↔ W (pj lw) 19 60 (l0 :: .val (.int (x + 1)) :: L) S k n H Q := W_s (rfl : (pj lw).1 19 57 = some (.iinc 1 1, 3, 0)) rfl rfl rfl
theorem w19_60 : W (pj lw) 19 60 L S k n H Q ↔ W (pj lw) 19 23 L S k n H Q := W_goto (rfl : (pj lw).1 19 60 = some (.goto (-37), 3, 0)) rfl
theorem w19_63 : W (pj lw) 19 63 L S k n H Q ↔ W (pj lw) 19 64 L (.int 0 :: S) k n H Q := W_s (rfl : (pj lw).1 19 63 = some (.iconst 0, 1, 0)) rfl rfl rfl
theorem w19_64i {y : Int32} {x : Int32} {l0 : Slot} : W (pj lw) 19 64 (l0 :: .val (.int y) :: L) (.int x :: S) k n H Q ↔ W (pj lw) 19 65 (l0 :: .val (.int x) :: L) S k n H Q := W_istn (rfl : (pj lw).1 19 64 = some (.istore_n 1, 1, 0)) rfl rfl
theorem w19_65 {x : Int32} {l0 : Slot} : W (pj lw) 19 65 (l0 :: .val (.int x) :: L) S k n H Q ↔ W (pj lw) 19 66 (l0 :: .val (.int x) :: L) (.int x :: S) k n H Q := W_s (rfl : (pj lw).1 19 65 = some (.iload_n 1, 1, 0)) rfl rfl rfl
theorem w19_66 {x : Nat} : W (pj lw) 19 66 (.val (.ref x) :: L) S k n H Q ↔ W (pj lw) 19 67 (.val (.ref x) :: L) (.ref x :: S) k n H Q := W_s (rfl : (pj lw).1 19 66 = some (.aload_n 0, 1, 0)) rfl rfl rfl
theorem w19_67 {a : Nat} : W (pj lw) 19 67 L (.ref a :: S) k n H Q ↔ (isO H a = true ∧ W (pj lw) 19 70 L (fld H a 0 :: S) k n H Q) := W_getf (rfl : (pj lw).1 19 67 = some (.getfield 48, 3, 0))
theorem w19_70 {x y : Int32} : W (pj lw) 19 70 L (.int y :: .int x :: S) k n H Q ↔ (if x < y then W (pj lw) 19 73 L S k n H Q else W (pj lw) 19 123 L S k n H Q) := W_icmp_ge (rfl : (pj lw).1 19 70 = some (.if_icmp .ge 53, 3, 0)) rfl
theorem w19_73 : W (pj lw) 19 73 L S k n H Q ↔ W (pj lw) 19 74 L (.int 0 :: S) k n H Q := W_s (rfl : (pj lw).1 19 73 = some (.iconst 0, 1, 0)) rfl rfl rfl
theorem w19_74i {y : Int32} {x : Int32} {l0 l1 : Slot} : W (pj lw) 19 74 (l0 :: l1 :: .val (.int y) :: L) (.int x :: S) k n H Q ↔ W (pj lw) 19 75 (l0 :: l1 :: .val (.int x) :: L) S k n H Q := W_istn (rfl : (pj lw).1 19 74 = some (.istore_n 2, 1, 0)) rfl rfl
theorem w19_74 {x : Int32} {l0 l1 : Slot} : W (pj lw) 19 74 (l0 :: l1 :: .unset :: L) (.int x :: S) k n H Q ↔ W (pj lw) 19 75 (l0 :: l1 :: .val (.int x) :: L) S k n H Q := W_istn (rfl : (pj lw).1 19 74 = some (.istore_n 2, 1, 0)) rfl rfl
theorem w19_75 {x : Int32} {l0 l1 : Slot} : W (pj lw) 19 75 (l0 :: l1 :: .val (.int x) :: L) S k n H Q ↔ W (pj lw) 19 76 (l0 :: l1 :: .val (.int x) :: L) (.int x :: S) k n H Q := W_s (rfl : (pj lw).1 19 75 = some (.iload_n 2, 1, 0)) rfl rfl rfl
theorem w19_76 {x : Nat} : W (pj lw) 19 76 (.val (.ref x) :: L) S k n H Q ↔ W (pj lw) 19 77 (.val (.ref x) :: L) (.ref x :: S) k n H Q := W_s (rfl : (pj lw).1 19 76 = some (.aload_n 0, 1, 0)) rfl rfl rfl
theorem w19_77 {a : Nat} : W (pj lw) 19 77 L (.ref a :: S) k n H Q ↔ (isO H a = true ∧ W (pj lw) 19 80 L (fld H a 0 :: S) k n H Q) := W_getf (rfl : (pj lw).1 19 77 = some (.getfield 48, 3, 0))
theorem w19_80 {x y : Int32} : W (pj lw) 19 80 L (.int y :: .int x :: S) k n H Q ↔ (if x < y then W (pj lw) 19 83 L S k n H Q else W (pj lw) 19 117 L S k n H Q) := W_icmp_ge (rfl : (pj lw).1 19 80 = some (.if_icmp .ge 37, 3, 0)) rfl
theorem w19_83 {x : Nat} : W (pj lw) 19 83 (.val (.ref x) :: L) S k n H Q ↔ W (pj lw) 19 84 (.val (.ref x) :: L) (.ref x :: S) k n H Q := W_s (rfl : (pj lw).1 19 83 = some (.aload_n 0, 1, 0)) rfl rfl rfl
theorem w19_84 {a : Nat} : W (pj lw) 19 84 L (.ref a :: S) k n H Q ↔ (isO H a = true ∧ W (pj lw) 19 87 L (fld H a 13 :: S) k n H Q) := W_getf (rfl : (pj lw).1 19 84 = some (.getfield 33, 3, 13))
theorem w19_87 {x : Int32} {l0 l1 : Slot} : W (pj lw) 19 87 (l0 :: l1 :: .val (.int x) :: L) S k n H Q ↔ W (pj lw) 19 88 (l0 :: l1 :: .val (.int x) :: L) (.int x :: S) k n H Q := W_s (rfl : (pj lw).1 19 87 = some (.iload_n 2, 1, 0)) rfl rfl rfl
theorem w19_88 {i : Int32} {a : Nat} : W (pj lw) 19 88 L (.int i :: .ref a :: S) k n H Q ↔ (inA H a .int i = true ∧ W (pj lw) 19 89 L (elt H a i :: S) k n H Q) := W_iaload (rfl : (pj lw).1 19 88 = some (.iaload, 1, 0))
theorem w19_89 {x : Int32} {l0 : Slot} : W (pj lw) 19 89 (l0 :: .val (.int x) :: L) S k n H Q ↔ W (pj lw) 19 90 (l0 :: .val (.int x) :: L) (.int x :: S) k n H Q := W_s (rfl : (pj lw).1 19 89 = some (.iload_n 1, 1, 0)) rfl rfl rfl
theorem w19_90 {x y : Int32} : W (pj lw) 19 90 L (.int y :: .int x :: S) k n H Q ↔ W (pj lw) 19 91 L (.int (x >>> (y &&& 31)) :: S) k n H Q := W_s (rfl : (pj lw).1 19 90 = some (.ishr, 1, 0)) rfl rfl rfl
theorem w19_91 : W (pj lw) 19 91 L S k n H Q ↔ W (pj lw) 19 92 L (.int 1 :: S) k n H Q := W_s (rfl : (pj lw).1 19 91 = some (.iconst 1, 1, 0)) rfl rfl rfl
theorem w19_92 {x y : Int32} : W (pj lw) 19 92 L (.int y :: .int x :: S) k n H Q ↔ W (pj lw) 19 93 L (.int (x &&& y) :: S) k n H Q := W_s (rfl : (pj lw).1 19 92 = some (.iand, 1, 0)) rfl rfl rfl
theorem w19_93 {x : Int32} : W (pj lw) 19 93 L (.int x :: S) k n H Q ↔ (if x = 0 then W (pj lw) 19 111 L S k n H Q else W (pj lw) 19 96 L S k n H Q) := W_if_eq (rfl : (pj lw).1 19 93 = some (.ifCond .eq 18, 3, 0)) rfl
theorem w19_96 {x : Nat} : W (pj lw) 19 96 (.val (.ref x) :: L) S k n H Q ↔ W (pj lw) 19 97 (.val (.ref x) :: L) (.ref x :: S) k n H Q := W_s (rfl : (pj lw).1 19 96 = some (.aload_n 0, 1, 0)) rfl rfl rfl
theorem w19_97 {a : Nat} : W (pj lw) 19 97 L (.ref a :: S) k n H Q ↔ (isO H a = true ∧ W (pj lw) 19 100 L (fld H a 13 :: S) k n H Q) := W_getf (rfl : (pj lw).1 19 97 = some (.getfield 33, 3, 13))
theorem w19_100 {x : Int32} {l0 l1 : Slot} : W (pj lw) 19 100 (l0 :: l1 :: .val (.int x) :: L) S k n H Q ↔ W (pj lw) 19 101 (l0 :: l1 :: .val (.int x) :: L) (.int x :: S) k n H Q := W_s (rfl : (pj lw).1 19 100 = some (.iload_n 2, 1, 0)) rfl rfl rfl
theorem w19_101 {x : Int32} {y : Nat} : W (pj lw) 19 101 L (.int x :: .ref y :: S) k n H Q ↔ W (pj lw) 19 102 L (.int x :: .ref y :: .int x :: .ref y :: S) k n H Q := W_s (rfl : (pj lw).1 19 101 = some (.dup2, 1, 0)) rfl rfl rfl
theorem w19_102 {i : Int32} {a : Nat} : W (pj lw) 19 102 L (.int i :: .ref a :: S) k n H Q ↔ (inA H a .int i = true ∧ W (pj lw) 19 103 L (elt H a i :: S) k n H Q) := W_iaload (rfl : (pj lw).1 19 102 = some (.iaload, 1, 0))
theorem w19_103 {x : Nat} : W (pj lw) 19 103 (.val (.ref x) :: L) S k n H Q ↔ W (pj lw) 19 104 (.val (.ref x) :: L) (.ref x :: S) k n H Q := W_s (rfl : (pj lw).1 19 103 = some (.aload_n 0, 1, 0)) rfl rfl rfl
theorem w19_104 {a : Nat} : W (pj lw) 19 104 L (.ref a :: S) k n H Q ↔ (isO H a = true ∧ W (pj lw) 19 107 L (fld H a 13 :: S) k n H Q) := W_getf (rfl : (pj lw).1 19 104 = some (.getfield 33, 3, 13))
theorem w19_107 {x : Int32} {l0 : Slot} : W (pj lw) 19 107 (l0 :: .val (.int x) :: L) S k n H Q ↔ W (pj lw) 19 108 (l0 :: .val (.int x) :: L) (.int x :: S) k n H Q := W_s (rfl : (pj lw).1 19 107 = some (.iload_n 1, 1, 0)) rfl rfl rfl
theorem w19_108 {i : Int32} {a : Nat} : W (pj lw) 19 108 L (.int i :: .ref a :: S) k n H Q ↔ (inA H a .int i = true ∧ W (pj lw) 19 109 L (elt H a i :: S) k n H Q) := W_iaload (rfl : (pj lw).1 19 108 = some (.iaload, 1, 0))
theorem w19_109 {x y : Int32} : W (pj lw) 19 109 L (.int y :: .int x :: S) k n H Q ↔ W (pj lw) 19 110 L (.int (x ||| y) :: S) k n H Q := W_s (rfl : (pj lw).1 19 109 = some (.ior, 1, 0)) rfl rfl rfl
theorem w19_110 {x i : Int32} {a : Nat} : W (pj lw) 19 110 L (.int x :: .int i :: .ref a :: S) k n H Q ↔ (inAw H a .int i = true ∧ W (pj lw) 19 111 L S k n (wr H a i.toNatClampNeg (.int x)) Q) := W_iastore (rfl : (pj lw).1 19 110 = some (.iastore, 1, 0))
theorem w19_111 {x : Int32} {l0 l1 : Slot} : W (pj lw) 19 111 (l0 :: l1 :: .val (.int x) :: L) S k n H Q ↔ W (pj lw) 19 114 (l0 :: l1 :: .val (.int (x + 1)) :: L) S k n H Q := W_s (rfl : (pj lw).1 19 111 = some (.iinc 2 1, 3, 0)) rfl rfl rfl
theorem w19_114 : W (pj lw) 19 114 L S k n H Q ↔ W (pj lw) 19 75 L S k n H Q := W_goto (rfl : (pj lw).1 19 114 = some (.goto (-39), 3, 0)) rfl
theorem w19_117 {x : Int32} {l0 : Slot} : W (pj lw) 19 117 (l0 :: .val (.int x) :: L) S k n H Q ↔ W (pj lw) 19 120 (l0 :: .val (.int (x + 1)) :: L) S k n H Q := W_s (rfl : (pj lw).1 19 117 = some (.iinc 1 1, 3, 0)) rfl rfl rfl
theorem w19_120 : W (pj lw) 19 120 L S k n H Q ↔ W (pj lw) 19 65 L S k n H Q := W_goto (rfl : (pj lw).1 19 120 = some (.goto (-55), 3, 0)) rfl
theorem w19_123 : W (pj lw) 19 123 L [] k n H Q ↔ Q none H := W_r (rfl : (pj lw).1 19 123 = some (.return_, 1, 0)) rfl
theorem c20 {x0 : Nat} {x1 : Int32} : Cl (pj lw) 20 [.ref x0, .int x1] H Q ↔ W (pj lw) 20 0 [.val (.ref x0), .val (.int x1), .unset, .unset, .unset, .unset] [] 0 0 H Q := cl_unf rfl
theorem w20_0 : W (pj lw) 20 0 L S k n H Q ↔ W (pj lw) 20 1 L (.int 0 :: S) k n H Q := W_s (rfl : (pj lw).1 20 0 = some (.iconst 0, 1, 0)) rfl rfl rfl
theorem w20_1 {x : Int32} {l0 l1 : Slot} : W (pj lw) 20 1 (l0 :: l1 :: .unset :: L) (.int x :: S) k n H Q ↔ W (pj lw) 20 2 (l0 :: l1 :: .val (.int x) :: L) S k n H Q := W_istn (rfl : (pj lw).1 20 1 = some (.istore_n 2, 1, 0)) rfl rfl
theorem w20_2 {x : Int32} {l0 l1 : Slot} : W (pj lw) 20 2 (l0 :: l1 :: .val (.int x) :: L) S k n H Q ↔ W (pj lw) 20 3 (l0 :: l1 :: .val (.int x) :: L) (.int x :: S) k n H Q := W_s (rfl : (pj lw).1 20 2 = some (.iload_n 2, 1, 0)) rfl rfl rfl
theorem w20_3 : W (pj lw) 20 3 L S k n H Q ↔ W (pj lw) 20 5 L (.int 24 :: S) k n H Q := W_s (rfl : (pj lw).1 20 3 = some (.bipush 24, 2, 0)) rfl rfl rfl
theorem w20_5 {x y : Int32} : W (pj lw) 20 5 L (.int y :: .int x :: S) k n H Q ↔ (if x < y then W (pj lw) 20 8 L S k n H Q else W (pj lw) 20 21 L S k n H Q) := W_icmp_ge (rfl : (pj lw).1 20 5 = some (.if_icmp .ge 16, 3, 0)) rfl
theorem w20_8 {x : Nat} : W (pj lw) 20 8 (.val (.ref x) :: L) S k n H Q ↔ W (pj lw) 20 9 (.val (.ref x) :: L) (.ref x :: S) k n H Q := W_s (rfl : (pj lw).1 20 8 = some (.aload_n 0, 1, 0)) rfl rfl rfl
theorem w20_9 {a : Nat} : W (pj lw) 20 9 L (.ref a :: S) k n H Q ↔ (isO H a = true ∧ W (pj lw) 20 12 L (fld H a 14 :: S) k n H Q) := W_getf (rfl : (pj lw).1 20 9 = some (.getfield 36, 3, 14))
theorem w20_12 {x : Int32} {l0 l1 : Slot} : W (pj lw) 20 12 (l0 :: l1 :: .val (.int x) :: L) S k n H Q ↔ W (pj lw) 20 13 (l0 :: l1 :: .val (.int x) :: L) (.int x :: S) k n H Q := W_s (rfl : (pj lw).1 20 12 = some (.iload_n 2, 1, 0)) rfl rfl rfl
theorem w20_13 : W (pj lw) 20 13 L S k n H Q ↔ W (pj lw) 20 14 L (.int (-1) :: S) k n H Q := W_s (rfl : (pj lw).1 20 13 = some (.iconst (-1), 1, 0)) rfl rfl rfl
theorem w20_14 {x i : Int32} {a : Nat} : W (pj lw) 20 14 L (.int x :: .int i :: .ref a :: S) k n H Q ↔ (inAw H a .int i = true ∧ W (pj lw) 20 15 L S k n (wr H a i.toNatClampNeg (.int x)) Q) := W_iastore (rfl : (pj lw).1 20 14 = some (.iastore, 1, 0))
theorem w20_15 {x : Int32} {l0 l1 : Slot} : W (pj lw) 20 15 (l0 :: l1 :: .val (.int x) :: L) S k n H Q ↔ W (pj lw) 20 18 (l0 :: l1 :: .val (.int (x + 1)) :: L) S k n H Q := W_s (rfl : (pj lw).1 20 15 = some (.iinc 2 1, 3, 0)) rfl rfl rfl
theorem w20_18 : W (pj lw) 20 18 L S k n H Q ↔ W (pj lw) 20 2 L S k n H Q := W_goto (rfl : (pj lw).1 20 18 = some (.goto (-16), 3, 0)) rfl
theorem w20_21 {x : Nat} : W (pj lw) 20 21 (.val (.ref x) :: L) S k n H Q ↔ W (pj lw) 20 22 (.val (.ref x) :: L) (.ref x :: S) k n H Q := W_s (rfl : (pj lw).1 20 21 = some (.aload_n 0, 1, 0)) rfl rfl rfl
theorem w20_22 {a : Nat} : W (pj lw) 20 22 L (.ref a :: S) k n H Q ↔ (isO H a = true ∧ W (pj lw) 20 25 L (fld H a 14 :: S) k n H Q) := W_getf (rfl : (pj lw).1 20 22 = some (.getfield 36, 3, 14))
theorem w20_25 {x : Int32} {l0 : Slot} : W (pj lw) 20 25 (l0 :: .val (.int x) :: L) S k n H Q ↔ W (pj lw) 20 26 (l0 :: .val (.int x) :: L) (.int x :: S) k n H Q := W_s (rfl : (pj lw).1 20 25 = some (.iload_n 1, 1, 0)) rfl rfl rfl
theorem w20_26 : W (pj lw) 20 26 L S k n H Q ↔ W (pj lw) 20 27 L (.int 0 :: S) k n H Q := W_s (rfl : (pj lw).1 20 26 = some (.iconst 0, 1, 0)) rfl rfl rfl
theorem w20_27 {x i : Int32} {a : Nat} : W (pj lw) 20 27 L (.int x :: .int i :: .ref a :: S) k n H Q ↔ (inAw H a .int i = true ∧ W (pj lw) 20 28 L S k n (wr H a i.toNatClampNeg (.int x)) Q) := W_iastore (rfl : (pj lw).1 20 27 = some (.iastore, 1, 0))
theorem w20_28 {x : Nat} : W (pj lw) 20 28 (.val (.ref x) :: L) S k n H Q ↔ W (pj lw) 20 29 (.val (.ref x) :: L) (.ref x :: S) k n H Q := W_s (rfl : (pj lw).1 20 28 = some (.aload_n 0, 1, 0)) rfl rfl rfl
theorem w20_29 {a : Nat} : W (pj lw) 20 29 L (.ref a :: S) k n H Q ↔ (isO H a = true ∧ W (pj lw) 20 32 L (fld H a 15 :: S) k n H Q) := W_getf (rfl : (pj lw).1 20 29 = some (.getfield 39, 3, 15))
theorem w20_32 : W (pj lw) 20 32 L S k n H Q ↔ W (pj lw) 20 33 L (.int 0 :: S) k n H Q := W_s (rfl : (pj lw).1 20 32 = some (.iconst 0, 1, 0)) rfl rfl rfl
theorem w20_33 {x : Int32} {l0 : Slot} : W (pj lw) 20 33 (l0 :: .val (.int x) :: L) S k n H Q ↔ W (pj lw) 20 34 (l0 :: .val (.int x) :: L) (.int x :: S) k n H Q := W_s (rfl : (pj lw).1 20 33 = some (.iload_n 1, 1, 0)) rfl rfl rfl
theorem w20_34 {x i : Int32} {a : Nat} : W (pj lw) 20 34 L (.int x :: .int i :: .ref a :: S) k n H Q ↔ (inAw H a .int i = true ∧ W (pj lw) 20 35 L S k n (wr H a i.toNatClampNeg (.int x)) Q) := W_iastore (rfl : (pj lw).1 20 34 = some (.iastore, 1, 0))
theorem w20_35 : W (pj lw) 20 35 L S k n H Q ↔ W (pj lw) 20 36 L (.int 1 :: S) k n H Q := W_s (rfl : (pj lw).1 20 35 = some (.iconst 1, 1, 0)) rfl rfl rfl
theorem w20_36i {y : Int32} {x : Int32} {l0 l1 : Slot} : W (pj lw) 20 36 (l0 :: l1 :: .val (.int y) :: L) (.int x :: S) k n H Q ↔ W (pj lw) 20 37 (l0 :: l1 :: .val (.int x) :: L) S k n H Q := W_istn (rfl : (pj lw).1 20 36 = some (.istore_n 2, 1, 0)) rfl rfl
theorem w20_37 : W (pj lw) 20 37 L S k n H Q ↔ W (pj lw) 20 38 L (.int 0 :: S) k n H Q := W_s (rfl : (pj lw).1 20 37 = some (.iconst 0, 1, 0)) rfl rfl rfl
theorem w20_38 {x : Int32} {l0 l1 l2 : Slot} : W (pj lw) 20 38 (l0 :: l1 :: l2 :: .unset :: L) (.int x :: S) k n H Q ↔ W (pj lw) 20 39 (l0 :: l1 :: l2 :: .val (.int x) :: L) S k n H Q := W_istn (rfl : (pj lw).1 20 38 = some (.istore_n 3, 1, 0)) rfl rfl
theorem w20_39 {x : Int32} {l0 l1 l2 : Slot} : W (pj lw) 20 39 (l0 :: l1 :: l2 :: .val (.int x) :: L) S k n H Q ↔ W (pj lw) 20 40 (l0 :: l1 :: l2 :: .val (.int x) :: L) (.int x :: S) k n H Q := W_s (rfl : (pj lw).1 20 39 = some (.iload_n 3, 1, 0)) rfl rfl rfl
theorem w20_40 {x : Int32} {l0 l1 : Slot} : W (pj lw) 20 40 (l0 :: l1 :: .val (.int x) :: L) S k n H Q ↔ W (pj lw) 20 41 (l0 :: l1 :: .val (.int x) :: L) (.int x :: S) k n H Q := W_s (rfl : (pj lw).1 20 40 = some (.iload_n 2, 1, 0)) rfl rfl rfl
theorem w20_41 {x y : Int32} : W (pj lw) 20 41 L (.int y :: .int x :: S) k n H Q ↔ (if x < y then W (pj lw) 20 44 L S k n H Q else W (pj lw) 20 141 L S k n H Q) := W_icmp_ge (rfl : (pj lw).1 20 41 = some (.if_icmp .ge 100, 3, 0)) rfl
theorem w20_44 {x : Int32} {l0 l1 l2 : Slot} : W (pj lw) 20 44 (l0 :: l1 :: l2 :: .val (.int x) :: L) S k n H Q ↔ W (pj lw) 20 45 (l0 :: l1 :: l2 :: .val (.int x) :: L) (.int x :: S) k n H Q := W_s (rfl : (pj lw).1 20 44 = some (.iload_n 3, 1, 0)) rfl rfl rfl
theorem w20_45 : W (pj lw) 20 45 L S k n H Q ↔ W (pj lw) 20 47 L (.int 24 :: S) k n H Q := W_s (rfl : (pj lw).1 20 45 = some (.bipush 24, 2, 0)) rfl rfl rfl
theorem w20_47 {x y : Int32} : W (pj lw) 20 47 L (.int y :: .int x :: S) k n H Q ↔ (if x < y then W (pj lw) 20 50 L S k n H Q else W (pj lw) 20 141 L S k n H Q) := W_icmp_ge (rfl : (pj lw).1 20 47 = some (.if_icmp .ge 94, 3, 0)) rfl
theorem w20_50 {x : Nat} : W (pj lw) 20 50 (.val (.ref x) :: L) S k n H Q ↔ W (pj lw) 20 51 (.val (.ref x) :: L) (.ref x :: S) k n H Q := W_s (rfl : (pj lw).1 20 50 = some (.aload_n 0, 1, 0)) rfl rfl rfl
theorem w20_51 {a : Nat} : W (pj lw) 20 51 L (.ref a :: S) k n H Q ↔ (isO H a = true ∧ W (pj lw) 20 54 L (fld H a 15 :: S) k n H Q) := W_getf (rfl : (pj lw).1 20 51 = some (.getfield 39, 3, 15))
theorem w20_54 {x : Int32} {l0 l1 l2 : Slot} : W (pj lw) 20 54 (l0 :: l1 :: l2 :: .val (.int x) :: L) S k n H Q ↔ W (pj lw) 20 55 (l0 :: l1 :: l2 :: .val (.int x) :: L) (.int x :: S) k n H Q := W_s (rfl : (pj lw).1 20 54 = some (.iload_n 3, 1, 0)) rfl rfl rfl
theorem w20_55 {i : Int32} {a : Nat} : W (pj lw) 20 55 L (.int i :: .ref a :: S) k n H Q ↔ (inA H a .int i = true ∧ W (pj lw) 20 56 L (elt H a i :: S) k n H Q) := W_iaload (rfl : (pj lw).1 20 55 = some (.iaload, 1, 0))
theorem w20_56i {y : Int32} {x : Int32} {l0 l1 l2 l3 : Slot} : W (pj lw) 20 56 (l0 :: l1 :: l2 :: l3 :: .val (.int y) :: L) (.int x :: S) k n H Q ↔ W (pj lw) 20 58 (l0 :: l1 :: l2 :: l3 :: .val (.int x) :: L) S k n H Q := W_ist (rfl : (pj lw).1 20 56 = some (.istore 4, 2, 0)) rfl rfl
theorem w20_56 {x : Int32} {l0 l1 l2 l3 : Slot} : W (pj lw) 20 56 (l0 :: l1 :: l2 :: l3 :: .unset :: L) (.int x :: S) k n H Q ↔ W (pj lw) 20 58 (l0 :: l1 :: l2 :: l3 :: .val (.int x) :: L) S k n H Q := W_ist (rfl : (pj lw).1 20 56 = some (.istore 4, 2, 0)) rfl rfl
theorem w20_58 : W (pj lw) 20 58 L S k n H Q ↔ W (pj lw) 20 59 L (.int 0 :: S) k n H Q := W_s (rfl : (pj lw).1 20 58 = some (.iconst 0, 1, 0)) rfl rfl rfl
theorem w20_59i {y : Int32} {x : Int32} {l0 l1 l2 l3 l4 : Slot} : W (pj lw) 20 59 (l0 :: l1 :: l2 :: l3 :: l4 :: .val (.int y) :: L) (.int x :: S) k n H Q ↔ W (pj lw) 20 61 (l0 :: l1 :: l2 :: l3 :: l4 :: .val (.int x) :: L) S k n H Q := W_ist (rfl : (pj lw).1 20 59 = some (.istore 5, 2, 0)) rfl rfl
theorem w20_59 {x : Int32} {l0 l1 l2 l3 l4 : Slot} : W (pj lw) 20 59 (l0 :: l1 :: l2 :: l3 :: l4 :: .unset :: L) (.int x :: S) k n H Q ↔ W (pj lw) 20 61 (l0 :: l1 :: l2 :: l3 :: l4 :: .val (.int x) :: L) S k n H Q := W_ist (rfl : (pj lw).1 20 59 = some (.istore 5, 2, 0)) rfl rfl
theorem w20_61 {x : Int32} {l0 l1 l2 l3 l4 : Slot} : W (pj lw) 20 61 (l0 :: l1 :: l2 :: l3 :: l4 :: .val (.int x) :: L) S k n H Q ↔ W (pj lw) 20 63 (l0 :: l1 :: l2 :: l3 :: l4 :: .val (.int x) :: L) (.int x :: S) k n H Q := W_s (rfl : (pj lw).1 20 61 = some (.iload 5, 2, 0)) rfl rfl rfl
theorem w20_63 {x : Nat} : W (pj lw) 20 63 (.val (.ref x) :: L) S k n H Q ↔ W (pj lw) 20 64 (.val (.ref x) :: L) (.ref x :: S) k n H Q := W_s (rfl : (pj lw).1 20 63 = some (.aload_n 0, 1, 0)) rfl rfl rfl
theorem w20_64 {a : Nat} : W (pj lw) 20 64 L (.ref a :: S) k n H Q ↔ (isO H a = true ∧ W (pj lw) 20 67 L (fld H a 0 :: S) k n H Q) := W_getf (rfl : (pj lw).1 20 64 = some (.getfield 48, 3, 0))
theorem w20_67 {x y : Int32} : W (pj lw) 20 67 L (.int y :: .int x :: S) k n H Q ↔ (if x < y then W (pj lw) 20 70 L S k n H Q else W (pj lw) 20 135 L S k n H Q) := W_icmp_ge (rfl : (pj lw).1 20 67 = some (.if_icmp .ge 68, 3, 0)) rfl
theorem w20_70 {x : Nat} : W (pj lw) 20 70 (.val (.ref x) :: L) S k n H Q ↔ W (pj lw) 20 71 (.val (.ref x) :: L) (.ref x :: S) k n H Q := W_s (rfl : (pj lw).1 20 70 = some (.aload_n 0, 1, 0)) rfl rfl rfl
theorem w20_71 {a : Nat} : W (pj lw) 20 71 L (.ref a :: S) k n H Q ↔ (isO H a = true ∧ W (pj lw) 20 74 L (fld H a 12 :: S) k n H Q) := W_getf (rfl : (pj lw).1 20 71 = some (.getfield 30, 3, 12))
theorem w20_74 {x : Int32} {l0 l1 l2 l3 l4 : Slot} : W (pj lw) 20 74 (l0 :: l1 :: l2 :: l3 :: l4 :: .val (.int x) :: L) S k n H Q ↔ W (pj lw) 20 76 (l0 :: l1 :: l2 :: l3 :: l4 :: .val (.int x) :: L) (.int x :: S) k n H Q := W_s (rfl : (pj lw).1 20 74 = some (.iload 5, 2, 0)) rfl rfl rfl
theorem w20_76 : W (pj lw) 20 76 L S k n H Q ↔ W (pj lw) 20 78 L (.int 24 :: S) k n H Q := W_s (rfl : (pj lw).1 20 76 = some (.bipush 24, 2, 0)) rfl rfl rfl
theorem w20_78 {x y : Int32} : W (pj lw) 20 78 L (.int y :: .int x :: S) k n H Q ↔ W (pj lw) 20 79 L (.int (x * y) :: S) k n H Q := W_s (rfl : (pj lw).1 20 78 = some (.imul, 1, 0)) rfl rfl rfl
theorem w20_79 {x : Int32} {l0 l1 l2 l3 : Slot} : W (pj lw) 20 79 (l0 :: l1 :: l2 :: l3 :: .val (.int x) :: L) S k n H Q ↔ W (pj lw) 20 81 (l0 :: l1 :: l2 :: l3 :: .val (.int x) :: L) (.int x :: S) k n H Q := W_s (rfl : (pj lw).1 20 79 = some (.iload 4, 2, 0)) rfl rfl rfl
theorem w20_81 {x y : Int32} : W (pj lw) 20 81 L (.int y :: .int x :: S) k n H Q ↔ W (pj lw) 20 82 L (.int (x + y) :: S) k n H Q := W_s (rfl : (pj lw).1 20 81 = some (.iadd, 1, 0)) rfl rfl rfl
theorem w20_82 {i : Int32} {a : Nat} : W (pj lw) 20 82 L (.int i :: .ref a :: S) k n H Q ↔ ((inA H a .byte i = true ∨ inA H a .boolean i = true) ∧ W (pj lw) 20 83 L (elt H a i :: S) k n H Q) := W_baload (rfl : (pj lw).1 20 82 = some (.baload, 1, 0))
theorem w20_83 {x : Int32} : W (pj lw) 20 83 L (.int x :: S) k n H Q ↔ (if x = 0 then W (pj lw) 20 129 L S k n H Q else W (pj lw) 20 86 L S k n H Q) := W_if_eq (rfl : (pj lw).1 20 83 = some (.ifCond .eq 46, 3, 0)) rfl
theorem w20_86 {x : Nat} : W (pj lw) 20 86 (.val (.ref x) :: L) S k n H Q ↔ W (pj lw) 20 87 (.val (.ref x) :: L) (.ref x :: S) k n H Q := W_s (rfl : (pj lw).1 20 86 = some (.aload_n 0, 1, 0)) rfl rfl rfl
theorem w20_87 {a : Nat} : W (pj lw) 20 87 L (.ref a :: S) k n H Q ↔ (isO H a = true ∧ W (pj lw) 20 90 L (fld H a 14 :: S) k n H Q) := W_getf (rfl : (pj lw).1 20 87 = some (.getfield 36, 3, 14))
theorem w20_90 {x : Int32} {l0 l1 l2 l3 l4 : Slot} : W (pj lw) 20 90 (l0 :: l1 :: l2 :: l3 :: l4 :: .val (.int x) :: L) S k n H Q ↔ W (pj lw) 20 92 (l0 :: l1 :: l2 :: l3 :: l4 :: .val (.int x) :: L) (.int x :: S) k n H Q := W_s (rfl : (pj lw).1 20 90 = some (.iload 5, 2, 0)) rfl rfl rfl
theorem w20_92 {i : Int32} {a : Nat} : W (pj lw) 20 92 L (.int i :: .ref a :: S) k n H Q ↔ (inA H a .int i = true ∧ W (pj lw) 20 93 L (elt H a i :: S) k n H Q) := W_iaload (rfl : (pj lw).1 20 92 = some (.iaload, 1, 0))
theorem w20_93 {x : Int32} : W (pj lw) 20 93 L (.int x :: S) k n H Q ↔ (if x < 0 then W (pj lw) 20 96 L S k n H Q else W (pj lw) 20 129 L S k n H Q) := W_if_ge (rfl : (pj lw).1 20 93 = some (.ifCond .ge 36, 3, 0)) rfl
theorem w20_96 {x : Int32} {l0 l1 : Slot} : W (pj lw) 20 96 (l0 :: l1 :: .val (.int x) :: L) S k n H Q ↔ W (pj lw) 20 97 (l0 :: l1 :: .val (.int x) :: L) (.int x :: S) k n H Q := W_s (rfl : (pj lw).1 20 96 = some (.iload_n 2, 1, 0)) rfl rfl rfl
theorem w20_97 : W (pj lw) 20 97 L S k n H Q ↔ W (pj lw) 20 99 L (.int 24 :: S) k n H Q := W_s (rfl : (pj lw).1 20 97 = some (.bipush 24, 2, 0)) rfl rfl rfl
theorem w20_99 {x y : Int32} : W (pj lw) 20 99 L (.int y :: .int x :: S) k n H Q ↔ (if x < y then W (pj lw) 20 102 L S k n H Q else W (pj lw) 20 129 L S k n H Q) := W_icmp_ge (rfl : (pj lw).1 20 99 = some (.if_icmp .ge 30, 3, 0)) rfl
theorem w20_102 {x : Nat} : W (pj lw) 20 102 (.val (.ref x) :: L) S k n H Q ↔ W (pj lw) 20 103 (.val (.ref x) :: L) (.ref x :: S) k n H Q := W_s (rfl : (pj lw).1 20 102 = some (.aload_n 0, 1, 0)) rfl rfl rfl
theorem w20_103 {a : Nat} : W (pj lw) 20 103 L (.ref a :: S) k n H Q ↔ (isO H a = true ∧ W (pj lw) 20 106 L (fld H a 14 :: S) k n H Q) := W_getf (rfl : (pj lw).1 20 103 = some (.getfield 36, 3, 14))
theorem w20_106 {x : Int32} {l0 l1 l2 l3 l4 : Slot} : W (pj lw) 20 106 (l0 :: l1 :: l2 :: l3 :: l4 :: .val (.int x) :: L) S k n H Q ↔ W (pj lw) 20 108 (l0 :: l1 :: l2 :: l3 :: l4 :: .val (.int x) :: L) (.int x :: S) k n H Q := W_s (rfl : (pj lw).1 20 106 = some (.iload 5, 2, 0)) rfl rfl rfl
theorem w20_108 {x : Nat} : W (pj lw) 20 108 (.val (.ref x) :: L) S k n H Q ↔ W (pj lw) 20 109 (.val (.ref x) :: L) (.ref x :: S) k n H Q := W_s (rfl : (pj lw).1 20 108 = some (.aload_n 0, 1, 0)) rfl rfl rfl
theorem w20_109 {a : Nat} : W (pj lw) 20 109 L (.ref a :: S) k n H Q ↔ (isO H a = true ∧ W (pj lw) 20 112 L (fld H a 14 :: S) k n H Q) := W_getf (rfl : (pj lw).1 20 109 = some (.getfield 36, 3, 14))
theorem w20_112 {x : Int32} {l0 l1 l2 l3 : Slot} : W (pj lw) 20 112 (l0 :: l1 :: l2 :: l3 :: .val (.int x) :: L) S k n H Q ↔ W (pj lw) 20 114 (l0 :: l1 :: l2 :: l3 :: .val (.int x) :: L) (.int x :: S) k n H Q := W_s (rfl : (pj lw).1 20 112 = some (.iload 4, 2, 0)) rfl rfl rfl
theorem w20_114 {i : Int32} {a : Nat} : W (pj lw) 20 114 L (.int i :: .ref a :: S) k n H Q ↔ (inA H a .int i = true ∧ W (pj lw) 20 115 L (elt H a i :: S) k n H Q) := W_iaload (rfl : (pj lw).1 20 114 = some (.iaload, 1, 0))
theorem w20_115 : W (pj lw) 20 115 L S k n H Q ↔ W (pj lw) 20 116 L (.int 1 :: S) k n H Q := W_s (rfl : (pj lw).1 20 115 = some (.iconst 1, 1, 0)) rfl rfl rfl
theorem w20_116 {x y : Int32} : W (pj lw) 20 116 L (.int y :: .int x :: S) k n H Q ↔ W (pj lw) 20 117 L (.int (x + y) :: S) k n H Q := W_s (rfl : (pj lw).1 20 116 = some (.iadd, 1, 0)) rfl rfl rfl
theorem w20_117 {x i : Int32} {a : Nat} : W (pj lw) 20 117 L (.int x :: .int i :: .ref a :: S) k n H Q ↔ (inAw H a .int i = true ∧ W (pj lw) 20 118 L S k n (wr H a i.toNatClampNeg (.int x)) Q) := W_iastore (rfl : (pj lw).1 20 117 = some (.iastore, 1, 0))
theorem w20_118 {x : Nat} : W (pj lw) 20 118 (.val (.ref x) :: L) S k n H Q ↔ W (pj lw) 20 119 (.val (.ref x) :: L) (.ref x :: S) k n H Q := W_s (rfl : (pj lw).1 20 118 = some (.aload_n 0, 1, 0)) rfl rfl rfl
theorem w20_119 {a : Nat} : W (pj lw) 20 119 L (.ref a :: S) k n H Q ↔ (isO H a = true ∧ W (pj lw) 20 122 L (fld H a 15 :: S) k n H Q) := W_getf (rfl : (pj lw).1 20 119 = some (.getfield 39, 3, 15))
theorem w20_122 {x : Int32} {l0 l1 : Slot} : W (pj lw) 20 122 (l0 :: l1 :: .val (.int x) :: L) S k n H Q ↔ W (pj lw) 20 123 (l0 :: l1 :: .val (.int x) :: L) (.int x :: S) k n H Q := W_s (rfl : (pj lw).1 20 122 = some (.iload_n 2, 1, 0)) rfl rfl rfl
theorem w20_123 {x : Int32} {l0 l1 l2 l3 l4 : Slot} : W (pj lw) 20 123 (l0 :: l1 :: l2 :: l3 :: l4 :: .val (.int x) :: L) S k n H Q ↔ W (pj lw) 20 125 (l0 :: l1 :: l2 :: l3 :: l4 :: .val (.int x) :: L) (.int x :: S) k n H Q := W_s (rfl : (pj lw).1 20 123 = some (.iload 5, 2, 0)) rfl rfl rfl
theorem w20_125 {x i : Int32} {a : Nat} : W (pj lw) 20 125 L (.int x :: .int i :: .ref a :: S) k n H Q ↔ (inAw H a .int i = true ∧ W (pj lw) 20 126 L S k n (wr H a i.toNatClampNeg (.int x)) Q) := W_iastore (rfl : (pj lw).1 20 125 = some (.iastore, 1, 0))
theorem w20_126 {x : Int32} {l0 l1 : Slot} : W (pj lw) 20 126 (l0 :: l1 :: .val (.int x) :: L) S k n H Q ↔ W (pj lw) 20 129 (l0 :: l1 :: .val (.int (x + 1)) :: L) S k n H Q := W_s (rfl : (pj lw).1 20 126 = some (.iinc 2 1, 3, 0)) rfl rfl rfl
theorem w20_129 {x : Int32} {l0 l1 l2 l3 l4 : Slot} : W (pj lw) 20 129 (l0 :: l1 :: l2 :: l3 :: l4 :: .val (.int x) :: L) S k n H Q ↔ W (pj lw) 20 132 (l0 :: l1 :: l2 :: l3 :: l4 :: .val (.int (x + 1)) :: L) S k n H Q := W_s (rfl : (pj lw).1 20 129 = some (.iinc 5 1, 3, 0)) rfl rfl rfl
theorem w20_132 : W (pj lw) 20 132 L S k n H Q ↔ W (pj lw) 20 61 L S k n H Q := W_goto (rfl : (pj lw).1 20 132 = some (.goto (-71), 3, 0)) rfl
theorem w20_135 {x : Int32} {l0 l1 l2 : Slot} : W (pj lw) 20 135 (l0 :: l1 :: l2 :: .val (.int x) :: L) S k n H Q ↔ W (pj lw) 20 138 (l0 :: l1 :: l2 :: .val (.int (x + 1)) :: L) S k n H Q := W_s (rfl : (pj lw).1 20 135 = some (.iinc 3 1, 3, 0)) rfl rfl rfl
theorem w20_138 : W (pj lw) 20 138 L S k n H Q ↔ W (pj lw) 20 39 L S k n H Q := W_goto (rfl : (pj lw).1 20 138 = some (.goto (-99), 3, 0)) rfl
theorem w20_141 : W (pj lw) 20 141 L [] k n H Q ↔ Q none H := W_r (rfl : (pj lw).1 20 141 = some (.return_, 1, 0)) rfl
theorem c21 {x0 : Nat} {x1 : Int32} : Cl (pj lw) 21 [.ref x0, .int x1] H Q ↔ W (pj lw) 21 0 [.val (.ref x0), .val (.int x1), .unset, .unset, .unset, .unset, .unset, .unset, .unset] [] 0 0 H Q := cl_unf rfl
theorem w21_0 : W (pj lw) 21 0 L S k n H Q ↔ W (pj lw) 21 1 L (.int (-1) :: S) k n H Q := W_s (rfl : (pj lw).1 21 0 = some (.iconst (-1), 1, 0)) rfl rfl rfl
theorem w21_1 {x : Int32} {l0 l1 : Slot} : W (pj lw) 21 1 (l0 :: l1 :: .unset :: L) (.int x :: S) k n H Q ↔ W (pj lw) 21 2 (l0 :: l1 :: .val (.int x) :: L) S k n H Q := W_istn (rfl : (pj lw).1 21 1 = some (.istore_n 2, 1, 0)) rfl rfl
theorem w21_2 : W (pj lw) 21 2 L S k n H Q ↔ W (pj lw) 21 3 L (.int 0 :: S) k n H Q := W_s (rfl : (pj lw).1 21 2 = some (.iconst 0, 1, 0)) rfl rfl rfl
theorem w21_3 {x : Int32} {l0 l1 l2 : Slot} : W (pj lw) 21 3 (l0 :: l1 :: l2 :: .unset :: L) (.int x :: S) k n H Q ↔ W (pj lw) 21 4 (l0 :: l1 :: l2 :: .val (.int x) :: L) S k n H Q := W_istn (rfl : (pj lw).1 21 3 = some (.istore_n 3, 1, 0)) rfl rfl
theorem w21_4 {x : Int32} {l0 l1 l2 : Slot} : W (pj lw) 21 4 (l0 :: l1 :: l2 :: .val (.int x) :: L) S k n H Q ↔ W (pj lw) 21 5 (l0 :: l1 :: l2 :: .val (.int x) :: L) (.int x :: S) k n H Q := W_s (rfl : (pj lw).1 21 4 = some (.iload_n 3, 1, 0)) rfl rfl rfl
theorem w21_5 {x : Nat} : W (pj lw) 21 5 (.val (.ref x) :: L) S k n H Q ↔ W (pj lw) 21 6 (.val (.ref x) :: L) (.ref x :: S) k n H Q := W_s (rfl : (pj lw).1 21 5 = some (.aload_n 0, 1, 0)) rfl rfl rfl
theorem w21_6 {a : Nat} : W (pj lw) 21 6 L (.ref a :: S) k n H Q ↔ (isO H a = true ∧ W (pj lw) 21 9 L (fld H a 0 :: S) k n H Q) := W_getf (rfl : (pj lw).1 21 6 = some (.getfield 48, 3, 0))
theorem w21_9 {x y : Int32} : W (pj lw) 21 9 L (.int y :: .int x :: S) k n H Q ↔ (if x < y then W (pj lw) 21 12 L S k n H Q else W (pj lw) 21 64 L S k n H Q) := W_icmp_ge (rfl : (pj lw).1 21 9 = some (.if_icmp .ge 55, 3, 0)) rfl
theorem w21_12 {x : Nat} : W (pj lw) 21 12 (.val (.ref x) :: L) S k n H Q ↔ W (pj lw) 21 13 (.val (.ref x) :: L) (.ref x :: S) k n H Q := W_s (rfl : (pj lw).1 21 12 = some (.aload_n 0, 1, 0)) rfl rfl rfl
theorem w21_13 {a : Nat} : W (pj lw) 21 13 L (.ref a :: S) k n H Q ↔ (isO H a = true ∧ W (pj lw) 21 16 L (fld H a 12 :: S) k n H Q) := W_getf (rfl : (pj lw).1 21 13 = some (.getfield 30, 3, 12))
theorem w21_16 {x : Int32} {l0 : Slot} : W (pj lw) 21 16 (l0 :: .val (.int x) :: L) S k n H Q ↔ W (pj lw) 21 17 (l0 :: .val (.int x) :: L) (.int x :: S) k n H Q := W_s (rfl : (pj lw).1 21 16 = some (.iload_n 1, 1, 0)) rfl rfl rfl
theorem w21_17 : W (pj lw) 21 17 L S k n H Q ↔ W (pj lw) 21 19 L (.int 24 :: S) k n H Q := W_s (rfl : (pj lw).1 21 17 = some (.bipush 24, 2, 0)) rfl rfl rfl
theorem w21_19 {x y : Int32} : W (pj lw) 21 19 L (.int y :: .int x :: S) k n H Q ↔ W (pj lw) 21 20 L (.int (x * y) :: S) k n H Q := W_s (rfl : (pj lw).1 21 19 = some (.imul, 1, 0)) rfl rfl rfl
theorem w21_20 {x : Int32} {l0 l1 l2 : Slot} : W (pj lw) 21 20 (l0 :: l1 :: l2 :: .val (.int x) :: L) S k n H Q ↔ W (pj lw) 21 21 (l0 :: l1 :: l2 :: .val (.int x) :: L) (.int x :: S) k n H Q := W_s (rfl : (pj lw).1 21 20 = some (.iload_n 3, 1, 0)) rfl rfl rfl
theorem w21_21 {x y : Int32} : W (pj lw) 21 21 L (.int y :: .int x :: S) k n H Q ↔ W (pj lw) 21 22 L (.int (x + y) :: S) k n H Q := W_s (rfl : (pj lw).1 21 21 = some (.iadd, 1, 0)) rfl rfl rfl
theorem w21_22 {i : Int32} {a : Nat} : W (pj lw) 21 22 L (.int i :: .ref a :: S) k n H Q ↔ ((inA H a .byte i = true ∨ inA H a .boolean i = true) ∧ W (pj lw) 21 23 L (elt H a i :: S) k n H Q) := W_baload (rfl : (pj lw).1 21 22 = some (.baload, 1, 0))
theorem w21_23 {x : Int32} : W (pj lw) 21 23 L (.int x :: S) k n H Q ↔ (if x = 0 then W (pj lw) 21 58 L S k n H Q else W (pj lw) 21 26 L S k n H Q) := W_if_eq (rfl : (pj lw).1 21 23 = some (.ifCond .eq 35, 3, 0)) rfl
theorem w21_26 {x : Nat} : W (pj lw) 21 26 (.val (.ref x) :: L) S k n H Q ↔ W (pj lw) 21 27 (.val (.ref x) :: L) (.ref x :: S) k n H Q := W_s (rfl : (pj lw).1 21 26 = some (.aload_n 0, 1, 0)) rfl rfl rfl
theorem w21_27 {a : Nat} : W (pj lw) 21 27 L (.ref a :: S) k n H Q ↔ (isO H a = true ∧ W (pj lw) 21 30 L (fld H a 14 :: S) k n H Q) := W_getf (rfl : (pj lw).1 21 27 = some (.getfield 36, 3, 14))
theorem w21_30 {x : Int32} {l0 l1 l2 : Slot} : W (pj lw) 21 30 (l0 :: l1 :: l2 :: .val (.int x) :: L) S k n H Q ↔ W (pj lw) 21 31 (l0 :: l1 :: l2 :: .val (.int x) :: L) (.int x :: S) k n H Q := W_s (rfl : (pj lw).1 21 30 = some (.iload_n 3, 1, 0)) rfl rfl rfl
theorem w21_31 {i : Int32} {a : Nat} : W (pj lw) 21 31 L (.int i :: .ref a :: S) k n H Q ↔ (inA H a .int i = true ∧ W (pj lw) 21 32 L (elt H a i :: S) k n H Q) := W_iaload (rfl : (pj lw).1 21 31 = some (.iaload, 1, 0))
theorem w21_32 {x : Int32} : W (pj lw) 21 32 L (.int x :: S) k n H Q ↔ (if x < 0 then W (pj lw) 21 58 L S k n H Q else W (pj lw) 21 35 L S k n H Q) := W_if_lt (rfl : (pj lw).1 21 32 = some (.ifCond .lt 26, 3, 0)) rfl
theorem w21_35 {x : Nat} : W (pj lw) 21 35 (.val (.ref x) :: L) S k n H Q ↔ W (pj lw) 21 36 (.val (.ref x) :: L) (.ref x :: S) k n H Q := W_s (rfl : (pj lw).1 21 35 = some (.aload_n 0, 1, 0)) rfl rfl rfl
theorem w21_36 {a : Nat} : W (pj lw) 21 36 L (.ref a :: S) k n H Q ↔ (isO H a = true ∧ W (pj lw) 21 39 L (fld H a 14 :: S) k n H Q) := W_getf (rfl : (pj lw).1 21 36 = some (.getfield 36, 3, 14))
theorem w21_39 {x : Int32} {l0 l1 l2 : Slot} : W (pj lw) 21 39 (l0 :: l1 :: l2 :: .val (.int x) :: L) S k n H Q ↔ W (pj lw) 21 40 (l0 :: l1 :: l2 :: .val (.int x) :: L) (.int x :: S) k n H Q := W_s (rfl : (pj lw).1 21 39 = some (.iload_n 3, 1, 0)) rfl rfl rfl
theorem w21_40 {i : Int32} {a : Nat} : W (pj lw) 21 40 L (.int i :: .ref a :: S) k n H Q ↔ (inA H a .int i = true ∧ W (pj lw) 21 41 L (elt H a i :: S) k n H Q) := W_iaload (rfl : (pj lw).1 21 40 = some (.iaload, 1, 0))
theorem w21_41 : W (pj lw) 21 41 L S k n H Q ↔ W (pj lw) 21 42 L (.int 1 :: S) k n H Q := W_s (rfl : (pj lw).1 21 41 = some (.iconst 1, 1, 0)) rfl rfl rfl
theorem w21_42 {x y : Int32} : W (pj lw) 21 42 L (.int y :: .int x :: S) k n H Q ↔ W (pj lw) 21 43 L (.int (x + y) :: S) k n H Q := W_s (rfl : (pj lw).1 21 42 = some (.iadd, 1, 0)) rfl rfl rfl
theorem w21_43 {x : Int32} {l0 l1 l2 l3 : Slot} : W (pj lw) 21 43 (l0 :: l1 :: l2 :: l3 :: .unset :: L) (.int x :: S) k n H Q ↔ W (pj lw) 21 45 (l0 :: l1 :: l2 :: l3 :: .val (.int x) :: L) S k n H Q := W_ist (rfl : (pj lw).1 21 43 = some (.istore 4, 2, 0)) rfl rfl
theorem w21_45 {x : Int32} {l0 l1 : Slot} : W (pj lw) 21 45 (l0 :: l1 :: .val (.int x) :: L) S k n H Q ↔ W (pj lw) 21 46 (l0 :: l1 :: .val (.int x) :: L) (.int x :: S) k n H Q := W_s (rfl : (pj lw).1 21 45 = some (.iload_n 2, 1, 0)) rfl rfl rfl
theorem w21_46 {x : Int32} : W (pj lw) 21 46 L (.int x :: S) k n H Q ↔ (if x < 0 then W (pj lw) 21 55 L S k n H Q else W (pj lw) 21 49 L S k n H Q) := W_if_lt (rfl : (pj lw).1 21 46 = some (.ifCond .lt 9, 3, 0)) rfl
theorem w21_55 {x : Int32} {l0 l1 l2 l3 : Slot} : W (pj lw) 21 55 (l0 :: l1 :: l2 :: l3 :: .val (.int x) :: L) S k n H Q ↔ W (pj lw) 21 57 (l0 :: l1 :: l2 :: l3 :: .val (.int x) :: L) (.int x :: S) k n H Q := W_s (rfl : (pj lw).1 21 55 = some (.iload 4, 2, 0)) rfl rfl rfl
theorem w21_57i {y : Int32} {x : Int32} {l0 l1 : Slot} : W (pj lw) 21 57 (l0 :: l1 :: .val (.int y) :: L) (.int x :: S) k n H Q ↔ W (pj lw) 21 58 (l0 :: l1 :: .val (.int x) :: L) S k n H Q := W_istn (rfl : (pj lw).1 21 57 = some (.istore_n 2, 1, 0)) rfl rfl
theorem w21_58 {x : Int32} {l0 l1 l2 : Slot} : W (pj lw) 21 58 (l0 :: l1 :: l2 :: .val (.int x) :: L) S k n H Q ↔ W (pj lw) 21 61 (l0 :: l1 :: l2 :: .val (.int (x + 1)) :: L) S k n H Q := W_s (rfl : (pj lw).1 21 58 = some (.iinc 3 1, 3, 0)) rfl rfl rfl
theorem w21_61 : W (pj lw) 21 61 L S k n H Q ↔ W (pj lw) 21 4 L S k n H Q := W_goto (rfl : (pj lw).1 21 61 = some (.goto (-57), 3, 0)) rfl
theorem w21_64 {x : Int32} {l0 l1 : Slot} : W (pj lw) 21 64 (l0 :: l1 :: .val (.int x) :: L) S k n H Q ↔ W (pj lw) 21 65 (l0 :: l1 :: .val (.int x) :: L) (.int x :: S) k n H Q := W_s (rfl : (pj lw).1 21 64 = some (.iload_n 2, 1, 0)) rfl rfl rfl
theorem w21_65 : W (pj lw) 21 65 L S k n H Q ↔ W (pj lw) 21 66 L (.int 1 :: S) k n H Q := W_s (rfl : (pj lw).1 21 65 = some (.iconst 1, 1, 0)) rfl rfl rfl
theorem w21_66 {x y : Int32} : W (pj lw) 21 66 L (.int y :: .int x :: S) k n H Q ↔ (if x < y then W (pj lw) 21 69 L S k n H Q else W (pj lw) 21 71 L S k n H Q) := W_icmp_ge (rfl : (pj lw).1 21 66 = some (.if_icmp .ge 5, 3, 0)) rfl
theorem w21_71 {x : Int32} {l0 l1 : Slot} : W (pj lw) 21 71 (l0 :: l1 :: .val (.int x) :: L) S k n H Q ↔ W (pj lw) 21 72 (l0 :: l1 :: .val (.int x) :: L) (.int x :: S) k n H Q := W_s (rfl : (pj lw).1 21 71 = some (.iload_n 2, 1, 0)) rfl rfl rfl
theorem w21_72 {x : Nat} : W (pj lw) 21 72 (.val (.ref x) :: L) S k n H Q ↔ W (pj lw) 21 73 (.val (.ref x) :: L) (.ref x :: S) k n H Q := W_s (rfl : (pj lw).1 21 72 = some (.aload_n 0, 1, 0)) rfl rfl rfl
theorem w21_73 {a : Nat} : W (pj lw) 21 73 L (.ref a :: S) k n H Q ↔ (isO H a = true ∧ W (pj lw) 21 76 L (fld H a 0 :: S) k n H Q) := W_getf (rfl : (pj lw).1 21 73 = some (.getfield 48, 3, 0))
theorem w21_76 {x y : Int32} : W (pj lw) 21 76 L (.int y :: .int x :: S) k n H Q ↔ (if y < x then W (pj lw) 21 79 L S k n H Q else W (pj lw) 21 84 L S k n H Q) := W_icmp_le (rfl : (pj lw).1 21 76 = some (.if_icmp .le 8, 3, 0)) rfl
theorem w21_84 {x : Nat} : W (pj lw) 21 84 (.val (.ref x) :: L) S k n H Q ↔ W (pj lw) 21 85 (.val (.ref x) :: L) (.ref x :: S) k n H Q := W_s (rfl : (pj lw).1 21 84 = some (.aload_n 0, 1, 0)) rfl rfl rfl
theorem w21_85 {x : Int32} {l0 l1 : Slot} : W (pj lw) 21 85 (l0 :: l1 :: .val (.int x) :: L) S k n H Q ↔ W (pj lw) 21 86 (l0 :: l1 :: .val (.int x) :: L) (.int x :: S) k n H Q := W_s (rfl : (pj lw).1 21 85 = some (.iload_n 2, 1, 0)) rfl rfl rfl
theorem w21_86 {a : Nat} {v : Value} : W (pj lw) 21 86 L (v :: .ref a :: S) k n H Q ↔ ((isOw H a = true ∧ okv (.int) v = true) ∧ W (pj lw) 21 89 L S k n (wr H a 6 v) Q) := W_putf (rfl : (pj lw).1 21 86 = some (.putfield 106, 3, 6))
theorem w21_89 {x : Nat} : W (pj lw) 21 89 (.val (.ref x) :: L) S k n H Q ↔ W (pj lw) 21 90 (.val (.ref x) :: L) (.ref x :: S) k n H Q := W_s (rfl : (pj lw).1 21 89 = some (.aload_n 0, 1, 0)) rfl rfl rfl
theorem w21_90 {a : Nat} : W (pj lw) 21 90 L (.ref a :: S) k n H Q ↔ (isO H a = true ∧ W (pj lw) 21 93 L (fld H a 8 :: S) k n H Q) := W_getf (rfl : (pj lw).1 21 90 = some (.getfield 17, 3, 8))
theorem w21_93 : W (pj lw) 21 93 L S k n H Q ↔ W (pj lw) 21 94 L (.int 0 :: S) k n H Q := W_s (rfl : (pj lw).1 21 93 = some (.iconst 0, 1, 0)) rfl rfl rfl
theorem w21_94 {x : Int32} {l0 : Slot} : W (pj lw) 21 94 (l0 :: .val (.int x) :: L) S k n H Q ↔ W (pj lw) 21 95 (l0 :: .val (.int x) :: L) (.int x :: S) k n H Q := W_s (rfl : (pj lw).1 21 94 = some (.iload_n 1, 1, 0)) rfl rfl rfl
theorem w21_95 {x i : Int32} {a : Nat} : W (pj lw) 21 95 L (.int x :: .int i :: .ref a :: S) k n H Q ↔ (inAw H a .int i = true ∧ W (pj lw) 21 96 L S k n (wr H a i.toNatClampNeg (.int x)) Q) := W_iastore (rfl : (pj lw).1 21 95 = some (.iastore, 1, 0))
theorem w21_96 {x : Int32} {l0 : Slot} : W (pj lw) 21 96 (l0 :: .val (.int x) :: L) S k n H Q ↔ W (pj lw) 21 97 (l0 :: .val (.int x) :: L) (.int x :: S) k n H Q := W_s (rfl : (pj lw).1 21 96 = some (.iload_n 1, 1, 0)) rfl rfl rfl
theorem w21_97i {y : Int32} {x : Int32} {l0 l1 l2 : Slot} : W (pj lw) 21 97 (l0 :: l1 :: l2 :: .val (.int y) :: L) (.int x :: S) k n H Q ↔ W (pj lw) 21 98 (l0 :: l1 :: l2 :: .val (.int x) :: L) S k n H Q := W_istn (rfl : (pj lw).1 21 97 = some (.istore_n 3, 1, 0)) rfl rfl
theorem w21_98 : W (pj lw) 21 98 L S k n H Q ↔ W (pj lw) 21 99 L (.int 1 :: S) k n H Q := W_s (rfl : (pj lw).1 21 98 = some (.iconst 1, 1, 0)) rfl rfl rfl
theorem w21_99i {y : Int32} {x : Int32} {l0 l1 l2 l3 : Slot} : W (pj lw) 21 99 (l0 :: l1 :: l2 :: l3 :: .val (.int y) :: L) (.int x :: S) k n H Q ↔ W (pj lw) 21 101 (l0 :: l1 :: l2 :: l3 :: .val (.int x) :: L) S k n H Q := W_ist (rfl : (pj lw).1 21 99 = some (.istore 4, 2, 0)) rfl rfl
theorem w21_101 {x : Int32} {l0 l1 l2 l3 : Slot} : W (pj lw) 21 101 (l0 :: l1 :: l2 :: l3 :: .val (.int x) :: L) S k n H Q ↔ W (pj lw) 21 103 (l0 :: l1 :: l2 :: l3 :: .val (.int x) :: L) (.int x :: S) k n H Q := W_s (rfl : (pj lw).1 21 101 = some (.iload 4, 2, 0)) rfl rfl rfl
theorem w21_103 {x : Nat} : W (pj lw) 21 103 (.val (.ref x) :: L) S k n H Q ↔ W (pj lw) 21 104 (.val (.ref x) :: L) (.ref x :: S) k n H Q := W_s (rfl : (pj lw).1 21 103 = some (.aload_n 0, 1, 0)) rfl rfl rfl
theorem w21_104 {a : Nat} : W (pj lw) 21 104 L (.ref a :: S) k n H Q ↔ (isO H a = true ∧ W (pj lw) 21 107 L (fld H a 6 :: S) k n H Q) := W_getf (rfl : (pj lw).1 21 104 = some (.getfield 106, 3, 6))
theorem w21_107 {x y : Int32} : W (pj lw) 21 107 L (.int y :: .int x :: S) k n H Q ↔ (if x < y then W (pj lw) 21 110 L S k n H Q else W (pj lw) 21 190 L S k n H Q) := W_icmp_ge (rfl : (pj lw).1 21 107 = some (.if_icmp .ge 83, 3, 0)) rfl
theorem w21_110 {x : Nat} : W (pj lw) 21 110 (.val (.ref x) :: L) S k n H Q ↔ W (pj lw) 21 111 (.val (.ref x) :: L) (.ref x :: S) k n H Q := W_s (rfl : (pj lw).1 21 110 = some (.aload_n 0, 1, 0)) rfl rfl rfl
theorem w21_111 {a : Nat} : W (pj lw) 21 111 L (.ref a :: S) k n H Q ↔ (isO H a = true ∧ W (pj lw) 21 114 L (fld H a 6 :: S) k n H Q) := W_getf (rfl : (pj lw).1 21 111 = some (.getfield 106, 3, 6))
theorem w21_114 {x : Int32} {l0 l1 l2 l3 : Slot} : W (pj lw) 21 114 (l0 :: l1 :: l2 :: l3 :: .val (.int x) :: L) S k n H Q ↔ W (pj lw) 21 116 (l0 :: l1 :: l2 :: l3 :: .val (.int x) :: L) (.int x :: S) k n H Q := W_s (rfl : (pj lw).1 21 114 = some (.iload 4, 2, 0)) rfl rfl rfl
theorem w21_116 {x y : Int32} : W (pj lw) 21 116 L (.int y :: .int x :: S) k n H Q ↔ W (pj lw) 21 117 L (.int (x - y) :: S) k n H Q := W_s (rfl : (pj lw).1 21 116 = some (.isub, 1, 0)) rfl rfl rfl
theorem w21_117i {y : Int32} {x : Int32} {l0 l1 l2 l3 l4 : Slot} : W (pj lw) 21 117 (l0 :: l1 :: l2 :: l3 :: l4 :: .val (.int y) :: L) (.int x :: S) k n H Q ↔ W (pj lw) 21 119 (l0 :: l1 :: l2 :: l3 :: l4 :: .val (.int x) :: L) S k n H Q := W_ist (rfl : (pj lw).1 21 117 = some (.istore 5, 2, 0)) rfl rfl
theorem w21_117 {x : Int32} {l0 l1 l2 l3 l4 : Slot} : W (pj lw) 21 117 (l0 :: l1 :: l2 :: l3 :: l4 :: .unset :: L) (.int x :: S) k n H Q ↔ W (pj lw) 21 119 (l0 :: l1 :: l2 :: l3 :: l4 :: .val (.int x) :: L) S k n H Q := W_ist (rfl : (pj lw).1 21 117 = some (.istore 5, 2, 0)) rfl rfl
theorem w21_119 {x : Int32} {l0 l1 l2 : Slot} : W (pj lw) 21 119 (l0 :: l1 :: l2 :: .val (.int x) :: L) S k n H Q ↔ W (pj lw) 21 120 (l0 :: l1 :: l2 :: .val (.int x) :: L) (.int x :: S) k n H Q := W_s (rfl : (pj lw).1 21 119 = some (.iload_n 3, 1, 0)) rfl rfl rfl
theorem w21_120i {y : Int32} {x : Int32} {l0 l1 l2 l3 l4 l5 : Slot} : W (pj lw) 21 120 (l0 :: l1 :: l2 :: l3 :: l4 :: l5 :: .val (.int y) :: L) (.int x :: S) k n H Q ↔ W (pj lw) 21 122 (l0 :: l1 :: l2 :: l3 :: l4 :: l5 :: .val (.int x) :: L) S k n H Q := W_ist (rfl : (pj lw).1 21 120 = some (.istore 6, 2, 0)) rfl rfl
theorem w21_120 {x : Int32} {l0 l1 l2 l3 l4 l5 : Slot} : W (pj lw) 21 120 (l0 :: l1 :: l2 :: l3 :: l4 :: l5 :: .unset :: L) (.int x :: S) k n H Q ↔ W (pj lw) 21 122 (l0 :: l1 :: l2 :: l3 :: l4 :: l5 :: .val (.int x) :: L) S k n H Q := W_ist (rfl : (pj lw).1 21 120 = some (.istore 6, 2, 0)) rfl rfl
theorem w21_122 {x : Nat} : W (pj lw) 21 122 (.val (.ref x) :: L) S k n H Q ↔ W (pj lw) 21 123 (.val (.ref x) :: L) (.ref x :: S) k n H Q := W_s (rfl : (pj lw).1 21 122 = some (.aload_n 0, 1, 0)) rfl rfl rfl
theorem w21_123 {a : Nat} : W (pj lw) 21 123 L (.ref a :: S) k n H Q ↔ (isO H a = true ∧ W (pj lw) 21 126 L (fld H a 0 :: S) k n H Q) := W_getf (rfl : (pj lw).1 21 123 = some (.getfield 48, 3, 0))
theorem w21_126 : W (pj lw) 21 126 L S k n H Q ↔ W (pj lw) 21 127 L (.int 1 :: S) k n H Q := W_s (rfl : (pj lw).1 21 126 = some (.iconst 1, 1, 0)) rfl rfl rfl
theorem w21_127 {x y : Int32} : W (pj lw) 21 127 L (.int y :: .int x :: S) k n H Q ↔ W (pj lw) 21 128 L (.int (x - y) :: S) k n H Q := W_s (rfl : (pj lw).1 21 127 = some (.isub, 1, 0)) rfl rfl rfl
theorem w21_128i {y : Int32} {x : Int32} {l0 l1 l2 l3 l4 l5 l6 : Slot} : W (pj lw) 21 128 (l0 :: l1 :: l2 :: l3 :: l4 :: l5 :: l6 :: .val (.int y) :: L) (.int x :: S) k n H Q ↔ W (pj lw) 21 130 (l0 :: l1 :: l2 :: l3 :: l4 :: l5 :: l6 :: .val (.int x) :: L) S k n H Q := W_ist (rfl : (pj lw).1 21 128 = some (.istore 7, 2, 0)) rfl rfl
theorem w21_128 {x : Int32} {l0 l1 l2 l3 l4 l5 l6 : Slot} : W (pj lw) 21 128 (l0 :: l1 :: l2 :: l3 :: l4 :: l5 :: l6 :: .unset :: L) (.int x :: S) k n H Q ↔ W (pj lw) 21 130 (l0 :: l1 :: l2 :: l3 :: l4 :: l5 :: l6 :: .val (.int x) :: L) S k n H Q := W_ist (rfl : (pj lw).1 21 128 = some (.istore 7, 2, 0)) rfl rfl
theorem w21_130 {x : Int32} {l0 l1 l2 l3 l4 l5 l6 : Slot} : W (pj lw) 21 130 (l0 :: l1 :: l2 :: l3 :: l4 :: l5 :: l6 :: .val (.int x) :: L) S k n H Q ↔ W (pj lw) 21 132 (l0 :: l1 :: l2 :: l3 :: l4 :: l5 :: l6 :: .val (.int x) :: L) (.int x :: S) k n H Q := W_s (rfl : (pj lw).1 21 130 = some (.iload 7, 2, 0)) rfl rfl rfl
theorem w21_132 {x : Int32} : W (pj lw) 21 132 L (.int x :: S) k n H Q ↔ (if x < 0 then W (pj lw) 21 172 L S k n H Q else W (pj lw) 21 135 L S k n H Q) := W_if_lt (rfl : (pj lw).1 21 132 = some (.ifCond .lt 40, 3, 0)) rfl
theorem w21_135 {x : Nat} : W (pj lw) 21 135 (.val (.ref x) :: L) S k n H Q ↔ W (pj lw) 21 136 (.val (.ref x) :: L) (.ref x :: S) k n H Q := W_s (rfl : (pj lw).1 21 135 = some (.aload_n 0, 1, 0)) rfl rfl rfl
theorem w21_136 {a : Nat} : W (pj lw) 21 136 L (.ref a :: S) k n H Q ↔ (isO H a = true ∧ W (pj lw) 21 139 L (fld H a 12 :: S) k n H Q) := W_getf (rfl : (pj lw).1 21 136 = some (.getfield 30, 3, 12))
theorem w21_139 {x : Int32} {l0 l1 l2 : Slot} : W (pj lw) 21 139 (l0 :: l1 :: l2 :: .val (.int x) :: L) S k n H Q ↔ W (pj lw) 21 140 (l0 :: l1 :: l2 :: .val (.int x) :: L) (.int x :: S) k n H Q := W_s (rfl : (pj lw).1 21 139 = some (.iload_n 3, 1, 0)) rfl rfl rfl
theorem w21_140 : W (pj lw) 21 140 L S k n H Q ↔ W (pj lw) 21 142 L (.int 24 :: S) k n H Q := W_s (rfl : (pj lw).1 21 140 = some (.bipush 24, 2, 0)) rfl rfl rfl
theorem w21_142 {x y : Int32} : W (pj lw) 21 142 L (.int y :: .int x :: S) k n H Q ↔ W (pj lw) 21 143 L (.int (x * y) :: S) k n H Q := W_s (rfl : (pj lw).1 21 142 = some (.imul, 1, 0)) rfl rfl rfl
theorem w21_143 {x : Int32} {l0 l1 l2 l3 l4 l5 l6 : Slot} : W (pj lw) 21 143 (l0 :: l1 :: l2 :: l3 :: l4 :: l5 :: l6 :: .val (.int x) :: L) S k n H Q ↔ W (pj lw) 21 145 (l0 :: l1 :: l2 :: l3 :: l4 :: l5 :: l6 :: .val (.int x) :: L) (.int x :: S) k n H Q := W_s (rfl : (pj lw).1 21 143 = some (.iload 7, 2, 0)) rfl rfl rfl
theorem w21_145 {x y : Int32} : W (pj lw) 21 145 L (.int y :: .int x :: S) k n H Q ↔ W (pj lw) 21 146 L (.int (x + y) :: S) k n H Q := W_s (rfl : (pj lw).1 21 145 = some (.iadd, 1, 0)) rfl rfl rfl
theorem w21_146 {i : Int32} {a : Nat} : W (pj lw) 21 146 L (.int i :: .ref a :: S) k n H Q ↔ ((inA H a .byte i = true ∨ inA H a .boolean i = true) ∧ W (pj lw) 21 147 L (elt H a i :: S) k n H Q) := W_baload (rfl : (pj lw).1 21 146 = some (.baload, 1, 0))
theorem w21_147 {x : Int32} : W (pj lw) 21 147 L (.int x :: S) k n H Q ↔ (if x = 0 then W (pj lw) 21 166 L S k n H Q else W (pj lw) 21 150 L S k n H Q) := W_if_eq (rfl : (pj lw).1 21 147 = some (.ifCond .eq 19, 3, 0)) rfl
theorem w21_150 {x : Nat} : W (pj lw) 21 150 (.val (.ref x) :: L) S k n H Q ↔ W (pj lw) 21 151 (.val (.ref x) :: L) (.ref x :: S) k n H Q := W_s (rfl : (pj lw).1 21 150 = some (.aload_n 0, 1, 0)) rfl rfl rfl
theorem w21_151 {a : Nat} : W (pj lw) 21 151 L (.ref a :: S) k n H Q ↔ (isO H a = true ∧ W (pj lw) 21 154 L (fld H a 14 :: S) k n H Q) := W_getf (rfl : (pj lw).1 21 151 = some (.getfield 36, 3, 14))
theorem w21_154 {x : Int32} {l0 l1 l2 l3 l4 l5 l6 : Slot} : W (pj lw) 21 154 (l0 :: l1 :: l2 :: l3 :: l4 :: l5 :: l6 :: .val (.int x) :: L) S k n H Q ↔ W (pj lw) 21 156 (l0 :: l1 :: l2 :: l3 :: l4 :: l5 :: l6 :: .val (.int x) :: L) (.int x :: S) k n H Q := W_s (rfl : (pj lw).1 21 154 = some (.iload 7, 2, 0)) rfl rfl rfl
theorem w21_156 {i : Int32} {a : Nat} : W (pj lw) 21 156 L (.int i :: .ref a :: S) k n H Q ↔ (inA H a .int i = true ∧ W (pj lw) 21 157 L (elt H a i :: S) k n H Q) := W_iaload (rfl : (pj lw).1 21 156 = some (.iaload, 1, 0))
theorem w21_157 {x : Int32} {l0 l1 l2 l3 l4 : Slot} : W (pj lw) 21 157 (l0 :: l1 :: l2 :: l3 :: l4 :: .val (.int x) :: L) S k n H Q ↔ W (pj lw) 21 159 (l0 :: l1 :: l2 :: l3 :: l4 :: .val (.int x) :: L) (.int x :: S) k n H Q := W_s (rfl : (pj lw).1 21 157 = some (.iload 5, 2, 0)) rfl rfl rfl
theorem w21_159 {x y : Int32} : W (pj lw) 21 159 L (.int y :: .int x :: S) k n H Q ↔ (if x = y then W (pj lw) 21 162 L S k n H Q else W (pj lw) 21 166 L S k n H Q) := W_icmp_ne (rfl : (pj lw).1 21 159 = some (.if_icmp .ne 7, 3, 0)) rfl
theorem w21_162 {x : Int32} {l0 l1 l2 l3 l4 l5 l6 : Slot} : W (pj lw) 21 162 (l0 :: l1 :: l2 :: l3 :: l4 :: l5 :: l6 :: .val (.int x) :: L) S k n H Q ↔ W (pj lw) 21 164 (l0 :: l1 :: l2 :: l3 :: l4 :: l5 :: l6 :: .val (.int x) :: L) (.int x :: S) k n H Q := W_s (rfl : (pj lw).1 21 162 = some (.iload 7, 2, 0)) rfl rfl rfl
theorem w21_164i {y : Int32} {x : Int32} {l0 l1 l2 l3 l4 l5 : Slot} : W (pj lw) 21 164 (l0 :: l1 :: l2 :: l3 :: l4 :: l5 :: .val (.int y) :: L) (.int x :: S) k n H Q ↔ W (pj lw) 21 166 (l0 :: l1 :: l2 :: l3 :: l4 :: l5 :: .val (.int x) :: L) S k n H Q := W_ist (rfl : (pj lw).1 21 164 = some (.istore 6, 2, 0)) rfl rfl
theorem w21_166 {x : Int32} {l0 l1 l2 l3 l4 l5 l6 : Slot} : W (pj lw) 21 166 (l0 :: l1 :: l2 :: l3 :: l4 :: l5 :: l6 :: .val (.int x) :: L) S k n H Q ↔ W (pj lw) 21 169 (l0 :: l1 :: l2 :: l3 :: l4 :: l5 :: l6 :: .val (.int (x + (-1))) :: L) S k n H Q := W_s (rfl : (pj lw).1 21 166 = some (.iinc 7 (-1), 3, 0)) rfl rfl rfl
theorem w21_169 : W (pj lw) 21 169 L S k n H Q ↔ W (pj lw) 21 130 L S k n H Q := W_goto (rfl : (pj lw).1 21 169 = some (.goto (-39), 3, 0)) rfl
theorem w21_172 {x : Nat} : W (pj lw) 21 172 (.val (.ref x) :: L) S k n H Q ↔ W (pj lw) 21 173 (.val (.ref x) :: L) (.ref x :: S) k n H Q := W_s (rfl : (pj lw).1 21 172 = some (.aload_n 0, 1, 0)) rfl rfl rfl
theorem w21_173 {a : Nat} : W (pj lw) 21 173 L (.ref a :: S) k n H Q ↔ (isO H a = true ∧ W (pj lw) 21 176 L (fld H a 8 :: S) k n H Q) := W_getf (rfl : (pj lw).1 21 173 = some (.getfield 17, 3, 8))
theorem w21_176 {x : Int32} {l0 l1 l2 l3 : Slot} : W (pj lw) 21 176 (l0 :: l1 :: l2 :: l3 :: .val (.int x) :: L) S k n H Q ↔ W (pj lw) 21 178 (l0 :: l1 :: l2 :: l3 :: .val (.int x) :: L) (.int x :: S) k n H Q := W_s (rfl : (pj lw).1 21 176 = some (.iload 4, 2, 0)) rfl rfl rfl
theorem w21_178 {x : Int32} {l0 l1 l2 l3 l4 l5 : Slot} : W (pj lw) 21 178 (l0 :: l1 :: l2 :: l3 :: l4 :: l5 :: .val (.int x) :: L) S k n H Q ↔ W (pj lw) 21 180 (l0 :: l1 :: l2 :: l3 :: l4 :: l5 :: .val (.int x) :: L) (.int x :: S) k n H Q := W_s (rfl : (pj lw).1 21 178 = some (.iload 6, 2, 0)) rfl rfl rfl
theorem w21_180 {x i : Int32} {a : Nat} : W (pj lw) 21 180 L (.int x :: .int i :: .ref a :: S) k n H Q ↔ (inAw H a .int i = true ∧ W (pj lw) 21 181 L S k n (wr H a i.toNatClampNeg (.int x)) Q) := W_iastore (rfl : (pj lw).1 21 180 = some (.iastore, 1, 0))
theorem w21_181 {x : Int32} {l0 l1 l2 l3 l4 l5 : Slot} : W (pj lw) 21 181 (l0 :: l1 :: l2 :: l3 :: l4 :: l5 :: .val (.int x) :: L) S k n H Q ↔ W (pj lw) 21 183 (l0 :: l1 :: l2 :: l3 :: l4 :: l5 :: .val (.int x) :: L) (.int x :: S) k n H Q := W_s (rfl : (pj lw).1 21 181 = some (.iload 6, 2, 0)) rfl rfl rfl
theorem w21_183i {y : Int32} {x : Int32} {l0 l1 l2 : Slot} : W (pj lw) 21 183 (l0 :: l1 :: l2 :: .val (.int y) :: L) (.int x :: S) k n H Q ↔ W (pj lw) 21 184 (l0 :: l1 :: l2 :: .val (.int x) :: L) S k n H Q := W_istn (rfl : (pj lw).1 21 183 = some (.istore_n 3, 1, 0)) rfl rfl
theorem w21_184 {x : Int32} {l0 l1 l2 l3 : Slot} : W (pj lw) 21 184 (l0 :: l1 :: l2 :: l3 :: .val (.int x) :: L) S k n H Q ↔ W (pj lw) 21 187 (l0 :: l1 :: l2 :: l3 :: .val (.int (x + 1)) :: L) S k n H Q := W_s (rfl : (pj lw).1 21 184 = some (.iinc 4 1, 3, 0)) rfl rfl rfl
theorem w21_187 : W (pj lw) 21 187 L S k n H Q ↔ W (pj lw) 21 101 L S k n H Q := W_goto (rfl : (pj lw).1 21 187 = some (.goto (-86), 3, 0)) rfl
theorem w21_190 : W (pj lw) 21 190 L S k n H Q ↔ W (pj lw) 21 191 L (.long 0 :: S) k n H Q := W_s (rfl : (pj lw).1 21 190 = some (.lconst 0, 1, 0)) rfl rfl rfl
theorem w21_191ii {y : Int32} {z : Int32} {x : Int64} {l0 l1 l2 l3 : Slot} : W (pj lw) 21 191 (l0 :: l1 :: l2 :: l3 :: .val (.int y) :: .val (.int z) :: L) (.long x :: S) k n H Q ↔ W (pj lw) 21 193 (l0 :: l1 :: l2 :: l3 :: .val (.long x) :: .second :: L) S k n H Q := W_lst (rfl : (pj lw).1 21 191 = some (.lstore 4, 2, 0)) rfl rfl rfl rfl
theorem w21_193 : W (pj lw) 21 193 L S k n H Q ↔ W (pj lw) 21 194 L (.int 0 :: S) k n H Q := W_s (rfl : (pj lw).1 21 193 = some (.iconst 0, 1, 0)) rfl rfl rfl
theorem w21_194i {y : Int32} {x : Int32} {l0 l1 l2 l3 l4 l5 : Slot} : W (pj lw) 21 194 (l0 :: l1 :: l2 :: l3 :: l4 :: l5 :: .val (.int y) :: L) (.int x :: S) k n H Q ↔ W (pj lw) 21 196 (l0 :: l1 :: l2 :: l3 :: l4 :: l5 :: .val (.int x) :: L) S k n H Q := W_ist (rfl : (pj lw).1 21 194 = some (.istore 6, 2, 0)) rfl rfl
theorem w21_196 {x : Int32} {l0 l1 l2 l3 l4 l5 : Slot} : W (pj lw) 21 196 (l0 :: l1 :: l2 :: l3 :: l4 :: l5 :: .val (.int x) :: L) S k n H Q ↔ W (pj lw) 21 198 (l0 :: l1 :: l2 :: l3 :: l4 :: l5 :: .val (.int x) :: L) (.int x :: S) k n H Q := W_s (rfl : (pj lw).1 21 196 = some (.iload 6, 2, 0)) rfl rfl rfl
theorem w21_198 {x : Nat} : W (pj lw) 21 198 (.val (.ref x) :: L) S k n H Q ↔ W (pj lw) 21 199 (.val (.ref x) :: L) (.ref x :: S) k n H Q := W_s (rfl : (pj lw).1 21 198 = some (.aload_n 0, 1, 0)) rfl rfl rfl
theorem w21_199 {a : Nat} : W (pj lw) 21 199 L (.ref a :: S) k n H Q ↔ (isO H a = true ∧ W (pj lw) 21 202 L (fld H a 6 :: S) k n H Q) := W_getf (rfl : (pj lw).1 21 199 = some (.getfield 106, 3, 6))
theorem w21_202 {x y : Int32} : W (pj lw) 21 202 L (.int y :: .int x :: S) k n H Q ↔ (if x < y then W (pj lw) 21 205 L S k n H Q else W (pj lw) 21 255 L S k n H Q) := W_icmp_ge (rfl : (pj lw).1 21 202 = some (.if_icmp .ge 53, 3, 0)) rfl
theorem w21_205 {x : Nat} : W (pj lw) 21 205 (.val (.ref x) :: L) S k n H Q ↔ W (pj lw) 21 206 (.val (.ref x) :: L) (.ref x :: S) k n H Q := W_s (rfl : (pj lw).1 21 205 = some (.aload_n 0, 1, 0)) rfl rfl rfl
theorem w21_206 {a : Nat} : W (pj lw) 21 206 L (.ref a :: S) k n H Q ↔ (isO H a = true ∧ W (pj lw) 21 209 L (fld H a 8 :: S) k n H Q) := W_getf (rfl : (pj lw).1 21 206 = some (.getfield 17, 3, 8))
theorem w21_209 {x : Int32} {l0 l1 l2 l3 l4 l5 : Slot} : W (pj lw) 21 209 (l0 :: l1 :: l2 :: l3 :: l4 :: l5 :: .val (.int x) :: L) S k n H Q ↔ W (pj lw) 21 211 (l0 :: l1 :: l2 :: l3 :: l4 :: l5 :: .val (.int x) :: L) (.int x :: S) k n H Q := W_s (rfl : (pj lw).1 21 209 = some (.iload 6, 2, 0)) rfl rfl rfl
theorem w21_211 {i : Int32} {a : Nat} : W (pj lw) 21 211 L (.int i :: .ref a :: S) k n H Q ↔ (inA H a .int i = true ∧ W (pj lw) 21 212 L (elt H a i :: S) k n H Q) := W_iaload (rfl : (pj lw).1 21 211 = some (.iaload, 1, 0))
theorem w21_212i {y : Int32} {x : Int32} {l0 l1 l2 l3 l4 l5 l6 : Slot} : W (pj lw) 21 212 (l0 :: l1 :: l2 :: l3 :: l4 :: l5 :: l6 :: .val (.int y) :: L) (.int x :: S) k n H Q ↔ W (pj lw) 21 214 (l0 :: l1 :: l2 :: l3 :: l4 :: l5 :: l6 :: .val (.int x) :: L) S k n H Q := W_ist (rfl : (pj lw).1 21 212 = some (.istore 7, 2, 0)) rfl rfl
theorem w21_214 {x : Nat} : W (pj lw) 21 214 (.val (.ref x) :: L) S k n H Q ↔ W (pj lw) 21 215 (.val (.ref x) :: L) (.ref x :: S) k n H Q := W_s (rfl : (pj lw).1 21 214 = some (.aload_n 0, 1, 0)) rfl rfl rfl
theorem w21_215 {a : Nat} : W (pj lw) 21 215 L (.ref a :: S) k n H Q ↔ (isO H a = true ∧ W (pj lw) 21 218 L (fld H a 8 :: S) k n H Q) := W_getf (rfl : (pj lw).1 21 215 = some (.getfield 17, 3, 8))
theorem w21_218 {x : Int32} {l0 l1 l2 l3 l4 l5 : Slot} : W (pj lw) 21 218 (l0 :: l1 :: l2 :: l3 :: l4 :: l5 :: .val (.int x) :: L) S k n H Q ↔ W (pj lw) 21 220 (l0 :: l1 :: l2 :: l3 :: l4 :: l5 :: .val (.int x) :: L) (.int x :: S) k n H Q := W_s (rfl : (pj lw).1 21 218 = some (.iload 6, 2, 0)) rfl rfl rfl
theorem w21_220 : W (pj lw) 21 220 L S k n H Q ↔ W (pj lw) 21 221 L (.int 1 :: S) k n H Q := W_s (rfl : (pj lw).1 21 220 = some (.iconst 1, 1, 0)) rfl rfl rfl
theorem w21_221 {x y : Int32} : W (pj lw) 21 221 L (.int y :: .int x :: S) k n H Q ↔ W (pj lw) 21 222 L (.int (x + y) :: S) k n H Q := W_s (rfl : (pj lw).1 21 221 = some (.iadd, 1, 0)) rfl rfl rfl
theorem w21_222 {x : Nat} : W (pj lw) 21 222 (.val (.ref x) :: L) S k n H Q ↔ W (pj lw) 21 223 (.val (.ref x) :: L) (.ref x :: S) k n H Q := W_s (rfl : (pj lw).1 21 222 = some (.aload_n 0, 1, 0)) rfl rfl rfl
theorem w21_223 {a : Nat} : W (pj lw) 21 223 L (.ref a :: S) k n H Q ↔ (isO H a = true ∧ W (pj lw) 21 226 L (fld H a 6 :: S) k n H Q) := W_getf (rfl : (pj lw).1 21 223 = some (.getfield 106, 3, 6))
theorem w21_226 {x y : Int32} : W (pj lw) 21 226 L (.int y :: .int x :: S) k n H Q ↔ (¬ y = 0 ∧ W (pj lw) 21 227 L (.int (x % y) :: S) k n H Q) := W_irem (rfl : (pj lw).1 21 226 = some (.irem, 1, 0))
theorem w21_227 {i : Int32} {a : Nat} : W (pj lw) 21 227 L (.int i :: .ref a :: S) k n H Q ↔ (inA H a .int i = true ∧ W (pj lw) 21 228 L (elt H a i :: S) k n H Q) := W_iaload (rfl : (pj lw).1 21 227 = some (.iaload, 1, 0))
theorem w21_228i {y : Int32} {x : Int32} {l0 l1 l2 l3 l4 l5 l6 l7 : Slot} : W (pj lw) 21 228 (l0 :: l1 :: l2 :: l3 :: l4 :: l5 :: l6 :: l7 :: .val (.int y) :: L) (.int x :: S) k n H Q ↔ W (pj lw) 21 230 (l0 :: l1 :: l2 :: l3 :: l4 :: l5 :: l6 :: l7 :: .val (.int x) :: L) S k n H Q := W_ist (rfl : (pj lw).1 21 228 = some (.istore 8, 2, 0)) rfl rfl
theorem w21_228 {x : Int32} {l0 l1 l2 l3 l4 l5 l6 l7 : Slot} : W (pj lw) 21 228 (l0 :: l1 :: l2 :: l3 :: l4 :: l5 :: l6 :: l7 :: .unset :: L) (.int x :: S) k n H Q ↔ W (pj lw) 21 230 (l0 :: l1 :: l2 :: l3 :: l4 :: l5 :: l6 :: l7 :: .val (.int x) :: L) S k n H Q := W_ist (rfl : (pj lw).1 21 228 = some (.istore 8, 2, 0)) rfl rfl
theorem w21_230 {x : Int64} {l0 l1 l2 l3 : Slot} : W (pj lw) 21 230 (l0 :: l1 :: l2 :: l3 :: .val (.long x) :: L) S k n H Q ↔ W (pj lw) 21 232 (l0 :: l1 :: l2 :: l3 :: .val (.long x) :: L) (.long x :: S) k n H Q := W_s (rfl : (pj lw).1 21 230 = some (.lload 4, 2, 0)) rfl rfl rfl
theorem w21_232 {x : Nat} : W (pj lw) 21 232 (.val (.ref x) :: L) S k n H Q ↔ W (pj lw) 21 233 (.val (.ref x) :: L) (.ref x :: S) k n H Q := W_s (rfl : (pj lw).1 21 232 = some (.aload_n 0, 1, 0)) rfl rfl rfl
theorem w21_233 {a : Nat} : W (pj lw) 21 233 L (.ref a :: S) k n H Q ↔ (isO H a = true ∧ W (pj lw) 21 236 L (fld H a 3 :: S) k n H Q) := W_getf (rfl : (pj lw).1 21 233 = some (.getfield 13, 3, 3))
theorem w21_236 {x : Int32} {l0 l1 l2 l3 l4 l5 l6 : Slot} : W (pj lw) 21 236 (l0 :: l1 :: l2 :: l3 :: l4 :: l5 :: l6 :: .val (.int x) :: L) S k n H Q ↔ W (pj lw) 21 238 (l0 :: l1 :: l2 :: l3 :: l4 :: l5 :: l6 :: .val (.int x) :: L) (.int x :: S) k n H Q := W_s (rfl : (pj lw).1 21 236 = some (.iload 7, 2, 0)) rfl rfl rfl
theorem w21_238 : W (pj lw) 21 238 L S k n H Q ↔ W (pj lw) 21 240 L (.int 24 :: S) k n H Q := W_s (rfl : (pj lw).1 21 238 = some (.bipush 24, 2, 0)) rfl rfl rfl
theorem w21_240 {x y : Int32} : W (pj lw) 21 240 L (.int y :: .int x :: S) k n H Q ↔ W (pj lw) 21 241 L (.int (x * y) :: S) k n H Q := W_s (rfl : (pj lw).1 21 240 = some (.imul, 1, 0)) rfl rfl rfl
theorem w21_241 {x : Int32} {l0 l1 l2 l3 l4 l5 l6 l7 : Slot} : W (pj lw) 21 241 (l0 :: l1 :: l2 :: l3 :: l4 :: l5 :: l6 :: l7 :: .val (.int x) :: L) S k n H Q ↔ W (pj lw) 21 243 (l0 :: l1 :: l2 :: l3 :: l4 :: l5 :: l6 :: l7 :: .val (.int x) :: L) (.int x :: S) k n H Q := W_s (rfl : (pj lw).1 21 241 = some (.iload 8, 2, 0)) rfl rfl rfl
theorem w21_243 {x y : Int32} : W (pj lw) 21 243 L (.int y :: .int x :: S) k n H Q ↔ W (pj lw) 21 244 L (.int (x + y) :: S) k n H Q := W_s (rfl : (pj lw).1 21 243 = some (.iadd, 1, 0)) rfl rfl rfl
theorem w21_244 {i : Int32} {a : Nat} : W (pj lw) 21 244 L (.int i :: .ref a :: S) k n H Q ↔ (inA H a .int i = true ∧ W (pj lw) 21 245 L (elt H a i :: S) k n H Q) := W_iaload (rfl : (pj lw).1 21 244 = some (.iaload, 1, 0))
theorem w21_245 {x : Int32} : W (pj lw) 21 245 L (.int x :: S) k n H Q ↔ W (pj lw) 21 246 L (.long x.toInt64 :: S) k n H Q := W_s (rfl : (pj lw).1 21 245 = some (.i2l, 1, 0)) rfl rfl rfl
theorem w21_246 {x y : Int64} : W (pj lw) 21 246 L (.long y :: .long x :: S) k n H Q ↔ W (pj lw) 21 247 L (.long (x + y) :: S) k n H Q := W_s (rfl : (pj lw).1 21 246 = some (.ladd, 1, 0)) rfl rfl rfl
theorem w21_247j {x y : Int64} {l0 l1 l2 l3 : Slot} : W (pj lw) 21 247 (l0 :: l1 :: l2 :: l3 :: .val (.long y) :: .second :: L) (.long x :: S) k n H Q ↔ W (pj lw) 21 249 (l0 :: l1 :: l2 :: l3 :: .val (.long x) :: .second :: L) S k n H Q := W_lst' (rfl : (pj lw).1 21 247 = some (.lstore 4, 2, 0)) rfl rfl
theorem w21_249 {x : Int32} {l0 l1 l2 l3 l4 l5 : Slot} : W (pj lw) 21 249 (l0 :: l1 :: l2 :: l3 :: l4 :: l5 :: .val (.int x) :: L) S k n H Q ↔ W (pj lw) 21 252 (l0 :: l1 :: l2 :: l3 :: l4 :: l5 :: .val (.int (x + 1)) :: L) S k n H Q := W_s (rfl : (pj lw).1 21 249 = some (.iinc 6 1, 3, 0)) rfl rfl rfl
theorem w21_252 : W (pj lw) 21 252 L S k n H Q ↔ W (pj lw) 21 196 L S k n H Q := W_goto (rfl : (pj lw).1 21 252 = some (.goto (-56), 3, 0)) rfl
theorem w21_255 {x : Nat} : W (pj lw) 21 255 (.val (.ref x) :: L) S k n H Q ↔ W (pj lw) 21 256 (.val (.ref x) :: L) (.ref x :: S) k n H Q := W_s (rfl : (pj lw).1 21 255 = some (.aload_n 0, 1, 0)) rfl rfl rfl
theorem w21_256 {x : Int64} {l0 l1 l2 l3 : Slot} : W (pj lw) 21 256 (l0 :: l1 :: l2 :: l3 :: .val (.long x) :: L) S k n H Q ↔ W (pj lw) 21 258 (l0 :: l1 :: l2 :: l3 :: .val (.long x) :: L) (.long x :: S) k n H Q := W_s (rfl : (pj lw).1 21 256 = some (.lload 4, 2, 0)) rfl rfl rfl
theorem w21_258 {a : Nat} {v : Value} : W (pj lw) 21 258 L (v :: .ref a :: S) k n H Q ↔ ((isOw H a = true ∧ okv (.long) v = true) ∧ W (pj lw) 21 261 L S k n (wr H a 7 v) Q) := W_putf (rfl : (pj lw).1 21 258 = some (.putfield 109, 3, 7))
theorem w21_261 : W (pj lw) 21 261 L [] k n H Q ↔ Q none H := W_r (rfl : (pj lw).1 21 261 = some (.return_, 1, 0)) rfl
theorem c23 {x0 : Nat} : Cl (pj lw) 23 [.ref x0] H Q ↔ W (pj lw) 23 0 [.val (.ref x0)] [] 0 0 H Q := cl_unf rfl
theorem w23_0 {x : Nat} : W (pj lw) 23 0 (.val (.ref x) :: L) S k n H Q ↔ W (pj lw) 23 1 (.val (.ref x) :: L) (.ref x :: S) k n H Q := W_s (rfl : (pj lw).1 23 0 = some (.aload_n 0, 1, 0)) rfl rfl rfl
theorem w23_1 {a : Nat} : W (pj lw) 23 1 L (.ref a :: S) k n H Q ↔ (isO H a = true ∧ W (pj lw) 23 4 L (fld H a 4 :: S) k n H Q) := W_getf (rfl : (pj lw).1 23 1 = some (.getfield 52, 3, 4))
theorem w23_4 {x : Int32} : W (pj lw) 23 4 L (.int x :: S) k n H Q ↔ (if x = 0 then W (pj lw) 23 18 L S k n H Q else W (pj lw) 23 7 L S k n H Q) := W_if_eq (rfl : (pj lw).1 23 4 = some (.ifCond .eq 14, 3, 0)) rfl
theorem w23_7 {x : Nat} : W (pj lw) 23 7 (.val (.ref x) :: L) S k n H Q ↔ W (pj lw) 23 8 (.val (.ref x) :: L) (.ref x :: S) k n H Q := W_s (rfl : (pj lw).1 23 7 = some (.aload_n 0, 1, 0)) rfl rfl rfl
theorem w23_8 {a : Nat} : W (pj lw) 23 8 L (.ref a :: S) k n H Q ↔ (isO H a = true ∧ W (pj lw) 23 11 L (fld H a 5 :: S) k n H Q) := W_getf (rfl : (pj lw).1 23 8 = some (.getfield 56, 3, 5))
theorem w23_11 {x : Int32} : W (pj lw) 23 11 L (.int x :: S) k n H Q ↔ (if x = 0 then W (pj lw) 23 18 L S k n H Q else W (pj lw) 23 14 L S k n H Q) := W_if_eq (rfl : (pj lw).1 23 11 = some (.ifCond .eq 7, 3, 0)) rfl
theorem w23_14 : W (pj lw) 23 14 L S k n H Q ↔ W (pj lw) 23 15 L (.int 1 :: S) k n H Q := W_s (rfl : (pj lw).1 23 14 = some (.iconst 1, 1, 0)) rfl rfl rfl
theorem w23_15 : W (pj lw) 23 15 L S k n H Q ↔ W (pj lw) 23 19 L S k n H Q := W_goto (rfl : (pj lw).1 23 15 = some (.goto 4, 3, 0)) rfl
theorem w23_19 {x : Int32} : W (pj lw) 23 19 L (.int x :: S) k n H Q ↔ ((x = 0 ∨ x = 1) ∧ Q (some (.int x)) H) := W_rz (rfl : (pj lw).1 23 19 = some (.ireturn, 1, 0)) rfl
theorem c24 {x0 : Nat} : Cl (pj lw) 24 [.ref x0] H Q ↔ W (pj lw) 24 0 [.val (.ref x0)] [] 0 0 H Q := cl_unf rfl
theorem w24_0 {x : Nat} : W (pj lw) 24 0 (.val (.ref x) :: L) S k n H Q ↔ W (pj lw) 24 1 (.val (.ref x) :: L) (.ref x :: S) k n H Q := W_s (rfl : (pj lw).1 24 0 = some (.aload_n 0, 1, 0)) rfl rfl rfl
theorem w24_1 {a : Nat} : W (pj lw) 24 1 L (.ref a :: S) k n H Q ↔ ((isO H a = true ∧ cs S + (1 + 11) + 0 ≤ 12) ∧ Cl (pj lw) 23 [.ref a] H (fun v H => W (pj lw) 24 4 L (v.toList ++ S) k n H Q)) := W_inst (as := []) (rfl : (pj lw).1 24 1 = some (.invokevirtual 125, 3, 23)) rfl rfl rfl (Nat.le_of_ble_eq_true rfl) (Nat.le_of_ble_eq_true rfl) ⟨rfl, rfl⟩
theorem w24_4 {x : Int32} : W (pj lw) 24 4 L (.int x :: S) k n H Q ↔ (if x = 0 then W (pj lw) 24 14 L S k n H Q else W (pj lw) 24 7 L S k n H Q) := W_if_eq (rfl : (pj lw).1 24 4 = some (.ifCond .eq 10, 3, 0)) rfl
theorem w24_7 {x : Nat} : W (pj lw) 24 7 (.val (.ref x) :: L) S k n H Q ↔ W (pj lw) 24 8 (.val (.ref x) :: L) (.ref x :: S) k n H Q := W_s (rfl : (pj lw).1 24 7 = some (.aload_n 0, 1, 0)) rfl rfl rfl
theorem w24_8 {a : Nat} : W (pj lw) 24 8 L (.ref a :: S) k n H Q ↔ (isO H a = true ∧ W (pj lw) 24 11 L (fld H a 6 :: S) k n H Q) := W_getf (rfl : (pj lw).1 24 8 = some (.getfield 106, 3, 6))
theorem w24_11 : W (pj lw) 24 11 L S k n H Q ↔ W (pj lw) 24 15 L S k n H Q := W_goto (rfl : (pj lw).1 24 11 = some (.goto 4, 3, 0)) rfl
theorem w24_15 {x : Int32} : W (pj lw) 24 15 L (.int x :: S) k n H Q ↔ Q (some (.int x)) H := W_r (rfl : (pj lw).1 24 15 = some (.ireturn, 1, 0)) rfl
theorem c25 {x0 : Nat} : Cl (pj lw) 25 [.ref x0] H Q ↔ W (pj lw) 25 0 [.val (.ref x0)] [] 0 0 H Q := cl_unf rfl
theorem w25_0 {x : Nat} : W (pj lw) 25 0 (.val (.ref x) :: L) S k n H Q ↔ W (pj lw) 25 1 (.val (.ref x) :: L) (.ref x :: S) k n H Q := W_s (rfl : (pj lw).1 25 0 = some (.aload_n 0, 1, 0)) rfl rfl rfl
theorem w25_1 {a : Nat} : W (pj lw) 25 1 L (.ref a :: S) k n H Q ↔ ((isO H a = true ∧ cs S + (1 + 11) + 0 ≤ 12) ∧ Cl (pj lw) 23 [.ref a] H (fun v H => W (pj lw) 25 4 L (v.toList ++ S) k n H Q)) := W_inst (as := []) (rfl : (pj lw).1 25 1 = some (.invokevirtual 125, 3, 23)) rfl rfl rfl (Nat.le_of_ble_eq_true rfl) (Nat.le_of_ble_eq_true rfl) ⟨rfl, rfl⟩
theorem w25_4 {x : Int32} : W (pj lw) 25 4 L (.int x :: S) k n H Q ↔ (if x = 0 then W (pj lw) 25 14 L S k n H Q else W (pj lw) 25 7 L S k n H Q) := W_if_eq (rfl : (pj lw).1 25 4 = some (.ifCond .eq 10, 3, 0)) rfl
theorem w25_7 {x : Nat} : W (pj lw) 25 7 (.val (.ref x) :: L) S k n H Q ↔ W (pj lw) 25 8 (.val (.ref x) :: L) (.ref x :: S) k n H Q := W_s (rfl : (pj lw).1 25 7 = some (.aload_n 0, 1, 0)) rfl rfl rfl
theorem w25_8 {a : Nat} : W (pj lw) 25 8 L (.ref a :: S) k n H Q ↔ (isO H a = true ∧ W (pj lw) 25 11 L (fld H a 7 :: S) k n H Q) := W_getf (rfl : (pj lw).1 25 8 = some (.getfield 109, 3, 7))
theorem w25_11 : W (pj lw) 25 11 L S k n H Q ↔ W (pj lw) 25 15 L S k n H Q := W_goto (rfl : (pj lw).1 25 11 = some (.goto 4, 3, 0)) rfl
theorem w25_15 {x : Int64} : W (pj lw) 25 15 L (.long x :: S) k n H Q ↔ Q (some (.long x)) H := W_r (rfl : (pj lw).1 25 15 = some (.lreturn, 1, 0)) rfl
theorem c26 {x0 : Nat} {x1 : Int32} : Cl (pj lw) 26 [.ref x0, .int x1] H Q ↔ W (pj lw) 26 0 [.val (.ref x0), .val (.int x1)] [] 0 0 H Q := cl_unf rfl
theorem w26_0 {x : Nat} : W (pj lw) 26 0 (.val (.ref x) :: L) S k n H Q ↔ W (pj lw) 26 1 (.val (.ref x) :: L) (.ref x :: S) k n H Q := W_s (rfl : (pj lw).1 26 0 = some (.aload_n 0, 1, 0)) rfl rfl rfl
theorem w26_1 {a : Nat} : W (pj lw) 26 1 L (.ref a :: S) k n H Q ↔ ((isO H a = true ∧ cs S + (1 + 11) + 0 ≤ 12) ∧ Cl (pj lw) 23 [.ref a] H (fun v H => W (pj lw) 26 4 L (v.toList ++ S) k n H Q)) := W_inst (as := []) (rfl : (pj lw).1 26 1 = some (.invokevirtual 125, 3, 23)) rfl rfl rfl (Nat.le_of_ble_eq_true rfl) (Nat.le_of_ble_eq_true rfl) ⟨rfl, rfl⟩
theorem w26_4 {x : Int32} : W (pj lw) 26 4 L (.int x :: S) k n H Q ↔ (if x = 0 then W (pj lw) 26 19 L S k n H Q else W (pj lw) 26 7 L S k n H Q) := W_if_eq (rfl : (pj lw).1 26 4 = some (.ifCond .eq 15, 3, 0)) rfl
theorem w26_7 {x : Int32} {l0 : Slot} : W (pj lw) 26 7 (l0 :: .val (.int x) :: L) S k n H Q ↔ W (pj lw) 26 8 (l0 :: .val (.int x) :: L) (.int x :: S) k n H Q := W_s (rfl : (pj lw).1 26 7 = some (.iload_n 1, 1, 0)) rfl rfl rfl
theorem w26_8 {x : Int32} : W (pj lw) 26 8 L (.int x :: S) k n H Q ↔ (if x < 0 then W (pj lw) 26 19 L S k n H Q else W (pj lw) 26 11 L S k n H Q) := W_if_lt (rfl : (pj lw).1 26 8 = some (.ifCond .lt 11, 3, 0)) rfl
theorem w26_11 {x : Int32} {l0 : Slot} : W (pj lw) 26 11 (l0 :: .val (.int x) :: L) S k n H Q ↔ W (pj lw) 26 12 (l0 :: .val (.int x) :: L) (.int x :: S) k n H Q := W_s (rfl : (pj lw).1 26 11 = some (.iload_n 1, 1, 0)) rfl rfl rfl
theorem w26_12 {x : Nat} : W (pj lw) 26 12 (.val (.ref x) :: L) S k n H Q ↔ W (pj lw) 26 13 (.val (.ref x) :: L) (.ref x :: S) k n H Q := W_s (rfl : (pj lw).1 26 12 = some (.aload_n 0, 1, 0)) rfl rfl rfl
theorem w26_13 {a : Nat} : W (pj lw) 26 13 L (.ref a :: S) k n H Q ↔ (isO H a = true ∧ W (pj lw) 26 16 L (fld H a 6 :: S) k n H Q) := W_getf (rfl : (pj lw).1 26 13 = some (.getfield 106, 3, 6))
theorem w26_16 {x y : Int32} : W (pj lw) 26 16 L (.int y :: .int x :: S) k n H Q ↔ (if x < y then W (pj lw) 26 21 L S k n H Q else W (pj lw) 26 19 L S k n H Q) := W_icmp_lt (rfl : (pj lw).1 26 16 = some (.if_icmp .lt 5, 3, 0)) rfl
theorem w26_19 : W (pj lw) 26 19 L S k n H Q ↔ W (pj lw) 26 20 L (.int (-1) :: S) k n H Q := W_s (rfl : (pj lw).1 26 19 = some (.iconst (-1), 1, 0)) rfl rfl rfl
theorem w26_20 {x : Int32} : W (pj lw) 26 20 L (.int x :: S) k n H Q ↔ Q (some (.int x)) H := W_r (rfl : (pj lw).1 26 20 = some (.ireturn, 1, 0)) rfl
theorem w26_21 {x : Nat} : W (pj lw) 26 21 (.val (.ref x) :: L) S k n H Q ↔ W (pj lw) 26 22 (.val (.ref x) :: L) (.ref x :: S) k n H Q := W_s (rfl : (pj lw).1 26 21 = some (.aload_n 0, 1, 0)) rfl rfl rfl
theorem w26_22 {a : Nat} : W (pj lw) 26 22 L (.ref a :: S) k n H Q ↔ (isO H a = true ∧ W (pj lw) 26 25 L (fld H a 8 :: S) k n H Q) := W_getf (rfl : (pj lw).1 26 22 = some (.getfield 17, 3, 8))
theorem w26_25 {x : Int32} {l0 : Slot} : W (pj lw) 26 25 (l0 :: .val (.int x) :: L) S k n H Q ↔ W (pj lw) 26 26 (l0 :: .val (.int x) :: L) (.int x :: S) k n H Q := W_s (rfl : (pj lw).1 26 25 = some (.iload_n 1, 1, 0)) rfl rfl rfl
theorem w26_26 {i : Int32} {a : Nat} : W (pj lw) 26 26 L (.int i :: .ref a :: S) k n H Q ↔ (inA H a .int i = true ∧ W (pj lw) 26 27 L (elt H a i :: S) k n H Q) := W_iaload (rfl : (pj lw).1 26 26 = some (.iaload, 1, 0))
theorem w26_27 {x : Int32} : W (pj lw) 26 27 L (.int x :: S) k n H Q ↔ Q (some (.int x)) H := W_r (rfl : (pj lw).1 26 27 = some (.ireturn, 1, 0)) rfl
theorem c27 {x0 : Nat} {x1 : Int32} : Cl (pj lw) 27 [.ref x0, .int x1] H Q ↔ W (pj lw) 27 0 [.val (.ref x0), .val (.int x1)] [] 0 0 H Q := cl_unf rfl
theorem w27_0 {x : Nat} : W (pj lw) 27 0 (.val (.ref x) :: L) S k n H Q ↔ W (pj lw) 27 1 (.val (.ref x) :: L) (.ref x :: S) k n H Q := W_s (rfl : (pj lw).1 27 0 = some (.aload_n 0, 1, 0)) rfl rfl rfl
theorem w27_1 {a : Nat} : W (pj lw) 27 1 L (.ref a :: S) k n H Q ↔ ((isO H a = true ∧ cs S + (1 + 11) + 0 ≤ 13) ∧ Cl (pj lw) 23 [.ref a] H (fun v H => W (pj lw) 27 4 L (v.toList ++ S) k n H Q)) := W_inst (as := []) (rfl : (pj lw).1 27 1 = some (.invokevirtual 125, 3, 23)) rfl rfl rfl (Nat.le_of_ble_eq_true rfl) (Nat.le_of_ble_eq_true rfl) ⟨rfl, rfl⟩
theorem w27_4 {x : Int32} : W (pj lw) 27 4 L (.int x :: S) k n H Q ↔ (if x = 0 then W (pj lw) 27 28 L S k n H Q else W (pj lw) 27 7 L S k n H Q) := W_if_eq (rfl : (pj lw).1 27 4 = some (.ifCond .eq 24, 3, 0)) rfl
theorem w27_7 {x : Nat} : W (pj lw) 27 7 (.val (.ref x) :: L) S k n H Q ↔ W (pj lw) 27 8 (.val (.ref x) :: L) (.ref x :: S) k n H Q := W_s (rfl : (pj lw).1 27 7 = some (.aload_n 0, 1, 0)) rfl rfl rfl
theorem w27_8 {x : Int32} {l0 : Slot} : W (pj lw) 27 8 (l0 :: .val (.int x) :: L) S k n H Q ↔ W (pj lw) 27 9 (l0 :: .val (.int x) :: L) (.int x :: S) k n H Q := W_s (rfl : (pj lw).1 27 8 = some (.iload_n 1, 1, 0)) rfl rfl rfl
theorem w27_9 {a : Nat} {x0 : Int32} : W (pj lw) 27 9 L (.int x0 :: .ref a :: S) k n H Q ↔ ((isO H a = true ∧ cs S + (2 + 11) + 0 ≤ 13) ∧ Cl (pj lw) 2 [.ref a, .int x0] H (fun v H => W (pj lw) 27 12 L (v.toList ++ S) k n H Q)) := W_inst (as := [.int x0]) (rfl : (pj lw).1 27 9 = some (.invokevirtual 59, 3, 2)) rfl rfl rfl (Nat.le_of_ble_eq_true rfl) (Nat.le_of_ble_eq_true rfl) ⟨rfl, rfl⟩
theorem w27_12 {x : Int32} : W (pj lw) 27 12 L (.int x :: S) k n H Q ↔ (if x = 0 then W (pj lw) 27 28 L S k n H Q else W (pj lw) 27 15 L S k n H Q) := W_if_eq (rfl : (pj lw).1 27 12 = some (.ifCond .eq 16, 3, 0)) rfl
theorem w27_15 {x : Nat} : W (pj lw) 27 15 (.val (.ref x) :: L) S k n H Q ↔ W (pj lw) 27 16 (.val (.ref x) :: L) (.ref x :: S) k n H Q := W_s (rfl : (pj lw).1 27 15 = some (.aload_n 0, 1, 0)) rfl rfl rfl
theorem w27_16 {a : Nat} : W (pj lw) 27 16 L (.ref a :: S) k n H Q ↔ (isO H a = true ∧ W (pj lw) 27 19 L (fld H a 9 :: S) k n H Q) := W_getf (rfl : (pj lw).1 27 16 = some (.getfield 20, 3, 9))
theorem w27_19 {x : Int32} {l0 : Slot} : W (pj lw) 27 19 (l0 :: .val (.int x) :: L) S k n H Q ↔ W (pj lw) 27 20 (l0 :: .val (.int x) :: L) (.int x :: S) k n H Q := W_s (rfl : (pj lw).1 27 19 = some (.iload_n 1, 1, 0)) rfl rfl rfl
theorem w27_20 {i : Int32} {a : Nat} : W (pj lw) 27 20 L (.int i :: .ref a :: S) k n H Q ↔ ((inA H a .byte i = true ∨ inA H a .boolean i = true) ∧ W (pj lw) 27 21 L (elt H a i :: S) k n H Q) := W_baload (rfl : (pj lw).1 27 20 = some (.baload, 1, 0))
theorem w27_21 {x : Int32} : W (pj lw) 27 21 L (.int x :: S) k n H Q ↔ (if x = 0 then W (pj lw) 27 28 L S k n H Q else W (pj lw) 27 24 L S k n H Q) := W_if_eq (rfl : (pj lw).1 27 21 = some (.ifCond .eq 7, 3, 0)) rfl
theorem w27_24 : W (pj lw) 27 24 L S k n H Q ↔ W (pj lw) 27 25 L (.int 1 :: S) k n H Q := W_s (rfl : (pj lw).1 27 24 = some (.iconst 1, 1, 0)) rfl rfl rfl
theorem w27_25 : W (pj lw) 27 25 L S k n H Q ↔ W (pj lw) 27 29 L S k n H Q := W_goto (rfl : (pj lw).1 27 25 = some (.goto 4, 3, 0)) rfl
theorem w27_28 : W (pj lw) 27 28 L S k n H Q ↔ W (pj lw) 27 29 L (.int 0 :: S) k n H Q := W_s (rfl : (pj lw).1 27 28 = some (.iconst 0, 1, 0)) rfl rfl rfl
theorem w27_29 {x : Int32} : W (pj lw) 27 29 L (.int x :: S) k n H Q ↔ ((x = 0 ∨ x = 1) ∧ Q (some (.int x)) H) := W_rz (rfl : (pj lw).1 27 29 = some (.ireturn, 1, 0)) rfl
theorem c28 {x0 : Nat} {x1 : Int32} : Cl (pj lw) 28 [.ref x0, .int x1] H Q ↔ W (pj lw) 28 0 [.val (.ref x0), .val (.int x1)] [] 0 0 H Q := cl_unf rfl
theorem w28_0 {x : Nat} : W (pj lw) 28 0 (.val (.ref x) :: L) S k n H Q ↔ W (pj lw) 28 1 (.val (.ref x) :: L) (.ref x :: S) k n H Q := W_s (rfl : (pj lw).1 28 0 = some (.aload_n 0, 1, 0)) rfl rfl rfl
theorem w28_1 {a : Nat} : W (pj lw) 28 1 L (.ref a :: S) k n H Q ↔ ((isO H a = true ∧ cs S + (1 + 11) + 0 ≤ 13) ∧ Cl (pj lw) 23 [.ref a] H (fun v H => W (pj lw) 28 4 L (v.toList ++ S) k n H Q)) := W_inst (as := []) (rfl : (pj lw).1 28 1 = some (.invokevirtual 125, 3, 23)) rfl rfl rfl (Nat.le_of_ble_eq_true rfl) (Nat.le_of_ble_eq_true rfl) ⟨rfl, rfl⟩
theorem w28_4 {x : Int32} : W (pj lw) 28 4 L (.int x :: S) k n H Q ↔ (if x = 0 then W (pj lw) 28 15 L S k n H Q else W (pj lw) 28 7 L S k n H Q) := W_if_eq (rfl : (pj lw).1 28 4 = some (.ifCond .eq 11, 3, 0)) rfl
theorem w28_7 {x : Nat} : W (pj lw) 28 7 (.val (.ref x) :: L) S k n H Q ↔ W (pj lw) 28 8 (.val (.ref x) :: L) (.ref x :: S) k n H Q := W_s (rfl : (pj lw).1 28 7 = some (.aload_n 0, 1, 0)) rfl rfl rfl
theorem w28_8 {x : Int32} {l0 : Slot} : W (pj lw) 28 8 (l0 :: .val (.int x) :: L) S k n H Q ↔ W (pj lw) 28 9 (l0 :: .val (.int x) :: L) (.int x :: S) k n H Q := W_s (rfl : (pj lw).1 28 8 = some (.iload_n 1, 1, 0)) rfl rfl rfl
theorem w28_9 {a : Nat} {x0 : Int32} : W (pj lw) 28 9 L (.int x0 :: .ref a :: S) k n H Q ↔ ((isO H a = true ∧ cs S + (2 + 11) + 0 ≤ 13) ∧ Cl (pj lw) 2 [.ref a, .int x0] H (fun v H => W (pj lw) 28 12 L (v.toList ++ S) k n H Q)) := W_inst (as := [.int x0]) (rfl : (pj lw).1 28 9 = some (.invokevirtual 59, 3, 2)) rfl rfl rfl (Nat.le_of_ble_eq_true rfl) (Nat.le_of_ble_eq_true rfl) ⟨rfl, rfl⟩
theorem w28_12 {x : Int32} : W (pj lw) 28 12 L (.int x :: S) k n H Q ↔ (if x = 0 then W (pj lw) 28 15 L S k n H Q else W (pj lw) 28 17 L S k n H Q) := W_if_ne (rfl : (pj lw).1 28 12 = some (.ifCond .ne 5, 3, 0)) rfl
theorem w28_17 {x : Nat} : W (pj lw) 28 17 (.val (.ref x) :: L) S k n H Q ↔ W (pj lw) 28 18 (.val (.ref x) :: L) (.ref x :: S) k n H Q := W_s (rfl : (pj lw).1 28 17 = some (.aload_n 0, 1, 0)) rfl rfl rfl
theorem w28_18 {a : Nat} : W (pj lw) 28 18 L (.ref a :: S) k n H Q ↔ (isO H a = true ∧ W (pj lw) 28 21 L (fld H a 10 :: S) k n H Q) := W_getf (rfl : (pj lw).1 28 18 = some (.getfield 23, 3, 10))
theorem w28_21 {x : Int32} {l0 : Slot} : W (pj lw) 28 21 (l0 :: .val (.int x) :: L) S k n H Q ↔ W (pj lw) 28 22 (l0 :: .val (.int x) :: L) (.int x :: S) k n H Q := W_s (rfl : (pj lw).1 28 21 = some (.iload_n 1, 1, 0)) rfl rfl rfl
theorem w28_22 {i : Int32} {a : Nat} : W (pj lw) 28 22 L (.int i :: .ref a :: S) k n H Q ↔ (inA H a .long i = true ∧ W (pj lw) 28 23 L (elt H a i :: S) k n H Q) := W_laload (rfl : (pj lw).1 28 22 = some (.laload, 1, 0))
theorem w28_23 {x : Int64} : W (pj lw) 28 23 L (.long x :: S) k n H Q ↔ Q (some (.long x)) H := W_r (rfl : (pj lw).1 28 23 = some (.lreturn, 1, 0)) rfl
theorem c29 {x0 : Nat} {x1 : Int32} {x2 : Int32} : Cl (pj lw) 29 [.ref x0, .int x1, .int x2] H Q ↔ W (pj lw) 29 0 [.val (.ref x0), .val (.int x1), .val (.int x2)] [] 0 0 H Q := cl_unf rfl
theorem w29_0 {x : Nat} : W (pj lw) 29 0 (.val (.ref x) :: L) S k n H Q ↔ W (pj lw) 29 1 (.val (.ref x) :: L) (.ref x :: S) k n H Q := W_s (rfl : (pj lw).1 29 0 = some (.aload_n 0, 1, 0)) rfl rfl rfl
theorem w29_1 {a : Nat} : W (pj lw) 29 1 L (.ref a :: S) k n H Q ↔ ((isO H a = true ∧ cs S + (1 + 11) + 0 ≤ 27) ∧ Cl (pj lw) 23 [.ref a] H (fun v H => W (pj lw) 29 4 L (v.toList ++ S) k n H Q)) := W_inst (as := []) (rfl : (pj lw).1 29 1 = some (.invokevirtual 125, 3, 23)) rfl rfl rfl (Nat.le_of_ble_eq_true rfl) (Nat.le_of_ble_eq_true rfl) ⟨rfl, rfl⟩
theorem w29_4 {x : Int32} : W (pj lw) 29 4 L (.int x :: S) k n H Q ↔ (if x = 0 then W (pj lw) 29 16 L S k n H Q else W (pj lw) 29 7 L S k n H Q) := W_if_eq (rfl : (pj lw).1 29 4 = some (.ifCond .eq 12, 3, 0)) rfl
theorem w29_7 {x : Nat} : W (pj lw) 29 7 (.val (.ref x) :: L) S k n H Q ↔ W (pj lw) 29 8 (.val (.ref x) :: L) (.ref x :: S) k n H Q := W_s (rfl : (pj lw).1 29 7 = some (.aload_n 0, 1, 0)) rfl rfl rfl
theorem w29_8 {x : Int32} {l0 : Slot} : W (pj lw) 29 8 (l0 :: .val (.int x) :: L) S k n H Q ↔ W (pj lw) 29 9 (l0 :: .val (.int x) :: L) (.int x :: S) k n H Q := W_s (rfl : (pj lw).1 29 8 = some (.iload_n 1, 1, 0)) rfl rfl rfl
theorem w29_9 {x : Int32} {l0 l1 : Slot} : W (pj lw) 29 9 (l0 :: l1 :: .val (.int x) :: L) S k n H Q ↔ W (pj lw) 29 10 (l0 :: l1 :: .val (.int x) :: L) (.int x :: S) k n H Q := W_s (rfl : (pj lw).1 29 9 = some (.iload_n 2, 1, 0)) rfl rfl rfl
theorem w29_10 {a : Nat} {x0 : Int32} {x1 : Int32} : W (pj lw) 29 10 L (.int x1 :: .int x0 :: .ref a :: S) k n H Q ↔ ((isO H a = true ∧ cs S + (3 + 11) + 13 ≤ 27) ∧ Cl (pj lw) 8 [.ref a, .int x0, .int x1] H (fun v H => W (pj lw) 29 13 L (v.toList ++ S) k n H Q)) := W_inst (as := [.int x0, .int x1]) (rfl : (pj lw).1 29 10 = some (.invokevirtual 72, 3, 8)) rfl rfl rfl (Nat.le_of_ble_eq_true rfl) (Nat.le_of_ble_eq_true rfl) ⟨rfl, rfl⟩
theorem w29_13 {x : Int32} : W (pj lw) 29 13 L (.int x :: S) k n H Q ↔ (if x = 0 then W (pj lw) 29 16 L S k n H Q else W (pj lw) 29 20 L S k n H Q) := W_if_ne (rfl : (pj lw).1 29 13 = some (.ifCond .ne 7, 3, 0)) rfl
theorem w29_16 : W (pj lw) 29 16 L S k n H Q ↔ W (pj lw) 29 19 L (.long (-1) :: S) k n H Q := W_s (rfl : (pj lw).1 29 16 = some (.ldc2_w 128, 3, (-1))) rfl rfl rfl
theorem w29_19 {x : Int64} : W (pj lw) 29 19 L (.long x :: S) k n H Q ↔ Q (some (.long x)) H := W_r (rfl : (pj lw).1 29 19 = some (.lreturn, 1, 0)) rfl
theorem w29_20 {x : Nat} : W (pj lw) 29 20 (.val (.ref x) :: L) S k n H Q ↔ W (pj lw) 29 21 (.val (.ref x) :: L) (.ref x :: S) k n H Q := W_s (rfl : (pj lw).1 29 20 = some (.aload_n 0, 1, 0)) rfl rfl rfl
theorem w29_21 {a : Nat} : W (pj lw) 29 21 L (.ref a :: S) k n H Q ↔ (isO H a = true ∧ W (pj lw) 29 24 L (fld H a 6 :: S) k n H Q) := W_getf (rfl : (pj lw).1 29 21 = some (.getfield 106, 3, 6))
theorem w29_24 {x : Int32} : W (pj lw) 29 24 L (.int x :: S) k n H Q ↔ W (pj lw) 29 25 L (.long x.toInt64 :: S) k n H Q := W_s (rfl : (pj lw).1 29 24 = some (.i2l, 1, 0)) rfl rfl rfl
theorem w29_25 {x : Nat} : W (pj lw) 29 25 (.val (.ref x) :: L) S k n H Q ↔ W (pj lw) 29 26 (.val (.ref x) :: L) (.ref x :: S) k n H Q := W_s (rfl : (pj lw).1 29 25 = some (.aload_n 0, 1, 0)) rfl rfl rfl
theorem w29_26 {a : Nat} : W (pj lw) 29 26 L (.ref a :: S) k n H Q ↔ (isO H a = true ∧ W (pj lw) 29 29 L (fld H a 3 :: S) k n H Q) := W_getf (rfl : (pj lw).1 29 26 = some (.getfield 13, 3, 3))
theorem w29_29 {x : Int32} {l0 : Slot} : W (pj lw) 29 29 (l0 :: .val (.int x) :: L) S k n H Q ↔ W (pj lw) 29 30 (l0 :: .val (.int x) :: L) (.int x :: S) k n H Q := W_s (rfl : (pj lw).1 29 29 = some (.iload_n 1, 1, 0)) rfl rfl rfl
theorem w29_30 : W (pj lw) 29 30 L S k n H Q ↔ W (pj lw) 29 32 L (.int 24 :: S) k n H Q := W_s (rfl : (pj lw).1 29 30 = some (.bipush 24, 2, 0)) rfl rfl rfl
theorem w29_32 {x y : Int32} : W (pj lw) 29 32 L (.int y :: .int x :: S) k n H Q ↔ W (pj lw) 29 33 L (.int (x * y) :: S) k n H Q := W_s (rfl : (pj lw).1 29 32 = some (.imul, 1, 0)) rfl rfl rfl
theorem w29_33 {x : Int32} {l0 l1 : Slot} : W (pj lw) 29 33 (l0 :: l1 :: .val (.int x) :: L) S k n H Q ↔ W (pj lw) 29 34 (l0 :: l1 :: .val (.int x) :: L) (.int x :: S) k n H Q := W_s (rfl : (pj lw).1 29 33 = some (.iload_n 2, 1, 0)) rfl rfl rfl
theorem w29_34 {x y : Int32} : W (pj lw) 29 34 L (.int y :: .int x :: S) k n H Q ↔ W (pj lw) 29 35 L (.int (x + y) :: S) k n H Q := W_s (rfl : (pj lw).1 29 34 = some (.iadd, 1, 0)) rfl rfl rfl
theorem w29_35 {i : Int32} {a : Nat} : W (pj lw) 29 35 L (.int i :: .ref a :: S) k n H Q ↔ (inA H a .int i = true ∧ W (pj lw) 29 36 L (elt H a i :: S) k n H Q) := W_iaload (rfl : (pj lw).1 29 35 = some (.iaload, 1, 0))
theorem w29_36 {x : Int32} : W (pj lw) 29 36 L (.int x :: S) k n H Q ↔ W (pj lw) 29 37 L (.long x.toInt64 :: S) k n H Q := W_s (rfl : (pj lw).1 29 36 = some (.i2l, 1, 0)) rfl rfl rfl
theorem w29_37 {x y : Int64} : W (pj lw) 29 37 L (.long y :: .long x :: S) k n H Q ↔ W (pj lw) 29 38 L (.long (x * y) :: S) k n H Q := W_s (rfl : (pj lw).1 29 37 = some (.lmul, 1, 0)) rfl rfl rfl
theorem w29_38 {x : Nat} : W (pj lw) 29 38 (.val (.ref x) :: L) S k n H Q ↔ W (pj lw) 29 39 (.val (.ref x) :: L) (.ref x :: S) k n H Q := W_s (rfl : (pj lw).1 29 38 = some (.aload_n 0, 1, 0)) rfl rfl rfl
theorem w29_39 {a : Nat} : W (pj lw) 29 39 L (.ref a :: S) k n H Q ↔ (isO H a = true ∧ W (pj lw) 29 42 L (fld H a 7 :: S) k n H Q) := W_getf (rfl : (pj lw).1 29 39 = some (.getfield 109, 3, 7))
theorem w29_42 {x y : Int64} : W (pj lw) 29 42 L (.long y :: .long x :: S) k n H Q ↔ W (pj lw) 29 43 L (.long (x - y) :: S) k n H Q := W_s (rfl : (pj lw).1 29 42 = some (.lsub, 1, 0)) rfl rfl rfl
theorem w29_43 {x : Nat} : W (pj lw) 29 43 (.val (.ref x) :: L) S k n H Q ↔ W (pj lw) 29 44 (.val (.ref x) :: L) (.ref x :: S) k n H Q := W_s (rfl : (pj lw).1 29 43 = some (.aload_n 0, 1, 0)) rfl rfl rfl
theorem w29_44 {a : Nat} : W (pj lw) 29 44 L (.ref a :: S) k n H Q ↔ (isO H a = true ∧ W (pj lw) 29 47 L (fld H a 10 :: S) k n H Q) := W_getf (rfl : (pj lw).1 29 44 = some (.getfield 23, 3, 10))
theorem w29_47 {x : Int32} {l0 : Slot} : W (pj lw) 29 47 (l0 :: .val (.int x) :: L) S k n H Q ↔ W (pj lw) 29 48 (l0 :: .val (.int x) :: L) (.int x :: S) k n H Q := W_s (rfl : (pj lw).1 29 47 = some (.iload_n 1, 1, 0)) rfl rfl rfl
theorem w29_48 {i : Int32} {a : Nat} : W (pj lw) 29 48 L (.int i :: .ref a :: S) k n H Q ↔ (inA H a .long i = true ∧ W (pj lw) 29 49 L (elt H a i :: S) k n H Q) := W_laload (rfl : (pj lw).1 29 48 = some (.laload, 1, 0))
theorem w29_49 {x y : Int64} : W (pj lw) 29 49 L (.long y :: .long x :: S) k n H Q ↔ W (pj lw) 29 50 L (.long (x + y) :: S) k n H Q := W_s (rfl : (pj lw).1 29 49 = some (.ladd, 1, 0)) rfl rfl rfl
theorem w29_50 {x : Nat} : W (pj lw) 29 50 (.val (.ref x) :: L) S k n H Q ↔ W (pj lw) 29 51 (.val (.ref x) :: L) (.ref x :: S) k n H Q := W_s (rfl : (pj lw).1 29 50 = some (.aload_n 0, 1, 0)) rfl rfl rfl
theorem w29_51 {a : Nat} : W (pj lw) 29 51 L (.ref a :: S) k n H Q ↔ (isO H a = true ∧ W (pj lw) 29 54 L (fld H a 10 :: S) k n H Q) := W_getf (rfl : (pj lw).1 29 51 = some (.getfield 23, 3, 10))
theorem w29_54 {x : Int32} {l0 l1 : Slot} : W (pj lw) 29 54 (l0 :: l1 :: .val (.int x) :: L) S k n H Q ↔ W (pj lw) 29 55 (l0 :: l1 :: .val (.int x) :: L) (.int x :: S) k n H Q := W_s (rfl : (pj lw).1 29 54 = some (.iload_n 2, 1, 0)) rfl rfl rfl
theorem w29_55 {i : Int32} {a : Nat} : W (pj lw) 29 55 L (.int i :: .ref a :: S) k n H Q ↔ (inA H a .long i = true ∧ W (pj lw) 29 56 L (elt H a i :: S) k n H Q) := W_laload (rfl : (pj lw).1 29 55 = some (.laload, 1, 0))
theorem w29_56 {x y : Int64} : W (pj lw) 29 56 L (.long y :: .long x :: S) k n H Q ↔ W (pj lw) 29 57 L (.long (x - y) :: S) k n H Q := W_s (rfl : (pj lw).1 29 56 = some (.lsub, 1, 0)) rfl rfl rfl
theorem w29_57 {x : Int64} : W (pj lw) 29 57 L (.long x :: S) k n H Q ↔ Q (some (.long x)) H := W_r (rfl : (pj lw).1 29 57 = some (.lreturn, 1, 0)) rfl
end Pc
section A
variable {lw : LW} {H : AH} {p : Nat} {s : St} {Q : Option Value → AH → Prop} {a b : Int32} {h : Nat → Cel}
def ini0 (a : Int32) : St := uI (uJ z0 16 4000000000000000000) 0 (cl 1 24 a)
theorem t1 : Cl (pj lw) 1 [.ref p, .int a] (put lay 0 (p + 1, h) p z0) Q ↔ Q none (ob (p + 11, h) p (ini0 a)) := by
  rw [c1]
  rcases cl3 (lo := 1) (hi := 24) a (by decide) with ⟨h1, h2⟩ | ⟨h1, h2⟩ | ⟨h1, h2⟩ <;>
    simp +decide only [w1_0, w1_1, w1_4, w1_5, w1_8, w1_10, w1_13, w1_14, w1_17, w1_19, w1_22, w1_23, w1_25, w1_27, w1_30, w1_31, w1_33, w1_35, w1_38, w1_39, w1_41, w1_43, w1_46, w1_47, w1_50, w1_52, w1_55, w1_56, w1_59, w1_61, w1_64, w1_65, w1_67, w1_69, w1_72, w1_73, w1_75, w1_77, w1_80, w1_81, w1_83, w1_85, w1_88, w1_89, w1_92, w1_95, w1_96, w1_97, w1_98, w1_99, w1_102, w1_103i, w1_104, w1_105, w1_107, w1_110, w1_112i, w1_113, w1_114, w1_115, w1_118, zr_z0, isOw_put, put_fst, okv_int, okv_ref, true_and, and_true, ↓reduceIte, Nat.reduceAdd, Int32.reduceAdd, Int64.reduceAdd, Nat.zero_add, s0, s16, mk1, io1, mk2, io2, mk3, io3, mk4, io4, mk5, io5, mk6, io6, mk7, io7, mk8, io8, mk9, io9, mk10, io10, h1, h2, ini0, cl]
end A

section B
variable {lw : LW} {H : AH} {p j : Nat} {s s' : St} {Q : Option Value → AH → Prop} {a b c d x y : Int32} {h : Nat → Cel} {k n : Nat}
def fB (s : St) (t lo hi : Nat) (v : Int64) : St := (s.1, s.2.1, s.2.2.1, fun t' i => if t' = t ∧ lo ≤ i ∧ i < hi then v else s.2.2.2 t' i)
theorem sI_fB {t lo hi k : Nat} {v : Int64} : sI (fB s t lo hi v) k = sI s k := by simp [sI, fB]
theorem sJ_fB {t lo hi k : Nat} {v : Int64} : sJ (fB s t lo hi v) k = sJ s k := by simp [sJ, fB]
theorem sA_fB {t lo hi t' i : Nat} {v : Int64} : sA (fB s t lo hi v) t' i = sA s t' i := by simp [sA, fB]
theorem sB_fB {t lo hi t' i : Nat} {v : Int64} : sB (fB s t lo hi v) t' i = if t' = t ∧ lo ≤ i ∧ i < hi then v else sB s t' i := by simp [sB, fB]
theorem fB_nil {t lo hi : Nat} {v : Int64} (h : hi ≤ lo) : fB s t lo hi v = s := by
  refine St_ext (fun k => sI_fB) (fun k => sJ_fB) (fun t' i => sA_fB) (fun t' i => ?_)
  rw [sB_fB, if_neg (by omega)]
theorem fB_step {t lo hi : Nat} {v : Int64} (h : lo < hi) : fB (uB s t lo v) t (lo + 1) hi v = fB s t lo hi v := by
  refine St_ext (fun k => by simp only [sI_fB, sI_uB]) (fun k => by simp only [sJ_fB, sJ_uB]) (fun t' i => by simp only [sA_fB, sA_uB]) (fun t' i => ?_)
  simp only [sB_fB, sB_uB]
  by_cases g : t' = t ∧ lo ≤ i ∧ i < hi
  · rw [if_pos g]; split
    · rfl
    · rw [if_pos (by omega)]
  · rw [if_neg g, if_neg (by omega), if_neg (by omega)]
def oi (z : Int) : Int64 := Int64.ofInt z
theorem oi_add {x y : Int} : oi x + oi y = oi (x + y) := (Int64.ofInt_add x y).symm
theorem oi_sub {x y : Int} : oi x - oi y = oi (x - y) := (Int64.ofInt_sub x y).symm
theorem oi_mul {x y : Int} : oi x * oi y = oi (x * y) := (Int64.ofInt_mul x y).symm
theorem oi_t {z : Int} (h : -1000000000000000000 ≤ z ∧ z ≤ 1000000000000000000) : (oi z).toInt = z := Int64.toInt_ofInt_of_le (by omega) (by omega)
theorem oi_32 : x.toInt64 = oi x.toInt := by
  rw [eq64, Int32.toInt_toInt64, oi_t]; have := Int32.le_toInt x; have := Int32.toInt_lt x; omega
theorem oi_lt {x y : Int} (hx : -1000000000000000000 ≤ x ∧ x ≤ 1000000000000000000) (hy : -1000000000000000000 ≤ y ∧ y ≤ 1000000000000000000) : oi x < oi y ↔ x < y := by rw [Int64.lt_iff_toInt_lt, oi_t hx, oi_t hy]
theorem oi_eq {x y : Int} (hx : -1000000000000000000 ≤ x ∧ x ≤ 1000000000000000000) (hy : -1000000000000000000 ≤ y ∧ y ≤ 1000000000000000000) : oi x = oi y ↔ x = y := by rw [eq64, oi_t hx, oi_t hy]
theorem oi_inf {x : Int} (hx : -1000000000000000000 ≤ x ∧ x ≤ 1000000000000000000) : oi x < 4000000000000000000 ∧ ¬ oi x = 4000000000000000000 := by
  have e : (4000000000000000000 : Int64).toInt = 4000000000000000000 := by decide
  rw [Int64.lt_iff_toInt_lt, eq64, oi_t hx, e]; omega
theorem oi0 : (0 : Int64) = oi 0 := rfl
def HS (s : St) (a b c d : Int32) : Prop := (sI s 0 = 3 ∧ sJ s 16 = 4000000000000000000) ∧ (∀ i, i < 576 → sA s 1 i = if i = 1 ∨ i = 24 ∨ i = 26 ∨ i = 48 then 1 else 0) ∧ (sA s 2 1 = a ∧ sA s 2 24 = b ∧ sA s 2 26 = c ∧ sA s 2 48 = d)
theorem HS.of (h : HS s a b c d) (h0 : sI s' 0 = sI s 0) (h16 : sJ s' 16 = sJ s 16) (h1 : ∀ i, sA s' 1 i = sA s 1 i) (h2 : ∀ i, sA s' 2 i = sA s 2 i) : HS s' a b c d := by
  unfold HS; rw [h0, h16, h2, h2, h2, h2]; exact ⟨h.1, fun i hi => by rw [h1]; exact h.2.1 i hi, h.2.2⟩
theorem HS.z (h : HS s a b c d) {lo hi : Nat} (hh : hi ≤ 576) (hn : ∀ i, lo ≤ i → i < hi → ¬ (i = 1 ∨ i = 24 ∨ i = 26 ∨ i = 48)) : ∀ i, lo ≤ i → i < hi → sA s 1 i = 0 := fun i h1 h2 => by rw [h.2.1 i (by omega), if_neg (hn i h1 h2)]
theorem ofi {i : Nat} (h : i < 1000) : (Int32.ofNat i).toInt = i ∧ (Int32.ofNat i).toNatClampNeg = i := by
  have e : (Int32.ofNat i).toInt = i := Int32.toInt_ofNat_of_lt (by omega)
  exact ⟨e, by rw [cln, e]; omega⟩
theorem ofs {i : Nat} : Int32.ofNat i + 1 = Int32.ofNat (i + 1) := (Int32.ofNat_add i 1).symm
theorem l14_2 (hi' : sJ s 16 = 4000000000000000000) (m : Nat) : ∀ (i : Int32) (s : St), sJ s 16 = 4000000000000000000 → i.toInt = 600 - m → 0 ≤ i.toInt → (W (pj lw) 14 2 [.val (.ref p), .val (.int i), .unset] [] k n (ob H p s) Q ↔ W (pj lw) 14 25 [.val (.ref p), .val (.int 600), .unset] [] k n (ob H p (fB s 6 i.toNatClampNeg 600 4000000000000000000)) Q) := by
  induction m with
  | zero =>
    intro i s hI hi h0
    have h1 : ¬ i < 600 := by rw [lt32]; simp only [Int32.reduceToInt]; omega
    have e : i = 600 := by rw [eq32]; simp only [Int32.reduceToInt]; omega
    rw [w14_2]; simp +decide only [w14_3, w14_6, ↓reduceIte, h1]
    rw [e, fB_nil (by decide)]
  | succ m ih =>
    intro i s hI hi h0
    have h1 : i < 600 := by rw [lt32]; simp only [Int32.reduceToInt]; omega
    have h2 : (i + 1).toInt = i.toInt + 1 := ia (by simp only [Int32.reduceToInt]; omega) (by simp only [Int32.reduceToInt]; omega)
    have h4 : (i + 1).toNatClampNeg = i.toNatClampNeg + 1 := by rw [cln, cln]; omega
    have hb : 0 ≤ i.toInt ∧ i.toInt < 600 := by omega
    rw [← fB_step (by rw [cln]; omega), ← h4, ← ih (i + 1) _ (by rw [sJ_uB]; exact hI) (by omega) (by omega), w14_2]
    simp +decide only [w14_3, w14_6, w14_9, w14_10, w14_13, w14_14, w14_15, w14_18, w14_19, w14_22, isO_put, true_and, and_true, ↓reduceIte, g11, g16, aw6, as6, h1, hb, hI]
theorem sk14 {hi : Nat} (hh : hi ≤ 576) (m : Nat) : ∀ lo : Nat, lo + m = hi → (∀ i, lo ≤ i → i < hi → sA s 1 i = 0) →
    (W (pj lw) 14 60 [.val (.ref p), .val (.int x), .val (.int (Int32.ofNat lo))] [] k n (ob H p s) Q ↔ W (pj lw) 14 60 [.val (.ref p), .val (.int x), .val (.int (Int32.ofNat hi))] [] k n (ob H p s) Q) := by
  induction m with
  | zero => intro lo h _; rw [show lo = hi by omega]
  | succ m ih =>
    intro lo h hz
    obtain ⟨e1, e2⟩ := ofi (i := lo) (by omega)
    have h1 : Int32.ofNat lo < 576 := by rw [lt32, e1]; simp only [Int32.reduceToInt]; omega
    have hb : 0 ≤ (Int32.ofNat lo).toInt ∧ (Int32.ofNat lo).toInt < 576 := by omega
    have z := hz lo (Nat.le_refl _) (by omega)
    rw [← e2] at z
    rw [← ih (lo + 1) (by omega) (fun i h1 h2 => hz i (by omega) h2), w14_60]
    simp +decide only [w14_61, w14_64, w14_67, w14_68, w14_71, w14_72, w14_73, w14_82, w14_85, isO_put, true_and, and_true, or_true, ↓reduceIte, g2, ai1, ain1, ae1, ain1, h1, hb, z, ofs]
end B

section C
variable {lw : LW} {H : AH} {p j : Nat} {s s' : St} {Q : Option Value → AH → Prop} {a b c d x y : Int32} {h : Nat → Cel} {k n : Nat} {x0 x1 x2 x3 : Int}
def bd (z : Int) : Prop := -200000 ≤ z ∧ z ≤ 200000
theorem t64_3 : (3 : Int32).toInt64 = oi 3 := by decide
theorem t64_2 : (2 : Int32).toInt64 = oi 2 := by decide
theorem t64_1 : (1 : Int32).toInt64 = oi 1 := by decide
theorem uJ4 {q r t u : Int64} : uJ (uJ (uJ (uJ s 19 q) 20 r) 19 t) 20 u = uJ (uJ s 19 t) 20 u := by
  refine St_ext (fun k => by simp only [sI_uJ]) (fun k => ?_) (fun t i => by simp only [sA_uJ]) (fun t i => by simp only [sB_uJ])
  simp only [sJ_uJ]; by_cases h1 : k = 20
  · simp [h1]
  · by_cases h2 : k = 19 <;> simp [h1, h2]
def VM (x0 x1 x2 x3 N D : Int) : Prop := (N = x3 - x0 ∧ D = 3 ∨ N = x3 - x1 ∧ D = 2 ∨ N = x3 - x2 ∧ D = 1) ∧ (x3 - x0) * D ≤ N * 3 ∧ (x3 - x1) * D ≤ N * 2 ∧ (x3 - x2) * D ≤ N * 1
set_option maxRecDepth 100000 in
set_option maxHeartbeats 2000000 in
theorem v16_0 (n3 : sI s 0 = 3) (hi : sJ s 16 = 4000000000000000000) (h0 : sB s 6 0 = oi x0) (h1 : sB s 6 24 = oi x1) (h2 : sB s 6 48 = oi x2) (h3 : sB s 6 72 = oi x3) (r0 : bd x0) (r1 : bd x1) (r2 : bd x2) (r3 : bd x3)
    (hq : ∀ N D : Int, VM x0 x1 x2 x3 N D → Q none (ob H p (uJ (uJ s 19 (oi N)) 20 (oi D)))) : Cl (pj lw) 16 [.ref p, .int 0] (ob H p s) Q := by
  unfold bd at r0 r1 r2 r3
  have i0 := (oi_inf (x := x0) (by omega)).2
  have i1 := (oi_inf (x := x1) (by omega)).2
  have i2 := (oi_inf (x := x2) (by omega)).2
  have i3 := (oi_inf (x := x3) (by omega)).2
  rw [c16]
  by_cases q1 : (x3 - x0) * 2 < (x3 - x1) * 3
  · have q1' := eq_true ((oi_lt (x := (x3 - x0) * 2) (y := (x3 - x1) * 3) (by omega) (by omega)).2 q1)
    by_cases q2 : (x3 - x1) * 1 < (x3 - x2) * 2
    · have q2' := eq_true ((oi_lt (x := (x3 - x1) * 1) (y := (x3 - x2) * 2) (by omega) (by omega)).2 q2)
      simp +decide only [w16_0, w16_1, w16_4, w16_5, w16_8, w16_10, w16_11, w16_12, w16_13, w16_14uu, w16_15, w16_16, w16_18, w16_19, w16_20, w16_23, w16_24, w16_25, w16_28, w16_29, w16_33, w16_34, w16_37, w16_40, w16_41, w16_44, w16_46, w16_48, w16_49, w16_50, w16_51, w16_52j, w16_52uu, w16_54, w16_56, w16_57, w16_60, w16_61, w16_67, w16_68, w16_70, w16_71j, w16_71uu, w16_73, w16_74, w16_77, w16_79, w16_80, w16_81j, w16_81uu, w16_83, w16_85, w16_88, w16_90, w16_91, w16_94, w16_95, w16_96, w16_99, w16_101, w16_102, w16_103, w16_106, w16_107, w16_109, w16_112, w16_113, w16_115, w16_118, w16_119i, w16_121, w16_124, w16_127, w16_31, isO_put, isOw_put, okv_long, cmpL_gt, cmpL_eq, sI_uJ, sJ_uJ, sB_uJ, true_and, and_true, ↓reduceIte, Nat.reduceAdd, Nat.reduceSub, Int32.reduceAdd, Int32.reduceSub, Int32.reduceMul, Int32.reduceToNatClampNeg, Int64.reduceAdd, Int64.reduceSub, Int64.reduceMul, g0, g11, g16, g19, s19, g20, s20, ai6, ae6, n3, hi, h0, h1, h2, h3, i0, i1, i2, t64_1, t64_2, t64_3, oi_sub, oi_mul, q1', q2', uJ4]
      exact hq _ _ ⟨Or.inr (Or.inr ⟨rfl, rfl⟩), by omega, by omega, by omega⟩
    · have q2' := eq_false (fun w => q2 ((oi_lt (x := (x3 - x1) * 1) (y := (x3 - x2) * 2) (by omega) (by omega)).1 w))
      simp +decide only [w16_0, w16_1, w16_4, w16_5, w16_8, w16_10, w16_11, w16_12, w16_13, w16_14uu, w16_15, w16_16, w16_18, w16_19, w16_20, w16_23, w16_24, w16_25, w16_28, w16_29, w16_33, w16_34, w16_37, w16_40, w16_41, w16_44, w16_46, w16_48, w16_49, w16_50, w16_51, w16_52j, w16_52uu, w16_54, w16_56, w16_57, w16_60, w16_61, w16_67, w16_68, w16_70, w16_71j, w16_71uu, w16_73, w16_74, w16_77, w16_79, w16_80, w16_81j, w16_81uu, w16_83, w16_85, w16_88, w16_90, w16_91, w16_94, w16_95, w16_96, w16_99, w16_101, w16_102, w16_103, w16_106, w16_107, w16_109, w16_112, w16_113, w16_115, w16_118, w16_119i, w16_121, w16_124, w16_127, w16_31, isO_put, isOw_put, okv_long, cmpL_gt, cmpL_eq, sI_uJ, sJ_uJ, sB_uJ, true_and, and_true, ↓reduceIte, Nat.reduceAdd, Nat.reduceSub, Int32.reduceAdd, Int32.reduceSub, Int32.reduceMul, Int32.reduceToNatClampNeg, Int64.reduceAdd, Int64.reduceSub, Int64.reduceMul, g0, g11, g16, g19, s19, g20, s20, ai6, ae6, n3, hi, h0, h1, h2, h3, i0, i1, i2, t64_1, t64_2, t64_3, oi_sub, oi_mul, q1', q2', uJ4]
      exact hq _ _ ⟨Or.inr (Or.inl ⟨rfl, rfl⟩), by omega, by omega, by omega⟩
  · have q1' := eq_false (fun w => q1 ((oi_lt (x := (x3 - x0) * 2) (y := (x3 - x1) * 3) (by omega) (by omega)).1 w))
    by_cases q2 : (x3 - x0) * 1 < (x3 - x2) * 3
    · have q2' := eq_true ((oi_lt (x := (x3 - x0) * 1) (y := (x3 - x2) * 3) (by omega) (by omega)).2 q2)
      simp +decide only [w16_0, w16_1, w16_4, w16_5, w16_8, w16_10, w16_11, w16_12, w16_13, w16_14uu, w16_15, w16_16, w16_18, w16_19, w16_20, w16_23, w16_24, w16_25, w16_28, w16_29, w16_33, w16_34, w16_37, w16_40, w16_41, w16_44, w16_46, w16_48, w16_49, w16_50, w16_51, w16_52j, w16_52uu, w16_54, w16_56, w16_57, w16_60, w16_61, w16_67, w16_68, w16_70, w16_71j, w16_71uu, w16_73, w16_74, w16_77, w16_79, w16_80, w16_81j, w16_81uu, w16_83, w16_85, w16_88, w16_90, w16_91, w16_94, w16_95, w16_96, w16_99, w16_101, w16_102, w16_103, w16_106, w16_107, w16_109, w16_112, w16_113, w16_115, w16_118, w16_119i, w16_121, w16_124, w16_127, w16_31, isO_put, isOw_put, okv_long, cmpL_gt, cmpL_eq, sI_uJ, sJ_uJ, sB_uJ, true_and, and_true, ↓reduceIte, Nat.reduceAdd, Nat.reduceSub, Int32.reduceAdd, Int32.reduceSub, Int32.reduceMul, Int32.reduceToNatClampNeg, Int64.reduceAdd, Int64.reduceSub, Int64.reduceMul, g0, g11, g16, g19, s19, g20, s20, ai6, ae6, n3, hi, h0, h1, h2, h3, i0, i1, i2, t64_1, t64_2, t64_3, oi_sub, oi_mul, q1', q2', uJ4]
      exact hq _ _ ⟨Or.inr (Or.inr ⟨rfl, rfl⟩), by omega, by omega, by omega⟩
    · have q2' := eq_false (fun w => q2 ((oi_lt (x := (x3 - x0) * 1) (y := (x3 - x2) * 3) (by omega) (by omega)).1 w))
      simp +decide only [w16_0, w16_1, w16_4, w16_5, w16_8, w16_10, w16_11, w16_12, w16_13, w16_14uu, w16_15, w16_16, w16_18, w16_19, w16_20, w16_23, w16_24, w16_25, w16_28, w16_29, w16_33, w16_34, w16_37, w16_40, w16_41, w16_44, w16_46, w16_48, w16_49, w16_50, w16_51, w16_52j, w16_52uu, w16_54, w16_56, w16_57, w16_60, w16_61, w16_67, w16_68, w16_70, w16_71j, w16_71uu, w16_73, w16_74, w16_77, w16_79, w16_80, w16_81j, w16_81uu, w16_83, w16_85, w16_88, w16_90, w16_91, w16_94, w16_95, w16_96, w16_99, w16_101, w16_102, w16_103, w16_106, w16_107, w16_109, w16_112, w16_113, w16_115, w16_118, w16_119i, w16_121, w16_124, w16_127, w16_31, isO_put, isOw_put, okv_long, cmpL_gt, cmpL_eq, sI_uJ, sJ_uJ, sB_uJ, true_and, and_true, ↓reduceIte, Nat.reduceAdd, Nat.reduceSub, Int32.reduceAdd, Int32.reduceSub, Int32.reduceMul, Int32.reduceToNatClampNeg, Int64.reduceAdd, Int64.reduceSub, Int64.reduceMul, g0, g11, g16, g19, s19, g20, s20, ai6, ae6, n3, hi, h0, h1, h2, h3, i0, i1, i2, t64_1, t64_2, t64_3, oi_sub, oi_mul, q1', q2', uJ4]
      exact hq _ _ ⟨Or.inl ⟨rfl, rfl⟩, by omega, by omega, by omega⟩
set_option maxRecDepth 100000 in
set_option maxHeartbeats 2000000 in
theorem v16_1 (n3 : sI s 0 = 3) (hi : sJ s 16 = 4000000000000000000) (h0 : sB s 6 1 = oi x0) (h1 : sB s 6 25 = oi x1) (h2 : sB s 6 49 = oi x2) (h3 : sB s 6 73 = oi x3) (r0 : bd x0) (r1 : bd x1) (r2 : bd x2) (r3 : bd x3)
    (hq : ∀ N D : Int, VM x0 x1 x2 x3 N D → Q none (ob H p (uJ (uJ s 19 (oi N)) 20 (oi D)))) : Cl (pj lw) 16 [.ref p, .int 1] (ob H p s) Q := by
  unfold bd at r0 r1 r2 r3
  have i0 := (oi_inf (x := x0) (by omega)).2
  have i1 := (oi_inf (x := x1) (by omega)).2
  have i2 := (oi_inf (x := x2) (by omega)).2
  have i3 := (oi_inf (x := x3) (by omega)).2
  rw [c16]
  by_cases q1 : (x3 - x0) * 2 < (x3 - x1) * 3
  · have q1' := eq_true ((oi_lt (x := (x3 - x0) * 2) (y := (x3 - x1) * 3) (by omega) (by omega)).2 q1)
    by_cases q2 : (x3 - x1) * 1 < (x3 - x2) * 2
    · have q2' := eq_true ((oi_lt (x := (x3 - x1) * 1) (y := (x3 - x2) * 2) (by omega) (by omega)).2 q2)
      simp +decide only [w16_0, w16_1, w16_4, w16_5, w16_8, w16_10, w16_11, w16_12, w16_13, w16_14uu, w16_15, w16_16, w16_18, w16_19, w16_20, w16_23, w16_24, w16_25, w16_28, w16_29, w16_33, w16_34, w16_37, w16_40, w16_41, w16_44, w16_46, w16_48, w16_49, w16_50, w16_51, w16_52j, w16_52uu, w16_54, w16_56, w16_57, w16_60, w16_61, w16_67, w16_68, w16_70, w16_71j, w16_71uu, w16_73, w16_74, w16_77, w16_79, w16_80, w16_81j, w16_81uu, w16_83, w16_85, w16_88, w16_90, w16_91, w16_94, w16_95, w16_96, w16_99, w16_101, w16_102, w16_103, w16_106, w16_107, w16_109, w16_112, w16_113, w16_115, w16_118, w16_119i, w16_121, w16_124, w16_127, w16_31, isO_put, isOw_put, okv_long, cmpL_gt, cmpL_eq, sI_uJ, sJ_uJ, sB_uJ, true_and, and_true, ↓reduceIte, Nat.reduceAdd, Nat.reduceSub, Int32.reduceAdd, Int32.reduceSub, Int32.reduceMul, Int32.reduceToNatClampNeg, Int64.reduceAdd, Int64.reduceSub, Int64.reduceMul, g0, g11, g16, g19, s19, g20, s20, ai6, ae6, n3, hi, h0, h1, h2, h3, i0, i1, i2, t64_1, t64_2, t64_3, oi_sub, oi_mul, q1', q2', uJ4]
      exact hq _ _ ⟨Or.inr (Or.inr ⟨rfl, rfl⟩), by omega, by omega, by omega⟩
    · have q2' := eq_false (fun w => q2 ((oi_lt (x := (x3 - x1) * 1) (y := (x3 - x2) * 2) (by omega) (by omega)).1 w))
      simp +decide only [w16_0, w16_1, w16_4, w16_5, w16_8, w16_10, w16_11, w16_12, w16_13, w16_14uu, w16_15, w16_16, w16_18, w16_19, w16_20, w16_23, w16_24, w16_25, w16_28, w16_29, w16_33, w16_34, w16_37, w16_40, w16_41, w16_44, w16_46, w16_48, w16_49, w16_50, w16_51, w16_52j, w16_52uu, w16_54, w16_56, w16_57, w16_60, w16_61, w16_67, w16_68, w16_70, w16_71j, w16_71uu, w16_73, w16_74, w16_77, w16_79, w16_80, w16_81j, w16_81uu, w16_83, w16_85, w16_88, w16_90, w16_91, w16_94, w16_95, w16_96, w16_99, w16_101, w16_102, w16_103, w16_106, w16_107, w16_109, w16_112, w16_113, w16_115, w16_118, w16_119i, w16_121, w16_124, w16_127, w16_31, isO_put, isOw_put, okv_long, cmpL_gt, cmpL_eq, sI_uJ, sJ_uJ, sB_uJ, true_and, and_true, ↓reduceIte, Nat.reduceAdd, Nat.reduceSub, Int32.reduceAdd, Int32.reduceSub, Int32.reduceMul, Int32.reduceToNatClampNeg, Int64.reduceAdd, Int64.reduceSub, Int64.reduceMul, g0, g11, g16, g19, s19, g20, s20, ai6, ae6, n3, hi, h0, h1, h2, h3, i0, i1, i2, t64_1, t64_2, t64_3, oi_sub, oi_mul, q1', q2', uJ4]
      exact hq _ _ ⟨Or.inr (Or.inl ⟨rfl, rfl⟩), by omega, by omega, by omega⟩
  · have q1' := eq_false (fun w => q1 ((oi_lt (x := (x3 - x0) * 2) (y := (x3 - x1) * 3) (by omega) (by omega)).1 w))
    by_cases q2 : (x3 - x0) * 1 < (x3 - x2) * 3
    · have q2' := eq_true ((oi_lt (x := (x3 - x0) * 1) (y := (x3 - x2) * 3) (by omega) (by omega)).2 q2)
      simp +decide only [w16_0, w16_1, w16_4, w16_5, w16_8, w16_10, w16_11, w16_12, w16_13, w16_14uu, w16_15, w16_16, w16_18, w16_19, w16_20, w16_23, w16_24, w16_25, w16_28, w16_29, w16_33, w16_34, w16_37, w16_40, w16_41, w16_44, w16_46, w16_48, w16_49, w16_50, w16_51, w16_52j, w16_52uu, w16_54, w16_56, w16_57, w16_60, w16_61, w16_67, w16_68, w16_70, w16_71j, w16_71uu, w16_73, w16_74, w16_77, w16_79, w16_80, w16_81j, w16_81uu, w16_83, w16_85, w16_88, w16_90, w16_91, w16_94, w16_95, w16_96, w16_99, w16_101, w16_102, w16_103, w16_106, w16_107, w16_109, w16_112, w16_113, w16_115, w16_118, w16_119i, w16_121, w16_124, w16_127, w16_31, isO_put, isOw_put, okv_long, cmpL_gt, cmpL_eq, sI_uJ, sJ_uJ, sB_uJ, true_and, and_true, ↓reduceIte, Nat.reduceAdd, Nat.reduceSub, Int32.reduceAdd, Int32.reduceSub, Int32.reduceMul, Int32.reduceToNatClampNeg, Int64.reduceAdd, Int64.reduceSub, Int64.reduceMul, g0, g11, g16, g19, s19, g20, s20, ai6, ae6, n3, hi, h0, h1, h2, h3, i0, i1, i2, t64_1, t64_2, t64_3, oi_sub, oi_mul, q1', q2', uJ4]
      exact hq _ _ ⟨Or.inr (Or.inr ⟨rfl, rfl⟩), by omega, by omega, by omega⟩
    · have q2' := eq_false (fun w => q2 ((oi_lt (x := (x3 - x0) * 1) (y := (x3 - x2) * 3) (by omega) (by omega)).1 w))
      simp +decide only [w16_0, w16_1, w16_4, w16_5, w16_8, w16_10, w16_11, w16_12, w16_13, w16_14uu, w16_15, w16_16, w16_18, w16_19, w16_20, w16_23, w16_24, w16_25, w16_28, w16_29, w16_33, w16_34, w16_37, w16_40, w16_41, w16_44, w16_46, w16_48, w16_49, w16_50, w16_51, w16_52j, w16_52uu, w16_54, w16_56, w16_57, w16_60, w16_61, w16_67, w16_68, w16_70, w16_71j, w16_71uu, w16_73, w16_74, w16_77, w16_79, w16_80, w16_81j, w16_81uu, w16_83, w16_85, w16_88, w16_90, w16_91, w16_94, w16_95, w16_96, w16_99, w16_101, w16_102, w16_103, w16_106, w16_107, w16_109, w16_112, w16_113, w16_115, w16_118, w16_119i, w16_121, w16_124, w16_127, w16_31, isO_put, isOw_put, okv_long, cmpL_gt, cmpL_eq, sI_uJ, sJ_uJ, sB_uJ, true_and, and_true, ↓reduceIte, Nat.reduceAdd, Nat.reduceSub, Int32.reduceAdd, Int32.reduceSub, Int32.reduceMul, Int32.reduceToNatClampNeg, Int64.reduceAdd, Int64.reduceSub, Int64.reduceMul, g0, g11, g16, g19, s19, g20, s20, ai6, ae6, n3, hi, h0, h1, h2, h3, i0, i1, i2, t64_1, t64_2, t64_3, oi_sub, oi_mul, q1', q2', uJ4]
      exact hq _ _ ⟨Or.inl ⟨rfl, rfl⟩, by omega, by omega, by omega⟩
set_option maxRecDepth 100000 in
set_option maxHeartbeats 2000000 in
theorem v16_2 (n3 : sI s 0 = 3) (hi : sJ s 16 = 4000000000000000000) (h0 : sB s 6 2 = oi x0) (h1 : sB s 6 26 = oi x1) (h2 : sB s 6 50 = oi x2) (h3 : sB s 6 74 = oi x3) (r0 : bd x0) (r1 : bd x1) (r2 : bd x2) (r3 : bd x3)
    (hq : ∀ N D : Int, VM x0 x1 x2 x3 N D → Q none (ob H p (uJ (uJ s 19 (oi N)) 20 (oi D)))) : Cl (pj lw) 16 [.ref p, .int 2] (ob H p s) Q := by
  unfold bd at r0 r1 r2 r3
  have i0 := (oi_inf (x := x0) (by omega)).2
  have i1 := (oi_inf (x := x1) (by omega)).2
  have i2 := (oi_inf (x := x2) (by omega)).2
  have i3 := (oi_inf (x := x3) (by omega)).2
  rw [c16]
  by_cases q1 : (x3 - x0) * 2 < (x3 - x1) * 3
  · have q1' := eq_true ((oi_lt (x := (x3 - x0) * 2) (y := (x3 - x1) * 3) (by omega) (by omega)).2 q1)
    by_cases q2 : (x3 - x1) * 1 < (x3 - x2) * 2
    · have q2' := eq_true ((oi_lt (x := (x3 - x1) * 1) (y := (x3 - x2) * 2) (by omega) (by omega)).2 q2)
      simp +decide only [w16_0, w16_1, w16_4, w16_5, w16_8, w16_10, w16_11, w16_12, w16_13, w16_14uu, w16_15, w16_16, w16_18, w16_19, w16_20, w16_23, w16_24, w16_25, w16_28, w16_29, w16_33, w16_34, w16_37, w16_40, w16_41, w16_44, w16_46, w16_48, w16_49, w16_50, w16_51, w16_52j, w16_52uu, w16_54, w16_56, w16_57, w16_60, w16_61, w16_67, w16_68, w16_70, w16_71j, w16_71uu, w16_73, w16_74, w16_77, w16_79, w16_80, w16_81j, w16_81uu, w16_83, w16_85, w16_88, w16_90, w16_91, w16_94, w16_95, w16_96, w16_99, w16_101, w16_102, w16_103, w16_106, w16_107, w16_109, w16_112, w16_113, w16_115, w16_118, w16_119i, w16_121, w16_124, w16_127, w16_31, isO_put, isOw_put, okv_long, cmpL_gt, cmpL_eq, sI_uJ, sJ_uJ, sB_uJ, true_and, and_true, ↓reduceIte, Nat.reduceAdd, Nat.reduceSub, Int32.reduceAdd, Int32.reduceSub, Int32.reduceMul, Int32.reduceToNatClampNeg, Int64.reduceAdd, Int64.reduceSub, Int64.reduceMul, g0, g11, g16, g19, s19, g20, s20, ai6, ae6, n3, hi, h0, h1, h2, h3, i0, i1, i2, t64_1, t64_2, t64_3, oi_sub, oi_mul, q1', q2', uJ4]
      exact hq _ _ ⟨Or.inr (Or.inr ⟨rfl, rfl⟩), by omega, by omega, by omega⟩
    · have q2' := eq_false (fun w => q2 ((oi_lt (x := (x3 - x1) * 1) (y := (x3 - x2) * 2) (by omega) (by omega)).1 w))
      simp +decide only [w16_0, w16_1, w16_4, w16_5, w16_8, w16_10, w16_11, w16_12, w16_13, w16_14uu, w16_15, w16_16, w16_18, w16_19, w16_20, w16_23, w16_24, w16_25, w16_28, w16_29, w16_33, w16_34, w16_37, w16_40, w16_41, w16_44, w16_46, w16_48, w16_49, w16_50, w16_51, w16_52j, w16_52uu, w16_54, w16_56, w16_57, w16_60, w16_61, w16_67, w16_68, w16_70, w16_71j, w16_71uu, w16_73, w16_74, w16_77, w16_79, w16_80, w16_81j, w16_81uu, w16_83, w16_85, w16_88, w16_90, w16_91, w16_94, w16_95, w16_96, w16_99, w16_101, w16_102, w16_103, w16_106, w16_107, w16_109, w16_112, w16_113, w16_115, w16_118, w16_119i, w16_121, w16_124, w16_127, w16_31, isO_put, isOw_put, okv_long, cmpL_gt, cmpL_eq, sI_uJ, sJ_uJ, sB_uJ, true_and, and_true, ↓reduceIte, Nat.reduceAdd, Nat.reduceSub, Int32.reduceAdd, Int32.reduceSub, Int32.reduceMul, Int32.reduceToNatClampNeg, Int64.reduceAdd, Int64.reduceSub, Int64.reduceMul, g0, g11, g16, g19, s19, g20, s20, ai6, ae6, n3, hi, h0, h1, h2, h3, i0, i1, i2, t64_1, t64_2, t64_3, oi_sub, oi_mul, q1', q2', uJ4]
      exact hq _ _ ⟨Or.inr (Or.inl ⟨rfl, rfl⟩), by omega, by omega, by omega⟩
  · have q1' := eq_false (fun w => q1 ((oi_lt (x := (x3 - x0) * 2) (y := (x3 - x1) * 3) (by omega) (by omega)).1 w))
    by_cases q2 : (x3 - x0) * 1 < (x3 - x2) * 3
    · have q2' := eq_true ((oi_lt (x := (x3 - x0) * 1) (y := (x3 - x2) * 3) (by omega) (by omega)).2 q2)
      simp +decide only [w16_0, w16_1, w16_4, w16_5, w16_8, w16_10, w16_11, w16_12, w16_13, w16_14uu, w16_15, w16_16, w16_18, w16_19, w16_20, w16_23, w16_24, w16_25, w16_28, w16_29, w16_33, w16_34, w16_37, w16_40, w16_41, w16_44, w16_46, w16_48, w16_49, w16_50, w16_51, w16_52j, w16_52uu, w16_54, w16_56, w16_57, w16_60, w16_61, w16_67, w16_68, w16_70, w16_71j, w16_71uu, w16_73, w16_74, w16_77, w16_79, w16_80, w16_81j, w16_81uu, w16_83, w16_85, w16_88, w16_90, w16_91, w16_94, w16_95, w16_96, w16_99, w16_101, w16_102, w16_103, w16_106, w16_107, w16_109, w16_112, w16_113, w16_115, w16_118, w16_119i, w16_121, w16_124, w16_127, w16_31, isO_put, isOw_put, okv_long, cmpL_gt, cmpL_eq, sI_uJ, sJ_uJ, sB_uJ, true_and, and_true, ↓reduceIte, Nat.reduceAdd, Nat.reduceSub, Int32.reduceAdd, Int32.reduceSub, Int32.reduceMul, Int32.reduceToNatClampNeg, Int64.reduceAdd, Int64.reduceSub, Int64.reduceMul, g0, g11, g16, g19, s19, g20, s20, ai6, ae6, n3, hi, h0, h1, h2, h3, i0, i1, i2, t64_1, t64_2, t64_3, oi_sub, oi_mul, q1', q2', uJ4]
      exact hq _ _ ⟨Or.inr (Or.inr ⟨rfl, rfl⟩), by omega, by omega, by omega⟩
    · have q2' := eq_false (fun w => q2 ((oi_lt (x := (x3 - x0) * 1) (y := (x3 - x2) * 3) (by omega) (by omega)).1 w))
      simp +decide only [w16_0, w16_1, w16_4, w16_5, w16_8, w16_10, w16_11, w16_12, w16_13, w16_14uu, w16_15, w16_16, w16_18, w16_19, w16_20, w16_23, w16_24, w16_25, w16_28, w16_29, w16_33, w16_34, w16_37, w16_40, w16_41, w16_44, w16_46, w16_48, w16_49, w16_50, w16_51, w16_52j, w16_52uu, w16_54, w16_56, w16_57, w16_60, w16_61, w16_67, w16_68, w16_70, w16_71j, w16_71uu, w16_73, w16_74, w16_77, w16_79, w16_80, w16_81j, w16_81uu, w16_83, w16_85, w16_88, w16_90, w16_91, w16_94, w16_95, w16_96, w16_99, w16_101, w16_102, w16_103, w16_106, w16_107, w16_109, w16_112, w16_113, w16_115, w16_118, w16_119i, w16_121, w16_124, w16_127, w16_31, isO_put, isOw_put, okv_long, cmpL_gt, cmpL_eq, sI_uJ, sJ_uJ, sB_uJ, true_and, and_true, ↓reduceIte, Nat.reduceAdd, Nat.reduceSub, Int32.reduceAdd, Int32.reduceSub, Int32.reduceMul, Int32.reduceToNatClampNeg, Int64.reduceAdd, Int64.reduceSub, Int64.reduceMul, g0, g11, g16, g19, s19, g20, s20, ai6, ae6, n3, hi, h0, h1, h2, h3, i0, i1, i2, t64_1, t64_2, t64_3, oi_sub, oi_mul, q1', q2', uJ4]
      exact hq _ _ ⟨Or.inl ⟨rfl, rfl⟩, by omega, by omega, by omega⟩
end C

section D
variable {lw : LW} {H : AH} {p j : Nat} {s s' : St} {Q : Option Value → AH → Prop} {a b c d x y : Int32} {h : Nat → Cel} {k n kk nn : Nat} {y0 y1 y2 : Int}
def wb (x : Int32) : Prop := -10000 ≤ x.toInt ∧ x.toInt ≤ 10000
def Kr (s s' : St) (r : Nat) (z0 z1 z2 : Int) : Prop := (∀ k, sI s' k = sI s k) ∧ (∀ k, sJ s' k = sJ s k) ∧ (∀ t i, sA s' t i = sA s t i) ∧ ∀ i, sB s' 6 i = if i = r then oi z0 else if i = r + 1 then oi z1 else if i = r + 2 then oi z2 else sB s 6 i
theorem Kr.hs {r : Nat} {z0 z1 z2 : Int} (g : Kr s s' r z0 z1 z2) (h : HS s a b c d) : HS s' a b c d := h.of (g.1 0) (g.2.1 16) (fun i => g.2.2.1 1 i) (fun i => g.2.2.1 2 i)
set_option maxRecDepth 100000 in
set_option maxHeartbeats 4000000 in
theorem p14_1 (G : HS s a b c d) (ra : wb a) (rb : wb b) (rc : wb c) (rd : wb d) (k0 : sB s 6 0 = oi y0) (k1 : sB s 6 1 = oi y1) (k2 : sB s 6 2 = oi y2) (m0 : sB s 6 24 = 4000000000000000000) (m1 : sB s 6 25 = 4000000000000000000) (m2 : sB s 6 26 = 4000000000000000000) (b0 : bd y0) (b1 : bd y1) (b2 : bd y2)
    (hq : ∀ s' z, ((z = y1 + b.toInt ∨ z = y2 + d.toInt) ∧ z ≤ y1 + b.toInt ∧ z ≤ y2 + d.toInt) → Kr s s' 24 z (y0 + a.toInt) (y1 + c.toInt) → W (pj lw) 14 88 [.val (.ref p), .val (.int 1), .val (.int 576)] [] kk nn (ob H p s') Q) :
    W (pj lw) 14 60 [.val (.ref p), .val (.int 1), .val (.int 0)] [] kk nn (ob H p s) Q := by
  obtain ⟨⟨n3, hi⟩, hz', wa, wb', wc, wd⟩ := id G
  have hz := fun lo hi hh hn => G.z (lo := lo) (hi := hi) hh hn
  unfold bd at b0 b1 b2
  unfold wb at ra rb rc rd
  have e1 : sA s 1 1 = 1 := by rw [hz' 1 (by decide)]; rfl
  have e24 : sA s 1 24 = 1 := by rw [hz' 24 (by decide)]; rfl
  have e26 : sA s 1 26 = 1 := by rw [hz' 26 (by decide)]; rfl
  have e48 : sA s 1 48 = 1 := by rw [hz' 48 (by decide)]; rfl
  have i0 := (oi_inf (x := y0) (by omega)).2
  have i1 := (oi_inf (x := y1) (by omega)).2
  have i2 := (oi_inf (x := y2) (by omega)).2
  have f1 := eq_true (oi_inf (x := y0 + a.toInt) (by omega)).1
  have f2 := eq_true (oi_inf (x := y1 + b.toInt) (by omega)).1
  have f3 := eq_true (oi_inf (x := y1 + c.toInt) (by omega)).1
  have o1 : Int32.ofNat 1 = 1 := rfl
  have o24 : Int32.ofNat 24 = 24 := rfl
  have o26 : Int32.ofNat 26 = 26 := rfl
  have o48 : Int32.ofNat 48 = 48 := rfl
  have o576 : Int32.ofNat 576 = 576 := rfl
  by_cases q : y2 + d.toInt < y1 + b.toInt
  · have q' := eq_true ((oi_lt (x := y2 + d.toInt) (y := y1 + b.toInt) (by omega) (by omega)).2 q)
    refine (sk14 (lo := 0) (hi := 1) (by decide) 1 (by decide) (hz 0 1 (by decide) (by omega))).2 ?_
    rw [w14_60]; simp +decide only [o1, w14_61, w14_64, w14_67, w14_68, w14_71, w14_72, w14_73, w14_76, w14_77, w14_78, w14_79, w14_82, w14_85, c15, w15_0, w15_1, w15_3, w15_4, w15_5, w15_6, w15_8, w15_9, w15_11, w15_12, w15_15, w15_16, w15_17, w15_18, w15_20, w15_21, w15_22, w15_23, w15_24uu, w15_26, w15_28, w15_29, w15_32, w15_33, w15_37, w15_39, w15_40, w15_43, w15_44, w15_45, w15_46, w15_47uu, w15_49, w15_51, w15_52, w15_55, w15_56, w15_58, w15_59, w15_61, w15_62, w15_63, w15_64, w15_67, w15_68, w15_71, w15_72, w15_74, w15_75, w15_77, w15_78, w15_80, w15_81, isO_put, cmpL_lt, cmpL_eq, Option.toList_none, List.nil_append, true_and, and_true, or_true, ↓reduceIte, Nat.reduceAdd, Nat.reduceSub, Int32.reduceAdd, Int32.reduceSub, Int32.reduceMul, Int32.reduceToNatClampNeg, Int64.reduceAdd, Int64.reduceSub, Int64.reduceMul, g2, g3, g11, g16, ai1, ain1, ae1, ai2, ae2, ai6, aw6, ae6, as6, ain1, Int32.reduceDiv, Int32.reduceMod, hi, k0, m1, e1, wa, i0, oi_32, oi_add, f1]
    refine (sk14 (lo := 2) (hi := 24) (by decide) 22 (by decide) (by simp only [sA_uB]; exact hz 2 24 (by decide) (by omega))).2 ?_
    rw [w14_60]; simp +decide only [o24, w14_61, w14_64, w14_67, w14_68, w14_71, w14_72, w14_73, w14_76, w14_77, w14_78, w14_79, w14_82, w14_85, c15, w15_0, w15_1, w15_3, w15_4, w15_5, w15_6, w15_8, w15_9, w15_11, w15_12, w15_15, w15_16, w15_17, w15_18, w15_20, w15_21, w15_22, w15_23, w15_24uu, w15_26, w15_28, w15_29, w15_32, w15_33, w15_37, w15_39, w15_40, w15_43, w15_44, w15_45, w15_46, w15_47uu, w15_49, w15_51, w15_52, w15_55, w15_56, w15_58, w15_59, w15_61, w15_62, w15_63, w15_64, w15_67, w15_68, w15_71, w15_72, w15_74, w15_75, w15_77, w15_78, w15_80, w15_81, isO_put, cmpL_lt, cmpL_eq, sJ_uB, sA_uB, sB_uB, Option.toList_none, List.nil_append, true_and, and_true, or_true, ↓reduceIte, Nat.reduceAdd, Nat.reduceSub, Int32.reduceAdd, Int32.reduceSub, Int32.reduceMul, Int32.reduceToNatClampNeg, Int64.reduceAdd, Int64.reduceSub, Int64.reduceMul, g2, g3, g11, g16, ai1, ain1, ae1, ai2, ae2, ai6, aw6, ae6, as6, ain1, Int32.reduceDiv, Int32.reduceMod, hi, k1, m0, e24, wb', i1, oi_32, oi_add, f2]
    refine (sk14 (lo := 25) (hi := 26) (by decide) 1 (by decide) (by simp only [sA_uB]; exact hz 25 26 (by decide) (by omega))).2 ?_
    rw [w14_60]; simp +decide only [o26, w14_61, w14_64, w14_67, w14_68, w14_71, w14_72, w14_73, w14_76, w14_77, w14_78, w14_79, w14_82, w14_85, c15, w15_0, w15_1, w15_3, w15_4, w15_5, w15_6, w15_8, w15_9, w15_11, w15_12, w15_15, w15_16, w15_17, w15_18, w15_20, w15_21, w15_22, w15_23, w15_24uu, w15_26, w15_28, w15_29, w15_32, w15_33, w15_37, w15_39, w15_40, w15_43, w15_44, w15_45, w15_46, w15_47uu, w15_49, w15_51, w15_52, w15_55, w15_56, w15_58, w15_59, w15_61, w15_62, w15_63, w15_64, w15_67, w15_68, w15_71, w15_72, w15_74, w15_75, w15_77, w15_78, w15_80, w15_81, isO_put, cmpL_lt, cmpL_eq, sJ_uB, sA_uB, sB_uB, Option.toList_none, List.nil_append, true_and, and_true, or_true, ↓reduceIte, Nat.reduceAdd, Nat.reduceSub, Int32.reduceAdd, Int32.reduceSub, Int32.reduceMul, Int32.reduceToNatClampNeg, Int64.reduceAdd, Int64.reduceSub, Int64.reduceMul, g2, g3, g11, g16, ai1, ain1, ae1, ai2, ae2, ai6, aw6, ae6, as6, ain1, Int32.reduceDiv, Int32.reduceMod, hi, k1, m2, e26, wc, i1, oi_32, oi_add, f3]
    refine (sk14 (lo := 27) (hi := 48) (by decide) 21 (by decide) (by simp only [sA_uB]; exact hz 27 48 (by decide) (by omega))).2 ?_
    rw [w14_60]; simp +decide only [o48, w14_61, w14_64, w14_67, w14_68, w14_71, w14_72, w14_73, w14_76, w14_77, w14_78, w14_79, w14_82, w14_85, c15, w15_0, w15_1, w15_3, w15_4, w15_5, w15_6, w15_8, w15_9, w15_11, w15_12, w15_15, w15_16, w15_17, w15_18, w15_20, w15_21, w15_22, w15_23, w15_24uu, w15_26, w15_28, w15_29, w15_32, w15_33, w15_37, w15_39, w15_40, w15_43, w15_44, w15_45, w15_46, w15_47uu, w15_49, w15_51, w15_52, w15_55, w15_56, w15_58, w15_59, w15_61, w15_62, w15_63, w15_64, w15_67, w15_68, w15_71, w15_72, w15_74, w15_75, w15_77, w15_78, w15_80, w15_81, isO_put, cmpL_lt, cmpL_eq, sJ_uB, sA_uB, sB_uB, Option.toList_none, List.nil_append, true_and, and_true, or_true, ↓reduceIte, Nat.reduceAdd, Nat.reduceSub, Int32.reduceAdd, Int32.reduceSub, Int32.reduceMul, Int32.reduceToNatClampNeg, Int64.reduceAdd, Int64.reduceSub, Int64.reduceMul, g2, g3, g11, g16, ai1, ain1, ae1, ai2, ae2, ai6, aw6, ae6, as6, ain1, Int32.reduceDiv, Int32.reduceMod, hi, k2, e48, wd, i2, oi_32, oi_add, q']
    refine (sk14 (lo := 49) (hi := 576) (by decide) 527 (by decide) (by simp only [sA_uB]; exact hz 49 576 (by decide) (by omega))).2 ?_
    rw [w14_60]
    simp +decide only [o576, w14_61, w14_64, ↓reduceIte]
    refine hq _ (y2 + d.toInt) ⟨Or.inr rfl, by omega, by omega⟩ ⟨fun k => by simp only [sI_uB], fun k => by simp only [sJ_uB], fun t i => by simp only [sA_uB], fun i => ?_⟩
    simp only [sB_uB, true_and]
    by_cases g0 : i = 24
    · simp [g0]
    · by_cases g1 : i = 25
      · simp [g1]
      · by_cases g2 : i = 26 <;> simp [g0, g1, g2]

  · have q' := eq_false (fun w => q ((oi_lt (x := y2 + d.toInt) (y := y1 + b.toInt) (by omega) (by omega)).1 w))
    refine (sk14 (lo := 0) (hi := 1) (by decide) 1 (by decide) (hz 0 1 (by decide) (by omega))).2 ?_
    rw [w14_60]; simp +decide only [o1, w14_61, w14_64, w14_67, w14_68, w14_71, w14_72, w14_73, w14_76, w14_77, w14_78, w14_79, w14_82, w14_85, c15, w15_0, w15_1, w15_3, w15_4, w15_5, w15_6, w15_8, w15_9, w15_11, w15_12, w15_15, w15_16, w15_17, w15_18, w15_20, w15_21, w15_22, w15_23, w15_24uu, w15_26, w15_28, w15_29, w15_32, w15_33, w15_37, w15_39, w15_40, w15_43, w15_44, w15_45, w15_46, w15_47uu, w15_49, w15_51, w15_52, w15_55, w15_56, w15_58, w15_59, w15_61, w15_62, w15_63, w15_64, w15_67, w15_68, w15_71, w15_72, w15_74, w15_75, w15_77, w15_78, w15_80, w15_81, isO_put, cmpL_lt, cmpL_eq, Option.toList_none, List.nil_append, true_and, and_true, or_true, ↓reduceIte, Nat.reduceAdd, Nat.reduceSub, Int32.reduceAdd, Int32.reduceSub, Int32.reduceMul, Int32.reduceToNatClampNeg, Int64.reduceAdd, Int64.reduceSub, Int64.reduceMul, g2, g3, g11, g16, ai1, ain1, ae1, ai2, ae2, ai6, aw6, ae6, as6, ain1, Int32.reduceDiv, Int32.reduceMod, hi, k0, m1, e1, wa, i0, oi_32, oi_add, f1]
    refine (sk14 (lo := 2) (hi := 24) (by decide) 22 (by decide) (by simp only [sA_uB]; exact hz 2 24 (by decide) (by omega))).2 ?_
    rw [w14_60]; simp +decide only [o24, w14_61, w14_64, w14_67, w14_68, w14_71, w14_72, w14_73, w14_76, w14_77, w14_78, w14_79, w14_82, w14_85, c15, w15_0, w15_1, w15_3, w15_4, w15_5, w15_6, w15_8, w15_9, w15_11, w15_12, w15_15, w15_16, w15_17, w15_18, w15_20, w15_21, w15_22, w15_23, w15_24uu, w15_26, w15_28, w15_29, w15_32, w15_33, w15_37, w15_39, w15_40, w15_43, w15_44, w15_45, w15_46, w15_47uu, w15_49, w15_51, w15_52, w15_55, w15_56, w15_58, w15_59, w15_61, w15_62, w15_63, w15_64, w15_67, w15_68, w15_71, w15_72, w15_74, w15_75, w15_77, w15_78, w15_80, w15_81, isO_put, cmpL_lt, cmpL_eq, sJ_uB, sA_uB, sB_uB, Option.toList_none, List.nil_append, true_and, and_true, or_true, ↓reduceIte, Nat.reduceAdd, Nat.reduceSub, Int32.reduceAdd, Int32.reduceSub, Int32.reduceMul, Int32.reduceToNatClampNeg, Int64.reduceAdd, Int64.reduceSub, Int64.reduceMul, g2, g3, g11, g16, ai1, ain1, ae1, ai2, ae2, ai6, aw6, ae6, as6, ain1, Int32.reduceDiv, Int32.reduceMod, hi, k1, m0, e24, wb', i1, oi_32, oi_add, f2]
    refine (sk14 (lo := 25) (hi := 26) (by decide) 1 (by decide) (by simp only [sA_uB]; exact hz 25 26 (by decide) (by omega))).2 ?_
    rw [w14_60]; simp +decide only [o26, w14_61, w14_64, w14_67, w14_68, w14_71, w14_72, w14_73, w14_76, w14_77, w14_78, w14_79, w14_82, w14_85, c15, w15_0, w15_1, w15_3, w15_4, w15_5, w15_6, w15_8, w15_9, w15_11, w15_12, w15_15, w15_16, w15_17, w15_18, w15_20, w15_21, w15_22, w15_23, w15_24uu, w15_26, w15_28, w15_29, w15_32, w15_33, w15_37, w15_39, w15_40, w15_43, w15_44, w15_45, w15_46, w15_47uu, w15_49, w15_51, w15_52, w15_55, w15_56, w15_58, w15_59, w15_61, w15_62, w15_63, w15_64, w15_67, w15_68, w15_71, w15_72, w15_74, w15_75, w15_77, w15_78, w15_80, w15_81, isO_put, cmpL_lt, cmpL_eq, sJ_uB, sA_uB, sB_uB, Option.toList_none, List.nil_append, true_and, and_true, or_true, ↓reduceIte, Nat.reduceAdd, Nat.reduceSub, Int32.reduceAdd, Int32.reduceSub, Int32.reduceMul, Int32.reduceToNatClampNeg, Int64.reduceAdd, Int64.reduceSub, Int64.reduceMul, g2, g3, g11, g16, ai1, ain1, ae1, ai2, ae2, ai6, aw6, ae6, as6, ain1, Int32.reduceDiv, Int32.reduceMod, hi, k1, m2, e26, wc, i1, oi_32, oi_add, f3]
    refine (sk14 (lo := 27) (hi := 48) (by decide) 21 (by decide) (by simp only [sA_uB]; exact hz 27 48 (by decide) (by omega))).2 ?_
    rw [w14_60]; simp +decide only [o48, w14_61, w14_64, w14_67, w14_68, w14_71, w14_72, w14_73, w14_76, w14_77, w14_78, w14_79, w14_82, w14_85, c15, w15_0, w15_1, w15_3, w15_4, w15_5, w15_6, w15_8, w15_9, w15_11, w15_12, w15_15, w15_16, w15_17, w15_18, w15_20, w15_21, w15_22, w15_23, w15_24uu, w15_26, w15_28, w15_29, w15_32, w15_33, w15_37, w15_39, w15_40, w15_43, w15_44, w15_45, w15_46, w15_47uu, w15_49, w15_51, w15_52, w15_55, w15_56, w15_58, w15_59, w15_61, w15_62, w15_63, w15_64, w15_81, isO_put, cmpL_lt, cmpL_eq, sJ_uB, sA_uB, sB_uB, Option.toList_none, List.nil_append, true_and, and_true, or_true, ↓reduceIte, Nat.reduceAdd, Nat.reduceSub, Int32.reduceAdd, Int32.reduceSub, Int32.reduceMul, Int32.reduceToNatClampNeg, Int64.reduceAdd, Int64.reduceSub, Int64.reduceMul, g2, g3, g11, g16, ai1, ain1, ae1, ai2, ae2, ai6, ae6, ain1, Int32.reduceDiv, Int32.reduceMod, hi, k2, e48, wd, i2, oi_32, oi_add, q']
    refine (sk14 (lo := 49) (hi := 576) (by decide) 527 (by decide) (by simp only [sA_uB]; exact hz 49 576 (by decide) (by omega))).2 ?_
    rw [w14_60]
    simp +decide only [o576, w14_61, w14_64, ↓reduceIte]
    refine hq _ (y1 + b.toInt) ⟨Or.inl rfl, by omega, by omega⟩ ⟨fun k => by simp only [sI_uB], fun k => by simp only [sJ_uB], fun t i => by simp only [sA_uB], fun i => ?_⟩
    simp only [sB_uB, true_and]
    by_cases g0 : i = 24
    · simp [g0]
    · by_cases g1 : i = 25
      · simp [g1]
      · by_cases g2 : i = 26 <;> simp [g0, g1, g2]

set_option maxRecDepth 100000 in
set_option maxHeartbeats 4000000 in
theorem p14_2 (G : HS s a b c d) (ra : wb a) (rb : wb b) (rc : wb c) (rd : wb d) (k0 : sB s 6 24 = oi y0) (k1 : sB s 6 25 = oi y1) (k2 : sB s 6 26 = oi y2) (m0 : sB s 6 48 = 4000000000000000000) (m1 : sB s 6 49 = 4000000000000000000) (m2 : sB s 6 50 = 4000000000000000000) (b0 : bd y0) (b1 : bd y1) (b2 : bd y2)
    (hq : ∀ s' z, ((z = y1 + b.toInt ∨ z = y2 + d.toInt) ∧ z ≤ y1 + b.toInt ∧ z ≤ y2 + d.toInt) → Kr s s' 48 z (y0 + a.toInt) (y1 + c.toInt) → W (pj lw) 14 88 [.val (.ref p), .val (.int 2), .val (.int 576)] [] kk nn (ob H p s') Q) :
    W (pj lw) 14 60 [.val (.ref p), .val (.int 2), .val (.int 0)] [] kk nn (ob H p s) Q := by
  obtain ⟨⟨n3, hi⟩, hz', wa, wb', wc, wd⟩ := id G
  have hz := fun lo hi hh hn => G.z (lo := lo) (hi := hi) hh hn
  unfold bd at b0 b1 b2
  unfold wb at ra rb rc rd
  have e1 : sA s 1 1 = 1 := by rw [hz' 1 (by decide)]; rfl
  have e24 : sA s 1 24 = 1 := by rw [hz' 24 (by decide)]; rfl
  have e26 : sA s 1 26 = 1 := by rw [hz' 26 (by decide)]; rfl
  have e48 : sA s 1 48 = 1 := by rw [hz' 48 (by decide)]; rfl
  have i0 := (oi_inf (x := y0) (by omega)).2
  have i1 := (oi_inf (x := y1) (by omega)).2
  have i2 := (oi_inf (x := y2) (by omega)).2
  have f1 := eq_true (oi_inf (x := y0 + a.toInt) (by omega)).1
  have f2 := eq_true (oi_inf (x := y1 + b.toInt) (by omega)).1
  have f3 := eq_true (oi_inf (x := y1 + c.toInt) (by omega)).1
  have o1 : Int32.ofNat 1 = 1 := rfl
  have o24 : Int32.ofNat 24 = 24 := rfl
  have o26 : Int32.ofNat 26 = 26 := rfl
  have o48 : Int32.ofNat 48 = 48 := rfl
  have o576 : Int32.ofNat 576 = 576 := rfl
  by_cases q : y2 + d.toInt < y1 + b.toInt
  · have q' := eq_true ((oi_lt (x := y2 + d.toInt) (y := y1 + b.toInt) (by omega) (by omega)).2 q)
    refine (sk14 (lo := 0) (hi := 1) (by decide) 1 (by decide) (hz 0 1 (by decide) (by omega))).2 ?_
    rw [w14_60]; simp +decide only [o1, w14_61, w14_64, w14_67, w14_68, w14_71, w14_72, w14_73, w14_76, w14_77, w14_78, w14_79, w14_82, w14_85, c15, w15_0, w15_1, w15_3, w15_4, w15_5, w15_6, w15_8, w15_9, w15_11, w15_12, w15_15, w15_16, w15_17, w15_18, w15_20, w15_21, w15_22, w15_23, w15_24uu, w15_26, w15_28, w15_29, w15_32, w15_33, w15_37, w15_39, w15_40, w15_43, w15_44, w15_45, w15_46, w15_47uu, w15_49, w15_51, w15_52, w15_55, w15_56, w15_58, w15_59, w15_61, w15_62, w15_63, w15_64, w15_67, w15_68, w15_71, w15_72, w15_74, w15_75, w15_77, w15_78, w15_80, w15_81, isO_put, cmpL_lt, cmpL_eq, Option.toList_none, List.nil_append, true_and, and_true, or_true, ↓reduceIte, Nat.reduceAdd, Nat.reduceSub, Int32.reduceAdd, Int32.reduceSub, Int32.reduceMul, Int32.reduceToNatClampNeg, Int64.reduceAdd, Int64.reduceSub, Int64.reduceMul, g2, g3, g11, g16, ai1, ain1, ae1, ai2, ae2, ai6, aw6, ae6, as6, ain1, Int32.reduceDiv, Int32.reduceMod, hi, k0, m1, e1, wa, i0, oi_32, oi_add, f1]
    refine (sk14 (lo := 2) (hi := 24) (by decide) 22 (by decide) (by simp only [sA_uB]; exact hz 2 24 (by decide) (by omega))).2 ?_
    rw [w14_60]; simp +decide only [o24, w14_61, w14_64, w14_67, w14_68, w14_71, w14_72, w14_73, w14_76, w14_77, w14_78, w14_79, w14_82, w14_85, c15, w15_0, w15_1, w15_3, w15_4, w15_5, w15_6, w15_8, w15_9, w15_11, w15_12, w15_15, w15_16, w15_17, w15_18, w15_20, w15_21, w15_22, w15_23, w15_24uu, w15_26, w15_28, w15_29, w15_32, w15_33, w15_37, w15_39, w15_40, w15_43, w15_44, w15_45, w15_46, w15_47uu, w15_49, w15_51, w15_52, w15_55, w15_56, w15_58, w15_59, w15_61, w15_62, w15_63, w15_64, w15_67, w15_68, w15_71, w15_72, w15_74, w15_75, w15_77, w15_78, w15_80, w15_81, isO_put, cmpL_lt, cmpL_eq, sJ_uB, sA_uB, sB_uB, Option.toList_none, List.nil_append, true_and, and_true, or_true, ↓reduceIte, Nat.reduceAdd, Nat.reduceSub, Int32.reduceAdd, Int32.reduceSub, Int32.reduceMul, Int32.reduceToNatClampNeg, Int64.reduceAdd, Int64.reduceSub, Int64.reduceMul, g2, g3, g11, g16, ai1, ain1, ae1, ai2, ae2, ai6, aw6, ae6, as6, ain1, Int32.reduceDiv, Int32.reduceMod, hi, k1, m0, e24, wb', i1, oi_32, oi_add, f2]
    refine (sk14 (lo := 25) (hi := 26) (by decide) 1 (by decide) (by simp only [sA_uB]; exact hz 25 26 (by decide) (by omega))).2 ?_
    rw [w14_60]; simp +decide only [o26, w14_61, w14_64, w14_67, w14_68, w14_71, w14_72, w14_73, w14_76, w14_77, w14_78, w14_79, w14_82, w14_85, c15, w15_0, w15_1, w15_3, w15_4, w15_5, w15_6, w15_8, w15_9, w15_11, w15_12, w15_15, w15_16, w15_17, w15_18, w15_20, w15_21, w15_22, w15_23, w15_24uu, w15_26, w15_28, w15_29, w15_32, w15_33, w15_37, w15_39, w15_40, w15_43, w15_44, w15_45, w15_46, w15_47uu, w15_49, w15_51, w15_52, w15_55, w15_56, w15_58, w15_59, w15_61, w15_62, w15_63, w15_64, w15_67, w15_68, w15_71, w15_72, w15_74, w15_75, w15_77, w15_78, w15_80, w15_81, isO_put, cmpL_lt, cmpL_eq, sJ_uB, sA_uB, sB_uB, Option.toList_none, List.nil_append, true_and, and_true, or_true, ↓reduceIte, Nat.reduceAdd, Nat.reduceSub, Int32.reduceAdd, Int32.reduceSub, Int32.reduceMul, Int32.reduceToNatClampNeg, Int64.reduceAdd, Int64.reduceSub, Int64.reduceMul, g2, g3, g11, g16, ai1, ain1, ae1, ai2, ae2, ai6, aw6, ae6, as6, ain1, Int32.reduceDiv, Int32.reduceMod, hi, k1, m2, e26, wc, i1, oi_32, oi_add, f3]
    refine (sk14 (lo := 27) (hi := 48) (by decide) 21 (by decide) (by simp only [sA_uB]; exact hz 27 48 (by decide) (by omega))).2 ?_
    rw [w14_60]; simp +decide only [o48, w14_61, w14_64, w14_67, w14_68, w14_71, w14_72, w14_73, w14_76, w14_77, w14_78, w14_79, w14_82, w14_85, c15, w15_0, w15_1, w15_3, w15_4, w15_5, w15_6, w15_8, w15_9, w15_11, w15_12, w15_15, w15_16, w15_17, w15_18, w15_20, w15_21, w15_22, w15_23, w15_24uu, w15_26, w15_28, w15_29, w15_32, w15_33, w15_37, w15_39, w15_40, w15_43, w15_44, w15_45, w15_46, w15_47uu, w15_49, w15_51, w15_52, w15_55, w15_56, w15_58, w15_59, w15_61, w15_62, w15_63, w15_64, w15_67, w15_68, w15_71, w15_72, w15_74, w15_75, w15_77, w15_78, w15_80, w15_81, isO_put, cmpL_lt, cmpL_eq, sJ_uB, sA_uB, sB_uB, Option.toList_none, List.nil_append, true_and, and_true, or_true, ↓reduceIte, Nat.reduceAdd, Nat.reduceSub, Int32.reduceAdd, Int32.reduceSub, Int32.reduceMul, Int32.reduceToNatClampNeg, Int64.reduceAdd, Int64.reduceSub, Int64.reduceMul, g2, g3, g11, g16, ai1, ain1, ae1, ai2, ae2, ai6, aw6, ae6, as6, ain1, Int32.reduceDiv, Int32.reduceMod, hi, k2, e48, wd, i2, oi_32, oi_add, q']
    refine (sk14 (lo := 49) (hi := 576) (by decide) 527 (by decide) (by simp only [sA_uB]; exact hz 49 576 (by decide) (by omega))).2 ?_
    rw [w14_60]
    simp +decide only [o576, w14_61, w14_64, ↓reduceIte]
    refine hq _ (y2 + d.toInt) ⟨Or.inr rfl, by omega, by omega⟩ ⟨fun k => by simp only [sI_uB], fun k => by simp only [sJ_uB], fun t i => by simp only [sA_uB], fun i => ?_⟩
    simp only [sB_uB, true_and]
    by_cases g0 : i = 48
    · simp [g0]
    · by_cases g1 : i = 49
      · simp [g1]
      · by_cases g2 : i = 50 <;> simp [g0, g1, g2]

  · have q' := eq_false (fun w => q ((oi_lt (x := y2 + d.toInt) (y := y1 + b.toInt) (by omega) (by omega)).1 w))
    refine (sk14 (lo := 0) (hi := 1) (by decide) 1 (by decide) (hz 0 1 (by decide) (by omega))).2 ?_
    rw [w14_60]; simp +decide only [o1, w14_61, w14_64, w14_67, w14_68, w14_71, w14_72, w14_73, w14_76, w14_77, w14_78, w14_79, w14_82, w14_85, c15, w15_0, w15_1, w15_3, w15_4, w15_5, w15_6, w15_8, w15_9, w15_11, w15_12, w15_15, w15_16, w15_17, w15_18, w15_20, w15_21, w15_22, w15_23, w15_24uu, w15_26, w15_28, w15_29, w15_32, w15_33, w15_37, w15_39, w15_40, w15_43, w15_44, w15_45, w15_46, w15_47uu, w15_49, w15_51, w15_52, w15_55, w15_56, w15_58, w15_59, w15_61, w15_62, w15_63, w15_64, w15_67, w15_68, w15_71, w15_72, w15_74, w15_75, w15_77, w15_78, w15_80, w15_81, isO_put, cmpL_lt, cmpL_eq, Option.toList_none, List.nil_append, true_and, and_true, or_true, ↓reduceIte, Nat.reduceAdd, Nat.reduceSub, Int32.reduceAdd, Int32.reduceSub, Int32.reduceMul, Int32.reduceToNatClampNeg, Int64.reduceAdd, Int64.reduceSub, Int64.reduceMul, g2, g3, g11, g16, ai1, ain1, ae1, ai2, ae2, ai6, aw6, ae6, as6, ain1, Int32.reduceDiv, Int32.reduceMod, hi, k0, m1, e1, wa, i0, oi_32, oi_add, f1]
    refine (sk14 (lo := 2) (hi := 24) (by decide) 22 (by decide) (by simp only [sA_uB]; exact hz 2 24 (by decide) (by omega))).2 ?_
    rw [w14_60]; simp +decide only [o24, w14_61, w14_64, w14_67, w14_68, w14_71, w14_72, w14_73, w14_76, w14_77, w14_78, w14_79, w14_82, w14_85, c15, w15_0, w15_1, w15_3, w15_4, w15_5, w15_6, w15_8, w15_9, w15_11, w15_12, w15_15, w15_16, w15_17, w15_18, w15_20, w15_21, w15_22, w15_23, w15_24uu, w15_26, w15_28, w15_29, w15_32, w15_33, w15_37, w15_39, w15_40, w15_43, w15_44, w15_45, w15_46, w15_47uu, w15_49, w15_51, w15_52, w15_55, w15_56, w15_58, w15_59, w15_61, w15_62, w15_63, w15_64, w15_67, w15_68, w15_71, w15_72, w15_74, w15_75, w15_77, w15_78, w15_80, w15_81, isO_put, cmpL_lt, cmpL_eq, sJ_uB, sA_uB, sB_uB, Option.toList_none, List.nil_append, true_and, and_true, or_true, ↓reduceIte, Nat.reduceAdd, Nat.reduceSub, Int32.reduceAdd, Int32.reduceSub, Int32.reduceMul, Int32.reduceToNatClampNeg, Int64.reduceAdd, Int64.reduceSub, Int64.reduceMul, g2, g3, g11, g16, ai1, ain1, ae1, ai2, ae2, ai6, aw6, ae6, as6, ain1, Int32.reduceDiv, Int32.reduceMod, hi, k1, m0, e24, wb', i1, oi_32, oi_add, f2]
    refine (sk14 (lo := 25) (hi := 26) (by decide) 1 (by decide) (by simp only [sA_uB]; exact hz 25 26 (by decide) (by omega))).2 ?_
    rw [w14_60]; simp +decide only [o26, w14_61, w14_64, w14_67, w14_68, w14_71, w14_72, w14_73, w14_76, w14_77, w14_78, w14_79, w14_82, w14_85, c15, w15_0, w15_1, w15_3, w15_4, w15_5, w15_6, w15_8, w15_9, w15_11, w15_12, w15_15, w15_16, w15_17, w15_18, w15_20, w15_21, w15_22, w15_23, w15_24uu, w15_26, w15_28, w15_29, w15_32, w15_33, w15_37, w15_39, w15_40, w15_43, w15_44, w15_45, w15_46, w15_47uu, w15_49, w15_51, w15_52, w15_55, w15_56, w15_58, w15_59, w15_61, w15_62, w15_63, w15_64, w15_67, w15_68, w15_71, w15_72, w15_74, w15_75, w15_77, w15_78, w15_80, w15_81, isO_put, cmpL_lt, cmpL_eq, sJ_uB, sA_uB, sB_uB, Option.toList_none, List.nil_append, true_and, and_true, or_true, ↓reduceIte, Nat.reduceAdd, Nat.reduceSub, Int32.reduceAdd, Int32.reduceSub, Int32.reduceMul, Int32.reduceToNatClampNeg, Int64.reduceAdd, Int64.reduceSub, Int64.reduceMul, g2, g3, g11, g16, ai1, ain1, ae1, ai2, ae2, ai6, aw6, ae6, as6, ain1, Int32.reduceDiv, Int32.reduceMod, hi, k1, m2, e26, wc, i1, oi_32, oi_add, f3]
    refine (sk14 (lo := 27) (hi := 48) (by decide) 21 (by decide) (by simp only [sA_uB]; exact hz 27 48 (by decide) (by omega))).2 ?_
    rw [w14_60]; simp +decide only [o48, w14_61, w14_64, w14_67, w14_68, w14_71, w14_72, w14_73, w14_76, w14_77, w14_78, w14_79, w14_82, w14_85, c15, w15_0, w15_1, w15_3, w15_4, w15_5, w15_6, w15_8, w15_9, w15_11, w15_12, w15_15, w15_16, w15_17, w15_18, w15_20, w15_21, w15_22, w15_23, w15_24uu, w15_26, w15_28, w15_29, w15_32, w15_33, w15_37, w15_39, w15_40, w15_43, w15_44, w15_45, w15_46, w15_47uu, w15_49, w15_51, w15_52, w15_55, w15_56, w15_58, w15_59, w15_61, w15_62, w15_63, w15_64, w15_81, isO_put, cmpL_lt, cmpL_eq, sJ_uB, sA_uB, sB_uB, Option.toList_none, List.nil_append, true_and, and_true, or_true, ↓reduceIte, Nat.reduceAdd, Nat.reduceSub, Int32.reduceAdd, Int32.reduceSub, Int32.reduceMul, Int32.reduceToNatClampNeg, Int64.reduceAdd, Int64.reduceSub, Int64.reduceMul, g2, g3, g11, g16, ai1, ain1, ae1, ai2, ae2, ai6, ae6, ain1, Int32.reduceDiv, Int32.reduceMod, hi, k2, e48, wd, i2, oi_32, oi_add, q']
    refine (sk14 (lo := 49) (hi := 576) (by decide) 527 (by decide) (by simp only [sA_uB]; exact hz 49 576 (by decide) (by omega))).2 ?_
    rw [w14_60]
    simp +decide only [o576, w14_61, w14_64, ↓reduceIte]
    refine hq _ (y1 + b.toInt) ⟨Or.inl rfl, by omega, by omega⟩ ⟨fun k => by simp only [sI_uB], fun k => by simp only [sJ_uB], fun t i => by simp only [sA_uB], fun i => ?_⟩
    simp only [sB_uB, true_and]
    by_cases g0 : i = 48
    · simp [g0]
    · by_cases g1 : i = 49
      · simp [g1]
      · by_cases g2 : i = 50 <;> simp [g0, g1, g2]

set_option maxRecDepth 100000 in
set_option maxHeartbeats 4000000 in
theorem p14_3 (G : HS s a b c d) (ra : wb a) (rb : wb b) (rc : wb c) (rd : wb d) (k0 : sB s 6 48 = oi y0) (k1 : sB s 6 49 = oi y1) (k2 : sB s 6 50 = oi y2) (m0 : sB s 6 72 = 4000000000000000000) (m1 : sB s 6 73 = 4000000000000000000) (m2 : sB s 6 74 = 4000000000000000000) (b0 : bd y0) (b1 : bd y1) (b2 : bd y2)
    (hq : ∀ s' z, ((z = y1 + b.toInt ∨ z = y2 + d.toInt) ∧ z ≤ y1 + b.toInt ∧ z ≤ y2 + d.toInt) → Kr s s' 72 z (y0 + a.toInt) (y1 + c.toInt) → W (pj lw) 14 88 [.val (.ref p), .val (.int 3), .val (.int 576)] [] kk nn (ob H p s') Q) :
    W (pj lw) 14 60 [.val (.ref p), .val (.int 3), .val (.int 0)] [] kk nn (ob H p s) Q := by
  obtain ⟨⟨n3, hi⟩, hz', wa, wb', wc, wd⟩ := id G
  have hz := fun lo hi hh hn => G.z (lo := lo) (hi := hi) hh hn
  unfold bd at b0 b1 b2
  unfold wb at ra rb rc rd
  have e1 : sA s 1 1 = 1 := by rw [hz' 1 (by decide)]; rfl
  have e24 : sA s 1 24 = 1 := by rw [hz' 24 (by decide)]; rfl
  have e26 : sA s 1 26 = 1 := by rw [hz' 26 (by decide)]; rfl
  have e48 : sA s 1 48 = 1 := by rw [hz' 48 (by decide)]; rfl
  have i0 := (oi_inf (x := y0) (by omega)).2
  have i1 := (oi_inf (x := y1) (by omega)).2
  have i2 := (oi_inf (x := y2) (by omega)).2
  have f1 := eq_true (oi_inf (x := y0 + a.toInt) (by omega)).1
  have f2 := eq_true (oi_inf (x := y1 + b.toInt) (by omega)).1
  have f3 := eq_true (oi_inf (x := y1 + c.toInt) (by omega)).1
  have o1 : Int32.ofNat 1 = 1 := rfl
  have o24 : Int32.ofNat 24 = 24 := rfl
  have o26 : Int32.ofNat 26 = 26 := rfl
  have o48 : Int32.ofNat 48 = 48 := rfl
  have o576 : Int32.ofNat 576 = 576 := rfl
  by_cases q : y2 + d.toInt < y1 + b.toInt
  · have q' := eq_true ((oi_lt (x := y2 + d.toInt) (y := y1 + b.toInt) (by omega) (by omega)).2 q)
    refine (sk14 (lo := 0) (hi := 1) (by decide) 1 (by decide) (hz 0 1 (by decide) (by omega))).2 ?_
    rw [w14_60]; simp +decide only [o1, w14_61, w14_64, w14_67, w14_68, w14_71, w14_72, w14_73, w14_76, w14_77, w14_78, w14_79, w14_82, w14_85, c15, w15_0, w15_1, w15_3, w15_4, w15_5, w15_6, w15_8, w15_9, w15_11, w15_12, w15_15, w15_16, w15_17, w15_18, w15_20, w15_21, w15_22, w15_23, w15_24uu, w15_26, w15_28, w15_29, w15_32, w15_33, w15_37, w15_39, w15_40, w15_43, w15_44, w15_45, w15_46, w15_47uu, w15_49, w15_51, w15_52, w15_55, w15_56, w15_58, w15_59, w15_61, w15_62, w15_63, w15_64, w15_67, w15_68, w15_71, w15_72, w15_74, w15_75, w15_77, w15_78, w15_80, w15_81, isO_put, cmpL_lt, cmpL_eq, Option.toList_none, List.nil_append, true_and, and_true, or_true, ↓reduceIte, Nat.reduceAdd, Nat.reduceSub, Int32.reduceAdd, Int32.reduceSub, Int32.reduceMul, Int32.reduceToNatClampNeg, Int64.reduceAdd, Int64.reduceSub, Int64.reduceMul, g2, g3, g11, g16, ai1, ain1, ae1, ai2, ae2, ai6, aw6, ae6, as6, ain1, Int32.reduceDiv, Int32.reduceMod, hi, k0, m1, e1, wa, i0, oi_32, oi_add, f1]
    refine (sk14 (lo := 2) (hi := 24) (by decide) 22 (by decide) (by simp only [sA_uB]; exact hz 2 24 (by decide) (by omega))).2 ?_
    rw [w14_60]; simp +decide only [o24, w14_61, w14_64, w14_67, w14_68, w14_71, w14_72, w14_73, w14_76, w14_77, w14_78, w14_79, w14_82, w14_85, c15, w15_0, w15_1, w15_3, w15_4, w15_5, w15_6, w15_8, w15_9, w15_11, w15_12, w15_15, w15_16, w15_17, w15_18, w15_20, w15_21, w15_22, w15_23, w15_24uu, w15_26, w15_28, w15_29, w15_32, w15_33, w15_37, w15_39, w15_40, w15_43, w15_44, w15_45, w15_46, w15_47uu, w15_49, w15_51, w15_52, w15_55, w15_56, w15_58, w15_59, w15_61, w15_62, w15_63, w15_64, w15_67, w15_68, w15_71, w15_72, w15_74, w15_75, w15_77, w15_78, w15_80, w15_81, isO_put, cmpL_lt, cmpL_eq, sJ_uB, sA_uB, sB_uB, Option.toList_none, List.nil_append, true_and, and_true, or_true, ↓reduceIte, Nat.reduceAdd, Nat.reduceSub, Int32.reduceAdd, Int32.reduceSub, Int32.reduceMul, Int32.reduceToNatClampNeg, Int64.reduceAdd, Int64.reduceSub, Int64.reduceMul, g2, g3, g11, g16, ai1, ain1, ae1, ai2, ae2, ai6, aw6, ae6, as6, ain1, Int32.reduceDiv, Int32.reduceMod, hi, k1, m0, e24, wb', i1, oi_32, oi_add, f2]
    refine (sk14 (lo := 25) (hi := 26) (by decide) 1 (by decide) (by simp only [sA_uB]; exact hz 25 26 (by decide) (by omega))).2 ?_
    rw [w14_60]; simp +decide only [o26, w14_61, w14_64, w14_67, w14_68, w14_71, w14_72, w14_73, w14_76, w14_77, w14_78, w14_79, w14_82, w14_85, c15, w15_0, w15_1, w15_3, w15_4, w15_5, w15_6, w15_8, w15_9, w15_11, w15_12, w15_15, w15_16, w15_17, w15_18, w15_20, w15_21, w15_22, w15_23, w15_24uu, w15_26, w15_28, w15_29, w15_32, w15_33, w15_37, w15_39, w15_40, w15_43, w15_44, w15_45, w15_46, w15_47uu, w15_49, w15_51, w15_52, w15_55, w15_56, w15_58, w15_59, w15_61, w15_62, w15_63, w15_64, w15_67, w15_68, w15_71, w15_72, w15_74, w15_75, w15_77, w15_78, w15_80, w15_81, isO_put, cmpL_lt, cmpL_eq, sJ_uB, sA_uB, sB_uB, Option.toList_none, List.nil_append, true_and, and_true, or_true, ↓reduceIte, Nat.reduceAdd, Nat.reduceSub, Int32.reduceAdd, Int32.reduceSub, Int32.reduceMul, Int32.reduceToNatClampNeg, Int64.reduceAdd, Int64.reduceSub, Int64.reduceMul, g2, g3, g11, g16, ai1, ain1, ae1, ai2, ae2, ai6, aw6, ae6, as6, ain1, Int32.reduceDiv, Int32.reduceMod, hi, k1, m2, e26, wc, i1, oi_32, oi_add, f3]
    refine (sk14 (lo := 27) (hi := 48) (by decide) 21 (by decide) (by simp only [sA_uB]; exact hz 27 48 (by decide) (by omega))).2 ?_
    rw [w14_60]; simp +decide only [o48, w14_61, w14_64, w14_67, w14_68, w14_71, w14_72, w14_73, w14_76, w14_77, w14_78, w14_79, w14_82, w14_85, c15, w15_0, w15_1, w15_3, w15_4, w15_5, w15_6, w15_8, w15_9, w15_11, w15_12, w15_15, w15_16, w15_17, w15_18, w15_20, w15_21, w15_22, w15_23, w15_24uu, w15_26, w15_28, w15_29, w15_32, w15_33, w15_37, w15_39, w15_40, w15_43, w15_44, w15_45, w15_46, w15_47uu, w15_49, w15_51, w15_52, w15_55, w15_56, w15_58, w15_59, w15_61, w15_62, w15_63, w15_64, w15_67, w15_68, w15_71, w15_72, w15_74, w15_75, w15_77, w15_78, w15_80, w15_81, isO_put, cmpL_lt, cmpL_eq, sJ_uB, sA_uB, sB_uB, Option.toList_none, List.nil_append, true_and, and_true, or_true, ↓reduceIte, Nat.reduceAdd, Nat.reduceSub, Int32.reduceAdd, Int32.reduceSub, Int32.reduceMul, Int32.reduceToNatClampNeg, Int64.reduceAdd, Int64.reduceSub, Int64.reduceMul, g2, g3, g11, g16, ai1, ain1, ae1, ai2, ae2, ai6, aw6, ae6, as6, ain1, Int32.reduceDiv, Int32.reduceMod, hi, k2, e48, wd, i2, oi_32, oi_add, q']
    refine (sk14 (lo := 49) (hi := 576) (by decide) 527 (by decide) (by simp only [sA_uB]; exact hz 49 576 (by decide) (by omega))).2 ?_
    rw [w14_60]
    simp +decide only [o576, w14_61, w14_64, ↓reduceIte]
    refine hq _ (y2 + d.toInt) ⟨Or.inr rfl, by omega, by omega⟩ ⟨fun k => by simp only [sI_uB], fun k => by simp only [sJ_uB], fun t i => by simp only [sA_uB], fun i => ?_⟩
    simp only [sB_uB, true_and]
    by_cases g0 : i = 72
    · simp [g0]
    · by_cases g1 : i = 73
      · simp [g1]
      · by_cases g2 : i = 74 <;> simp [g0, g1, g2]

  · have q' := eq_false (fun w => q ((oi_lt (x := y2 + d.toInt) (y := y1 + b.toInt) (by omega) (by omega)).1 w))
    refine (sk14 (lo := 0) (hi := 1) (by decide) 1 (by decide) (hz 0 1 (by decide) (by omega))).2 ?_
    rw [w14_60]; simp +decide only [o1, w14_61, w14_64, w14_67, w14_68, w14_71, w14_72, w14_73, w14_76, w14_77, w14_78, w14_79, w14_82, w14_85, c15, w15_0, w15_1, w15_3, w15_4, w15_5, w15_6, w15_8, w15_9, w15_11, w15_12, w15_15, w15_16, w15_17, w15_18, w15_20, w15_21, w15_22, w15_23, w15_24uu, w15_26, w15_28, w15_29, w15_32, w15_33, w15_37, w15_39, w15_40, w15_43, w15_44, w15_45, w15_46, w15_47uu, w15_49, w15_51, w15_52, w15_55, w15_56, w15_58, w15_59, w15_61, w15_62, w15_63, w15_64, w15_67, w15_68, w15_71, w15_72, w15_74, w15_75, w15_77, w15_78, w15_80, w15_81, isO_put, cmpL_lt, cmpL_eq, Option.toList_none, List.nil_append, true_and, and_true, or_true, ↓reduceIte, Nat.reduceAdd, Nat.reduceSub, Int32.reduceAdd, Int32.reduceSub, Int32.reduceMul, Int32.reduceToNatClampNeg, Int64.reduceAdd, Int64.reduceSub, Int64.reduceMul, g2, g3, g11, g16, ai1, ain1, ae1, ai2, ae2, ai6, aw6, ae6, as6, ain1, Int32.reduceDiv, Int32.reduceMod, hi, k0, m1, e1, wa, i0, oi_32, oi_add, f1]
    refine (sk14 (lo := 2) (hi := 24) (by decide) 22 (by decide) (by simp only [sA_uB]; exact hz 2 24 (by decide) (by omega))).2 ?_
    rw [w14_60]; simp +decide only [o24, w14_61, w14_64, w14_67, w14_68, w14_71, w14_72, w14_73, w14_76, w14_77, w14_78, w14_79, w14_82, w14_85, c15, w15_0, w15_1, w15_3, w15_4, w15_5, w15_6, w15_8, w15_9, w15_11, w15_12, w15_15, w15_16, w15_17, w15_18, w15_20, w15_21, w15_22, w15_23, w15_24uu, w15_26, w15_28, w15_29, w15_32, w15_33, w15_37, w15_39, w15_40, w15_43, w15_44, w15_45, w15_46, w15_47uu, w15_49, w15_51, w15_52, w15_55, w15_56, w15_58, w15_59, w15_61, w15_62, w15_63, w15_64, w15_67, w15_68, w15_71, w15_72, w15_74, w15_75, w15_77, w15_78, w15_80, w15_81, isO_put, cmpL_lt, cmpL_eq, sJ_uB, sA_uB, sB_uB, Option.toList_none, List.nil_append, true_and, and_true, or_true, ↓reduceIte, Nat.reduceAdd, Nat.reduceSub, Int32.reduceAdd, Int32.reduceSub, Int32.reduceMul, Int32.reduceToNatClampNeg, Int64.reduceAdd, Int64.reduceSub, Int64.reduceMul, g2, g3, g11, g16, ai1, ain1, ae1, ai2, ae2, ai6, aw6, ae6, as6, ain1, Int32.reduceDiv, Int32.reduceMod, hi, k1, m0, e24, wb', i1, oi_32, oi_add, f2]
    refine (sk14 (lo := 25) (hi := 26) (by decide) 1 (by decide) (by simp only [sA_uB]; exact hz 25 26 (by decide) (by omega))).2 ?_
    rw [w14_60]; simp +decide only [o26, w14_61, w14_64, w14_67, w14_68, w14_71, w14_72, w14_73, w14_76, w14_77, w14_78, w14_79, w14_82, w14_85, c15, w15_0, w15_1, w15_3, w15_4, w15_5, w15_6, w15_8, w15_9, w15_11, w15_12, w15_15, w15_16, w15_17, w15_18, w15_20, w15_21, w15_22, w15_23, w15_24uu, w15_26, w15_28, w15_29, w15_32, w15_33, w15_37, w15_39, w15_40, w15_43, w15_44, w15_45, w15_46, w15_47uu, w15_49, w15_51, w15_52, w15_55, w15_56, w15_58, w15_59, w15_61, w15_62, w15_63, w15_64, w15_67, w15_68, w15_71, w15_72, w15_74, w15_75, w15_77, w15_78, w15_80, w15_81, isO_put, cmpL_lt, cmpL_eq, sJ_uB, sA_uB, sB_uB, Option.toList_none, List.nil_append, true_and, and_true, or_true, ↓reduceIte, Nat.reduceAdd, Nat.reduceSub, Int32.reduceAdd, Int32.reduceSub, Int32.reduceMul, Int32.reduceToNatClampNeg, Int64.reduceAdd, Int64.reduceSub, Int64.reduceMul, g2, g3, g11, g16, ai1, ain1, ae1, ai2, ae2, ai6, aw6, ae6, as6, ain1, Int32.reduceDiv, Int32.reduceMod, hi, k1, m2, e26, wc, i1, oi_32, oi_add, f3]
    refine (sk14 (lo := 27) (hi := 48) (by decide) 21 (by decide) (by simp only [sA_uB]; exact hz 27 48 (by decide) (by omega))).2 ?_
    rw [w14_60]; simp +decide only [o48, w14_61, w14_64, w14_67, w14_68, w14_71, w14_72, w14_73, w14_76, w14_77, w14_78, w14_79, w14_82, w14_85, c15, w15_0, w15_1, w15_3, w15_4, w15_5, w15_6, w15_8, w15_9, w15_11, w15_12, w15_15, w15_16, w15_17, w15_18, w15_20, w15_21, w15_22, w15_23, w15_24uu, w15_26, w15_28, w15_29, w15_32, w15_33, w15_37, w15_39, w15_40, w15_43, w15_44, w15_45, w15_46, w15_47uu, w15_49, w15_51, w15_52, w15_55, w15_56, w15_58, w15_59, w15_61, w15_62, w15_63, w15_64, w15_81, isO_put, cmpL_lt, cmpL_eq, sJ_uB, sA_uB, sB_uB, Option.toList_none, List.nil_append, true_and, and_true, or_true, ↓reduceIte, Nat.reduceAdd, Nat.reduceSub, Int32.reduceAdd, Int32.reduceSub, Int32.reduceMul, Int32.reduceToNatClampNeg, Int64.reduceAdd, Int64.reduceSub, Int64.reduceMul, g2, g3, g11, g16, ai1, ain1, ae1, ai2, ae2, ai6, ae6, ain1, Int32.reduceDiv, Int32.reduceMod, hi, k2, e48, wd, i2, oi_32, oi_add, q']
    refine (sk14 (lo := 49) (hi := 576) (by decide) 527 (by decide) (by simp only [sA_uB]; exact hz 49 576 (by decide) (by omega))).2 ?_
    rw [w14_60]
    simp +decide only [o576, w14_61, w14_64, ↓reduceIte]
    refine hq _ (y1 + b.toInt) ⟨Or.inl rfl, by omega, by omega⟩ ⟨fun k => by simp only [sI_uB], fun k => by simp only [sJ_uB], fun t i => by simp only [sA_uB], fun i => ?_⟩
    simp only [sB_uB, true_and]
    by_cases g0 : i = 72
    · simp [g0]
    · by_cases g1 : i = 73
      · simp [g1]
      · by_cases g2 : i = 74 <;> simp [g0, g1, g2]

end D

section E
variable {lw : LW} {H : AH} {p j : Nat} {s s' : St} {Q : Option Value → AH → Prop} {a b c d x y : Int32} {h : Nat → Cel} {k n : Nat}
theorem karp3 {a b c d z1 z2 z3 N0 D0 N1 D1 N2 D2 N D : Int}
    (h1 : (z1 = b ∨ z1 = d) ∧ z1 ≤ b ∧ z1 ≤ d) (h2 : (z2 = a + b ∨ z2 = c + d) ∧ z2 ≤ a + b ∧ z2 ≤ c + d) (h3 : (z3 = z1 + a + b ∨ z3 = a + c + d) ∧ z3 ≤ z1 + a + b ∧ z3 ≤ a + c + d)
    (v0 : VM 0 z1 z2 z3 N0 D0) (v1 : VM 0 a (z1 + a) (z2 + a) N1 D1) (v2 : VM 0 c (a + c) (z1 + a + c) N2 D2)
    (hm : (N = N0 ∧ D = D0 ∨ N = N1 ∧ D = D1 ∨ N = N2 ∧ D = D2) ∧ N * D0 ≤ N0 * D ∧ N * D1 ≤ N1 * D ∧ N * D2 ≤ N2 * D) :
    (D = 1 ∨ D = 2 ∨ D = 3) ∧ ((N * 2 = (a + b) * D ∧ (a + b) * 3 ≤ (a + c + d) * 2) ∨ (N * 3 = (a + c + d) * D ∧ (a + c + d) * 2 ≤ (a + b) * 3)) := by
  unfold VM at v0 v1 v2
  obtain ⟨e0, i00, i01, i02⟩ := v0
  obtain ⟨e1, i10, i11, i12⟩ := v1
  obtain ⟨e2, i20, i21, i22⟩ := v2
  rcases e0 with ⟨rfl, rfl⟩ | ⟨rfl, rfl⟩ | ⟨rfl, rfl⟩ <;> rcases e1 with ⟨rfl, rfl⟩ | ⟨rfl, rfl⟩ | ⟨rfl, rfl⟩ <;> rcases e2 with ⟨rfl, rfl⟩ | ⟨rfl, rfl⟩ | ⟨rfl, rfl⟩ <;>
    obtain ⟨hm, j0, j1, j2⟩ := hm <;> rcases hm with ⟨rfl, rfl⟩ | ⟨rfl, rfl⟩ | ⟨rfl, rfl⟩ <;> first | (refine ⟨by omega, ?_⟩; omega) 
theorem mb {N D : Int} (h : -1000000 ≤ N ∧ N ≤ 1000000) (hD : D = 1 ∨ D = 2 ∨ D = 3) : -1000000000000000000 ≤ N * D ∧ N * D ≤ 1000000000000000000 := by
  rcases hD with rfl | rfl | rfl <;> omega
theorem VM.dd {x0 x1 x2 x3 N D : Int} (h : VM x0 x1 x2 x3 N D) : D = 1 ∨ D = 2 ∨ D = 3 := by rcases h.1 with w | w | w <;> omega
theorem VM.nb {x0 x1 x2 x3 N D : Int} (h : VM x0 x1 x2 x3 N D) (h0 : bd x0) (h1 : bd x1) (h2 : bd x2) (h3 : bd x3) : -1000000 ≤ N ∧ N ≤ 1000000 := by
  unfold bd at *; rcases h.1 with w | w | w <;> omega
def MU (a b c d N D : Int) : Prop := (D = 1 ∨ D = 2 ∨ D = 3) ∧ ((N * 2 = (a + b) * D ∧ (a + b) * 3 ≤ (a + c + d) * 2) ∨ (N * 3 = (a + c + d) * D ∧ (a + c + d) * 2 ≤ (a + b) * 3))
theorem tr3 {N0 D0 N1 D1 N2 D2 : Int} (d0 : D0 = 1 ∨ D0 = 2 ∨ D0 = 3) (d1 : D1 = 1 ∨ D1 = 2 ∨ D1 = 3) (d2 : D2 = 1 ∨ D2 = 2 ∨ D2 = 3) (h : N0 * D1 ≤ N1 * D0) (g : N1 * D2 ≤ N2 * D1) : N0 * D2 ≤ N2 * D0 := by
  rcases d0 with rfl | rfl | rfl <;> rcases d1 with rfl | rfl | rfl <;> rcases d2 with rfl | rfl | rfl <;> omega
set_option maxRecDepth 100000 in
set_option maxHeartbeats 4000000 in
theorem v14 (G : HS s a b c d) (ra : wb a) (rb : wb b) (rc : wb c) (rd : wb d)
    (hq : ∀ s' N D, HS s' a b c d → (∀ k, sI s' k = sI s k) → (∀ t i, sA s' t i = sA s t i) → (sJ s' 17 = oi N ∧ sJ s' 18 = oi D) → MU a.toInt b.toInt c.toInt d.toInt N D → Q (some (.int 1)) (ob H p s')) : Cl (pj lw) 14 [.ref p] (ob H p s) Q := by
  obtain ⟨⟨n3, hi⟩, hz', wa, wb', wc, wd⟩ := id G
  have ra' := id ra
  have rb' := id rb
  have rc' := id rc
  have rd' := id rd
  unfold wb at ra' rb' rc' rd'
  rw [c14]; simp +decide only [w14_0, w14_1]
  refine (l14_2 hi 600 0 s hi (by decide) (by decide)).2 ?_
  simp +decide only [w14_25, w14_26i, w14_28, w14_29, w14_32, w14_35, w14_36, w14_39, w14_40, w14_41, w14_42, w14_45, w14_48, w14_49i, w14_51, w14_52, w14_55, w14_58, w14_59, w14_27, w14_50, isO_put, sI_uB, true_and, ↓reduceIte, Nat.reduceAdd, Int32.reduceAdd, Int32.reduceToNatClampNeg, Int64.reduceAdd, g0, g11, aw6, as6, sI_fB, n3]
  refine p14_1 (y0 := 0) (y1 := 0) (y2 := 0) (a := a) (b := b) (c := c) (d := d) ?_ ra rb rc rd ?_ ?_ ?_ ?_ ?_ ?_ (by unfold bd; omega) (by unfold bd; omega) (by unfold bd; omega) fun t1 z1 hz1 K1 => ?_
  · exact G.of (by simp only [sI_uB, sI_fB]) (by simp only [sJ_uB, sJ_fB]) (fun i => by simp only [sA_uB, sA_fB]) (fun i => by simp only [sA_uB, sA_fB])
  · simp +decide only [sB_uB, sB_fB, if_true, if_false, true_and, and_true]
  · simp +decide only [sB_uB, sB_fB, if_true, if_false, true_and, and_true]
  · simp +decide only [sB_uB, sB_fB, if_true, if_false, true_and, and_true]
  · simp +decide only [sB_uB, sB_fB, if_true, if_false, true_and, and_true]
  · simp +decide only [sB_uB, sB_fB, if_true, if_false, true_and, and_true]
  · simp +decide only [sB_uB, sB_fB, if_true, if_false, true_and, and_true]
  have G1 : HS t1 a b c d := K1.hs (G.of (by simp only [sI_uB, sI_fB]) (by simp only [sJ_uB, sJ_fB]) (fun i => by simp only [sA_uB, sA_fB]) (fun i => by simp only [sA_uB, sA_fB]))
  have I1 : ∀ k, sI t1 k = sI s k := fun k => by rw [K1.1]; simp only [sI_uB, sI_fB]
  have A1 : ∀ t i, sA t1 t i = sA s t i := fun t i => by rw [K1.2.2.1]; simp only [sA_uB, sA_fB]
  have B1 : ∀ i, i < 600 → sB t1 6 i = if i = 24 then oi z1 else if i = 25 then oi (0 + a.toInt) else if i = 26 then oi (0 + c.toInt) else if i < 3 then oi 0 else 4000000000000000000 := fun i hi => by
    rw [K1.2.2.2]; simp only [sB_uB, sB_fB, true_and]
    by_cases g0 : i = 24
    · simp [g0]
    · by_cases g1 : i = 25
      · simp [g1]
      · by_cases g2 : i = 26
        · simp [g2]
        · simp only [g0, g1, g2, if_false, Nat.reduceAdd, Nat.zero_le, true_and, hi, if_true]
          by_cases g3 : i = 2
          · simp [g3]; rfl
          · by_cases g4 : i = 1
            · simp [g4]; rfl
            · by_cases g5 : i = 0
              · simp [g5]; rfl
              · simp only [g3, g4, g5, if_false]; rw [if_neg (by omega)]
  clear K1
  simp only [Int.zero_add] at hz1 B1
  simp +decide only [w14_88, w14_91, w14_51, w14_52, w14_55, w14_58, w14_59i, w14_50, isO_put, true_and, ↓reduceIte, Nat.reduceAdd, Int32.reduceAdd, Int64.reduceAdd, g0, G1.1.1]
  refine p14_2 (y0 := z1) (y1 := a.toInt) (y2 := c.toInt) G1 ra rb rc rd ?_ ?_ ?_ ?_ ?_ ?_ (by unfold bd; omega) (by unfold bd; omega) (by unfold bd; omega) fun t2 z2 hz2 K2 => ?_
  · rw [B1 _ (by decide)]; rfl
  · rw [B1 _ (by decide)]; rfl
  · rw [B1 _ (by decide)]; rfl
  · rw [B1 _ (by decide)]; rfl
  · rw [B1 _ (by decide)]; rfl
  · rw [B1 _ (by decide)]; rfl
  have G2 := K2.hs G1
  simp +decide only [w14_88, w14_91, w14_51, w14_52, w14_55, w14_58, w14_59i, w14_50, isO_put, true_and, ↓reduceIte, Nat.reduceAdd, Int32.reduceAdd, Int64.reduceAdd, g0, G2.1.1]
  refine p14_3 (y0 := z2) (y1 := z1 + a.toInt) (y2 := a.toInt + c.toInt) G2 ra rb rc rd ?_ ?_ ?_ ?_ ?_ ?_ (by unfold bd; omega) (by unfold bd; omega) (by unfold bd; omega) fun t3 z3 hz3 K3 => ?_
  · rw [K2.2.2.2]; rfl
  · rw [K2.2.2.2]; rfl
  · rw [K2.2.2.2]; rfl
  · rw [K2.2.2.2, if_neg (by decide), if_neg (by decide), if_neg (by decide), B1 _ (by decide)]; rfl
  · rw [K2.2.2.2, if_neg (by decide), if_neg (by decide), if_neg (by decide), B1 _ (by decide)]; rfl
  · rw [K2.2.2.2, if_neg (by decide), if_neg (by decide), if_neg (by decide), B1 _ (by decide)]; rfl
  have G3 := K3.hs G2
  have I3 : ∀ k, sI t3 k = sI s k := fun k => by rw [K3.1, K2.1, I1]
  have A3 : ∀ t i, sA t3 t i = sA s t i := fun t i => by rw [K3.2.2.1, K2.2.2.1, A1]
  have k0 : sB t3 6 0 = oi 0 := by rw [K3.2.2.2, if_neg (by decide), if_neg (by decide), if_neg (by decide), K2.2.2.2, if_neg (by decide), if_neg (by decide), if_neg (by decide), B1 _ (by decide)]; rfl
  have k1 : sB t3 6 1 = oi 0 := by rw [K3.2.2.2, if_neg (by decide), if_neg (by decide), if_neg (by decide), K2.2.2.2, if_neg (by decide), if_neg (by decide), if_neg (by decide), B1 _ (by decide)]; rfl
  have k2 : sB t3 6 2 = oi 0 := by rw [K3.2.2.2, if_neg (by decide), if_neg (by decide), if_neg (by decide), K2.2.2.2, if_neg (by decide), if_neg (by decide), if_neg (by decide), B1 _ (by decide)]; rfl
  have k24 : sB t3 6 24 = oi z1 := by rw [K3.2.2.2, if_neg (by decide), if_neg (by decide), if_neg (by decide), K2.2.2.2, if_neg (by decide), if_neg (by decide), if_neg (by decide), B1 _ (by decide)]; rfl
  have k25 : sB t3 6 25 = oi a.toInt := by rw [K3.2.2.2, if_neg (by decide), if_neg (by decide), if_neg (by decide), K2.2.2.2, if_neg (by decide), if_neg (by decide), if_neg (by decide), B1 _ (by decide)]; rfl
  have k26 : sB t3 6 26 = oi c.toInt := by rw [K3.2.2.2, if_neg (by decide), if_neg (by decide), if_neg (by decide), K2.2.2.2, if_neg (by decide), if_neg (by decide), if_neg (by decide), B1 _ (by decide)]; rfl
  have k48 : sB t3 6 48 = oi z2 := by rw [K3.2.2.2, if_neg (by decide), if_neg (by decide), if_neg (by decide), K2.2.2.2]; rfl
  have k49 : sB t3 6 49 = oi (z1 + a.toInt) := by rw [K3.2.2.2, if_neg (by decide), if_neg (by decide), if_neg (by decide), K2.2.2.2]; rfl
  have k50 : sB t3 6 50 = oi (a.toInt + c.toInt) := by rw [K3.2.2.2, if_neg (by decide), if_neg (by decide), if_neg (by decide), K2.2.2.2]; rfl
  have k72 : sB t3 6 72 = oi z3 := by rw [K3.2.2.2]; rfl
  have k73 : sB t3 6 73 = oi (z2 + a.toInt) := by rw [K3.2.2.2]; rfl
  have k74 : sB t3 6 74 = oi (z1 + a.toInt + c.toInt) := by rw [K3.2.2.2]; rfl
  have n3' : sI t3 0 = 3 := G3.1.1
  have hi3 : sJ t3 16 = 4000000000000000000 := G3.1.2
  have q0 := (oi_inf (x := z3) (by omega)).2
  have q1 := (oi_inf (x := z2 + a.toInt) (by omega)).2
  have q2 := (oi_inf (x := z1 + a.toInt + c.toInt) (by omega)).2
  clear K3 K2 B1
  simp +decide only [w14_88, w14_91, w14_94, w14_95i, w14_96, w14_97i, w14_51, w14_52, w14_55, w14_50, isO_put, true_and, ↓reduceIte, Nat.reduceAdd, Int32.reduceAdd, Int64.reduceAdd, g0, n3']
  rw [w14_98]; simp +decide only [w14_99, w14_100, w14_103, w14_106, w14_107, w14_110, w14_111, w14_114, w14_116, w14_117, w14_118, w14_119, w14_120, w14_121, w14_124, w14_125, w14_128, w14_129, w14_130, isO_put, cmpL_eq, true_and, and_true, ↓reduceIte, Nat.reduceAdd, Int32.reduceAdd, Int32.reduceMul, Int32.reduceToNatClampNeg, Int64.reduceAdd, Int64.reduceMul, g0, g11, g16, ai6, ae6, n3', hi3, k72, q0]
  refine v16_0 n3' hi3 k0 k24 k48 k72 (by unfold bd; omega) (by unfold bd; omega) (by unfold bd; omega) (by unfold bd; omega) fun N0 D0 V0 => ?_
  have nb0 := V0.nb (by unfold bd; omega) (by unfold bd; omega) (by unfold bd; omega) (by unfold bd; omega)
  have dd0 := V0.dd
  simp +decide only [w14_133, w14_134, w14_159, w14_160, w14_161, w14_164, w14_167, w14_168, w14_169, w14_172, w14_175, w14_176i, w14_177, w14_180, isO_put, isOw_put, okv_long, sJ_uJ, Option.toList_none, List.nil_append, true_and, and_true, ↓reduceIte, Nat.reduceAdd, Int32.reduceAdd, Int64.reduceAdd, s17, s18, g19, g20]
  rw [w14_98]; simp +decide only [w14_99, w14_100, w14_103, w14_106, w14_107, w14_110, w14_111, w14_114, w14_116, w14_117, w14_118, w14_119, w14_120, w14_121, w14_124, w14_125, w14_128, w14_129, w14_130, isO_put, cmpL_eq, sI_uJ, sJ_uJ, sB_uJ, true_and, and_true, ↓reduceIte, Nat.reduceAdd, Int32.reduceAdd, Int32.reduceMul, Int32.reduceToNatClampNeg, Int64.reduceAdd, Int64.reduceMul, g0, g11, g16, ai6, ae6, n3', hi3, k73, q1]
  refine v16_1 (x0 := 0) (x1 := a.toInt) (x2 := z1 + a.toInt) (x3 := z2 + a.toInt) (by simp +decide only [sI_uJ]; exact n3') (by simp +decide only [sJ_uJ, ↓reduceIte]; exact hi3) (by simp only [sB_uJ]; exact k1) (by simp only [sB_uJ]; exact k25) (by simp only [sB_uJ]; exact k49) (by simp only [sB_uJ]; exact k73) (by unfold bd; omega) (by unfold bd; omega) (by unfold bd; omega) (by unfold bd; omega) fun N1 D1 V1 => ?_
  have nb1 := V1.nb (by unfold bd; omega) (by unfold bd; omega) (by unfold bd; omega) (by unfold bd; omega)
  have dd1 := V1.dd
  have step2 : ∀ (τ : St) (N D : Int), HS τ a b c d → (∀ k, sI τ k = sI s k) → (∀ t i, sA τ t i = sA s t i) → (∀ i, sB τ 6 i = sB t3 6 i) → (sJ τ 17 = oi N ∧ sJ τ 18 = oi D) → (N = N0 ∧ D = D0 ∨ N = N1 ∧ D = D1) → N * D0 ≤ N0 * D → N * D1 ≤ N1 * D → W (pj lw) 14 98 [.val (.ref p), .val (.int 1), .val (.int 2)] [] 0 0 (ob H p τ) Q := fun τ N D γ1 γ2 γ3 γ4 γ5 γ6 γ7 γ8 => by
    have dd : D = 1 ∨ D = 2 ∨ D = 3 := by rcases γ6 with w | w <;> rw [w.2] <;> assumption
    have nb : -1000000 ≤ N ∧ N ≤ 1000000 := by rcases γ6 with w | w <;> rw [w.1] <;> assumption
    have k74' : sB τ 6 74 = oi (z1 + a.toInt + c.toInt) := by rw [γ4]; exact k74
    rw [w14_98]; simp +decide only [w14_99, w14_100, w14_103, w14_106, w14_107, w14_110, w14_111, w14_114, w14_116, w14_117, w14_118, w14_119, w14_120, w14_121, w14_124, w14_125, w14_128, w14_129, w14_130, isO_put, cmpL_eq, true_and, and_true, ↓reduceIte, Nat.reduceAdd, Int32.reduceAdd, Int32.reduceMul, Int32.reduceToNatClampNeg, Int64.reduceAdd, Int64.reduceMul, g0, g11, g16, ai6, ae6, γ1.1.1, γ1.1.2, k74', q2]
    refine v16_2 (x0 := 0) (x1 := c.toInt) (x2 := a.toInt + c.toInt) (x3 := z1 + a.toInt + c.toInt) γ1.1.1 γ1.1.2 (by rw [γ4]; exact k2) (by rw [γ4]; exact k26) (by rw [γ4]; exact k50) k74' (by unfold bd; omega) (by unfold bd; omega) (by unfold bd; omega) (by unfold bd; omega) fun N2 D2 V2 => ?_
    have nb2 := V2.nb (by unfold bd; omega) (by unfold bd; omega) (by unfold bd; omega) (by unfold bd; omega)
    have dd2 := V2.dd
    obtain ⟨j17, j18⟩ := γ5
    have fin := fun N D hm => karp3 (a := a.toInt) (b := b.toInt) (c := c.toInt) (d := d.toInt) (z1 := z1) (z2 := z2) (z3 := z3) (N0 := N0) (D0 := D0) (N1 := N1) (D1 := D1) (N2 := N2) (D2 := D2) (N := N) (D := D) hz1 hz2 hz3 V0 V1 V2 hm
    by_cases e : N2 * D < N * D2
    · have e' := eq_true ((oi_lt (mb nb2 dd) (mb nb dd2)).2 e)
      simp +decide only [w14_133, w14_134, w14_137, w14_138, w14_141, w14_142, w14_145, w14_146, w14_147, w14_150, w14_151, w14_154, w14_155, w14_156, w14_159, w14_160, w14_161, w14_164, w14_167, w14_168, w14_169, w14_172, w14_175, w14_176i, w14_177, w14_180, w14_183, w14_184, w14_99, w14_100, w14_103, w14_98, isO_put, isOw_put, okv_long, cmpL_lt, sI_uJ, sJ_uJ, Option.toList_none, List.nil_append, true_and, and_true, ↓reduceIte, Nat.reduceAdd, Int32.reduceAdd, Int64.reduceAdd, g0, g17, s17, g18, s18, g19, g20, γ1.1.1, j17, j18, oi_mul, e']
      refine hq _ N2 D2 (γ1.of ?_ ?_ (fun i => ?_) (fun i => ?_)) (fun k => ?_) (fun t i => ?_) ⟨?_, ?_⟩ (fin N2 D2 ⟨Or.inr (Or.inr ⟨rfl, rfl⟩), tr3 dd2 dd dd0 (by omega) γ7, tr3 dd2 dd dd1 (by omega) γ8, by omega⟩)
      · simp +decide only [sI_uJ]
      · simp +decide only [sJ_uJ, ↓reduceIte]
      · simp +decide only [sA_uJ]
      · simp +decide only [sA_uJ]
      · simp only [sI_uJ]; exact γ2 k
      · simp only [sA_uJ]; exact γ3 t i
      · simp +decide only [sJ_uJ, ↓reduceIte]
      · simp +decide only [sJ_uJ, ↓reduceIte]
    · have e' := eq_false (fun w => e ((oi_lt (mb nb2 dd) (mb nb dd2)).1 w))
      simp +decide only [w14_133, w14_134, w14_137, w14_138, w14_141, w14_142, w14_145, w14_146, w14_147, w14_150, w14_151, w14_154, w14_155, w14_156, w14_177, w14_180, w14_183, w14_184, w14_99, w14_100, w14_103, w14_98, isO_put, cmpL_lt, sI_uJ, sJ_uJ, Option.toList_none, List.nil_append, true_and, ↓reduceIte, Nat.reduceAdd, Int32.reduceAdd, Int64.reduceAdd, g0, g17, g18, g19, g20, γ1.1.1, j17, j18, oi_mul, e']
      refine hq _ N D (γ1.of ?_ ?_ (fun i => ?_) (fun i => ?_)) (fun k => ?_) (fun t i => ?_) ⟨?_, ?_⟩ (fin N D ⟨by rcases γ6 with w | w; exact Or.inl w; exact Or.inr (Or.inl w), γ7, γ8, by omega⟩)
      · simp +decide only [sI_uJ]
      · simp +decide only [sJ_uJ, ↓reduceIte]
      · simp +decide only [sA_uJ]
      · simp +decide only [sA_uJ]
      · simp only [sI_uJ]; exact γ2 k
      · simp only [sA_uJ]; exact γ3 t i
      · simp +decide only [sJ_uJ, ↓reduceIte]; exact j17
      · simp +decide only [sJ_uJ, ↓reduceIte]; exact j18
  by_cases e : N1 * D0 < N0 * D1
  · have e' := eq_true ((oi_lt (mb nb1 dd0) (mb nb0 dd1)).2 e)
    simp +decide only [w14_133, w14_134, w14_137, w14_138, w14_141, w14_142, w14_145, w14_146, w14_147, w14_150, w14_151, w14_154, w14_155, w14_156, w14_159, w14_160, w14_161, w14_164, w14_167, w14_168, w14_169, w14_172, w14_175, w14_176i, w14_177, w14_180, isO_put, isOw_put, okv_long, cmpL_lt, sJ_uJ, Option.toList_none, List.nil_append, true_and, and_true, ↓reduceIte, Nat.reduceAdd, Int32.reduceAdd, Int64.reduceAdd, g17, s17, g18, s18, g19, g20, oi_mul, e']
    refine step2 _ N1 D1 (G3.of ?_ ?_ (fun i => ?_) (fun i => ?_)) (fun k => ?_) (fun t i => ?_) (fun i => ?_) ⟨?_, ?_⟩ (Or.inr ⟨rfl, rfl⟩) (by omega) (by omega)
    · simp +decide only [sI_uJ]
    · simp +decide only [sJ_uJ, ↓reduceIte]
    · simp +decide only [sA_uJ]
    · simp +decide only [sA_uJ]
    · simp only [sI_uJ]; exact I3 k
    · simp only [sA_uJ]; exact A3 t i
    · simp only [sB_uJ]
    · simp +decide only [sJ_uJ, ↓reduceIte]
    · simp +decide only [sJ_uJ, ↓reduceIte]
  · have e' := eq_false (fun w => e ((oi_lt (mb nb1 dd0) (mb nb0 dd1)).1 w))
    simp +decide only [w14_133, w14_134, w14_137, w14_138, w14_141, w14_142, w14_145, w14_146, w14_147, w14_150, w14_151, w14_154, w14_155, w14_156, w14_177, w14_180, isO_put, cmpL_lt, sJ_uJ, Option.toList_none, List.nil_append, true_and, ↓reduceIte, Nat.reduceAdd, Int32.reduceAdd, Int64.reduceAdd, g17, g18, g19, g20, oi_mul, e']
    refine step2 _ N0 D0 (G3.of ?_ ?_ (fun i => ?_) (fun i => ?_)) (fun k => ?_) (fun t i => ?_) (fun i => ?_) ⟨?_, ?_⟩ (Or.inl ⟨rfl, rfl⟩) (by omega) (by omega)
    · simp +decide only [sI_uJ]
    · simp +decide only [sJ_uJ, ↓reduceIte]
    · simp +decide only [sA_uJ]
    · simp +decide only [sA_uJ]
    · simp only [sI_uJ]; exact I3 k
    · simp only [sA_uJ]; exact A3 t i
    · simp only [sB_uJ]
    · simp +decide only [sJ_uJ, ↓reduceIte]
    · simp +decide only [sJ_uJ, ↓reduceIte]
end E

section F
variable {lw : LW} {H : AH} {p j : Nat} {s s' s'' : St} {Q : Option Value → AH → Prop} {a b c d x y ch rd : Int32} {h : Nat → Cel} {k n : Nat} {N D p0 p1 p2 A B C E : Int}
def Rd (A B C E : Int) (q : Int × Int × Int) : Int × Int × Int :=
  (min (min (min (q.1 + A) q.2.1 + C) q.2.2 + E) (min (min (q.1 + A) q.2.1 + B) q.1), min (q.1 + A) q.2.1, min (min (q.1 + A) q.2.1 + C) q.2.2)
def it : Nat → (Int × Int × Int → Int × Int × Int) → Int × Int × Int → Int × Int × Int
  | 0, _, q => q
  | m + 1, f, q => it m f (f q)
theorem it_fix {f : Int × Int × Int → Int × Int × Int} {q : Int × Int × Int} (h : f q = q) : ∀ m, it m f q = q
  | 0 => rfl
  | m + 1 => by rw [it, h]; exact it_fix h m
def P0 (A B C E : Int) : Int := min (min 0 B) (min E (C + E))
def P1 (A B C E : Int) : Int := min 0 (min A (E + A))
def P2 (A B C E : Int) : Int := min 0 (min C (A + C))
theorem P_feas (h1 : 0 ≤ A + B) (h2 : 0 ≤ A + C + E) : P1 A B C E ≤ P0 A B C E + A ∧ P0 A B C E ≤ P1 A B C E + B ∧ P2 A B C E ≤ P1 A B C E + C ∧ P0 A B C E ≤ P2 A B C E + E ∧ P0 A B C E ≤ 0 ∧ P1 A B C E ≤ 0 ∧ P2 A B C E ≤ 0 := by
  unfold P0 P1 P2; refine ⟨?_, ?_, ?_, ?_, ?_, ?_, ?_⟩ <;> omega
theorem R_fix (h1 : 0 ≤ A + B) (h2 : 0 ≤ A + C + E) : Rd A B C E (P0 A B C E, P1 A B C E, P2 A B C E) = (P0 A B C E, P1 A B C E, P2 A B C E) := by
  obtain ⟨f1, f2, f3, f4, -⟩ := P_feas h1 h2
  unfold Rd
  generalize P0 A B C E = u at *
  generalize P1 A B C E = v at *
  generalize P2 A B C E = w at *
  simp only [Prod.mk.injEq]
  have e1 : min (u + A) v = v := by omega
  rw [e1]
  have e2 : min (v + C) w = w := by omega
  rw [e2]
  refine ⟨?_, rfl, rfl⟩
  omega
theorem R_two (h1 : 0 ≤ A + B) (h2 : 0 ≤ A + C + E) : Rd A B C E (Rd A B C E (0, 0, 0)) = (P0 A B C E, P1 A B C E, P2 A B C E) := by
  obtain ⟨f1, f2, f3, f4, f5, f6, f7⟩ := P_feas h1 h2
  have g0 : P0 A B C E = 0 ∨ P0 A B C E = B ∨ P0 A B C E = E ∨ P0 A B C E = C + E := by unfold P0; omega
  have g1 : P1 A B C E = 0 ∨ P1 A B C E = A ∨ P1 A B C E = E + A := by unfold P1; omega
  have g2 : P2 A B C E = 0 ∨ P2 A B C E = C ∨ P2 A B C E = A + C := by unfold P2; omega
  generalize P0 A B C E = u at *
  generalize P1 A B C E = v at *
  generalize P2 A B C E = w at *
  have key : ∀ q : Int × Int × Int, u ≤ q.1 → v ≤ q.2.1 → w ≤ q.2.2 → u ≤ (Rd A B C E q).1 ∧ v ≤ (Rd A B C E q).2.1 ∧ w ≤ (Rd A B C E q).2.2 ∧ (Rd A B C E q).1 ≤ q.1 ∧ (Rd A B C E q).2.1 ≤ q.2.1 ∧ (Rd A B C E q).2.2 ≤ q.2.2 ∧ (Rd A B C E q).2.1 ≤ q.1 + A ∧ (Rd A B C E q).1 ≤ (Rd A B C E q).2.1 + B ∧ (Rd A B C E q).2.2 ≤ (Rd A B C E q).2.1 + C ∧ (Rd A B C E q).1 ≤ (Rd A B C E q).2.2 + E := fun q a1 a2 a3 => by
    obtain ⟨x, y, z⟩ := q
    unfold Rd
    simp only at a1 a2 a3 ⊢
    generalize e1 : min (x + A) y = r1
    have : r1 ≤ x + A ∧ r1 ≤ y ∧ v ≤ r1 := by omega
    clear e1
    generalize e2 : min (r1 + C) z = r2
    have : r2 ≤ r1 + C ∧ r2 ≤ z ∧ w ≤ r2 := by omega
    clear e2
    generalize e3 : min (r1 + B) x = r3
    have : r3 ≤ r1 + B ∧ r3 ≤ x ∧ u ≤ r3 := by omega
    clear e3
    refine ⟨?_, ?_, ?_, ?_, ?_, ?_, ?_, ?_, ?_, ?_⟩ <;> omega
  have k1 := key (0, 0, 0) f5 f6 f7
  simp only at k1
  generalize Rd A B C E (0, 0, 0) = q at *
  have k2 := key q k1.1 k1.2.1 k1.2.2.1
  generalize Rd A B C E q = q' at *
  obtain ⟨x, y, z⟩ := q'
  obtain ⟨x1, y1, z1⟩ := q
  simp only [Prod.mk.injEq] at k1 k2 ⊢
  refine ⟨?_, ?_, ?_⟩ <;> omega
theorem R_five (h1 : 0 ≤ A + B) (h2 : 0 ≤ A + C + E) : it 5 (Rd A B C E) (0, 0, 0) = (P0 A B C E, P1 A B C E, P2 A B C E) := by
  rw [it, it, R_two h1 h2]; exact it_fix (R_fix h1 h2) 3
theorem uB_id {t i : Nat} {v : Int64} (h : sB s t i = v) : uB s t i v = s := by
  refine St_ext (fun k => sI_uB) (fun k => sJ_uB) (fun t' i' => sA_uB) (fun t' i' => ?_)
  rw [sB_uB]; split
  · rename_i g; rw [g.1, g.2, h]
  · rfl
theorem sk17 {hi : Nat} (hh : hi ≤ 576) (m : Nat) : ∀ lo : Nat, lo + m = hi → (∀ i, lo ≤ i → i < hi → sA s 1 i = 0) →
    (W (pj lw) 17 44 [.val (.ref p), .val (.long (oi D)), .second, .val (.long (oi N)), .second, .val (.int rd), .val (.int ch), .val (.int (Int32.ofNat lo)), .unset, .unset, .unset, .unset] [] k n (ob H p s) Q ↔ W (pj lw) 17 44 [.val (.ref p), .val (.long (oi D)), .second, .val (.long (oi N)), .second, .val (.int rd), .val (.int ch), .val (.int (Int32.ofNat hi)), .unset, .unset, .unset, .unset] [] k n (ob H p s) Q) := by
  induction m with
  | zero => intro lo h _; rw [show lo = hi by omega]
  | succ m ih =>
    intro lo h hz
    obtain ⟨e1, e2⟩ := ofi (i := lo) (by omega)
    have h1 : Int32.ofNat lo < 576 := by rw [lt32, e1]; simp only [Int32.reduceToInt]; omega
    have hb : 0 ≤ (Int32.ofNat lo).toInt ∧ (Int32.ofNat lo).toInt < 576 := by omega
    have z := hz lo (Nat.le_refl _) (by omega)
    rw [← e2] at z
    rw [← ih (lo + 1) (by omega) (fun i h1 h2 => hz i (by omega) h2), w17_44]
    simp +decide only [w17_46, w17_49, w17_52, w17_53, w17_56, w17_58, w17_59, w17_62, w17_126, w17_129, isO_put, true_and, and_true, or_true, ↓reduceIte, g2, ai1, ain1, ae1, ain1, h1, hb, z, ofs]
theorem l17_3 (m : Nat) : ∀ (i : Int32) (s : St), i.toInt = 24 - m → 0 ≤ i.toInt → (W (pj lw) 17 3 [.val (.ref p), .val (.long (oi D)), .second, .val (.long (oi N)), .second, .val (.int i), .unset, .unset, .unset, .unset, .unset, .unset] [] k n (ob H p s) Q ↔ W (pj lw) 17 24 [.val (.ref p), .val (.long (oi D)), .second, .val (.long (oi N)), .second, .val (.int 24), .unset, .unset, .unset, .unset, .unset, .unset] [] k n (ob H p (fB s 5 i.toNatClampNeg 24 0)) Q) := by
  induction m with
  | zero =>
    intro i s hi h0
    have h1 : ¬ i < 24 := by rw [lt32]; simp only [Int32.reduceToInt]; omega
    have e : i = 24 := by rw [eq32]; simp only [Int32.reduceToInt]; omega
    rw [w17_3]; simp +decide only [w17_5, w17_7, ↓reduceIte, h1]
    rw [e, fB_nil (by decide)]
  | succ m ih =>
    intro i s hi h0
    have h1 : i < 24 := by rw [lt32]; simp only [Int32.reduceToInt]; omega
    have h2 : (i + 1).toInt = i.toInt + 1 := ia (by simp only [Int32.reduceToInt]; omega) (by simp only [Int32.reduceToInt]; omega)
    have h4 : (i + 1).toNatClampNeg = i.toNatClampNeg + 1 := by rw [cln, cln]; omega
    have hb : 0 ≤ i.toInt ∧ i.toInt < 24 := by omega
    rw [← fB_step (by rw [cln]; omega), ← h4, ← ih (i + 1) _ (by omega) (by omega), w17_3]
    simp +decide only [w17_5, w17_7, w17_10, w17_11, w17_14, w17_16, w17_17, w17_18, w17_21, isO_put, true_and, and_true, ↓reduceIte, g10, aw5, as5, h1, hb]
def big (z : Int) : Prop := -1000000000 ≤ z ∧ z ≤ 1000000000
set_option maxRecDepth 100000 in
theorem a17_1 (he : sA s 1 1 = 1) (hw : sA s 2 1 = x) (ku : sB s 5 0 = oi p0) (kv : sB s 5 1 = oi p1) (bu : big p0) (bv : big p1) (bw : big (D * x.toInt - N))
    (hq : ∀ z ch', z = min (p0 + (D * x.toInt - N)) p1 → (ch' = ch ∧ z = p1 ∨ ch' = 1) → W (pj lw) 17 44 [.val (.ref p), .val (.long (oi D)), .second, .val (.long (oi N)), .second, .val (.int rd), .val (.int ch'), .val (.int 2), .unset, .unset, .unset, .unset] [] k n (ob H p (uB s 5 1 (oi z))) Q) :
    W (pj lw) 17 44 [.val (.ref p), .val (.long (oi D)), .second, .val (.long (oi N)), .second, .val (.int rd), .val (.int ch), .val (.int (Int32.ofNat 1)), .unset, .unset, .unset, .unset] [] k n (ob H p s) Q := by
  unfold big at bu bv bw
  have oe : Int32.ofNat 1 = 1 := rfl
  have nf : p0 + D * x.toInt - N = p0 + (D * x.toInt - N) := by omega
  rw [w17_44]
  by_cases q : p0 + (D * x.toInt - N) < p1
  · have q' := eq_true ((oi_lt (x := p0 + (D * x.toInt - N)) (y := p1) (by omega) (by omega)).2 q)
    simp +decide only [oe, w17_46, w17_49, w17_52, w17_53, w17_56, w17_58, w17_59, w17_65, w17_67, w17_69, w17_70, w17_72, w17_74, w17_76, w17_77, w17_79, w17_80, w17_83, w17_85, w17_86, w17_87, w17_88, w17_91, w17_93, w17_94, w17_95, w17_96, w17_97, w17_98, w17_99uu, w17_101, w17_103, w17_104, w17_107, w17_109, w17_110, w17_111, w17_114, w17_115, w17_118, w17_120, w17_122, w17_123, w17_124i, isO_put, cmpL_lt, true_and, or_true, ↓reduceIte, Int32.reduceToNatClampNeg, g2, g3, g10, ai1, ain1, ae1, ai2, ae2, ai5, aw5, ae5, as5, ain1, Int32.reduceDiv, Int32.reduceMod, he, hw, ku, kv, oi_32, oi_mul, oi_add, oi_sub, nf, q']
    refine W_fa 8 rfl ?_
    show W (pj lw) 17 126 [.val (.ref p), .val (.long (oi D)), .second, .val (.long (oi N)), .second, .val (.int rd), .val (.int 1), .val (.int 1), .unset, .unset, .unset, .unset] [] k n (ob H p (uB s 5 1 (oi (p0 + (D * x.toInt - N))))) Q
    simp +decide only [w17_126, w17_129, Nat.reduceAdd, Int32.reduceAdd, Int64.reduceAdd]
    exact hq _ 1 (by omega) (Or.inr rfl)
  · have q' := eq_false (fun w => q ((oi_lt (x := p0 + (D * x.toInt - N)) (y := p1) (by omega) (by omega)).1 w))
    simp +decide only [oe, w17_46, w17_49, w17_52, w17_53, w17_56, w17_58, w17_59, w17_65, w17_67, w17_69, w17_70, w17_72, w17_74, w17_76, w17_77, w17_79, w17_80, w17_83, w17_85, w17_86, w17_87, w17_88, w17_91, w17_93, w17_94, w17_95, w17_96, w17_97, w17_98, w17_99uu, w17_101, w17_103, w17_104, w17_107, w17_109, w17_110, w17_111, isO_put, cmpL_lt, true_and, or_true, ↓reduceIte, Int32.reduceToNatClampNeg, g2, g3, g10, ai1, ain1, ae1, ai2, ae2, ai5, ae5, ain1, Int32.reduceDiv, Int32.reduceMod, he, hw, ku, kv, oi_32, oi_mul, oi_add, oi_sub, nf, q']
    refine W_fa 8 rfl ?_
    show W (pj lw) 17 126 [.val (.ref p), .val (.long (oi D)), .second, .val (.long (oi N)), .second, .val (.int rd), .val (.int ch), .val (.int 1), .unset, .unset, .unset, .unset] [] k n (ob H p s) Q
    simp +decide only [w17_126, w17_129, Nat.reduceAdd, Int32.reduceAdd, Int64.reduceAdd]
    have key := hq p1 ch (by omega) (Or.inl ⟨rfl, rfl⟩)
    rw [uB_id kv] at key; exact key
set_option maxRecDepth 100000 in
theorem a17_24 (he : sA s 1 24 = 1) (hw : sA s 2 24 = x) (ku : sB s 5 1 = oi p0) (kv : sB s 5 0 = oi p1) (bu : big p0) (bv : big p1) (bw : big (D * x.toInt - N))
    (hq : ∀ z ch', z = min (p0 + (D * x.toInt - N)) p1 → (ch' = ch ∧ z = p1 ∨ ch' = 1) → W (pj lw) 17 44 [.val (.ref p), .val (.long (oi D)), .second, .val (.long (oi N)), .second, .val (.int rd), .val (.int ch'), .val (.int 25), .unset, .unset, .unset, .unset] [] k n (ob H p (uB s 5 0 (oi z))) Q) :
    W (pj lw) 17 44 [.val (.ref p), .val (.long (oi D)), .second, .val (.long (oi N)), .second, .val (.int rd), .val (.int ch), .val (.int (Int32.ofNat 24)), .unset, .unset, .unset, .unset] [] k n (ob H p s) Q := by
  unfold big at bu bv bw
  have oe : Int32.ofNat 24 = 24 := rfl
  have nf : p0 + D * x.toInt - N = p0 + (D * x.toInt - N) := by omega
  rw [w17_44]
  by_cases q : p0 + (D * x.toInt - N) < p1
  · have q' := eq_true ((oi_lt (x := p0 + (D * x.toInt - N)) (y := p1) (by omega) (by omega)).2 q)
    simp +decide only [oe, w17_46, w17_49, w17_52, w17_53, w17_56, w17_58, w17_59, w17_65, w17_67, w17_69, w17_70, w17_72, w17_74, w17_76, w17_77, w17_79, w17_80, w17_83, w17_85, w17_86, w17_87, w17_88, w17_91, w17_93, w17_94, w17_95, w17_96, w17_97, w17_98, w17_99uu, w17_101, w17_103, w17_104, w17_107, w17_109, w17_110, w17_111, w17_114, w17_115, w17_118, w17_120, w17_122, w17_123, w17_124i, isO_put, cmpL_lt, true_and, or_true, ↓reduceIte, Int32.reduceToNatClampNeg, g2, g3, g10, ai1, ain1, ae1, ai2, ae2, ai5, aw5, ae5, as5, ain1, Int32.reduceDiv, Int32.reduceMod, he, hw, ku, kv, oi_32, oi_mul, oi_add, oi_sub, nf, q']
    refine W_fa 8 rfl ?_
    show W (pj lw) 17 126 [.val (.ref p), .val (.long (oi D)), .second, .val (.long (oi N)), .second, .val (.int rd), .val (.int 1), .val (.int 24), .unset, .unset, .unset, .unset] [] k n (ob H p (uB s 5 0 (oi (p0 + (D * x.toInt - N))))) Q
    simp +decide only [w17_126, w17_129, Nat.reduceAdd, Int32.reduceAdd, Int64.reduceAdd]
    exact hq _ 1 (by omega) (Or.inr rfl)
  · have q' := eq_false (fun w => q ((oi_lt (x := p0 + (D * x.toInt - N)) (y := p1) (by omega) (by omega)).1 w))
    simp +decide only [oe, w17_46, w17_49, w17_52, w17_53, w17_56, w17_58, w17_59, w17_65, w17_67, w17_69, w17_70, w17_72, w17_74, w17_76, w17_77, w17_79, w17_80, w17_83, w17_85, w17_86, w17_87, w17_88, w17_91, w17_93, w17_94, w17_95, w17_96, w17_97, w17_98, w17_99uu, w17_101, w17_103, w17_104, w17_107, w17_109, w17_110, w17_111, isO_put, cmpL_lt, true_and, or_true, ↓reduceIte, Int32.reduceToNatClampNeg, g2, g3, g10, ai1, ain1, ae1, ai2, ae2, ai5, ae5, ain1, Int32.reduceDiv, Int32.reduceMod, he, hw, ku, kv, oi_32, oi_mul, oi_add, oi_sub, nf, q']
    refine W_fa 8 rfl ?_
    show W (pj lw) 17 126 [.val (.ref p), .val (.long (oi D)), .second, .val (.long (oi N)), .second, .val (.int rd), .val (.int ch), .val (.int 24), .unset, .unset, .unset, .unset] [] k n (ob H p s) Q
    simp +decide only [w17_126, w17_129, Nat.reduceAdd, Int32.reduceAdd, Int64.reduceAdd]
    have key := hq p1 ch (by omega) (Or.inl ⟨rfl, rfl⟩)
    rw [uB_id kv] at key; exact key
set_option maxRecDepth 100000 in
theorem a17_26 (he : sA s 1 26 = 1) (hw : sA s 2 26 = x) (ku : sB s 5 1 = oi p0) (kv : sB s 5 2 = oi p1) (bu : big p0) (bv : big p1) (bw : big (D * x.toInt - N))
    (hq : ∀ z ch', z = min (p0 + (D * x.toInt - N)) p1 → (ch' = ch ∧ z = p1 ∨ ch' = 1) → W (pj lw) 17 44 [.val (.ref p), .val (.long (oi D)), .second, .val (.long (oi N)), .second, .val (.int rd), .val (.int ch'), .val (.int 27), .unset, .unset, .unset, .unset] [] k n (ob H p (uB s 5 2 (oi z))) Q) :
    W (pj lw) 17 44 [.val (.ref p), .val (.long (oi D)), .second, .val (.long (oi N)), .second, .val (.int rd), .val (.int ch), .val (.int (Int32.ofNat 26)), .unset, .unset, .unset, .unset] [] k n (ob H p s) Q := by
  unfold big at bu bv bw
  have oe : Int32.ofNat 26 = 26 := rfl
  have nf : p0 + D * x.toInt - N = p0 + (D * x.toInt - N) := by omega
  rw [w17_44]
  by_cases q : p0 + (D * x.toInt - N) < p1
  · have q' := eq_true ((oi_lt (x := p0 + (D * x.toInt - N)) (y := p1) (by omega) (by omega)).2 q)
    simp +decide only [oe, w17_46, w17_49, w17_52, w17_53, w17_56, w17_58, w17_59, w17_65, w17_67, w17_69, w17_70, w17_72, w17_74, w17_76, w17_77, w17_79, w17_80, w17_83, w17_85, w17_86, w17_87, w17_88, w17_91, w17_93, w17_94, w17_95, w17_96, w17_97, w17_98, w17_99uu, w17_101, w17_103, w17_104, w17_107, w17_109, w17_110, w17_111, w17_114, w17_115, w17_118, w17_120, w17_122, w17_123, w17_124i, isO_put, cmpL_lt, true_and, or_true, ↓reduceIte, Int32.reduceToNatClampNeg, g2, g3, g10, ai1, ain1, ae1, ai2, ae2, ai5, aw5, ae5, as5, ain1, Int32.reduceDiv, Int32.reduceMod, he, hw, ku, kv, oi_32, oi_mul, oi_add, oi_sub, nf, q']
    refine W_fa 8 rfl ?_
    show W (pj lw) 17 126 [.val (.ref p), .val (.long (oi D)), .second, .val (.long (oi N)), .second, .val (.int rd), .val (.int 1), .val (.int 26), .unset, .unset, .unset, .unset] [] k n (ob H p (uB s 5 2 (oi (p0 + (D * x.toInt - N))))) Q
    simp +decide only [w17_126, w17_129, Nat.reduceAdd, Int32.reduceAdd, Int64.reduceAdd]
    exact hq _ 1 (by omega) (Or.inr rfl)
  · have q' := eq_false (fun w => q ((oi_lt (x := p0 + (D * x.toInt - N)) (y := p1) (by omega) (by omega)).1 w))
    simp +decide only [oe, w17_46, w17_49, w17_52, w17_53, w17_56, w17_58, w17_59, w17_65, w17_67, w17_69, w17_70, w17_72, w17_74, w17_76, w17_77, w17_79, w17_80, w17_83, w17_85, w17_86, w17_87, w17_88, w17_91, w17_93, w17_94, w17_95, w17_96, w17_97, w17_98, w17_99uu, w17_101, w17_103, w17_104, w17_107, w17_109, w17_110, w17_111, isO_put, cmpL_lt, true_and, or_true, ↓reduceIte, Int32.reduceToNatClampNeg, g2, g3, g10, ai1, ain1, ae1, ai2, ae2, ai5, ae5, ain1, Int32.reduceDiv, Int32.reduceMod, he, hw, ku, kv, oi_32, oi_mul, oi_add, oi_sub, nf, q']
    refine W_fa 8 rfl ?_
    show W (pj lw) 17 126 [.val (.ref p), .val (.long (oi D)), .second, .val (.long (oi N)), .second, .val (.int rd), .val (.int ch), .val (.int 26), .unset, .unset, .unset, .unset] [] k n (ob H p s) Q
    simp +decide only [w17_126, w17_129, Nat.reduceAdd, Int32.reduceAdd, Int64.reduceAdd]
    have key := hq p1 ch (by omega) (Or.inl ⟨rfl, rfl⟩)
    rw [uB_id kv] at key; exact key
set_option maxRecDepth 100000 in
theorem a17_48 (he : sA s 1 48 = 1) (hw : sA s 2 48 = x) (ku : sB s 5 2 = oi p0) (kv : sB s 5 0 = oi p1) (bu : big p0) (bv : big p1) (bw : big (D * x.toInt - N))
    (hq : ∀ z ch', z = min (p0 + (D * x.toInt - N)) p1 → (ch' = ch ∧ z = p1 ∨ ch' = 1) → W (pj lw) 17 44 [.val (.ref p), .val (.long (oi D)), .second, .val (.long (oi N)), .second, .val (.int rd), .val (.int ch'), .val (.int 49), .unset, .unset, .unset, .unset] [] k n (ob H p (uB s 5 0 (oi z))) Q) :
    W (pj lw) 17 44 [.val (.ref p), .val (.long (oi D)), .second, .val (.long (oi N)), .second, .val (.int rd), .val (.int ch), .val (.int (Int32.ofNat 48)), .unset, .unset, .unset, .unset] [] k n (ob H p s) Q := by
  unfold big at bu bv bw
  have oe : Int32.ofNat 48 = 48 := rfl
  have nf : p0 + D * x.toInt - N = p0 + (D * x.toInt - N) := by omega
  rw [w17_44]
  by_cases q : p0 + (D * x.toInt - N) < p1
  · have q' := eq_true ((oi_lt (x := p0 + (D * x.toInt - N)) (y := p1) (by omega) (by omega)).2 q)
    simp +decide only [oe, w17_46, w17_49, w17_52, w17_53, w17_56, w17_58, w17_59, w17_65, w17_67, w17_69, w17_70, w17_72, w17_74, w17_76, w17_77, w17_79, w17_80, w17_83, w17_85, w17_86, w17_87, w17_88, w17_91, w17_93, w17_94, w17_95, w17_96, w17_97, w17_98, w17_99uu, w17_101, w17_103, w17_104, w17_107, w17_109, w17_110, w17_111, w17_114, w17_115, w17_118, w17_120, w17_122, w17_123, w17_124i, isO_put, cmpL_lt, true_and, or_true, ↓reduceIte, Int32.reduceToNatClampNeg, g2, g3, g10, ai1, ain1, ae1, ai2, ae2, ai5, aw5, ae5, as5, ain1, Int32.reduceDiv, Int32.reduceMod, he, hw, ku, kv, oi_32, oi_mul, oi_add, oi_sub, nf, q']
    refine W_fa 8 rfl ?_
    show W (pj lw) 17 126 [.val (.ref p), .val (.long (oi D)), .second, .val (.long (oi N)), .second, .val (.int rd), .val (.int 1), .val (.int 48), .unset, .unset, .unset, .unset] [] k n (ob H p (uB s 5 0 (oi (p0 + (D * x.toInt - N))))) Q
    simp +decide only [w17_126, w17_129, Nat.reduceAdd, Int32.reduceAdd, Int64.reduceAdd]
    exact hq _ 1 (by omega) (Or.inr rfl)
  · have q' := eq_false (fun w => q ((oi_lt (x := p0 + (D * x.toInt - N)) (y := p1) (by omega) (by omega)).1 w))
    simp +decide only [oe, w17_46, w17_49, w17_52, w17_53, w17_56, w17_58, w17_59, w17_65, w17_67, w17_69, w17_70, w17_72, w17_74, w17_76, w17_77, w17_79, w17_80, w17_83, w17_85, w17_86, w17_87, w17_88, w17_91, w17_93, w17_94, w17_95, w17_96, w17_97, w17_98, w17_99uu, w17_101, w17_103, w17_104, w17_107, w17_109, w17_110, w17_111, isO_put, cmpL_lt, true_and, or_true, ↓reduceIte, Int32.reduceToNatClampNeg, g2, g3, g10, ai1, ain1, ae1, ai2, ae2, ai5, ae5, ain1, Int32.reduceDiv, Int32.reduceMod, he, hw, ku, kv, oi_32, oi_mul, oi_add, oi_sub, nf, q']
    refine W_fa 8 rfl ?_
    show W (pj lw) 17 126 [.val (.ref p), .val (.long (oi D)), .second, .val (.long (oi N)), .second, .val (.int rd), .val (.int ch), .val (.int 48), .unset, .unset, .unset, .unset] [] k n (ob H p s) Q
    simp +decide only [w17_126, w17_129, Nat.reduceAdd, Int32.reduceAdd, Int64.reduceAdd]
    have key := hq p1 ch (by omega) (Or.inl ⟨rfl, rfl⟩)
    rw [uB_id kv] at key; exact key
end F

section G
variable {lw : LW} {H : AH} {p j : Nat} {s s' s'' : St} {Q : Option Value → AH → Prop} {a b c d x y ch rd : Int32} {h : Nat → Cel} {k n : Nat} {N D p0 p1 p2 A B C E M : Int}
def Pt (s s' : St) (q : Int × Int × Int) : Prop := (∀ k, sI s' k = sI s k) ∧ (∀ k, sJ s' k = sJ s k) ∧ (∀ t i, sA s' t i = sA s t i) ∧ (∀ t i, t ≠ 5 → sB s' t i = sB s t i) ∧ sB s' 5 0 = oi q.1 ∧ sB s' 5 1 = oi q.2.1 ∧ sB s' 5 2 = oi q.2.2
theorem Pt.hs {q : Int × Int × Int} (g : Pt s s' q) (h : HS s a b c d) : HS s' a b c d := h.of (g.1 0) (g.2.1 16) (g.2.2.1 1) (g.2.2.1 2)
theorem Pt.trans {q q' : Int × Int × Int} (g : Pt s s' q) (h : Pt s' s'' q') : Pt s s'' q' := ⟨fun k => (h.1 k).trans (g.1 k), fun k => (h.2.1 k).trans (g.2.1 k), fun t i => (h.2.2.1 t i).trans (g.2.2.1 t i), fun t i ht => (h.2.2.2.1 t i ht).trans (g.2.2.2.1 t i ht), h.2.2.2.2⟩
def cb (z : Int) : Prop := -100000 ≤ z ∧ z ≤ 100000
def qb (M : Int) (q : Int × Int × Int) : Prop := (-M ≤ q.1 ∧ q.1 ≤ M) ∧ (-M ≤ q.2.1 ∧ q.2.1 ≤ M) ∧ (-M ≤ q.2.2 ∧ q.2.2 ≤ M)
theorem Rd_b (hA : cb A) (hB : cb B) (hC : cb C) (hE : cb E) {q : Int × Int × Int} (h : qb M q) (hM : 0 ≤ M) : qb (M + 400000) (Rd A B C E q) := by
  obtain ⟨x, y, z⟩ := q
  unfold qb cb Rd at *
  simp only at h ⊢
  generalize e1 : min (x + A) y = r1
  have : -(M + 100000) ≤ r1 ∧ r1 ≤ M := by omega
  clear e1
  generalize e2 : min (r1 + C) z = r2
  have : -(M + 200000) ≤ r2 ∧ r2 ≤ M := by omega
  clear e2
  generalize e3 : min (r1 + B) x = r3
  have : -(M + 200000) ≤ r3 ∧ r3 ≤ M := by omega
  clear e3
  refine ⟨?_, ?_, ?_⟩ <;> omega
set_option maxRecDepth 100000 in
set_option maxHeartbeats 2000000 in
theorem p17 (G : HS s a b c d) (hA : cb (D * a.toInt - N)) (hB : cb (D * b.toInt - N)) (hC : cb (D * c.toInt - N)) (hE : cb (D * d.toInt - N)) (k0 : sB s 5 0 = oi p0) (k1 : sB s 5 1 = oi p1) (k2 : sB s 5 2 = oi p2) (hb : qb M (p0, p1, p2)) (hM : 0 ≤ M ∧ M ≤ 3000000)
    (hq : ∀ s' ch', Pt s s' (Rd (D * a.toInt - N) (D * b.toInt - N) (D * c.toInt - N) (D * d.toInt - N) (p0, p1, p2)) → (ch' = 0 ∧ Rd (D * a.toInt - N) (D * b.toInt - N) (D * c.toInt - N) (D * d.toInt - N) (p0, p1, p2) = (p0, p1, p2) ∨ ch' = 1) → W (pj lw) 17 132 [.val (.ref p), .val (.long (oi D)), .second, .val (.long (oi N)), .second, .val (.int rd), .val (.int ch'), .val (.int 576), .unset, .unset, .unset, .unset] [] k n (ob H p s') Q) :
    W (pj lw) 17 44 [.val (.ref p), .val (.long (oi D)), .second, .val (.long (oi N)), .second, .val (.int rd), .val (.int 0), .val (.int 0), .unset, .unset, .unset, .unset] [] k n (ob H p s) Q := by
  obtain ⟨⟨n3, hi⟩, hz', wa, wb', wc, wd⟩ := id G
  have hz := fun lo hi hh hn => G.z (lo := lo) (hi := hi) hh hn
  unfold cb at hA hB hC hE
  unfold qb at hb
  simp only at hb
  have e1 : sA s 1 1 = 1 := by rw [hz' 1 (by decide)]; rfl
  have e24 : sA s 1 24 = 1 := by rw [hz' 24 (by decide)]; rfl
  have e26 : sA s 1 26 = 1 := by rw [hz' 26 (by decide)]; rfl
  have e48 : sA s 1 48 = 1 := by rw [hz' 48 (by decide)]; rfl
  refine (sk17 (lo := 0) (hi := 1) (by decide) 1 (by decide) (hz 0 1 (by decide) (by omega))).2 ?_
  refine a17_1 (x := a) e1 wa k0 k1 (by unfold big; omega) (by unfold big; omega) (by unfold big; omega) fun z1 c1 hz1 hc1 => ?_
  refine (sk17 (lo := 2) (hi := 24) (by decide) 22 (by decide) (by simp only [sA_uB]; exact hz 2 24 (by decide) (by omega))).2 ?_
  refine a17_24 (x := b) (p0 := z1) (p1 := p0) (by rw [sA_uB]; exact e24) (by rw [sA_uB]; exact wb') (by rw [sB_uB, if_pos ⟨rfl, rfl⟩]) (by rw [sB_uB, if_neg (by decide)]; exact k0) (by unfold big; omega) (by unfold big; omega) (by unfold big; omega) fun z2 c2 hz2 hc2 => ?_
  refine (sk17 (lo := 25) (hi := 26) (by decide) 1 (by decide) (by simp only [sA_uB]; exact hz 25 26 (by decide) (by omega))).2 ?_
  refine a17_26 (x := c) (p0 := z1) (p1 := p2) (by rw [sA_uB, sA_uB]; exact e26) (by rw [sA_uB, sA_uB]; exact wc) (by rw [sB_uB, if_neg (by decide), sB_uB, if_pos ⟨rfl, rfl⟩]) (by rw [sB_uB, if_neg (by decide), sB_uB, if_neg (by decide)]; exact k2) (by unfold big; omega) (by unfold big; omega) (by unfold big; omega) fun z3 c3 hz3 hc3 => ?_
  refine (sk17 (lo := 27) (hi := 48) (by decide) 21 (by decide) (by simp only [sA_uB]; exact hz 27 48 (by decide) (by omega))).2 ?_
  refine a17_48 (x := d) (p0 := z3) (p1 := z2) (by rw [sA_uB, sA_uB, sA_uB]; exact e48) (by rw [sA_uB, sA_uB, sA_uB]; exact wd) (by rw [sB_uB, if_pos ⟨rfl, rfl⟩]) (by rw [sB_uB, if_neg (by decide), sB_uB, if_pos ⟨rfl, rfl⟩]) (by unfold big; omega) (by unfold big; omega) (by unfold big; omega) fun z4 c4 hz4 hc4 => ?_
  refine (sk17 (lo := 49) (hi := 576) (by decide) 527 (by decide) (by simp only [sA_uB]; exact hz 49 576 (by decide) (by omega))).2 ?_
  have o576 : Int32.ofNat 576 = 576 := rfl
  rw [w17_44]; simp +decide only [o576, w17_46, w17_49, ↓reduceIte]
  have er : Rd (D * a.toInt - N) (D * b.toInt - N) (D * c.toInt - N) (D * d.toInt - N) (p0, p1, p2) = (z4, z1, z3) := by
    unfold Rd; simp only; rw [← hz1, ← hz2, ← hz3, ← hz4]
  rw [er] at hq
  refine hq _ c4 ⟨fun k => by simp only [sI_uB], fun k => by simp only [sJ_uB], fun t i => by simp only [sA_uB], fun t i ht => by simp only [sB_uB, eq_false ht, false_and, if_false], ?_, ?_, ?_⟩ ?_
  · rw [sB_uB, if_pos ⟨rfl, rfl⟩]
  · rw [sB_uB, if_neg (by decide), sB_uB, if_neg (by decide), sB_uB, if_neg (by decide), sB_uB, if_pos ⟨rfl, rfl⟩]
  · rw [sB_uB, if_neg (by decide), sB_uB, if_pos ⟨rfl, rfl⟩]
  · rcases hc4 with ⟨g4, h4⟩ | g4
    rotate_left
    · exact Or.inr g4
    rcases hc3 with ⟨g3, h3⟩ | g3
    rotate_left
    · exact Or.inr (g4.trans g3)
    rcases hc2 with ⟨g2, h2⟩ | g2
    rotate_left
    · exact Or.inr ((g4.trans g3).trans g2)
    rcases hc1 with ⟨g1, h1⟩ | g1
    rotate_left
    · exact Or.inr (((g4.trans g3).trans g2).trans g1)
    refine Or.inl ⟨((g4.trans g3).trans g2).trans g1, ?_⟩
    rw [h4, h2, h1, h3]
set_option maxRecDepth 100000 in
set_option maxHeartbeats 2000000 in
theorem l17_27 (G : HS s a b c d) (hA : cb (D * a.toInt - N)) (hB : cb (D * b.toInt - N)) (hC : cb (D * c.toInt - N)) (hE : cb (D * d.toInt - N)) (m : Nat) :
    ∀ (rd : Int32) (q : Int × Int × Int) (σ1 : St) (M : Int), Pt s σ1 q → rd.toInt = 5 - m → 0 ≤ rd.toInt → qb M q → 0 ≤ M → M + 400000 * m ≤ 3000000 →
    (∀ s', Pt s s' (it m (Rd (D * a.toInt - N) (D * b.toInt - N) (D * c.toInt - N) (D * d.toInt - N)) q) → Q none (ob H p s')) →
    W (pj lw) 17 27 [.val (.ref p), .val (.long (oi D)), .second, .val (.long (oi N)), .second, .val (.int rd), .unset, .unset, .unset, .unset, .unset, .unset] [] k n (ob H p σ1) Q := by
  induction m with
  | zero =>
    intro rd q σ1 M hP hr h0 hb hM hM2 hq
    have n3 : sI σ1 0 = 3 := (hP.hs G).1.1
    have h1 : 4 < rd := by rw [lt32]; simp only [Int32.reduceToInt]; omega
    rw [w17_27]; simp +decide only [w17_29, w17_30, w17_33, w17_34, w17_35, w17_146, isO_put, true_and, ↓reduceIte, Nat.reduceAdd, Int32.reduceAdd, Int64.reduceAdd, g0, n3, h1]
    exact hq σ1 hP
  | succ m ih =>
    intro rd q σ1 M hP hr h0 hb hM hM2 hq
    have n3 : sI σ1 0 = 3 := (hP.hs G).1.1
    have h1 : ¬ 4 < rd := by rw [lt32]; simp only [Int32.reduceToInt]; omega
    have h2 : (rd + 1).toInt = rd.toInt + 1 := ia (by simp only [Int32.reduceToInt]; omega) (by simp only [Int32.reduceToInt]; omega)
    obtain ⟨p0, p1, p2⟩ := q
    rw [w17_27]; simp +decide only [w17_29, w17_30, w17_33, w17_34, w17_35, w17_38, w17_39, w17_41, w17_42, isO_put, true_and, ↓reduceIte, Nat.reduceAdd, Int32.reduceAdd, Int64.reduceAdd, g0, n3, h1]
    refine p17 (M := M) (hP.hs G) hA hB hC hE hP.2.2.2.2.1 hP.2.2.2.2.2.1 hP.2.2.2.2.2.2 hb (by omega) fun σ2 ch' P2 hc => ?_
    rcases hc with ⟨rfl, hf⟩ | rfl
    · simp +decide only [w17_132, w17_134, w17_137, w17_146, ↓reduceIte]
      refine hq σ2 ?_
      rw [it_fix hf]
      rw [hf] at P2
      exact hP.trans P2
    · simp +decide only [w17_132, w17_134, ↓reduceIte]
      refine W_fa 6 rfl ?_
      show W (pj lw) 17 140 [.val (.ref p), .val (.long (oi D)), .second, .val (.long (oi N)), .second, .val (.int rd), .unset, .unset, .unset, .unset, .unset, .unset] [] k n (ob H p σ2) Q
      simp +decide only [w17_140, w17_143]
      exact ih (rd + 1) _ σ2 (M + 400000) (hP.trans P2) (by omega) (by omega) (Rd_b hA hB hC hE hb hM) (by omega) (by omega) (fun s' hs' => hq s' hs')
theorem v17 (G : HS s a b c d) (hA : cb (D * a.toInt - N)) (hB : cb (D * b.toInt - N)) (hC : cb (D * c.toInt - N)) (hE : cb (D * d.toInt - N)) (f1 : 0 ≤ (D * a.toInt - N) + (D * b.toInt - N)) (f2 : 0 ≤ (D * a.toInt - N) + (D * c.toInt - N) + (D * d.toInt - N))
    (hq : ∀ s', Pt s s' (P0 (D * a.toInt - N) (D * b.toInt - N) (D * c.toInt - N) (D * d.toInt - N), P1 (D * a.toInt - N) (D * b.toInt - N) (D * c.toInt - N) (D * d.toInt - N), P2 (D * a.toInt - N) (D * b.toInt - N) (D * c.toInt - N) (D * d.toInt - N)) → Q none (ob H p s')) :
    Cl (pj lw) 17 [.ref p, .long (oi D), .long (oi N)] (ob H p s) Q := by
  rw [c17]; simp +decide only [w17_0, w17_1]
  refine (l17_3 24 0 s (by decide) (by decide)).2 ?_
  simp +decide only [w17_24, w17_25i, Int32.reduceToNatClampNeg]
  have hP : Pt s (fB s 5 0 24 0) (0, 0, 0) := ⟨fun k => sI_fB, fun k => sJ_fB, fun t i => sA_fB, fun t i ht => by rw [sB_fB, if_neg (fun w => ht w.1)], by rw [sB_fB, if_pos (by decide)]; rfl, by rw [sB_fB, if_pos (by decide)]; rfl, by rw [sB_fB, if_pos (by decide)]; rfl⟩
  refine l17_27 G hA hB hC hE 5 0 (0, 0, 0) _ 0 hP (by decide) (by decide) (by unfold qb; decide) (by omega) (by omega) fun s' hs' => ?_
  rw [R_five f1 f2] at hs'
  exact hq s' hs'
end G

section Hh
variable {lw : LW} {H : AH} {p j : Nat} {s s' s'' : St} {Q : Option Value → AH → Prop} {a b c d x y ch rd : Int32} {h : Nat → Cel} {k n : Nat} {N D p0 p1 p2 A B C E M : Int}
theorem oi_z {z : Int} (hz : -1000000000000000000 ≤ z ∧ z ≤ 1000000000000000000) : oi z = 0 ↔ z = 0 := by rw [oi0]; exact oi_eq hz (by omega)
def TT (s : St) (t1 t2 t3 t4 : Int32) : Prop := ∀ i, i < 576 → sA s 7 i = if i = 1 then t1 else if i = 24 then t2 else if i = 26 then t3 else if i = 48 then t4 else 0
def Ka (s s' : St) (t : Nat) : Prop := (∀ k, sI s' k = sI s k) ∧ (∀ k, sJ s' k = sJ s k) ∧ (∀ t' i, t' ≠ t → sA s' t' i = sA s t' i) ∧ ∀ t' i, sB s' t' i = sB s t' i
theorem Ka.hs {t : Nat} (g : Ka s s' t) (h : HS s a b c d) (h1 : t ≠ 1) (h2 : t ≠ 2) : HS s' a b c d := h.of (g.1 0) (g.2.1 16) (fun i => g.2.2.1 1 i (fun w => h1 w.symm)) (fun i => g.2.2.1 2 i (fun w => h2 w.symm))
theorem Ka.tt {t : Nat} {t1 t2 t3 t4 : Int32} (g : Ka s s' t) (h : TT s t1 t2 t3 t4) (h7 : t ≠ 7) : TT s' t1 t2 t3 t4 := fun i hi => by rw [g.2.2.1 7 i (fun w => h7 w.symm)]; exact h i hi
theorem sk18 {hi : Nat} (hh : hi ≤ 576) (m : Nat) : ∀ (lo : Nat) (s : St), lo + m = hi → (∀ i, lo ≤ i → i < hi → sA s 1 i = 0) →
    W (pj lw) 18 3 [.val (.ref p), .val (.long (oi D)), .second, .val (.long (oi N)), .second, .val (.int (Int32.ofNat hi)), .unset, .unset] [] k n (ob H p (fA s 7 lo hi 0)) Q → W (pj lw) 18 3 [.val (.ref p), .val (.long (oi D)), .second, .val (.long (oi N)), .second, .val (.int (Int32.ofNat lo)), .unset, .unset] [] k n (ob H p s) Q := by
  induction m with
  | zero => intro lo s h _ hw; rw [show lo = hi by omega] at *; rw [fA_nil (Nat.le_refl _)] at hw; exact hw
  | succ m ih =>
    intro lo s h hz hw
    obtain ⟨e1, e2⟩ := ofi (i := lo) (by omega)
    have h1 : Int32.ofNat lo < 576 := by rw [lt32, e1]; simp only [Int32.reduceToInt]; omega
    have hb : 0 ≤ (Int32.ofNat lo).toInt ∧ (Int32.ofNat lo).toInt < 576 := by omega
    have z := hz lo (Nat.le_refl _) (by omega)
    rw [← e2] at z
    rw [← fA_step (by omega)] at hw
    have key := ih (lo + 1) _ (by omega) (fun i h1 h2 => by rw [sA_uA, if_neg (by simp)]; exact hz i (by omega) h2) hw
    rw [w18_3]
    simp +decide only [w18_5, w18_8, w18_11, w18_13, w18_15, w18_16, w18_18, w18_20, w18_22, w18_23, w18_25, w18_26, w18_29, w18_31, w18_32, w18_35, w18_37, w18_38, w18_78, w18_79, isO_put, true_and, and_true, or_true, ↓reduceIte, g2, g12, ai1, ain1, ae1, aw7, awn7, as7, ain1, awn7, h1, hb, z]
    refine W_fa 6 rfl ?_
    rw [e2]
    show W (pj lw) 18 80 [.val (.ref p), .val (.long (oi D)), .second, .val (.long (oi N)), .second, .val (.int (Int32.ofNat lo)), .unset, .unset] [] k n (ob H p (uA s 7 lo 0)) Q
    simp +decide only [w18_80, w18_83, ofs]
    exact key
set_option maxRecDepth 100000 in
theorem a18_1 (he : sA s 1 1 = 1) (hw : sA s 2 1 = x) (ku : sB s 5 0 = oi p0) (kv : sB s 5 1 = oi p1) (bu : big p0) (bv : big p1) (bw : big (D * x.toInt - N))
    (hq : ∀ t : Int32, ((t = 1 ∧ p0 + (D * x.toInt - N) = p1) ∨ (t = 0 ∧ ¬ p0 + (D * x.toInt - N) = p1)) → W (pj lw) 18 3 [.val (.ref p), .val (.long (oi D)), .second, .val (.long (oi N)), .second, .val (.int 2), .unset, .unset] [] k n (ob H p (uA s 7 1 t)) Q) :
    W (pj lw) 18 3 [.val (.ref p), .val (.long (oi D)), .second, .val (.long (oi N)), .second, .val (.int (Int32.ofNat 1)), .unset, .unset] [] k n (ob H p s) Q := by
  unfold big at bu bv bw
  have oe : Int32.ofNat 1 = 1 := rfl
  have nf : p0 + D * x.toInt - N - p1 = p0 + (D * x.toInt - N) - p1 := by omega
  rw [w18_3]
  by_cases q : p0 + (D * x.toInt - N) - p1 = 0
  · have q' := eq_true ((oi_z (z := p0 + (D * x.toInt - N) - p1) (by omega)).2 q)
    simp +decide only [oe, w18_5, w18_8, w18_11, w18_13, w18_15, w18_16, w18_18, w18_20, w18_22, w18_23, w18_25, w18_26, w18_29, w18_31, w18_32, w18_35, w18_37, w18_38, w18_41, w18_42, w18_45, w18_47, w18_48, w18_49, w18_50, w18_53, w18_55, w18_56, w18_57, w18_58, w18_59, w18_60, w18_61, w18_62, w18_65, w18_67, w18_68, w18_69, w18_70, w18_71, w18_74, w18_75, w18_79, isO_put, cmpL_eq, true_and, and_true, or_true, ↓reduceIte, Int32.reduceToNatClampNeg, g2, g3, g10, g12, ai1, ain1, ae1, ai2, ae2, ai5, ae5, aw7, awn7, as7, ain1, awn7, Int32.reduceDiv, Int32.reduceMod, he, hw, ku, kv, oi_32, oi_mul, oi_add, oi_sub, nf, q']
    refine W_fa 6 rfl ?_
    show W (pj lw) 18 80 [.val (.ref p), .val (.long (oi D)), .second, .val (.long (oi N)), .second, .val (.int 1), .unset, .unset] [] k n (ob H p (uA s 7 1 1)) Q
    simp +decide only [w18_80, w18_83, Nat.reduceAdd, Int32.reduceAdd, Int64.reduceAdd]
    exact hq 1 (Or.inl ⟨rfl, by omega⟩)
  · have q' := eq_false (fun w => q ((oi_z (z := p0 + (D * x.toInt - N) - p1) (by omega)).1 w))
    simp +decide only [oe, w18_5, w18_8, w18_11, w18_13, w18_15, w18_16, w18_18, w18_20, w18_22, w18_23, w18_25, w18_26, w18_29, w18_31, w18_32, w18_35, w18_37, w18_38, w18_41, w18_42, w18_45, w18_47, w18_48, w18_49, w18_50, w18_53, w18_55, w18_56, w18_57, w18_58, w18_59, w18_60, w18_61, w18_62, w18_65, w18_67, w18_68, w18_69, w18_70, w18_71, w18_78, w18_79, isO_put, cmpL_eq, true_and, and_true, or_true, ↓reduceIte, Int32.reduceToNatClampNeg, g2, g3, g10, g12, ai1, ain1, ae1, ai2, ae2, ai5, ae5, aw7, awn7, as7, ain1, awn7, Int32.reduceDiv, Int32.reduceMod, he, hw, ku, kv, oi_32, oi_mul, oi_add, oi_sub, nf, q']
    refine W_fa 6 rfl ?_
    show W (pj lw) 18 80 [.val (.ref p), .val (.long (oi D)), .second, .val (.long (oi N)), .second, .val (.int 1), .unset, .unset] [] k n (ob H p (uA s 7 1 0)) Q
    simp +decide only [w18_80, w18_83, Nat.reduceAdd, Int32.reduceAdd, Int64.reduceAdd]
    exact hq 0 (Or.inr ⟨rfl, by omega⟩)
set_option maxRecDepth 100000 in
theorem a18_24 (he : sA s 1 24 = 1) (hw : sA s 2 24 = x) (ku : sB s 5 1 = oi p0) (kv : sB s 5 0 = oi p1) (bu : big p0) (bv : big p1) (bw : big (D * x.toInt - N))
    (hq : ∀ t : Int32, ((t = 1 ∧ p0 + (D * x.toInt - N) = p1) ∨ (t = 0 ∧ ¬ p0 + (D * x.toInt - N) = p1)) → W (pj lw) 18 3 [.val (.ref p), .val (.long (oi D)), .second, .val (.long (oi N)), .second, .val (.int 25), .unset, .unset] [] k n (ob H p (uA s 7 24 t)) Q) :
    W (pj lw) 18 3 [.val (.ref p), .val (.long (oi D)), .second, .val (.long (oi N)), .second, .val (.int (Int32.ofNat 24)), .unset, .unset] [] k n (ob H p s) Q := by
  unfold big at bu bv bw
  have oe : Int32.ofNat 24 = 24 := rfl
  have nf : p0 + D * x.toInt - N - p1 = p0 + (D * x.toInt - N) - p1 := by omega
  rw [w18_3]
  by_cases q : p0 + (D * x.toInt - N) - p1 = 0
  · have q' := eq_true ((oi_z (z := p0 + (D * x.toInt - N) - p1) (by omega)).2 q)
    simp +decide only [oe, w18_5, w18_8, w18_11, w18_13, w18_15, w18_16, w18_18, w18_20, w18_22, w18_23, w18_25, w18_26, w18_29, w18_31, w18_32, w18_35, w18_37, w18_38, w18_41, w18_42, w18_45, w18_47, w18_48, w18_49, w18_50, w18_53, w18_55, w18_56, w18_57, w18_58, w18_59, w18_60, w18_61, w18_62, w18_65, w18_67, w18_68, w18_69, w18_70, w18_71, w18_74, w18_75, w18_79, isO_put, cmpL_eq, true_and, and_true, or_true, ↓reduceIte, Int32.reduceToNatClampNeg, g2, g3, g10, g12, ai1, ain1, ae1, ai2, ae2, ai5, ae5, aw7, awn7, as7, ain1, awn7, Int32.reduceDiv, Int32.reduceMod, he, hw, ku, kv, oi_32, oi_mul, oi_add, oi_sub, nf, q']
    refine W_fa 6 rfl ?_
    show W (pj lw) 18 80 [.val (.ref p), .val (.long (oi D)), .second, .val (.long (oi N)), .second, .val (.int 24), .unset, .unset] [] k n (ob H p (uA s 7 24 1)) Q
    simp +decide only [w18_80, w18_83, Nat.reduceAdd, Int32.reduceAdd, Int64.reduceAdd]
    exact hq 1 (Or.inl ⟨rfl, by omega⟩)
  · have q' := eq_false (fun w => q ((oi_z (z := p0 + (D * x.toInt - N) - p1) (by omega)).1 w))
    simp +decide only [oe, w18_5, w18_8, w18_11, w18_13, w18_15, w18_16, w18_18, w18_20, w18_22, w18_23, w18_25, w18_26, w18_29, w18_31, w18_32, w18_35, w18_37, w18_38, w18_41, w18_42, w18_45, w18_47, w18_48, w18_49, w18_50, w18_53, w18_55, w18_56, w18_57, w18_58, w18_59, w18_60, w18_61, w18_62, w18_65, w18_67, w18_68, w18_69, w18_70, w18_71, w18_78, w18_79, isO_put, cmpL_eq, true_and, and_true, or_true, ↓reduceIte, Int32.reduceToNatClampNeg, g2, g3, g10, g12, ai1, ain1, ae1, ai2, ae2, ai5, ae5, aw7, awn7, as7, ain1, awn7, Int32.reduceDiv, Int32.reduceMod, he, hw, ku, kv, oi_32, oi_mul, oi_add, oi_sub, nf, q']
    refine W_fa 6 rfl ?_
    show W (pj lw) 18 80 [.val (.ref p), .val (.long (oi D)), .second, .val (.long (oi N)), .second, .val (.int 24), .unset, .unset] [] k n (ob H p (uA s 7 24 0)) Q
    simp +decide only [w18_80, w18_83, Nat.reduceAdd, Int32.reduceAdd, Int64.reduceAdd]
    exact hq 0 (Or.inr ⟨rfl, by omega⟩)
set_option maxRecDepth 100000 in
theorem a18_26 (he : sA s 1 26 = 1) (hw : sA s 2 26 = x) (ku : sB s 5 1 = oi p0) (kv : sB s 5 2 = oi p1) (bu : big p0) (bv : big p1) (bw : big (D * x.toInt - N))
    (hq : ∀ t : Int32, ((t = 1 ∧ p0 + (D * x.toInt - N) = p1) ∨ (t = 0 ∧ ¬ p0 + (D * x.toInt - N) = p1)) → W (pj lw) 18 3 [.val (.ref p), .val (.long (oi D)), .second, .val (.long (oi N)), .second, .val (.int 27), .unset, .unset] [] k n (ob H p (uA s 7 26 t)) Q) :
    W (pj lw) 18 3 [.val (.ref p), .val (.long (oi D)), .second, .val (.long (oi N)), .second, .val (.int (Int32.ofNat 26)), .unset, .unset] [] k n (ob H p s) Q := by
  unfold big at bu bv bw
  have oe : Int32.ofNat 26 = 26 := rfl
  have nf : p0 + D * x.toInt - N - p1 = p0 + (D * x.toInt - N) - p1 := by omega
  rw [w18_3]
  by_cases q : p0 + (D * x.toInt - N) - p1 = 0
  · have q' := eq_true ((oi_z (z := p0 + (D * x.toInt - N) - p1) (by omega)).2 q)
    simp +decide only [oe, w18_5, w18_8, w18_11, w18_13, w18_15, w18_16, w18_18, w18_20, w18_22, w18_23, w18_25, w18_26, w18_29, w18_31, w18_32, w18_35, w18_37, w18_38, w18_41, w18_42, w18_45, w18_47, w18_48, w18_49, w18_50, w18_53, w18_55, w18_56, w18_57, w18_58, w18_59, w18_60, w18_61, w18_62, w18_65, w18_67, w18_68, w18_69, w18_70, w18_71, w18_74, w18_75, w18_79, isO_put, cmpL_eq, true_and, and_true, or_true, ↓reduceIte, Int32.reduceToNatClampNeg, g2, g3, g10, g12, ai1, ain1, ae1, ai2, ae2, ai5, ae5, aw7, awn7, as7, ain1, awn7, Int32.reduceDiv, Int32.reduceMod, he, hw, ku, kv, oi_32, oi_mul, oi_add, oi_sub, nf, q']
    refine W_fa 6 rfl ?_
    show W (pj lw) 18 80 [.val (.ref p), .val (.long (oi D)), .second, .val (.long (oi N)), .second, .val (.int 26), .unset, .unset] [] k n (ob H p (uA s 7 26 1)) Q
    simp +decide only [w18_80, w18_83, Nat.reduceAdd, Int32.reduceAdd, Int64.reduceAdd]
    exact hq 1 (Or.inl ⟨rfl, by omega⟩)
  · have q' := eq_false (fun w => q ((oi_z (z := p0 + (D * x.toInt - N) - p1) (by omega)).1 w))
    simp +decide only [oe, w18_5, w18_8, w18_11, w18_13, w18_15, w18_16, w18_18, w18_20, w18_22, w18_23, w18_25, w18_26, w18_29, w18_31, w18_32, w18_35, w18_37, w18_38, w18_41, w18_42, w18_45, w18_47, w18_48, w18_49, w18_50, w18_53, w18_55, w18_56, w18_57, w18_58, w18_59, w18_60, w18_61, w18_62, w18_65, w18_67, w18_68, w18_69, w18_70, w18_71, w18_78, w18_79, isO_put, cmpL_eq, true_and, and_true, or_true, ↓reduceIte, Int32.reduceToNatClampNeg, g2, g3, g10, g12, ai1, ain1, ae1, ai2, ae2, ai5, ae5, aw7, awn7, as7, ain1, awn7, Int32.reduceDiv, Int32.reduceMod, he, hw, ku, kv, oi_32, oi_mul, oi_add, oi_sub, nf, q']
    refine W_fa 6 rfl ?_
    show W (pj lw) 18 80 [.val (.ref p), .val (.long (oi D)), .second, .val (.long (oi N)), .second, .val (.int 26), .unset, .unset] [] k n (ob H p (uA s 7 26 0)) Q
    simp +decide only [w18_80, w18_83, Nat.reduceAdd, Int32.reduceAdd, Int64.reduceAdd]
    exact hq 0 (Or.inr ⟨rfl, by omega⟩)
set_option maxRecDepth 100000 in
theorem a18_48 (he : sA s 1 48 = 1) (hw : sA s 2 48 = x) (ku : sB s 5 2 = oi p0) (kv : sB s 5 0 = oi p1) (bu : big p0) (bv : big p1) (bw : big (D * x.toInt - N))
    (hq : ∀ t : Int32, ((t = 1 ∧ p0 + (D * x.toInt - N) = p1) ∨ (t = 0 ∧ ¬ p0 + (D * x.toInt - N) = p1)) → W (pj lw) 18 3 [.val (.ref p), .val (.long (oi D)), .second, .val (.long (oi N)), .second, .val (.int 49), .unset, .unset] [] k n (ob H p (uA s 7 48 t)) Q) :
    W (pj lw) 18 3 [.val (.ref p), .val (.long (oi D)), .second, .val (.long (oi N)), .second, .val (.int (Int32.ofNat 48)), .unset, .unset] [] k n (ob H p s) Q := by
  unfold big at bu bv bw
  have oe : Int32.ofNat 48 = 48 := rfl
  have nf : p0 + D * x.toInt - N - p1 = p0 + (D * x.toInt - N) - p1 := by omega
  rw [w18_3]
  by_cases q : p0 + (D * x.toInt - N) - p1 = 0
  · have q' := eq_true ((oi_z (z := p0 + (D * x.toInt - N) - p1) (by omega)).2 q)
    simp +decide only [oe, w18_5, w18_8, w18_11, w18_13, w18_15, w18_16, w18_18, w18_20, w18_22, w18_23, w18_25, w18_26, w18_29, w18_31, w18_32, w18_35, w18_37, w18_38, w18_41, w18_42, w18_45, w18_47, w18_48, w18_49, w18_50, w18_53, w18_55, w18_56, w18_57, w18_58, w18_59, w18_60, w18_61, w18_62, w18_65, w18_67, w18_68, w18_69, w18_70, w18_71, w18_74, w18_75, w18_79, isO_put, cmpL_eq, true_and, and_true, or_true, ↓reduceIte, Int32.reduceToNatClampNeg, g2, g3, g10, g12, ai1, ain1, ae1, ai2, ae2, ai5, ae5, aw7, awn7, as7, ain1, awn7, Int32.reduceDiv, Int32.reduceMod, he, hw, ku, kv, oi_32, oi_mul, oi_add, oi_sub, nf, q']
    refine W_fa 6 rfl ?_
    show W (pj lw) 18 80 [.val (.ref p), .val (.long (oi D)), .second, .val (.long (oi N)), .second, .val (.int 48), .unset, .unset] [] k n (ob H p (uA s 7 48 1)) Q
    simp +decide only [w18_80, w18_83, Nat.reduceAdd, Int32.reduceAdd, Int64.reduceAdd]
    exact hq 1 (Or.inl ⟨rfl, by omega⟩)
  · have q' := eq_false (fun w => q ((oi_z (z := p0 + (D * x.toInt - N) - p1) (by omega)).1 w))
    simp +decide only [oe, w18_5, w18_8, w18_11, w18_13, w18_15, w18_16, w18_18, w18_20, w18_22, w18_23, w18_25, w18_26, w18_29, w18_31, w18_32, w18_35, w18_37, w18_38, w18_41, w18_42, w18_45, w18_47, w18_48, w18_49, w18_50, w18_53, w18_55, w18_56, w18_57, w18_58, w18_59, w18_60, w18_61, w18_62, w18_65, w18_67, w18_68, w18_69, w18_70, w18_71, w18_78, w18_79, isO_put, cmpL_eq, true_and, and_true, or_true, ↓reduceIte, Int32.reduceToNatClampNeg, g2, g3, g10, g12, ai1, ain1, ae1, ai2, ae2, ai5, ae5, aw7, awn7, as7, ain1, awn7, Int32.reduceDiv, Int32.reduceMod, he, hw, ku, kv, oi_32, oi_mul, oi_add, oi_sub, nf, q']
    refine W_fa 6 rfl ?_
    show W (pj lw) 18 80 [.val (.ref p), .val (.long (oi D)), .second, .val (.long (oi N)), .second, .val (.int 48), .unset, .unset] [] k n (ob H p (uA s 7 48 0)) Q
    simp +decide only [w18_80, w18_83, Nat.reduceAdd, Int32.reduceAdd, Int64.reduceAdd]
    exact hq 0 (Or.inr ⟨rfl, by omega⟩)
set_option maxRecDepth 100000 in
set_option maxHeartbeats 2000000 in
theorem v18 (G : HS s a b c d) (hA : cb (D * a.toInt - N)) (hB : cb (D * b.toInt - N)) (hC : cb (D * c.toInt - N)) (hE : cb (D * d.toInt - N)) (k0 : sB s 5 0 = oi p0) (k1 : sB s 5 1 = oi p1) (k2 : sB s 5 2 = oi p2) (hb : qb 3000000 (p0, p1, p2))
    (hq : ∀ s' t1 t2 t3 t4, Ka s s' 7 → TT s' t1 t2 t3 t4 → ((t1 = 1 ∧ p0 + (D * a.toInt - N) = p1) ∨ (t1 = 0 ∧ ¬ p0 + (D * a.toInt - N) = p1)) → ((t2 = 1 ∧ p1 + (D * b.toInt - N) = p0) ∨ (t2 = 0 ∧ ¬ p1 + (D * b.toInt - N) = p0)) → ((t3 = 1 ∧ p1 + (D * c.toInt - N) = p2) ∨ (t3 = 0 ∧ ¬ p1 + (D * c.toInt - N) = p2)) → ((t4 = 1 ∧ p2 + (D * d.toInt - N) = p0) ∨ (t4 = 0 ∧ ¬ p2 + (D * d.toInt - N) = p0)) → Q none (ob H p s')) :
    Cl (pj lw) 18 [.ref p, .long (oi D), .long (oi N)] (ob H p s) Q := by
  obtain ⟨⟨n3, hi⟩, hz', wa, wb', wc, wd⟩ := id G
  have hz := fun lo hi hh hn => G.z (lo := lo) (hi := hi) hh hn
  unfold cb at hA hB hC hE
  unfold qb at hb
  simp only at hb
  have e1 : sA s 1 1 = 1 := by rw [hz' 1 (by decide)]; rfl
  have e24 : sA s 1 24 = 1 := by rw [hz' 24 (by decide)]; rfl
  have e26 : sA s 1 26 = 1 := by rw [hz' 26 (by decide)]; rfl
  have e48 : sA s 1 48 = 1 := by rw [hz' 48 (by decide)]; rfl
  rw [c18]; simp +decide only [w18_0, w18_1]
  refine sk18 (hi := 1) (by decide) 1 0 s (by decide) (hz 0 1 (by decide) (by omega)) ?_
  refine a18_1 (x := a) (p0 := p0) (p1 := p1) (by rw [sA_fA, if_neg (by decide)]; exact e1) (by rw [sA_fA, if_neg (by decide)]; exact wa) (by rw [sB_fA]; exact k0) (by rw [sB_fA]; exact k1) (by unfold big; omega) (by unfold big; omega) (by unfold big; omega) fun t1 h1 => ?_
  refine sk18 (hi := 24) (by decide) 22 2 _ (by decide) (by intro i u v; rw [sA_uA, if_neg (by simp), sA_fA, if_neg (by simp)]; exact hz 2 24 (by decide) (by omega) i u v) ?_
  refine a18_24 (x := b) (p0 := p1) (p1 := p0) (by simp +decide only [sA_fA, sA_uA, false_and, if_false]; exact e24) (by simp +decide only [sA_fA, sA_uA, false_and, if_false]; exact wb') (by simp only [sB_fA, sB_uA]; exact k1) (by simp only [sB_fA, sB_uA]; exact k0) (by unfold big; omega) (by unfold big; omega) (by unfold big; omega) fun t2 h2 => ?_
  refine sk18 (hi := 26) (by decide) 1 25 _ (by decide) (by intro i u v; simp +decide only [sA_fA, sA_uA, false_and, if_false]; exact hz 25 26 (by decide) (by omega) i u v) ?_
  refine a18_26 (x := c) (p0 := p1) (p1 := p2) (by simp +decide only [sA_fA, sA_uA, false_and, if_false]; exact e26) (by simp +decide only [sA_fA, sA_uA, false_and, if_false]; exact wc) (by simp only [sB_fA, sB_uA]; exact k1) (by simp only [sB_fA, sB_uA]; exact k2) (by unfold big; omega) (by unfold big; omega) (by unfold big; omega) fun t3 h3 => ?_
  refine sk18 (hi := 48) (by decide) 21 27 _ (by decide) (by intro i u v; simp +decide only [sA_fA, sA_uA, false_and, if_false]; exact hz 27 48 (by decide) (by omega) i u v) ?_
  refine a18_48 (x := d) (p0 := p2) (p1 := p0) (by simp +decide only [sA_fA, sA_uA, false_and, if_false]; exact e48) (by simp +decide only [sA_fA, sA_uA, false_and, if_false]; exact wd) (by simp only [sB_fA, sB_uA]; exact k2) (by simp only [sB_fA, sB_uA]; exact k0) (by unfold big; omega) (by unfold big; omega) (by unfold big; omega) fun t4 h4 => ?_
  refine sk18 (hi := 576) (by decide) 527 49 _ (by decide) (by intro i u v; simp +decide only [sA_fA, sA_uA, false_and, if_false]; exact hz 49 576 (by decide) (by omega) i u v) ?_
  have o576 : Int32.ofNat 576 = 576 := rfl
  rw [w18_3]; simp +decide only [o576, w18_5, w18_8, w18_86, ↓reduceIte]
  refine hq _ t1 t2 t3 t4 ⟨fun k => by simp only [sI_fA, sI_uA], fun k => by simp only [sJ_fA, sJ_uA], fun t i ht => by simp only [sA_fA, sA_uA, eq_false ht, false_and, if_false], fun t i => by simp only [sB_fA, sB_uA]⟩ (fun i hi => ?_) h1 h2 h3 h4
  simp only [sA_fA, sA_uA, true_and]
  by_cases g1 : i = 1
  · subst g1; simp
  · by_cases g2 : i = 24
    · subst g2; simp
    · by_cases g3 : i = 26
      · subst g3; simp
      · by_cases g4 : i = 48
        · subst g4; simp
        · simp only [g1, g2, g3, g4, if_false]
          by_cases w5 : 49 ≤ i ∧ i < 576
          · rw [if_pos w5]
          · rw [if_neg w5]; by_cases w4 : 27 ≤ i ∧ i < 48
            · rw [if_pos w4]
            · rw [if_neg w4]; by_cases w3 : 25 ≤ i ∧ i < 26
              · rw [if_pos w3]
              · rw [if_neg w3]; by_cases w2 : 2 ≤ i ∧ i < 24
                · rw [if_pos w2]
                · rw [if_neg w2, if_pos (by omega)]
end Hh

section I
variable {lw : LW} {H : AH} {p j : Nat} {s s' s'' : St} {Q : Option Value → AH → Prop} {a b c d x y ch rd : Int32} {h : Nat → Cel} {k n : Nat}
theorem sh0 : (1 : Int32) <<< ((0 : Int32) &&& 31) = 1 := by decide
theorem sh1 : (1 : Int32) <<< ((1 : Int32) &&& 31) = 2 := by decide
theorem sh2 : (1 : Int32) <<< ((2 : Int32) &&& 31) = 4 := by decide
theorem or_0_1 : (((0 : Int32)) ||| (1 : Int32)) = 1 := by decide
theorem or_0_2 : (((0 : Int32)) ||| (2 : Int32)) = 2 := by decide
theorem or_0_4 : (((0 : Int32)) ||| (4 : Int32)) = 4 := by decide
theorem or_1_2 : (((1 : Int32)) ||| (2 : Int32)) = 3 := by decide
theorem or_1_4 : (((1 : Int32)) ||| (4 : Int32)) = 5 := by decide
theorem or_2_3 : (((2 : Int32)) ||| (3 : Int32)) = 3 := by decide
theorem or_2_4 : (((2 : Int32)) ||| (4 : Int32)) = 6 := by decide
theorem or_2_7 : (((2 : Int32)) ||| (7 : Int32)) = 7 := by decide
theorem or_3_3 : (((3 : Int32)) ||| (3 : Int32)) = 3 := by decide
theorem or_3_4 : (((3 : Int32)) ||| (4 : Int32)) = 7 := by decide
theorem or_3_7 : (((3 : Int32)) ||| (7 : Int32)) = 7 := by decide
theorem or_4_7 : (((4 : Int32)) ||| (7 : Int32)) = 7 := by decide
theorem or_5_2 : (((5 : Int32)) ||| (2 : Int32)) = 7 := by decide
theorem or_6_7 : (((6 : Int32)) ||| (7 : Int32)) = 7 := by decide
theorem or_7_0 : (((7 : Int32)) ||| (0 : Int32)) = 7 := by decide
theorem or_7_7 : (((7 : Int32)) ||| (7 : Int32)) = 7 := by decide
theorem TT.f {t1 t2 t3 t4 : Int32} (T : TT s t1 t2 t3 t4) : (sA s 7 0 = 0 ∧ sA s 7 1 = t1 ∧ sA s 7 2 = 0) ∧ (sA s 7 24 = t2 ∧ sA s 7 25 = 0 ∧ sA s 7 26 = t3) ∧ (sA s 7 48 = t4 ∧ sA s 7 49 = 0 ∧ sA s 7 50 = 0) := by
  refine ⟨⟨?_, ?_, ?_⟩, ⟨?_, ?_, ?_⟩, ?_, ?_, ?_⟩ <;> rw [T _ (by decide)] <;> rfl
theorem sk19 {hi : Nat} (hh : hi ≤ 576) (m : Nat) : ∀ lo : Nat, lo + m = hi → (∀ i, lo ≤ i → i < hi → sA s 7 i = 0) →
    (W (pj lw) 19 23 [.val (.ref p), .val (.int (Int32.ofNat lo)), .unset] [] k n (ob H p s) Q ↔ W (pj lw) 19 23 [.val (.ref p), .val (.int (Int32.ofNat hi)), .unset] [] k n (ob H p s) Q) := by
  induction m with
  | zero => intro lo h _; rw [show lo = hi by omega]
  | succ m ih =>
    intro lo h hz
    obtain ⟨e1, e2⟩ := ofi (i := lo) (by omega)
    have h1 : Int32.ofNat lo < 576 := by rw [lt32, e1]; simp only [Int32.reduceToInt]; omega
    have hb : 0 ≤ (Int32.ofNat lo).toInt ∧ (Int32.ofNat lo).toInt < 576 := by omega
    have z := hz lo (Nat.le_refl _) (by omega)
    rw [← e2] at z
    rw [← ih (lo + 1) (by omega) (fun i h1 h2 => hz i (by omega) h2), w19_23]
    simp +decide only [w19_24, w19_27, w19_30, w19_31, w19_34, w19_35, w19_36, w19_57, w19_60, isO_put, true_and, and_true, or_true, ↓reduceIte, g12, ai7, ain7, ae7, ain7, h1, hb, z, ofs]
set_option maxRecDepth 100000 in
set_option maxHeartbeats 4000000 in
theorem v19_0 (n3 : sI s 0 = 3) (T : TT s 1 1 0 0) (hq : ∀ s', Ka s s' 8 → (sA s' 8 0 = 3 ∧ sA s' 8 1 = 3 ∧ sA s' 8 2 = 0) → Q none (ob H p s')) : Cl (pj lw) 19 [.ref p] (ob H p s) Q := by
  have hz : ∀ (τ : St), (∀ i, sA τ 7 i = sA s 7 i) → ∀ lo hi, hi ≤ 576 → (∀ i, lo ≤ i → i < hi → ¬ (i = 1 ∨ i = 24 ∨ i = 26 ∨ i = 48)) → ∀ i, lo ≤ i → i < hi → sA τ 7 i = 0 := fun τ hτ lo hi hh hn i h1 h2 => by
    have := hn i h1 h2
    rw [hτ, T i (by omega), if_neg (by omega), if_neg (by omega), if_neg (by omega), if_neg (by omega)]
  obtain ⟨⟨e0, e1, e2⟩, ⟨e24, e25, e26⟩, e48, e49, e50⟩ := T.f
  have o1 : Int32.ofNat 1 = 1 := rfl
  have o24 : Int32.ofNat 24 = 24 := rfl
  have o26 : Int32.ofNat 26 = 26 := rfl
  have o48 : Int32.ofNat 48 = 48 := rfl
  have o576 : Int32.ofNat 576 = 576 := rfl
  rw [c19]
  simp +decide only [w19_0, w19_1, w19_3, w19_5, w19_8, w19_9, w19_12, w19_13, w19_14, w19_15, w19_18, w19_21, w19_22i, w19_2, isO_put, true_and, ↓reduceIte, Nat.reduceAdd, Int32.reduceAdd, Int32.reduceToNatClampNeg, Int64.reduceAdd, g13, aw8, as8]
  refine (sk19 (lo := 0) (hi := 1) (by decide) 1 (by decide) (hz _ (fun i => by simp +decide only [sA_uA, false_and, if_false]) 0 1 (by decide) (by omega))).2 ?_
  rw [w19_23]; simp +decide only [o1, w19_24, w19_27, w19_30, w19_31, w19_34, w19_35, w19_36, w19_39, w19_40, w19_43, w19_44, w19_46, w19_47, w19_48, w19_49, w19_50, w19_51, w19_53, w19_54, w19_55, w19_56, w19_57, w19_60, isO_put, sA_uA, true_and, or_true, ↓reduceIte, Nat.reduceAdd, Int32.reduceAdd, Int32.reduceToNatClampNeg, Int64.reduceAdd, g12, g13, ai7, ain7, ae7, ai8, aw8, ae8, as8, ain7, Int32.reduceDiv, Int32.reduceMod, e1, sh1, or_0_2]
  refine (sk19 (lo := 2) (hi := 24) (by decide) 22 (by decide) (hz _ (fun i => by simp +decide only [sA_uA, false_and, if_false]) 2 24 (by decide) (by omega))).2 ?_
  rw [w19_23]; simp +decide only [o24, w19_24, w19_27, w19_30, w19_31, w19_34, w19_35, w19_36, w19_39, w19_40, w19_43, w19_44, w19_46, w19_47, w19_48, w19_49, w19_50, w19_51, w19_53, w19_54, w19_55, w19_56, w19_57, w19_60, isO_put, sA_uA, true_and, or_true, ↓reduceIte, Nat.reduceAdd, Int32.reduceAdd, Int32.reduceToNatClampNeg, Int64.reduceAdd, g12, g13, ai7, ain7, ae7, ai8, aw8, ae8, as8, ain7, Int32.reduceDiv, Int32.reduceMod, e24, sh0, or_0_1]
  refine (sk19 (lo := 25) (hi := 26) (by decide) 1 (by decide) (hz _ (fun i => by simp +decide only [sA_uA, false_and, if_false]) 25 26 (by decide) (by omega))).2 ?_
  rw [w19_23]; simp +decide only [o26, w19_24, w19_27, w19_30, w19_31, w19_34, w19_35, w19_36, w19_57, w19_60, isO_put, sA_uA, true_and, or_true, ↓reduceIte, Nat.reduceAdd, Int32.reduceAdd, Int32.reduceToNatClampNeg, Int64.reduceAdd, g12, ai7, ain7, ae7, ain7, e26]
  refine (sk19 (lo := 27) (hi := 48) (by decide) 21 (by decide) (hz _ (fun i => by simp +decide only [sA_uA, false_and, if_false]) 27 48 (by decide) (by omega))).2 ?_
  rw [w19_23]; simp +decide only [o48, w19_24, w19_27, w19_30, w19_31, w19_34, w19_35, w19_36, w19_57, w19_60, isO_put, sA_uA, true_and, or_true, ↓reduceIte, Nat.reduceAdd, Int32.reduceAdd, Int32.reduceToNatClampNeg, Int64.reduceAdd, g12, ai7, ain7, ae7, ain7, e48]
  refine (sk19 (lo := 49) (hi := 576) (by decide) 527 (by decide) (hz _ (fun i => by simp +decide only [sA_uA, false_and, if_false]) 49 576 (by decide) (by omega))).2 ?_
  rw [w19_23]; simp +decide only [o576, w19_24, w19_27, w19_63, w19_64i, w19_66, w19_67, w19_70, w19_73, w19_74i, w19_74, w19_76, w19_77, w19_80, w19_83, w19_84, w19_87, w19_88, w19_89, w19_90, w19_91, w19_92, w19_93, w19_96, w19_97, w19_100, w19_101, w19_102, w19_103, w19_104, w19_107, w19_108, w19_109, w19_110, w19_111, w19_114, w19_117, w19_120, w19_123, w19_65, w19_75, isO_put, sI_uA, sA_uA, true_and, ↓reduceIte, Nat.reduceAdd, Int32.reduceAdd, Int32.reduceToNatClampNeg, Int64.reduceAdd, g0, g13, ai8, aw8, ae8, as8, n3, or_1_2, or_2_3, or_3_3]
  refine hq _ ⟨fun k => by simp only [sI_uA], fun k => by simp only [sJ_uA], fun t i ht => by simp only [sA_uA, eq_false ht, false_and, if_false], fun t i => by simp only [sB_uA]⟩ ⟨?_, ?_, ?_⟩ <;> simp +decide only [sA_uA, ↓reduceIte]
set_option maxRecDepth 100000 in
set_option maxHeartbeats 4000000 in
theorem v20_0 (n3 : sI s 0 = 3) (T : TT s 1 1 0 0) (hq : ∀ s', (∀ k, sI s' k = sI s k) → (∀ k, sJ s' k = sJ s k) → (∀ t i, t ≠ 9 → t ≠ 10 → sA s' t i = sA s t i) → (∀ t i, sB s' t i = sB s t i) → (sA s' 9 0 = 0 ∧ sA s' 9 1 = 1 ∧ sA s' 9 2 = -1) → Q none (ob H p s')) : Cl (pj lw) 20 [.ref p, .int 0] (ob H p s) Q := by
  obtain ⟨⟨e0, e1, e2⟩, ⟨e24, e25, e26⟩, e48, e49, e50⟩ := T.f
  rw [c20]
  simp +decide only [w20_0, w20_1, w20_3, w20_5, w20_8, w20_9, w20_12, w20_13, w20_14, w20_15, w20_18, w20_21, w20_22, w20_25, w20_26, w20_27, w20_28, w20_29, w20_32, w20_33, w20_34, w20_35, w20_36i, w20_37, w20_38, w20_40, w20_41, w20_44, w20_45, w20_47, w20_50, w20_51, w20_54, w20_55, w20_56i, w20_56, w20_58, w20_59i, w20_59, w20_63, w20_64, w20_67, w20_70, w20_71, w20_74, w20_76, w20_78, w20_79, w20_81, w20_82, w20_83, w20_86, w20_87, w20_90, w20_92, w20_93, w20_96, w20_97, w20_99, w20_102, w20_103, w20_106, w20_108, w20_109, w20_112, w20_114, w20_115, w20_116, w20_117, w20_118, w20_119, w20_122, w20_123, w20_125, w20_126, w20_129, w20_132, w20_135, w20_138, w20_141, w20_2, w20_39, w20_61, isO_put, sI_uA, sA_uA, true_and, or_true, ↓reduceIte, Nat.reduceAdd, Int32.reduceAdd, Int32.reduceMul, Int32.reduceToNatClampNeg, Int64.reduceAdd, Int64.reduceMul, g0, g12, g14, g15, ai7, ain7, ae7, ai9, aw9, ae9, as9, ai10, aw10, ae10, as10, ain7, n3, e0, e1, e24, e25, e48, e49]
  refine hq _ (fun k => by simp only [sI_uA]) (fun k => by simp only [sJ_uA]) (fun t i h1 h2 => by simp only [sA_uA, eq_false h1, eq_false h2, false_and, if_false]) (fun t i => by simp only [sB_uA]) ⟨?_, ?_, ?_⟩ <;> simp +decide only [sA_uA, ↓reduceIte]
set_option maxRecDepth 100000 in
set_option maxHeartbeats 4000000 in
theorem v21_0 (G : HS s a b c d) (T : TT s 1 1 0 0) (hd : sA s 9 0 = 0 ∧ sA s 9 1 = 1 ∧ sA s 9 2 = -1) (hs : sA s 3 2 = -1)
    (hq : ∀ s', (∀ k, k ≠ 6 → sI s' k = sI s k) → (∀ k, k ≠ 7 → sJ s' k = sJ s k) → (∀ t i, t ≠ 3 → sA s' t i = sA s t i) → (∀ t i, sB s' t i = sB s t i) → (sI s' 6 = 2 ∧ sJ s' 7 = oi (a.toInt + b.toInt)) → (sA s' 3 0 = 0 ∧ sA s' 3 1 = 1 ∧ sA s' 3 2 = -1) → Q none (ob H p s')) : Cl (pj lw) 21 [.ref p, .int 0] (ob H p s) Q := by
  obtain ⟨⟨n3, hi⟩, hz', wa, wb', wc, wd⟩ := id G
  obtain ⟨⟨e0, e1, e2⟩, ⟨e24, e25, e26⟩, e48, e49, e50⟩ := T.f
  obtain ⟨d0, d1, d2⟩ := hd
  rw [c21]
  simp +decide only [w21_0, w21_1, w21_2, w21_3, w21_5, w21_6, w21_9, w21_12, w21_13, w21_16, w21_17, w21_19, w21_20, w21_21, w21_22, w21_23, w21_26, w21_27, w21_30, w21_31, w21_32, w21_35, w21_36, w21_39, w21_40, w21_41, w21_42, w21_43, w21_45, w21_46, w21_55, w21_57i, w21_58, w21_61, w21_64, w21_65, w21_66, w21_71, w21_72, w21_73, w21_76, w21_84, w21_85, w21_86, w21_89, w21_90, w21_93, w21_94, w21_95, w21_96, w21_97i, w21_98, w21_99i, w21_103, w21_104, w21_107, w21_110, w21_111, w21_114, w21_116, w21_117, w21_119, w21_120, w21_122, w21_123, w21_126, w21_127, w21_128, w21_132, w21_135, w21_136, w21_139, w21_140, w21_142, w21_143, w21_145, w21_146, w21_147, w21_150, w21_151, w21_154, w21_156, w21_157, w21_159, w21_162, w21_164i, w21_166, w21_169, w21_172, w21_173, w21_176, w21_178, w21_180, w21_181, w21_183i, w21_184, w21_187, w21_4, w21_101, w21_130, isO_put, isOw_put, sI_uI, sI_uA, sA_uI, sA_uA, true_and, and_true, or_true, ↓reduceIte, Nat.reduceAdd, Nat.reduceSub, Int32.reduceAdd, Int32.reduceSub, Int32.reduceMul, Int32.reduceToNatClampNeg, Int64.reduceAdd, Int64.reduceSub, Int64.reduceMul, g0, g6, s6, g8, g12, g14, aw3, as3, ai7, ain7, ae7, ai9, ae9, ain7, n3, e0, e1, e2, d1]
  simp +decide only [w21_190, w21_191ii, w21_193, w21_194i, w21_198, w21_199, w21_202, w21_205, w21_206, w21_209, w21_211, w21_212i, w21_214, w21_215, w21_218, w21_220, w21_221, w21_222, w21_223, w21_226, w21_227, w21_228i, w21_228, w21_230, w21_232, w21_233, w21_236, w21_238, w21_240, w21_241, w21_243, w21_244, w21_245, w21_246, w21_247j, w21_249, w21_252, w21_255, w21_256, w21_258, w21_261, w21_196, isO_put, isOw_put, okv_long, sI_uI, sI_uA, sA_uI, sA_uA, true_and, and_true, ↓reduceIte, Nat.reduceAdd, Int32.reduceAdd, Int32.reduceMul, Int32.reduceToNatClampNeg, Int64.reduceAdd, Int64.reduceMul, Nat.zero_add, g3, g6, s7, g8, ai2, ae2, ai3, ae3, Int32.reduceMod, wa, wb', oi_32, Int64.zero_add, oi_add]
  refine hq _ (fun k hk => by simp only [sI_uA, sI_uI, sI_uJ, eq_false hk, if_false]) (fun k hk => by simp only [sJ_uA, sJ_uI, sJ_uJ, eq_false hk, if_false]) (fun t i ht => by simp only [sA_uA, sA_uI, sA_uJ, eq_false ht, false_and, if_false]) (fun t i => by simp only [sB_uA, sB_uI, sB_uJ]) ⟨?_, ?_⟩ ⟨?_, ?_, ?_⟩ <;> simp +decide only [sI_uI, sI_uJ, sI_uA, sJ_uJ, sA_uI, sA_uJ, sA_uA, ↓reduceIte, hs]

set_option maxRecDepth 100000 in
set_option maxHeartbeats 4000000 in
theorem v19_1 (n3 : sI s 0 = 3) (T : TT s 1 1 1 0) (hq : ∀ s', Ka s s' 8 → (sA s' 8 0 = 7 ∧ sA s' 8 1 = 7 ∧ sA s' 8 2 = 0) → Q none (ob H p s')) : Cl (pj lw) 19 [.ref p] (ob H p s) Q := by
  have hz : ∀ (τ : St), (∀ i, sA τ 7 i = sA s 7 i) → ∀ lo hi, hi ≤ 576 → (∀ i, lo ≤ i → i < hi → ¬ (i = 1 ∨ i = 24 ∨ i = 26 ∨ i = 48)) → ∀ i, lo ≤ i → i < hi → sA τ 7 i = 0 := fun τ hτ lo hi hh hn i h1 h2 => by
    have := hn i h1 h2
    rw [hτ, T i (by omega), if_neg (by omega), if_neg (by omega), if_neg (by omega), if_neg (by omega)]
  obtain ⟨⟨e0, e1, e2⟩, ⟨e24, e25, e26⟩, e48, e49, e50⟩ := T.f
  have o1 : Int32.ofNat 1 = 1 := rfl
  have o24 : Int32.ofNat 24 = 24 := rfl
  have o26 : Int32.ofNat 26 = 26 := rfl
  have o48 : Int32.ofNat 48 = 48 := rfl
  have o576 : Int32.ofNat 576 = 576 := rfl
  rw [c19]
  simp +decide only [w19_0, w19_1, w19_3, w19_5, w19_8, w19_9, w19_12, w19_13, w19_14, w19_15, w19_18, w19_21, w19_22i, w19_2, isO_put, true_and, ↓reduceIte, Nat.reduceAdd, Int32.reduceAdd, Int32.reduceToNatClampNeg, Int64.reduceAdd, g13, aw8, as8]
  refine (sk19 (lo := 0) (hi := 1) (by decide) 1 (by decide) (hz _ (fun i => by simp +decide only [sA_uA, false_and, if_false]) 0 1 (by decide) (by omega))).2 ?_
  rw [w19_23]; simp +decide only [o1, w19_24, w19_27, w19_30, w19_31, w19_34, w19_35, w19_36, w19_39, w19_40, w19_43, w19_44, w19_46, w19_47, w19_48, w19_49, w19_50, w19_51, w19_53, w19_54, w19_55, w19_56, w19_57, w19_60, isO_put, sA_uA, true_and, or_true, ↓reduceIte, Nat.reduceAdd, Int32.reduceAdd, Int32.reduceToNatClampNeg, Int64.reduceAdd, g12, g13, ai7, ain7, ae7, ai8, aw8, ae8, as8, ain7, Int32.reduceDiv, Int32.reduceMod, e1, sh1, or_0_2]
  refine (sk19 (lo := 2) (hi := 24) (by decide) 22 (by decide) (hz _ (fun i => by simp +decide only [sA_uA, false_and, if_false]) 2 24 (by decide) (by omega))).2 ?_
  rw [w19_23]; simp +decide only [o24, w19_24, w19_27, w19_30, w19_31, w19_34, w19_35, w19_36, w19_39, w19_40, w19_43, w19_44, w19_46, w19_47, w19_48, w19_49, w19_50, w19_51, w19_53, w19_54, w19_55, w19_56, w19_57, w19_60, isO_put, sA_uA, true_and, or_true, ↓reduceIte, Nat.reduceAdd, Int32.reduceAdd, Int32.reduceToNatClampNeg, Int64.reduceAdd, g12, g13, ai7, ain7, ae7, ai8, aw8, ae8, as8, ain7, Int32.reduceDiv, Int32.reduceMod, e24, sh0, or_0_1]
  refine (sk19 (lo := 25) (hi := 26) (by decide) 1 (by decide) (hz _ (fun i => by simp +decide only [sA_uA, false_and, if_false]) 25 26 (by decide) (by omega))).2 ?_
  rw [w19_23]; simp +decide only [o26, w19_24, w19_27, w19_30, w19_31, w19_34, w19_35, w19_36, w19_39, w19_40, w19_43, w19_44, w19_46, w19_47, w19_48, w19_49, w19_50, w19_51, w19_53, w19_54, w19_55, w19_56, w19_57, w19_60, isO_put, sA_uA, true_and, or_true, ↓reduceIte, Nat.reduceAdd, Int32.reduceAdd, Int32.reduceToNatClampNeg, Int64.reduceAdd, g12, g13, ai7, ain7, ae7, ai8, aw8, ae8, as8, ain7, Int32.reduceDiv, Int32.reduceMod, e26, sh2, or_1_4]
  refine (sk19 (lo := 27) (hi := 48) (by decide) 21 (by decide) (hz _ (fun i => by simp +decide only [sA_uA, false_and, if_false]) 27 48 (by decide) (by omega))).2 ?_
  rw [w19_23]; simp +decide only [o48, w19_24, w19_27, w19_30, w19_31, w19_34, w19_35, w19_36, w19_57, w19_60, isO_put, sA_uA, true_and, or_true, ↓reduceIte, Nat.reduceAdd, Int32.reduceAdd, Int32.reduceToNatClampNeg, Int64.reduceAdd, g12, ai7, ain7, ae7, ain7, e48]
  refine (sk19 (lo := 49) (hi := 576) (by decide) 527 (by decide) (hz _ (fun i => by simp +decide only [sA_uA, false_and, if_false]) 49 576 (by decide) (by omega))).2 ?_
  rw [w19_23]; simp +decide only [o576, w19_24, w19_27, w19_63, w19_64i, w19_66, w19_67, w19_70, w19_73, w19_74i, w19_74, w19_76, w19_77, w19_80, w19_83, w19_84, w19_87, w19_88, w19_89, w19_90, w19_91, w19_92, w19_93, w19_96, w19_97, w19_100, w19_101, w19_102, w19_103, w19_104, w19_107, w19_108, w19_109, w19_110, w19_111, w19_114, w19_117, w19_120, w19_123, w19_65, w19_75, isO_put, sI_uA, sA_uA, true_and, ↓reduceIte, Nat.reduceAdd, Int32.reduceAdd, Int32.reduceToNatClampNeg, Int64.reduceAdd, g0, g13, ai8, aw8, ae8, as8, n3, or_2_7, or_5_2, or_7_0, or_7_7]
  refine hq _ ⟨fun k => by simp only [sI_uA], fun k => by simp only [sJ_uA], fun t i ht => by simp only [sA_uA, eq_false ht, false_and, if_false], fun t i => by simp only [sB_uA]⟩ ⟨?_, ?_, ?_⟩ <;> simp +decide only [sA_uA, ↓reduceIte]
set_option maxRecDepth 100000 in
set_option maxHeartbeats 4000000 in
theorem v20_1 (n3 : sI s 0 = 3) (T : TT s 1 1 1 0) (hq : ∀ s', (∀ k, sI s' k = sI s k) → (∀ k, sJ s' k = sJ s k) → (∀ t i, t ≠ 9 → t ≠ 10 → sA s' t i = sA s t i) → (∀ t i, sB s' t i = sB s t i) → (sA s' 9 0 = 0 ∧ sA s' 9 1 = 1 ∧ sA s' 9 2 = -1) → Q none (ob H p s')) : Cl (pj lw) 20 [.ref p, .int 0] (ob H p s) Q := by
  obtain ⟨⟨e0, e1, e2⟩, ⟨e24, e25, e26⟩, e48, e49, e50⟩ := T.f
  rw [c20]
  simp +decide only [w20_0, w20_1, w20_3, w20_5, w20_8, w20_9, w20_12, w20_13, w20_14, w20_15, w20_18, w20_21, w20_22, w20_25, w20_26, w20_27, w20_28, w20_29, w20_32, w20_33, w20_34, w20_35, w20_36i, w20_37, w20_38, w20_40, w20_41, w20_44, w20_45, w20_47, w20_50, w20_51, w20_54, w20_55, w20_56i, w20_56, w20_58, w20_59i, w20_59, w20_63, w20_64, w20_67, w20_70, w20_71, w20_74, w20_76, w20_78, w20_79, w20_81, w20_82, w20_83, w20_86, w20_87, w20_90, w20_92, w20_93, w20_96, w20_97, w20_99, w20_102, w20_103, w20_106, w20_108, w20_109, w20_112, w20_114, w20_115, w20_116, w20_117, w20_118, w20_119, w20_122, w20_123, w20_125, w20_126, w20_129, w20_132, w20_135, w20_138, w20_141, w20_2, w20_39, w20_61, isO_put, sI_uA, sA_uA, true_and, or_true, ↓reduceIte, Nat.reduceAdd, Int32.reduceAdd, Int32.reduceMul, Int32.reduceToNatClampNeg, Int64.reduceAdd, Int64.reduceMul, g0, g12, g14, g15, ai7, ain7, ae7, ai9, aw9, ae9, as9, ai10, aw10, ae10, as10, ain7, n3, e0, e1, e24, e25, e48, e49]
  refine hq _ (fun k => by simp only [sI_uA]) (fun k => by simp only [sJ_uA]) (fun t i h1 h2 => by simp only [sA_uA, eq_false h1, eq_false h2, false_and, if_false]) (fun t i => by simp only [sB_uA]) ⟨?_, ?_, ?_⟩ <;> simp +decide only [sA_uA, ↓reduceIte]
set_option maxRecDepth 100000 in
set_option maxHeartbeats 4000000 in
theorem v21_1 (G : HS s a b c d) (T : TT s 1 1 1 0) (hd : sA s 9 0 = 0 ∧ sA s 9 1 = 1 ∧ sA s 9 2 = -1) (hs : sA s 3 2 = -1)
    (hq : ∀ s', (∀ k, k ≠ 6 → sI s' k = sI s k) → (∀ k, k ≠ 7 → sJ s' k = sJ s k) → (∀ t i, t ≠ 3 → sA s' t i = sA s t i) → (∀ t i, sB s' t i = sB s t i) → (sI s' 6 = 2 ∧ sJ s' 7 = oi (a.toInt + b.toInt)) → (sA s' 3 0 = 0 ∧ sA s' 3 1 = 1 ∧ sA s' 3 2 = -1) → Q none (ob H p s')) : Cl (pj lw) 21 [.ref p, .int 0] (ob H p s) Q := by
  obtain ⟨⟨n3, hi⟩, hz', wa, wb', wc, wd⟩ := id G
  obtain ⟨⟨e0, e1, e2⟩, ⟨e24, e25, e26⟩, e48, e49, e50⟩ := T.f
  obtain ⟨d0, d1, d2⟩ := hd
  rw [c21]
  simp +decide only [w21_0, w21_1, w21_2, w21_3, w21_5, w21_6, w21_9, w21_12, w21_13, w21_16, w21_17, w21_19, w21_20, w21_21, w21_22, w21_23, w21_26, w21_27, w21_30, w21_31, w21_32, w21_35, w21_36, w21_39, w21_40, w21_41, w21_42, w21_43, w21_45, w21_46, w21_55, w21_57i, w21_58, w21_61, w21_64, w21_65, w21_66, w21_71, w21_72, w21_73, w21_76, w21_84, w21_85, w21_86, w21_89, w21_90, w21_93, w21_94, w21_95, w21_96, w21_97i, w21_98, w21_99i, w21_103, w21_104, w21_107, w21_110, w21_111, w21_114, w21_116, w21_117, w21_119, w21_120, w21_122, w21_123, w21_126, w21_127, w21_128, w21_132, w21_135, w21_136, w21_139, w21_140, w21_142, w21_143, w21_145, w21_146, w21_147, w21_150, w21_151, w21_154, w21_156, w21_157, w21_159, w21_162, w21_164i, w21_166, w21_169, w21_172, w21_173, w21_176, w21_178, w21_180, w21_181, w21_183i, w21_184, w21_187, w21_4, w21_101, w21_130, isO_put, isOw_put, sI_uI, sI_uA, sA_uI, sA_uA, true_and, and_true, or_true, ↓reduceIte, Nat.reduceAdd, Nat.reduceSub, Int32.reduceAdd, Int32.reduceSub, Int32.reduceMul, Int32.reduceToNatClampNeg, Int64.reduceAdd, Int64.reduceSub, Int64.reduceMul, g0, g6, s6, g8, g12, g14, aw3, as3, ai7, ain7, ae7, ai9, ae9, ain7, n3, e0, e1, e2, d1]
  simp +decide only [w21_190, w21_191ii, w21_193, w21_194i, w21_198, w21_199, w21_202, w21_205, w21_206, w21_209, w21_211, w21_212i, w21_214, w21_215, w21_218, w21_220, w21_221, w21_222, w21_223, w21_226, w21_227, w21_228i, w21_228, w21_230, w21_232, w21_233, w21_236, w21_238, w21_240, w21_241, w21_243, w21_244, w21_245, w21_246, w21_247j, w21_249, w21_252, w21_255, w21_256, w21_258, w21_261, w21_196, isO_put, isOw_put, okv_long, sI_uI, sI_uA, sA_uI, sA_uA, true_and, and_true, ↓reduceIte, Nat.reduceAdd, Int32.reduceAdd, Int32.reduceMul, Int32.reduceToNatClampNeg, Int64.reduceAdd, Int64.reduceMul, Nat.zero_add, g3, g6, s7, g8, ai2, ae2, ai3, ae3, Int32.reduceMod, wa, wb', oi_32, Int64.zero_add, oi_add]
  refine hq _ (fun k hk => by simp only [sI_uA, sI_uI, sI_uJ, eq_false hk, if_false]) (fun k hk => by simp only [sJ_uA, sJ_uI, sJ_uJ, eq_false hk, if_false]) (fun t i ht => by simp only [sA_uA, sA_uI, sA_uJ, eq_false ht, false_and, if_false]) (fun t i => by simp only [sB_uA, sB_uI, sB_uJ]) ⟨?_, ?_⟩ ⟨?_, ?_, ?_⟩ <;> simp +decide only [sI_uI, sI_uJ, sI_uA, sJ_uJ, sA_uI, sA_uJ, sA_uA, ↓reduceIte, hs]

set_option maxRecDepth 100000 in
set_option maxHeartbeats 4000000 in
theorem v19_2 (n3 : sI s 0 = 3) (T : TT s 1 1 0 1) (hq : ∀ s', Ka s s' 8 → (sA s' 8 0 = 3 ∧ sA s' 8 1 = 3 ∧ sA s' 8 2 = 3) → Q none (ob H p s')) : Cl (pj lw) 19 [.ref p] (ob H p s) Q := by
  have hz : ∀ (τ : St), (∀ i, sA τ 7 i = sA s 7 i) → ∀ lo hi, hi ≤ 576 → (∀ i, lo ≤ i → i < hi → ¬ (i = 1 ∨ i = 24 ∨ i = 26 ∨ i = 48)) → ∀ i, lo ≤ i → i < hi → sA τ 7 i = 0 := fun τ hτ lo hi hh hn i h1 h2 => by
    have := hn i h1 h2
    rw [hτ, T i (by omega), if_neg (by omega), if_neg (by omega), if_neg (by omega), if_neg (by omega)]
  obtain ⟨⟨e0, e1, e2⟩, ⟨e24, e25, e26⟩, e48, e49, e50⟩ := T.f
  have o1 : Int32.ofNat 1 = 1 := rfl
  have o24 : Int32.ofNat 24 = 24 := rfl
  have o26 : Int32.ofNat 26 = 26 := rfl
  have o48 : Int32.ofNat 48 = 48 := rfl
  have o576 : Int32.ofNat 576 = 576 := rfl
  rw [c19]
  simp +decide only [w19_0, w19_1, w19_3, w19_5, w19_8, w19_9, w19_12, w19_13, w19_14, w19_15, w19_18, w19_21, w19_22i, w19_2, isO_put, true_and, ↓reduceIte, Nat.reduceAdd, Int32.reduceAdd, Int32.reduceToNatClampNeg, Int64.reduceAdd, g13, aw8, as8]
  refine (sk19 (lo := 0) (hi := 1) (by decide) 1 (by decide) (hz _ (fun i => by simp +decide only [sA_uA, false_and, if_false]) 0 1 (by decide) (by omega))).2 ?_
  rw [w19_23]; simp +decide only [o1, w19_24, w19_27, w19_30, w19_31, w19_34, w19_35, w19_36, w19_39, w19_40, w19_43, w19_44, w19_46, w19_47, w19_48, w19_49, w19_50, w19_51, w19_53, w19_54, w19_55, w19_56, w19_57, w19_60, isO_put, sA_uA, true_and, or_true, ↓reduceIte, Nat.reduceAdd, Int32.reduceAdd, Int32.reduceToNatClampNeg, Int64.reduceAdd, g12, g13, ai7, ain7, ae7, ai8, aw8, ae8, as8, ain7, Int32.reduceDiv, Int32.reduceMod, e1, sh1, or_0_2]
  refine (sk19 (lo := 2) (hi := 24) (by decide) 22 (by decide) (hz _ (fun i => by simp +decide only [sA_uA, false_and, if_false]) 2 24 (by decide) (by omega))).2 ?_
  rw [w19_23]; simp +decide only [o24, w19_24, w19_27, w19_30, w19_31, w19_34, w19_35, w19_36, w19_39, w19_40, w19_43, w19_44, w19_46, w19_47, w19_48, w19_49, w19_50, w19_51, w19_53, w19_54, w19_55, w19_56, w19_57, w19_60, isO_put, sA_uA, true_and, or_true, ↓reduceIte, Nat.reduceAdd, Int32.reduceAdd, Int32.reduceToNatClampNeg, Int64.reduceAdd, g12, g13, ai7, ain7, ae7, ai8, aw8, ae8, as8, ain7, Int32.reduceDiv, Int32.reduceMod, e24, sh0, or_0_1]
  refine (sk19 (lo := 25) (hi := 26) (by decide) 1 (by decide) (hz _ (fun i => by simp +decide only [sA_uA, false_and, if_false]) 25 26 (by decide) (by omega))).2 ?_
  rw [w19_23]; simp +decide only [o26, w19_24, w19_27, w19_30, w19_31, w19_34, w19_35, w19_36, w19_57, w19_60, isO_put, sA_uA, true_and, or_true, ↓reduceIte, Nat.reduceAdd, Int32.reduceAdd, Int32.reduceToNatClampNeg, Int64.reduceAdd, g12, ai7, ain7, ae7, ain7, e26]
  refine (sk19 (lo := 27) (hi := 48) (by decide) 21 (by decide) (hz _ (fun i => by simp +decide only [sA_uA, false_and, if_false]) 27 48 (by decide) (by omega))).2 ?_
  rw [w19_23]; simp +decide only [o48, w19_24, w19_27, w19_30, w19_31, w19_34, w19_35, w19_36, w19_39, w19_40, w19_43, w19_44, w19_46, w19_47, w19_48, w19_49, w19_50, w19_51, w19_53, w19_54, w19_55, w19_56, w19_57, w19_60, isO_put, sA_uA, true_and, or_true, ↓reduceIte, Nat.reduceAdd, Int32.reduceAdd, Int32.reduceToNatClampNeg, Int64.reduceAdd, g12, g13, ai7, ain7, ae7, ai8, aw8, ae8, as8, ain7, Int32.reduceDiv, Int32.reduceMod, e48, sh0, or_0_1]
  refine (sk19 (lo := 49) (hi := 576) (by decide) 527 (by decide) (hz _ (fun i => by simp +decide only [sA_uA, false_and, if_false]) 49 576 (by decide) (by omega))).2 ?_
  rw [w19_23]; simp +decide only [o576, w19_24, w19_27, w19_63, w19_64i, w19_66, w19_67, w19_70, w19_73, w19_74i, w19_74, w19_76, w19_77, w19_80, w19_83, w19_84, w19_87, w19_88, w19_89, w19_90, w19_91, w19_92, w19_93, w19_96, w19_97, w19_100, w19_101, w19_102, w19_103, w19_104, w19_107, w19_108, w19_109, w19_110, w19_111, w19_114, w19_117, w19_120, w19_123, w19_65, w19_75, isO_put, sI_uA, sA_uA, true_and, ↓reduceIte, Nat.reduceAdd, Int32.reduceAdd, Int32.reduceToNatClampNeg, Int64.reduceAdd, g0, g13, ai8, aw8, ae8, as8, n3, or_1_2, or_2_3, or_3_3]
  refine hq _ ⟨fun k => by simp only [sI_uA], fun k => by simp only [sJ_uA], fun t i ht => by simp only [sA_uA, eq_false ht, false_and, if_false], fun t i => by simp only [sB_uA]⟩ ⟨?_, ?_, ?_⟩ <;> simp +decide only [sA_uA, ↓reduceIte]
set_option maxRecDepth 100000 in
set_option maxHeartbeats 4000000 in
theorem v20_2 (n3 : sI s 0 = 3) (T : TT s 1 1 0 1) (hq : ∀ s', (∀ k, sI s' k = sI s k) → (∀ k, sJ s' k = sJ s k) → (∀ t i, t ≠ 9 → t ≠ 10 → sA s' t i = sA s t i) → (∀ t i, sB s' t i = sB s t i) → (sA s' 9 0 = 0 ∧ sA s' 9 1 = 1 ∧ sA s' 9 2 = 1) → Q none (ob H p s')) : Cl (pj lw) 20 [.ref p, .int 0] (ob H p s) Q := by
  obtain ⟨⟨e0, e1, e2⟩, ⟨e24, e25, e26⟩, e48, e49, e50⟩ := T.f
  rw [c20]
  simp +decide only [w20_0, w20_1, w20_3, w20_5, w20_8, w20_9, w20_12, w20_13, w20_14, w20_15, w20_18, w20_21, w20_22, w20_25, w20_26, w20_27, w20_28, w20_29, w20_32, w20_33, w20_34, w20_35, w20_36i, w20_37, w20_38, w20_40, w20_41, w20_44, w20_45, w20_47, w20_50, w20_51, w20_54, w20_55, w20_56i, w20_56, w20_58, w20_59i, w20_59, w20_63, w20_64, w20_67, w20_70, w20_71, w20_74, w20_76, w20_78, w20_79, w20_81, w20_82, w20_83, w20_86, w20_87, w20_90, w20_92, w20_93, w20_96, w20_97, w20_99, w20_102, w20_103, w20_106, w20_108, w20_109, w20_112, w20_114, w20_115, w20_116, w20_117, w20_118, w20_119, w20_122, w20_123, w20_125, w20_126, w20_129, w20_132, w20_135, w20_138, w20_141, w20_2, w20_39, w20_61, isO_put, sI_uA, sA_uA, true_and, or_true, ↓reduceIte, Nat.reduceAdd, Int32.reduceAdd, Int32.reduceMul, Int32.reduceToNatClampNeg, Int64.reduceAdd, Int64.reduceMul, g0, g12, g14, g15, ai7, ain7, ae7, ai9, aw9, ae9, as9, ai10, aw10, ae10, as10, ain7, n3, e0, e1, e2, e24, e25, e26, e48, e49, e50]
  refine hq _ (fun k => by simp only [sI_uA]) (fun k => by simp only [sJ_uA]) (fun t i h1 h2 => by simp only [sA_uA, eq_false h1, eq_false h2, false_and, if_false]) (fun t i => by simp only [sB_uA]) ⟨?_, ?_, ?_⟩ <;> simp +decide only [sA_uA, ↓reduceIte]
set_option maxRecDepth 100000 in
set_option maxHeartbeats 4000000 in
theorem v21_2 (G : HS s a b c d) (T : TT s 1 1 0 1) (hd : sA s 9 0 = 0 ∧ sA s 9 1 = 1 ∧ sA s 9 2 = 1) (hs : sA s 3 2 = -1)
    (hq : ∀ s', (∀ k, k ≠ 6 → sI s' k = sI s k) → (∀ k, k ≠ 7 → sJ s' k = sJ s k) → (∀ t i, t ≠ 3 → sA s' t i = sA s t i) → (∀ t i, sB s' t i = sB s t i) → (sI s' 6 = 2 ∧ sJ s' 7 = oi (a.toInt + b.toInt)) → (sA s' 3 0 = 0 ∧ sA s' 3 1 = 1 ∧ sA s' 3 2 = -1) → Q none (ob H p s')) : Cl (pj lw) 21 [.ref p, .int 0] (ob H p s) Q := by
  obtain ⟨⟨n3, hi⟩, hz', wa, wb', wc, wd⟩ := id G
  obtain ⟨⟨e0, e1, e2⟩, ⟨e24, e25, e26⟩, e48, e49, e50⟩ := T.f
  obtain ⟨d0, d1, d2⟩ := hd
  rw [c21]
  simp +decide only [w21_0, w21_1, w21_2, w21_3, w21_5, w21_6, w21_9, w21_12, w21_13, w21_16, w21_17, w21_19, w21_20, w21_21, w21_22, w21_23, w21_26, w21_27, w21_30, w21_31, w21_32, w21_35, w21_36, w21_39, w21_40, w21_41, w21_42, w21_43, w21_45, w21_46, w21_55, w21_57i, w21_58, w21_61, w21_64, w21_65, w21_66, w21_71, w21_72, w21_73, w21_76, w21_84, w21_85, w21_86, w21_89, w21_90, w21_93, w21_94, w21_95, w21_96, w21_97i, w21_98, w21_99i, w21_103, w21_104, w21_107, w21_110, w21_111, w21_114, w21_116, w21_117, w21_119, w21_120, w21_122, w21_123, w21_126, w21_127, w21_128, w21_132, w21_135, w21_136, w21_139, w21_140, w21_142, w21_143, w21_145, w21_146, w21_147, w21_150, w21_151, w21_154, w21_156, w21_157, w21_159, w21_162, w21_164i, w21_166, w21_169, w21_172, w21_173, w21_176, w21_178, w21_180, w21_181, w21_183i, w21_184, w21_187, w21_4, w21_101, w21_130, isO_put, isOw_put, sI_uI, sI_uA, sA_uI, sA_uA, true_and, and_true, or_true, ↓reduceIte, Nat.reduceAdd, Nat.reduceSub, Int32.reduceAdd, Int32.reduceSub, Int32.reduceMul, Int32.reduceToNatClampNeg, Int64.reduceAdd, Int64.reduceSub, Int64.reduceMul, g0, g6, s6, g8, g12, g14, aw3, as3, ai7, ain7, ae7, ai9, ae9, ain7, n3, e0, e1, e2, d1]
  simp +decide only [w21_190, w21_191ii, w21_193, w21_194i, w21_198, w21_199, w21_202, w21_205, w21_206, w21_209, w21_211, w21_212i, w21_214, w21_215, w21_218, w21_220, w21_221, w21_222, w21_223, w21_226, w21_227, w21_228i, w21_228, w21_230, w21_232, w21_233, w21_236, w21_238, w21_240, w21_241, w21_243, w21_244, w21_245, w21_246, w21_247j, w21_249, w21_252, w21_255, w21_256, w21_258, w21_261, w21_196, isO_put, isOw_put, okv_long, sI_uI, sI_uA, sA_uI, sA_uA, true_and, and_true, ↓reduceIte, Nat.reduceAdd, Int32.reduceAdd, Int32.reduceMul, Int32.reduceToNatClampNeg, Int64.reduceAdd, Int64.reduceMul, Nat.zero_add, g3, g6, s7, g8, ai2, ae2, ai3, ae3, Int32.reduceMod, wa, wb', oi_32, Int64.zero_add, oi_add]
  refine hq _ (fun k hk => by simp only [sI_uA, sI_uI, sI_uJ, eq_false hk, if_false]) (fun k hk => by simp only [sJ_uA, sJ_uI, sJ_uJ, eq_false hk, if_false]) (fun t i ht => by simp only [sA_uA, sA_uI, sA_uJ, eq_false ht, false_and, if_false]) (fun t i => by simp only [sB_uA, sB_uI, sB_uJ]) ⟨?_, ?_⟩ ⟨?_, ?_, ?_⟩ <;> simp +decide only [sI_uI, sI_uJ, sI_uA, sJ_uJ, sA_uI, sA_uJ, sA_uA, ↓reduceIte, hs]

set_option maxRecDepth 100000 in
set_option maxHeartbeats 4000000 in
theorem v19_3 (n3 : sI s 0 = 3) (T : TT s 1 1 1 1) (hq : ∀ s', Ka s s' 8 → (sA s' 8 0 = 7 ∧ sA s' 8 1 = 7 ∧ sA s' 8 2 = 7) → Q none (ob H p s')) : Cl (pj lw) 19 [.ref p] (ob H p s) Q := by
  have hz : ∀ (τ : St), (∀ i, sA τ 7 i = sA s 7 i) → ∀ lo hi, hi ≤ 576 → (∀ i, lo ≤ i → i < hi → ¬ (i = 1 ∨ i = 24 ∨ i = 26 ∨ i = 48)) → ∀ i, lo ≤ i → i < hi → sA τ 7 i = 0 := fun τ hτ lo hi hh hn i h1 h2 => by
    have := hn i h1 h2
    rw [hτ, T i (by omega), if_neg (by omega), if_neg (by omega), if_neg (by omega), if_neg (by omega)]
  obtain ⟨⟨e0, e1, e2⟩, ⟨e24, e25, e26⟩, e48, e49, e50⟩ := T.f
  have o1 : Int32.ofNat 1 = 1 := rfl
  have o24 : Int32.ofNat 24 = 24 := rfl
  have o26 : Int32.ofNat 26 = 26 := rfl
  have o48 : Int32.ofNat 48 = 48 := rfl
  have o576 : Int32.ofNat 576 = 576 := rfl
  rw [c19]
  simp +decide only [w19_0, w19_1, w19_3, w19_5, w19_8, w19_9, w19_12, w19_13, w19_14, w19_15, w19_18, w19_21, w19_22i, w19_2, isO_put, true_and, ↓reduceIte, Nat.reduceAdd, Int32.reduceAdd, Int32.reduceToNatClampNeg, Int64.reduceAdd, g13, aw8, as8]
  refine (sk19 (lo := 0) (hi := 1) (by decide) 1 (by decide) (hz _ (fun i => by simp +decide only [sA_uA, false_and, if_false]) 0 1 (by decide) (by omega))).2 ?_
  rw [w19_23]; simp +decide only [o1, w19_24, w19_27, w19_30, w19_31, w19_34, w19_35, w19_36, w19_39, w19_40, w19_43, w19_44, w19_46, w19_47, w19_48, w19_49, w19_50, w19_51, w19_53, w19_54, w19_55, w19_56, w19_57, w19_60, isO_put, sA_uA, true_and, or_true, ↓reduceIte, Nat.reduceAdd, Int32.reduceAdd, Int32.reduceToNatClampNeg, Int64.reduceAdd, g12, g13, ai7, ain7, ae7, ai8, aw8, ae8, as8, ain7, Int32.reduceDiv, Int32.reduceMod, e1, sh1, or_0_2]
  refine (sk19 (lo := 2) (hi := 24) (by decide) 22 (by decide) (hz _ (fun i => by simp +decide only [sA_uA, false_and, if_false]) 2 24 (by decide) (by omega))).2 ?_
  rw [w19_23]; simp +decide only [o24, w19_24, w19_27, w19_30, w19_31, w19_34, w19_35, w19_36, w19_39, w19_40, w19_43, w19_44, w19_46, w19_47, w19_48, w19_49, w19_50, w19_51, w19_53, w19_54, w19_55, w19_56, w19_57, w19_60, isO_put, sA_uA, true_and, or_true, ↓reduceIte, Nat.reduceAdd, Int32.reduceAdd, Int32.reduceToNatClampNeg, Int64.reduceAdd, g12, g13, ai7, ain7, ae7, ai8, aw8, ae8, as8, ain7, Int32.reduceDiv, Int32.reduceMod, e24, sh0, or_0_1]
  refine (sk19 (lo := 25) (hi := 26) (by decide) 1 (by decide) (hz _ (fun i => by simp +decide only [sA_uA, false_and, if_false]) 25 26 (by decide) (by omega))).2 ?_
  rw [w19_23]; simp +decide only [o26, w19_24, w19_27, w19_30, w19_31, w19_34, w19_35, w19_36, w19_39, w19_40, w19_43, w19_44, w19_46, w19_47, w19_48, w19_49, w19_50, w19_51, w19_53, w19_54, w19_55, w19_56, w19_57, w19_60, isO_put, sA_uA, true_and, or_true, ↓reduceIte, Nat.reduceAdd, Int32.reduceAdd, Int32.reduceToNatClampNeg, Int64.reduceAdd, g12, g13, ai7, ain7, ae7, ai8, aw8, ae8, as8, ain7, Int32.reduceDiv, Int32.reduceMod, e26, sh2, or_1_4]
  refine (sk19 (lo := 27) (hi := 48) (by decide) 21 (by decide) (hz _ (fun i => by simp +decide only [sA_uA, false_and, if_false]) 27 48 (by decide) (by omega))).2 ?_
  rw [w19_23]; simp +decide only [o48, w19_24, w19_27, w19_30, w19_31, w19_34, w19_35, w19_36, w19_39, w19_40, w19_43, w19_44, w19_46, w19_47, w19_48, w19_49, w19_50, w19_51, w19_53, w19_54, w19_55, w19_56, w19_57, w19_60, isO_put, sA_uA, true_and, or_true, ↓reduceIte, Nat.reduceAdd, Int32.reduceAdd, Int32.reduceToNatClampNeg, Int64.reduceAdd, g12, g13, ai7, ain7, ae7, ai8, aw8, ae8, as8, ain7, Int32.reduceDiv, Int32.reduceMod, e48, sh0, or_0_1]
  refine (sk19 (lo := 49) (hi := 576) (by decide) 527 (by decide) (hz _ (fun i => by simp +decide only [sA_uA, false_and, if_false]) 49 576 (by decide) (by omega))).2 ?_
  rw [w19_23]; simp +decide only [o576, w19_24, w19_27, w19_63, w19_64i, w19_66, w19_67, w19_70, w19_73, w19_74i, w19_74, w19_76, w19_77, w19_80, w19_83, w19_84, w19_87, w19_88, w19_89, w19_90, w19_91, w19_92, w19_93, w19_96, w19_97, w19_100, w19_101, w19_102, w19_103, w19_104, w19_107, w19_108, w19_109, w19_110, w19_111, w19_114, w19_117, w19_120, w19_123, w19_65, w19_75, isO_put, sI_uA, sA_uA, true_and, ↓reduceIte, Nat.reduceAdd, Int32.reduceAdd, Int32.reduceToNatClampNeg, Int64.reduceAdd, g0, g13, ai8, aw8, ae8, as8, n3, or_1_2, or_2_7, or_3_7, or_5_2, or_7_7]
  refine hq _ ⟨fun k => by simp only [sI_uA], fun k => by simp only [sJ_uA], fun t i ht => by simp only [sA_uA, eq_false ht, false_and, if_false], fun t i => by simp only [sB_uA]⟩ ⟨?_, ?_, ?_⟩ <;> simp +decide only [sA_uA, ↓reduceIte]
set_option maxRecDepth 100000 in
set_option maxHeartbeats 4000000 in
theorem v20_3 (n3 : sI s 0 = 3) (T : TT s 1 1 1 1) (hq : ∀ s', (∀ k, sI s' k = sI s k) → (∀ k, sJ s' k = sJ s k) → (∀ t i, t ≠ 9 → t ≠ 10 → sA s' t i = sA s t i) → (∀ t i, sB s' t i = sB s t i) → (sA s' 9 0 = 0 ∧ sA s' 9 1 = 1 ∧ sA s' 9 2 = 1) → Q none (ob H p s')) : Cl (pj lw) 20 [.ref p, .int 0] (ob H p s) Q := by
  obtain ⟨⟨e0, e1, e2⟩, ⟨e24, e25, e26⟩, e48, e49, e50⟩ := T.f
  rw [c20]
  simp +decide only [w20_0, w20_1, w20_3, w20_5, w20_8, w20_9, w20_12, w20_13, w20_14, w20_15, w20_18, w20_21, w20_22, w20_25, w20_26, w20_27, w20_28, w20_29, w20_32, w20_33, w20_34, w20_35, w20_36i, w20_37, w20_38, w20_40, w20_41, w20_44, w20_45, w20_47, w20_50, w20_51, w20_54, w20_55, w20_56i, w20_56, w20_58, w20_59i, w20_59, w20_63, w20_64, w20_67, w20_70, w20_71, w20_74, w20_76, w20_78, w20_79, w20_81, w20_82, w20_83, w20_86, w20_87, w20_90, w20_92, w20_93, w20_96, w20_97, w20_99, w20_102, w20_103, w20_106, w20_108, w20_109, w20_112, w20_114, w20_115, w20_116, w20_117, w20_118, w20_119, w20_122, w20_123, w20_125, w20_126, w20_129, w20_132, w20_135, w20_138, w20_141, w20_2, w20_39, w20_61, isO_put, sI_uA, sA_uA, true_and, or_true, ↓reduceIte, Nat.reduceAdd, Int32.reduceAdd, Int32.reduceMul, Int32.reduceToNatClampNeg, Int64.reduceAdd, Int64.reduceMul, g0, g12, g14, g15, ai7, ain7, ae7, ai9, aw9, ae9, as9, ai10, aw10, ae10, as10, ain7, n3, e0, e1, e2, e24, e25, e26, e48, e49, e50]
  refine hq _ (fun k => by simp only [sI_uA]) (fun k => by simp only [sJ_uA]) (fun t i h1 h2 => by simp only [sA_uA, eq_false h1, eq_false h2, false_and, if_false]) (fun t i => by simp only [sB_uA]) ⟨?_, ?_, ?_⟩ <;> simp +decide only [sA_uA, ↓reduceIte]
set_option maxRecDepth 100000 in
set_option maxHeartbeats 4000000 in
theorem v21_3 (G : HS s a b c d) (T : TT s 1 1 1 1) (hd : sA s 9 0 = 0 ∧ sA s 9 1 = 1 ∧ sA s 9 2 = 1) (hs : sA s 3 2 = -1)
    (hq : ∀ s', (∀ k, k ≠ 6 → sI s' k = sI s k) → (∀ k, k ≠ 7 → sJ s' k = sJ s k) → (∀ t i, t ≠ 3 → sA s' t i = sA s t i) → (∀ t i, sB s' t i = sB s t i) → (sI s' 6 = 2 ∧ sJ s' 7 = oi (a.toInt + b.toInt)) → (sA s' 3 0 = 0 ∧ sA s' 3 1 = 1 ∧ sA s' 3 2 = -1) → Q none (ob H p s')) : Cl (pj lw) 21 [.ref p, .int 0] (ob H p s) Q := by
  obtain ⟨⟨n3, hi⟩, hz', wa, wb', wc, wd⟩ := id G
  obtain ⟨⟨e0, e1, e2⟩, ⟨e24, e25, e26⟩, e48, e49, e50⟩ := T.f
  obtain ⟨d0, d1, d2⟩ := hd
  rw [c21]
  simp +decide only [w21_0, w21_1, w21_2, w21_3, w21_5, w21_6, w21_9, w21_12, w21_13, w21_16, w21_17, w21_19, w21_20, w21_21, w21_22, w21_23, w21_26, w21_27, w21_30, w21_31, w21_32, w21_35, w21_36, w21_39, w21_40, w21_41, w21_42, w21_43, w21_45, w21_46, w21_55, w21_57i, w21_58, w21_61, w21_64, w21_65, w21_66, w21_71, w21_72, w21_73, w21_76, w21_84, w21_85, w21_86, w21_89, w21_90, w21_93, w21_94, w21_95, w21_96, w21_97i, w21_98, w21_99i, w21_103, w21_104, w21_107, w21_110, w21_111, w21_114, w21_116, w21_117, w21_119, w21_120, w21_122, w21_123, w21_126, w21_127, w21_128, w21_132, w21_135, w21_136, w21_139, w21_140, w21_142, w21_143, w21_145, w21_146, w21_147, w21_150, w21_151, w21_154, w21_156, w21_157, w21_159, w21_162, w21_164i, w21_166, w21_169, w21_172, w21_173, w21_176, w21_178, w21_180, w21_181, w21_183i, w21_184, w21_187, w21_4, w21_101, w21_130, isO_put, isOw_put, sI_uI, sI_uA, sA_uI, sA_uA, true_and, and_true, or_true, ↓reduceIte, Nat.reduceAdd, Nat.reduceSub, Int32.reduceAdd, Int32.reduceSub, Int32.reduceMul, Int32.reduceToNatClampNeg, Int64.reduceAdd, Int64.reduceSub, Int64.reduceMul, g0, g6, s6, g8, g12, g14, aw3, as3, ai7, ain7, ae7, ai9, ae9, ain7, n3, e0, e1, e2, d1]
  simp +decide only [w21_190, w21_191ii, w21_193, w21_194i, w21_198, w21_199, w21_202, w21_205, w21_206, w21_209, w21_211, w21_212i, w21_214, w21_215, w21_218, w21_220, w21_221, w21_222, w21_223, w21_226, w21_227, w21_228i, w21_228, w21_230, w21_232, w21_233, w21_236, w21_238, w21_240, w21_241, w21_243, w21_244, w21_245, w21_246, w21_247j, w21_249, w21_252, w21_255, w21_256, w21_258, w21_261, w21_196, isO_put, isOw_put, okv_long, sI_uI, sI_uA, sA_uI, sA_uA, true_and, and_true, ↓reduceIte, Nat.reduceAdd, Int32.reduceAdd, Int32.reduceMul, Int32.reduceToNatClampNeg, Int64.reduceAdd, Int64.reduceMul, Nat.zero_add, g3, g6, s7, g8, ai2, ae2, ai3, ae3, Int32.reduceMod, wa, wb', oi_32, Int64.zero_add, oi_add]
  refine hq _ (fun k hk => by simp only [sI_uA, sI_uI, sI_uJ, eq_false hk, if_false]) (fun k hk => by simp only [sJ_uA, sJ_uI, sJ_uJ, eq_false hk, if_false]) (fun t i ht => by simp only [sA_uA, sA_uI, sA_uJ, eq_false ht, false_and, if_false]) (fun t i => by simp only [sB_uA, sB_uI, sB_uJ]) ⟨?_, ?_⟩ ⟨?_, ?_, ?_⟩ <;> simp +decide only [sI_uI, sI_uJ, sI_uA, sJ_uJ, sA_uI, sA_uJ, sA_uA, ↓reduceIte, hs]

set_option maxRecDepth 100000 in
set_option maxHeartbeats 4000000 in
theorem v19_4 (n3 : sI s 0 = 3) (T : TT s 1 0 1 1) (hq : ∀ s', Ka s s' 8 → (sA s' 8 0 = 7 ∧ sA s' 8 1 = 7 ∧ sA s' 8 2 = 7) → Q none (ob H p s')) : Cl (pj lw) 19 [.ref p] (ob H p s) Q := by
  have hz : ∀ (τ : St), (∀ i, sA τ 7 i = sA s 7 i) → ∀ lo hi, hi ≤ 576 → (∀ i, lo ≤ i → i < hi → ¬ (i = 1 ∨ i = 24 ∨ i = 26 ∨ i = 48)) → ∀ i, lo ≤ i → i < hi → sA τ 7 i = 0 := fun τ hτ lo hi hh hn i h1 h2 => by
    have := hn i h1 h2
    rw [hτ, T i (by omega), if_neg (by omega), if_neg (by omega), if_neg (by omega), if_neg (by omega)]
  obtain ⟨⟨e0, e1, e2⟩, ⟨e24, e25, e26⟩, e48, e49, e50⟩ := T.f
  have o1 : Int32.ofNat 1 = 1 := rfl
  have o24 : Int32.ofNat 24 = 24 := rfl
  have o26 : Int32.ofNat 26 = 26 := rfl
  have o48 : Int32.ofNat 48 = 48 := rfl
  have o576 : Int32.ofNat 576 = 576 := rfl
  rw [c19]
  simp +decide only [w19_0, w19_1, w19_3, w19_5, w19_8, w19_9, w19_12, w19_13, w19_14, w19_15, w19_18, w19_21, w19_22i, w19_2, isO_put, true_and, ↓reduceIte, Nat.reduceAdd, Int32.reduceAdd, Int32.reduceToNatClampNeg, Int64.reduceAdd, g13, aw8, as8]
  refine (sk19 (lo := 0) (hi := 1) (by decide) 1 (by decide) (hz _ (fun i => by simp +decide only [sA_uA, false_and, if_false]) 0 1 (by decide) (by omega))).2 ?_
  rw [w19_23]; simp +decide only [o1, w19_24, w19_27, w19_30, w19_31, w19_34, w19_35, w19_36, w19_39, w19_40, w19_43, w19_44, w19_46, w19_47, w19_48, w19_49, w19_50, w19_51, w19_53, w19_54, w19_55, w19_56, w19_57, w19_60, isO_put, sA_uA, true_and, or_true, ↓reduceIte, Nat.reduceAdd, Int32.reduceAdd, Int32.reduceToNatClampNeg, Int64.reduceAdd, g12, g13, ai7, ain7, ae7, ai8, aw8, ae8, as8, ain7, Int32.reduceDiv, Int32.reduceMod, e1, sh1, or_0_2]
  refine (sk19 (lo := 2) (hi := 24) (by decide) 22 (by decide) (hz _ (fun i => by simp +decide only [sA_uA, false_and, if_false]) 2 24 (by decide) (by omega))).2 ?_
  rw [w19_23]; simp +decide only [o24, w19_24, w19_27, w19_30, w19_31, w19_34, w19_35, w19_36, w19_57, w19_60, isO_put, sA_uA, true_and, or_true, ↓reduceIte, Nat.reduceAdd, Int32.reduceAdd, Int32.reduceToNatClampNeg, Int64.reduceAdd, g12, ai7, ain7, ae7, ain7, e24]
  refine (sk19 (lo := 25) (hi := 26) (by decide) 1 (by decide) (hz _ (fun i => by simp +decide only [sA_uA, false_and, if_false]) 25 26 (by decide) (by omega))).2 ?_
  rw [w19_23]; simp +decide only [o26, w19_24, w19_27, w19_30, w19_31, w19_34, w19_35, w19_36, w19_39, w19_40, w19_43, w19_44, w19_46, w19_47, w19_48, w19_49, w19_50, w19_51, w19_53, w19_54, w19_55, w19_56, w19_57, w19_60, isO_put, sA_uA, true_and, or_true, ↓reduceIte, Nat.reduceAdd, Int32.reduceAdd, Int32.reduceToNatClampNeg, Int64.reduceAdd, g12, g13, ai7, ain7, ae7, ai8, aw8, ae8, as8, ain7, Int32.reduceDiv, Int32.reduceMod, e26, sh2, or_0_4]
  refine (sk19 (lo := 27) (hi := 48) (by decide) 21 (by decide) (hz _ (fun i => by simp +decide only [sA_uA, false_and, if_false]) 27 48 (by decide) (by omega))).2 ?_
  rw [w19_23]; simp +decide only [o48, w19_24, w19_27, w19_30, w19_31, w19_34, w19_35, w19_36, w19_39, w19_40, w19_43, w19_44, w19_46, w19_47, w19_48, w19_49, w19_50, w19_51, w19_53, w19_54, w19_55, w19_56, w19_57, w19_60, isO_put, sA_uA, true_and, or_true, ↓reduceIte, Nat.reduceAdd, Int32.reduceAdd, Int32.reduceToNatClampNeg, Int64.reduceAdd, g12, g13, ai7, ain7, ae7, ai8, aw8, ae8, as8, ain7, Int32.reduceDiv, Int32.reduceMod, e48, sh0, or_0_1]
  refine (sk19 (lo := 49) (hi := 576) (by decide) 527 (by decide) (hz _ (fun i => by simp +decide only [sA_uA, false_and, if_false]) 49 576 (by decide) (by omega))).2 ?_
  rw [w19_23]; simp +decide only [o576, w19_24, w19_27, w19_63, w19_64i, w19_66, w19_67, w19_70, w19_73, w19_74i, w19_74, w19_76, w19_77, w19_80, w19_83, w19_84, w19_87, w19_88, w19_89, w19_90, w19_91, w19_92, w19_93, w19_96, w19_97, w19_100, w19_101, w19_102, w19_103, w19_104, w19_107, w19_108, w19_109, w19_110, w19_111, w19_114, w19_117, w19_120, w19_123, w19_65, w19_75, isO_put, sI_uA, sA_uA, true_and, ↓reduceIte, Nat.reduceAdd, Int32.reduceAdd, Int32.reduceToNatClampNeg, Int64.reduceAdd, g0, g13, ai8, aw8, ae8, as8, n3, or_1_2, or_2_4, or_3_4, or_4_7, or_6_7, or_7_7]
  refine hq _ ⟨fun k => by simp only [sI_uA], fun k => by simp only [sJ_uA], fun t i ht => by simp only [sA_uA, eq_false ht, false_and, if_false], fun t i => by simp only [sB_uA]⟩ ⟨?_, ?_, ?_⟩ <;> simp +decide only [sA_uA, ↓reduceIte]
set_option maxRecDepth 100000 in
set_option maxHeartbeats 4000000 in
theorem v20_4 (n3 : sI s 0 = 3) (T : TT s 1 0 1 1) (hq : ∀ s', (∀ k, sI s' k = sI s k) → (∀ k, sJ s' k = sJ s k) → (∀ t i, t ≠ 9 → t ≠ 10 → sA s' t i = sA s t i) → (∀ t i, sB s' t i = sB s t i) → (sA s' 9 0 = 0 ∧ sA s' 9 1 = 2 ∧ sA s' 9 2 = 1) → Q none (ob H p s')) : Cl (pj lw) 20 [.ref p, .int 0] (ob H p s) Q := by
  obtain ⟨⟨e0, e1, e2⟩, ⟨e24, e25, e26⟩, e48, e49, e50⟩ := T.f
  rw [c20]
  simp +decide only [w20_0, w20_1, w20_3, w20_5, w20_8, w20_9, w20_12, w20_13, w20_14, w20_15, w20_18, w20_21, w20_22, w20_25, w20_26, w20_27, w20_28, w20_29, w20_32, w20_33, w20_34, w20_35, w20_36i, w20_37, w20_38, w20_40, w20_41, w20_44, w20_45, w20_47, w20_50, w20_51, w20_54, w20_55, w20_56i, w20_56, w20_58, w20_59i, w20_59, w20_63, w20_64, w20_67, w20_70, w20_71, w20_74, w20_76, w20_78, w20_79, w20_81, w20_82, w20_83, w20_86, w20_87, w20_90, w20_92, w20_93, w20_96, w20_97, w20_99, w20_102, w20_103, w20_106, w20_108, w20_109, w20_112, w20_114, w20_115, w20_116, w20_117, w20_118, w20_119, w20_122, w20_123, w20_125, w20_126, w20_129, w20_132, w20_135, w20_138, w20_141, w20_2, w20_39, w20_61, isO_put, sI_uA, sA_uA, true_and, or_true, ↓reduceIte, Nat.reduceAdd, Int32.reduceAdd, Int32.reduceMul, Int32.reduceToNatClampNeg, Int64.reduceAdd, Int64.reduceMul, g0, g12, g14, g15, ai7, ain7, ae7, ai9, aw9, ae9, as9, ai10, aw10, ae10, as10, ain7, n3, e0, e1, e2, e24, e25, e26, e48, e49, e50]
  refine hq _ (fun k => by simp only [sI_uA]) (fun k => by simp only [sJ_uA]) (fun t i h1 h2 => by simp only [sA_uA, eq_false h1, eq_false h2, false_and, if_false]) (fun t i => by simp only [sB_uA]) ⟨?_, ?_, ?_⟩ <;> simp +decide only [sA_uA, ↓reduceIte]
set_option maxRecDepth 100000 in
set_option maxHeartbeats 4000000 in
theorem v21_4 (G : HS s a b c d) (T : TT s 1 0 1 1) (hd : sA s 9 0 = 0 ∧ sA s 9 1 = 2 ∧ sA s 9 2 = 1) (hs : sA s 3 2 = -1)
    (hq : ∀ s', (∀ k, k ≠ 6 → sI s' k = sI s k) → (∀ k, k ≠ 7 → sJ s' k = sJ s k) → (∀ t i, t ≠ 3 → sA s' t i = sA s t i) → (∀ t i, sB s' t i = sB s t i) → (sI s' 6 = 3 ∧ sJ s' 7 = oi (a.toInt + c.toInt + d.toInt)) → (sA s' 3 0 = 0 ∧ sA s' 3 1 = 1 ∧ sA s' 3 2 = 2) → Q none (ob H p s')) : Cl (pj lw) 21 [.ref p, .int 0] (ob H p s) Q := by
  obtain ⟨⟨n3, hi⟩, hz', wa, wb', wc, wd⟩ := id G
  obtain ⟨⟨e0, e1, e2⟩, ⟨e24, e25, e26⟩, e48, e49, e50⟩ := T.f
  obtain ⟨d0, d1, d2⟩ := hd
  rw [c21]
  simp +decide only [w21_0, w21_1, w21_2, w21_3, w21_5, w21_6, w21_9, w21_12, w21_13, w21_16, w21_17, w21_19, w21_20, w21_21, w21_22, w21_23, w21_26, w21_27, w21_30, w21_31, w21_32, w21_35, w21_36, w21_39, w21_40, w21_41, w21_42, w21_43, w21_45, w21_46, w21_55, w21_57i, w21_58, w21_61, w21_64, w21_65, w21_66, w21_71, w21_72, w21_73, w21_76, w21_84, w21_85, w21_86, w21_89, w21_90, w21_93, w21_94, w21_95, w21_96, w21_97i, w21_98, w21_99i, w21_103, w21_104, w21_107, w21_110, w21_111, w21_114, w21_116, w21_117i, w21_117, w21_119, w21_120i, w21_120, w21_122, w21_123, w21_126, w21_127, w21_128i, w21_128, w21_132, w21_135, w21_136, w21_139, w21_140, w21_142, w21_143, w21_145, w21_146, w21_147, w21_150, w21_151, w21_154, w21_156, w21_157, w21_159, w21_162, w21_164i, w21_166, w21_169, w21_172, w21_173, w21_176, w21_178, w21_180, w21_181, w21_183i, w21_184, w21_187, w21_4, w21_101, w21_130, isO_put, isOw_put, sI_uI, sI_uA, sA_uI, sA_uA, true_and, and_true, or_true, ↓reduceIte, Nat.reduceAdd, Nat.reduceSub, Int32.reduceAdd, Int32.reduceSub, Int32.reduceMul, Int32.reduceToNatClampNeg, Int64.reduceAdd, Int64.reduceSub, Int64.reduceMul, g0, g6, s6, g8, g12, g14, aw3, as3, ai7, ain7, ae7, ai9, ae9, ain7, n3, e0, e1, e2, e24, e25, e26, d1, d2]
  simp +decide only [w21_190, w21_191ii, w21_193, w21_194i, w21_198, w21_199, w21_202, w21_205, w21_206, w21_209, w21_211, w21_212i, w21_214, w21_215, w21_218, w21_220, w21_221, w21_222, w21_223, w21_226, w21_227, w21_228i, w21_228, w21_230, w21_232, w21_233, w21_236, w21_238, w21_240, w21_241, w21_243, w21_244, w21_245, w21_246, w21_247j, w21_249, w21_252, w21_255, w21_256, w21_258, w21_261, w21_196, isO_put, isOw_put, okv_long, sI_uI, sI_uA, sA_uI, sA_uA, true_and, and_true, ↓reduceIte, Nat.reduceAdd, Int32.reduceAdd, Int32.reduceMul, Int32.reduceToNatClampNeg, Int64.reduceAdd, Int64.reduceMul, Nat.zero_add, g3, g6, s7, g8, ai2, ae2, ai3, ae3, Int32.reduceMod, wa, wc, wd, oi_32, Int64.zero_add, oi_add]
  refine hq _ (fun k hk => by simp only [sI_uA, sI_uI, sI_uJ, eq_false hk, if_false]) (fun k hk => by simp only [sJ_uA, sJ_uI, sJ_uJ, eq_false hk, if_false]) (fun t i ht => by simp only [sA_uA, sA_uI, sA_uJ, eq_false ht, false_and, if_false]) (fun t i => by simp only [sB_uA, sB_uI, sB_uJ]) ⟨?_, ?_⟩ ⟨?_, ?_, ?_⟩ <;> simp +decide only [sI_uI, sI_uJ, sI_uA, sJ_uJ, sA_uJ, sA_uA, ↓reduceIte]

end I

section J
variable {lw : LW} {H : AH} {p j : Nat} {s s' s'' : St} {Q : Option Value → AH → Prop} {a b c d x y ch rd : Int32} {h : Nat → Cel} {k n : Nat} {N D A B C E : Int}
def SO (s : St) (a b c d : Int32) (L : Int32) (Lz W : Int) (c2 q2 : Int32) : Prop := HS s a b c d ∧ (sI s 4 = 1 ∧ sI s 5 = 1 ∧ sI s 6 = L ∧ sJ s 7 = oi W) ∧ (sA s 3 0 = 0 ∧ sA s 3 1 = 1 ∧ sA s 3 2 = q2) ∧ (sA s 4 0 = 1 ∧ sA s 4 1 = 1 ∧ sA s 4 2 = c2) ∧
  (sB s 5 0 = oi (P0 (Lz * a.toInt - W) (Lz * b.toInt - W) (Lz * c.toInt - W) (Lz * d.toInt - W)) ∧ sB s 5 1 = oi (P1 (Lz * a.toInt - W) (Lz * b.toInt - W) (Lz * c.toInt - W) (Lz * d.toInt - W)) ∧ sB s 5 2 = oi (P2 (Lz * a.toInt - W) (Lz * b.toInt - W) (Lz * c.toInt - W) (Lz * d.toInt - W)))
set_option maxRecDepth 100000 in
set_option maxHeartbeats 4000000 in
theorem v13 (G : HS s a b c d) (hq : ∀ s', HS s' a b c d → sA s' 3 2 = -1 → Q none (ob H p s')) : Cl (pj lw) 13 [.ref p] (ob H p s) Q := by
  rw [c13]
  simp +decide only [w13_0, w13_1, w13_2, w13_5, w13_6, w13_7, w13_10, w13_11, w13_12, w13_15, w13_16, w13_18, w13_20, w13_23, w13_24, w13_27, w13_28, w13_29, w13_30, w13_31, w13_34, w13_35, w13_36, w13_37, w13_38, w13_41, w13_42, w13_43, w13_44, w13_47, w13_50, w13_17, isO_put, isOw_put, true_and, and_true, or_true, ↓reduceIte, Nat.reduceAdd, Int32.reduceAdd, Int32.reduceToNatClampNeg, Int64.reduceAdd, s5, s6, s7, g8, g9, g10, aw3, as3, aw4, awn4, as4, aw5, as5, awn4]
  refine hq _ (G.of ?_ ?_ (fun i => ?_) (fun i => ?_)) ?_
  · simp +decide only [sI_uI, sI_uJ, sI_uA, sI_uB, if_false]
  · simp +decide only [sJ_uI, sJ_uJ, sJ_uA, sJ_uB, if_false]
  · simp +decide only [sA_uI, sA_uJ, sA_uA, sA_uB, false_and, if_false]
  · simp +decide only [sA_uI, sA_uJ, sA_uA, sA_uB, false_and, if_false]
  · simp +decide only [sA_uA, sA_uB, ↓reduceIte]
set_option maxRecDepth 100000 in
set_option maxHeartbeats 4000000 in
theorem r12_0 (G : HS s a b c d) (T : TT s 1 1 0 0) (hs : sA s 3 2 = -1) (h4 : sI s 4 = 1) (ra : wb a) (rb : wb b) (rc : wb c) (rd : wb d) (hc : (a.toInt + b.toInt) * 3 ≤ (a.toInt + c.toInt + d.toInt) * 2)
    (hq : ∀ s', SO s' a b c d 2 2 (a.toInt + b.toInt) 0 (-1) → Q (some (.int 1)) (ob H p s')) : W (pj lw) 12 42 [.val (.ref p), .unset, .unset] [] 0 0 (ob H p s) Q := by
  unfold wb at ra rb rc rd
  simp +decide only [w12_42, w12_43, isO_put, true_and, and_true]
  refine v19_0 G.1.1 T fun σ1 K1 e1 => ?_
  have G1 := K1.hs G (by decide) (by decide)
  have T1 := K1.tt T (by decide)
  obtain ⟨r0, r1, r2⟩ := e1
  have n3 := G1.1.1
  simp +decide only [w12_46, w12_47, w12_48, w12_49, w12_51, w12_52, w12_55, w12_58, w12_59, w12_62, w12_63, w12_64, w12_67, w12_68, w12_69, w12_70, w12_71, w12_72, w12_73, w12_76, w12_77, w12_80, w12_81, w12_82, w12_83, w12_86, w12_87, w12_88, w12_91, w12_92, w12_95, w12_96i, w12_97, w12_100, w12_103, w12_104, w12_109, w12_110, w12_111, w12_50, isO_put, sI_uA, sA_uA, Option.toList_none, List.nil_append, true_and, and_true, or_true, ↓reduceIte, Nat.reduceAdd, Int32.reduceAdd, Int32.reduceToNatClampNeg, Int64.reduceAdd, g0, g9, g13, ai4, aw4, ain4, awn4, ae4, as4, ai8, ae8, ain4, awn4, n3, r0, r1, r2]
  have G2 := G1.of (s' := uA (uA (uA σ1 4 0 1) 4 1 1) 4 2 0) (by simp +decide only [sI_uA]) (by simp +decide only [sJ_uA]) (fun i => by simp +decide only [sA_uA, false_and, if_false]) (fun i => by simp +decide only [sA_uA, false_and, if_false])
  have T2 : TT (uA (uA (uA σ1 4 0 1) 4 1 1) 4 2 0) 1 1 0 0 := fun i hi => by simp +decide only [sA_uA, false_and, if_false]; exact T1 i hi
  have c0 : sA (uA (uA (uA σ1 4 0 1) 4 1 1) 4 2 0) 4 0 = 1 := by simp +decide only [sA_uA, ↓reduceIte]
  have c1 : sA (uA (uA (uA σ1 4 0 1) 4 1 1) 4 2 0) 4 1 = 1 := by simp +decide only [sA_uA, ↓reduceIte]
  have c2 : sA (uA (uA (uA σ1 4 0 1) 4 1 1) 4 2 0) 4 2 = 0 := by simp +decide only [sA_uA, ↓reduceIte]
  have q3 : sA (uA (uA (uA σ1 4 0 1) 4 1 1) 4 2 0) 3 2 = -1 := by simp +decide only [sA_uA, false_and, if_false]; rw [K1.2.2.1 _ _ (by decide)]; exact hs
  have i4 : sI (uA (uA (uA σ1 4 0 1) 4 1 1) 4 2 0) 4 = 1 := by simp only [sI_uA]; rw [K1.1]; exact h4
  generalize uA (uA (uA σ1 4 0 1) 4 1 1) 4 2 0 = σ2 at *
  refine v20_0 G2.1.1 T2 fun σ3 kI kJ kA kB e3 => ?_
  have G3 := G2.of (s' := σ3) (kI 0) (kJ 16) (fun i => kA 1 i (by decide) (by decide)) (fun i => kA 2 i (by decide) (by decide))
  have T3 : TT σ3 1 1 0 0 := fun i hi => by rw [kA 7 i (by decide) (by decide)]; exact T2 i hi
  simp +decide only [w12_114, w12_115, w12_116, isO_put, Option.toList_none, List.nil_append, true_and, and_true]
  refine v21_0 G3 T3 e3 (by rw [kA _ _ (by decide) (by decide)]; exact q3) fun σ4 mI mJ mA mB e4 e5 => ?_
  have G4 := G3.of (s' := σ4) (mI 0 (by decide)) (mJ 16 (by decide)) (fun i => mA 1 i (by decide)) (fun i => mA 2 i (by decide))
  obtain ⟨l6, l7⟩ := e4
  simp +decide only [w12_119, w12_120, w12_121, w12_124, w12_125, w12_126, w12_129, isO_put, Option.toList_none, List.nil_append, true_and, and_true, g6, g7, l6, l7, t64_2]
  refine v17 G4 (by unfold cb; omega) (by unfold cb; omega) (by unfold cb; omega) (by unfold cb; omega) (by omega) (by omega) fun σ5 P5 => ?_
  simp +decide only [w12_132, w12_133, w12_134, w12_137, w12_138, isOw_put, Option.toList_none, List.nil_append, true_and, and_true, s5]
  have G5 := P5.hs G4
  obtain ⟨u1, u2, u3, u4, u5, u6, u7⟩ := P5
  refine hq _ ⟨G5.of (by simp +decide only [sI_uI, ↓reduceIte]) (by simp +decide only [sJ_uI]) (fun i => by simp +decide only [sA_uI]) (fun i => by simp +decide only [sA_uI]), ⟨?_, ?_, ?_, ?_⟩, ⟨?_, ?_, ?_⟩, ⟨?_, ?_, ?_⟩, ?_, ?_, ?_⟩
  · simp +decide only [sI_uI, ↓reduceIte]; rw [u1, mI _ (by decide), kI]; exact i4
  · simp +decide only [sI_uI, ↓reduceIte]
  · simp +decide only [sI_uI, ↓reduceIte]; rw [u1]; exact l6
  · simp +decide only [sJ_uI]; rw [u2]; exact l7
  · simp +decide only [sA_uI]; rw [u3]; exact e5.1
  · simp +decide only [sA_uI]; rw [u3]; exact e5.2.1
  · simp +decide only [sA_uI]; rw [u3]; exact e5.2.2
  · simp +decide only [sA_uI]; rw [u3, mA _ _ (by decide), kA _ _ (by decide) (by decide)]; exact c0
  · simp +decide only [sA_uI]; rw [u3, mA _ _ (by decide), kA _ _ (by decide) (by decide)]; exact c1
  · simp +decide only [sA_uI]; rw [u3, mA _ _ (by decide), kA _ _ (by decide) (by decide)]; exact c2
  · simp +decide only [sB_uI]; exact u5
  · simp +decide only [sB_uI]; exact u6
  · simp +decide only [sB_uI]; exact u7
set_option maxRecDepth 100000 in
set_option maxHeartbeats 4000000 in
theorem r12_1 (G : HS s a b c d) (T : TT s 1 1 1 0) (hs : sA s 3 2 = -1) (h4 : sI s 4 = 1) (ra : wb a) (rb : wb b) (rc : wb c) (rd : wb d) (hc : (a.toInt + b.toInt) * 3 ≤ (a.toInt + c.toInt + d.toInt) * 2)
    (hq : ∀ s', SO s' a b c d 2 2 (a.toInt + b.toInt) 0 (-1) → Q (some (.int 1)) (ob H p s')) : W (pj lw) 12 42 [.val (.ref p), .unset, .unset] [] 0 0 (ob H p s) Q := by
  unfold wb at ra rb rc rd
  simp +decide only [w12_42, w12_43, isO_put, true_and, and_true]
  refine v19_1 G.1.1 T fun σ1 K1 e1 => ?_
  have G1 := K1.hs G (by decide) (by decide)
  have T1 := K1.tt T (by decide)
  obtain ⟨r0, r1, r2⟩ := e1
  have n3 := G1.1.1
  simp +decide only [w12_46, w12_47, w12_48, w12_49, w12_51, w12_52, w12_55, w12_58, w12_59, w12_62, w12_63, w12_64, w12_67, w12_68, w12_69, w12_70, w12_71, w12_72, w12_73, w12_76, w12_77, w12_80, w12_81, w12_82, w12_83, w12_86, w12_87, w12_88, w12_91, w12_92, w12_95, w12_96i, w12_97, w12_100, w12_103, w12_104, w12_109, w12_110, w12_111, w12_50, isO_put, sI_uA, sA_uA, Option.toList_none, List.nil_append, true_and, and_true, or_true, ↓reduceIte, Nat.reduceAdd, Int32.reduceAdd, Int32.reduceToNatClampNeg, Int64.reduceAdd, g0, g9, g13, ai4, aw4, ain4, awn4, ae4, as4, ai8, ae8, ain4, awn4, n3, r0, r1, r2]
  have G2 := G1.of (s' := uA (uA (uA σ1 4 0 1) 4 1 1) 4 2 0) (by simp +decide only [sI_uA]) (by simp +decide only [sJ_uA]) (fun i => by simp +decide only [sA_uA, false_and, if_false]) (fun i => by simp +decide only [sA_uA, false_and, if_false])
  have T2 : TT (uA (uA (uA σ1 4 0 1) 4 1 1) 4 2 0) 1 1 1 0 := fun i hi => by simp +decide only [sA_uA, false_and, if_false]; exact T1 i hi
  have c0 : sA (uA (uA (uA σ1 4 0 1) 4 1 1) 4 2 0) 4 0 = 1 := by simp +decide only [sA_uA, ↓reduceIte]
  have c1 : sA (uA (uA (uA σ1 4 0 1) 4 1 1) 4 2 0) 4 1 = 1 := by simp +decide only [sA_uA, ↓reduceIte]
  have c2 : sA (uA (uA (uA σ1 4 0 1) 4 1 1) 4 2 0) 4 2 = 0 := by simp +decide only [sA_uA, ↓reduceIte]
  have q3 : sA (uA (uA (uA σ1 4 0 1) 4 1 1) 4 2 0) 3 2 = -1 := by simp +decide only [sA_uA, false_and, if_false]; rw [K1.2.2.1 _ _ (by decide)]; exact hs
  have i4 : sI (uA (uA (uA σ1 4 0 1) 4 1 1) 4 2 0) 4 = 1 := by simp only [sI_uA]; rw [K1.1]; exact h4
  generalize uA (uA (uA σ1 4 0 1) 4 1 1) 4 2 0 = σ2 at *
  refine v20_1 G2.1.1 T2 fun σ3 kI kJ kA kB e3 => ?_
  have G3 := G2.of (s' := σ3) (kI 0) (kJ 16) (fun i => kA 1 i (by decide) (by decide)) (fun i => kA 2 i (by decide) (by decide))
  have T3 : TT σ3 1 1 1 0 := fun i hi => by rw [kA 7 i (by decide) (by decide)]; exact T2 i hi
  simp +decide only [w12_114, w12_115, w12_116, isO_put, Option.toList_none, List.nil_append, true_and, and_true]
  refine v21_1 G3 T3 e3 (by rw [kA _ _ (by decide) (by decide)]; exact q3) fun σ4 mI mJ mA mB e4 e5 => ?_
  have G4 := G3.of (s' := σ4) (mI 0 (by decide)) (mJ 16 (by decide)) (fun i => mA 1 i (by decide)) (fun i => mA 2 i (by decide))
  obtain ⟨l6, l7⟩ := e4
  simp +decide only [w12_119, w12_120, w12_121, w12_124, w12_125, w12_126, w12_129, isO_put, Option.toList_none, List.nil_append, true_and, and_true, g6, g7, l6, l7, t64_2]
  refine v17 G4 (by unfold cb; omega) (by unfold cb; omega) (by unfold cb; omega) (by unfold cb; omega) (by omega) (by omega) fun σ5 P5 => ?_
  simp +decide only [w12_132, w12_133, w12_134, w12_137, w12_138, isOw_put, Option.toList_none, List.nil_append, true_and, and_true, s5]
  have G5 := P5.hs G4
  obtain ⟨u1, u2, u3, u4, u5, u6, u7⟩ := P5
  refine hq _ ⟨G5.of (by simp +decide only [sI_uI, ↓reduceIte]) (by simp +decide only [sJ_uI]) (fun i => by simp +decide only [sA_uI]) (fun i => by simp +decide only [sA_uI]), ⟨?_, ?_, ?_, ?_⟩, ⟨?_, ?_, ?_⟩, ⟨?_, ?_, ?_⟩, ?_, ?_, ?_⟩
  · simp +decide only [sI_uI, ↓reduceIte]; rw [u1, mI _ (by decide), kI]; exact i4
  · simp +decide only [sI_uI, ↓reduceIte]
  · simp +decide only [sI_uI, ↓reduceIte]; rw [u1]; exact l6
  · simp +decide only [sJ_uI]; rw [u2]; exact l7
  · simp +decide only [sA_uI]; rw [u3]; exact e5.1
  · simp +decide only [sA_uI]; rw [u3]; exact e5.2.1
  · simp +decide only [sA_uI]; rw [u3]; exact e5.2.2
  · simp +decide only [sA_uI]; rw [u3, mA _ _ (by decide), kA _ _ (by decide) (by decide)]; exact c0
  · simp +decide only [sA_uI]; rw [u3, mA _ _ (by decide), kA _ _ (by decide) (by decide)]; exact c1
  · simp +decide only [sA_uI]; rw [u3, mA _ _ (by decide), kA _ _ (by decide) (by decide)]; exact c2
  · simp +decide only [sB_uI]; exact u5
  · simp +decide only [sB_uI]; exact u6
  · simp +decide only [sB_uI]; exact u7
set_option maxRecDepth 100000 in
set_option maxHeartbeats 4000000 in
theorem r12_2 (G : HS s a b c d) (T : TT s 1 1 0 1) (hs : sA s 3 2 = -1) (h4 : sI s 4 = 1) (ra : wb a) (rb : wb b) (rc : wb c) (rd : wb d) (hc : (a.toInt + b.toInt) * 3 ≤ (a.toInt + c.toInt + d.toInt) * 2)
    (hq : ∀ s', SO s' a b c d 2 2 (a.toInt + b.toInt) 0 (-1) → Q (some (.int 1)) (ob H p s')) : W (pj lw) 12 42 [.val (.ref p), .unset, .unset] [] 0 0 (ob H p s) Q := by
  unfold wb at ra rb rc rd
  simp +decide only [w12_42, w12_43, isO_put, true_and, and_true]
  refine v19_2 G.1.1 T fun σ1 K1 e1 => ?_
  have G1 := K1.hs G (by decide) (by decide)
  have T1 := K1.tt T (by decide)
  obtain ⟨r0, r1, r2⟩ := e1
  have n3 := G1.1.1
  simp +decide only [w12_46, w12_47, w12_48, w12_49, w12_51, w12_52, w12_55, w12_58, w12_59, w12_62, w12_63, w12_64, w12_67, w12_68, w12_69, w12_70, w12_71, w12_72, w12_73, w12_76, w12_77, w12_80, w12_81, w12_82, w12_83, w12_86, w12_87, w12_88, w12_91, w12_92, w12_95, w12_96i, w12_97, w12_100, w12_103, w12_104, w12_109, w12_110, w12_111, w12_50, isO_put, sI_uA, sA_uA, Option.toList_none, List.nil_append, true_and, and_true, or_true, ↓reduceIte, Nat.reduceAdd, Int32.reduceAdd, Int32.reduceToNatClampNeg, Int64.reduceAdd, g0, g9, g13, ai4, aw4, ain4, awn4, ae4, as4, ai8, ae8, ain4, awn4, n3, r0, r1, r2]
  have G2 := G1.of (s' := uA (uA (uA σ1 4 0 1) 4 1 1) 4 2 0) (by simp +decide only [sI_uA]) (by simp +decide only [sJ_uA]) (fun i => by simp +decide only [sA_uA, false_and, if_false]) (fun i => by simp +decide only [sA_uA, false_and, if_false])
  have T2 : TT (uA (uA (uA σ1 4 0 1) 4 1 1) 4 2 0) 1 1 0 1 := fun i hi => by simp +decide only [sA_uA, false_and, if_false]; exact T1 i hi
  have c0 : sA (uA (uA (uA σ1 4 0 1) 4 1 1) 4 2 0) 4 0 = 1 := by simp +decide only [sA_uA, ↓reduceIte]
  have c1 : sA (uA (uA (uA σ1 4 0 1) 4 1 1) 4 2 0) 4 1 = 1 := by simp +decide only [sA_uA, ↓reduceIte]
  have c2 : sA (uA (uA (uA σ1 4 0 1) 4 1 1) 4 2 0) 4 2 = 0 := by simp +decide only [sA_uA, ↓reduceIte]
  have q3 : sA (uA (uA (uA σ1 4 0 1) 4 1 1) 4 2 0) 3 2 = -1 := by simp +decide only [sA_uA, false_and, if_false]; rw [K1.2.2.1 _ _ (by decide)]; exact hs
  have i4 : sI (uA (uA (uA σ1 4 0 1) 4 1 1) 4 2 0) 4 = 1 := by simp only [sI_uA]; rw [K1.1]; exact h4
  generalize uA (uA (uA σ1 4 0 1) 4 1 1) 4 2 0 = σ2 at *
  refine v20_2 G2.1.1 T2 fun σ3 kI kJ kA kB e3 => ?_
  have G3 := G2.of (s' := σ3) (kI 0) (kJ 16) (fun i => kA 1 i (by decide) (by decide)) (fun i => kA 2 i (by decide) (by decide))
  have T3 : TT σ3 1 1 0 1 := fun i hi => by rw [kA 7 i (by decide) (by decide)]; exact T2 i hi
  simp +decide only [w12_114, w12_115, w12_116, isO_put, Option.toList_none, List.nil_append, true_and, and_true]
  refine v21_2 G3 T3 e3 (by rw [kA _ _ (by decide) (by decide)]; exact q3) fun σ4 mI mJ mA mB e4 e5 => ?_
  have G4 := G3.of (s' := σ4) (mI 0 (by decide)) (mJ 16 (by decide)) (fun i => mA 1 i (by decide)) (fun i => mA 2 i (by decide))
  obtain ⟨l6, l7⟩ := e4
  simp +decide only [w12_119, w12_120, w12_121, w12_124, w12_125, w12_126, w12_129, isO_put, Option.toList_none, List.nil_append, true_and, and_true, g6, g7, l6, l7, t64_2]
  refine v17 G4 (by unfold cb; omega) (by unfold cb; omega) (by unfold cb; omega) (by unfold cb; omega) (by omega) (by omega) fun σ5 P5 => ?_
  simp +decide only [w12_132, w12_133, w12_134, w12_137, w12_138, isOw_put, Option.toList_none, List.nil_append, true_and, and_true, s5]
  have G5 := P5.hs G4
  obtain ⟨u1, u2, u3, u4, u5, u6, u7⟩ := P5
  refine hq _ ⟨G5.of (by simp +decide only [sI_uI, ↓reduceIte]) (by simp +decide only [sJ_uI]) (fun i => by simp +decide only [sA_uI]) (fun i => by simp +decide only [sA_uI]), ⟨?_, ?_, ?_, ?_⟩, ⟨?_, ?_, ?_⟩, ⟨?_, ?_, ?_⟩, ?_, ?_, ?_⟩
  · simp +decide only [sI_uI, ↓reduceIte]; rw [u1, mI _ (by decide), kI]; exact i4
  · simp +decide only [sI_uI, ↓reduceIte]
  · simp +decide only [sI_uI, ↓reduceIte]; rw [u1]; exact l6
  · simp +decide only [sJ_uI]; rw [u2]; exact l7
  · simp +decide only [sA_uI]; rw [u3]; exact e5.1
  · simp +decide only [sA_uI]; rw [u3]; exact e5.2.1
  · simp +decide only [sA_uI]; rw [u3]; exact e5.2.2
  · simp +decide only [sA_uI]; rw [u3, mA _ _ (by decide), kA _ _ (by decide) (by decide)]; exact c0
  · simp +decide only [sA_uI]; rw [u3, mA _ _ (by decide), kA _ _ (by decide) (by decide)]; exact c1
  · simp +decide only [sA_uI]; rw [u3, mA _ _ (by decide), kA _ _ (by decide) (by decide)]; exact c2
  · simp +decide only [sB_uI]; exact u5
  · simp +decide only [sB_uI]; exact u6
  · simp +decide only [sB_uI]; exact u7
set_option maxRecDepth 100000 in
set_option maxHeartbeats 4000000 in
theorem r12_3 (G : HS s a b c d) (T : TT s 1 1 1 1) (hs : sA s 3 2 = -1) (h4 : sI s 4 = 1) (ra : wb a) (rb : wb b) (rc : wb c) (rd : wb d) (hc : (a.toInt + b.toInt) * 3 ≤ (a.toInt + c.toInt + d.toInt) * 2)
    (hq : ∀ s', SO s' a b c d 2 2 (a.toInt + b.toInt) 1 (-1) → Q (some (.int 1)) (ob H p s')) : W (pj lw) 12 42 [.val (.ref p), .unset, .unset] [] 0 0 (ob H p s) Q := by
  unfold wb at ra rb rc rd
  simp +decide only [w12_42, w12_43, isO_put, true_and, and_true]
  refine v19_3 G.1.1 T fun σ1 K1 e1 => ?_
  have G1 := K1.hs G (by decide) (by decide)
  have T1 := K1.tt T (by decide)
  obtain ⟨r0, r1, r2⟩ := e1
  have n3 := G1.1.1
  simp +decide only [w12_46, w12_47, w12_48, w12_49, w12_51, w12_52, w12_55, w12_58, w12_59, w12_62, w12_63, w12_64, w12_67, w12_68, w12_69, w12_70, w12_71, w12_72, w12_73, w12_76, w12_77, w12_81, w12_82, w12_83, w12_86, w12_87, w12_88, w12_91, w12_92, w12_95, w12_96i, w12_97, w12_100, w12_103, w12_104, w12_109, w12_110, w12_111, w12_50, isO_put, sI_uA, sA_uA, Option.toList_none, List.nil_append, true_and, and_true, or_true, ↓reduceIte, Nat.reduceAdd, Int32.reduceAdd, Int32.reduceToNatClampNeg, Int64.reduceAdd, g0, g9, g13, ai4, aw4, ain4, awn4, ae4, as4, ai8, ae8, ain4, awn4, n3, r0, r1, r2]
  have G2 := G1.of (s' := uA (uA (uA σ1 4 0 1) 4 1 1) 4 2 1) (by simp +decide only [sI_uA]) (by simp +decide only [sJ_uA]) (fun i => by simp +decide only [sA_uA, false_and, if_false]) (fun i => by simp +decide only [sA_uA, false_and, if_false])
  have T2 : TT (uA (uA (uA σ1 4 0 1) 4 1 1) 4 2 1) 1 1 1 1 := fun i hi => by simp +decide only [sA_uA, false_and, if_false]; exact T1 i hi
  have c0 : sA (uA (uA (uA σ1 4 0 1) 4 1 1) 4 2 1) 4 0 = 1 := by simp +decide only [sA_uA, ↓reduceIte]
  have c1 : sA (uA (uA (uA σ1 4 0 1) 4 1 1) 4 2 1) 4 1 = 1 := by simp +decide only [sA_uA, ↓reduceIte]
  have c2 : sA (uA (uA (uA σ1 4 0 1) 4 1 1) 4 2 1) 4 2 = 1 := by simp +decide only [sA_uA, ↓reduceIte]
  have q3 : sA (uA (uA (uA σ1 4 0 1) 4 1 1) 4 2 1) 3 2 = -1 := by simp +decide only [sA_uA, false_and, if_false]; rw [K1.2.2.1 _ _ (by decide)]; exact hs
  have i4 : sI (uA (uA (uA σ1 4 0 1) 4 1 1) 4 2 1) 4 = 1 := by simp only [sI_uA]; rw [K1.1]; exact h4
  generalize uA (uA (uA σ1 4 0 1) 4 1 1) 4 2 1 = σ2 at *
  refine v20_3 G2.1.1 T2 fun σ3 kI kJ kA kB e3 => ?_
  have G3 := G2.of (s' := σ3) (kI 0) (kJ 16) (fun i => kA 1 i (by decide) (by decide)) (fun i => kA 2 i (by decide) (by decide))
  have T3 : TT σ3 1 1 1 1 := fun i hi => by rw [kA 7 i (by decide) (by decide)]; exact T2 i hi
  simp +decide only [w12_114, w12_115, w12_116, isO_put, Option.toList_none, List.nil_append, true_and, and_true]
  refine v21_3 G3 T3 e3 (by rw [kA _ _ (by decide) (by decide)]; exact q3) fun σ4 mI mJ mA mB e4 e5 => ?_
  have G4 := G3.of (s' := σ4) (mI 0 (by decide)) (mJ 16 (by decide)) (fun i => mA 1 i (by decide)) (fun i => mA 2 i (by decide))
  obtain ⟨l6, l7⟩ := e4
  simp +decide only [w12_119, w12_120, w12_121, w12_124, w12_125, w12_126, w12_129, isO_put, Option.toList_none, List.nil_append, true_and, and_true, g6, g7, l6, l7, t64_2]
  refine v17 G4 (by unfold cb; omega) (by unfold cb; omega) (by unfold cb; omega) (by unfold cb; omega) (by omega) (by omega) fun σ5 P5 => ?_
  simp +decide only [w12_132, w12_133, w12_134, w12_137, w12_138, isOw_put, Option.toList_none, List.nil_append, true_and, and_true, s5]
  have G5 := P5.hs G4
  obtain ⟨u1, u2, u3, u4, u5, u6, u7⟩ := P5
  refine hq _ ⟨G5.of (by simp +decide only [sI_uI, ↓reduceIte]) (by simp +decide only [sJ_uI]) (fun i => by simp +decide only [sA_uI]) (fun i => by simp +decide only [sA_uI]), ⟨?_, ?_, ?_, ?_⟩, ⟨?_, ?_, ?_⟩, ⟨?_, ?_, ?_⟩, ?_, ?_, ?_⟩
  · simp +decide only [sI_uI, ↓reduceIte]; rw [u1, mI _ (by decide), kI]; exact i4
  · simp +decide only [sI_uI, ↓reduceIte]
  · simp +decide only [sI_uI, ↓reduceIte]; rw [u1]; exact l6
  · simp +decide only [sJ_uI]; rw [u2]; exact l7
  · simp +decide only [sA_uI]; rw [u3]; exact e5.1
  · simp +decide only [sA_uI]; rw [u3]; exact e5.2.1
  · simp +decide only [sA_uI]; rw [u3]; exact e5.2.2
  · simp +decide only [sA_uI]; rw [u3, mA _ _ (by decide), kA _ _ (by decide) (by decide)]; exact c0
  · simp +decide only [sA_uI]; rw [u3, mA _ _ (by decide), kA _ _ (by decide) (by decide)]; exact c1
  · simp +decide only [sA_uI]; rw [u3, mA _ _ (by decide), kA _ _ (by decide) (by decide)]; exact c2
  · simp +decide only [sB_uI]; exact u5
  · simp +decide only [sB_uI]; exact u6
  · simp +decide only [sB_uI]; exact u7
set_option maxRecDepth 100000 in
set_option maxHeartbeats 4000000 in
theorem r12_4 (G : HS s a b c d) (T : TT s 1 0 1 1) (hs : sA s 3 2 = -1) (h4 : sI s 4 = 1) (ra : wb a) (rb : wb b) (rc : wb c) (rd : wb d) (hc : (a.toInt + c.toInt + d.toInt) * 2 ≤ (a.toInt + b.toInt) * 3)
    (hq : ∀ s', SO s' a b c d 3 3 (a.toInt + c.toInt + d.toInt) 1 2 → Q (some (.int 1)) (ob H p s')) : W (pj lw) 12 42 [.val (.ref p), .unset, .unset] [] 0 0 (ob H p s) Q := by
  unfold wb at ra rb rc rd
  simp +decide only [w12_42, w12_43, isO_put, true_and, and_true]
  refine v19_4 G.1.1 T fun σ1 K1 e1 => ?_
  have G1 := K1.hs G (by decide) (by decide)
  have T1 := K1.tt T (by decide)
  obtain ⟨r0, r1, r2⟩ := e1
  have n3 := G1.1.1
  simp +decide only [w12_46, w12_47, w12_48, w12_49, w12_51, w12_52, w12_55, w12_58, w12_59, w12_62, w12_63, w12_64, w12_67, w12_68, w12_69, w12_70, w12_71, w12_72, w12_73, w12_76, w12_77, w12_81, w12_82, w12_83, w12_86, w12_87, w12_88, w12_91, w12_92, w12_95, w12_96i, w12_97, w12_100, w12_103, w12_104, w12_109, w12_110, w12_111, w12_50, isO_put, sI_uA, sA_uA, Option.toList_none, List.nil_append, true_and, and_true, or_true, ↓reduceIte, Nat.reduceAdd, Int32.reduceAdd, Int32.reduceToNatClampNeg, Int64.reduceAdd, g0, g9, g13, ai4, aw4, ain4, awn4, ae4, as4, ai8, ae8, ain4, awn4, n3, r0, r1, r2]
  have G2 := G1.of (s' := uA (uA (uA σ1 4 0 1) 4 1 1) 4 2 1) (by simp +decide only [sI_uA]) (by simp +decide only [sJ_uA]) (fun i => by simp +decide only [sA_uA, false_and, if_false]) (fun i => by simp +decide only [sA_uA, false_and, if_false])
  have T2 : TT (uA (uA (uA σ1 4 0 1) 4 1 1) 4 2 1) 1 0 1 1 := fun i hi => by simp +decide only [sA_uA, false_and, if_false]; exact T1 i hi
  have c0 : sA (uA (uA (uA σ1 4 0 1) 4 1 1) 4 2 1) 4 0 = 1 := by simp +decide only [sA_uA, ↓reduceIte]
  have c1 : sA (uA (uA (uA σ1 4 0 1) 4 1 1) 4 2 1) 4 1 = 1 := by simp +decide only [sA_uA, ↓reduceIte]
  have c2 : sA (uA (uA (uA σ1 4 0 1) 4 1 1) 4 2 1) 4 2 = 1 := by simp +decide only [sA_uA, ↓reduceIte]
  have q3 : sA (uA (uA (uA σ1 4 0 1) 4 1 1) 4 2 1) 3 2 = -1 := by simp +decide only [sA_uA, false_and, if_false]; rw [K1.2.2.1 _ _ (by decide)]; exact hs
  have i4 : sI (uA (uA (uA σ1 4 0 1) 4 1 1) 4 2 1) 4 = 1 := by simp only [sI_uA]; rw [K1.1]; exact h4
  generalize uA (uA (uA σ1 4 0 1) 4 1 1) 4 2 1 = σ2 at *
  refine v20_4 G2.1.1 T2 fun σ3 kI kJ kA kB e3 => ?_
  have G3 := G2.of (s' := σ3) (kI 0) (kJ 16) (fun i => kA 1 i (by decide) (by decide)) (fun i => kA 2 i (by decide) (by decide))
  have T3 : TT σ3 1 0 1 1 := fun i hi => by rw [kA 7 i (by decide) (by decide)]; exact T2 i hi
  simp +decide only [w12_114, w12_115, w12_116, isO_put, Option.toList_none, List.nil_append, true_and, and_true]
  refine v21_4 G3 T3 e3 (by rw [kA _ _ (by decide) (by decide)]; exact q3) fun σ4 mI mJ mA mB e4 e5 => ?_
  have G4 := G3.of (s' := σ4) (mI 0 (by decide)) (mJ 16 (by decide)) (fun i => mA 1 i (by decide)) (fun i => mA 2 i (by decide))
  obtain ⟨l6, l7⟩ := e4
  simp +decide only [w12_119, w12_120, w12_121, w12_124, w12_125, w12_126, w12_129, isO_put, Option.toList_none, List.nil_append, true_and, and_true, g6, g7, l6, l7, t64_3]
  refine v17 G4 (by unfold cb; omega) (by unfold cb; omega) (by unfold cb; omega) (by unfold cb; omega) (by omega) (by omega) fun σ5 P5 => ?_
  simp +decide only [w12_132, w12_133, w12_134, w12_137, w12_138, isOw_put, Option.toList_none, List.nil_append, true_and, and_true, s5]
  have G5 := P5.hs G4
  obtain ⟨u1, u2, u3, u4, u5, u6, u7⟩ := P5
  refine hq _ ⟨G5.of (by simp +decide only [sI_uI, ↓reduceIte]) (by simp +decide only [sJ_uI]) (fun i => by simp +decide only [sA_uI]) (fun i => by simp +decide only [sA_uI]), ⟨?_, ?_, ?_, ?_⟩, ⟨?_, ?_, ?_⟩, ⟨?_, ?_, ?_⟩, ?_, ?_, ?_⟩
  · simp +decide only [sI_uI, ↓reduceIte]; rw [u1, mI _ (by decide), kI]; exact i4
  · simp +decide only [sI_uI, ↓reduceIte]
  · simp +decide only [sI_uI, ↓reduceIte]; rw [u1]; exact l6
  · simp +decide only [sJ_uI]; rw [u2]; exact l7
  · simp +decide only [sA_uI]; rw [u3]; exact e5.1
  · simp +decide only [sA_uI]; rw [u3]; exact e5.2.1
  · simp +decide only [sA_uI]; rw [u3]; exact e5.2.2
  · simp +decide only [sA_uI]; rw [u3, mA _ _ (by decide), kA _ _ (by decide) (by decide)]; exact c0
  · simp +decide only [sA_uI]; rw [u3, mA _ _ (by decide), kA _ _ (by decide) (by decide)]; exact c1
  · simp +decide only [sA_uI]; rw [u3, mA _ _ (by decide), kA _ _ (by decide) (by decide)]; exact c2
  · simp +decide only [sB_uI]; exact u5
  · simp +decide only [sB_uI]; exact u6
  · simp +decide only [sB_uI]; exact u7
theorem MUf {a b c d : Int} (h : MU a b c d N D) (ra : -10000 ≤ a ∧ a ≤ 10000) (rb : -10000 ≤ b ∧ b ≤ 10000) (rc : -10000 ≤ c ∧ c ≤ 10000) (rd : -10000 ≤ d ∧ d ≤ 10000) :
    (cb (D * a - N) ∧ cb (D * b - N) ∧ cb (D * c - N) ∧ cb (D * d - N)) ∧ 0 ≤ (D * a - N) + (D * b - N) ∧ 0 ≤ (D * a - N) + (D * c - N) + (D * d - N) ∧ ((D * a - N) + (D * b - N) = 0 ↔ (a + b) * 3 ≤ (a + c + d) * 2) ∧ ((D * a - N) + (D * c - N) + (D * d - N) = 0 ↔ (a + c + d) * 2 ≤ (a + b) * 3) := by
  unfold MU at h; unfold cb
  obtain ⟨hD, h⟩ := h
  rcases hD with rfl | rfl | rfl <;> omega
set_option maxRecDepth 100000 in
set_option maxHeartbeats 4000000 in
theorem v12 (G : HS s a b c d) (ra : wb a) (rb : wb b) (rc : wb c) (rd : wb d)
    (hq : ∀ s', ((¬ (a.toInt + c.toInt + d.toInt) * 2 < (a.toInt + b.toInt) * 3 ∧ SO s' a b c d 2 2 (a.toInt + b.toInt) (if (a.toInt + c.toInt + d.toInt) * 2 ≤ (a.toInt + b.toInt) * 3 then 1 else 0) (-1)) ∨ ((a.toInt + c.toInt + d.toInt) * 2 < (a.toInt + b.toInt) * 3 ∧ SO s' a b c d 3 3 (a.toInt + c.toInt + d.toInt) 1 2)) → Q (some (.int 1)) (ob H p s')) : Cl (pj lw) 12 [.ref p] (ob H p s) Q := by
  have ra' := id ra
  have rb' := id rb
  have rc' := id rc
  have rd' := id rd
  unfold wb at ra' rb' rc' rd'
  rw [c12]; simp +decide only [w12_0, w12_1, isO_put, true_and, and_true]
  refine v13 G fun σ0 G0 hs => ?_
  simp +decide only [w12_4, w12_5, w12_6, w12_9, w12_10, isO_put, isOw_put, Option.toList_none, List.nil_append, true_and, and_true, s4]
  have G1 := G0.of (s' := uI σ0 4 1) (by simp +decide only [sI_uI, ↓reduceIte]) (by simp +decide only [sJ_uI]) (fun i => by simp +decide only [sA_uI]) (fun i => by simp +decide only [sA_uI])
  refine v14 G1 ra rb rc rd fun σ2 N D G2 kI kA kJ hMU => ?_
  obtain ⟨j17, j18⟩ := kJ
  obtain ⟨⟨cA, cB, cC, cE⟩, f1, f2, m1, m2⟩ := MUf hMU ra' rb' rc' rd'
  simp +decide only [w12_13, w12_18, w12_19, w12_20, w12_23, w12_24, w12_27, isO_put, Option.toList_some, List.cons_append, List.nil_append, true_and, and_true, ↓reduceIte, g17, g18, j17, j18]
  refine v17 G2 cA cB cC cE f1 f2 fun σ3 P3 => ?_
  have G3 := P3.hs G2
  have j17' : sJ σ3 17 = oi N := by rw [P3.2.1]; exact j17
  have j18' : sJ σ3 18 = oi D := by rw [P3.2.1]; exact j18
  simp +decide only [w12_30, w12_31, w12_32, w12_35, w12_36, w12_39, isO_put, Option.toList_none, List.nil_append, true_and, and_true, g17, g18, j17', j18']
  obtain ⟨g1, g2, g3, g4, g5, g6, g7⟩ := P_feas f1 f2
  have qbb : qb 3000000 (P0 (D * a.toInt - N) (D * b.toInt - N) (D * c.toInt - N) (D * d.toInt - N), P1 (D * a.toInt - N) (D * b.toInt - N) (D * c.toInt - N) (D * d.toInt - N), P2 (D * a.toInt - N) (D * b.toInt - N) (D * c.toInt - N) (D * d.toInt - N)) := by
    unfold qb P0 P1 P2; unfold cb at cA cB cC cE
    generalize D * a.toInt - N = A at *
    generalize D * b.toInt - N = B at *
    generalize D * c.toInt - N = C at *
    generalize D * d.toInt - N = E at *
    refine ⟨⟨?_, ?_⟩, ⟨?_, ?_⟩, ?_, ?_⟩ <;> simp only <;> omega
  have v5 := P3.2.2.2.2.1
  have v6 := P3.2.2.2.2.2.1
  have v7 := P3.2.2.2.2.2.2
  simp only at v5 v6 v7
  refine v18 G3 cA cB cC cE v5 v6 v7 qbb fun σ4 t1 t2 t3 t4 K4 T4 h1 h2 h3 h4 => ?_
  have G4 := K4.hs G3 (by decide) (by decide)
  have hs4 : sA σ4 3 2 = -1 := by rw [K4.2.2.1 _ _ (by decide), P3.2.2.1, kA, sA_uI]; exact hs
  have h44 : sI σ4 4 = 1 := by rw [K4.1, P3.1, kI, sI_uI, if_pos rfl]
  clear K4 P3 qbb v5 v6 v7
  generalize P0 (D * a.toInt - N) (D * b.toInt - N) (D * c.toInt - N) (D * d.toInt - N) = p0 at *
  generalize P1 (D * a.toInt - N) (D * b.toInt - N) (D * c.toInt - N) (D * d.toInt - N) = p1 at *
  generalize P2 (D * a.toInt - N) (D * b.toInt - N) (D * c.toInt - N) (D * d.toInt - N) = p2 at *
  generalize D * a.toInt - N = A at *
  generalize D * b.toInt - N = B at *
  generalize D * c.toInt - N = C at *
  generalize D * d.toInt - N = E at *
  have tot : A + B = 0 ∨ A + C + E = 0 := by omega
  rcases h1 with ⟨rfl, h1⟩ | ⟨rfl, h1⟩
  rotate_left
  · omega
  rcases h2 with ⟨rfl, h2⟩ | ⟨rfl, h2⟩ <;> rcases h3 with ⟨rfl, h3⟩ | ⟨rfl, h3⟩ <;> rcases h4 with ⟨rfl, h4⟩ | ⟨rfl, h4⟩
  · refine r12_3 G4 T4 hs4 h44 ra rb rc rd (by omega) fun s' hS => hq s' (Or.inl ⟨by omega, ?_⟩)
    rw [if_pos (by omega)]; exact hS
  · refine r12_1 G4 T4 hs4 h44 ra rb rc rd (by omega) fun s' hS => hq s' (Or.inl ⟨by omega, ?_⟩)
    rw [if_neg (by omega)]; exact hS
  · refine r12_2 G4 T4 hs4 h44 ra rb rc rd (by omega) fun s' hS => hq s' (Or.inl ⟨by omega, ?_⟩)
    rw [if_neg (by omega)]; exact hS
  · refine r12_0 G4 T4 hs4 h44 ra rb rc rd (by omega) fun s' hS => hq s' (Or.inl ⟨by omega, ?_⟩)
    rw [if_neg (by omega)]; exact hS
  · exact r12_4 G4 T4 hs4 h44 ra rb rc rd (by omega) fun s' hS => hq s' (Or.inr ⟨by omega, hS⟩)
  · omega
  · omega
  · omega
end J

end Jvm.JX.Pj
namespace Jvm.JX.Lw
open Jvm Jvm.ClassFile Sem Op Lib Jvm.JX Jvm.JX.Pj
def lr0 : List Row := [(0, .iload_n 0, 1, 0), (1, .sipush 10001, 3, 0), (4, .irem, 1, 0), (5, .istore 4, 2, 0), (7, .iload_n 1, 1, 0), (8, .sipush 10001, 3, 0), (11, .irem, 1, 0), (12, .istore 5, 2, 0), (14, .iload_n 2, 1, 0), (15, .sipush 10001, 3, 0), (18, .irem, 1, 0), (19, .istore 6, 2, 0), (21, .iload_n 3, 1, 0), (22, .sipush 10001, 3, 0), (25, .irem, 1, 0), (26, .istore 7, 2, 0), (28, .new 7, 3, 21), (31, .dup, 1, 0), (32, .iconst 3, 1, 0), (33, .invokespecial 9, 3, 1), (36, .astore 8, 2, 0), (38, .aload 8, 2, 0), (40, .iconst 0, 1, 0), (41, .iconst 1, 1, 0), (42, .iload 4, 2, 0), (44, .invokevirtual 12, 3, 5), (47, .ifCond .eq 5, 3, 0), (50, .iconst 0, 1, 0), (51, .ireturn, 1, 0), (52, .aload 8, 2, 0), (54, .iconst 1, 1, 0), (55, .iconst 0, 1, 0), (56, .iload 5, 2, 0), (58, .invokevirtual 12, 3, 5), (61, .ifCond .eq 5, 3, 0), (64, .iconst 0, 1, 0), (65, .ireturn, 1, 0), (66, .aload 8, 2, 0), (68, .iconst 1, 1, 0), (69, .iconst 2, 1, 0), (70, .iload 6, 2, 0), (72, .invokevirtual 12, 3, 5), (75, .ifCond .eq 5, 3, 0), (78, .iconst 0, 1, 0), (79, .ireturn, 1, 0), (80, .aload 8, 2, 0), (82, .iconst 2, 1, 0), (83, .iconst 0, 1, 0), (84, .iload 7, 2, 0), (86, .invokevirtual 12, 3, 5), (89, .ifCond .eq 5, 3, 0), (92, .iconst 0, 1, 0), (93, .ireturn, 1, 0), (94, .aload 8, 2, 0), (96, .invokevirtual 16, 3, 12), (99, .iconst 1, 1, 0), (100, .if_icmp .eq 5, 3, 0), (103, .iconst 0, 1, 0), (104, .ireturn, 1, 0), (105, .iload 4, 2, 0), (107, .i2l, 1, 0), (108, .iload 5, 2, 0), (110, .i2l, 1, 0), (111, .ladd, 1, 0), (112, .lstore 9, 2, 0), (114, .iload 4, 2, 0), (116, .i2l, 1, 0), (117, .iload 6, 2, 0), (119, .i2l, 1, 0), (120, .ladd, 1, 0), (121, .iload 7, 2, 0), (123, .i2l, 1, 0), (124, .ladd, 1, 0), (125, .lstore 11, 2, 0), (127, .ldc2_w 20, 3, 3), (130, .lload 9, 2, 0), (132, .lmul, 1, 0), (133, .ldc2_w 22, 3, 2), (136, .lload 11, 2, 0), (138, .lmul, 1, 0), (139, .lcmp, 1, 0), (140, .ifCond .le 7, 3, 0), (143, .iconst 1, 1, 0), (144, .goto 4, 3, 0), (147, .iconst 0, 1, 0), (148, .istore 13, 2, 0), (150, .iload 13, 2, 0), (152, .ifCond .eq 9, 3, 0), (155, .ldc2_w 20, 3, 3), (158, .goto 6, 3, 0), (161, .ldc2_w 22, 3, 2), (164, .lstore 14, 2, 0), (166, .iload 13, 2, 0), (168, .ifCond .eq 8, 3, 0), (171, .lload 11, 2, 0), (173, .goto 5, 3, 0), (176, .lload 9, 2, 0), (178, .lstore 16, 2, 0), (180, .lload 14, 2, 0), (182, .iload 4, 2, 0), (184, .i2l, 1, 0), (185, .lmul, 1, 0), (186, .lload 16, 2, 0), (188, .lsub, 1, 0), (189, .lstore 18, 2, 0), (191, .lload 14, 2, 0), (193, .iload 5, 2, 0), (195, .i2l, 1, 0), (196, .lmul, 1, 0), (197, .lload 16, 2, 0), (199, .lsub, 1, 0), (200, .lstore 20, 2, 0), (202, .lload 14, 2, 0), (204, .iload 6, 2, 0), (206, .i2l, 1, 0), (207, .lmul, 1, 0), (208, .lload 16, 2, 0), (210, .lsub, 1, 0), (211, .lstore 22, 2, 0), (213, .lload 14, 2, 0), (215, .iload 7, 2, 0), (217, .i2l, 1, 0), (218, .lmul, 1, 0), (219, .lload 16, 2, 0), (221, .lsub, 1, 0), (222, .lstore 24, 2, 0), (224, .lconst 0, 1, 0), (225, .lload 20, 2, 0), (227, .invokestatic 24, 3, 103), (230, .lload 24, 2, 0), (232, .lload 22, 2, 0), (234, .lload 24, 2, 0), (236, .ladd, 1, 0), (237, .invokestatic 24, 3, 103), (240, .invokestatic 24, 3, 103), (243, .lstore 26, 2, 0), (245, .lconst 0, 1, 0), (246, .lload 18, 2, 0), (248, .lload 24, 2, 0), (250, .lload 18, 2, 0), (252, .ladd, 1, 0), (253, .invokestatic 24, 3, 103), (256, .invokestatic 24, 3, 103), (259, .lstore 28, 2, 0), (261, .lconst 0, 1, 0), (262, .lload 22, 2, 0), (264, .lload 18, 2, 0), (266, .lload 22, 2, 0), (268, .ladd, 1, 0), (269, .invokestatic 24, 3, 103), (272, .invokestatic 24, 3, 103), (275, .lstore 30, 2, 0), (277, .aload 8, 2, 0), (279, .invokevirtual 30, 3, 24), (282, .i2l, 1, 0), (283, .lload 14, 2, 0), (285, .lcmp, 1, 0), (286, .ifCond .ne 14, 3, 0), (289, .aload 8, 2, 0), (291, .invokevirtual 33, 3, 25), (294, .lload 16, 2, 0), (296, .lcmp, 1, 0), (297, .ifCond .eq 5, 3, 0), (300, .iconst 0, 1, 0), (301, .ireturn, 1, 0), (302, .aload 8, 2, 0), (304, .iconst 0, 1, 0), (305, .invokevirtual 37, 3, 26), (308, .ifCond .ne 13, 3, 0), (311, .aload 8, 2, 0), (313, .iconst 1, 1, 0), (314, .invokevirtual 37, 3, 26), (317, .iconst 1, 1, 0), (318, .if_icmp .eq 5, 3, 0), (321, .iconst 0, 1, 0), (322, .ireturn, 1, 0), (323, .aload 8, 2, 0), (325, .iconst 2, 1, 0), (326, .invokevirtual 37, 3, 26), (329, .iload 13, 2, 0), (331, .ifCond .eq 7, 3, 0), (334, .iconst 2, 1, 0), (335, .goto 4, 3, 0), (338, .iconst (-1), 1, 0), (339, .if_icmp .eq 5, 3, 0), (342, .iconst 0, 1, 0), (343, .ireturn, 1, 0), (344, .aload 8, 2, 0), (346, .iconst 0, 1, 0), (347, .invokevirtual 41, 3, 27), (350, .ifCond .eq 12, 3, 0), (353, .aload 8, 2, 0), (355, .iconst 1, 1, 0), (356, .invokevirtual 41, 3, 27), (359, .ifCond .ne 5, 3, 0), (362, .iconst 0, 1, 0), (363, .ireturn, 1, 0), (364, .aload 8, 2, 0), (366, .iconst 2, 1, 0), (367, .invokevirtual 41, 3, 27), (370, .ldc2_w 20, 3, 3), (373, .lload 9, 2, 0), (375, .lmul, 1, 0), (376, .ldc2_w 22, 3, 2), (379, .lload 11, 2, 0), (381, .lmul, 1, 0), (382, .lcmp, 1, 0), (383, .ifCond .lt 7, 3, 0), (386, .iconst 1, 1, 0), (387, .goto 4, 3, 0), (390, .iconst 0, 1, 0), (391, .if_icmp .eq 5, 3, 0), (394, .iconst 0, 1, 0), (395, .ireturn, 1, 0), (396, .aload 8, 2, 0), (398, .iconst 0, 1, 0), (399, .invokevirtual 45, 3, 28), (402, .lload 26, 2, 0), (404, .lcmp, 1, 0), (405, .ifCond .ne 27, 3, 0), (408, .aload 8, 2, 0), (410, .iconst 1, 1, 0), (411, .invokevirtual 45, 3, 28), (414, .lload 28, 2, 0), (416, .lcmp, 1, 0), (417, .ifCond .ne 15, 3, 0), (420, .aload 8, 2, 0), (422, .iconst 2, 1, 0), (423, .invokevirtual 45, 3, 28), (426, .lload 30, 2, 0), (428, .lcmp, 1, 0), (429, .ifCond .eq 5, 3, 0), (432, .iconst 0, 1, 0), (433, .ireturn, 1, 0), (434, .aload 8, 2, 0), (436, .iconst 0, 1, 0), (437, .iconst 1, 1, 0), (438, .invokevirtual 49, 3, 29), (441, .lload 18, 2, 0), (443, .lload 26, 2, 0), (445, .ladd, 1, 0), (446, .lload 28, 2, 0), (448, .lsub, 1, 0), (449, .lcmp, 1, 0), (450, .ifCond .eq 5, 3, 0), (453, .iconst 0, 1, 0), (454, .ireturn, 1, 0), (455, .aload 8, 2, 0), (457, .iconst 1, 1, 0), (458, .iconst 0, 1, 0), (459, .invokevirtual 49, 3, 29), (462, .lload 20, 2, 0), (464, .lload 28, 2, 0), (466, .ladd, 1, 0), (467, .lload 26, 2, 0), (469, .lsub, 1, 0), (470, .lcmp, 1, 0), (471, .ifCond .eq 5, 3, 0), (474, .iconst 0, 1, 0), (475, .ireturn, 1, 0), (476, .aload 8, 2, 0), (478, .iconst 1, 1, 0), (479, .iconst 2, 1, 0), (480, .invokevirtual 49, 3, 29), (483, .lload 22, 2, 0), (485, .lload 28, 2, 0), (487, .ladd, 1, 0), (488, .lload 30, 2, 0), (490, .lsub, 1, 0), (491, .lcmp, 1, 0), (492, .ifCond .eq 5, 3, 0), (495, .iconst 0, 1, 0), (496, .ireturn, 1, 0), (497, .aload 8, 2, 0), (499, .iconst 2, 1, 0), (500, .iconst 0, 1, 0), (501, .invokevirtual 49, 3, 29), (504, .lload 24, 2, 0), (506, .lload 30, 2, 0), (508, .ladd, 1, 0), (509, .lload 26, 2, 0), (511, .lsub, 1, 0), (512, .lcmp, 1, 0), (513, .ifCond .eq 5, 3, 0), (516, .iconst 0, 1, 0), (517, .ireturn, 1, 0), (518, .aload 8, 2, 0), (520, .iconst 0, 1, 0), (521, .iconst 2, 1, 0), (522, .invokevirtual 49, 3, 29), (525, .ldc2_w 53, 3, (-1)), (528, .lcmp, 1, 0), (529, .ifCond .ne 7, 3, 0), (532, .iconst 1, 1, 0), (533, .goto 4, 3, 0), (536, .iconst 0, 1, 0), (537, .ireturn, 1, 0)]
def lr3 : List Row := [(0, .lload_n 0, 1, 0), (1, .lload_n 2, 1, 0), (2, .lcmp, 1, 0), (3, .ifCond .ge 7, 3, 0), (6, .lload_n 0, 1, 0), (7, .goto 4, 3, 0), (10, .lload_n 2, 1, 0), (11, .lreturn, 1, 0)]
def lrows : List (List Row) := [lr0, [], [], lr3]
def linfo : List MInfo := [(4, 32, 9, some .boolean, { frames := 6, cells := 32, slots := 5056, locals := 160 }), (0, 0, 9, none, {}), (0, 0, 9, none, {}), (2, 4, 0, some .long, { frames := 0, cells := 0, slots := 0, locals := 0 })]
def lw : LW := (fun j pc => (lrows.getD j []).lookup pc, fun j => linfo.getD j (0, 0, 9, none, {}))
section LPc
variable {L : List Slot} {S : List Value} {k n : Nat} {H : AH} {Q : Option Value → AH → Prop}
theorem c100 {x0 : Int32} {x1 : Int32} {x2 : Int32} {x3 : Int32} : Cl (pj lw) 100 [.int x0, .int x1, .int x2, .int x3] H Q ↔ W (pj lw) 100 0 [.val (.int x0), .val (.int x1), .val (.int x2), .val (.int x3), .unset, .unset, .unset, .unset, .unset, .unset, .unset, .unset, .unset, .unset, .unset, .unset, .unset, .unset, .unset, .unset, .unset, .unset, .unset, .unset, .unset, .unset, .unset, .unset, .unset, .unset, .unset, .unset] [] 0 0 H Q := cl_unf rfl
theorem w100_0 {x : Int32} : W (pj lw) 100 0 (.val (.int x) :: L) S k n H Q ↔ W (pj lw) 100 1 (.val (.int x) :: L) (.int x :: S) k n H Q := W_s (rfl : (pj lw).1 100 0 = some (.iload_n 0, 1, 0)) rfl rfl rfl
theorem w100_1 : W (pj lw) 100 1 L S k n H Q ↔ W (pj lw) 100 4 L (.int 10001 :: S) k n H Q := W_s (rfl : (pj lw).1 100 1 = some (.sipush 10001, 3, 0)) rfl rfl rfl
theorem w100_4 {x y : Int32} : W (pj lw) 100 4 L (.int y :: .int x :: S) k n H Q ↔ (¬ y = 0 ∧ W (pj lw) 100 5 L (.int (x % y) :: S) k n H Q) := W_irem (rfl : (pj lw).1 100 4 = some (.irem, 1, 0))
theorem w100_5 {x : Int32} {l0 l1 l2 l3 : Slot} : W (pj lw) 100 5 (l0 :: l1 :: l2 :: l3 :: .unset :: L) (.int x :: S) k n H Q ↔ W (pj lw) 100 7 (l0 :: l1 :: l2 :: l3 :: .val (.int x) :: L) S k n H Q := W_ist (rfl : (pj lw).1 100 5 = some (.istore 4, 2, 0)) rfl rfl
theorem w100_7 {x : Int32} {l0 : Slot} : W (pj lw) 100 7 (l0 :: .val (.int x) :: L) S k n H Q ↔ W (pj lw) 100 8 (l0 :: .val (.int x) :: L) (.int x :: S) k n H Q := W_s (rfl : (pj lw).1 100 7 = some (.iload_n 1, 1, 0)) rfl rfl rfl
theorem w100_8 : W (pj lw) 100 8 L S k n H Q ↔ W (pj lw) 100 11 L (.int 10001 :: S) k n H Q := W_s (rfl : (pj lw).1 100 8 = some (.sipush 10001, 3, 0)) rfl rfl rfl
theorem w100_11 {x y : Int32} : W (pj lw) 100 11 L (.int y :: .int x :: S) k n H Q ↔ (¬ y = 0 ∧ W (pj lw) 100 12 L (.int (x % y) :: S) k n H Q) := W_irem (rfl : (pj lw).1 100 11 = some (.irem, 1, 0))
theorem w100_12 {x : Int32} {l0 l1 l2 l3 l4 : Slot} : W (pj lw) 100 12 (l0 :: l1 :: l2 :: l3 :: l4 :: .unset :: L) (.int x :: S) k n H Q ↔ W (pj lw) 100 14 (l0 :: l1 :: l2 :: l3 :: l4 :: .val (.int x) :: L) S k n H Q := W_ist (rfl : (pj lw).1 100 12 = some (.istore 5, 2, 0)) rfl rfl
theorem w100_14 {x : Int32} {l0 l1 : Slot} : W (pj lw) 100 14 (l0 :: l1 :: .val (.int x) :: L) S k n H Q ↔ W (pj lw) 100 15 (l0 :: l1 :: .val (.int x) :: L) (.int x :: S) k n H Q := W_s (rfl : (pj lw).1 100 14 = some (.iload_n 2, 1, 0)) rfl rfl rfl
theorem w100_15 : W (pj lw) 100 15 L S k n H Q ↔ W (pj lw) 100 18 L (.int 10001 :: S) k n H Q := W_s (rfl : (pj lw).1 100 15 = some (.sipush 10001, 3, 0)) rfl rfl rfl
theorem w100_18 {x y : Int32} : W (pj lw) 100 18 L (.int y :: .int x :: S) k n H Q ↔ (¬ y = 0 ∧ W (pj lw) 100 19 L (.int (x % y) :: S) k n H Q) := W_irem (rfl : (pj lw).1 100 18 = some (.irem, 1, 0))
theorem w100_19 {x : Int32} {l0 l1 l2 l3 l4 l5 : Slot} : W (pj lw) 100 19 (l0 :: l1 :: l2 :: l3 :: l4 :: l5 :: .unset :: L) (.int x :: S) k n H Q ↔ W (pj lw) 100 21 (l0 :: l1 :: l2 :: l3 :: l4 :: l5 :: .val (.int x) :: L) S k n H Q := W_ist (rfl : (pj lw).1 100 19 = some (.istore 6, 2, 0)) rfl rfl
theorem w100_21 {x : Int32} {l0 l1 l2 : Slot} : W (pj lw) 100 21 (l0 :: l1 :: l2 :: .val (.int x) :: L) S k n H Q ↔ W (pj lw) 100 22 (l0 :: l1 :: l2 :: .val (.int x) :: L) (.int x :: S) k n H Q := W_s (rfl : (pj lw).1 100 21 = some (.iload_n 3, 1, 0)) rfl rfl rfl
theorem w100_22 : W (pj lw) 100 22 L S k n H Q ↔ W (pj lw) 100 25 L (.int 10001 :: S) k n H Q := W_s (rfl : (pj lw).1 100 22 = some (.sipush 10001, 3, 0)) rfl rfl rfl
theorem w100_25 {x y : Int32} : W (pj lw) 100 25 L (.int y :: .int x :: S) k n H Q ↔ (¬ y = 0 ∧ W (pj lw) 100 26 L (.int (x % y) :: S) k n H Q) := W_irem (rfl : (pj lw).1 100 25 = some (.irem, 1, 0))
theorem w100_26 {x : Int32} {l0 l1 l2 l3 l4 l5 l6 : Slot} : W (pj lw) 100 26 (l0 :: l1 :: l2 :: l3 :: l4 :: l5 :: l6 :: .unset :: L) (.int x :: S) k n H Q ↔ W (pj lw) 100 28 (l0 :: l1 :: l2 :: l3 :: l4 :: l5 :: l6 :: .val (.int x) :: L) S k n H Q := W_ist (rfl : (pj lw).1 100 26 = some (.istore 7, 2, 0)) rfl rfl
theorem w100_28 : W (pj lw) 100 28 L S k n H Q ↔ ((k + 1 ≤ 32 ∧ n + 21 ≤ 5056) ∧ W (pj lw) 100 31 L (.ref H.1 :: S) (k + 1) (n + 21) (mkO (pj lw) H) Q) := W_new' (rfl : (pj lw).1 100 28 = some (.new 7, 3, 21)) (by decide)
theorem w100_31 {x : Nat} : W (pj lw) 100 31 L (.ref x :: S) k n H Q ↔ W (pj lw) 100 32 L (.ref x :: .ref x :: S) k n H Q := W_s (rfl : (pj lw).1 100 31 = some (.dup, 1, 0)) rfl rfl rfl
theorem w100_32 : W (pj lw) 100 32 L S k n H Q ↔ W (pj lw) 100 33 L (.int 3 :: S) k n H Q := W_s (rfl : (pj lw).1 100 32 = some (.iconst 3, 1, 0)) rfl rfl rfl
theorem w100_33 {a : Nat} {x0 : Int32} : W (pj lw) 100 33 L (.int x0 :: .ref a :: S) k n H Q ↔ ((isO H a = true ∧ cs S + (3 + 11) + 12 ≤ 160 ∧ k + 10 ≤ 32 ∧ n + 2472 ≤ 5056) ∧ Cl (pj lw) 1 [.ref a, .int x0] H (fun v H => W (pj lw) 100 36 L (v.toList ++ S) (k + 10) (n + 2472) H Q)) := W_init (as := [.int x0]) (rfl : (pj lw).1 100 33 = some (.invokespecial 9, 3, 1)) rfl rfl rfl (Nat.le_of_ble_eq_true rfl) (Nat.le_of_ble_eq_true rfl) (fun h => absurd (show (10 : Nat) = 0 from h.1) (by decide))
theorem w100_36 {x : Nat} {l0 l1 l2 l3 l4 l5 l6 l7 : Slot} : W (pj lw) 100 36 (l0 :: l1 :: l2 :: l3 :: l4 :: l5 :: l6 :: l7 :: .unset :: L) (.ref x :: S) k n H Q ↔ W (pj lw) 100 38 (l0 :: l1 :: l2 :: l3 :: l4 :: l5 :: l6 :: l7 :: .val (.ref x) :: L) S k n H Q := W_ast (rfl : (pj lw).1 100 36 = some (.astore 8, 2, 0)) rfl rfl
theorem w100_38 {x : Nat} {l0 l1 l2 l3 l4 l5 l6 l7 : Slot} : W (pj lw) 100 38 (l0 :: l1 :: l2 :: l3 :: l4 :: l5 :: l6 :: l7 :: .val (.ref x) :: L) S k n H Q ↔ W (pj lw) 100 40 (l0 :: l1 :: l2 :: l3 :: l4 :: l5 :: l6 :: l7 :: .val (.ref x) :: L) (.ref x :: S) k n H Q := W_s (rfl : (pj lw).1 100 38 = some (.aload 8, 2, 0)) rfl rfl rfl
theorem w100_40 : W (pj lw) 100 40 L S k n H Q ↔ W (pj lw) 100 41 L (.int 0 :: S) k n H Q := W_s (rfl : (pj lw).1 100 40 = some (.iconst 0, 1, 0)) rfl rfl rfl
theorem w100_41 : W (pj lw) 100 41 L S k n H Q ↔ W (pj lw) 100 42 L (.int 1 :: S) k n H Q := W_s (rfl : (pj lw).1 100 41 = some (.iconst 1, 1, 0)) rfl rfl rfl
theorem w100_42 {x : Int32} {l0 l1 l2 l3 : Slot} : W (pj lw) 100 42 (l0 :: l1 :: l2 :: l3 :: .val (.int x) :: L) S k n H Q ↔ W (pj lw) 100 44 (l0 :: l1 :: l2 :: l3 :: .val (.int x) :: L) (.int x :: S) k n H Q := W_s (rfl : (pj lw).1 100 42 = some (.iload 4, 2, 0)) rfl rfl rfl
theorem w100_44 {a : Nat} {x0 : Int32} {x1 : Int32} {x2 : Int32} : W (pj lw) 100 44 L (.int x2 :: .int x1 :: .int x0 :: .ref a :: S) k n H Q ↔ ((isO H a = true ∧ cs S + (5 + 11) + 13 ≤ 160) ∧ Cl (pj lw) 5 [.ref a, .int x0, .int x1, .int x2] H (fun v H => W (pj lw) 100 47 L (v.toList ++ S) k n H Q)) := W_inst (as := [.int x0, .int x1, .int x2]) (rfl : (pj lw).1 100 44 = some (.invokevirtual 12, 3, 5)) rfl rfl rfl (Nat.le_of_ble_eq_true rfl) (Nat.le_of_ble_eq_true rfl) ⟨rfl, rfl⟩
theorem w100_47 {x : Int32} : W (pj lw) 100 47 L (.int x :: S) k n H Q ↔ (if x = 0 then W (pj lw) 100 52 L S k n H Q else W (pj lw) 100 50 L S k n H Q) := W_if_eq (rfl : (pj lw).1 100 47 = some (.ifCond .eq 5, 3, 0)) rfl
theorem w100_52 {x : Nat} {l0 l1 l2 l3 l4 l5 l6 l7 : Slot} : W (pj lw) 100 52 (l0 :: l1 :: l2 :: l3 :: l4 :: l5 :: l6 :: l7 :: .val (.ref x) :: L) S k n H Q ↔ W (pj lw) 100 54 (l0 :: l1 :: l2 :: l3 :: l4 :: l5 :: l6 :: l7 :: .val (.ref x) :: L) (.ref x :: S) k n H Q := W_s (rfl : (pj lw).1 100 52 = some (.aload 8, 2, 0)) rfl rfl rfl
theorem w100_54 : W (pj lw) 100 54 L S k n H Q ↔ W (pj lw) 100 55 L (.int 1 :: S) k n H Q := W_s (rfl : (pj lw).1 100 54 = some (.iconst 1, 1, 0)) rfl rfl rfl
theorem w100_55 : W (pj lw) 100 55 L S k n H Q ↔ W (pj lw) 100 56 L (.int 0 :: S) k n H Q := W_s (rfl : (pj lw).1 100 55 = some (.iconst 0, 1, 0)) rfl rfl rfl
theorem w100_56 {x : Int32} {l0 l1 l2 l3 l4 : Slot} : W (pj lw) 100 56 (l0 :: l1 :: l2 :: l3 :: l4 :: .val (.int x) :: L) S k n H Q ↔ W (pj lw) 100 58 (l0 :: l1 :: l2 :: l3 :: l4 :: .val (.int x) :: L) (.int x :: S) k n H Q := W_s (rfl : (pj lw).1 100 56 = some (.iload 5, 2, 0)) rfl rfl rfl
theorem w100_58 {a : Nat} {x0 : Int32} {x1 : Int32} {x2 : Int32} : W (pj lw) 100 58 L (.int x2 :: .int x1 :: .int x0 :: .ref a :: S) k n H Q ↔ ((isO H a = true ∧ cs S + (5 + 11) + 13 ≤ 160) ∧ Cl (pj lw) 5 [.ref a, .int x0, .int x1, .int x2] H (fun v H => W (pj lw) 100 61 L (v.toList ++ S) k n H Q)) := W_inst (as := [.int x0, .int x1, .int x2]) (rfl : (pj lw).1 100 58 = some (.invokevirtual 12, 3, 5)) rfl rfl rfl (Nat.le_of_ble_eq_true rfl) (Nat.le_of_ble_eq_true rfl) ⟨rfl, rfl⟩
theorem w100_61 {x : Int32} : W (pj lw) 100 61 L (.int x :: S) k n H Q ↔ (if x = 0 then W (pj lw) 100 66 L S k n H Q else W (pj lw) 100 64 L S k n H Q) := W_if_eq (rfl : (pj lw).1 100 61 = some (.ifCond .eq 5, 3, 0)) rfl
theorem w100_66 {x : Nat} {l0 l1 l2 l3 l4 l5 l6 l7 : Slot} : W (pj lw) 100 66 (l0 :: l1 :: l2 :: l3 :: l4 :: l5 :: l6 :: l7 :: .val (.ref x) :: L) S k n H Q ↔ W (pj lw) 100 68 (l0 :: l1 :: l2 :: l3 :: l4 :: l5 :: l6 :: l7 :: .val (.ref x) :: L) (.ref x :: S) k n H Q := W_s (rfl : (pj lw).1 100 66 = some (.aload 8, 2, 0)) rfl rfl rfl
theorem w100_68 : W (pj lw) 100 68 L S k n H Q ↔ W (pj lw) 100 69 L (.int 1 :: S) k n H Q := W_s (rfl : (pj lw).1 100 68 = some (.iconst 1, 1, 0)) rfl rfl rfl
theorem w100_69 : W (pj lw) 100 69 L S k n H Q ↔ W (pj lw) 100 70 L (.int 2 :: S) k n H Q := W_s (rfl : (pj lw).1 100 69 = some (.iconst 2, 1, 0)) rfl rfl rfl
theorem w100_70 {x : Int32} {l0 l1 l2 l3 l4 l5 : Slot} : W (pj lw) 100 70 (l0 :: l1 :: l2 :: l3 :: l4 :: l5 :: .val (.int x) :: L) S k n H Q ↔ W (pj lw) 100 72 (l0 :: l1 :: l2 :: l3 :: l4 :: l5 :: .val (.int x) :: L) (.int x :: S) k n H Q := W_s (rfl : (pj lw).1 100 70 = some (.iload 6, 2, 0)) rfl rfl rfl
theorem w100_72 {a : Nat} {x0 : Int32} {x1 : Int32} {x2 : Int32} : W (pj lw) 100 72 L (.int x2 :: .int x1 :: .int x0 :: .ref a :: S) k n H Q ↔ ((isO H a = true ∧ cs S + (5 + 11) + 13 ≤ 160) ∧ Cl (pj lw) 5 [.ref a, .int x0, .int x1, .int x2] H (fun v H => W (pj lw) 100 75 L (v.toList ++ S) k n H Q)) := W_inst (as := [.int x0, .int x1, .int x2]) (rfl : (pj lw).1 100 72 = some (.invokevirtual 12, 3, 5)) rfl rfl rfl (Nat.le_of_ble_eq_true rfl) (Nat.le_of_ble_eq_true rfl) ⟨rfl, rfl⟩
theorem w100_75 {x : Int32} : W (pj lw) 100 75 L (.int x :: S) k n H Q ↔ (if x = 0 then W (pj lw) 100 80 L S k n H Q else W (pj lw) 100 78 L S k n H Q) := W_if_eq (rfl : (pj lw).1 100 75 = some (.ifCond .eq 5, 3, 0)) rfl
theorem w100_80 {x : Nat} {l0 l1 l2 l3 l4 l5 l6 l7 : Slot} : W (pj lw) 100 80 (l0 :: l1 :: l2 :: l3 :: l4 :: l5 :: l6 :: l7 :: .val (.ref x) :: L) S k n H Q ↔ W (pj lw) 100 82 (l0 :: l1 :: l2 :: l3 :: l4 :: l5 :: l6 :: l7 :: .val (.ref x) :: L) (.ref x :: S) k n H Q := W_s (rfl : (pj lw).1 100 80 = some (.aload 8, 2, 0)) rfl rfl rfl
theorem w100_82 : W (pj lw) 100 82 L S k n H Q ↔ W (pj lw) 100 83 L (.int 2 :: S) k n H Q := W_s (rfl : (pj lw).1 100 82 = some (.iconst 2, 1, 0)) rfl rfl rfl
theorem w100_83 : W (pj lw) 100 83 L S k n H Q ↔ W (pj lw) 100 84 L (.int 0 :: S) k n H Q := W_s (rfl : (pj lw).1 100 83 = some (.iconst 0, 1, 0)) rfl rfl rfl
theorem w100_84 {x : Int32} {l0 l1 l2 l3 l4 l5 l6 : Slot} : W (pj lw) 100 84 (l0 :: l1 :: l2 :: l3 :: l4 :: l5 :: l6 :: .val (.int x) :: L) S k n H Q ↔ W (pj lw) 100 86 (l0 :: l1 :: l2 :: l3 :: l4 :: l5 :: l6 :: .val (.int x) :: L) (.int x :: S) k n H Q := W_s (rfl : (pj lw).1 100 84 = some (.iload 7, 2, 0)) rfl rfl rfl
theorem w100_86 {a : Nat} {x0 : Int32} {x1 : Int32} {x2 : Int32} : W (pj lw) 100 86 L (.int x2 :: .int x1 :: .int x0 :: .ref a :: S) k n H Q ↔ ((isO H a = true ∧ cs S + (5 + 11) + 13 ≤ 160) ∧ Cl (pj lw) 5 [.ref a, .int x0, .int x1, .int x2] H (fun v H => W (pj lw) 100 89 L (v.toList ++ S) k n H Q)) := W_inst (as := [.int x0, .int x1, .int x2]) (rfl : (pj lw).1 100 86 = some (.invokevirtual 12, 3, 5)) rfl rfl rfl (Nat.le_of_ble_eq_true rfl) (Nat.le_of_ble_eq_true rfl) ⟨rfl, rfl⟩
theorem w100_89 {x : Int32} : W (pj lw) 100 89 L (.int x :: S) k n H Q ↔ (if x = 0 then W (pj lw) 100 94 L S k n H Q else W (pj lw) 100 92 L S k n H Q) := W_if_eq (rfl : (pj lw).1 100 89 = some (.ifCond .eq 5, 3, 0)) rfl
theorem w100_94 {x : Nat} {l0 l1 l2 l3 l4 l5 l6 l7 : Slot} : W (pj lw) 100 94 (l0 :: l1 :: l2 :: l3 :: l4 :: l5 :: l6 :: l7 :: .val (.ref x) :: L) S k n H Q ↔ W (pj lw) 100 96 (l0 :: l1 :: l2 :: l3 :: l4 :: l5 :: l6 :: l7 :: .val (.ref x) :: L) (.ref x :: S) k n H Q := W_s (rfl : (pj lw).1 100 94 = some (.aload 8, 2, 0)) rfl rfl rfl
theorem w100_96 {a : Nat} : W (pj lw) 100 96 L (.ref a :: S) k n H Q ↔ ((isO H a = true ∧ cs S + (3 + 11) + 37 ≤ 160) ∧ Cl (pj lw) 12 [.ref a] H (fun v H => W (pj lw) 100 99 L (v.toList ++ S) k n H Q)) := W_inst (as := []) (rfl : (pj lw).1 100 96 = some (.invokevirtual 16, 3, 12)) rfl rfl rfl (Nat.le_of_ble_eq_true rfl) (Nat.le_of_ble_eq_true rfl) ⟨rfl, rfl⟩
theorem w100_99 : W (pj lw) 100 99 L S k n H Q ↔ W (pj lw) 100 100 L (.int 1 :: S) k n H Q := W_s (rfl : (pj lw).1 100 99 = some (.iconst 1, 1, 0)) rfl rfl rfl
theorem w100_100 {x y : Int32} : W (pj lw) 100 100 L (.int y :: .int x :: S) k n H Q ↔ (if x = y then W (pj lw) 100 105 L S k n H Q else W (pj lw) 100 103 L S k n H Q) := W_icmp_eq (rfl : (pj lw).1 100 100 = some (.if_icmp .eq 5, 3, 0)) rfl
theorem w100_105 {x : Int32} {l0 l1 l2 l3 : Slot} : W (pj lw) 100 105 (l0 :: l1 :: l2 :: l3 :: .val (.int x) :: L) S k n H Q ↔ W (pj lw) 100 107 (l0 :: l1 :: l2 :: l3 :: .val (.int x) :: L) (.int x :: S) k n H Q := W_s (rfl : (pj lw).1 100 105 = some (.iload 4, 2, 0)) rfl rfl rfl
theorem w100_107 {x : Int32} : W (pj lw) 100 107 L (.int x :: S) k n H Q ↔ W (pj lw) 100 108 L (.long x.toInt64 :: S) k n H Q := W_s (rfl : (pj lw).1 100 107 = some (.i2l, 1, 0)) rfl rfl rfl
theorem w100_108 {x : Int32} {l0 l1 l2 l3 l4 : Slot} : W (pj lw) 100 108 (l0 :: l1 :: l2 :: l3 :: l4 :: .val (.int x) :: L) S k n H Q ↔ W (pj lw) 100 110 (l0 :: l1 :: l2 :: l3 :: l4 :: .val (.int x) :: L) (.int x :: S) k n H Q := W_s (rfl : (pj lw).1 100 108 = some (.iload 5, 2, 0)) rfl rfl rfl
theorem w100_110 {x : Int32} : W (pj lw) 100 110 L (.int x :: S) k n H Q ↔ W (pj lw) 100 111 L (.long x.toInt64 :: S) k n H Q := W_s (rfl : (pj lw).1 100 110 = some (.i2l, 1, 0)) rfl rfl rfl
theorem w100_111 {x y : Int64} : W (pj lw) 100 111 L (.long y :: .long x :: S) k n H Q ↔ W (pj lw) 100 112 L (.long (x + y) :: S) k n H Q := W_s (rfl : (pj lw).1 100 111 = some (.ladd, 1, 0)) rfl rfl rfl
theorem w100_112uu {x : Int64} {l0 l1 l2 l3 l4 l5 l6 l7 l8 : Slot} : W (pj lw) 100 112 (l0 :: l1 :: l2 :: l3 :: l4 :: l5 :: l6 :: l7 :: l8 :: .unset :: .unset :: L) (.long x :: S) k n H Q ↔ W (pj lw) 100 114 (l0 :: l1 :: l2 :: l3 :: l4 :: l5 :: l6 :: l7 :: l8 :: .val (.long x) :: .second :: L) S k n H Q := W_lst (rfl : (pj lw).1 100 112 = some (.lstore 9, 2, 0)) rfl rfl rfl rfl
theorem w100_114 {x : Int32} {l0 l1 l2 l3 : Slot} : W (pj lw) 100 114 (l0 :: l1 :: l2 :: l3 :: .val (.int x) :: L) S k n H Q ↔ W (pj lw) 100 116 (l0 :: l1 :: l2 :: l3 :: .val (.int x) :: L) (.int x :: S) k n H Q := W_s (rfl : (pj lw).1 100 114 = some (.iload 4, 2, 0)) rfl rfl rfl
theorem w100_116 {x : Int32} : W (pj lw) 100 116 L (.int x :: S) k n H Q ↔ W (pj lw) 100 117 L (.long x.toInt64 :: S) k n H Q := W_s (rfl : (pj lw).1 100 116 = some (.i2l, 1, 0)) rfl rfl rfl
theorem w100_117 {x : Int32} {l0 l1 l2 l3 l4 l5 : Slot} : W (pj lw) 100 117 (l0 :: l1 :: l2 :: l3 :: l4 :: l5 :: .val (.int x) :: L) S k n H Q ↔ W (pj lw) 100 119 (l0 :: l1 :: l2 :: l3 :: l4 :: l5 :: .val (.int x) :: L) (.int x :: S) k n H Q := W_s (rfl : (pj lw).1 100 117 = some (.iload 6, 2, 0)) rfl rfl rfl
theorem w100_119 {x : Int32} : W (pj lw) 100 119 L (.int x :: S) k n H Q ↔ W (pj lw) 100 120 L (.long x.toInt64 :: S) k n H Q := W_s (rfl : (pj lw).1 100 119 = some (.i2l, 1, 0)) rfl rfl rfl
theorem w100_120 {x y : Int64} : W (pj lw) 100 120 L (.long y :: .long x :: S) k n H Q ↔ W (pj lw) 100 121 L (.long (x + y) :: S) k n H Q := W_s (rfl : (pj lw).1 100 120 = some (.ladd, 1, 0)) rfl rfl rfl
theorem w100_121 {x : Int32} {l0 l1 l2 l3 l4 l5 l6 : Slot} : W (pj lw) 100 121 (l0 :: l1 :: l2 :: l3 :: l4 :: l5 :: l6 :: .val (.int x) :: L) S k n H Q ↔ W (pj lw) 100 123 (l0 :: l1 :: l2 :: l3 :: l4 :: l5 :: l6 :: .val (.int x) :: L) (.int x :: S) k n H Q := W_s (rfl : (pj lw).1 100 121 = some (.iload 7, 2, 0)) rfl rfl rfl
theorem w100_123 {x : Int32} : W (pj lw) 100 123 L (.int x :: S) k n H Q ↔ W (pj lw) 100 124 L (.long x.toInt64 :: S) k n H Q := W_s (rfl : (pj lw).1 100 123 = some (.i2l, 1, 0)) rfl rfl rfl
theorem w100_124 {x y : Int64} : W (pj lw) 100 124 L (.long y :: .long x :: S) k n H Q ↔ W (pj lw) 100 125 L (.long (x + y) :: S) k n H Q := W_s (rfl : (pj lw).1 100 124 = some (.ladd, 1, 0)) rfl rfl rfl
theorem w100_125uu {x : Int64} {l0 l1 l2 l3 l4 l5 l6 l7 l8 l9 l10 : Slot} : W (pj lw) 100 125 (l0 :: l1 :: l2 :: l3 :: l4 :: l5 :: l6 :: l7 :: l8 :: l9 :: l10 :: .unset :: .unset :: L) (.long x :: S) k n H Q ↔ W (pj lw) 100 127 (l0 :: l1 :: l2 :: l3 :: l4 :: l5 :: l6 :: l7 :: l8 :: l9 :: l10 :: .val (.long x) :: .second :: L) S k n H Q := W_lst (rfl : (pj lw).1 100 125 = some (.lstore 11, 2, 0)) rfl rfl rfl rfl
theorem w100_127 : W (pj lw) 100 127 L S k n H Q ↔ W (pj lw) 100 130 L (.long 3 :: S) k n H Q := W_s (rfl : (pj lw).1 100 127 = some (.ldc2_w 20, 3, 3)) rfl rfl rfl
theorem w100_130 {x : Int64} {l0 l1 l2 l3 l4 l5 l6 l7 l8 : Slot} : W (pj lw) 100 130 (l0 :: l1 :: l2 :: l3 :: l4 :: l5 :: l6 :: l7 :: l8 :: .val (.long x) :: L) S k n H Q ↔ W (pj lw) 100 132 (l0 :: l1 :: l2 :: l3 :: l4 :: l5 :: l6 :: l7 :: l8 :: .val (.long x) :: L) (.long x :: S) k n H Q := W_s (rfl : (pj lw).1 100 130 = some (.lload 9, 2, 0)) rfl rfl rfl
theorem w100_132 {x y : Int64} : W (pj lw) 100 132 L (.long y :: .long x :: S) k n H Q ↔ W (pj lw) 100 133 L (.long (x * y) :: S) k n H Q := W_s (rfl : (pj lw).1 100 132 = some (.lmul, 1, 0)) rfl rfl rfl
theorem w100_133 : W (pj lw) 100 133 L S k n H Q ↔ W (pj lw) 100 136 L (.long 2 :: S) k n H Q := W_s (rfl : (pj lw).1 100 133 = some (.ldc2_w 22, 3, 2)) rfl rfl rfl
theorem w100_136 {x : Int64} {l0 l1 l2 l3 l4 l5 l6 l7 l8 l9 l10 : Slot} : W (pj lw) 100 136 (l0 :: l1 :: l2 :: l3 :: l4 :: l5 :: l6 :: l7 :: l8 :: l9 :: l10 :: .val (.long x) :: L) S k n H Q ↔ W (pj lw) 100 138 (l0 :: l1 :: l2 :: l3 :: l4 :: l5 :: l6 :: l7 :: l8 :: l9 :: l10 :: .val (.long x) :: L) (.long x :: S) k n H Q := W_s (rfl : (pj lw).1 100 136 = some (.lload 11, 2, 0)) rfl rfl rfl
theorem w100_138 {x y : Int64} : W (pj lw) 100 138 L (.long y :: .long x :: S) k n H Q ↔ W (pj lw) 100 139 L (.long (x * y) :: S) k n H Q := W_s (rfl : (pj lw).1 100 138 = some (.lmul, 1, 0)) rfl rfl rfl
theorem w100_139 {x y : Int64} : W (pj lw) 100 139 L (.long y :: .long x :: S) k n H Q ↔ W (pj lw) 100 140 L (.int (Jvm.Free.XT.cmpL x y) :: S) k n H Q := W_s (rfl : (pj lw).1 100 139 = some (.lcmp, 1, 0)) rfl rfl rfl
theorem w100_140 {x : Int32} : W (pj lw) 100 140 L (.int x :: S) k n H Q ↔ (if 0 < x then W (pj lw) 100 143 L S k n H Q else W (pj lw) 100 147 L S k n H Q) := W_if_le (rfl : (pj lw).1 100 140 = some (.ifCond .le 7, 3, 0)) rfl
theorem w100_143 : W (pj lw) 100 143 L S k n H Q ↔ W (pj lw) 100 144 L (.int 1 :: S) k n H Q := W_s (rfl : (pj lw).1 100 143 = some (.iconst 1, 1, 0)) rfl rfl rfl
theorem w100_144 : W (pj lw) 100 144 L S k n H Q ↔ W (pj lw) 100 148 L S k n H Q := W_goto (rfl : (pj lw).1 100 144 = some (.goto 4, 3, 0)) rfl
theorem w100_147 : W (pj lw) 100 147 L S k n H Q ↔ W (pj lw) 100 148 L (.int 0 :: S) k n H Q := W_s (rfl : (pj lw).1 100 147 = some (.iconst 0, 1, 0)) rfl rfl rfl
theorem w100_148 {x : Int32} {l0 l1 l2 l3 l4 l5 l6 l7 l8 l9 l10 l11 l12 : Slot} : W (pj lw) 100 148 (l0 :: l1 :: l2 :: l3 :: l4 :: l5 :: l6 :: l7 :: l8 :: l9 :: l10 :: l11 :: l12 :: .unset :: L) (.int x :: S) k n H Q ↔ W (pj lw) 100 150 (l0 :: l1 :: l2 :: l3 :: l4 :: l5 :: l6 :: l7 :: l8 :: l9 :: l10 :: l11 :: l12 :: .val (.int x) :: L) S k n H Q := W_ist (rfl : (pj lw).1 100 148 = some (.istore 13, 2, 0)) rfl rfl
theorem w100_150 {x : Int32} {l0 l1 l2 l3 l4 l5 l6 l7 l8 l9 l10 l11 l12 : Slot} : W (pj lw) 100 150 (l0 :: l1 :: l2 :: l3 :: l4 :: l5 :: l6 :: l7 :: l8 :: l9 :: l10 :: l11 :: l12 :: .val (.int x) :: L) S k n H Q ↔ W (pj lw) 100 152 (l0 :: l1 :: l2 :: l3 :: l4 :: l5 :: l6 :: l7 :: l8 :: l9 :: l10 :: l11 :: l12 :: .val (.int x) :: L) (.int x :: S) k n H Q := W_s (rfl : (pj lw).1 100 150 = some (.iload 13, 2, 0)) rfl rfl rfl
theorem w100_152 {x : Int32} : W (pj lw) 100 152 L (.int x :: S) k n H Q ↔ (if x = 0 then W (pj lw) 100 161 L S k n H Q else W (pj lw) 100 155 L S k n H Q) := W_if_eq (rfl : (pj lw).1 100 152 = some (.ifCond .eq 9, 3, 0)) rfl
theorem w100_155 : W (pj lw) 100 155 L S k n H Q ↔ W (pj lw) 100 158 L (.long 3 :: S) k n H Q := W_s (rfl : (pj lw).1 100 155 = some (.ldc2_w 20, 3, 3)) rfl rfl rfl
theorem w100_158 : W (pj lw) 100 158 L S k n H Q ↔ W (pj lw) 100 164 L S k n H Q := W_goto (rfl : (pj lw).1 100 158 = some (.goto 6, 3, 0)) rfl
theorem w100_161 : W (pj lw) 100 161 L S k n H Q ↔ W (pj lw) 100 164 L (.long 2 :: S) k n H Q := W_s (rfl : (pj lw).1 100 161 = some (.ldc2_w 22, 3, 2)) rfl rfl rfl
theorem w100_164uu {x : Int64} {l0 l1 l2 l3 l4 l5 l6 l7 l8 l9 l10 l11 l12 l13 : Slot} : W (pj lw) 100 164 (l0 :: l1 :: l2 :: l3 :: l4 :: l5 :: l6 :: l7 :: l8 :: l9 :: l10 :: l11 :: l12 :: l13 :: .unset :: .unset :: L) (.long x :: S) k n H Q ↔ W (pj lw) 100 166 (l0 :: l1 :: l2 :: l3 :: l4 :: l5 :: l6 :: l7 :: l8 :: l9 :: l10 :: l11 :: l12 :: l13 :: .val (.long x) :: .second :: L) S k n H Q := W_lst (rfl : (pj lw).1 100 164 = some (.lstore 14, 2, 0)) rfl rfl rfl rfl
theorem w100_166 {x : Int32} {l0 l1 l2 l3 l4 l5 l6 l7 l8 l9 l10 l11 l12 : Slot} : W (pj lw) 100 166 (l0 :: l1 :: l2 :: l3 :: l4 :: l5 :: l6 :: l7 :: l8 :: l9 :: l10 :: l11 :: l12 :: .val (.int x) :: L) S k n H Q ↔ W (pj lw) 100 168 (l0 :: l1 :: l2 :: l3 :: l4 :: l5 :: l6 :: l7 :: l8 :: l9 :: l10 :: l11 :: l12 :: .val (.int x) :: L) (.int x :: S) k n H Q := W_s (rfl : (pj lw).1 100 166 = some (.iload 13, 2, 0)) rfl rfl rfl
theorem w100_168 {x : Int32} : W (pj lw) 100 168 L (.int x :: S) k n H Q ↔ (if x = 0 then W (pj lw) 100 176 L S k n H Q else W (pj lw) 100 171 L S k n H Q) := W_if_eq (rfl : (pj lw).1 100 168 = some (.ifCond .eq 8, 3, 0)) rfl
theorem w100_171 {x : Int64} {l0 l1 l2 l3 l4 l5 l6 l7 l8 l9 l10 : Slot} : W (pj lw) 100 171 (l0 :: l1 :: l2 :: l3 :: l4 :: l5 :: l6 :: l7 :: l8 :: l9 :: l10 :: .val (.long x) :: L) S k n H Q ↔ W (pj lw) 100 173 (l0 :: l1 :: l2 :: l3 :: l4 :: l5 :: l6 :: l7 :: l8 :: l9 :: l10 :: .val (.long x) :: L) (.long x :: S) k n H Q := W_s (rfl : (pj lw).1 100 171 = some (.lload 11, 2, 0)) rfl rfl rfl
theorem w100_173 : W (pj lw) 100 173 L S k n H Q ↔ W (pj lw) 100 178 L S k n H Q := W_goto (rfl : (pj lw).1 100 173 = some (.goto 5, 3, 0)) rfl
theorem w100_176 {x : Int64} {l0 l1 l2 l3 l4 l5 l6 l7 l8 : Slot} : W (pj lw) 100 176 (l0 :: l1 :: l2 :: l3 :: l4 :: l5 :: l6 :: l7 :: l8 :: .val (.long x) :: L) S k n H Q ↔ W (pj lw) 100 178 (l0 :: l1 :: l2 :: l3 :: l4 :: l5 :: l6 :: l7 :: l8 :: .val (.long x) :: L) (.long x :: S) k n H Q := W_s (rfl : (pj lw).1 100 176 = some (.lload 9, 2, 0)) rfl rfl rfl
theorem w100_178uu {x : Int64} {l0 l1 l2 l3 l4 l5 l6 l7 l8 l9 l10 l11 l12 l13 l14 l15 : Slot} : W (pj lw) 100 178 (l0 :: l1 :: l2 :: l3 :: l4 :: l5 :: l6 :: l7 :: l8 :: l9 :: l10 :: l11 :: l12 :: l13 :: l14 :: l15 :: .unset :: .unset :: L) (.long x :: S) k n H Q ↔ W (pj lw) 100 180 (l0 :: l1 :: l2 :: l3 :: l4 :: l5 :: l6 :: l7 :: l8 :: l9 :: l10 :: l11 :: l12 :: l13 :: l14 :: l15 :: .val (.long x) :: .second :: L) S k n H Q := W_lst (rfl : (pj lw).1 100 178 = some (.lstore 16, 2, 0)) rfl rfl rfl rfl
theorem w100_180 {x : Int64} {l0 l1 l2 l3 l4 l5 l6 l7 l8 l9 l10 l11 l12 l13 : Slot} : W (pj lw) 100 180 (l0 :: l1 :: l2 :: l3 :: l4 :: l5 :: l6 :: l7 :: l8 :: l9 :: l10 :: l11 :: l12 :: l13 :: .val (.long x) :: L) S k n H Q ↔ W (pj lw) 100 182 (l0 :: l1 :: l2 :: l3 :: l4 :: l5 :: l6 :: l7 :: l8 :: l9 :: l10 :: l11 :: l12 :: l13 :: .val (.long x) :: L) (.long x :: S) k n H Q := W_s (rfl : (pj lw).1 100 180 = some (.lload 14, 2, 0)) rfl rfl rfl
theorem w100_182 {x : Int32} {l0 l1 l2 l3 : Slot} : W (pj lw) 100 182 (l0 :: l1 :: l2 :: l3 :: .val (.int x) :: L) S k n H Q ↔ W (pj lw) 100 184 (l0 :: l1 :: l2 :: l3 :: .val (.int x) :: L) (.int x :: S) k n H Q := W_s (rfl : (pj lw).1 100 182 = some (.iload 4, 2, 0)) rfl rfl rfl
theorem w100_184 {x : Int32} : W (pj lw) 100 184 L (.int x :: S) k n H Q ↔ W (pj lw) 100 185 L (.long x.toInt64 :: S) k n H Q := W_s (rfl : (pj lw).1 100 184 = some (.i2l, 1, 0)) rfl rfl rfl
theorem w100_185 {x y : Int64} : W (pj lw) 100 185 L (.long y :: .long x :: S) k n H Q ↔ W (pj lw) 100 186 L (.long (x * y) :: S) k n H Q := W_s (rfl : (pj lw).1 100 185 = some (.lmul, 1, 0)) rfl rfl rfl
theorem w100_186 {x : Int64} {l0 l1 l2 l3 l4 l5 l6 l7 l8 l9 l10 l11 l12 l13 l14 l15 : Slot} : W (pj lw) 100 186 (l0 :: l1 :: l2 :: l3 :: l4 :: l5 :: l6 :: l7 :: l8 :: l9 :: l10 :: l11 :: l12 :: l13 :: l14 :: l15 :: .val (.long x) :: L) S k n H Q ↔ W (pj lw) 100 188 (l0 :: l1 :: l2 :: l3 :: l4 :: l5 :: l6 :: l7 :: l8 :: l9 :: l10 :: l11 :: l12 :: l13 :: l14 :: l15 :: .val (.long x) :: L) (.long x :: S) k n H Q := W_s (rfl : (pj lw).1 100 186 = some (.lload 16, 2, 0)) rfl rfl rfl
theorem w100_188 {x y : Int64} : W (pj lw) 100 188 L (.long y :: .long x :: S) k n H Q ↔ W (pj lw) 100 189 L (.long (x - y) :: S) k n H Q := W_s (rfl : (pj lw).1 100 188 = some (.lsub, 1, 0)) rfl rfl rfl
theorem w100_189uu {x : Int64} {l0 l1 l2 l3 l4 l5 l6 l7 l8 l9 l10 l11 l12 l13 l14 l15 l16 l17 : Slot} : W (pj lw) 100 189 (l0 :: l1 :: l2 :: l3 :: l4 :: l5 :: l6 :: l7 :: l8 :: l9 :: l10 :: l11 :: l12 :: l13 :: l14 :: l15 :: l16 :: l17 :: .unset :: .unset :: L) (.long x :: S) k n H Q ↔ W (pj lw) 100 191 (l0 :: l1 :: l2 :: l3 :: l4 :: l5 :: l6 :: l7 :: l8 :: l9 :: l10 :: l11 :: l12 :: l13 :: l14 :: l15 :: l16 :: l17 :: .val (.long x) :: .second :: L) S k n H Q := W_lst (rfl : (pj lw).1 100 189 = some (.lstore 18, 2, 0)) rfl rfl rfl rfl
theorem w100_191 {x : Int64} {l0 l1 l2 l3 l4 l5 l6 l7 l8 l9 l10 l11 l12 l13 : Slot} : W (pj lw) 100 191 (l0 :: l1 :: l2 :: l3 :: l4 :: l5 :: l6 :: l7 :: l8 :: l9 :: l10 :: l11 :: l12 :: l13 :: .val (.long x) :: L) S k n H Q ↔ W (pj lw) 100 193 (l0 :: l1 :: l2 :: l3 :: l4 :: l5 :: l6 :: l7 :: l8 :: l9 :: l10 :: l11 :: l12 :: l13 :: .val (.long x) :: L) (.long x :: S) k n H Q := W_s (rfl : (pj lw).1 100 191 = some (.lload 14, 2, 0)) rfl rfl rfl
theorem w100_193 {x : Int32} {l0 l1 l2 l3 l4 : Slot} : W (pj lw) 100 193 (l0 :: l1 :: l2 :: l3 :: l4 :: .val (.int x) :: L) S k n H Q ↔ W (pj lw) 100 195 (l0 :: l1 :: l2 :: l3 :: l4 :: .val (.int x) :: L) (.int x :: S) k n H Q := W_s (rfl : (pj lw).1 100 193 = some (.iload 5, 2, 0)) rfl rfl rfl
theorem w100_195 {x : Int32} : W (pj lw) 100 195 L (.int x :: S) k n H Q ↔ W (pj lw) 100 196 L (.long x.toInt64 :: S) k n H Q := W_s (rfl : (pj lw).1 100 195 = some (.i2l, 1, 0)) rfl rfl rfl
theorem w100_196 {x y : Int64} : W (pj lw) 100 196 L (.long y :: .long x :: S) k n H Q ↔ W (pj lw) 100 197 L (.long (x * y) :: S) k n H Q := W_s (rfl : (pj lw).1 100 196 = some (.lmul, 1, 0)) rfl rfl rfl
theorem w100_197 {x : Int64} {l0 l1 l2 l3 l4 l5 l6 l7 l8 l9 l10 l11 l12 l13 l14 l15 : Slot} : W (pj lw) 100 197 (l0 :: l1 :: l2 :: l3 :: l4 :: l5 :: l6 :: l7 :: l8 :: l9 :: l10 :: l11 :: l12 :: l13 :: l14 :: l15 :: .val (.long x) :: L) S k n H Q ↔ W (pj lw) 100 199 (l0 :: l1 :: l2 :: l3 :: l4 :: l5 :: l6 :: l7 :: l8 :: l9 :: l10 :: l11 :: l12 :: l13 :: l14 :: l15 :: .val (.long x) :: L) (.long x :: S) k n H Q := W_s (rfl : (pj lw).1 100 197 = some (.lload 16, 2, 0)) rfl rfl rfl
theorem w100_199 {x y : Int64} : W (pj lw) 100 199 L (.long y :: .long x :: S) k n H Q ↔ W (pj lw) 100 200 L (.long (x - y) :: S) k n H Q := W_s (rfl : (pj lw).1 100 199 = some (.lsub, 1, 0)) rfl rfl rfl
theorem w100_200uu {x : Int64} {l0 l1 l2 l3 l4 l5 l6 l7 l8 l9 l10 l11 l12 l13 l14 l15 l16 l17 l18 l19 : Slot} : W (pj lw) 100 200 (l0 :: l1 :: l2 :: l3 :: l4 :: l5 :: l6 :: l7 :: l8 :: l9 :: l10 :: l11 :: l12 :: l13 :: l14 :: l15 :: l16 :: l17 :: l18 :: l19 :: .unset :: .unset :: L) (.long x :: S) k n H Q ↔ W (pj lw) 100 202 (l0 :: l1 :: l2 :: l3 :: l4 :: l5 :: l6 :: l7 :: l8 :: l9 :: l10 :: l11 :: l12 :: l13 :: l14 :: l15 :: l16 :: l17 :: l18 :: l19 :: .val (.long x) :: .second :: L) S k n H Q := W_lst (rfl : (pj lw).1 100 200 = some (.lstore 20, 2, 0)) rfl rfl rfl rfl
theorem w100_202 {x : Int64} {l0 l1 l2 l3 l4 l5 l6 l7 l8 l9 l10 l11 l12 l13 : Slot} : W (pj lw) 100 202 (l0 :: l1 :: l2 :: l3 :: l4 :: l5 :: l6 :: l7 :: l8 :: l9 :: l10 :: l11 :: l12 :: l13 :: .val (.long x) :: L) S k n H Q ↔ W (pj lw) 100 204 (l0 :: l1 :: l2 :: l3 :: l4 :: l5 :: l6 :: l7 :: l8 :: l9 :: l10 :: l11 :: l12 :: l13 :: .val (.long x) :: L) (.long x :: S) k n H Q := W_s (rfl : (pj lw).1 100 202 = some (.lload 14, 2, 0)) rfl rfl rfl
theorem w100_204 {x : Int32} {l0 l1 l2 l3 l4 l5 : Slot} : W (pj lw) 100 204 (l0 :: l1 :: l2 :: l3 :: l4 :: l5 :: .val (.int x) :: L) S k n H Q ↔ W (pj lw) 100 206 (l0 :: l1 :: l2 :: l3 :: l4 :: l5 :: .val (.int x) :: L) (.int x :: S) k n H Q := W_s (rfl : (pj lw).1 100 204 = some (.iload 6, 2, 0)) rfl rfl rfl
theorem w100_206 {x : Int32} : W (pj lw) 100 206 L (.int x :: S) k n H Q ↔ W (pj lw) 100 207 L (.long x.toInt64 :: S) k n H Q := W_s (rfl : (pj lw).1 100 206 = some (.i2l, 1, 0)) rfl rfl rfl
theorem w100_207 {x y : Int64} : W (pj lw) 100 207 L (.long y :: .long x :: S) k n H Q ↔ W (pj lw) 100 208 L (.long (x * y) :: S) k n H Q := W_s (rfl : (pj lw).1 100 207 = some (.lmul, 1, 0)) rfl rfl rfl
theorem w100_208 {x : Int64} {l0 l1 l2 l3 l4 l5 l6 l7 l8 l9 l10 l11 l12 l13 l14 l15 : Slot} : W (pj lw) 100 208 (l0 :: l1 :: l2 :: l3 :: l4 :: l5 :: l6 :: l7 :: l8 :: l9 :: l10 :: l11 :: l12 :: l13 :: l14 :: l15 :: .val (.long x) :: L) S k n H Q ↔ W (pj lw) 100 210 (l0 :: l1 :: l2 :: l3 :: l4 :: l5 :: l6 :: l7 :: l8 :: l9 :: l10 :: l11 :: l12 :: l13 :: l14 :: l15 :: .val (.long x) :: L) (.long x :: S) k n H Q := W_s (rfl : (pj lw).1 100 208 = some (.lload 16, 2, 0)) rfl rfl rfl
theorem w100_210 {x y : Int64} : W (pj lw) 100 210 L (.long y :: .long x :: S) k n H Q ↔ W (pj lw) 100 211 L (.long (x - y) :: S) k n H Q := W_s (rfl : (pj lw).1 100 210 = some (.lsub, 1, 0)) rfl rfl rfl
theorem w100_211uu {x : Int64} {l0 l1 l2 l3 l4 l5 l6 l7 l8 l9 l10 l11 l12 l13 l14 l15 l16 l17 l18 l19 l20 l21 : Slot} : W (pj lw) 100 211 (l0 :: l1 :: l2 :: l3 :: l4 :: l5 :: l6 :: l7 :: l8 :: l9 :: l10 :: l11 :: l12 :: l13 :: l14 :: l15 :: l16 :: l17 :: l18 :: l19 :: l20 :: l21 :: .unset :: .unset :: L) (.long x :: S) k n H Q ↔ W (pj lw) 100 213 (l0 :: l1 :: l2 :: l3 :: l4 :: l5 :: l6 :: l7 :: l8 :: l9 :: l10 :: l11 :: l12 :: l13 :: l14 :: l15 :: l16 :: l17 :: l18 :: l19 :: l20 :: l21 :: .val (.long x) :: .second :: L) S k n H Q := W_lst (rfl : (pj lw).1 100 211 = some (.lstore 22, 2, 0)) rfl rfl rfl rfl
theorem w100_213 {x : Int64} {l0 l1 l2 l3 l4 l5 l6 l7 l8 l9 l10 l11 l12 l13 : Slot} : W (pj lw) 100 213 (l0 :: l1 :: l2 :: l3 :: l4 :: l5 :: l6 :: l7 :: l8 :: l9 :: l10 :: l11 :: l12 :: l13 :: .val (.long x) :: L) S k n H Q ↔ W (pj lw) 100 215 (l0 :: l1 :: l2 :: l3 :: l4 :: l5 :: l6 :: l7 :: l8 :: l9 :: l10 :: l11 :: l12 :: l13 :: .val (.long x) :: L) (.long x :: S) k n H Q := W_s (rfl : (pj lw).1 100 213 = some (.lload 14, 2, 0)) rfl rfl rfl
theorem w100_215 {x : Int32} {l0 l1 l2 l3 l4 l5 l6 : Slot} : W (pj lw) 100 215 (l0 :: l1 :: l2 :: l3 :: l4 :: l5 :: l6 :: .val (.int x) :: L) S k n H Q ↔ W (pj lw) 100 217 (l0 :: l1 :: l2 :: l3 :: l4 :: l5 :: l6 :: .val (.int x) :: L) (.int x :: S) k n H Q := W_s (rfl : (pj lw).1 100 215 = some (.iload 7, 2, 0)) rfl rfl rfl
theorem w100_217 {x : Int32} : W (pj lw) 100 217 L (.int x :: S) k n H Q ↔ W (pj lw) 100 218 L (.long x.toInt64 :: S) k n H Q := W_s (rfl : (pj lw).1 100 217 = some (.i2l, 1, 0)) rfl rfl rfl
theorem w100_218 {x y : Int64} : W (pj lw) 100 218 L (.long y :: .long x :: S) k n H Q ↔ W (pj lw) 100 219 L (.long (x * y) :: S) k n H Q := W_s (rfl : (pj lw).1 100 218 = some (.lmul, 1, 0)) rfl rfl rfl
theorem w100_219 {x : Int64} {l0 l1 l2 l3 l4 l5 l6 l7 l8 l9 l10 l11 l12 l13 l14 l15 : Slot} : W (pj lw) 100 219 (l0 :: l1 :: l2 :: l3 :: l4 :: l5 :: l6 :: l7 :: l8 :: l9 :: l10 :: l11 :: l12 :: l13 :: l14 :: l15 :: .val (.long x) :: L) S k n H Q ↔ W (pj lw) 100 221 (l0 :: l1 :: l2 :: l3 :: l4 :: l5 :: l6 :: l7 :: l8 :: l9 :: l10 :: l11 :: l12 :: l13 :: l14 :: l15 :: .val (.long x) :: L) (.long x :: S) k n H Q := W_s (rfl : (pj lw).1 100 219 = some (.lload 16, 2, 0)) rfl rfl rfl
theorem w100_221 {x y : Int64} : W (pj lw) 100 221 L (.long y :: .long x :: S) k n H Q ↔ W (pj lw) 100 222 L (.long (x - y) :: S) k n H Q := W_s (rfl : (pj lw).1 100 221 = some (.lsub, 1, 0)) rfl rfl rfl
theorem w100_222uu {x : Int64} {l0 l1 l2 l3 l4 l5 l6 l7 l8 l9 l10 l11 l12 l13 l14 l15 l16 l17 l18 l19 l20 l21 l22 l23 : Slot} : W (pj lw) 100 222 (l0 :: l1 :: l2 :: l3 :: l4 :: l5 :: l6 :: l7 :: l8 :: l9 :: l10 :: l11 :: l12 :: l13 :: l14 :: l15 :: l16 :: l17 :: l18 :: l19 :: l20 :: l21 :: l22 :: l23 :: .unset :: .unset :: L) (.long x :: S) k n H Q ↔ W (pj lw) 100 224 (l0 :: l1 :: l2 :: l3 :: l4 :: l5 :: l6 :: l7 :: l8 :: l9 :: l10 :: l11 :: l12 :: l13 :: l14 :: l15 :: l16 :: l17 :: l18 :: l19 :: l20 :: l21 :: l22 :: l23 :: .val (.long x) :: .second :: L) S k n H Q := W_lst (rfl : (pj lw).1 100 222 = some (.lstore 24, 2, 0)) rfl rfl rfl rfl
theorem w100_224 : W (pj lw) 100 224 L S k n H Q ↔ W (pj lw) 100 225 L (.long 0 :: S) k n H Q := W_s (rfl : (pj lw).1 100 224 = some (.lconst 0, 1, 0)) rfl rfl rfl
theorem w100_225 {x : Int64} {l0 l1 l2 l3 l4 l5 l6 l7 l8 l9 l10 l11 l12 l13 l14 l15 l16 l17 l18 l19 : Slot} : W (pj lw) 100 225 (l0 :: l1 :: l2 :: l3 :: l4 :: l5 :: l6 :: l7 :: l8 :: l9 :: l10 :: l11 :: l12 :: l13 :: l14 :: l15 :: l16 :: l17 :: l18 :: l19 :: .val (.long x) :: L) S k n H Q ↔ W (pj lw) 100 227 (l0 :: l1 :: l2 :: l3 :: l4 :: l5 :: l6 :: l7 :: l8 :: l9 :: l10 :: l11 :: l12 :: l13 :: l14 :: l15 :: l16 :: l17 :: l18 :: l19 :: .val (.long x) :: L) (.long x :: S) k n H Q := W_s (rfl : (pj lw).1 100 225 = some (.lload 20, 2, 0)) rfl rfl rfl
theorem w100_227 {x0 : Int64} {x1 : Int64} : W (pj lw) 100 227 L (.long x1 :: .long x0 :: S) k n H Q ↔ (cs S + (4 + 11) + 0 ≤ 160 ∧ Cl (pj lw) 103 [.long x0, .long x1] H (fun v H => W (pj lw) 100 230 L (v.toList ++ S) k n H Q)) := W_stat (a := [.long x0, .long x1]) (rfl : (pj lw).1 100 227 = some (.invokestatic 24, 3, 103)) rfl rfl rfl (Nat.le_of_ble_eq_true rfl) (Nat.le_of_ble_eq_true rfl) ⟨rfl, rfl⟩
theorem w100_230 {x : Int64} {l0 l1 l2 l3 l4 l5 l6 l7 l8 l9 l10 l11 l12 l13 l14 l15 l16 l17 l18 l19 l20 l21 l22 l23 : Slot} : W (pj lw) 100 230 (l0 :: l1 :: l2 :: l3 :: l4 :: l5 :: l6 :: l7 :: l8 :: l9 :: l10 :: l11 :: l12 :: l13 :: l14 :: l15 :: l16 :: l17 :: l18 :: l19 :: l20 :: l21 :: l22 :: l23 :: .val (.long x) :: L) S k n H Q ↔ W (pj lw) 100 232 (l0 :: l1 :: l2 :: l3 :: l4 :: l5 :: l6 :: l7 :: l8 :: l9 :: l10 :: l11 :: l12 :: l13 :: l14 :: l15 :: l16 :: l17 :: l18 :: l19 :: l20 :: l21 :: l22 :: l23 :: .val (.long x) :: L) (.long x :: S) k n H Q := W_s (rfl : (pj lw).1 100 230 = some (.lload 24, 2, 0)) rfl rfl rfl
theorem w100_232 {x : Int64} {l0 l1 l2 l3 l4 l5 l6 l7 l8 l9 l10 l11 l12 l13 l14 l15 l16 l17 l18 l19 l20 l21 : Slot} : W (pj lw) 100 232 (l0 :: l1 :: l2 :: l3 :: l4 :: l5 :: l6 :: l7 :: l8 :: l9 :: l10 :: l11 :: l12 :: l13 :: l14 :: l15 :: l16 :: l17 :: l18 :: l19 :: l20 :: l21 :: .val (.long x) :: L) S k n H Q ↔ W (pj lw) 100 234 (l0 :: l1 :: l2 :: l3 :: l4 :: l5 :: l6 :: l7 :: l8 :: l9 :: l10 :: l11 :: l12 :: l13 :: l14 :: l15 :: l16 :: l17 :: l18 :: l19 :: l20 :: l21 :: .val (.long x) :: L) (.long x :: S) k n H Q := W_s (rfl : (pj lw).1 100 232 = some (.lload 22, 2, 0)) rfl rfl rfl
theorem w100_234 {x : Int64} {l0 l1 l2 l3 l4 l5 l6 l7 l8 l9 l10 l11 l12 l13 l14 l15 l16 l17 l18 l19 l20 l21 l22 l23 : Slot} : W (pj lw) 100 234 (l0 :: l1 :: l2 :: l3 :: l4 :: l5 :: l6 :: l7 :: l8 :: l9 :: l10 :: l11 :: l12 :: l13 :: l14 :: l15 :: l16 :: l17 :: l18 :: l19 :: l20 :: l21 :: l22 :: l23 :: .val (.long x) :: L) S k n H Q ↔ W (pj lw) 100 236 (l0 :: l1 :: l2 :: l3 :: l4 :: l5 :: l6 :: l7 :: l8 :: l9 :: l10 :: l11 :: l12 :: l13 :: l14 :: l15 :: l16 :: l17 :: l18 :: l19 :: l20 :: l21 :: l22 :: l23 :: .val (.long x) :: L) (.long x :: S) k n H Q := W_s (rfl : (pj lw).1 100 234 = some (.lload 24, 2, 0)) rfl rfl rfl
theorem w100_236 {x y : Int64} : W (pj lw) 100 236 L (.long y :: .long x :: S) k n H Q ↔ W (pj lw) 100 237 L (.long (x + y) :: S) k n H Q := W_s (rfl : (pj lw).1 100 236 = some (.ladd, 1, 0)) rfl rfl rfl
theorem w100_237 {x0 : Int64} {x1 : Int64} : W (pj lw) 100 237 L (.long x1 :: .long x0 :: S) k n H Q ↔ (cs S + (4 + 11) + 0 ≤ 160 ∧ Cl (pj lw) 103 [.long x0, .long x1] H (fun v H => W (pj lw) 100 240 L (v.toList ++ S) k n H Q)) := W_stat (a := [.long x0, .long x1]) (rfl : (pj lw).1 100 237 = some (.invokestatic 24, 3, 103)) rfl rfl rfl (Nat.le_of_ble_eq_true rfl) (Nat.le_of_ble_eq_true rfl) ⟨rfl, rfl⟩
theorem w100_240 {x0 : Int64} {x1 : Int64} : W (pj lw) 100 240 L (.long x1 :: .long x0 :: S) k n H Q ↔ (cs S + (4 + 11) + 0 ≤ 160 ∧ Cl (pj lw) 103 [.long x0, .long x1] H (fun v H => W (pj lw) 100 243 L (v.toList ++ S) k n H Q)) := W_stat (a := [.long x0, .long x1]) (rfl : (pj lw).1 100 240 = some (.invokestatic 24, 3, 103)) rfl rfl rfl (Nat.le_of_ble_eq_true rfl) (Nat.le_of_ble_eq_true rfl) ⟨rfl, rfl⟩
theorem w100_243uu {x : Int64} {l0 l1 l2 l3 l4 l5 l6 l7 l8 l9 l10 l11 l12 l13 l14 l15 l16 l17 l18 l19 l20 l21 l22 l23 l24 l25 : Slot} : W (pj lw) 100 243 (l0 :: l1 :: l2 :: l3 :: l4 :: l5 :: l6 :: l7 :: l8 :: l9 :: l10 :: l11 :: l12 :: l13 :: l14 :: l15 :: l16 :: l17 :: l18 :: l19 :: l20 :: l21 :: l22 :: l23 :: l24 :: l25 :: .unset :: .unset :: L) (.long x :: S) k n H Q ↔ W (pj lw) 100 245 (l0 :: l1 :: l2 :: l3 :: l4 :: l5 :: l6 :: l7 :: l8 :: l9 :: l10 :: l11 :: l12 :: l13 :: l14 :: l15 :: l16 :: l17 :: l18 :: l19 :: l20 :: l21 :: l22 :: l23 :: l24 :: l25 :: .val (.long x) :: .second :: L) S k n H Q := W_lst (rfl : (pj lw).1 100 243 = some (.lstore 26, 2, 0)) rfl rfl rfl rfl
theorem w100_245 : W (pj lw) 100 245 L S k n H Q ↔ W (pj lw) 100 246 L (.long 0 :: S) k n H Q := W_s (rfl : (pj lw).1 100 245 = some (.lconst 0, 1, 0)) rfl rfl rfl
theorem w100_246 {x : Int64} {l0 l1 l2 l3 l4 l5 l6 l7 l8 l9 l10 l11 l12 l13 l14 l15 l16 l17 : Slot} : W (pj lw) 100 246 (l0 :: l1 :: l2 :: l3 :: l4 :: l5 :: l6 :: l7 :: l8 :: l9 :: l10 :: l11 :: l12 :: l13 :: l14 :: l15 :: l16 :: l17 :: .val (.long x) :: L) S k n H Q ↔ W (pj lw) 100 248 (l0 :: l1 :: l2 :: l3 :: l4 :: l5 :: l6 :: l7 :: l8 :: l9 :: l10 :: l11 :: l12 :: l13 :: l14 :: l15 :: l16 :: l17 :: .val (.long x) :: L) (.long x :: S) k n H Q := W_s (rfl : (pj lw).1 100 246 = some (.lload 18, 2, 0)) rfl rfl rfl
theorem w100_248 {x : Int64} {l0 l1 l2 l3 l4 l5 l6 l7 l8 l9 l10 l11 l12 l13 l14 l15 l16 l17 l18 l19 l20 l21 l22 l23 : Slot} : W (pj lw) 100 248 (l0 :: l1 :: l2 :: l3 :: l4 :: l5 :: l6 :: l7 :: l8 :: l9 :: l10 :: l11 :: l12 :: l13 :: l14 :: l15 :: l16 :: l17 :: l18 :: l19 :: l20 :: l21 :: l22 :: l23 :: .val (.long x) :: L) S k n H Q ↔ W (pj lw) 100 250 (l0 :: l1 :: l2 :: l3 :: l4 :: l5 :: l6 :: l7 :: l8 :: l9 :: l10 :: l11 :: l12 :: l13 :: l14 :: l15 :: l16 :: l17 :: l18 :: l19 :: l20 :: l21 :: l22 :: l23 :: .val (.long x) :: L) (.long x :: S) k n H Q := W_s (rfl : (pj lw).1 100 248 = some (.lload 24, 2, 0)) rfl rfl rfl
theorem w100_250 {x : Int64} {l0 l1 l2 l3 l4 l5 l6 l7 l8 l9 l10 l11 l12 l13 l14 l15 l16 l17 : Slot} : W (pj lw) 100 250 (l0 :: l1 :: l2 :: l3 :: l4 :: l5 :: l6 :: l7 :: l8 :: l9 :: l10 :: l11 :: l12 :: l13 :: l14 :: l15 :: l16 :: l17 :: .val (.long x) :: L) S k n H Q ↔ W (pj lw) 100 252 (l0 :: l1 :: l2 :: l3 :: l4 :: l5 :: l6 :: l7 :: l8 :: l9 :: l10 :: l11 :: l12 :: l13 :: l14 :: l15 :: l16 :: l17 :: .val (.long x) :: L) (.long x :: S) k n H Q := W_s (rfl : (pj lw).1 100 250 = some (.lload 18, 2, 0)) rfl rfl rfl
theorem w100_252 {x y : Int64} : W (pj lw) 100 252 L (.long y :: .long x :: S) k n H Q ↔ W (pj lw) 100 253 L (.long (x + y) :: S) k n H Q := W_s (rfl : (pj lw).1 100 252 = some (.ladd, 1, 0)) rfl rfl rfl
theorem w100_253 {x0 : Int64} {x1 : Int64} : W (pj lw) 100 253 L (.long x1 :: .long x0 :: S) k n H Q ↔ (cs S + (4 + 11) + 0 ≤ 160 ∧ Cl (pj lw) 103 [.long x0, .long x1] H (fun v H => W (pj lw) 100 256 L (v.toList ++ S) k n H Q)) := W_stat (a := [.long x0, .long x1]) (rfl : (pj lw).1 100 253 = some (.invokestatic 24, 3, 103)) rfl rfl rfl (Nat.le_of_ble_eq_true rfl) (Nat.le_of_ble_eq_true rfl) ⟨rfl, rfl⟩
theorem w100_256 {x0 : Int64} {x1 : Int64} : W (pj lw) 100 256 L (.long x1 :: .long x0 :: S) k n H Q ↔ (cs S + (4 + 11) + 0 ≤ 160 ∧ Cl (pj lw) 103 [.long x0, .long x1] H (fun v H => W (pj lw) 100 259 L (v.toList ++ S) k n H Q)) := W_stat (a := [.long x0, .long x1]) (rfl : (pj lw).1 100 256 = some (.invokestatic 24, 3, 103)) rfl rfl rfl (Nat.le_of_ble_eq_true rfl) (Nat.le_of_ble_eq_true rfl) ⟨rfl, rfl⟩
theorem w100_259uu {x : Int64} {l0 l1 l2 l3 l4 l5 l6 l7 l8 l9 l10 l11 l12 l13 l14 l15 l16 l17 l18 l19 l20 l21 l22 l23 l24 l25 l26 l27 : Slot} : W (pj lw) 100 259 (l0 :: l1 :: l2 :: l3 :: l4 :: l5 :: l6 :: l7 :: l8 :: l9 :: l10 :: l11 :: l12 :: l13 :: l14 :: l15 :: l16 :: l17 :: l18 :: l19 :: l20 :: l21 :: l22 :: l23 :: l24 :: l25 :: l26 :: l27 :: .unset :: .unset :: L) (.long x :: S) k n H Q ↔ W (pj lw) 100 261 (l0 :: l1 :: l2 :: l3 :: l4 :: l5 :: l6 :: l7 :: l8 :: l9 :: l10 :: l11 :: l12 :: l13 :: l14 :: l15 :: l16 :: l17 :: l18 :: l19 :: l20 :: l21 :: l22 :: l23 :: l24 :: l25 :: l26 :: l27 :: .val (.long x) :: .second :: L) S k n H Q := W_lst (rfl : (pj lw).1 100 259 = some (.lstore 28, 2, 0)) rfl rfl rfl rfl
theorem w100_261 : W (pj lw) 100 261 L S k n H Q ↔ W (pj lw) 100 262 L (.long 0 :: S) k n H Q := W_s (rfl : (pj lw).1 100 261 = some (.lconst 0, 1, 0)) rfl rfl rfl
theorem w100_262 {x : Int64} {l0 l1 l2 l3 l4 l5 l6 l7 l8 l9 l10 l11 l12 l13 l14 l15 l16 l17 l18 l19 l20 l21 : Slot} : W (pj lw) 100 262 (l0 :: l1 :: l2 :: l3 :: l4 :: l5 :: l6 :: l7 :: l8 :: l9 :: l10 :: l11 :: l12 :: l13 :: l14 :: l15 :: l16 :: l17 :: l18 :: l19 :: l20 :: l21 :: .val (.long x) :: L) S k n H Q ↔ W (pj lw) 100 264 (l0 :: l1 :: l2 :: l3 :: l4 :: l5 :: l6 :: l7 :: l8 :: l9 :: l10 :: l11 :: l12 :: l13 :: l14 :: l15 :: l16 :: l17 :: l18 :: l19 :: l20 :: l21 :: .val (.long x) :: L) (.long x :: S) k n H Q := W_s (rfl : (pj lw).1 100 262 = some (.lload 22, 2, 0)) rfl rfl rfl
theorem w100_264 {x : Int64} {l0 l1 l2 l3 l4 l5 l6 l7 l8 l9 l10 l11 l12 l13 l14 l15 l16 l17 : Slot} : W (pj lw) 100 264 (l0 :: l1 :: l2 :: l3 :: l4 :: l5 :: l6 :: l7 :: l8 :: l9 :: l10 :: l11 :: l12 :: l13 :: l14 :: l15 :: l16 :: l17 :: .val (.long x) :: L) S k n H Q ↔ W (pj lw) 100 266 (l0 :: l1 :: l2 :: l3 :: l4 :: l5 :: l6 :: l7 :: l8 :: l9 :: l10 :: l11 :: l12 :: l13 :: l14 :: l15 :: l16 :: l17 :: .val (.long x) :: L) (.long x :: S) k n H Q := W_s (rfl : (pj lw).1 100 264 = some (.lload 18, 2, 0)) rfl rfl rfl
theorem w100_266 {x : Int64} {l0 l1 l2 l3 l4 l5 l6 l7 l8 l9 l10 l11 l12 l13 l14 l15 l16 l17 l18 l19 l20 l21 : Slot} : W (pj lw) 100 266 (l0 :: l1 :: l2 :: l3 :: l4 :: l5 :: l6 :: l7 :: l8 :: l9 :: l10 :: l11 :: l12 :: l13 :: l14 :: l15 :: l16 :: l17 :: l18 :: l19 :: l20 :: l21 :: .val (.long x) :: L) S k n H Q ↔ W (pj lw) 100 268 (l0 :: l1 :: l2 :: l3 :: l4 :: l5 :: l6 :: l7 :: l8 :: l9 :: l10 :: l11 :: l12 :: l13 :: l14 :: l15 :: l16 :: l17 :: l18 :: l19 :: l20 :: l21 :: .val (.long x) :: L) (.long x :: S) k n H Q := W_s (rfl : (pj lw).1 100 266 = some (.lload 22, 2, 0)) rfl rfl rfl
theorem w100_268 {x y : Int64} : W (pj lw) 100 268 L (.long y :: .long x :: S) k n H Q ↔ W (pj lw) 100 269 L (.long (x + y) :: S) k n H Q := W_s (rfl : (pj lw).1 100 268 = some (.ladd, 1, 0)) rfl rfl rfl
theorem w100_269 {x0 : Int64} {x1 : Int64} : W (pj lw) 100 269 L (.long x1 :: .long x0 :: S) k n H Q ↔ (cs S + (4 + 11) + 0 ≤ 160 ∧ Cl (pj lw) 103 [.long x0, .long x1] H (fun v H => W (pj lw) 100 272 L (v.toList ++ S) k n H Q)) := W_stat (a := [.long x0, .long x1]) (rfl : (pj lw).1 100 269 = some (.invokestatic 24, 3, 103)) rfl rfl rfl (Nat.le_of_ble_eq_true rfl) (Nat.le_of_ble_eq_true rfl) ⟨rfl, rfl⟩
theorem w100_272 {x0 : Int64} {x1 : Int64} : W (pj lw) 100 272 L (.long x1 :: .long x0 :: S) k n H Q ↔ (cs S + (4 + 11) + 0 ≤ 160 ∧ Cl (pj lw) 103 [.long x0, .long x1] H (fun v H => W (pj lw) 100 275 L (v.toList ++ S) k n H Q)) := W_stat (a := [.long x0, .long x1]) (rfl : (pj lw).1 100 272 = some (.invokestatic 24, 3, 103)) rfl rfl rfl (Nat.le_of_ble_eq_true rfl) (Nat.le_of_ble_eq_true rfl) ⟨rfl, rfl⟩
theorem w100_275uu {x : Int64} {l0 l1 l2 l3 l4 l5 l6 l7 l8 l9 l10 l11 l12 l13 l14 l15 l16 l17 l18 l19 l20 l21 l22 l23 l24 l25 l26 l27 l28 l29 : Slot} : W (pj lw) 100 275 (l0 :: l1 :: l2 :: l3 :: l4 :: l5 :: l6 :: l7 :: l8 :: l9 :: l10 :: l11 :: l12 :: l13 :: l14 :: l15 :: l16 :: l17 :: l18 :: l19 :: l20 :: l21 :: l22 :: l23 :: l24 :: l25 :: l26 :: l27 :: l28 :: l29 :: .unset :: .unset :: L) (.long x :: S) k n H Q ↔ W (pj lw) 100 277 (l0 :: l1 :: l2 :: l3 :: l4 :: l5 :: l6 :: l7 :: l8 :: l9 :: l10 :: l11 :: l12 :: l13 :: l14 :: l15 :: l16 :: l17 :: l18 :: l19 :: l20 :: l21 :: l22 :: l23 :: l24 :: l25 :: l26 :: l27 :: l28 :: l29 :: .val (.long x) :: .second :: L) S k n H Q := W_lst (rfl : (pj lw).1 100 275 = some (.lstore 30, 2, 0)) rfl rfl rfl rfl
theorem w100_277 {x : Nat} {l0 l1 l2 l3 l4 l5 l6 l7 : Slot} : W (pj lw) 100 277 (l0 :: l1 :: l2 :: l3 :: l4 :: l5 :: l6 :: l7 :: .val (.ref x) :: L) S k n H Q ↔ W (pj lw) 100 279 (l0 :: l1 :: l2 :: l3 :: l4 :: l5 :: l6 :: l7 :: .val (.ref x) :: L) (.ref x :: S) k n H Q := W_s (rfl : (pj lw).1 100 277 = some (.aload 8, 2, 0)) rfl rfl rfl
theorem w100_279 {a : Nat} : W (pj lw) 100 279 L (.ref a :: S) k n H Q ↔ ((isO H a = true ∧ cs S + (1 + 11) + 12 ≤ 160) ∧ Cl (pj lw) 24 [.ref a] H (fun v H => W (pj lw) 100 282 L (v.toList ++ S) k n H Q)) := W_inst (as := []) (rfl : (pj lw).1 100 279 = some (.invokevirtual 30, 3, 24)) rfl rfl rfl (Nat.le_of_ble_eq_true rfl) (Nat.le_of_ble_eq_true rfl) ⟨rfl, rfl⟩
theorem w100_282 {x : Int32} : W (pj lw) 100 282 L (.int x :: S) k n H Q ↔ W (pj lw) 100 283 L (.long x.toInt64 :: S) k n H Q := W_s (rfl : (pj lw).1 100 282 = some (.i2l, 1, 0)) rfl rfl rfl
theorem w100_283 {x : Int64} {l0 l1 l2 l3 l4 l5 l6 l7 l8 l9 l10 l11 l12 l13 : Slot} : W (pj lw) 100 283 (l0 :: l1 :: l2 :: l3 :: l4 :: l5 :: l6 :: l7 :: l8 :: l9 :: l10 :: l11 :: l12 :: l13 :: .val (.long x) :: L) S k n H Q ↔ W (pj lw) 100 285 (l0 :: l1 :: l2 :: l3 :: l4 :: l5 :: l6 :: l7 :: l8 :: l9 :: l10 :: l11 :: l12 :: l13 :: .val (.long x) :: L) (.long x :: S) k n H Q := W_s (rfl : (pj lw).1 100 283 = some (.lload 14, 2, 0)) rfl rfl rfl
theorem w100_285 {x y : Int64} : W (pj lw) 100 285 L (.long y :: .long x :: S) k n H Q ↔ W (pj lw) 100 286 L (.int (Jvm.Free.XT.cmpL x y) :: S) k n H Q := W_s (rfl : (pj lw).1 100 285 = some (.lcmp, 1, 0)) rfl rfl rfl
theorem w100_286 {x : Int32} : W (pj lw) 100 286 L (.int x :: S) k n H Q ↔ (if x = 0 then W (pj lw) 100 289 L S k n H Q else W (pj lw) 100 300 L S k n H Q) := W_if_ne (rfl : (pj lw).1 100 286 = some (.ifCond .ne 14, 3, 0)) rfl
theorem w100_289 {x : Nat} {l0 l1 l2 l3 l4 l5 l6 l7 : Slot} : W (pj lw) 100 289 (l0 :: l1 :: l2 :: l3 :: l4 :: l5 :: l6 :: l7 :: .val (.ref x) :: L) S k n H Q ↔ W (pj lw) 100 291 (l0 :: l1 :: l2 :: l3 :: l4 :: l5 :: l6 :: l7 :: .val (.ref x) :: L) (.ref x :: S) k n H Q := W_s (rfl : (pj lw).1 100 289 = some (.aload 8, 2, 0)) rfl rfl rfl
theorem w100_291 {a : Nat} : W (pj lw) 100 291 L (.ref a :: S) k n H Q ↔ ((isO H a = true ∧ cs S + (1 + 11) + 12 ≤ 160) ∧ Cl (pj lw) 25 [.ref a] H (fun v H => W (pj lw) 100 294 L (v.toList ++ S) k n H Q)) := W_inst (as := []) (rfl : (pj lw).1 100 291 = some (.invokevirtual 33, 3, 25)) rfl rfl rfl (Nat.le_of_ble_eq_true rfl) (Nat.le_of_ble_eq_true rfl) ⟨rfl, rfl⟩
theorem w100_294 {x : Int64} {l0 l1 l2 l3 l4 l5 l6 l7 l8 l9 l10 l11 l12 l13 l14 l15 : Slot} : W (pj lw) 100 294 (l0 :: l1 :: l2 :: l3 :: l4 :: l5 :: l6 :: l7 :: l8 :: l9 :: l10 :: l11 :: l12 :: l13 :: l14 :: l15 :: .val (.long x) :: L) S k n H Q ↔ W (pj lw) 100 296 (l0 :: l1 :: l2 :: l3 :: l4 :: l5 :: l6 :: l7 :: l8 :: l9 :: l10 :: l11 :: l12 :: l13 :: l14 :: l15 :: .val (.long x) :: L) (.long x :: S) k n H Q := W_s (rfl : (pj lw).1 100 294 = some (.lload 16, 2, 0)) rfl rfl rfl
theorem w100_296 {x y : Int64} : W (pj lw) 100 296 L (.long y :: .long x :: S) k n H Q ↔ W (pj lw) 100 297 L (.int (Jvm.Free.XT.cmpL x y) :: S) k n H Q := W_s (rfl : (pj lw).1 100 296 = some (.lcmp, 1, 0)) rfl rfl rfl
theorem w100_297 {x : Int32} : W (pj lw) 100 297 L (.int x :: S) k n H Q ↔ (if x = 0 then W (pj lw) 100 302 L S k n H Q else W (pj lw) 100 300 L S k n H Q) := W_if_eq (rfl : (pj lw).1 100 297 = some (.ifCond .eq 5, 3, 0)) rfl
theorem w100_302 {x : Nat} {l0 l1 l2 l3 l4 l5 l6 l7 : Slot} : W (pj lw) 100 302 (l0 :: l1 :: l2 :: l3 :: l4 :: l5 :: l6 :: l7 :: .val (.ref x) :: L) S k n H Q ↔ W (pj lw) 100 304 (l0 :: l1 :: l2 :: l3 :: l4 :: l5 :: l6 :: l7 :: .val (.ref x) :: L) (.ref x :: S) k n H Q := W_s (rfl : (pj lw).1 100 302 = some (.aload 8, 2, 0)) rfl rfl rfl
theorem w100_304 : W (pj lw) 100 304 L S k n H Q ↔ W (pj lw) 100 305 L (.int 0 :: S) k n H Q := W_s (rfl : (pj lw).1 100 304 = some (.iconst 0, 1, 0)) rfl rfl rfl
theorem w100_305 {a : Nat} {x0 : Int32} : W (pj lw) 100 305 L (.int x0 :: .ref a :: S) k n H Q ↔ ((isO H a = true ∧ cs S + (2 + 11) + 12 ≤ 160) ∧ Cl (pj lw) 26 [.ref a, .int x0] H (fun v H => W (pj lw) 100 308 L (v.toList ++ S) k n H Q)) := W_inst (as := [.int x0]) (rfl : (pj lw).1 100 305 = some (.invokevirtual 37, 3, 26)) rfl rfl rfl (Nat.le_of_ble_eq_true rfl) (Nat.le_of_ble_eq_true rfl) ⟨rfl, rfl⟩
theorem w100_308 {x : Int32} : W (pj lw) 100 308 L (.int x :: S) k n H Q ↔ (if x = 0 then W (pj lw) 100 311 L S k n H Q else W (pj lw) 100 321 L S k n H Q) := W_if_ne (rfl : (pj lw).1 100 308 = some (.ifCond .ne 13, 3, 0)) rfl
theorem w100_311 {x : Nat} {l0 l1 l2 l3 l4 l5 l6 l7 : Slot} : W (pj lw) 100 311 (l0 :: l1 :: l2 :: l3 :: l4 :: l5 :: l6 :: l7 :: .val (.ref x) :: L) S k n H Q ↔ W (pj lw) 100 313 (l0 :: l1 :: l2 :: l3 :: l4 :: l5 :: l6 :: l7 :: .val (.ref x) :: L) (.ref x :: S) k n H Q := W_s (rfl : (pj lw).1 100 311 = some (.aload 8, 2, 0)) rfl rfl rfl
theorem w100_313 : W (pj lw) 100 313 L S k n H Q ↔ W (pj lw) 100 314 L (.int 1 :: S) k n H Q := W_s (rfl : (pj lw).1 100 313 = some (.iconst 1, 1, 0)) rfl rfl rfl
theorem w100_314 {a : Nat} {x0 : Int32} : W (pj lw) 100 314 L (.int x0 :: .ref a :: S) k n H Q ↔ ((isO H a = true ∧ cs S + (2 + 11) + 12 ≤ 160) ∧ Cl (pj lw) 26 [.ref a, .int x0] H (fun v H => W (pj lw) 100 317 L (v.toList ++ S) k n H Q)) := W_inst (as := [.int x0]) (rfl : (pj lw).1 100 314 = some (.invokevirtual 37, 3, 26)) rfl rfl rfl (Nat.le_of_ble_eq_true rfl) (Nat.le_of_ble_eq_true rfl) ⟨rfl, rfl⟩
theorem w100_317 : W (pj lw) 100 317 L S k n H Q ↔ W (pj lw) 100 318 L (.int 1 :: S) k n H Q := W_s (rfl : (pj lw).1 100 317 = some (.iconst 1, 1, 0)) rfl rfl rfl
theorem w100_318 {x y : Int32} : W (pj lw) 100 318 L (.int y :: .int x :: S) k n H Q ↔ (if x = y then W (pj lw) 100 323 L S k n H Q else W (pj lw) 100 321 L S k n H Q) := W_icmp_eq (rfl : (pj lw).1 100 318 = some (.if_icmp .eq 5, 3, 0)) rfl
theorem w100_323 {x : Nat} {l0 l1 l2 l3 l4 l5 l6 l7 : Slot} : W (pj lw) 100 323 (l0 :: l1 :: l2 :: l3 :: l4 :: l5 :: l6 :: l7 :: .val (.ref x) :: L) S k n H Q ↔ W (pj lw) 100 325 (l0 :: l1 :: l2 :: l3 :: l4 :: l5 :: l6 :: l7 :: .val (.ref x) :: L) (.ref x :: S) k n H Q := W_s (rfl : (pj lw).1 100 323 = some (.aload 8, 2, 0)) rfl rfl rfl
theorem w100_325 : W (pj lw) 100 325 L S k n H Q ↔ W (pj lw) 100 326 L (.int 2 :: S) k n H Q := W_s (rfl : (pj lw).1 100 325 = some (.iconst 2, 1, 0)) rfl rfl rfl
theorem w100_326 {a : Nat} {x0 : Int32} : W (pj lw) 100 326 L (.int x0 :: .ref a :: S) k n H Q ↔ ((isO H a = true ∧ cs S + (2 + 11) + 12 ≤ 160) ∧ Cl (pj lw) 26 [.ref a, .int x0] H (fun v H => W (pj lw) 100 329 L (v.toList ++ S) k n H Q)) := W_inst (as := [.int x0]) (rfl : (pj lw).1 100 326 = some (.invokevirtual 37, 3, 26)) rfl rfl rfl (Nat.le_of_ble_eq_true rfl) (Nat.le_of_ble_eq_true rfl) ⟨rfl, rfl⟩
theorem w100_329 {x : Int32} {l0 l1 l2 l3 l4 l5 l6 l7 l8 l9 l10 l11 l12 : Slot} : W (pj lw) 100 329 (l0 :: l1 :: l2 :: l3 :: l4 :: l5 :: l6 :: l7 :: l8 :: l9 :: l10 :: l11 :: l12 :: .val (.int x) :: L) S k n H Q ↔ W (pj lw) 100 331 (l0 :: l1 :: l2 :: l3 :: l4 :: l5 :: l6 :: l7 :: l8 :: l9 :: l10 :: l11 :: l12 :: .val (.int x) :: L) (.int x :: S) k n H Q := W_s (rfl : (pj lw).1 100 329 = some (.iload 13, 2, 0)) rfl rfl rfl
theorem w100_331 {x : Int32} : W (pj lw) 100 331 L (.int x :: S) k n H Q ↔ (if x = 0 then W (pj lw) 100 338 L S k n H Q else W (pj lw) 100 334 L S k n H Q) := W_if_eq (rfl : (pj lw).1 100 331 = some (.ifCond .eq 7, 3, 0)) rfl
theorem w100_334 : W (pj lw) 100 334 L S k n H Q ↔ W (pj lw) 100 335 L (.int 2 :: S) k n H Q := W_s (rfl : (pj lw).1 100 334 = some (.iconst 2, 1, 0)) rfl rfl rfl
theorem w100_335 : W (pj lw) 100 335 L S k n H Q ↔ W (pj lw) 100 339 L S k n H Q := W_goto (rfl : (pj lw).1 100 335 = some (.goto 4, 3, 0)) rfl
theorem w100_338 : W (pj lw) 100 338 L S k n H Q ↔ W (pj lw) 100 339 L (.int (-1) :: S) k n H Q := W_s (rfl : (pj lw).1 100 338 = some (.iconst (-1), 1, 0)) rfl rfl rfl
theorem w100_339 {x y : Int32} : W (pj lw) 100 339 L (.int y :: .int x :: S) k n H Q ↔ (if x = y then W (pj lw) 100 344 L S k n H Q else W (pj lw) 100 342 L S k n H Q) := W_icmp_eq (rfl : (pj lw).1 100 339 = some (.if_icmp .eq 5, 3, 0)) rfl
theorem w100_344 {x : Nat} {l0 l1 l2 l3 l4 l5 l6 l7 : Slot} : W (pj lw) 100 344 (l0 :: l1 :: l2 :: l3 :: l4 :: l5 :: l6 :: l7 :: .val (.ref x) :: L) S k n H Q ↔ W (pj lw) 100 346 (l0 :: l1 :: l2 :: l3 :: l4 :: l5 :: l6 :: l7 :: .val (.ref x) :: L) (.ref x :: S) k n H Q := W_s (rfl : (pj lw).1 100 344 = some (.aload 8, 2, 0)) rfl rfl rfl
theorem w100_346 : W (pj lw) 100 346 L S k n H Q ↔ W (pj lw) 100 347 L (.int 0 :: S) k n H Q := W_s (rfl : (pj lw).1 100 346 = some (.iconst 0, 1, 0)) rfl rfl rfl
theorem w100_347 {a : Nat} {x0 : Int32} : W (pj lw) 100 347 L (.int x0 :: .ref a :: S) k n H Q ↔ ((isO H a = true ∧ cs S + (2 + 11) + 13 ≤ 160) ∧ Cl (pj lw) 27 [.ref a, .int x0] H (fun v H => W (pj lw) 100 350 L (v.toList ++ S) k n H Q)) := W_inst (as := [.int x0]) (rfl : (pj lw).1 100 347 = some (.invokevirtual 41, 3, 27)) rfl rfl rfl (Nat.le_of_ble_eq_true rfl) (Nat.le_of_ble_eq_true rfl) ⟨rfl, rfl⟩
theorem w100_350 {x : Int32} : W (pj lw) 100 350 L (.int x :: S) k n H Q ↔ (if x = 0 then W (pj lw) 100 362 L S k n H Q else W (pj lw) 100 353 L S k n H Q) := W_if_eq (rfl : (pj lw).1 100 350 = some (.ifCond .eq 12, 3, 0)) rfl
theorem w100_353 {x : Nat} {l0 l1 l2 l3 l4 l5 l6 l7 : Slot} : W (pj lw) 100 353 (l0 :: l1 :: l2 :: l3 :: l4 :: l5 :: l6 :: l7 :: .val (.ref x) :: L) S k n H Q ↔ W (pj lw) 100 355 (l0 :: l1 :: l2 :: l3 :: l4 :: l5 :: l6 :: l7 :: .val (.ref x) :: L) (.ref x :: S) k n H Q := W_s (rfl : (pj lw).1 100 353 = some (.aload 8, 2, 0)) rfl rfl rfl
theorem w100_355 : W (pj lw) 100 355 L S k n H Q ↔ W (pj lw) 100 356 L (.int 1 :: S) k n H Q := W_s (rfl : (pj lw).1 100 355 = some (.iconst 1, 1, 0)) rfl rfl rfl
theorem w100_356 {a : Nat} {x0 : Int32} : W (pj lw) 100 356 L (.int x0 :: .ref a :: S) k n H Q ↔ ((isO H a = true ∧ cs S + (2 + 11) + 13 ≤ 160) ∧ Cl (pj lw) 27 [.ref a, .int x0] H (fun v H => W (pj lw) 100 359 L (v.toList ++ S) k n H Q)) := W_inst (as := [.int x0]) (rfl : (pj lw).1 100 356 = some (.invokevirtual 41, 3, 27)) rfl rfl rfl (Nat.le_of_ble_eq_true rfl) (Nat.le_of_ble_eq_true rfl) ⟨rfl, rfl⟩
theorem w100_359 {x : Int32} : W (pj lw) 100 359 L (.int x :: S) k n H Q ↔ (if x = 0 then W (pj lw) 100 362 L S k n H Q else W (pj lw) 100 364 L S k n H Q) := W_if_ne (rfl : (pj lw).1 100 359 = some (.ifCond .ne 5, 3, 0)) rfl
theorem w100_364 {x : Nat} {l0 l1 l2 l3 l4 l5 l6 l7 : Slot} : W (pj lw) 100 364 (l0 :: l1 :: l2 :: l3 :: l4 :: l5 :: l6 :: l7 :: .val (.ref x) :: L) S k n H Q ↔ W (pj lw) 100 366 (l0 :: l1 :: l2 :: l3 :: l4 :: l5 :: l6 :: l7 :: .val (.ref x) :: L) (.ref x :: S) k n H Q := W_s (rfl : (pj lw).1 100 364 = some (.aload 8, 2, 0)) rfl rfl rfl
theorem w100_366 : W (pj lw) 100 366 L S k n H Q ↔ W (pj lw) 100 367 L (.int 2 :: S) k n H Q := W_s (rfl : (pj lw).1 100 366 = some (.iconst 2, 1, 0)) rfl rfl rfl
theorem w100_367 {a : Nat} {x0 : Int32} : W (pj lw) 100 367 L (.int x0 :: .ref a :: S) k n H Q ↔ ((isO H a = true ∧ cs S + (2 + 11) + 13 ≤ 160) ∧ Cl (pj lw) 27 [.ref a, .int x0] H (fun v H => W (pj lw) 100 370 L (v.toList ++ S) k n H Q)) := W_inst (as := [.int x0]) (rfl : (pj lw).1 100 367 = some (.invokevirtual 41, 3, 27)) rfl rfl rfl (Nat.le_of_ble_eq_true rfl) (Nat.le_of_ble_eq_true rfl) ⟨rfl, rfl⟩
theorem w100_370 : W (pj lw) 100 370 L S k n H Q ↔ W (pj lw) 100 373 L (.long 3 :: S) k n H Q := W_s (rfl : (pj lw).1 100 370 = some (.ldc2_w 20, 3, 3)) rfl rfl rfl
theorem w100_373 {x : Int64} {l0 l1 l2 l3 l4 l5 l6 l7 l8 : Slot} : W (pj lw) 100 373 (l0 :: l1 :: l2 :: l3 :: l4 :: l5 :: l6 :: l7 :: l8 :: .val (.long x) :: L) S k n H Q ↔ W (pj lw) 100 375 (l0 :: l1 :: l2 :: l3 :: l4 :: l5 :: l6 :: l7 :: l8 :: .val (.long x) :: L) (.long x :: S) k n H Q := W_s (rfl : (pj lw).1 100 373 = some (.lload 9, 2, 0)) rfl rfl rfl
theorem w100_375 {x y : Int64} : W (pj lw) 100 375 L (.long y :: .long x :: S) k n H Q ↔ W (pj lw) 100 376 L (.long (x * y) :: S) k n H Q := W_s (rfl : (pj lw).1 100 375 = some (.lmul, 1, 0)) rfl rfl rfl
theorem w100_376 : W (pj lw) 100 376 L S k n H Q ↔ W (pj lw) 100 379 L (.long 2 :: S) k n H Q := W_s (rfl : (pj lw).1 100 376 = some (.ldc2_w 22, 3, 2)) rfl rfl rfl
theorem w100_379 {x : Int64} {l0 l1 l2 l3 l4 l5 l6 l7 l8 l9 l10 : Slot} : W (pj lw) 100 379 (l0 :: l1 :: l2 :: l3 :: l4 :: l5 :: l6 :: l7 :: l8 :: l9 :: l10 :: .val (.long x) :: L) S k n H Q ↔ W (pj lw) 100 381 (l0 :: l1 :: l2 :: l3 :: l4 :: l5 :: l6 :: l7 :: l8 :: l9 :: l10 :: .val (.long x) :: L) (.long x :: S) k n H Q := W_s (rfl : (pj lw).1 100 379 = some (.lload 11, 2, 0)) rfl rfl rfl
theorem w100_381 {x y : Int64} : W (pj lw) 100 381 L (.long y :: .long x :: S) k n H Q ↔ W (pj lw) 100 382 L (.long (x * y) :: S) k n H Q := W_s (rfl : (pj lw).1 100 381 = some (.lmul, 1, 0)) rfl rfl rfl
theorem w100_382 {x y : Int64} : W (pj lw) 100 382 L (.long y :: .long x :: S) k n H Q ↔ W (pj lw) 100 383 L (.int (Jvm.Free.XT.cmpL x y) :: S) k n H Q := W_s (rfl : (pj lw).1 100 382 = some (.lcmp, 1, 0)) rfl rfl rfl
theorem w100_383 {x : Int32} : W (pj lw) 100 383 L (.int x :: S) k n H Q ↔ (if x < 0 then W (pj lw) 100 390 L S k n H Q else W (pj lw) 100 386 L S k n H Q) := W_if_lt (rfl : (pj lw).1 100 383 = some (.ifCond .lt 7, 3, 0)) rfl
theorem w100_386 : W (pj lw) 100 386 L S k n H Q ↔ W (pj lw) 100 387 L (.int 1 :: S) k n H Q := W_s (rfl : (pj lw).1 100 386 = some (.iconst 1, 1, 0)) rfl rfl rfl
theorem w100_387 : W (pj lw) 100 387 L S k n H Q ↔ W (pj lw) 100 391 L S k n H Q := W_goto (rfl : (pj lw).1 100 387 = some (.goto 4, 3, 0)) rfl
theorem w100_390 : W (pj lw) 100 390 L S k n H Q ↔ W (pj lw) 100 391 L (.int 0 :: S) k n H Q := W_s (rfl : (pj lw).1 100 390 = some (.iconst 0, 1, 0)) rfl rfl rfl
theorem w100_391 {x y : Int32} : W (pj lw) 100 391 L (.int y :: .int x :: S) k n H Q ↔ (if x = y then W (pj lw) 100 396 L S k n H Q else W (pj lw) 100 394 L S k n H Q) := W_icmp_eq (rfl : (pj lw).1 100 391 = some (.if_icmp .eq 5, 3, 0)) rfl
theorem w100_396 {x : Nat} {l0 l1 l2 l3 l4 l5 l6 l7 : Slot} : W (pj lw) 100 396 (l0 :: l1 :: l2 :: l3 :: l4 :: l5 :: l6 :: l7 :: .val (.ref x) :: L) S k n H Q ↔ W (pj lw) 100 398 (l0 :: l1 :: l2 :: l3 :: l4 :: l5 :: l6 :: l7 :: .val (.ref x) :: L) (.ref x :: S) k n H Q := W_s (rfl : (pj lw).1 100 396 = some (.aload 8, 2, 0)) rfl rfl rfl
theorem w100_398 : W (pj lw) 100 398 L S k n H Q ↔ W (pj lw) 100 399 L (.int 0 :: S) k n H Q := W_s (rfl : (pj lw).1 100 398 = some (.iconst 0, 1, 0)) rfl rfl rfl
theorem w100_399 {a : Nat} {x0 : Int32} : W (pj lw) 100 399 L (.int x0 :: .ref a :: S) k n H Q ↔ ((isO H a = true ∧ cs S + (2 + 11) + 13 ≤ 160) ∧ Cl (pj lw) 28 [.ref a, .int x0] H (fun v H => W (pj lw) 100 402 L (v.toList ++ S) k n H Q)) := W_inst (as := [.int x0]) (rfl : (pj lw).1 100 399 = some (.invokevirtual 45, 3, 28)) rfl rfl rfl (Nat.le_of_ble_eq_true rfl) (Nat.le_of_ble_eq_true rfl) ⟨rfl, rfl⟩
theorem w100_402 {x : Int64} {l0 l1 l2 l3 l4 l5 l6 l7 l8 l9 l10 l11 l12 l13 l14 l15 l16 l17 l18 l19 l20 l21 l22 l23 l24 l25 : Slot} : W (pj lw) 100 402 (l0 :: l1 :: l2 :: l3 :: l4 :: l5 :: l6 :: l7 :: l8 :: l9 :: l10 :: l11 :: l12 :: l13 :: l14 :: l15 :: l16 :: l17 :: l18 :: l19 :: l20 :: l21 :: l22 :: l23 :: l24 :: l25 :: .val (.long x) :: L) S k n H Q ↔ W (pj lw) 100 404 (l0 :: l1 :: l2 :: l3 :: l4 :: l5 :: l6 :: l7 :: l8 :: l9 :: l10 :: l11 :: l12 :: l13 :: l14 :: l15 :: l16 :: l17 :: l18 :: l19 :: l20 :: l21 :: l22 :: l23 :: l24 :: l25 :: .val (.long x) :: L) (.long x :: S) k n H Q := W_s (rfl : (pj lw).1 100 402 = some (.lload 26, 2, 0)) rfl rfl rfl
theorem w100_404 {x y : Int64} : W (pj lw) 100 404 L (.long y :: .long x :: S) k n H Q ↔ W (pj lw) 100 405 L (.int (Jvm.Free.XT.cmpL x y) :: S) k n H Q := W_s (rfl : (pj lw).1 100 404 = some (.lcmp, 1, 0)) rfl rfl rfl
theorem w100_405 {x : Int32} : W (pj lw) 100 405 L (.int x :: S) k n H Q ↔ (if x = 0 then W (pj lw) 100 408 L S k n H Q else W (pj lw) 100 432 L S k n H Q) := W_if_ne (rfl : (pj lw).1 100 405 = some (.ifCond .ne 27, 3, 0)) rfl
theorem w100_408 {x : Nat} {l0 l1 l2 l3 l4 l5 l6 l7 : Slot} : W (pj lw) 100 408 (l0 :: l1 :: l2 :: l3 :: l4 :: l5 :: l6 :: l7 :: .val (.ref x) :: L) S k n H Q ↔ W (pj lw) 100 410 (l0 :: l1 :: l2 :: l3 :: l4 :: l5 :: l6 :: l7 :: .val (.ref x) :: L) (.ref x :: S) k n H Q := W_s (rfl : (pj lw).1 100 408 = some (.aload 8, 2, 0)) rfl rfl rfl
theorem w100_410 : W (pj lw) 100 410 L S k n H Q ↔ W (pj lw) 100 411 L (.int 1 :: S) k n H Q := W_s (rfl : (pj lw).1 100 410 = some (.iconst 1, 1, 0)) rfl rfl rfl
theorem w100_411 {a : Nat} {x0 : Int32} : W (pj lw) 100 411 L (.int x0 :: .ref a :: S) k n H Q ↔ ((isO H a = true ∧ cs S + (2 + 11) + 13 ≤ 160) ∧ Cl (pj lw) 28 [.ref a, .int x0] H (fun v H => W (pj lw) 100 414 L (v.toList ++ S) k n H Q)) := W_inst (as := [.int x0]) (rfl : (pj lw).1 100 411 = some (.invokevirtual 45, 3, 28)) rfl rfl rfl (Nat.le_of_ble_eq_true rfl) (Nat.le_of_ble_eq_true rfl) ⟨rfl, rfl⟩
theorem w100_414 {x : Int64} {l0 l1 l2 l3 l4 l5 l6 l7 l8 l9 l10 l11 l12 l13 l14 l15 l16 l17 l18 l19 l20 l21 l22 l23 l24 l25 l26 l27 : Slot} : W (pj lw) 100 414 (l0 :: l1 :: l2 :: l3 :: l4 :: l5 :: l6 :: l7 :: l8 :: l9 :: l10 :: l11 :: l12 :: l13 :: l14 :: l15 :: l16 :: l17 :: l18 :: l19 :: l20 :: l21 :: l22 :: l23 :: l24 :: l25 :: l26 :: l27 :: .val (.long x) :: L) S k n H Q ↔ W (pj lw) 100 416 (l0 :: l1 :: l2 :: l3 :: l4 :: l5 :: l6 :: l7 :: l8 :: l9 :: l10 :: l11 :: l12 :: l13 :: l14 :: l15 :: l16 :: l17 :: l18 :: l19 :: l20 :: l21 :: l22 :: l23 :: l24 :: l25 :: l26 :: l27 :: .val (.long x) :: L) (.long x :: S) k n H Q := W_s (rfl : (pj lw).1 100 414 = some (.lload 28, 2, 0)) rfl rfl rfl
theorem w100_416 {x y : Int64} : W (pj lw) 100 416 L (.long y :: .long x :: S) k n H Q ↔ W (pj lw) 100 417 L (.int (Jvm.Free.XT.cmpL x y) :: S) k n H Q := W_s (rfl : (pj lw).1 100 416 = some (.lcmp, 1, 0)) rfl rfl rfl
theorem w100_417 {x : Int32} : W (pj lw) 100 417 L (.int x :: S) k n H Q ↔ (if x = 0 then W (pj lw) 100 420 L S k n H Q else W (pj lw) 100 432 L S k n H Q) := W_if_ne (rfl : (pj lw).1 100 417 = some (.ifCond .ne 15, 3, 0)) rfl
theorem w100_420 {x : Nat} {l0 l1 l2 l3 l4 l5 l6 l7 : Slot} : W (pj lw) 100 420 (l0 :: l1 :: l2 :: l3 :: l4 :: l5 :: l6 :: l7 :: .val (.ref x) :: L) S k n H Q ↔ W (pj lw) 100 422 (l0 :: l1 :: l2 :: l3 :: l4 :: l5 :: l6 :: l7 :: .val (.ref x) :: L) (.ref x :: S) k n H Q := W_s (rfl : (pj lw).1 100 420 = some (.aload 8, 2, 0)) rfl rfl rfl
theorem w100_422 : W (pj lw) 100 422 L S k n H Q ↔ W (pj lw) 100 423 L (.int 2 :: S) k n H Q := W_s (rfl : (pj lw).1 100 422 = some (.iconst 2, 1, 0)) rfl rfl rfl
theorem w100_423 {a : Nat} {x0 : Int32} : W (pj lw) 100 423 L (.int x0 :: .ref a :: S) k n H Q ↔ ((isO H a = true ∧ cs S + (2 + 11) + 13 ≤ 160) ∧ Cl (pj lw) 28 [.ref a, .int x0] H (fun v H => W (pj lw) 100 426 L (v.toList ++ S) k n H Q)) := W_inst (as := [.int x0]) (rfl : (pj lw).1 100 423 = some (.invokevirtual 45, 3, 28)) rfl rfl rfl (Nat.le_of_ble_eq_true rfl) (Nat.le_of_ble_eq_true rfl) ⟨rfl, rfl⟩
theorem w100_426 {x : Int64} {l0 l1 l2 l3 l4 l5 l6 l7 l8 l9 l10 l11 l12 l13 l14 l15 l16 l17 l18 l19 l20 l21 l22 l23 l24 l25 l26 l27 l28 l29 : Slot} : W (pj lw) 100 426 (l0 :: l1 :: l2 :: l3 :: l4 :: l5 :: l6 :: l7 :: l8 :: l9 :: l10 :: l11 :: l12 :: l13 :: l14 :: l15 :: l16 :: l17 :: l18 :: l19 :: l20 :: l21 :: l22 :: l23 :: l24 :: l25 :: l26 :: l27 :: l28 :: l29 :: .val (.long x) :: L) S k n H Q ↔ W (pj lw) 100 428 (l0 :: l1 :: l2 :: l3 :: l4 :: l5 :: l6 :: l7 :: l8 :: l9 :: l10 :: l11 :: l12 :: l13 :: l14 :: l15 :: l16 :: l17 :: l18 :: l19 :: l20 :: l21 :: l22 :: l23 :: l24 :: l25 :: l26 :: l27 :: l28 :: l29 :: .val (.long x) :: L) (.long x :: S) k n H Q := W_s (rfl : (pj lw).1 100 426 = some (.lload 30, 2, 0)) rfl rfl rfl
theorem w100_428 {x y : Int64} : W (pj lw) 100 428 L (.long y :: .long x :: S) k n H Q ↔ W (pj lw) 100 429 L (.int (Jvm.Free.XT.cmpL x y) :: S) k n H Q := W_s (rfl : (pj lw).1 100 428 = some (.lcmp, 1, 0)) rfl rfl rfl
theorem w100_429 {x : Int32} : W (pj lw) 100 429 L (.int x :: S) k n H Q ↔ (if x = 0 then W (pj lw) 100 434 L S k n H Q else W (pj lw) 100 432 L S k n H Q) := W_if_eq (rfl : (pj lw).1 100 429 = some (.ifCond .eq 5, 3, 0)) rfl
theorem w100_434 {x : Nat} {l0 l1 l2 l3 l4 l5 l6 l7 : Slot} : W (pj lw) 100 434 (l0 :: l1 :: l2 :: l3 :: l4 :: l5 :: l6 :: l7 :: .val (.ref x) :: L) S k n H Q ↔ W (pj lw) 100 436 (l0 :: l1 :: l2 :: l3 :: l4 :: l5 :: l6 :: l7 :: .val (.ref x) :: L) (.ref x :: S) k n H Q := W_s (rfl : (pj lw).1 100 434 = some (.aload 8, 2, 0)) rfl rfl rfl
theorem w100_436 : W (pj lw) 100 436 L S k n H Q ↔ W (pj lw) 100 437 L (.int 0 :: S) k n H Q := W_s (rfl : (pj lw).1 100 436 = some (.iconst 0, 1, 0)) rfl rfl rfl
theorem w100_437 : W (pj lw) 100 437 L S k n H Q ↔ W (pj lw) 100 438 L (.int 1 :: S) k n H Q := W_s (rfl : (pj lw).1 100 437 = some (.iconst 1, 1, 0)) rfl rfl rfl
theorem w100_438 {a : Nat} {x0 : Int32} {x1 : Int32} : W (pj lw) 100 438 L (.int x1 :: .int x0 :: .ref a :: S) k n H Q ↔ ((isO H a = true ∧ cs S + (3 + 11) + 27 ≤ 160) ∧ Cl (pj lw) 29 [.ref a, .int x0, .int x1] H (fun v H => W (pj lw) 100 441 L (v.toList ++ S) k n H Q)) := W_inst (as := [.int x0, .int x1]) (rfl : (pj lw).1 100 438 = some (.invokevirtual 49, 3, 29)) rfl rfl rfl (Nat.le_of_ble_eq_true rfl) (Nat.le_of_ble_eq_true rfl) ⟨rfl, rfl⟩
theorem w100_441 {x : Int64} {l0 l1 l2 l3 l4 l5 l6 l7 l8 l9 l10 l11 l12 l13 l14 l15 l16 l17 : Slot} : W (pj lw) 100 441 (l0 :: l1 :: l2 :: l3 :: l4 :: l5 :: l6 :: l7 :: l8 :: l9 :: l10 :: l11 :: l12 :: l13 :: l14 :: l15 :: l16 :: l17 :: .val (.long x) :: L) S k n H Q ↔ W (pj lw) 100 443 (l0 :: l1 :: l2 :: l3 :: l4 :: l5 :: l6 :: l7 :: l8 :: l9 :: l10 :: l11 :: l12 :: l13 :: l14 :: l15 :: l16 :: l17 :: .val (.long x) :: L) (.long x :: S) k n H Q := W_s (rfl : (pj lw).1 100 441 = some (.lload 18, 2, 0)) rfl rfl rfl
theorem w100_443 {x : Int64} {l0 l1 l2 l3 l4 l5 l6 l7 l8 l9 l10 l11 l12 l13 l14 l15 l16 l17 l18 l19 l20 l21 l22 l23 l24 l25 : Slot} : W (pj lw) 100 443 (l0 :: l1 :: l2 :: l3 :: l4 :: l5 :: l6 :: l7 :: l8 :: l9 :: l10 :: l11 :: l12 :: l13 :: l14 :: l15 :: l16 :: l17 :: l18 :: l19 :: l20 :: l21 :: l22 :: l23 :: l24 :: l25 :: .val (.long x) :: L) S k n H Q ↔ W (pj lw) 100 445 (l0 :: l1 :: l2 :: l3 :: l4 :: l5 :: l6 :: l7 :: l8 :: l9 :: l10 :: l11 :: l12 :: l13 :: l14 :: l15 :: l16 :: l17 :: l18 :: l19 :: l20 :: l21 :: l22 :: l23 :: l24 :: l25 :: .val (.long x) :: L) (.long x :: S) k n H Q := W_s (rfl : (pj lw).1 100 443 = some (.lload 26, 2, 0)) rfl rfl rfl
theorem w100_445 {x y : Int64} : W (pj lw) 100 445 L (.long y :: .long x :: S) k n H Q ↔ W (pj lw) 100 446 L (.long (x + y) :: S) k n H Q := W_s (rfl : (pj lw).1 100 445 = some (.ladd, 1, 0)) rfl rfl rfl
theorem w100_446 {x : Int64} {l0 l1 l2 l3 l4 l5 l6 l7 l8 l9 l10 l11 l12 l13 l14 l15 l16 l17 l18 l19 l20 l21 l22 l23 l24 l25 l26 l27 : Slot} : W (pj lw) 100 446 (l0 :: l1 :: l2 :: l3 :: l4 :: l5 :: l6 :: l7 :: l8 :: l9 :: l10 :: l11 :: l12 :: l13 :: l14 :: l15 :: l16 :: l17 :: l18 :: l19 :: l20 :: l21 :: l22 :: l23 :: l24 :: l25 :: l26 :: l27 :: .val (.long x) :: L) S k n H Q ↔ W (pj lw) 100 448 (l0 :: l1 :: l2 :: l3 :: l4 :: l5 :: l6 :: l7 :: l8 :: l9 :: l10 :: l11 :: l12 :: l13 :: l14 :: l15 :: l16 :: l17 :: l18 :: l19 :: l20 :: l21 :: l22 :: l23 :: l24 :: l25 :: l26 :: l27 :: .val (.long x) :: L) (.long x :: S) k n H Q := W_s (rfl : (pj lw).1 100 446 = some (.lload 28, 2, 0)) rfl rfl rfl
theorem w100_448 {x y : Int64} : W (pj lw) 100 448 L (.long y :: .long x :: S) k n H Q ↔ W (pj lw) 100 449 L (.long (x - y) :: S) k n H Q := W_s (rfl : (pj lw).1 100 448 = some (.lsub, 1, 0)) rfl rfl rfl
theorem w100_449 {x y : Int64} : W (pj lw) 100 449 L (.long y :: .long x :: S) k n H Q ↔ W (pj lw) 100 450 L (.int (Jvm.Free.XT.cmpL x y) :: S) k n H Q := W_s (rfl : (pj lw).1 100 449 = some (.lcmp, 1, 0)) rfl rfl rfl
theorem w100_450 {x : Int32} : W (pj lw) 100 450 L (.int x :: S) k n H Q ↔ (if x = 0 then W (pj lw) 100 455 L S k n H Q else W (pj lw) 100 453 L S k n H Q) := W_if_eq (rfl : (pj lw).1 100 450 = some (.ifCond .eq 5, 3, 0)) rfl
theorem w100_455 {x : Nat} {l0 l1 l2 l3 l4 l5 l6 l7 : Slot} : W (pj lw) 100 455 (l0 :: l1 :: l2 :: l3 :: l4 :: l5 :: l6 :: l7 :: .val (.ref x) :: L) S k n H Q ↔ W (pj lw) 100 457 (l0 :: l1 :: l2 :: l3 :: l4 :: l5 :: l6 :: l7 :: .val (.ref x) :: L) (.ref x :: S) k n H Q := W_s (rfl : (pj lw).1 100 455 = some (.aload 8, 2, 0)) rfl rfl rfl
theorem w100_457 : W (pj lw) 100 457 L S k n H Q ↔ W (pj lw) 100 458 L (.int 1 :: S) k n H Q := W_s (rfl : (pj lw).1 100 457 = some (.iconst 1, 1, 0)) rfl rfl rfl
theorem w100_458 : W (pj lw) 100 458 L S k n H Q ↔ W (pj lw) 100 459 L (.int 0 :: S) k n H Q := W_s (rfl : (pj lw).1 100 458 = some (.iconst 0, 1, 0)) rfl rfl rfl
theorem w100_459 {a : Nat} {x0 : Int32} {x1 : Int32} : W (pj lw) 100 459 L (.int x1 :: .int x0 :: .ref a :: S) k n H Q ↔ ((isO H a = true ∧ cs S + (3 + 11) + 27 ≤ 160) ∧ Cl (pj lw) 29 [.ref a, .int x0, .int x1] H (fun v H => W (pj lw) 100 462 L (v.toList ++ S) k n H Q)) := W_inst (as := [.int x0, .int x1]) (rfl : (pj lw).1 100 459 = some (.invokevirtual 49, 3, 29)) rfl rfl rfl (Nat.le_of_ble_eq_true rfl) (Nat.le_of_ble_eq_true rfl) ⟨rfl, rfl⟩
theorem w100_462 {x : Int64} {l0 l1 l2 l3 l4 l5 l6 l7 l8 l9 l10 l11 l12 l13 l14 l15 l16 l17 l18 l19 : Slot} : W (pj lw) 100 462 (l0 :: l1 :: l2 :: l3 :: l4 :: l5 :: l6 :: l7 :: l8 :: l9 :: l10 :: l11 :: l12 :: l13 :: l14 :: l15 :: l16 :: l17 :: l18 :: l19 :: .val (.long x) :: L) S k n H Q ↔ W (pj lw) 100 464 (l0 :: l1 :: l2 :: l3 :: l4 :: l5 :: l6 :: l7 :: l8 :: l9 :: l10 :: l11 :: l12 :: l13 :: l14 :: l15 :: l16 :: l17 :: l18 :: l19 :: .val (.long x) :: L) (.long x :: S) k n H Q := W_s (rfl : (pj lw).1 100 462 = some (.lload 20, 2, 0)) rfl rfl rfl
theorem w100_464 {x : Int64} {l0 l1 l2 l3 l4 l5 l6 l7 l8 l9 l10 l11 l12 l13 l14 l15 l16 l17 l18 l19 l20 l21 l22 l23 l24 l25 l26 l27 : Slot} : W (pj lw) 100 464 (l0 :: l1 :: l2 :: l3 :: l4 :: l5 :: l6 :: l7 :: l8 :: l9 :: l10 :: l11 :: l12 :: l13 :: l14 :: l15 :: l16 :: l17 :: l18 :: l19 :: l20 :: l21 :: l22 :: l23 :: l24 :: l25 :: l26 :: l27 :: .val (.long x) :: L) S k n H Q ↔ W (pj lw) 100 466 (l0 :: l1 :: l2 :: l3 :: l4 :: l5 :: l6 :: l7 :: l8 :: l9 :: l10 :: l11 :: l12 :: l13 :: l14 :: l15 :: l16 :: l17 :: l18 :: l19 :: l20 :: l21 :: l22 :: l23 :: l24 :: l25 :: l26 :: l27 :: .val (.long x) :: L) (.long x :: S) k n H Q := W_s (rfl : (pj lw).1 100 464 = some (.lload 28, 2, 0)) rfl rfl rfl
theorem w100_466 {x y : Int64} : W (pj lw) 100 466 L (.long y :: .long x :: S) k n H Q ↔ W (pj lw) 100 467 L (.long (x + y) :: S) k n H Q := W_s (rfl : (pj lw).1 100 466 = some (.ladd, 1, 0)) rfl rfl rfl
theorem w100_467 {x : Int64} {l0 l1 l2 l3 l4 l5 l6 l7 l8 l9 l10 l11 l12 l13 l14 l15 l16 l17 l18 l19 l20 l21 l22 l23 l24 l25 : Slot} : W (pj lw) 100 467 (l0 :: l1 :: l2 :: l3 :: l4 :: l5 :: l6 :: l7 :: l8 :: l9 :: l10 :: l11 :: l12 :: l13 :: l14 :: l15 :: l16 :: l17 :: l18 :: l19 :: l20 :: l21 :: l22 :: l23 :: l24 :: l25 :: .val (.long x) :: L) S k n H Q ↔ W (pj lw) 100 469 (l0 :: l1 :: l2 :: l3 :: l4 :: l5 :: l6 :: l7 :: l8 :: l9 :: l10 :: l11 :: l12 :: l13 :: l14 :: l15 :: l16 :: l17 :: l18 :: l19 :: l20 :: l21 :: l22 :: l23 :: l24 :: l25 :: .val (.long x) :: L) (.long x :: S) k n H Q := W_s (rfl : (pj lw).1 100 467 = some (.lload 26, 2, 0)) rfl rfl rfl
theorem w100_469 {x y : Int64} : W (pj lw) 100 469 L (.long y :: .long x :: S) k n H Q ↔ W (pj lw) 100 470 L (.long (x - y) :: S) k n H Q := W_s (rfl : (pj lw).1 100 469 = some (.lsub, 1, 0)) rfl rfl rfl
theorem w100_470 {x y : Int64} : W (pj lw) 100 470 L (.long y :: .long x :: S) k n H Q ↔ W (pj lw) 100 471 L (.int (Jvm.Free.XT.cmpL x y) :: S) k n H Q := W_s (rfl : (pj lw).1 100 470 = some (.lcmp, 1, 0)) rfl rfl rfl
theorem w100_471 {x : Int32} : W (pj lw) 100 471 L (.int x :: S) k n H Q ↔ (if x = 0 then W (pj lw) 100 476 L S k n H Q else W (pj lw) 100 474 L S k n H Q) := W_if_eq (rfl : (pj lw).1 100 471 = some (.ifCond .eq 5, 3, 0)) rfl
theorem w100_476 {x : Nat} {l0 l1 l2 l3 l4 l5 l6 l7 : Slot} : W (pj lw) 100 476 (l0 :: l1 :: l2 :: l3 :: l4 :: l5 :: l6 :: l7 :: .val (.ref x) :: L) S k n H Q ↔ W (pj lw) 100 478 (l0 :: l1 :: l2 :: l3 :: l4 :: l5 :: l6 :: l7 :: .val (.ref x) :: L) (.ref x :: S) k n H Q := W_s (rfl : (pj lw).1 100 476 = some (.aload 8, 2, 0)) rfl rfl rfl
theorem w100_478 : W (pj lw) 100 478 L S k n H Q ↔ W (pj lw) 100 479 L (.int 1 :: S) k n H Q := W_s (rfl : (pj lw).1 100 478 = some (.iconst 1, 1, 0)) rfl rfl rfl
theorem w100_479 : W (pj lw) 100 479 L S k n H Q ↔ W (pj lw) 100 480 L (.int 2 :: S) k n H Q := W_s (rfl : (pj lw).1 100 479 = some (.iconst 2, 1, 0)) rfl rfl rfl
theorem w100_480 {a : Nat} {x0 : Int32} {x1 : Int32} : W (pj lw) 100 480 L (.int x1 :: .int x0 :: .ref a :: S) k n H Q ↔ ((isO H a = true ∧ cs S + (3 + 11) + 27 ≤ 160) ∧ Cl (pj lw) 29 [.ref a, .int x0, .int x1] H (fun v H => W (pj lw) 100 483 L (v.toList ++ S) k n H Q)) := W_inst (as := [.int x0, .int x1]) (rfl : (pj lw).1 100 480 = some (.invokevirtual 49, 3, 29)) rfl rfl rfl (Nat.le_of_ble_eq_true rfl) (Nat.le_of_ble_eq_true rfl) ⟨rfl, rfl⟩
theorem w100_483 {x : Int64} {l0 l1 l2 l3 l4 l5 l6 l7 l8 l9 l10 l11 l12 l13 l14 l15 l16 l17 l18 l19 l20 l21 : Slot} : W (pj lw) 100 483 (l0 :: l1 :: l2 :: l3 :: l4 :: l5 :: l6 :: l7 :: l8 :: l9 :: l10 :: l11 :: l12 :: l13 :: l14 :: l15 :: l16 :: l17 :: l18 :: l19 :: l20 :: l21 :: .val (.long x) :: L) S k n H Q ↔ W (pj lw) 100 485 (l0 :: l1 :: l2 :: l3 :: l4 :: l5 :: l6 :: l7 :: l8 :: l9 :: l10 :: l11 :: l12 :: l13 :: l14 :: l15 :: l16 :: l17 :: l18 :: l19 :: l20 :: l21 :: .val (.long x) :: L) (.long x :: S) k n H Q := W_s (rfl : (pj lw).1 100 483 = some (.lload 22, 2, 0)) rfl rfl rfl
theorem w100_485 {x : Int64} {l0 l1 l2 l3 l4 l5 l6 l7 l8 l9 l10 l11 l12 l13 l14 l15 l16 l17 l18 l19 l20 l21 l22 l23 l24 l25 l26 l27 : Slot} : W (pj lw) 100 485 (l0 :: l1 :: l2 :: l3 :: l4 :: l5 :: l6 :: l7 :: l8 :: l9 :: l10 :: l11 :: l12 :: l13 :: l14 :: l15 :: l16 :: l17 :: l18 :: l19 :: l20 :: l21 :: l22 :: l23 :: l24 :: l25 :: l26 :: l27 :: .val (.long x) :: L) S k n H Q ↔ W (pj lw) 100 487 (l0 :: l1 :: l2 :: l3 :: l4 :: l5 :: l6 :: l7 :: l8 :: l9 :: l10 :: l11 :: l12 :: l13 :: l14 :: l15 :: l16 :: l17 :: l18 :: l19 :: l20 :: l21 :: l22 :: l23 :: l24 :: l25 :: l26 :: l27 :: .val (.long x) :: L) (.long x :: S) k n H Q := W_s (rfl : (pj lw).1 100 485 = some (.lload 28, 2, 0)) rfl rfl rfl
theorem w100_487 {x y : Int64} : W (pj lw) 100 487 L (.long y :: .long x :: S) k n H Q ↔ W (pj lw) 100 488 L (.long (x + y) :: S) k n H Q := W_s (rfl : (pj lw).1 100 487 = some (.ladd, 1, 0)) rfl rfl rfl
theorem w100_488 {x : Int64} {l0 l1 l2 l3 l4 l5 l6 l7 l8 l9 l10 l11 l12 l13 l14 l15 l16 l17 l18 l19 l20 l21 l22 l23 l24 l25 l26 l27 l28 l29 : Slot} : W (pj lw) 100 488 (l0 :: l1 :: l2 :: l3 :: l4 :: l5 :: l6 :: l7 :: l8 :: l9 :: l10 :: l11 :: l12 :: l13 :: l14 :: l15 :: l16 :: l17 :: l18 :: l19 :: l20 :: l21 :: l22 :: l23 :: l24 :: l25 :: l26 :: l27 :: l28 :: l29 :: .val (.long x) :: L) S k n H Q ↔ W (pj lw) 100 490 (l0 :: l1 :: l2 :: l3 :: l4 :: l5 :: l6 :: l7 :: l8 :: l9 :: l10 :: l11 :: l12 :: l13 :: l14 :: l15 :: l16 :: l17 :: l18 :: l19 :: l20 :: l21 :: l22 :: l23 :: l24 :: l25 :: l26 :: l27 :: l28 :: l29 :: .val (.long x) :: L) (.long x :: S) k n H Q := W_s (rfl : (pj lw).1 100 488 = some (.lload 30, 2, 0)) rfl rfl rfl
theorem w100_490 {x y : Int64} : W (pj lw) 100 490 L (.long y :: .long x :: S) k n H Q ↔ W (pj lw) 100 491 L (.long (x - y) :: S) k n H Q := W_s (rfl : (pj lw).1 100 490 = some (.lsub, 1, 0)) rfl rfl rfl
theorem w100_491 {x y : Int64} : W (pj lw) 100 491 L (.long y :: .long x :: S) k n H Q ↔ W (pj lw) 100 492 L (.int (Jvm.Free.XT.cmpL x y) :: S) k n H Q := W_s (rfl : (pj lw).1 100 491 = some (.lcmp, 1, 0)) rfl rfl rfl
theorem w100_492 {x : Int32} : W (pj lw) 100 492 L (.int x :: S) k n H Q ↔ (if x = 0 then W (pj lw) 100 497 L S k n H Q else W (pj lw) 100 495 L S k n H Q) := W_if_eq (rfl : (pj lw).1 100 492 = some (.ifCond .eq 5, 3, 0)) rfl
theorem w100_497 {x : Nat} {l0 l1 l2 l3 l4 l5 l6 l7 : Slot} : W (pj lw) 100 497 (l0 :: l1 :: l2 :: l3 :: l4 :: l5 :: l6 :: l7 :: .val (.ref x) :: L) S k n H Q ↔ W (pj lw) 100 499 (l0 :: l1 :: l2 :: l3 :: l4 :: l5 :: l6 :: l7 :: .val (.ref x) :: L) (.ref x :: S) k n H Q := W_s (rfl : (pj lw).1 100 497 = some (.aload 8, 2, 0)) rfl rfl rfl
theorem w100_499 : W (pj lw) 100 499 L S k n H Q ↔ W (pj lw) 100 500 L (.int 2 :: S) k n H Q := W_s (rfl : (pj lw).1 100 499 = some (.iconst 2, 1, 0)) rfl rfl rfl
theorem w100_500 : W (pj lw) 100 500 L S k n H Q ↔ W (pj lw) 100 501 L (.int 0 :: S) k n H Q := W_s (rfl : (pj lw).1 100 500 = some (.iconst 0, 1, 0)) rfl rfl rfl
theorem w100_501 {a : Nat} {x0 : Int32} {x1 : Int32} : W (pj lw) 100 501 L (.int x1 :: .int x0 :: .ref a :: S) k n H Q ↔ ((isO H a = true ∧ cs S + (3 + 11) + 27 ≤ 160) ∧ Cl (pj lw) 29 [.ref a, .int x0, .int x1] H (fun v H => W (pj lw) 100 504 L (v.toList ++ S) k n H Q)) := W_inst (as := [.int x0, .int x1]) (rfl : (pj lw).1 100 501 = some (.invokevirtual 49, 3, 29)) rfl rfl rfl (Nat.le_of_ble_eq_true rfl) (Nat.le_of_ble_eq_true rfl) ⟨rfl, rfl⟩
theorem w100_504 {x : Int64} {l0 l1 l2 l3 l4 l5 l6 l7 l8 l9 l10 l11 l12 l13 l14 l15 l16 l17 l18 l19 l20 l21 l22 l23 : Slot} : W (pj lw) 100 504 (l0 :: l1 :: l2 :: l3 :: l4 :: l5 :: l6 :: l7 :: l8 :: l9 :: l10 :: l11 :: l12 :: l13 :: l14 :: l15 :: l16 :: l17 :: l18 :: l19 :: l20 :: l21 :: l22 :: l23 :: .val (.long x) :: L) S k n H Q ↔ W (pj lw) 100 506 (l0 :: l1 :: l2 :: l3 :: l4 :: l5 :: l6 :: l7 :: l8 :: l9 :: l10 :: l11 :: l12 :: l13 :: l14 :: l15 :: l16 :: l17 :: l18 :: l19 :: l20 :: l21 :: l22 :: l23 :: .val (.long x) :: L) (.long x :: S) k n H Q := W_s (rfl : (pj lw).1 100 504 = some (.lload 24, 2, 0)) rfl rfl rfl
theorem w100_506 {x : Int64} {l0 l1 l2 l3 l4 l5 l6 l7 l8 l9 l10 l11 l12 l13 l14 l15 l16 l17 l18 l19 l20 l21 l22 l23 l24 l25 l26 l27 l28 l29 : Slot} : W (pj lw) 100 506 (l0 :: l1 :: l2 :: l3 :: l4 :: l5 :: l6 :: l7 :: l8 :: l9 :: l10 :: l11 :: l12 :: l13 :: l14 :: l15 :: l16 :: l17 :: l18 :: l19 :: l20 :: l21 :: l22 :: l23 :: l24 :: l25 :: l26 :: l27 :: l28 :: l29 :: .val (.long x) :: L) S k n H Q ↔ W (pj lw) 100 508 (l0 :: l1 :: l2 :: l3 :: l4 :: l5 :: l6 :: l7 :: l8 :: l9 :: l10 :: l11 :: l12 :: l13 :: l14 :: l15 :: l16 :: l17 :: l18 :: l19 :: l20 :: l21 :: l22 :: l23 :: l24 :: l25 :: l26 :: l27 :: l28 :: l29 :: .val (.long x) :: L) (.long x :: S) k n H Q := W_s (rfl : (pj lw).1 100 506 = some (.lload 30, 2, 0)) rfl rfl rfl
theorem w100_508 {x y : Int64} : W (pj lw) 100 508 L (.long y :: .long x :: S) k n H Q ↔ W (pj lw) 100 509 L (.long (x + y) :: S) k n H Q := W_s (rfl : (pj lw).1 100 508 = some (.ladd, 1, 0)) rfl rfl rfl
theorem w100_509 {x : Int64} {l0 l1 l2 l3 l4 l5 l6 l7 l8 l9 l10 l11 l12 l13 l14 l15 l16 l17 l18 l19 l20 l21 l22 l23 l24 l25 : Slot} : W (pj lw) 100 509 (l0 :: l1 :: l2 :: l3 :: l4 :: l5 :: l6 :: l7 :: l8 :: l9 :: l10 :: l11 :: l12 :: l13 :: l14 :: l15 :: l16 :: l17 :: l18 :: l19 :: l20 :: l21 :: l22 :: l23 :: l24 :: l25 :: .val (.long x) :: L) S k n H Q ↔ W (pj lw) 100 511 (l0 :: l1 :: l2 :: l3 :: l4 :: l5 :: l6 :: l7 :: l8 :: l9 :: l10 :: l11 :: l12 :: l13 :: l14 :: l15 :: l16 :: l17 :: l18 :: l19 :: l20 :: l21 :: l22 :: l23 :: l24 :: l25 :: .val (.long x) :: L) (.long x :: S) k n H Q := W_s (rfl : (pj lw).1 100 509 = some (.lload 26, 2, 0)) rfl rfl rfl
theorem w100_511 {x y : Int64} : W (pj lw) 100 511 L (.long y :: .long x :: S) k n H Q ↔ W (pj lw) 100 512 L (.long (x - y) :: S) k n H Q := W_s (rfl : (pj lw).1 100 511 = some (.lsub, 1, 0)) rfl rfl rfl
theorem w100_512 {x y : Int64} : W (pj lw) 100 512 L (.long y :: .long x :: S) k n H Q ↔ W (pj lw) 100 513 L (.int (Jvm.Free.XT.cmpL x y) :: S) k n H Q := W_s (rfl : (pj lw).1 100 512 = some (.lcmp, 1, 0)) rfl rfl rfl
theorem w100_513 {x : Int32} : W (pj lw) 100 513 L (.int x :: S) k n H Q ↔ (if x = 0 then W (pj lw) 100 518 L S k n H Q else W (pj lw) 100 516 L S k n H Q) := W_if_eq (rfl : (pj lw).1 100 513 = some (.ifCond .eq 5, 3, 0)) rfl
theorem w100_518 {x : Nat} {l0 l1 l2 l3 l4 l5 l6 l7 : Slot} : W (pj lw) 100 518 (l0 :: l1 :: l2 :: l3 :: l4 :: l5 :: l6 :: l7 :: .val (.ref x) :: L) S k n H Q ↔ W (pj lw) 100 520 (l0 :: l1 :: l2 :: l3 :: l4 :: l5 :: l6 :: l7 :: .val (.ref x) :: L) (.ref x :: S) k n H Q := W_s (rfl : (pj lw).1 100 518 = some (.aload 8, 2, 0)) rfl rfl rfl
theorem w100_520 : W (pj lw) 100 520 L S k n H Q ↔ W (pj lw) 100 521 L (.int 0 :: S) k n H Q := W_s (rfl : (pj lw).1 100 520 = some (.iconst 0, 1, 0)) rfl rfl rfl
theorem w100_521 : W (pj lw) 100 521 L S k n H Q ↔ W (pj lw) 100 522 L (.int 2 :: S) k n H Q := W_s (rfl : (pj lw).1 100 521 = some (.iconst 2, 1, 0)) rfl rfl rfl
theorem w100_522 {a : Nat} {x0 : Int32} {x1 : Int32} : W (pj lw) 100 522 L (.int x1 :: .int x0 :: .ref a :: S) k n H Q ↔ ((isO H a = true ∧ cs S + (3 + 11) + 27 ≤ 160) ∧ Cl (pj lw) 29 [.ref a, .int x0, .int x1] H (fun v H => W (pj lw) 100 525 L (v.toList ++ S) k n H Q)) := W_inst (as := [.int x0, .int x1]) (rfl : (pj lw).1 100 522 = some (.invokevirtual 49, 3, 29)) rfl rfl rfl (Nat.le_of_ble_eq_true rfl) (Nat.le_of_ble_eq_true rfl) ⟨rfl, rfl⟩
theorem w100_525 : W (pj lw) 100 525 L S k n H Q ↔ W (pj lw) 100 528 L (.long (-1) :: S) k n H Q := W_s (rfl : (pj lw).1 100 525 = some (.ldc2_w 53, 3, (-1))) rfl rfl rfl
theorem w100_528 {x y : Int64} : W (pj lw) 100 528 L (.long y :: .long x :: S) k n H Q ↔ W (pj lw) 100 529 L (.int (Jvm.Free.XT.cmpL x y) :: S) k n H Q := W_s (rfl : (pj lw).1 100 528 = some (.lcmp, 1, 0)) rfl rfl rfl
theorem w100_529 {x : Int32} : W (pj lw) 100 529 L (.int x :: S) k n H Q ↔ (if x = 0 then W (pj lw) 100 532 L S k n H Q else W (pj lw) 100 536 L S k n H Q) := W_if_ne (rfl : (pj lw).1 100 529 = some (.ifCond .ne 7, 3, 0)) rfl
theorem w100_532 : W (pj lw) 100 532 L S k n H Q ↔ W (pj lw) 100 533 L (.int 1 :: S) k n H Q := W_s (rfl : (pj lw).1 100 532 = some (.iconst 1, 1, 0)) rfl rfl rfl
theorem w100_533 : W (pj lw) 100 533 L S k n H Q ↔ W (pj lw) 100 537 L S k n H Q := W_goto (rfl : (pj lw).1 100 533 = some (.goto 4, 3, 0)) rfl
theorem w100_537 {x : Int32} : W (pj lw) 100 537 L (.int x :: S) k n H Q ↔ ((x = 0 ∨ x = 1) ∧ Q (some (.int x)) H) := W_rz (rfl : (pj lw).1 100 537 = some (.ireturn, 1, 0)) rfl
theorem c103 {x0 : Int64} {x1 : Int64} : Cl (pj lw) 103 [.long x0, .long x1] H Q ↔ W (pj lw) 103 0 [.val (.long x0), .second, .val (.long x1), .second] [] 0 0 H Q := cl_unf rfl
theorem w103_0 {x : Int64} : W (pj lw) 103 0 (.val (.long x) :: L) S k n H Q ↔ W (pj lw) 103 1 (.val (.long x) :: L) (.long x :: S) k n H Q := W_s (rfl : (pj lw).1 103 0 = some (.lload_n 0, 1, 0)) rfl rfl rfl
theorem w103_1 {x : Int64} {l0 l1 : Slot} : W (pj lw) 103 1 (l0 :: l1 :: .val (.long x) :: L) S k n H Q ↔ W (pj lw) 103 2 (l0 :: l1 :: .val (.long x) :: L) (.long x :: S) k n H Q := W_s (rfl : (pj lw).1 103 1 = some (.lload_n 2, 1, 0)) rfl rfl rfl
theorem w103_2 {x y : Int64} : W (pj lw) 103 2 L (.long y :: .long x :: S) k n H Q ↔ W (pj lw) 103 3 L (.int (Jvm.Free.XT.cmpL x y) :: S) k n H Q := W_s (rfl : (pj lw).1 103 2 = some (.lcmp, 1, 0)) rfl rfl rfl
theorem w103_3 {x : Int32} : W (pj lw) 103 3 L (.int x :: S) k n H Q ↔ (if x < 0 then W (pj lw) 103 6 L S k n H Q else W (pj lw) 103 10 L S k n H Q) := W_if_ge (rfl : (pj lw).1 103 3 = some (.ifCond .ge 7, 3, 0)) rfl
theorem w103_6 {x : Int64} : W (pj lw) 103 6 (.val (.long x) :: L) S k n H Q ↔ W (pj lw) 103 7 (.val (.long x) :: L) (.long x :: S) k n H Q := W_s (rfl : (pj lw).1 103 6 = some (.lload_n 0, 1, 0)) rfl rfl rfl
theorem w103_7 : W (pj lw) 103 7 L S k n H Q ↔ W (pj lw) 103 11 L S k n H Q := W_goto (rfl : (pj lw).1 103 7 = some (.goto 4, 3, 0)) rfl
theorem w103_10 {x : Int64} {l0 l1 : Slot} : W (pj lw) 103 10 (l0 :: l1 :: .val (.long x) :: L) S k n H Q ↔ W (pj lw) 103 11 (l0 :: l1 :: .val (.long x) :: L) (.long x :: S) k n H Q := W_s (rfl : (pj lw).1 103 10 = some (.lload_n 2, 1, 0)) rfl rfl rfl
theorem w103_11 {x : Int64} : W (pj lw) 103 11 L (.long x :: S) k n H Q ↔ Q (some (.long x)) H := W_r (rfl : (pj lw).1 103 11 = some (.lreturn, 1, 0)) rfl
end LPc
section X5
variable {H : AH} {p : Nat} {s s' : St} {Q : Option Value → AH → Prop} {k n : Nat} {x y a b c d i0 i1 i2 i3 : Int32} {X Y : Int}
theorem s103 (hX : -1000000000000000000 ≤ X ∧ X ≤ 1000000000000000000) (hY : -1000000000000000000 ≤ Y ∧ Y ≤ 1000000000000000000) : Cl (pj lw) 103 [.long (oi X), .long (oi Y)] H Q ↔ Q (some (.long (oi (min X Y)))) H := by
  rw [c103]
  by_cases q : X < Y
  · have q' := eq_true ((oi_lt hX hY).2 q)
    rw [show min X Y = X by omega]
    simp +decide only [w103_0, w103_1, w103_2, w103_3, w103_6, w103_7, w103_11, cmpL_lt, ↓reduceIte, q']
  · have q' := eq_false (fun w => q ((oi_lt hX hY).1 w))
    rw [show min X Y = Y by omega]
    simp +decide only [w103_0, w103_1, w103_2, w103_3, w103_10, w103_11, cmpL_lt, ↓reduceIte, q']
theorem l3 : (3 : Int64) = oi 3 := by decide
theorem l2 : (2 : Int64) = oi 2 := by decide
theorem rmw (x : Int32) : wb (x % 10001) ∧ ((x % 10001 < -10000) = False) ∧ ((10000 < x % 10001) = False) := by
  have e : (x % 10001).toInt = x.toInt.tmod 10001 := Int32.toInt_mod ..
  have h1 : x.toInt.tmod 10001 < 10001 := Int.tmod_lt_of_pos _ (by decide)
  have h2 : -10001 < x.toInt.tmod 10001 := by have := Int.lt_tmod_of_pos x.toInt (show (0 : Int) < 10001 by decide); omega
  refine ⟨⟨by omega, by omega⟩, eq_false ?_, eq_false ?_⟩
  · rw [lt32, e]; simp only [Int32.reduceToInt]; omega
  · rw [lt32, e]; simp only [Int32.reduceToInt]; omega
set_option maxRecDepth 100000 in
set_option maxHeartbeats 4000000 in
theorem fin2 (ra : wb a) (rb : wb b) (rc : wb c) (rd : wb d) (hl : ¬ (a.toInt + c.toInt + d.toInt) * 2 < (a.toInt + b.toInt) * 3) (S : SO s a b c d 2 2 (a.toInt + b.toInt) (if (a.toInt + c.toInt + d.toInt) * 2 ≤ (a.toInt + b.toInt) * 3 then 1 else 0) (-1)) :
    W (pj lw) 100 99 [.val (.int i0), .val (.int i1), .val (.int i2), .val (.int i3), .val (.int a), .val (.int b), .val (.int c), .val (.int d), .val (.ref p), .unset, .unset, .unset, .unset, .unset, .unset, .unset, .unset, .unset, .unset, .unset, .unset, .unset, .unset, .unset, .unset, .unset, .unset, .unset, .unset, .unset, .unset, .unset] [.int 1] k n (ob H p s) (fun v _ => v = some (.int 1)) := by
  unfold wb at ra rb rc rd
  obtain ⟨⟨⟨n3, -⟩, hz, wa, wb', wc, wd⟩, ⟨f4, f5, f6, f7⟩, ⟨e0, e1, e2⟩, ⟨cr0, cr1, cr2⟩, k0, k1, k2⟩ := S
  have h1 : sA s 1 1 = 1 := by rw [hz 1 (by decide)]; rfl
  have h24 : sA s 1 24 = 1 := by rw [hz 24 (by decide)]; rfl
  have h26 : sA s 1 26 = 1 := by rw [hz 26 (by decide)]; rfl
  have h48 : sA s 1 48 = 1 := by rw [hz 48 (by decide)]; rfl
  have h2z : sA s 1 2 = 0 := by rw [hz 2 (by decide)]; rfl
  have hlong := eq_false (fun w => hl (by have := (oi_lt (x := 2 * (a.toInt + c.toInt + d.toInt)) (y := 3 * (a.toInt + b.toInt)) (by omega) (by omega)).1 w; omega))
  unfold P0 at k0
  unfold P1 at k1
  unfold P2 at k2

  by_cases hc : (a.toInt + c.toInt + d.toInt) * 2 ≤ (a.toInt + b.toInt) * 3
  · rw [if_pos hc] at cr2
    have hge := eq_false (fun w => (show ¬ 3 * (a.toInt + b.toInt) < 2 * (a.toInt + c.toInt + d.toInt) by omega) ((oi_lt (x := 3 * (a.toInt + b.toInt)) (y := 2 * (a.toInt + c.toInt + d.toInt)) (by omega) (by omega)).1 w))
    simp +decide only [w100_99, w100_100, w100_105, w100_107, w100_108, w100_110, w100_111, w100_112uu, w100_114, w100_116, w100_117, w100_119, w100_120, w100_121, w100_123, w100_124, w100_125uu, w100_127, w100_130, w100_132, w100_133, w100_136, w100_138, w100_139, w100_140, w100_147, w100_148, w100_150, w100_152, w100_161, w100_164uu, w100_166, w100_168, w100_176, w100_178uu, w100_180, w100_182, w100_184, w100_185, w100_186, w100_188, w100_189uu, w100_191, w100_193, w100_195, w100_196, w100_197, w100_199, w100_200uu, w100_202, w100_204, w100_206, w100_207, w100_208, w100_210, w100_211uu, w100_213, w100_215, w100_217, w100_218, w100_219, w100_221, w100_222uu, w100_224, w100_225, w100_227, cmpL_gt, true_and, ↓reduceIte, oi_32, oi_add, oi_mul, oi_sub, l3, l2, hlong, oi0]
    refine (s103 (by omega) (by omega)).2 ?_
    simp +decide only [w100_230, w100_232, w100_234, w100_236, w100_237, cs_nil, cs_long, Option.toList_some, List.cons_append, List.nil_append, true_and, Nat.reduceAdd, Nat.reduceLeDiff, Int32.reduceAdd, Int64.reduceAdd, Nat.add_zero, oi_add]
    refine (s103 (by omega) (by omega)).2 ?_
    simp +decide only [w100_240, Option.toList_some, List.cons_append, List.nil_append, true_and]
    refine (s103 (by omega) (by omega)).2 ?_
    simp +decide only [w100_243uu, w100_245, w100_246, w100_248, w100_250, w100_252, w100_253, Option.toList_some, List.cons_append, List.nil_append, true_and, oi_add, oi0]
    refine (s103 (by omega) (by omega)).2 ?_
    simp +decide only [w100_256, Option.toList_some, List.cons_append, List.nil_append, true_and]
    refine (s103 (by omega) (by omega)).2 ?_
    simp +decide only [w100_259uu, w100_261, w100_262, w100_264, w100_266, w100_268, w100_269, Option.toList_some, List.cons_append, List.nil_append, true_and, oi_add, oi0]
    refine (s103 (by omega) (by omega)).2 ?_
    simp +decide only [w100_272, Option.toList_some, List.cons_append, List.nil_append, true_and]
    refine (s103 (by omega) (by omega)).2 ?_
    simp +decide only [w100_275uu, w100_277, w100_279, w100_282, w100_283, w100_285, w100_286, w100_289, w100_291, w100_294, w100_296, w100_297, w100_302, w100_304, w100_305, w100_308, w100_311, w100_313, w100_314, w100_317, w100_318, w100_323, w100_325, w100_326, w100_329, w100_331, w100_338, w100_339, w100_344, w100_346, w100_347, w100_350, w100_353, w100_355, w100_356, w100_359, w100_364, w100_366, w100_367, w100_370, w100_373, w100_375, w100_376, w100_379, w100_381, w100_382, w100_383, w100_386, w100_387, w100_391, w100_396, w100_398, w100_399, w100_402, w100_404, w100_405, w100_408, w100_410, w100_411, w100_414, w100_416, w100_417, w100_420, w100_422, w100_423, w100_426, w100_428, w100_429, w100_434, w100_436, w100_437, w100_438, w100_441, w100_443, w100_445, w100_446, w100_448, w100_449, w100_450, w100_455, w100_457, w100_458, w100_459, w100_462, w100_464, w100_466, w100_467, w100_469, w100_470, w100_471, w100_476, w100_478, w100_479, w100_480, w100_483, w100_485, w100_487, w100_488, w100_490, w100_491, w100_492, w100_497, w100_499, w100_500, w100_501, w100_504, w100_506, w100_508, w100_509, w100_511, w100_512, w100_513, w100_518, w100_520, w100_521, w100_522, w100_525, w100_528, w100_529, w100_532, w100_533, w100_537, isO_put, cmpL_lt, cmpL_eq, Option.toList_some, List.cons_append, List.nil_append, and_true, or_true, ↓reduceIte, Nat.reduceAdd, Int32.reduceAdd, Int32.reduceMul, Int32.reduceToNatClampNeg, Int64.reduceAdd, Int64.reduceMul, Int32.reduceToInt, g0, g2, g3, g4, g5, g6, g7, g8, g9, g10, ai1, ain1, ae1, ai2, ae2, ai3, ae3, ai4, ain4, ae4, ai5, ae5, ain1, ain4, c2, w2_0, w2_1, w2_4, w2_5, w2_6, w2_9, w2_12, w2_13, w2_17, c8, w8_0, w8_1, w8_2, w8_5, w8_8, w8_9, w8_10, w8_13, w8_16, w8_17, w8_20, w8_21, w8_23, w8_24, w8_25, w8_26, w8_27, w8_30, w8_31, w8_34, w8_35, c23, w23_0, w23_1, w23_4, w23_7, w23_8, w23_11, w23_14, w23_15, w23_19, c24, w24_0, w24_1, w24_4, w24_7, w24_8, w24_11, w24_15, c25, w25_0, w25_1, w25_4, w25_7, w25_8, w25_11, w25_15, c26, w26_0, w26_1, w26_4, w26_7, w26_8, w26_11, w26_12, w26_13, w26_16, w26_19, w26_20, w26_21, w26_22, w26_25, w26_26, w26_27, c27, w27_0, w27_1, w27_4, w27_7, w27_8, w27_9, w27_12, w27_15, w27_16, w27_19, w27_20, w27_21, w27_24, w27_25, w27_29, c28, w28_0, w28_1, w28_4, w28_7, w28_8, w28_9, w28_12, w28_17, w28_18, w28_21, w28_22, w28_23, c29, w29_0, w29_1, w29_4, w29_7, w29_8, w29_9, w29_10, w29_13, w29_16, w29_19, w29_20, w29_21, w29_24, w29_25, w29_26, w29_29, w29_30, w29_32, w29_33, w29_34, w29_35, w29_36, w29_37, w29_38, w29_39, w29_42, w29_43, w29_44, w29_47, w29_48, w29_49, w29_50, w29_51, w29_54, w29_55, w29_56, w29_57, n3, f4, f5, f6, f7, h1, h24, h26, h48, h2z, wa, wb', wc, wd, e0, e1, cr0, cr1, cr2, hge, k0, k1, k2, oi_32, oi_mul, oi_add, oi_sub, l3, l2]
  · rw [if_neg hc] at cr2
    have hge := eq_true ((oi_lt (x := 3 * (a.toInt + b.toInt)) (y := 2 * (a.toInt + c.toInt + d.toInt)) (by omega) (by omega)).2 (by omega))
    simp +decide only [w100_99, w100_100, w100_105, w100_107, w100_108, w100_110, w100_111, w100_112uu, w100_114, w100_116, w100_117, w100_119, w100_120, w100_121, w100_123, w100_124, w100_125uu, w100_127, w100_130, w100_132, w100_133, w100_136, w100_138, w100_139, w100_140, w100_147, w100_148, w100_150, w100_152, w100_161, w100_164uu, w100_166, w100_168, w100_176, w100_178uu, w100_180, w100_182, w100_184, w100_185, w100_186, w100_188, w100_189uu, w100_191, w100_193, w100_195, w100_196, w100_197, w100_199, w100_200uu, w100_202, w100_204, w100_206, w100_207, w100_208, w100_210, w100_211uu, w100_213, w100_215, w100_217, w100_218, w100_219, w100_221, w100_222uu, w100_224, w100_225, w100_227, cmpL_gt, true_and, ↓reduceIte, oi_32, oi_add, oi_mul, oi_sub, l3, l2, hlong, oi0]
    refine (s103 (by omega) (by omega)).2 ?_
    simp +decide only [w100_230, w100_232, w100_234, w100_236, w100_237, cs_nil, cs_long, Option.toList_some, List.cons_append, List.nil_append, true_and, Nat.reduceAdd, Nat.reduceLeDiff, Int32.reduceAdd, Int64.reduceAdd, Nat.add_zero, oi_add]
    refine (s103 (by omega) (by omega)).2 ?_
    simp +decide only [w100_240, Option.toList_some, List.cons_append, List.nil_append, true_and]
    refine (s103 (by omega) (by omega)).2 ?_
    simp +decide only [w100_243uu, w100_245, w100_246, w100_248, w100_250, w100_252, w100_253, Option.toList_some, List.cons_append, List.nil_append, true_and, oi_add, oi0]
    refine (s103 (by omega) (by omega)).2 ?_
    simp +decide only [w100_256, Option.toList_some, List.cons_append, List.nil_append, true_and]
    refine (s103 (by omega) (by omega)).2 ?_
    simp +decide only [w100_259uu, w100_261, w100_262, w100_264, w100_266, w100_268, w100_269, Option.toList_some, List.cons_append, List.nil_append, true_and, oi_add, oi0]
    refine (s103 (by omega) (by omega)).2 ?_
    simp +decide only [w100_272, Option.toList_some, List.cons_append, List.nil_append, true_and]
    refine (s103 (by omega) (by omega)).2 ?_
    simp +decide only [w100_275uu, w100_277, w100_279, w100_282, w100_283, w100_285, w100_286, w100_289, w100_291, w100_294, w100_296, w100_297, w100_302, w100_304, w100_305, w100_308, w100_311, w100_313, w100_314, w100_317, w100_318, w100_323, w100_325, w100_326, w100_329, w100_331, w100_338, w100_339, w100_344, w100_346, w100_347, w100_350, w100_353, w100_355, w100_356, w100_359, w100_364, w100_366, w100_367, w100_370, w100_373, w100_375, w100_376, w100_379, w100_381, w100_382, w100_383, w100_390, w100_391, w100_396, w100_398, w100_399, w100_402, w100_404, w100_405, w100_408, w100_410, w100_411, w100_414, w100_416, w100_417, w100_420, w100_422, w100_423, w100_426, w100_428, w100_429, w100_434, w100_436, w100_437, w100_438, w100_441, w100_443, w100_445, w100_446, w100_448, w100_449, w100_450, w100_455, w100_457, w100_458, w100_459, w100_462, w100_464, w100_466, w100_467, w100_469, w100_470, w100_471, w100_476, w100_478, w100_479, w100_480, w100_483, w100_485, w100_487, w100_488, w100_490, w100_491, w100_492, w100_497, w100_499, w100_500, w100_501, w100_504, w100_506, w100_508, w100_509, w100_511, w100_512, w100_513, w100_518, w100_520, w100_521, w100_522, w100_525, w100_528, w100_529, w100_532, w100_533, w100_537, isO_put, cmpL_lt, cmpL_eq, Option.toList_some, List.cons_append, List.nil_append, and_true, or_true, ↓reduceIte, Nat.reduceAdd, Int32.reduceAdd, Int32.reduceMul, Int32.reduceToNatClampNeg, Int64.reduceAdd, Int64.reduceMul, Int32.reduceToInt, g0, g2, g3, g4, g5, g6, g7, g8, g9, g10, ai1, ain1, ae1, ai2, ae2, ai3, ae3, ai4, ain4, ae4, ai5, ae5, ain1, ain4, c2, w2_0, w2_1, w2_4, w2_5, w2_6, w2_9, w2_12, w2_13, w2_17, c8, w8_0, w8_1, w8_2, w8_5, w8_8, w8_9, w8_10, w8_13, w8_16, w8_17, w8_20, w8_21, w8_23, w8_24, w8_25, w8_26, w8_27, w8_30, w8_31, w8_34, w8_35, c23, w23_0, w23_1, w23_4, w23_7, w23_8, w23_11, w23_14, w23_15, w23_19, c24, w24_0, w24_1, w24_4, w24_7, w24_8, w24_11, w24_15, c25, w25_0, w25_1, w25_4, w25_7, w25_8, w25_11, w25_15, c26, w26_0, w26_1, w26_4, w26_7, w26_8, w26_11, w26_12, w26_13, w26_16, w26_19, w26_20, w26_21, w26_22, w26_25, w26_26, w26_27, c27, w27_0, w27_1, w27_4, w27_7, w27_8, w27_9, w27_12, w27_15, w27_16, w27_19, w27_20, w27_21, w27_24, w27_25, w27_28, w27_29, c28, w28_0, w28_1, w28_4, w28_7, w28_8, w28_9, w28_12, w28_17, w28_18, w28_21, w28_22, w28_23, c29, w29_0, w29_1, w29_4, w29_7, w29_8, w29_9, w29_10, w29_13, w29_16, w29_19, w29_20, w29_21, w29_24, w29_25, w29_26, w29_29, w29_30, w29_32, w29_33, w29_34, w29_35, w29_36, w29_37, w29_38, w29_39, w29_42, w29_43, w29_44, w29_47, w29_48, w29_49, w29_50, w29_51, w29_54, w29_55, w29_56, w29_57, n3, f4, f5, f6, f7, h1, h24, h26, h48, h2z, wa, wb', wc, wd, e0, e1, cr0, cr1, cr2, hge, k0, k1, k2, oi_32, oi_mul, oi_add, oi_sub, l3, l2]
set_option maxRecDepth 100000 in
set_option maxHeartbeats 4000000 in
theorem fin3 (ra : wb a) (rb : wb b) (rc : wb c) (rd : wb d) (hl : (a.toInt + c.toInt + d.toInt) * 2 < (a.toInt + b.toInt) * 3) (S : SO s a b c d 3 3 (a.toInt + c.toInt + d.toInt) 1 2) :
    W (pj lw) 100 99 [.val (.int i0), .val (.int i1), .val (.int i2), .val (.int i3), .val (.int a), .val (.int b), .val (.int c), .val (.int d), .val (.ref p), .unset, .unset, .unset, .unset, .unset, .unset, .unset, .unset, .unset, .unset, .unset, .unset, .unset, .unset, .unset, .unset, .unset, .unset, .unset, .unset, .unset, .unset, .unset] [.int 1] k n (ob H p s) (fun v _ => v = some (.int 1)) := by
  unfold wb at ra rb rc rd
  obtain ⟨⟨⟨n3, -⟩, hz, wa, wb', wc, wd⟩, ⟨f4, f5, f6, f7⟩, ⟨e0, e1, e2⟩, ⟨cr0, cr1, cr2⟩, k0, k1, k2⟩ := S
  have h1 : sA s 1 1 = 1 := by rw [hz 1 (by decide)]; rfl
  have h24 : sA s 1 24 = 1 := by rw [hz 24 (by decide)]; rfl
  have h26 : sA s 1 26 = 1 := by rw [hz 26 (by decide)]; rfl
  have h48 : sA s 1 48 = 1 := by rw [hz 48 (by decide)]; rfl
  have h2z : sA s 1 2 = 0 := by rw [hz 2 (by decide)]; rfl
  have hlong := eq_true ((oi_lt (x := 2 * (a.toInt + c.toInt + d.toInt)) (y := 3 * (a.toInt + b.toInt)) (by omega) (by omega)).2 (by omega))
  unfold P0 at k0
  unfold P1 at k1
  unfold P2 at k2

  · have hge := eq_false (fun w => (show ¬ 3 * (a.toInt + b.toInt) < 2 * (a.toInt + c.toInt + d.toInt) by omega) ((oi_lt (x := 3 * (a.toInt + b.toInt)) (y := 2 * (a.toInt + c.toInt + d.toInt)) (by omega) (by omega)).1 w))
    simp +decide only [w100_99, w100_100, w100_105, w100_107, w100_108, w100_110, w100_111, w100_112uu, w100_114, w100_116, w100_117, w100_119, w100_120, w100_121, w100_123, w100_124, w100_125uu, w100_127, w100_130, w100_132, w100_133, w100_136, w100_138, w100_139, w100_140, w100_143, w100_144, w100_148, w100_150, w100_152, w100_155, w100_158, w100_164uu, w100_166, w100_168, w100_171, w100_173, w100_178uu, w100_180, w100_182, w100_184, w100_185, w100_186, w100_188, w100_189uu, w100_191, w100_193, w100_195, w100_196, w100_197, w100_199, w100_200uu, w100_202, w100_204, w100_206, w100_207, w100_208, w100_210, w100_211uu, w100_213, w100_215, w100_217, w100_218, w100_219, w100_221, w100_222uu, w100_224, w100_225, w100_227, cmpL_gt, true_and, ↓reduceIte, oi_32, oi_add, oi_mul, oi_sub, l3, l2, hlong, oi0]
    refine (s103 (by omega) (by omega)).2 ?_
    simp +decide only [w100_230, w100_232, w100_234, w100_236, w100_237, cs_nil, cs_long, Option.toList_some, List.cons_append, List.nil_append, true_and, Nat.reduceAdd, Nat.reduceLeDiff, Int32.reduceAdd, Int64.reduceAdd, Nat.add_zero, oi_add]
    refine (s103 (by omega) (by omega)).2 ?_
    simp +decide only [w100_240, Option.toList_some, List.cons_append, List.nil_append, true_and]
    refine (s103 (by omega) (by omega)).2 ?_
    simp +decide only [w100_243uu, w100_245, w100_246, w100_248, w100_250, w100_252, w100_253, Option.toList_some, List.cons_append, List.nil_append, true_and, oi_add, oi0]
    refine (s103 (by omega) (by omega)).2 ?_
    simp +decide only [w100_256, Option.toList_some, List.cons_append, List.nil_append, true_and]
    refine (s103 (by omega) (by omega)).2 ?_
    simp +decide only [w100_259uu, w100_261, w100_262, w100_264, w100_266, w100_268, w100_269, Option.toList_some, List.cons_append, List.nil_append, true_and, oi_add, oi0]
    refine (s103 (by omega) (by omega)).2 ?_
    simp +decide only [w100_272, Option.toList_some, List.cons_append, List.nil_append, true_and]
    refine (s103 (by omega) (by omega)).2 ?_
    simp +decide only [w100_275uu, w100_277, w100_279, w100_282, w100_283, w100_285, w100_286, w100_289, w100_291, w100_294, w100_296, w100_297, w100_302, w100_304, w100_305, w100_308, w100_311, w100_313, w100_314, w100_317, w100_318, w100_323, w100_325, w100_326, w100_329, w100_331, w100_334, w100_335, w100_339, w100_344, w100_346, w100_347, w100_350, w100_353, w100_355, w100_356, w100_359, w100_364, w100_366, w100_367, w100_370, w100_373, w100_375, w100_376, w100_379, w100_381, w100_382, w100_383, w100_386, w100_387, w100_391, w100_396, w100_398, w100_399, w100_402, w100_404, w100_405, w100_408, w100_410, w100_411, w100_414, w100_416, w100_417, w100_420, w100_422, w100_423, w100_426, w100_428, w100_429, w100_434, w100_436, w100_437, w100_438, w100_441, w100_443, w100_445, w100_446, w100_448, w100_449, w100_450, w100_455, w100_457, w100_458, w100_459, w100_462, w100_464, w100_466, w100_467, w100_469, w100_470, w100_471, w100_476, w100_478, w100_479, w100_480, w100_483, w100_485, w100_487, w100_488, w100_490, w100_491, w100_492, w100_497, w100_499, w100_500, w100_501, w100_504, w100_506, w100_508, w100_509, w100_511, w100_512, w100_513, w100_518, w100_520, w100_521, w100_522, w100_525, w100_528, w100_529, w100_532, w100_533, w100_537, isO_put, cmpL_lt, cmpL_eq, Option.toList_some, List.cons_append, List.nil_append, and_true, or_true, ↓reduceIte, Nat.reduceAdd, Int32.reduceAdd, Int32.reduceMul, Int32.reduceToNatClampNeg, Int64.reduceAdd, Int64.reduceMul, Int32.reduceToInt, g0, g2, g3, g4, g5, g6, g7, g8, g9, g10, ai1, ain1, ae1, ai2, ae2, ai3, ae3, ai4, ain4, ae4, ai5, ae5, ain1, ain4, c2, w2_0, w2_1, w2_4, w2_5, w2_6, w2_9, w2_12, w2_13, w2_17, c8, w8_0, w8_1, w8_2, w8_5, w8_8, w8_9, w8_10, w8_13, w8_16, w8_17, w8_20, w8_21, w8_23, w8_24, w8_25, w8_26, w8_27, w8_30, w8_31, w8_34, w8_35, c23, w23_0, w23_1, w23_4, w23_7, w23_8, w23_11, w23_14, w23_15, w23_19, c24, w24_0, w24_1, w24_4, w24_7, w24_8, w24_11, w24_15, c25, w25_0, w25_1, w25_4, w25_7, w25_8, w25_11, w25_15, c26, w26_0, w26_1, w26_4, w26_7, w26_8, w26_11, w26_12, w26_13, w26_16, w26_21, w26_22, w26_25, w26_26, w26_27, c27, w27_0, w27_1, w27_4, w27_7, w27_8, w27_9, w27_12, w27_15, w27_16, w27_19, w27_20, w27_21, w27_24, w27_25, w27_29, c28, w28_0, w28_1, w28_4, w28_7, w28_8, w28_9, w28_12, w28_17, w28_18, w28_21, w28_22, w28_23, c29, w29_0, w29_1, w29_4, w29_7, w29_8, w29_9, w29_10, w29_13, w29_16, w29_19, w29_20, w29_21, w29_24, w29_25, w29_26, w29_29, w29_30, w29_32, w29_33, w29_34, w29_35, w29_36, w29_37, w29_38, w29_39, w29_42, w29_43, w29_44, w29_47, w29_48, w29_49, w29_50, w29_51, w29_54, w29_55, w29_56, w29_57, n3, f4, f5, f6, f7, h1, h24, h26, h48, h2z, wa, wb', wc, wd, e0, e1, e2, cr0, cr1, cr2, hge, k0, k1, k2, oi_32, oi_mul, oi_add, oi_sub, l3, l2]
set_option maxRecDepth 100000 in
set_option maxHeartbeats 4000000 in
theorem law_ok (i0 i1 i2 i3 : Int32) (N : Nat) : Cl (pj lw) 100 [.int i0, .int i1, .int i2, .int i3] (H0 N) (fun v _ => v = some (.int 1)) := by
  rw [c100]
  simp +decide only [w100_0, w100_1, w100_4, w100_5, w100_7, w100_8, w100_11, w100_12, w100_14, w100_15, w100_18, w100_19, w100_21, w100_22, w100_25, w100_26, true_and]
  obtain ⟨ra, a1, a2⟩ := rmw i0
  obtain ⟨rb, b1, b2⟩ := rmw i1
  obtain ⟨rc, g1', g2'⟩ := rmw i2
  obtain ⟨rd, d1, d2⟩ := rmw i3
  generalize i0 % 10001 = a at *
  generalize i1 % 10001 = b at *
  generalize i2 % 10001 = c at *
  generalize i3 % 10001 = d at *
  have e : cl 1 24 3 = 3 := by decide
  simp +decide only [w100_28, w100_31, w100_32, w100_33, w100_36, w100_38, w100_40, w100_41, w100_42, w100_44, w100_47, w100_52, w100_54, w100_55, w100_56, w100_58, w100_61, w100_66, w100_68, w100_69, w100_70, w100_72, w100_75, w100_80, w100_82, w100_83, w100_84, w100_86, w100_89, w100_94, w100_96, isO_put, isOw_put, cs_nil, cs_ref, sI_uI, sI_uJ, sI_uA, sA_uI, sA_uJ, sA_uA, sI_z0, sA_z0, Option.toList_some, Option.toList_none, List.cons_append, List.nil_append, true_and, and_true, or_true, ↓reduceIte, Nat.reduceAdd, Nat.reduceLeDiff, Int32.reduceAdd, Int32.reduceMul, Int32.reduceToNatClampNeg, Int64.reduceAdd, Int64.reduceMul, Nat.add_zero, Nat.zero_add, g0, g1, s1, g2, g3, s4, s5, ai1, aw1, ain1, awn1, ae1, as1, aw2, as2, mkO_ob, t1, H0, ini0, e, c2, w2_0, w2_1, w2_4, w2_5, w2_6, w2_9, w2_12, w2_13, w2_17, c3, w3_0, w3_1, w3_4, w3_7, w3_8, w3_11, w3_14, w3_15, w3_19, c4, w4_0, w4_1, w4_2, w4_5, w4_6, w4_7, w4_10, c5, w5_0, w5_1, w5_2, w5_5, w5_8, w5_9, w5_10, w5_13, w5_18, w5_19, w5_20, w5_23, w5_28, w5_29, w5_31, w5_32, w5_33, w5_34, w5_36, w5_37, w5_40, w5_42, w5_43, w5_48, w5_49, w5_52, w5_54, w5_59, w5_60, w5_63, w5_65, w5_66, w5_67, w5_68, w5_71, w5_73, w5_74, w5_75, w5_76, w5_77, w5_80, w5_81, w5_82, w5_85, w5_86, w5_89, w5_90, ain1, awn1, a1, a2, b1, b2, g1', g2', d1, d2]
  refine v12 (a := a) (b := b) (c := c) (d := d) ?_ ra rb rc rd fun σ hS => ?_
  · refine ⟨⟨?_, ?_⟩, fun i hi => ?_, ?_, ?_, ?_, ?_⟩
    · simp +decide only [sI_uI, sI_uA, ↓reduceIte]
    · simp +decide only [sJ_uI, sJ_uJ, sJ_uA, ↓reduceIte]
    · simp only [sA_uI, sA_uJ, sA_uA, sA_z0, true_and, false_and, Nat.reduceEqDiff, if_false]
      by_cases h1 : i = 48
      · simp [h1]
      · by_cases h2 : i = 26
        · simp [h2]
        · by_cases h3 : i = 24
          · simp [h3]
          · by_cases h4 : i = 1
            · simp [h4]
            · simp [h1, h2, h3, h4]
    · simp +decide only [sA_uI, sA_uA, ↓reduceIte]
    · simp +decide only [sA_uI, sA_uA, ↓reduceIte]
    · simp +decide only [sA_uI, sA_uA, ↓reduceIte]
    · simp +decide only [sA_uI, sA_uA, ↓reduceIte]
  rcases hS with ⟨hl, hS⟩ | ⟨hl, hS⟩
  · exact fin2 ra rb rc rd hl hS
  · exact fin3 ra rb rc rd hl hS
end X5

end Jvm.JX.Lw
namespace Jvm.Pilot.@@N@@
open Jvm Jvm.ClassFile Sem Op Lib Jvm.Free Jvm.Stand Jvm.LawKit Jvm.RoadKit Bundle Jvm.Pilot.@@N@@.Jvm.D Jvm.JX Jvm.JX.Pj Jvm.JX.Lw
def nmL : List (Nat × MethodName) := [(1, ⟨"MeanCycleCert", "<init>", "(I)V"⟩), (2, ⟨"MeanCycleCert", "inRange", "(I)Z"⟩), (3, ⟨"MeanCycleCert", "weightOk", "(I)Z"⟩), (4, ⟨"MeanCycleCert", "discard", "()V"⟩), (5, ⟨"MeanCycleCert", "addArc", "(III)I"⟩), (8, ⟨"MeanCycleCert", "hasArc", "(II)Z"⟩), (12, ⟨"MeanCycleCert", "solve", "()I"⟩), (13, ⟨"MeanCycleCert", "clearResult", "()V"⟩), (14, ⟨"MeanCycleCert", "runKarp", "()Z"⟩), (15, ⟨"MeanCycleCert", "relaxKarp", "(II)V"⟩), (16, ⟨"MeanCycleCert", "vertexMax", "(I)V"⟩), (17, ⟨"MeanCycleCert", "relax", "(JJ)V"⟩), (18, ⟨"MeanCycleCert", "markTight", "(JJ)V"⟩), (19, ⟨"MeanCycleCert", "closure", "()V"⟩), (20, ⟨"MeanCycleCert", "bfsTo", "(I)V"⟩), (21, ⟨"MeanCycleCert", "buildWitness", "(I)V"⟩), (23, ⟨"MeanCycleCert", "cyclicStored", "()Z"⟩), (24, ⟨"MeanCycleCert", "cycleLength", "()I"⟩), (25, ⟨"MeanCycleCert", "cycleWeight", "()J"⟩), (26, ⟨"MeanCycleCert", "cycleVertex", "(I)I"⟩), (27, ⟨"MeanCycleCert", "isCritical", "(I)Z"⟩), (28, ⟨"MeanCycleCert", "potential", "(I)J"⟩), (29, ⟨"MeanCycleCert", "reducedCost", "(II)J"⟩), (100, ⟨"MeanCycleCertL3", "law", "(IIII)Z"⟩), (103, ⟨"MeanCycleCertL3", "min", "(JJ)J"⟩)]
def nm (m : Nat) : MethodName := (nmL.lookup m).getD ⟨"", "", ""⟩
def btL : List (Nat × ByteArray) := [(1, prog_1_method_1_code), (2, prog_1_method_2_code), (3, prog_1_method_3_code), (4, prog_1_method_4_code), (5, prog_1_method_5_code), (8, prog_1_method_8_code), (12, prog_1_method_12_code), (13, prog_1_method_13_code), (14, prog_1_method_14_code), (15, prog_1_method_15_code), (16, prog_1_method_16_code), (17, prog_1_method_17_code), (18, prog_1_method_18_code), (19, prog_1_method_19_code), (20, prog_1_method_20_code), (21, prog_1_method_21_code), (23, prog_1_method_23_code), (24, prog_1_method_24_code), (25, prog_1_method_25_code), (26, prog_1_method_26_code), (27, prog_1_method_27_code), (28, prog_1_method_28_code), (29, prog_1_method_29_code), (100, code), (103, method_3_code)]
def bt (m : Nat) : ByteArray := (btL.lookup m).getD ⟨#[]⟩
def fnL : List (String × String) := [("n", "I"), ("arcs", "I"), ("has", "[Z"), ("wt", "[I"), ("res", "Z"), ("cyc", "Z"), ("len", "I"), ("cw", "J"), ("seq", "[I"), ("crit", "[Z"), ("pot", "[J"), ("karp", "[J"), ("tight", "[Z"), ("reach", "[I"), ("dist", "[I"), ("queue", "[I"), ("inf", "J"), ("muNum", "J"), ("muDen", "J"), ("vNum", "J"), ("vDen", "J")]
def fn (k : Nat) : String × String := fnL.getD k ("", "")
def RL : List Nat := [1, 2, 3, 4, 5, 8, 12, 13, 14, 15, 16, 17, 18, 19, 20, 21, 23, 24, 25, 26, 27, 28, 29, 100, 103]
def FS : List Nat := [0, 1, 2, 3, 4, 5, 6, 7, 8, 9, 10, 11, 12, 13, 14, 15, 16, 17, 18, 19, 20]
def WF : List Nat := [0, 1, 2, 3, 4, 5, 6, 7, 8, 9, 10, 11, 12, 13, 14, 15, 16, 17, 18, 19, 20]
def FL : List (Nat × Nat × Nat) := [(0, 7, 2), (0, 13, 3), (0, 17, 8), (0, 20, 9), (0, 23, 10), (0, 27, 11), (0, 30, 12), (0, 33, 13), (0, 36, 14), (0, 39, 15), (0, 44, 16), (0, 48, 0), (0, 52, 4), (0, 56, 5), (0, 66, 1), (0, 83, 18), (0, 86, 17), (0, 106, 6), (0, 109, 7), (0, 119, 19), (0, 122, 20)]
def ML : List (Nat × Nat × Nat) := [(0, 59, 2), (0, 63, 3), (0, 69, 4), (0, 76, 13), (0, 79, 14), (0, 89, 17), (0, 93, 18), (0, 96, 19), (0, 99, 20), (0, 103, 21), (0, 112, 15), (0, 116, 16), (0, 125, 23), (0, 72, 8), (1, 9, 1), (1, 12, 5), (1, 16, 12), (1, 24, 103), (1, 30, 24), (1, 33, 25), (1, 37, 26), (1, 41, 27), (1, 45, 28), (1, 49, 29)]
def KI : List (Nat × Nat × Int) := []
def KJ : List (Nat × Nat × Int) := [(0, 42, 4000000000000000000), (0, 128, -1), (1, 20, 3), (1, 22, 2), (1, 53, -1)]
def ATL : List FieldType := [.boolean, .int, .long]
def cn (j : Nat) : String := if j = 0 then "MeanCycleCert" else "MeanCycleCertL3"
def own (m : Nat) : Nat := if m < 100 then 0 else 1
def ini (m : Nat) : Bool := m == 1
def rowsOf (m : Nat) : List Jvm.JX.Row := if m < 100 then prows.getD m [] else lrows.getD (m - 100) []
theorem hFL : ∀ t ∈ FL, t.2.2 ∈ FS ∧ Jvm.Cond.fieldLink (cn t.1) t.2.1 "MeanCycleCert" (fn t.2.2).1 (fn t.2.2).2 ∈ tables_1 := (faS ⟨by decide, (List.mem_of_getElem? (i := 10) rfl)⟩ (faS ⟨by decide, (List.mem_of_getElem? (i := 13) rfl)⟩ (faS ⟨by decide, (List.mem_of_getElem? (i := 15) rfl)⟩ (faS ⟨by decide, (List.mem_of_getElem? (i := 17) rfl)⟩ (faS ⟨by decide, (List.mem_of_getElem? (i := 20) rfl)⟩ (faS ⟨by decide, (List.mem_of_getElem? (i := 22) rfl)⟩ (faS ⟨by decide, (List.mem_of_getElem? (i := 24) rfl)⟩ (faS ⟨by decide, (List.mem_of_getElem? (i := 26) rfl)⟩ (faS ⟨by decide, (List.mem_of_getElem? (i := 28) rfl)⟩ (faS ⟨by decide, (List.mem_of_getElem? (i := 30) rfl)⟩ (faS ⟨by decide, (List.mem_of_getElem? (i := 33) rfl)⟩ (faS ⟨by decide, (List.mem_of_getElem? (i := 35) rfl)⟩ (faS ⟨by decide, (List.mem_of_getElem? (i := 56) rfl)⟩ (faS ⟨by decide, (List.mem_of_getElem? (i := 58) rfl)⟩ (faS ⟨by decide, (List.mem_of_getElem? (i := 50) rfl)⟩ (faS ⟨by decide, (List.mem_of_getElem? (i := 91) rfl)⟩ (faS ⟨by decide, (List.mem_of_getElem? (i := 89) rfl)⟩ (faS ⟨by decide, (List.mem_of_getElem? (i := 69) rfl)⟩ (faS ⟨by decide, (List.mem_of_getElem? (i := 71) rfl)⟩ (faS ⟨by decide, (List.mem_of_getElem? (i := 85) rfl)⟩ (faS ⟨by decide, (List.mem_of_getElem? (i := 87) rfl)⟩ fa0)))))))))))))))))))))
theorem hWF : ∀ k ∈ WF, Jvm.Cond.lays "MeanCycleCert" "MeanCycleCert" (fn k).1 (fn k).2 ∈ tables_1 := (faS (List.mem_of_getElem? (i := 36) rfl) (faS (List.mem_of_getElem? (i := 51) rfl) (faS (List.mem_of_getElem? (i := 11) rfl) (faS (List.mem_of_getElem? (i := 14) rfl) (faS (List.mem_of_getElem? (i := 57) rfl) (faS (List.mem_of_getElem? (i := 59) rfl) (faS (List.mem_of_getElem? (i := 70) rfl) (faS (List.mem_of_getElem? (i := 72) rfl) (faS (List.mem_of_getElem? (i := 16) rfl) (faS (List.mem_of_getElem? (i := 18) rfl) (faS (List.mem_of_getElem? (i := 21) rfl) (faS (List.mem_of_getElem? (i := 23) rfl) (faS (List.mem_of_getElem? (i := 25) rfl) (faS (List.mem_of_getElem? (i := 27) rfl) (faS (List.mem_of_getElem? (i := 29) rfl) (faS (List.mem_of_getElem? (i := 31) rfl) (faS (List.mem_of_getElem? (i := 34) rfl) (faS (List.mem_of_getElem? (i := 90) rfl) (faS (List.mem_of_getElem? (i := 92) rfl) (faS (List.mem_of_getElem? (i := 86) rfl) (faS (List.mem_of_getElem? (i := 88) rfl) fa0)))))))))))))))))))))
theorem hML : ∀ t ∈ ML, t.2.2 ∈ RL ∧ Jvm.Cond.methodLink (cn t.1) t.2.1 (nm t.2.2) ∈ tables_1 := (faS ⟨by decide, (List.mem_of_getElem? (i := 42) rfl)⟩ (faS ⟨by decide, (List.mem_of_getElem? (i := 46) rfl)⟩ (faS ⟨by decide, (List.mem_of_getElem? (i := 52) rfl)⟩ (faS ⟨by decide, (List.mem_of_getElem? (i := 65) rfl)⟩ (faS ⟨by decide, (List.mem_of_getElem? (i := 73) rfl)⟩ (faS ⟨by decide, (List.mem_of_getElem? (i := 93) rfl)⟩ (faS ⟨by decide, (List.mem_of_getElem? (i := 97) rfl)⟩ (faS ⟨by decide, (List.mem_of_getElem? (i := 101) rfl)⟩ (faS ⟨by decide, (List.mem_of_getElem? (i := 105) rfl)⟩ (faS ⟨by decide, (List.mem_of_getElem? (i := 109) rfl)⟩ (faS ⟨by decide, (List.mem_of_getElem? (i := 77) rfl)⟩ (faS ⟨by decide, (List.mem_of_getElem? (i := 81) rfl)⟩ (faS ⟨by decide, (List.mem_of_getElem? (i := 124) rfl)⟩ (faS ⟨by decide, (List.mem_of_getElem? (i := 153) rfl)⟩ (faS ⟨by decide, (List.mem_of_getElem? (i := 3) rfl)⟩ (faS ⟨by decide, (List.mem_of_getElem? (i := 37) rfl)⟩ (faS ⟨by decide, (List.mem_of_getElem? (i := 60) rfl)⟩ (faS ⟨by decide, (List.mem_of_getElem? (i := 115) rfl)⟩ (faS ⟨by decide, (List.mem_of_getElem? (i := 119) rfl)⟩ (faS ⟨by decide, (List.mem_of_getElem? (i := 128) rfl)⟩ (faS ⟨by decide, (List.mem_of_getElem? (i := 133) rfl)⟩ (faS ⟨by decide, (List.mem_of_getElem? (i := 138) rfl)⟩ (faS ⟨by decide, (List.mem_of_getElem? (i := 143) rfl)⟩ (faS ⟨by decide, (List.mem_of_getElem? (i := 148) rfl)⟩ fa0))))))))))))))))))))))))
theorem hKI : ∀ t ∈ KI, Jvm.Cond.constant (cn t.1) t.2.1 (Int32.ofInt t.2.2) ∈ tables_1 := fa0
theorem hKJ : ∀ t ∈ KJ, Jvm.Cond.constantLong (cn t.1) t.2.1 (Int64.ofInt t.2.2) ∈ tables_1 := (faS (List.mem_of_getElem? (i := 32) rfl) (faS (List.mem_of_getElem? (i := 158) rfl) (faS (List.mem_of_getElem? (i := 113) rfl) (faS (List.mem_of_getElem? (i := 114) rfl) (faS (List.mem_of_getElem? (i := 159) rfl) fa0)))))
theorem hAT : ∀ t ∈ ATL, Jvm.Cond.arrayClass t ∈ tables_1 := (faS (List.mem_of_getElem? (i := 9) rfl) (faS (List.mem_of_getElem? (i := 12) rfl) (faS (List.mem_of_getElem? (i := 19) rfl) fa0)))
theorem hr1x0 : ((rowsOf 1).take 40).all (rowOne FL ML KI KJ ATL WF 21 7 bt own ini 1) = true := by decide +kernel
theorem hr1x1 : ((rowsOf 1).drop 40).all (rowOne FL ML KI KJ ATL WF 21 7 bt own ini 1) = true := by decide +kernel
theorem hr1 : (rowsOf 1).all (rowOne FL ML KI KJ ATL WF 21 7 bt own ini 1) = true := (all_td 40 hr1x0 hr1x1)
theorem hr2 : (rowsOf 2).all (rowOne FL ML KI KJ ATL WF 21 7 bt own ini 2) = true := by decide +kernel
theorem hr3 : (rowsOf 3).all (rowOne FL ML KI KJ ATL WF 21 7 bt own ini 3) = true := by decide +kernel
theorem hr4 : (rowsOf 4).all (rowOne FL ML KI KJ ATL WF 21 7 bt own ini 4) = true := by decide +kernel
theorem hr5 : (rowsOf 5).all (rowOne FL ML KI KJ ATL WF 21 7 bt own ini 5) = true := by decide +kernel
theorem hr8 : (rowsOf 8).all (rowOne FL ML KI KJ ATL WF 21 7 bt own ini 8) = true := by decide +kernel
theorem hr12x0 : ((rowsOf 12).take 40).all (rowOne FL ML KI KJ ATL WF 21 7 bt own ini 12) = true := by decide +kernel
theorem hr12x1 : (((rowsOf 12).drop 40).take 40).all (rowOne FL ML KI KJ ATL WF 21 7 bt own ini 12) = true := by decide +kernel
theorem hr12x2 : (((rowsOf 12).drop 40).drop 40).all (rowOne FL ML KI KJ ATL WF 21 7 bt own ini 12) = true := by decide +kernel
theorem hr12 : (rowsOf 12).all (rowOne FL ML KI KJ ATL WF 21 7 bt own ini 12) = true := (all_td 40 hr12x0 (all_td 40 hr12x1 hr12x2))
theorem hr13 : (rowsOf 13).all (rowOne FL ML KI KJ ATL WF 21 7 bt own ini 13) = true := by decide +kernel
theorem hr14x0 : ((rowsOf 14).take 40).all (rowOne FL ML KI KJ ATL WF 21 7 bt own ini 14) = true := by decide +kernel
theorem hr14x1 : (((rowsOf 14).drop 40).take 40).all (rowOne FL ML KI KJ ATL WF 21 7 bt own ini 14) = true := by decide +kernel
theorem hr14x2 : (((rowsOf 14).drop 40).drop 40).all (rowOne FL ML KI KJ ATL WF 21 7 bt own ini 14) = true := by decide +kernel
theorem hr14 : (rowsOf 14).all (rowOne FL ML KI KJ ATL WF 21 7 bt own ini 14) = true := (all_td 40 hr14x0 (all_td 40 hr14x1 hr14x2))
theorem hr15 : (rowsOf 15).all (rowOne FL ML KI KJ ATL WF 21 7 bt own ini 15) = true := by decide +kernel
theorem hr16x0 : ((rowsOf 16).take 40).all (rowOne FL ML KI KJ ATL WF 21 7 bt own ini 16) = true := by decide +kernel
theorem hr16x1 : ((rowsOf 16).drop 40).all (rowOne FL ML KI KJ ATL WF 21 7 bt own ini 16) = true := by decide +kernel
theorem hr16 : (rowsOf 16).all (rowOne FL ML KI KJ ATL WF 21 7 bt own ini 16) = true := (all_td 40 hr16x0 hr16x1)
theorem hr17x0 : ((rowsOf 17).take 40).all (rowOne FL ML KI KJ ATL WF 21 7 bt own ini 17) = true := by decide +kernel
theorem hr17x1 : ((rowsOf 17).drop 40).all (rowOne FL ML KI KJ ATL WF 21 7 bt own ini 17) = true := by decide +kernel
theorem hr17 : (rowsOf 17).all (rowOne FL ML KI KJ ATL WF 21 7 bt own ini 17) = true := (all_td 40 hr17x0 hr17x1)
theorem hr18 : (rowsOf 18).all (rowOne FL ML KI KJ ATL WF 21 7 bt own ini 18) = true := by decide +kernel
theorem hr19x0 : ((rowsOf 19).take 40).all (rowOne FL ML KI KJ ATL WF 21 7 bt own ini 19) = true := by decide +kernel
theorem hr19x1 : ((rowsOf 19).drop 40).all (rowOne FL ML KI KJ ATL WF 21 7 bt own ini 19) = true := by decide +kernel
theorem hr19 : (rowsOf 19).all (rowOne FL ML KI KJ ATL WF 21 7 bt own ini 19) = true := (all_td 40 hr19x0 hr19x1)
theorem hr20x0 : ((rowsOf 20).take 40).all (rowOne FL ML KI KJ ATL WF 21 7 bt own ini 20) = true := by decide +kernel
theorem hr20x1 : (((rowsOf 20).drop 40).take 40).all (rowOne FL ML KI KJ ATL WF 21 7 bt own ini 20) = true := by decide +kernel
theorem hr20x2 : (((rowsOf 20).drop 40).drop 40).all (rowOne FL ML KI KJ ATL WF 21 7 bt own ini 20) = true := by decide +kernel
theorem hr20 : (rowsOf 20).all (rowOne FL ML KI KJ ATL WF 21 7 bt own ini 20) = true := (all_td 40 hr20x0 (all_td 40 hr20x1 hr20x2))
theorem hr21x0 : ((rowsOf 21).take 40).all (rowOne FL ML KI KJ ATL WF 21 7 bt own ini 21) = true := by decide +kernel
theorem hr21x1 : (((rowsOf 21).drop 40).take 40).all (rowOne FL ML KI KJ ATL WF 21 7 bt own ini 21) = true := by decide +kernel
theorem hr21x2 : ((((rowsOf 21).drop 40).drop 40).take 40).all (rowOne FL ML KI KJ ATL WF 21 7 bt own ini 21) = true := by decide +kernel
theorem hr21x3 : ((((rowsOf 21).drop 40).drop 40).drop 40).all (rowOne FL ML KI KJ ATL WF 21 7 bt own ini 21) = true := by decide +kernel
theorem hr21 : (rowsOf 21).all (rowOne FL ML KI KJ ATL WF 21 7 bt own ini 21) = true := (all_td 40 hr21x0 (all_td 40 hr21x1 (all_td 40 hr21x2 hr21x3)))
theorem hr23 : (rowsOf 23).all (rowOne FL ML KI KJ ATL WF 21 7 bt own ini 23) = true := by decide +kernel
theorem hr24 : (rowsOf 24).all (rowOne FL ML KI KJ ATL WF 21 7 bt own ini 24) = true := by decide +kernel
theorem hr25 : (rowsOf 25).all (rowOne FL ML KI KJ ATL WF 21 7 bt own ini 25) = true := by decide +kernel
theorem hr26 : (rowsOf 26).all (rowOne FL ML KI KJ ATL WF 21 7 bt own ini 26) = true := by decide +kernel
theorem hr27 : (rowsOf 27).all (rowOne FL ML KI KJ ATL WF 21 7 bt own ini 27) = true := by decide +kernel
theorem hr28 : (rowsOf 28).all (rowOne FL ML KI KJ ATL WF 21 7 bt own ini 28) = true := by decide +kernel
theorem hr29 : (rowsOf 29).all (rowOne FL ML KI KJ ATL WF 21 7 bt own ini 29) = true := by decide +kernel
theorem hr100x0 : ((rowsOf 100).take 40).all (rowOne FL ML KI KJ ATL WF 21 7 bt own ini 100) = true := by decide +kernel
theorem hr100x1 : (((rowsOf 100).drop 40).take 40).all (rowOne FL ML KI KJ ATL WF 21 7 bt own ini 100) = true := by decide +kernel
theorem hr100x2 : ((((rowsOf 100).drop 40).drop 40).take 40).all (rowOne FL ML KI KJ ATL WF 21 7 bt own ini 100) = true := by decide +kernel
theorem hr100x3 : (((((rowsOf 100).drop 40).drop 40).drop 40).take 40).all (rowOne FL ML KI KJ ATL WF 21 7 bt own ini 100) = true := by decide +kernel
theorem hr100x4 : ((((((rowsOf 100).drop 40).drop 40).drop 40).drop 40).take 40).all (rowOne FL ML KI KJ ATL WF 21 7 bt own ini 100) = true := by decide +kernel
theorem hr100x5 : (((((((rowsOf 100).drop 40).drop 40).drop 40).drop 40).drop 40).take 40).all (rowOne FL ML KI KJ ATL WF 21 7 bt own ini 100) = true := by decide +kernel
theorem hr100x6 : ((((((((rowsOf 100).drop 40).drop 40).drop 40).drop 40).drop 40).drop 40).take 40).all (rowOne FL ML KI KJ ATL WF 21 7 bt own ini 100) = true := by decide +kernel
theorem hr100x7 : ((((((((rowsOf 100).drop 40).drop 40).drop 40).drop 40).drop 40).drop 40).drop 40).all (rowOne FL ML KI KJ ATL WF 21 7 bt own ini 100) = true := by decide +kernel
theorem hr100 : (rowsOf 100).all (rowOne FL ML KI KJ ATL WF 21 7 bt own ini 100) = true := (all_td 40 hr100x0 (all_td 40 hr100x1 (all_td 40 hr100x2 (all_td 40 hr100x3 (all_td 40 hr100x4 (all_td 40 hr100x5 (all_td 40 hr100x6 hr100x7)))))))
theorem hr103 : (rowsOf 103).all (rowOne FL ML KI KJ ATL WF 21 7 bt own ini 103) = true := by decide +kernel
theorem hrows : RL.all (fun m => (rowsOf m).all (rowOne FL ML KI KJ ATL WF 21 7 bt own ini m)) = true := (all_c hr1 (all_c hr2 (all_c hr3 (all_c hr4 (all_c hr5 (all_c hr8 (all_c hr12 (all_c hr13 (all_c hr14 (all_c hr15 (all_c hr16 (all_c hr17 (all_c hr18 (all_c hr19 (all_c hr20 (all_c hr21 (all_c hr23 (all_c hr24 (all_c hr25 (all_c hr26 (all_c hr27 (all_c hr28 (all_c hr29 (all_c hr100 (all_c hr103 all_n)))))))))))))))))))))))))
theorem cal1 : CalOk (pj lw) tables_1 "MeanCycleCert" nm bt 1 := ⟨(List.mem_of_getElem? (i := 5) rfl), (List.mem_of_getElem? (i := 2) rfl), ⟨[.int], none, by decide +kernel, rfl⟩, fun h => absurd h (by decide), fun _ => ⟨rfl, (List.mem_of_getElem? (i := 4) rfl)⟩, fun h => absurd h (by decide), fun h => absurd h (by decide), fun _ => ⟨rfl, rfl⟩⟩
theorem cal2 : CalOk (pj lw) tables_1 "MeanCycleCert" nm bt 2 := ⟨(List.mem_of_getElem? (i := 45) rfl), (List.mem_of_getElem? (i := 2) rfl), ⟨[.int], some .boolean, by decide +kernel, rfl⟩, fun h => absurd h (by decide), fun _ => ⟨rfl, (List.mem_of_getElem? (i := 43) rfl)⟩, fun h => absurd h (by decide), fun _ => (List.mem_of_getElem? (i := 44) rfl), fun h => absurd h (by decide)⟩
theorem cal3 : CalOk (pj lw) tables_1 "MeanCycleCert" nm bt 3 := ⟨(List.mem_of_getElem? (i := 49) rfl), (List.mem_of_getElem? (i := 2) rfl), ⟨[.int], some .boolean, by decide +kernel, rfl⟩, fun h => absurd h (by decide), fun _ => ⟨rfl, (List.mem_of_getElem? (i := 47) rfl)⟩, fun h => absurd h (by decide), fun _ => (List.mem_of_getElem? (i := 48) rfl), fun h => absurd h (by decide)⟩
theorem cal4 : CalOk (pj lw) tables_1 "MeanCycleCert" nm bt 4 := ⟨(List.mem_of_getElem? (i := 55) rfl), (List.mem_of_getElem? (i := 2) rfl), ⟨[], none, by decide +kernel, rfl⟩, fun h => absurd h (by decide), fun _ => ⟨rfl, (List.mem_of_getElem? (i := 53) rfl)⟩, fun h => absurd h (by decide), fun _ => (List.mem_of_getElem? (i := 54) rfl), fun h => absurd h (by decide)⟩
theorem cal5 : CalOk (pj lw) tables_1 "MeanCycleCert" nm bt 5 := ⟨(List.mem_of_getElem? (i := 41) rfl), (List.mem_of_getElem? (i := 2) rfl), ⟨[.int, .int, .int], some .int, by decide +kernel, rfl⟩, fun h => absurd h (by decide), fun _ => ⟨rfl, (List.mem_of_getElem? (i := 39) rfl)⟩, fun _ => ⟨(List.mem_of_getElem? (i := 38) rfl), (List.mem_of_getElem? (i := 40) rfl)⟩, fun h => absurd h (by decide), fun h => absurd h (by decide)⟩
theorem cal8 : CalOk (pj lw) tables_1 "MeanCycleCert" nm bt 8 := ⟨(List.mem_of_getElem? (i := 157) rfl), (List.mem_of_getElem? (i := 2) rfl), ⟨[.int, .int], some .boolean, by decide +kernel, rfl⟩, fun h => absurd h (by decide), fun _ => ⟨rfl, (List.mem_of_getElem? (i := 155) rfl)⟩, fun _ => ⟨(List.mem_of_getElem? (i := 154) rfl), (List.mem_of_getElem? (i := 156) rfl)⟩, fun h => absurd h (by decide), fun h => absurd h (by decide)⟩
theorem cal12 : CalOk (pj lw) tables_1 "MeanCycleCert" nm bt 12 := ⟨(List.mem_of_getElem? (i := 64) rfl), (List.mem_of_getElem? (i := 2) rfl), ⟨[], some .int, by decide +kernel, rfl⟩, fun h => absurd h (by decide), fun _ => ⟨rfl, (List.mem_of_getElem? (i := 62) rfl)⟩, fun _ => ⟨(List.mem_of_getElem? (i := 61) rfl), (List.mem_of_getElem? (i := 63) rfl)⟩, fun h => absurd h (by decide), fun h => absurd h (by decide)⟩
theorem cal13 : CalOk (pj lw) tables_1 "MeanCycleCert" nm bt 13 := ⟨(List.mem_of_getElem? (i := 68) rfl), (List.mem_of_getElem? (i := 2) rfl), ⟨[], none, by decide +kernel, rfl⟩, fun h => absurd h (by decide), fun _ => ⟨rfl, (List.mem_of_getElem? (i := 66) rfl)⟩, fun h => absurd h (by decide), fun _ => (List.mem_of_getElem? (i := 67) rfl), fun h => absurd h (by decide)⟩
theorem cal14 : CalOk (pj lw) tables_1 "MeanCycleCert" nm bt 14 := ⟨(List.mem_of_getElem? (i := 76) rfl), (List.mem_of_getElem? (i := 2) rfl), ⟨[], some .boolean, by decide +kernel, rfl⟩, fun h => absurd h (by decide), fun _ => ⟨rfl, (List.mem_of_getElem? (i := 74) rfl)⟩, fun h => absurd h (by decide), fun _ => (List.mem_of_getElem? (i := 75) rfl), fun h => absurd h (by decide)⟩
theorem cal15 : CalOk (pj lw) tables_1 "MeanCycleCert" nm bt 15 := ⟨(List.mem_of_getElem? (i := 80) rfl), (List.mem_of_getElem? (i := 2) rfl), ⟨[.int, .int], none, by decide +kernel, rfl⟩, fun h => absurd h (by decide), fun _ => ⟨rfl, (List.mem_of_getElem? (i := 78) rfl)⟩, fun h => absurd h (by decide), fun _ => (List.mem_of_getElem? (i := 79) rfl), fun h => absurd h (by decide)⟩
theorem cal16 : CalOk (pj lw) tables_1 "MeanCycleCert" nm bt 16 := ⟨(List.mem_of_getElem? (i := 84) rfl), (List.mem_of_getElem? (i := 2) rfl), ⟨[.int], none, by decide +kernel, rfl⟩, fun h => absurd h (by decide), fun _ => ⟨rfl, (List.mem_of_getElem? (i := 82) rfl)⟩, fun h => absurd h (by decide), fun _ => (List.mem_of_getElem? (i := 83) rfl), fun h => absurd h (by decide)⟩
theorem cal17 : CalOk (pj lw) tables_1 "MeanCycleCert" nm bt 17 := ⟨(List.mem_of_getElem? (i := 96) rfl), (List.mem_of_getElem? (i := 2) rfl), ⟨[.long, .long], none, by decide +kernel, rfl⟩, fun h => absurd h (by decide), fun _ => ⟨rfl, (List.mem_of_getElem? (i := 94) rfl)⟩, fun h => absurd h (by decide), fun _ => (List.mem_of_getElem? (i := 95) rfl), fun h => absurd h (by decide)⟩
theorem cal18 : CalOk (pj lw) tables_1 "MeanCycleCert" nm bt 18 := ⟨(List.mem_of_getElem? (i := 100) rfl), (List.mem_of_getElem? (i := 2) rfl), ⟨[.long, .long], none, by decide +kernel, rfl⟩, fun h => absurd h (by decide), fun _ => ⟨rfl, (List.mem_of_getElem? (i := 98) rfl)⟩, fun h => absurd h (by decide), fun _ => (List.mem_of_getElem? (i := 99) rfl), fun h => absurd h (by decide)⟩
theorem cal19 : CalOk (pj lw) tables_1 "MeanCycleCert" nm bt 19 := ⟨(List.mem_of_getElem? (i := 104) rfl), (List.mem_of_getElem? (i := 2) rfl), ⟨[], none, by decide +kernel, rfl⟩, fun h => absurd h (by decide), fun _ => ⟨rfl, (List.mem_of_getElem? (i := 102) rfl)⟩, fun h => absurd h (by decide), fun _ => (List.mem_of_getElem? (i := 103) rfl), fun h => absurd h (by decide)⟩
theorem cal20 : CalOk (pj lw) tables_1 "MeanCycleCert" nm bt 20 := ⟨(List.mem_of_getElem? (i := 108) rfl), (List.mem_of_getElem? (i := 2) rfl), ⟨[.int], none, by decide +kernel, rfl⟩, fun h => absurd h (by decide), fun _ => ⟨rfl, (List.mem_of_getElem? (i := 106) rfl)⟩, fun h => absurd h (by decide), fun _ => (List.mem_of_getElem? (i := 107) rfl), fun h => absurd h (by decide)⟩
theorem cal21 : CalOk (pj lw) tables_1 "MeanCycleCert" nm bt 21 := ⟨(List.mem_of_getElem? (i := 112) rfl), (List.mem_of_getElem? (i := 2) rfl), ⟨[.int], none, by decide +kernel, rfl⟩, fun h => absurd h (by decide), fun _ => ⟨rfl, (List.mem_of_getElem? (i := 110) rfl)⟩, fun h => absurd h (by decide), fun _ => (List.mem_of_getElem? (i := 111) rfl), fun h => absurd h (by decide)⟩
theorem cal23 : CalOk (pj lw) tables_1 "MeanCycleCert" nm bt 23 := ⟨(List.mem_of_getElem? (i := 127) rfl), (List.mem_of_getElem? (i := 2) rfl), ⟨[], some .boolean, by decide +kernel, rfl⟩, fun h => absurd h (by decide), fun _ => ⟨rfl, (List.mem_of_getElem? (i := 125) rfl)⟩, fun h => absurd h (by decide), fun _ => (List.mem_of_getElem? (i := 126) rfl), fun h => absurd h (by decide)⟩
theorem cal24 : CalOk (pj lw) tables_1 "MeanCycleCert" nm bt 24 := ⟨(List.mem_of_getElem? (i := 123) rfl), (List.mem_of_getElem? (i := 2) rfl), ⟨[], some .int, by decide +kernel, rfl⟩, fun h => absurd h (by decide), fun _ => ⟨rfl, (List.mem_of_getElem? (i := 121) rfl)⟩, fun _ => ⟨(List.mem_of_getElem? (i := 120) rfl), (List.mem_of_getElem? (i := 122) rfl)⟩, fun h => absurd h (by decide), fun h => absurd h (by decide)⟩
theorem cal25 : CalOk (pj lw) tables_1 "MeanCycleCert" nm bt 25 := ⟨(List.mem_of_getElem? (i := 132) rfl), (List.mem_of_getElem? (i := 2) rfl), ⟨[], some .long, by decide +kernel, rfl⟩, fun h => absurd h (by decide), fun _ => ⟨rfl, (List.mem_of_getElem? (i := 130) rfl)⟩, fun _ => ⟨(List.mem_of_getElem? (i := 129) rfl), (List.mem_of_getElem? (i := 131) rfl)⟩, fun h => absurd h (by decide), fun h => absurd h (by decide)⟩
theorem cal26 : CalOk (pj lw) tables_1 "MeanCycleCert" nm bt 26 := ⟨(List.mem_of_getElem? (i := 137) rfl), (List.mem_of_getElem? (i := 2) rfl), ⟨[.int], some .int, by decide +kernel, rfl⟩, fun h => absurd h (by decide), fun _ => ⟨rfl, (List.mem_of_getElem? (i := 135) rfl)⟩, fun _ => ⟨(List.mem_of_getElem? (i := 134) rfl), (List.mem_of_getElem? (i := 136) rfl)⟩, fun h => absurd h (by decide), fun h => absurd h (by decide)⟩
theorem cal27 : CalOk (pj lw) tables_1 "MeanCycleCert" nm bt 27 := ⟨(List.mem_of_getElem? (i := 142) rfl), (List.mem_of_getElem? (i := 2) rfl), ⟨[.int], some .boolean, by decide +kernel, rfl⟩, fun h => absurd h (by decide), fun _ => ⟨rfl, (List.mem_of_getElem? (i := 140) rfl)⟩, fun _ => ⟨(List.mem_of_getElem? (i := 139) rfl), (List.mem_of_getElem? (i := 141) rfl)⟩, fun h => absurd h (by decide), fun h => absurd h (by decide)⟩
theorem cal28 : CalOk (pj lw) tables_1 "MeanCycleCert" nm bt 28 := ⟨(List.mem_of_getElem? (i := 147) rfl), (List.mem_of_getElem? (i := 2) rfl), ⟨[.int], some .long, by decide +kernel, rfl⟩, fun h => absurd h (by decide), fun _ => ⟨rfl, (List.mem_of_getElem? (i := 145) rfl)⟩, fun _ => ⟨(List.mem_of_getElem? (i := 144) rfl), (List.mem_of_getElem? (i := 146) rfl)⟩, fun h => absurd h (by decide), fun h => absurd h (by decide)⟩
theorem cal29 : CalOk (pj lw) tables_1 "MeanCycleCert" nm bt 29 := ⟨(List.mem_of_getElem? (i := 152) rfl), (List.mem_of_getElem? (i := 2) rfl), ⟨[.int, .int], some .long, by decide +kernel, rfl⟩, fun h => absurd h (by decide), fun _ => ⟨rfl, (List.mem_of_getElem? (i := 150) rfl)⟩, fun _ => ⟨(List.mem_of_getElem? (i := 149) rfl), (List.mem_of_getElem? (i := 151) rfl)⟩, fun h => absurd h (by decide), fun h => absurd h (by decide)⟩
theorem cal103 : CalOk (pj lw) tables_1 "MeanCycleCert" nm bt 103 := ⟨(List.mem_of_getElem? (i := 118) rfl), (List.mem_of_getElem? (i := 117) rfl), ⟨[.long, .long], some .long, by decide +kernel, rfl⟩, fun _ => (List.mem_of_getElem? (i := 116) rfl), fun h => absurd rfl h, fun h => absurd h (by decide), fun h => absurd h (by decide), fun h => absurd h (by decide)⟩
theorem hcal : ∀ m ∈ RL, m ≠ 100 → CalOk (pj lw) tables_1 "MeanCycleCert" nm bt m := (faS (fun _ => cal1) (faS (fun _ => cal2) (faS (fun _ => cal3) (faS (fun _ => cal4) (faS (fun _ => cal5) (faS (fun _ => cal8) (faS (fun _ => cal12) (faS (fun _ => cal13) (faS (fun _ => cal14) (faS (fun _ => cal15) (faS (fun _ => cal16) (faS (fun _ => cal17) (faS (fun _ => cal18) (faS (fun _ => cal19) (faS (fun _ => cal20) (faS (fun _ => cal21) (faS (fun _ => cal23) (faS (fun _ => cal24) (faS (fun _ => cal25) (faS (fun _ => cal26) (faS (fun _ => cal27) (faS (fun _ => cal28) (faS (fun _ => cal29) (faS (fun h => absurd rfl h) (faS (fun _ => cal103) fa0)))))))))))))))))))))))))
theorem hfld : ∀ k ∈ FS, parseFieldDescriptor (fn k).2 = some ((pj lw).2.2.1 k) ∧ (Jvm.Cond.lays "MeanCycleCert" "MeanCycleCert" (fn k).1 (fn k).2 ∈ tables_1 ∨ Jvm.Cond.laysFinal "MeanCycleCert" "MeanCycleCert" (fn k).1 (fn k).2 ∈ tables_1) := (faS ⟨by decide +kernel, Or.inl (List.mem_of_getElem? (i := 36) rfl)⟩ (faS ⟨by decide +kernel, Or.inl (List.mem_of_getElem? (i := 51) rfl)⟩ (faS ⟨by decide +kernel, Or.inl (List.mem_of_getElem? (i := 11) rfl)⟩ (faS ⟨by decide +kernel, Or.inl (List.mem_of_getElem? (i := 14) rfl)⟩ (faS ⟨by decide +kernel, Or.inl (List.mem_of_getElem? (i := 57) rfl)⟩ (faS ⟨by decide +kernel, Or.inl (List.mem_of_getElem? (i := 59) rfl)⟩ (faS ⟨by decide +kernel, Or.inl (List.mem_of_getElem? (i := 70) rfl)⟩ (faS ⟨by decide +kernel, Or.inl (List.mem_of_getElem? (i := 72) rfl)⟩ (faS ⟨by decide +kernel, Or.inl (List.mem_of_getElem? (i := 16) rfl)⟩ (faS ⟨by decide +kernel, Or.inl (List.mem_of_getElem? (i := 18) rfl)⟩ (faS ⟨by decide +kernel, Or.inl (List.mem_of_getElem? (i := 21) rfl)⟩ (faS ⟨by decide +kernel, Or.inl (List.mem_of_getElem? (i := 23) rfl)⟩ (faS ⟨by decide +kernel, Or.inl (List.mem_of_getElem? (i := 25) rfl)⟩ (faS ⟨by decide +kernel, Or.inl (List.mem_of_getElem? (i := 27) rfl)⟩ (faS ⟨by decide +kernel, Or.inl (List.mem_of_getElem? (i := 29) rfl)⟩ (faS ⟨by decide +kernel, Or.inl (List.mem_of_getElem? (i := 31) rfl)⟩ (faS ⟨by decide +kernel, Or.inl (List.mem_of_getElem? (i := 34) rfl)⟩ (faS ⟨by decide +kernel, Or.inl (List.mem_of_getElem? (i := 90) rfl)⟩ (faS ⟨by decide +kernel, Or.inl (List.mem_of_getElem? (i := 92) rfl)⟩ (faS ⟨by decide +kernel, Or.inl (List.mem_of_getElem? (i := 86) rfl)⟩ (faS ⟨by decide +kernel, Or.inl (List.mem_of_getElem? (i := 88) rfl)⟩ fa0)))))))))))))))))))))
theorem good : Good (pj lw) tables_1 "MeanCycleCert" fn FS 21 nm bt RL 100 := by
  refine ⟨(List.mem_of_getElem? (i := 1) rfl), (List.mem_of_getElem? (i := 2) rfl), hfld, by decide +kernel, fun m hm => ?_, hcal, fun m _ pc ins len aux _ _ => by cases ins <;> rfl⟩
  have hpl : plainName "MeanCycleCert" = true ∧ plainName "MeanCycleCertL3" = true := ⟨by first | (simp [plainName, overriddenIn]; done) | decide +kernel, by first | (simp [plainName, overriddenIn]; done) | decide +kernel⟩
  have hcn : ∀ m ∈ RL, (nm m).cls = cn (own m) := by decide +kernel
  have hin : ∀ m ∈ RL, ini m = true → (nm m).cls = "MeanCycleCert" ∧ (nm m).name = "<init>" := by decide +kernel
  have hor : (nm m).cls = "MeanCycleCert" ∨ (nm m).cls = "MeanCycleCertL3" := by rw [hcn m hm]; unfold cn; split <;> simp
  refine ⟨by rcases hor with h | h <;> rw [h] <;> simp [hpl], by rcases hor with h | h <;> rw [h] <;> decide, fun pc ins len aux h => ?_⟩
  have hmem : (pc, ins, len, aux) ∈ rowsOf m := by
    unfold rowsOf
    by_cases g : m < 100
    · rw [if_pos g]; exact lookup_mem (by simpa [pj, g] using h)
    · rw [if_neg g]; exact lookup_mem (by simpa [pj, lw, g] using h)
  have hrow := List.all_eq_true.mp (List.all_eq_true.mp hrows m hm) _ hmem
  simp only [rowOne, Bool.and_eq_true, decide_eq_true_eq] at hrow
  exact ⟨hrow.1.1, hrow.1.2, row_ok (hcn m hm) (hin m hm) hFL hWF hML hKI hKJ hAT (List.mem_of_getElem? (i := 0) rfl) ⟨(List.mem_of_getElem? (i := 6) rfl), (List.mem_of_getElem? (i := 7) rfl), (List.mem_of_getElem? (i := 8) rfl)⟩ hrow.2⟩
set_option maxRecDepth 65536 in
set_option maxHeartbeats 40000000 in
theorem comes_1 {Post : Tables → Env → Array Value → State → Outcome → State → Prop} (hpost : ∀ tb e args s v u, (limb_1_1.after args s (.returned v) u = true ∧ limb_1_2.after args s (.returned v) u = true ∧ True) → FrameEnd s (.returned v) u (Jvm.fieldLocs frame_1_writes args s ++ Jvm.arrayLocs frame_1_arrays args s ++ Jvm.staticLocs frame_1_statics s) 32 5056 → Post tb e args s (.returned v) u) :
    ArmFor flags0 classFile x code maxLocals ret World_1 tables_1 room_1 Calls_1 rest_1 Pre_1 Post := by
  intro l hfl _ _ p e ha hc hk s m args below hf hA hF happ hP
  obtain ⟨hcalls, hrest, hpre⟩ := hP
  obtain ⟨-, -, -, hnamed, -, -, -, hat⟩ := (Spec.applies_iff hf).mp happ
  obtain ⟨hg, hn⟩ := and_e (Cond.before_iff.mp (show (Jvm.Cond.and given_1 narrow_1).before args s = true from hpre))
  have hw := fun d (hd : d ∈ tables_1) => atoms_spec (ws := Jvm.Cond.code x code maxLocals ret :: tables_1) hat d (List.mem_cons_of_mem _ hd)
  obtain ⟨g0, r0⟩ := and_e hg
  obtain ⟨w0, w1, w2, w3, rfl⟩ : ∃ w0 w1 w2 w3 : Value, args = #[w0, w1, w2, w3] := by
    have hs : args.size = 4 := by simpa [Cond.value, given_1] using g0
    obtain ⟨L⟩ := args
    match L, hs with
    | [w0, w1, w2, w3], _ => exact ⟨w0, w1, w2, w3, rfl⟩
  obtain ⟨g1, r1⟩ := and_e r0
  obtain ⟨g2, r2⟩ := and_e r1
  obtain ⟨g3, r3⟩ := and_e r2
  have g4 := r3
  obtain ⟨i0, e0⟩ := is_v g1
  obtain rfl : w0 = (.int i0) := Option.some.inj e0
  obtain ⟨i1, e1⟩ := is_v g2
  obtain rfl : w1 = (.int i1) := Option.some.inj e1
  obtain ⟨i2, e2⟩ := is_v g3
  obtain rfl : w2 = (.int i2) := Option.some.inj e2
  obtain ⟨i3, e3⟩ := is_v g4
  obtain rfl : w3 = (.int i3) := Option.some.inj e3
  obtain ⟨n, o, h1, h2, h3, _, L, rfl, ⟨N, H2, rfl⟩, hq⟩ := law_met (l := l) (Z := s) (a0 := _) (n0 := s.heap.size) good hw (as := [.int i0, .int i1, .int i2, .int i3]) (h := s.heap) tables_1 (by decide) (by simp [Sym.laidSlots, Value.category]; decide) (rel_H0 s.heap) (law_ok i0 i1 i2 i3 s.heap.size) p e ha hc hk s m _ below hf ((Spec.applies_iff_loose hf).mp happ).1 ⟨rfl, State.Warmed39.refl s, rfl⟩ trivial
  exact ⟨n, _, h1, h2, h3, hpost _ _ _ _ _ _ ⟨Cond.after_iff.mpr rfl, Cond.after_iff.mpr (eq_i res_at (Term.int_eval (1)) rfl), trivial⟩ ⟨hq.1, hq.2.1, (hq.2.2.sift fun y hy => Or.inr (N y hy)).mono (by decide) (by decide)⟩⟩
theorem main_1_1 : Claimed_1_1 := comes_1 fun _ _ _ _ _ _ h hF => ⟨h.1, hF⟩
theorem main_1_2 : Claimed_1_2 := comes_1 fun _ _ _ _ _ _ h hF => ⟨h.2.1, hF⟩
end Jvm.Pilot.@@N@@
namespace Jvm.Pilot.@@N@@
open Jvm Jvm.ClassFile Sem Op Lib Jvm.Free Jvm.Stand Jvm.Pilot.@@N@@.Jvm.D
/-! MADE BY PROGRAM (witnessworld.py) out of the Statement's table words and the real class files: 13 classes; the members and pool entries that the words name. The judged class is class 1, her method 1. -/
namespace start1
open Jvm.ClassFile
def u (s : String) : CpInfo := .utf8 (stringToUtf16 s)
/-- a pool by its gaps: so many unusable entries, then the entry; so many at the end -/
def gap : Nat → List CpInfo → List CpInfo
  | 0, r => r
  | n + 1, r => .unusable :: gap n r
def poolList (es : List (Nat × CpInfo)) (last : Nat) : List CpInfo := es.foldr (fun e r => gap e.1 (e.2 :: r)) (gap last [])
def pool (es : List (Nat × CpInfo)) (last : Nat) : Array CpInfo := ⟨poolList es last⟩
def fileOf (pool : Array CpInfo) (this : Nat) (attrs : Array Attribute := #[]) (ms : Array MethodInfo := #[]) (fl : Nat := 33) (sup : Nat := 0) (ifs : Array Nat := #[]) (fds : Array FieldInfo := #[]) : ClassFile where
  minorVersion := 0
  majorVersion := 65
  constantPool := pool
  accessFlags := fl
  thisClass := this
  superClass := sup
  interfaces := ifs
  fields := fds
  methods := ms
  attributes := attrs
def plain (name : String) (sup : Option ClassId) : Class where
  name := name
  kind := .ordinary
  loader := none
  accessFlags := 33
  super := sup
  interfaces := #[]
  cf := none
  fields := #[]
  methods := #[]
  instanceTypes := #[]
  staticTypes := #[]
  resolved := #[]
  callSites := []
  init := .initialized
  statics := none
  mirror := none

def pool0 : Array CpInfo := pool [(5, u "<init>"), (0, u "()V"), (1, .class_ 10), (1, u "java/lang/Object")] 113

def k0c0 : Code := { maxStack := 0, maxLocals := 1, code := object_method_1_code, exceptionTable := #[], attributes := #[] }
def k0m0 : Method := { name := "<init>", desc := "()V", sig := { parameters := [], returnType := none }, accessFlags := 1, code := some k0c0 }
/-- java/lang/Object -/
def k0 : Class := { plain "java/lang/Object" none with
  accessFlags := 33
  interfaces := #[]
  cf := some (fileOf pool0 8 #[] #[{ accessFlags := 1, nameIndex := 5, descriptorIndex := 6, attributes := #[] }] 33 0 #[] #[])
  fields := #[]
  methods := #[k0m0]
  instanceTypes := #[]
  staticTypes := #[]
  resolved := Array.replicate 124 none
  statics := none }

def pool1 : Array CpInfo := pool [(2, .class_ 4), (1, u "java/lang/Object"), (0, u "<init>"), (0, u "()V"), (0, .class_ 8), (0, u "MeanCycleCert"), (0, .methodref 7 10), (0, .nameAndType 5 11), (0, u "(I)V"), (0, .methodref 7 13), (0, .nameAndType 14 15), (0, u "addArc"), (0, u "(III)I"), (0, .methodref 7 17), (0, .nameAndType 18 19), (0, u "solve"), (0, u "()I"), (0, .long 3), (1, .long 2), (1, .methodref 25 26), (0, .class_ 27), (0, .nameAndType 28 29), (0, u "MeanCycleCertL3"), (0, u "min"), (0, u "(JJ)J"), (0, .methodref 7 31), (0, .nameAndType 32 19), (0, u "cycleLength"), (0, .methodref 7 34), (0, .nameAndType 35 36), (0, u "cycleWeight"), (0, u "()J"), (0, .methodref 7 38), (0, .nameAndType 39 40), (0, u "cycleVertex"), (0, u "(I)I"), (0, .methodref 7 42), (0, .nameAndType 43 44), (0, u "isCritical"), (0, u "(I)Z"), (0, .methodref 7 46), (0, .nameAndType 47 48), (0, u "potential"), (0, u "(I)J"), (0, .methodref 7 50), (0, .nameAndType 51 52), (0, u "reducedCost"), (0, u "(II)J"), (0, .long 18446744073709551615), (3, u "law"), (0, u "(IIII)Z")] 3

def k1m0 : Method := { name := "<init>", desc := "()V", sig := { parameters := [], returnType := none }, accessFlags := 1, code := none }
def k1c1 : Code := { maxStack := 8, maxLocals := 32, code := code, exceptionTable := #[], attributes := #[] }
def k1m1 : Method := { name := "law", desc := "(IIII)Z", sig := { parameters := [.int, .int, .int, .int], returnType := some .boolean }, accessFlags := 9, code := some k1c1 }
def k1c2 : Code := { maxStack := 4, maxLocals := 4, code := method_3_code, exceptionTable := #[], attributes := #[] }
def k1m2 : Method := { name := "min", desc := "(JJ)J", sig := { parameters := [.long, .long], returnType := some .long }, accessFlags := 10, code := some k1c2 }
/-- MeanCycleCertL3 -/
def k1 : Class := { plain "MeanCycleCertL3" (some 0) with
  accessFlags := 33
  interfaces := #[]
  cf := some (fileOf pool1 25 #[] #[{ accessFlags := 1, nameIndex := 5, descriptorIndex := 6, attributes := #[] }, { accessFlags := 9, nameIndex := 57, descriptorIndex := 58, attributes := #[] }, { accessFlags := 10, nameIndex := 28, descriptorIndex := 29, attributes := #[] }] 33 2 #[] #[])
  fields := #[]
  methods := #[k1m0, k1m1, k1m2]
  instanceTypes := #[]
  staticTypes := #[]
  resolved := Array.replicate 62 none
  statics := none }

def pool2 : Array CpInfo := pool [(1, .methodref 2 3), (0, .class_ 4), (0, .nameAndType 5 6), (0, u "java/lang/Object"), (0, u "<init>"), (0, u "()V"), (0, .fieldref 8 9), (0, .class_ 10), (0, .nameAndType 11 12), (0, u "MeanCycleCert"), (0, u "has"), (0, u "[Z"), (0, .fieldref 8 14), (0, .nameAndType 15 16), (0, u "wt"), (0, u "[I"), (0, .fieldref 8 18), (0, .nameAndType 19 16), (0, u "seq"), (0, .fieldref 8 21), (0, .nameAndType 22 12), (0, u "crit"), (0, .fieldref 8 24), (0, .nameAndType 25 26), (0, u "pot"), (0, u "[J"), (0, .fieldref 8 28), (0, .nameAndType 29 26), (0, u "karp"), (0, .fieldref 8 31), (0, .nameAndType 32 12), (0, u "tight"), (0, .fieldref 8 34), (0, .nameAndType 35 16), (0, u "reach"), (0, .fieldref 8 37), (0, .nameAndType 38 16), (0, u "dist"), (0, .fieldref 8 40), (0, .nameAndType 41 16), (0, u "queue"), (0, .long 4000000000000000000), (1, .fieldref 8 45), (0, .nameAndType 46 47), (0, u "inf"), (0, u "J"), (0, .fieldref 8 49), (0, .nameAndType 50 51), (0, u "n"), (0, u "I"), (0, .fieldref 8 53), (0, .nameAndType 54 55), (0, u "res"), (0, u "Z"), (0, .fieldref 8 57), (0, .nameAndType 58 55), (0, u "cyc"), (0, .methodref 8 60), (0, .nameAndType 61 62), (0, u "inRange"), (0, u "(I)Z"), (0, .methodref 8 64), (0, .nameAndType 65 62), (0, u "weightOk"), (0, .fieldref 8 67), (0, .nameAndType 68 51), (0, u "arcs"), (0, .methodref 8 70), (0, .nameAndType 71 6), (0, u "discard"), (0, .methodref 8 73), (0, .nameAndType 74 75), (0, u "hasArc"), (0, u "(II)Z"), (0, .methodref 8 77), (0, .nameAndType 78 6), (0, u "clearResult"), (0, .methodref 8 80), (0, .nameAndType 81 82), (0, u "runKarp"), (0, u "()Z"), (0, .fieldref 8 84), (0, .nameAndType 85 47), (0, u "muDen"), (0, .fieldref 8 87), (0, .nameAndType 88 47), (0, u "muNum"), (0, .methodref 8 90), (0, .nameAndType 91 92), (0, u "relax"), (0, u "(JJ)V"), (0, .methodref 8 94), (0, .nameAndType 95 92), (0, u "markTight"), (0, .methodref 8 97), (0, .nameAndType 98 6), (0, u "closure"), (0, .methodref 8 100), (0, .nameAndType 101 102), (0, u "bfsTo"), (0, u "(I)V"), (0, .methodref 8 104), (0, .nameAndType 105 102), (0, u "buildWitness"), (0, .fieldref 8 107), (0, .nameAndType 108 51), (0, u "len"), (0, .fieldref 8 110), (0, .nameAndType 111 47), (0, u "cw"), (0, .methodref 8 113), (0, .nameAndType 114 115), (0, u "relaxKarp"), (0, u "(II)V"), (0, .methodref 8 117), (0, .nameAndType 118 102), (0, u "vertexMax"), (0, .fieldref 8 120), (0, .nameAndType 121 47), (0, u "vNum"), (0, .fieldref 8 123), (0, .nameAndType 124 47), (0, u "vDen"), (0, .methodref 8 126), (0, .nameAndType 127 82), (0, u "cyclicStored"), (0, .long 18446744073709551615), (1, u "MAX_VERTICES"), (2, u "MAX_ARCS"), (1, u "MIN_WEIGHT"), (1, u "MAX_WEIGHT"), (1, u "OK"), (1, u "ERR_VERTEX"), (1, u "ERR_WEIGHT"), (1, u "ERR_EXISTS"), (1, u "ERR_MISSING"), (1, u "ERR_FULL"), (1, u "ACYCLIC"), (0, u "CYCLIC"), (3, u "addArc"), (0, u "(III)I"), (5, u "()I"), (1, u "solve"), (2, u "cycleLength"), (0, u "cycleWeight"), (0, u "()J"), (0, u "cycleVertex"), (0, u "(I)I"), (0, u "isCritical"), (0, u "potential"), (0, u "(I)J"), (0, u "reducedCost"), (0, u "(II)J")] 2

def k2c0 : Code := { maxStack := 3, maxLocals := 3, code := prog_1_method_1_code, exceptionTable := #[], attributes := #[] }
def k2m0 : Method := { name := "<init>", desc := "(I)V", sig := { parameters := [.int], returnType := none }, accessFlags := 1, code := some k2c0 }
def k2c1 : Code := { maxStack := 2, maxLocals := 2, code := prog_1_method_2_code, exceptionTable := #[], attributes := #[] }
def k2m1 : Method := { name := "inRange", desc := "(I)Z", sig := { parameters := [.int], returnType := some .boolean }, accessFlags := 2, code := some k2c1 }
def k2c2 : Code := { maxStack := 2, maxLocals := 2, code := prog_1_method_3_code, exceptionTable := #[], attributes := #[] }
def k2m2 : Method := { name := "weightOk", desc := "(I)Z", sig := { parameters := [.int], returnType := some .boolean }, accessFlags := 2, code := some k2c2 }
def k2c3 : Code := { maxStack := 2, maxLocals := 1, code := prog_1_method_4_code, exceptionTable := #[], attributes := #[] }
def k2m3 : Method := { name := "discard", desc := "()V", sig := { parameters := [], returnType := none }, accessFlags := 2, code := some k2c3 }
def k2c4 : Code := { maxStack := 3, maxLocals := 5, code := prog_1_method_5_code, exceptionTable := #[], attributes := #[] }
def k2m4 : Method := { name := "addArc", desc := "(III)I", sig := { parameters := [.int, .int, .int], returnType := some .int }, accessFlags := 1, code := some k2c4 }
def k2c5 : Code := { maxStack := 3, maxLocals := 3, code := prog_1_method_8_code, exceptionTable := #[], attributes := #[] }
def k2m5 : Method := { name := "hasArc", desc := "(II)Z", sig := { parameters := [.int, .int], returnType := some .boolean }, accessFlags := 1, code := some k2c5 }
def k2c6 : Code := { maxStack := 5, maxLocals := 3, code := prog_1_method_12_code, exceptionTable := #[], attributes := #[] }
def k2m6 : Method := { name := "solve", desc := "()I", sig := { parameters := [], returnType := some .int }, accessFlags := 1, code := some k2c6 }
def k2c7 : Code := { maxStack := 4, maxLocals := 2, code := prog_1_method_13_code, exceptionTable := #[], attributes := #[] }
def k2m7 : Method := { name := "clearResult", desc := "()V", sig := { parameters := [], returnType := none }, accessFlags := 2, code := some k2c7 }
def k2c8 : Code := { maxStack := 6, maxLocals := 3, code := prog_1_method_14_code, exceptionTable := #[], attributes := #[] }
def k2m8 : Method := { name := "runKarp", desc := "()Z", sig := { parameters := [], returnType := some .boolean }, accessFlags := 2, code := some k2c8 }
def k2c9 : Code := { maxStack := 5, maxLocals := 9, code := prog_1_method_15_code, exceptionTable := #[], attributes := #[] }
def k2m9 : Method := { name := "relaxKarp", desc := "(II)V", sig := { parameters := [.int, .int], returnType := none }, accessFlags := 2, code := some k2c9 }
def k2c10 : Code := { maxStack := 6, maxLocals := 12, code := prog_1_method_16_code, exceptionTable := #[], attributes := #[] }
def k2m10 : Method := { name := "vertexMax", desc := "(I)V", sig := { parameters := [.int], returnType := none }, accessFlags := 2, code := some k2c10 }
def k2c11 : Code := { maxStack := 6, maxLocals := 12, code := prog_1_method_17_code, exceptionTable := #[], attributes := #[] }
def k2m11 : Method := { name := "relax", desc := "(JJ)V", sig := { parameters := [.long, .long], returnType := none }, accessFlags := 2, code := some k2c11 }
def k2c12 : Code := { maxStack := 8, maxLocals := 8, code := prog_1_method_18_code, exceptionTable := #[], attributes := #[] }
def k2m12 : Method := { name := "markTight", desc := "(JJ)V", sig := { parameters := [.long, .long], returnType := none }, accessFlags := 2, code := some k2c12 }
def k2c13 : Code := { maxStack := 6, maxLocals := 3, code := prog_1_method_19_code, exceptionTable := #[], attributes := #[] }
def k2m13 : Method := { name := "closure", desc := "()V", sig := { parameters := [], returnType := none }, accessFlags := 2, code := some k2c13 }
def k2c14 : Code := { maxStack := 4, maxLocals := 6, code := prog_1_method_20_code, exceptionTable := #[], attributes := #[] }
def k2m14 : Method := { name := "bfsTo", desc := "(I)V", sig := { parameters := [.int], returnType := none }, accessFlags := 2, code := some k2c14 }
def k2c15 : Code := { maxStack := 5, maxLocals := 9, code := prog_1_method_21_code, exceptionTable := #[], attributes := #[] }
def k2m15 : Method := { name := "buildWitness", desc := "(I)V", sig := { parameters := [.int], returnType := none }, accessFlags := 2, code := some k2c15 }
def k2c16 : Code := { maxStack := 1, maxLocals := 1, code := prog_1_method_23_code, exceptionTable := #[], attributes := #[] }
def k2m16 : Method := { name := "cyclicStored", desc := "()Z", sig := { parameters := [], returnType := some .boolean }, accessFlags := 2, code := some k2c16 }
def k2c17 : Code := { maxStack := 1, maxLocals := 1, code := prog_1_method_24_code, exceptionTable := #[], attributes := #[] }
def k2m17 : Method := { name := "cycleLength", desc := "()I", sig := { parameters := [], returnType := some .int }, accessFlags := 1, code := some k2c17 }
def k2c18 : Code := { maxStack := 2, maxLocals := 1, code := prog_1_method_25_code, exceptionTable := #[], attributes := #[] }
def k2m18 : Method := { name := "cycleWeight", desc := "()J", sig := { parameters := [], returnType := some .long }, accessFlags := 1, code := some k2c18 }
def k2c19 : Code := { maxStack := 2, maxLocals := 2, code := prog_1_method_26_code, exceptionTable := #[], attributes := #[] }
def k2m19 : Method := { name := "cycleVertex", desc := "(I)I", sig := { parameters := [.int], returnType := some .int }, accessFlags := 1, code := some k2c19 }
def k2c20 : Code := { maxStack := 2, maxLocals := 2, code := prog_1_method_27_code, exceptionTable := #[], attributes := #[] }
def k2m20 : Method := { name := "isCritical", desc := "(I)Z", sig := { parameters := [.int], returnType := some .boolean }, accessFlags := 1, code := some k2c20 }
def k2c21 : Code := { maxStack := 2, maxLocals := 2, code := prog_1_method_28_code, exceptionTable := #[], attributes := #[] }
def k2m21 : Method := { name := "potential", desc := "(I)J", sig := { parameters := [.int], returnType := some .long }, accessFlags := 1, code := some k2c21 }
def k2c22 : Code := { maxStack := 5, maxLocals := 3, code := prog_1_method_29_code, exceptionTable := #[], attributes := #[] }
def k2m22 : Method := { name := "reducedCost", desc := "(II)J", sig := { parameters := [.int, .int], returnType := some .long }, accessFlags := 1, code := some k2c22 }
/-- MeanCycleCert -/
def k2 : Class := { plain "MeanCycleCert" (some 0) with
  accessFlags := 49
  interfaces := #[]
  cf := some (fileOf pool2 8 #[] #[{ accessFlags := 1, nameIndex := 5, descriptorIndex := 102, attributes := #[] }, { accessFlags := 2, nameIndex := 61, descriptorIndex := 62, attributes := #[] }, { accessFlags := 2, nameIndex := 65, descriptorIndex := 62, attributes := #[] }, { accessFlags := 2, nameIndex := 71, descriptorIndex := 6, attributes := #[] }, { accessFlags := 1, nameIndex := 156, descriptorIndex := 157, attributes := #[] }, { accessFlags := 1, nameIndex := 74, descriptorIndex := 75, attributes := #[] }, { accessFlags := 1, nameIndex := 165, descriptorIndex := 163, attributes := #[] }, { accessFlags := 2, nameIndex := 78, descriptorIndex := 6, attributes := #[] }, { accessFlags := 2, nameIndex := 81, descriptorIndex := 82, attributes := #[] }, { accessFlags := 2, nameIndex := 114, descriptorIndex := 115, attributes := #[] }, { accessFlags := 2, nameIndex := 118, descriptorIndex := 102, attributes := #[] }, { accessFlags := 2, nameIndex := 91, descriptorIndex := 92, attributes := #[] }, { accessFlags := 2, nameIndex := 95, descriptorIndex := 92, attributes := #[] }, { accessFlags := 2, nameIndex := 98, descriptorIndex := 6, attributes := #[] }, { accessFlags := 2, nameIndex := 101, descriptorIndex := 102, attributes := #[] }, { accessFlags := 2, nameIndex := 105, descriptorIndex := 102, attributes := #[] }, { accessFlags := 2, nameIndex := 127, descriptorIndex := 82, attributes := #[] }, { accessFlags := 1, nameIndex := 168, descriptorIndex := 163, attributes := #[] }, { accessFlags := 1, nameIndex := 169, descriptorIndex := 170, attributes := #[] }, { accessFlags := 1, nameIndex := 171, descriptorIndex := 172, attributes := #[] }, { accessFlags := 1, nameIndex := 173, descriptorIndex := 62, attributes := #[] }, { accessFlags := 1, nameIndex := 174, descriptorIndex := 175, attributes := #[] }, { accessFlags := 1, nameIndex := 176, descriptorIndex := 177, attributes := #[] }] 49 2 #[] #[{ accessFlags := 25, nameIndex := 130, descriptorIndex := 51, attributes := #[] }, { accessFlags := 25, nameIndex := 133, descriptorIndex := 51, attributes := #[] }, { accessFlags := 25, nameIndex := 135, descriptorIndex := 51, attributes := #[] }, { accessFlags := 25, nameIndex := 137, descriptorIndex := 51, attributes := #[] }, { accessFlags := 25, nameIndex := 139, descriptorIndex := 51, attributes := #[] }, { accessFlags := 25, nameIndex := 141, descriptorIndex := 51, attributes := #[] }, { accessFlags := 25, nameIndex := 143, descriptorIndex := 51, attributes := #[] }, { accessFlags := 25, nameIndex := 145, descriptorIndex := 51, attributes := #[] }, { accessFlags := 25, nameIndex := 147, descriptorIndex := 51, attributes := #[] }, { accessFlags := 25, nameIndex := 149, descriptorIndex := 51, attributes := #[] }, { accessFlags := 25, nameIndex := 151, descriptorIndex := 51, attributes := #[] }, { accessFlags := 25, nameIndex := 152, descriptorIndex := 51, attributes := #[] }, { accessFlags := 2, nameIndex := 50, descriptorIndex := 51, attributes := #[] }, { accessFlags := 2, nameIndex := 68, descriptorIndex := 51, attributes := #[] }, { accessFlags := 2, nameIndex := 11, descriptorIndex := 12, attributes := #[] }, { accessFlags := 2, nameIndex := 15, descriptorIndex := 16, attributes := #[] }, { accessFlags := 2, nameIndex := 54, descriptorIndex := 55, attributes := #[] }, { accessFlags := 2, nameIndex := 58, descriptorIndex := 55, attributes := #[] }, { accessFlags := 2, nameIndex := 108, descriptorIndex := 51, attributes := #[] }, { accessFlags := 2, nameIndex := 111, descriptorIndex := 47, attributes := #[] }, { accessFlags := 2, nameIndex := 19, descriptorIndex := 16, attributes := #[] }, { accessFlags := 2, nameIndex := 22, descriptorIndex := 12, attributes := #[] }, { accessFlags := 2, nameIndex := 25, descriptorIndex := 26, attributes := #[] }, { accessFlags := 2, nameIndex := 29, descriptorIndex := 26, attributes := #[] }, { accessFlags := 2, nameIndex := 32, descriptorIndex := 12, attributes := #[] }, { accessFlags := 2, nameIndex := 35, descriptorIndex := 16, attributes := #[] }, { accessFlags := 2, nameIndex := 38, descriptorIndex := 16, attributes := #[] }, { accessFlags := 2, nameIndex := 41, descriptorIndex := 16, attributes := #[] }, { accessFlags := 2, nameIndex := 46, descriptorIndex := 47, attributes := #[] }, { accessFlags := 2, nameIndex := 88, descriptorIndex := 47, attributes := #[] }, { accessFlags := 2, nameIndex := 85, descriptorIndex := 47, attributes := #[] }, { accessFlags := 2, nameIndex := 121, descriptorIndex := 47, attributes := #[] }, { accessFlags := 2, nameIndex := 124, descriptorIndex := 47, attributes := #[] }])
  fields := #[{ name := "MAX_VERTICES", type := .int, accessFlags := 25, slot := 0, constantValue := 0 }, { name := "MAX_ARCS", type := .int, accessFlags := 25, slot := 1, constantValue := 0 }, { name := "MIN_WEIGHT", type := .int, accessFlags := 25, slot := 2, constantValue := 0 }, { name := "MAX_WEIGHT", type := .int, accessFlags := 25, slot := 3, constantValue := 0 }, { name := "OK", type := .int, accessFlags := 25, slot := 4, constantValue := 0 }, { name := "ERR_VERTEX", type := .int, accessFlags := 25, slot := 5, constantValue := 0 }, { name := "ERR_WEIGHT", type := .int, accessFlags := 25, slot := 6, constantValue := 0 }, { name := "ERR_EXISTS", type := .int, accessFlags := 25, slot := 7, constantValue := 0 }, { name := "ERR_MISSING", type := .int, accessFlags := 25, slot := 8, constantValue := 0 }, { name := "ERR_FULL", type := .int, accessFlags := 25, slot := 9, constantValue := 0 }, { name := "ACYCLIC", type := .int, accessFlags := 25, slot := 10, constantValue := 0 }, { name := "CYCLIC", type := .int, accessFlags := 25, slot := 11, constantValue := 0 }, { name := "n", type := .int, accessFlags := 2, slot := 0, constantValue := 0 }, { name := "arcs", type := .int, accessFlags := 2, slot := 1, constantValue := 0 }, { name := "has", type := (.array .boolean), accessFlags := 2, slot := 2, constantValue := 0 }, { name := "wt", type := (.array .int), accessFlags := 2, slot := 3, constantValue := 0 }, { name := "res", type := .boolean, accessFlags := 2, slot := 4, constantValue := 0 }, { name := "cyc", type := .boolean, accessFlags := 2, slot := 5, constantValue := 0 }, { name := "len", type := .int, accessFlags := 2, slot := 6, constantValue := 0 }, { name := "cw", type := .long, accessFlags := 2, slot := 7, constantValue := 0 }, { name := "seq", type := (.array .int), accessFlags := 2, slot := 8, constantValue := 0 }, { name := "crit", type := (.array .boolean), accessFlags := 2, slot := 9, constantValue := 0 }, { name := "pot", type := (.array .long), accessFlags := 2, slot := 10, constantValue := 0 }, { name := "karp", type := (.array .long), accessFlags := 2, slot := 11, constantValue := 0 }, { name := "tight", type := (.array .boolean), accessFlags := 2, slot := 12, constantValue := 0 }, { name := "reach", type := (.array .int), accessFlags := 2, slot := 13, constantValue := 0 }, { name := "dist", type := (.array .int), accessFlags := 2, slot := 14, constantValue := 0 }, { name := "queue", type := (.array .int), accessFlags := 2, slot := 15, constantValue := 0 }, { name := "inf", type := .long, accessFlags := 2, slot := 16, constantValue := 0 }, { name := "muNum", type := .long, accessFlags := 2, slot := 17, constantValue := 0 }, { name := "muDen", type := .long, accessFlags := 2, slot := 18, constantValue := 0 }, { name := "vNum", type := .long, accessFlags := 2, slot := 19, constantValue := 0 }, { name := "vDen", type := .long, accessFlags := 2, slot := 20, constantValue := 0 }]
  methods := #[k2m0, k2m1, k2m2, k2m3, k2m4, k2m5, k2m6, k2m7, k2m8, k2m9, k2m10, k2m11, k2m12, k2m13, k2m14, k2m15, k2m16, k2m17, k2m18, k2m19, k2m20, k2m21, k2m22]
  instanceTypes := #[.int, .int, (.array .boolean), (.array .int), .boolean, .boolean, .int, .long, (.array .int), (.array .boolean), (.array .long), (.array .long), (.array .boolean), (.array .int), (.array .int), (.array .int), .long, .long, .long, .long, .long]
  staticTypes := #[.int, .int, .int, .int, .int, .int, .int, .int, .int, .int, .int, .int]
  resolved := Array.replicate 180 none
  statics := none }

def pool3 : Array CpInfo := pool [(1, u "java/lang/Cloneable"), (0, .class_ 1), (0, u "java/lang/Object"), (0, .class_ 3)] 3

/-- java/lang/Cloneable -/
def k3 : Class := { plain "java/lang/Cloneable" (some 0) with
  accessFlags := 1537
  interfaces := #[]
  cf := some (fileOf pool3 2 #[] #[] 1537 4 #[] #[])
  fields := #[]
  methods := #[]
  instanceTypes := #[]
  staticTypes := #[]
  resolved := Array.replicate 8 none
  statics := none }

def pool4 : Array CpInfo := pool [(1, u "java/io/Serializable"), (0, .class_ 1), (0, u "java/lang/Object"), (0, .class_ 3)] 3

/-- java/io/Serializable -/
def k4 : Class := { plain "java/io/Serializable" (some 0) with
  accessFlags := 1537
  interfaces := #[]
  cf := some (fileOf pool4 2 #[] #[] 1537 4 #[] #[])
  fields := #[]
  methods := #[]
  instanceTypes := #[]
  staticTypes := #[]
  resolved := Array.replicate 8 none
  statics := none }

/-- the primitive boolean -/
def k5 : Class := { plain "boolean" none with kind := .primitive 'Z', accessFlags := 0x411 }
/-- [Z -/
def k6 : Class := { plain "[Z" (some 0) with kind := .array 5 .boolean, interfaces := #[3, 4], accessFlags := 1041 }

/-- the primitive byte -/
def k7 : Class := { plain "byte" none with kind := .primitive 'B', accessFlags := 0x411 }
/-- [B -/
def k8 : Class := { plain "[B" (some 0) with kind := .array 7 .byte, interfaces := #[3, 4], accessFlags := 1041 }

/-- the primitive int -/
def k9 : Class := { plain "int" none with kind := .primitive 'I', accessFlags := 0x411 }
/-- [I -/
def k10 : Class := { plain "[I" (some 0) with kind := .array 9 .int, interfaces := #[3, 4], accessFlags := 1041 }

/-- the primitive long -/
def k11 : Class := { plain "long" none with kind := .primitive 'J', accessFlags := 0x411 }
/-- [J -/
def k12 : Class := { plain "[J" (some 0) with kind := .array 11 .long, interfaces := #[3, 4], accessFlags := 1041 }

def heap : Heap := #[]
def classes : Array Class := #[k0, k1, k2, k3, k4, k5, k6, k7, k8, k9, k10, k11, k12]
def interned : List (Array UInt16 × Addr) := []
def slotsUsed : Nat := 0
def theMethod : MethodId := ⟨1, 1⟩
def args0 : Array Value := #[.int 5, .int 2, .int 3, .int 7]
def aboutOver (below : List Frame) : State where
  vm := { classes := classes, interned := interned.toArray }
  heap := heap
  slotsUsed := slotsUsed
  threads := #[{ frames := .invoking theMethod args0 :: below }]
def below0 : List Frame := [.native { method := ⟨0, 0⟩, args := #[] }]
def about1 : State := aboutOver below0
def p0 : Program := .bare "" "" ""
def e0 : Env := launch0.env 0 0 0
theorem w_frames : about1.frames = Frame.invoking theMethod args0 :: below0 := rfl
set_option maxRecDepth 65536 in
theorem w_args : argsFit about1.vm theMethod args0 = true := by decide +kernel
set_option maxRecDepth 65536 in
theorem w_heap : heapFits about1 = true := by decide +kernel
set_option maxRecDepth 65536 in
theorem w_runnable : about1.curStatus? = some .runnable := by decide +kernel
set_option maxRecDepth 65536 in
theorem w_alone : about1.alone = true := by decide +kernel
set_option maxRecDepth 65536 in
theorem w_named : about1.methodNamed? x = some theMethod := by decide +kernel
set_option maxRecDepth 65536 in
theorem w_hears : about1.hears theMethod below0 = true := by decide +kernel
set_option maxRecDepth 65536 in
theorem w_ripe : about1.ripe theMethod args0 below0 = true := by decide +kernel
theorem w_running : about1.status = .running := rfl
set_option maxRecDepth 65536 in
theorem w_room : about1.hasRoom e0.platform room_1 = true :=
  launch0.hasRoom_least _ room_1 (by decide +kernel) (by decide +kernel) (by decide +kernel) (by decide +kernel) (by decide +kernel) (by decide +kernel)
theorem allAtoms_all (ts : List Jvm.Cond) (a : Array Jvm.Value) (st : Jvm.State) : (allAtoms ts).before a st = ts.all (fun c => c.before a st) := by
  induction ts with
  | nil => rfl
  | cons c t ih =>
    show (Jvm.Cond.and c (allAtoms t)).before a st = _
    rw [Jvm.Cond.before_and, ih, List.all_cons]
def words1 : List Jvm.Cond := Jvm.Cond.code x code maxLocals ret :: tables_1
/-- a 'code' word, met by the world's own term for the bytes: nothing is compared byte by byte -/
theorem code_word {y : MethodName} {bytes : ByteArray} {mx : Nat} {rt : Option FieldType} {a : Array Value} {s : State} {m : MethodId} {meth : Method} {c : Code} (h1 : s.methodNamed? y = some m) (h2 : s.vm.method? m = some meth) (h3 : meth.code = some c) (h4 : c.code = bytes)
    (h5 : (c.maxLocals == mx && c.exceptionTable.isEmpty && decide (c.maxStack ≤ mostOperands) && decide (meth.sig.returnType = rt) && !meth.locks && decide (parseMethodDescriptor y.desc = some meth.sig)) = true) : (Jvm.Cond.code y bytes mx rt).before a s = true := by
  simp only [Bool.and_eq_true, beq_iff_eq, Bool.not_eq_true', decide_eq_true_eq] at h5
  obtain ⟨⟨⟨⟨⟨g1, g2⟩, g3⟩, g4⟩, g5⟩, g6⟩ := h5
  simp [Cond.before, Cond.holds, Cond.value, h1, h2, h3, h4, g1, g2, g3, g4, g5, g6]
def isCode : Jvm.Cond → Bool
  | .code _ _ _ _ => true
  | _ => false
theorem all_split {L : List Jvm.Cond} {P : Jvm.Cond → Bool} (h1 : L.all (fun c => isCode c || P c) = true) (h2 : ∀ c ∈ L.filter isCode, P c = true) : L.all P = true := by
  refine List.all_eq_true.mpr fun c hc => ?_
  have h := List.all_eq_true.mp h1 c hc
  rcases Bool.eq_false_or_eq_true (isCode c) with hi | hi
  · exact h2 c (List.mem_filter.mpr ⟨hc, hi⟩)
  · simpa [hi] using h
set_option maxRecDepth 65536 in
theorem w_c0 : (Jvm.Cond.code x code maxLocals ret).before args0 about1 = true := code_word (m := ⟨1, 1⟩) (meth := k1m1) (c := k1c1) (by decide +kernel) rfl rfl rfl (by decide +kernel)
set_option maxRecDepth 65536 in
theorem w_c1 : (Jvm.Cond.code ({ cls := "MeanCycleCert", name := "<init>", desc := "(I)V" } : Jvm.MethodName) prog_1_method_1_code (3 : Nat) (Option.none : Option Jvm.ClassFile.FieldType)).before args0 about1 = true := code_word (m := ⟨2, 0⟩) (meth := k2m0) (c := k2c0) (by decide +kernel) rfl rfl rfl (by decide +kernel)
set_option maxRecDepth 65536 in
theorem w_c2 : (Jvm.Cond.code ({ cls := "java/lang/Object", name := "<init>", desc := "()V" } : Jvm.MethodName) object_method_1_code (1 : Nat) (Option.none : Option Jvm.ClassFile.FieldType)).before args0 about1 = true := code_word (m := ⟨0, 0⟩) (meth := k0m0) (c := k0c0) (by decide +kernel) rfl rfl rfl (by decide +kernel)
set_option maxRecDepth 65536 in
theorem w_c3 : (Jvm.Cond.code ({ cls := "MeanCycleCert", name := "addArc", desc := "(III)I" } : Jvm.MethodName) prog_1_method_5_code (5 : Nat) (Option.some Jvm.ClassFile.FieldType.int)).before args0 about1 = true := code_word (m := ⟨2, 4⟩) (meth := k2m4) (c := k2c4) (by decide +kernel) rfl rfl rfl (by decide +kernel)
set_option maxRecDepth 65536 in
theorem w_c4 : (Jvm.Cond.code ({ cls := "MeanCycleCert", name := "inRange", desc := "(I)Z" } : Jvm.MethodName) prog_1_method_2_code (2 : Nat) (Option.some Jvm.ClassFile.FieldType.boolean)).before args0 about1 = true := code_word (m := ⟨2, 1⟩) (meth := k2m1) (c := k2c1) (by decide +kernel) rfl rfl rfl (by decide +kernel)
set_option maxRecDepth 65536 in
theorem w_c5 : (Jvm.Cond.code ({ cls := "MeanCycleCert", name := "weightOk", desc := "(I)Z" } : Jvm.MethodName) prog_1_method_3_code (2 : Nat) (Option.some Jvm.ClassFile.FieldType.boolean)).before args0 about1 = true := code_word (m := ⟨2, 2⟩) (meth := k2m2) (c := k2c2) (by decide +kernel) rfl rfl rfl (by decide +kernel)
set_option maxRecDepth 65536 in
theorem w_c6 : (Jvm.Cond.code ({ cls := "MeanCycleCert", name := "discard", desc := "()V" } : Jvm.MethodName) prog_1_method_4_code (1 : Nat) (Option.none : Option Jvm.ClassFile.FieldType)).before args0 about1 = true := code_word (m := ⟨2, 3⟩) (meth := k2m3) (c := k2c3) (by decide +kernel) rfl rfl rfl (by decide +kernel)
set_option maxRecDepth 65536 in
theorem w_c7 : (Jvm.Cond.code ({ cls := "MeanCycleCert", name := "solve", desc := "()I" } : Jvm.MethodName) prog_1_method_12_code (3 : Nat) (Option.some Jvm.ClassFile.FieldType.int)).before args0 about1 = true := code_word (m := ⟨2, 6⟩) (meth := k2m6) (c := k2c6) (by decide +kernel) rfl rfl rfl (by decide +kernel)
set_option maxRecDepth 65536 in
theorem w_c8 : (Jvm.Cond.code ({ cls := "MeanCycleCert", name := "clearResult", desc := "()V" } : Jvm.MethodName) prog_1_method_13_code (2 : Nat) (Option.none : Option Jvm.ClassFile.FieldType)).before args0 about1 = true := code_word (m := ⟨2, 7⟩) (meth := k2m7) (c := k2c7) (by decide +kernel) rfl rfl rfl (by decide +kernel)
set_option maxRecDepth 65536 in
theorem w_c9 : (Jvm.Cond.code ({ cls := "MeanCycleCert", name := "runKarp", desc := "()Z" } : Jvm.MethodName) prog_1_method_14_code (3 : Nat) (Option.some Jvm.ClassFile.FieldType.boolean)).before args0 about1 = true := code_word (m := ⟨2, 8⟩) (meth := k2m8) (c := k2c8) (by decide +kernel) rfl rfl rfl (by decide +kernel)
set_option maxRecDepth 65536 in
theorem w_c10 : (Jvm.Cond.code ({ cls := "MeanCycleCert", name := "relaxKarp", desc := "(II)V" } : Jvm.MethodName) prog_1_method_15_code (9 : Nat) (Option.none : Option Jvm.ClassFile.FieldType)).before args0 about1 = true := code_word (m := ⟨2, 9⟩) (meth := k2m9) (c := k2c9) (by decide +kernel) rfl rfl rfl (by decide +kernel)
set_option maxRecDepth 65536 in
theorem w_c11 : (Jvm.Cond.code ({ cls := "MeanCycleCert", name := "vertexMax", desc := "(I)V" } : Jvm.MethodName) prog_1_method_16_code (12 : Nat) (Option.none : Option Jvm.ClassFile.FieldType)).before args0 about1 = true := code_word (m := ⟨2, 10⟩) (meth := k2m10) (c := k2c10) (by decide +kernel) rfl rfl rfl (by decide +kernel)
set_option maxRecDepth 65536 in
theorem w_c12 : (Jvm.Cond.code ({ cls := "MeanCycleCert", name := "relax", desc := "(JJ)V" } : Jvm.MethodName) prog_1_method_17_code (12 : Nat) (Option.none : Option Jvm.ClassFile.FieldType)).before args0 about1 = true := code_word (m := ⟨2, 11⟩) (meth := k2m11) (c := k2c11) (by decide +kernel) rfl rfl rfl (by decide +kernel)
set_option maxRecDepth 65536 in
theorem w_c13 : (Jvm.Cond.code ({ cls := "MeanCycleCert", name := "markTight", desc := "(JJ)V" } : Jvm.MethodName) prog_1_method_18_code (8 : Nat) (Option.none : Option Jvm.ClassFile.FieldType)).before args0 about1 = true := code_word (m := ⟨2, 12⟩) (meth := k2m12) (c := k2c12) (by decide +kernel) rfl rfl rfl (by decide +kernel)
set_option maxRecDepth 65536 in
theorem w_c14 : (Jvm.Cond.code ({ cls := "MeanCycleCert", name := "closure", desc := "()V" } : Jvm.MethodName) prog_1_method_19_code (3 : Nat) (Option.none : Option Jvm.ClassFile.FieldType)).before args0 about1 = true := code_word (m := ⟨2, 13⟩) (meth := k2m13) (c := k2c13) (by decide +kernel) rfl rfl rfl (by decide +kernel)
set_option maxRecDepth 65536 in
theorem w_c15 : (Jvm.Cond.code ({ cls := "MeanCycleCert", name := "bfsTo", desc := "(I)V" } : Jvm.MethodName) prog_1_method_20_code (6 : Nat) (Option.none : Option Jvm.ClassFile.FieldType)).before args0 about1 = true := code_word (m := ⟨2, 14⟩) (meth := k2m14) (c := k2c14) (by decide +kernel) rfl rfl rfl (by decide +kernel)
set_option maxRecDepth 65536 in
theorem w_c16 : (Jvm.Cond.code ({ cls := "MeanCycleCert", name := "buildWitness", desc := "(I)V" } : Jvm.MethodName) prog_1_method_21_code (9 : Nat) (Option.none : Option Jvm.ClassFile.FieldType)).before args0 about1 = true := code_word (m := ⟨2, 15⟩) (meth := k2m15) (c := k2c15) (by decide +kernel) rfl rfl rfl (by decide +kernel)
set_option maxRecDepth 65536 in
theorem w_c17 : (Jvm.Cond.code ({ cls := "MeanCycleCertL3", name := "min", desc := "(JJ)J" } : Jvm.MethodName) method_3_code (4 : Nat) (Option.some Jvm.ClassFile.FieldType.long)).before args0 about1 = true := code_word (m := ⟨1, 2⟩) (meth := k1m2) (c := k1c2) (by decide +kernel) rfl rfl rfl (by decide +kernel)
set_option maxRecDepth 65536 in
theorem w_c18 : (Jvm.Cond.code ({ cls := "MeanCycleCert", name := "cycleLength", desc := "()I" } : Jvm.MethodName) prog_1_method_24_code (1 : Nat) (Option.some Jvm.ClassFile.FieldType.int)).before args0 about1 = true := code_word (m := ⟨2, 17⟩) (meth := k2m17) (c := k2c17) (by decide +kernel) rfl rfl rfl (by decide +kernel)
set_option maxRecDepth 65536 in
theorem w_c19 : (Jvm.Cond.code ({ cls := "MeanCycleCert", name := "cyclicStored", desc := "()Z" } : Jvm.MethodName) prog_1_method_23_code (1 : Nat) (Option.some Jvm.ClassFile.FieldType.boolean)).before args0 about1 = true := code_word (m := ⟨2, 16⟩) (meth := k2m16) (c := k2c16) (by decide +kernel) rfl rfl rfl (by decide +kernel)
set_option maxRecDepth 65536 in
theorem w_c20 : (Jvm.Cond.code ({ cls := "MeanCycleCert", name := "cycleWeight", desc := "()J" } : Jvm.MethodName) prog_1_method_25_code (1 : Nat) (Option.some Jvm.ClassFile.FieldType.long)).before args0 about1 = true := code_word (m := ⟨2, 18⟩) (meth := k2m18) (c := k2c18) (by decide +kernel) rfl rfl rfl (by decide +kernel)
set_option maxRecDepth 65536 in
theorem w_c21 : (Jvm.Cond.code ({ cls := "MeanCycleCert", name := "cycleVertex", desc := "(I)I" } : Jvm.MethodName) prog_1_method_26_code (2 : Nat) (Option.some Jvm.ClassFile.FieldType.int)).before args0 about1 = true := code_word (m := ⟨2, 19⟩) (meth := k2m19) (c := k2c19) (by decide +kernel) rfl rfl rfl (by decide +kernel)
set_option maxRecDepth 65536 in
theorem w_c22 : (Jvm.Cond.code ({ cls := "MeanCycleCert", name := "isCritical", desc := "(I)Z" } : Jvm.MethodName) prog_1_method_27_code (2 : Nat) (Option.some Jvm.ClassFile.FieldType.boolean)).before args0 about1 = true := code_word (m := ⟨2, 20⟩) (meth := k2m20) (c := k2c20) (by decide +kernel) rfl rfl rfl (by decide +kernel)
set_option maxRecDepth 65536 in
theorem w_c23 : (Jvm.Cond.code ({ cls := "MeanCycleCert", name := "potential", desc := "(I)J" } : Jvm.MethodName) prog_1_method_28_code (2 : Nat) (Option.some Jvm.ClassFile.FieldType.long)).before args0 about1 = true := code_word (m := ⟨2, 21⟩) (meth := k2m21) (c := k2c21) (by decide +kernel) rfl rfl rfl (by decide +kernel)
set_option maxRecDepth 65536 in
theorem w_c24 : (Jvm.Cond.code ({ cls := "MeanCycleCert", name := "reducedCost", desc := "(II)J" } : Jvm.MethodName) prog_1_method_29_code (3 : Nat) (Option.some Jvm.ClassFile.FieldType.long)).before args0 about1 = true := code_word (m := ⟨2, 22⟩) (meth := k2m22) (c := k2c22) (by decide +kernel) rfl rfl rfl (by decide +kernel)
set_option maxRecDepth 65536 in
theorem w_c25 : (Jvm.Cond.code ({ cls := "MeanCycleCert", name := "hasArc", desc := "(II)Z" } : Jvm.MethodName) prog_1_method_8_code (3 : Nat) (Option.some Jvm.ClassFile.FieldType.boolean)).before args0 about1 = true := code_word (m := ⟨2, 5⟩) (meth := k2m5) (c := k2c5) (by decide +kernel) rfl rfl rfl (by decide +kernel)
def codes1 : List Jvm.Cond := [Jvm.Cond.code x code maxLocals ret, Jvm.Cond.code ({ cls := "MeanCycleCert", name := "<init>", desc := "(I)V" } : Jvm.MethodName) prog_1_method_1_code (3 : Nat) (Option.none : Option Jvm.ClassFile.FieldType), Jvm.Cond.code ({ cls := "java/lang/Object", name := "<init>", desc := "()V" } : Jvm.MethodName) object_method_1_code (1 : Nat) (Option.none : Option Jvm.ClassFile.FieldType), Jvm.Cond.code ({ cls := "MeanCycleCert", name := "addArc", desc := "(III)I" } : Jvm.MethodName) prog_1_method_5_code (5 : Nat) (Option.some Jvm.ClassFile.FieldType.int), Jvm.Cond.code ({ cls := "MeanCycleCert", name := "inRange", desc := "(I)Z" } : Jvm.MethodName) prog_1_method_2_code (2 : Nat) (Option.some Jvm.ClassFile.FieldType.boolean), Jvm.Cond.code ({ cls := "MeanCycleCert", name := "weightOk", desc := "(I)Z" } : Jvm.MethodName) prog_1_method_3_code (2 : Nat) (Option.some Jvm.ClassFile.FieldType.boolean), Jvm.Cond.code ({ cls := "MeanCycleCert", name := "discard", desc := "()V" } : Jvm.MethodName) prog_1_method_4_code (1 : Nat) (Option.none : Option Jvm.ClassFile.FieldType), Jvm.Cond.code ({ cls := "MeanCycleCert", name := "solve", desc := "()I" } : Jvm.MethodName) prog_1_method_12_code (3 : Nat) (Option.some Jvm.ClassFile.FieldType.int), Jvm.Cond.code ({ cls := "MeanCycleCert", name := "clearResult", desc := "()V" } : Jvm.MethodName) prog_1_method_13_code (2 : Nat) (Option.none : Option Jvm.ClassFile.FieldType), Jvm.Cond.code ({ cls := "MeanCycleCert", name := "runKarp", desc := "()Z" } : Jvm.MethodName) prog_1_method_14_code (3 : Nat) (Option.some Jvm.ClassFile.FieldType.boolean), Jvm.Cond.code ({ cls := "MeanCycleCert", name := "relaxKarp", desc := "(II)V" } : Jvm.MethodName) prog_1_method_15_code (9 : Nat) (Option.none : Option Jvm.ClassFile.FieldType), Jvm.Cond.code ({ cls := "MeanCycleCert", name := "vertexMax", desc := "(I)V" } : Jvm.MethodName) prog_1_method_16_code (12 : Nat) (Option.none : Option Jvm.ClassFile.FieldType), Jvm.Cond.code ({ cls := "MeanCycleCert", name := "relax", desc := "(JJ)V" } : Jvm.MethodName) prog_1_method_17_code (12 : Nat) (Option.none : Option Jvm.ClassFile.FieldType), Jvm.Cond.code ({ cls := "MeanCycleCert", name := "markTight", desc := "(JJ)V" } : Jvm.MethodName) prog_1_method_18_code (8 : Nat) (Option.none : Option Jvm.ClassFile.FieldType), Jvm.Cond.code ({ cls := "MeanCycleCert", name := "closure", desc := "()V" } : Jvm.MethodName) prog_1_method_19_code (3 : Nat) (Option.none : Option Jvm.ClassFile.FieldType), Jvm.Cond.code ({ cls := "MeanCycleCert", name := "bfsTo", desc := "(I)V" } : Jvm.MethodName) prog_1_method_20_code (6 : Nat) (Option.none : Option Jvm.ClassFile.FieldType), Jvm.Cond.code ({ cls := "MeanCycleCert", name := "buildWitness", desc := "(I)V" } : Jvm.MethodName) prog_1_method_21_code (9 : Nat) (Option.none : Option Jvm.ClassFile.FieldType), Jvm.Cond.code ({ cls := "MeanCycleCertL3", name := "min", desc := "(JJ)J" } : Jvm.MethodName) method_3_code (4 : Nat) (Option.some Jvm.ClassFile.FieldType.long), Jvm.Cond.code ({ cls := "MeanCycleCert", name := "cycleLength", desc := "()I" } : Jvm.MethodName) prog_1_method_24_code (1 : Nat) (Option.some Jvm.ClassFile.FieldType.int), Jvm.Cond.code ({ cls := "MeanCycleCert", name := "cyclicStored", desc := "()Z" } : Jvm.MethodName) prog_1_method_23_code (1 : Nat) (Option.some Jvm.ClassFile.FieldType.boolean), Jvm.Cond.code ({ cls := "MeanCycleCert", name := "cycleWeight", desc := "()J" } : Jvm.MethodName) prog_1_method_25_code (1 : Nat) (Option.some Jvm.ClassFile.FieldType.long), Jvm.Cond.code ({ cls := "MeanCycleCert", name := "cycleVertex", desc := "(I)I" } : Jvm.MethodName) prog_1_method_26_code (2 : Nat) (Option.some Jvm.ClassFile.FieldType.int), Jvm.Cond.code ({ cls := "MeanCycleCert", name := "isCritical", desc := "(I)Z" } : Jvm.MethodName) prog_1_method_27_code (2 : Nat) (Option.some Jvm.ClassFile.FieldType.boolean), Jvm.Cond.code ({ cls := "MeanCycleCert", name := "potential", desc := "(I)J" } : Jvm.MethodName) prog_1_method_28_code (2 : Nat) (Option.some Jvm.ClassFile.FieldType.long), Jvm.Cond.code ({ cls := "MeanCycleCert", name := "reducedCost", desc := "(II)J" } : Jvm.MethodName) prog_1_method_29_code (3 : Nat) (Option.some Jvm.ClassFile.FieldType.long), Jvm.Cond.code ({ cls := "MeanCycleCert", name := "hasArc", desc := "(II)Z" } : Jvm.MethodName) prog_1_method_8_code (3 : Nat) (Option.some Jvm.ClassFile.FieldType.boolean)]
set_option maxRecDepth 65536 in
theorem codes_eq : words1.filter isCode = codes1 := rfl
theorem w_codes : ∀ c ∈ words1.filter isCode, c.before args0 about1 = true := by
  rw [codes_eq]
  intro c hc
  simp only [codes1, List.mem_cons, List.not_mem_nil, or_false] at hc
  rcases hc with rfl | rfl | rfl | rfl | rfl | rfl | rfl | rfl | rfl | rfl | rfl | rfl | rfl | rfl | rfl | rfl | rfl | rfl | rfl | rfl | rfl | rfl | rfl | rfl | rfl | rfl
  · exact w_c0
  · exact w_c1
  · exact w_c2
  · exact w_c3
  · exact w_c4
  · exact w_c5
  · exact w_c6
  · exact w_c7
  · exact w_c8
  · exact w_c9
  · exact w_c10
  · exact w_c11
  · exact w_c12
  · exact w_c13
  · exact w_c14
  · exact w_c15
  · exact w_c16
  · exact w_c17
  · exact w_c18
  · exact w_c19
  · exact w_c20
  · exact w_c21
  · exact w_c22
  · exact w_c23
  · exact w_c24
  · exact w_c25
set_option maxRecDepth 65536 in
theorem w_t1 : (words1.take 24).all (fun c => isCode c || c.before args0 about1) = true := by decide +kernel
set_option maxRecDepth 65536 in
theorem w_t2 : ((words1.drop 24).take 24).all (fun c => isCode c || c.before args0 about1) = true := by decide +kernel
set_option maxRecDepth 65536 in
theorem w_t3 : (((words1.drop 24).drop 24).take 24).all (fun c => isCode c || c.before args0 about1) = true := by decide +kernel
set_option maxRecDepth 65536 in
theorem w_t4 : ((((words1.drop 24).drop 24).drop 24).take 24).all (fun c => isCode c || c.before args0 about1) = true := by decide +kernel
set_option maxRecDepth 65536 in
theorem w_t5 : (((((words1.drop 24).drop 24).drop 24).drop 24).take 24).all (fun c => isCode c || c.before args0 about1) = true := by decide +kernel
set_option maxRecDepth 65536 in
theorem w_t6 : ((((((words1.drop 24).drop 24).drop 24).drop 24).drop 24).take 24).all (fun c => isCode c || c.before args0 about1) = true := by decide +kernel
set_option maxRecDepth 65536 in
theorem w_t7 : ((((((words1.drop 24).drop 24).drop 24).drop 24).drop 24).drop 24).all (fun c => isCode c || c.before args0 about1) = true := by decide +kernel
theorem w_tables : (allAtoms (Jvm.Cond.code x code maxLocals ret :: tables_1)).before args0 about1 = true := by
  rw [allAtoms_all]
  show words1.all (fun c => c.before args0 about1) = true
  refine all_split ?_ w_codes
  rw [← List.take_append_drop 24 words1, List.all_append, w_t1, ← List.take_append_drop 24 (words1.drop 24), List.all_append, w_t2, ← List.take_append_drop 24 ((words1.drop 24).drop 24), List.all_append, w_t3, ← List.take_append_drop 24 (((words1.drop 24).drop 24).drop 24), List.all_append, w_t4, ← List.take_append_drop 24 ((((words1.drop 24).drop 24).drop 24).drop 24), List.all_append, w_t5, ← List.take_append_drop 24 (((((words1.drop 24).drop 24).drop 24).drop 24).drop 24), List.all_append, w_t6, w_t7]
  rfl
set_option maxRecDepth 65536 in
theorem w_case : (Jvm.Cond.and given_1 narrow_1).before args0 about1 = true := by decide +kernel
theorem w_applies : (headSpec (Jvm.Cond.code x code maxLocals ret :: tables_1) room_1).applies x e0.platform about1 = true :=
  (Spec.applies_iff w_frames).mpr ⟨w_running, w_runnable, w_alone, w_named, w_hears, w_ripe, w_room, w_tables⟩
theorem atStart : AtStart classFile x code maxLocals ret World_1 tables_1 room_1 Calls_1 rest_1 Pre_1 launch0 p0 e0 about1 theMethod args0 below0 :=
  ⟨lists_1, trivial, launch0.admits_env _ _ _, launch0.least_env, fairChoices_fair.cas, fairChoices_fair.clock, w_frames, w_args, w_heap, w_applies, trivial, trivial, w_case⟩
end start1
theorem witness_1 : WitnessClaimed_1 := ⟨start1.p0, start1.e0, start1.about1, start1.theMethod, start1.args0, start1.below0, start1.atStart⟩
end Jvm.Pilot.@@N@@
