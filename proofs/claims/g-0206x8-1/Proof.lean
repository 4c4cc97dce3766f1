import JvmDerived
import JvmDerived.Pilot.@@N@@Statement
import JvmDerived.Pilot.@@N@@Code
set_option linter.unusedVariables false
set_option linter.unusedSimpArgs false
set_option maxRecDepth 20000
namespace Jvm.JX
open Sem ClassFile Op Lib
abbrev Cel : Type := FieldType × Nat × Bool × (Nat → Value)
abbrev AH : Type := Nat × (Nat → Cel)
abbrev MInfo : Type := Nat × Nat × Nat × Option FieldType × Jvm.Room
abbrev Prog : Type := (Nat → Nat → Option (Instr × Nat × Int)) × (Nat → MInfo) × (Nat → FieldType) × Nat
abbrev Fm : Type := Nat × List Slot × List Value × Nat × Nat × AH
def na (P : Prog) (m : Nat) : Nat := (P.2.1 m).1
def ml (P : Prog) (m : Nat) : Nat := (P.2.1 m).2.1
def kd (P : Prog) (m : Nat) : Nat := (P.2.1 m).2.2.1
def rt (P : Prog) (m : Nat) : Option FieldType := (P.2.1 m).2.2.2.1
def rm (P : Prog) (m : Nat) : Jvm.Room := (P.2.1 m).2.2.2.2
def isO (H : AH) (a : Nat) : Bool := match (H.2 a).1 with | .object _ => true | _ => false
def isOw (H : AH) (a : Nat) : Bool := isO H a && (H.2 a).2.2.1
def inA (H : AH) (a : Nat) (t : FieldType) (i : Int32) : Bool := decide ((H.2 a).1 = .array t) && !decide (i < 0) && decide (i.toNatClampNeg < (H.2 a).2.1)
def inAw (H : AH) (a : Nat) (t : FieldType) (i : Int32) : Bool := inA H a t i && (H.2 a).2.2.1
def isA (H : AH) (a : Nat) : Bool := match (H.2 a).1 with | .array _ => true | _ => false
def elt (H : AH) (a : Nat) (i : Int32) : Value := (H.2 a).2.2.2 i.toNatClampNeg
def fld (H : AH) (a k : Nat) : Value := (H.2 a).2.2.2 k
def alen (H : AH) (a : Nat) : Nat := (H.2 a).2.1
def wr (H : AH) (a j : Nat) (v : Value) : AH := (H.1, fun b => if b = a then ((H.2 a).1, (H.2 a).2.1, (H.2 a).2.2.1, fun i => if i = j then v else (H.2 a).2.2.2 i) else H.2 b)
def okv : FieldType → Value → Bool
  | .int, .int _ => true
  | .boolean, .int z => z == 0 || z == 1
  | .byte, .int z => z.toInt8.toInt32 == z
  | .long, .long _ => true
  | .array _, .ref _ => true
  | _, _ => false
def mkO (P : Prog) (H : AH) : AH := (H.1 + 1, fun b => if b = H.1 then (.object "", P.2.2.2, true, fun k => defaultValue (P.2.2.1 k)) else H.2 b)
def mkA (t : FieldType) (n : Nat) (H : AH) : AH := (H.1 + 1, fun b => if b = H.1 then (.array t, n, true, fun _ => defaultValue t) else H.2 b)
def cat1 : Slot → Bool | .unset => true | .val v => v.category == 1 | .second => false
def cs (S : List Value) : Nat := (S.map fun v => v.category).sum
def stl (L : List Slot) (i : Nat) (v : Value) : Option (List Slot) :=
  match L[i]? with
  | some .unset => some (L.set i (.val v))
  | some (.val w) => if w.category = 1 then some (L.set i (.val v)) else if i + 1 < L.length then some ((L.set (i + 1) .unset).set i (.val v)) else none
  | some .second => if 1 ≤ i then some ((L.set (i - 1) .unset).set i (.val v)) else none
  | none => none
def lng : Slot → Bool | .val v => v.category == 2 | _ => false
def stL (L : List Slot) (i : Nat) (v : Value) : Option (List Slot) :=
  match L[i]?, L[i + 1]? with
  | some (.val w), some o2 => if w.category = 2 then some ((L.set i (.val v)).set (i + 1) .second) else if cat1 o2 = true then some ((L.set i (.val v)).set (i + 1) .second) else if lng o2 = true ∧ i + 2 < L.length then some (((L.set i (.val v)).set (i + 2) .unset).set (i + 1) .second) else none
  | some .unset, some o2 => if cat1 o2 = true then some ((L.set i (.val v)).set (i + 1) .second) else if lng o2 = true ∧ i + 2 < L.length then some (((L.set i (.val v)).set (i + 2) .unset).set (i + 1) .second) else none
  | some .second, some o2 => if 1 ≤ i then (if cat1 o2 = true then some (((L.set (i - 1) .unset).set i (.val v)).set (i + 1) .second) else if lng o2 = true ∧ i + 2 < L.length then some ((((L.set (i - 1) .unset).set i (.val v)).set (i + 2) .unset).set (i + 1) .second) else none) else none
  | _, _ => none
def ent (P : Prog) (m : Nat) (a : List Value) : List Slot := Sym.laidSlots a ++ List.replicate (ml P m - (Sym.laidSlots a).length) .unset
def ilen : Instr → Nat
  | .bipush _ | .iload _ | .istore _ | .aload _ | .astore _ | .lload _ | .lstore _ | .newarray _ | .ldc _ => 2
  | .sipush _ | .getfield _ | .putfield _ | .new _ | .invokevirtual _ | .invokestatic _ | .invokespecial _ | .ldc2_w _ | .goto _ | .ifCond _ _ | .if_icmp _ _ | .iinc _ _ => 3
  | _ => 1
def ldI (L : List Slot) (i : Nat) : Option Value := match L[i]? with | some (.val (.int x)) => some (.int x) | _ => none
def ldJ (L : List Slot) (i : Nat) : Option Value := match L[i]? with | some (.val (.long x)) => some (.long x) | _ => none
def ldR (L : List Slot) (i : Nat) : Option Value := match L[i]? with | some (.val (.ref x)) => some (.ref x) | _ => none
def jmp (pc : Nat) (o : Int) : Option Nat := if 0 ≤ (pc : Int) + o then some ((pc : Int) + o).toNat else none
def ret (P : Prog) (m : Nat) (ins : Instr) (S : List Value) : Option (Option Value) :=
  match ins with
  | .return_ => if rt P m = none ∧ S = [] then some none else none
  | .ireturn => match S, rt P m with
    | .int z :: _, some .int => some (some (.int z))
    | .int z :: _, some .boolean => if z = 0 ∨ z = 1 then some (some (.int z)) else none
    | _, _ => none
  | .lreturn => match S, rt P m with
    | .long z :: _, some .long => some (some (.long z))
    | _, _ => none
  | _ => none
def rcv (H : AH) : List Value → Bool | .ref a :: _ => isO H a | _ => false
def may (P : Prog) (m m' : Nat) (a r : List Value) (k n : Nat) (H : AH) : Bool :=
  decide ((Sym.laidSlots a).length ≤ ml P m') && decide (a.length = na P m') && decide ((rm P m').frames + 1 ≤ (rm P m).frames) && decide (cs r + (ml P m' + 11) + (rm P m').locals ≤ (rm P m).locals)
    && (decide ((rm P m').cells = 0 ∧ (rm P m').slots = 0) || decide (k + (rm P m').cells ≤ (rm P m).cells ∧ n + (rm P m').slots ≤ (rm P m).slots))
    && (decide (kd P m' = 0) || rcv H a)
def kindOk : Instr → Nat → Bool
  | .invokevirtual _, k => k == 1 || k == 2
  | .invokestatic _, k => k == 0
  | .invokespecial _, k => k == 3
  | _, _ => false
def cal1 (P : Prog) (m : Nat) (ins : Instr) (aux : Int) (S : List Value) (k n : Nat) (H : AH) : Option (Nat × List Value × List Value) :=
  if 0 ≤ aux ∧ kindOk ins (kd P aux.toNat) = true ∧ may P m aux.toNat (S.take (na P aux.toNat)).reverse (S.drop (na P aux.toNat)) k n H = true
  then some (aux.toNat, (S.take (na P aux.toNat)).reverse, S.drop (na P aux.toNat)) else none
def cal (P : Prog) (m : Nat) (ins : Instr) (aux : Int) (S : List Value) (k n : Nat) (H : AH) : Option (Nat × List Value × List Value) :=
  match ins with
  | .invokevirtual _ | .invokestatic _ | .invokespecial _ => cal1 P m ins aux S k n H
  | _ => none
def opI : Instr → Option (Int32 → Int32 → Int32)
  | .iadd => some fun x y => x + y
  | .isub => some fun x y => x - y
  | .imul => some fun x y => x * y
  | .iand => some fun x y => x &&& y
  | .ior => some fun x y => x ||| y
  | .ixor => some fun x y => x ^^^ y
  | .ishl => some fun x y => x <<< (y &&& 31)
  | .ishr => some fun x y => x >>> (y &&& 31)
  | .iushr => some Jvm.Free.XT.ushr
  | _ => none
def opJ : Instr → Option (Int64 → Int64 → Int64)
  | .ladd => some fun x y => x + y
  | .lsub => some fun x y => x - y
  | .lmul => some fun x y => x * y
  | .land => some fun x y => x &&& y
  | .lor => some fun x y => x ||| y
  | .lxor => some fun x y => x ^^^ y
  | _ => none
def opS : Instr → Option (Int64 → Int32 → Int64)
  | .lshl => some fun x y => x <<< (y.toInt64 &&& 63)
  | .lshr => some fun x y => x >>> (y.toInt64 &&& 63)
  | .lushr => some Jvm.Free.XT.ushrL
  | _ => none
def stp (P : Prog) (m : Nat) (ins : Instr) (len : Nat) (aux : Int) (pc : Nat) (L : List Slot) (S : List Value) (k n : Nat) (H : AH) : Option Fm :=
  match ins with
  | .iconst i => some (pc + len, L, .int (Int32.ofInt i) :: S, k, n, H)
  | .bipush i => some (pc + len, L, .int (Int8.ofInt i).toInt32 :: S, k, n, H)
  | .sipush i => some (pc + len, L, .int (Int16.ofInt i).toInt32 :: S, k, n, H)
  | .lconst i => some (pc + len, L, .long (Int64.ofNat i) :: S, k, n, H)
  | .ldc _ => some (pc + len, L, .int (Int32.ofInt aux) :: S, k, n, H)
  | .ldc2_w _ => some (pc + len, L, .long (Int64.ofInt aux) :: S, k, n, H)
  | .iload i => (ldI L i).map fun v => (pc + len, L, v :: S, k, n, H)
  | .iload_n i => (ldI L i.val).map fun v => (pc + len, L, v :: S, k, n, H)
  | .lload i => (ldJ L i).map fun v => (pc + len, L, v :: S, k, n, H)
  | .lload_n i => (ldJ L i.val).map fun v => (pc + len, L, v :: S, k, n, H)
  | .aload i => (ldR L i).map fun v => (pc + len, L, v :: S, k, n, H)
  | .aload_n i => (ldR L i.val).map fun v => (pc + len, L, v :: S, k, n, H)
  | .istore i => match S with | .int x :: S => (stl L i (.int x)).map fun L => (pc + len, L, S, k, n, H) | _ => none
  | .istore_n i => match S with | .int x :: S => (stl L i.val (.int x)).map fun L => (pc + len, L, S, k, n, H) | _ => none
  | .astore i => match S with | .ref x :: S => (stl L i (.ref x)).map fun L => (pc + len, L, S, k, n, H) | _ => none
  | .astore_n i => match S with | .ref x :: S => (stl L i.val (.ref x)).map fun L => (pc + len, L, S, k, n, H) | _ => none
  | .lstore i => match S with | .long x :: S => (stL L i (.long x)).map fun L => (pc + len, L, S, k, n, H) | _ => none
  | .lstore_n i => match S with | .long x :: S => (stL L i.val (.long x)).map fun L => (pc + len, L, S, k, n, H) | _ => none
  | .iinc i c => match L[i]? with | some (.val (.int x)) => some (pc + len, L.set i (.val (.int (x + Int32.ofInt c))), S, k, n, H) | _ => none
  | .iadd | .isub | .imul | .iand | .ior | .ixor | .ishl | .ishr | .iushr => match S with | .int y :: .int x :: S => (opI ins).map fun f => (pc + len, L, .int (f x y) :: S, k, n, H) | _ => none
  | .ladd | .lsub | .lmul | .land | .lor | .lxor => match S with | .long y :: .long x :: S => (opJ ins).map fun f => (pc + len, L, .long (f x y) :: S, k, n, H) | _ => none
  | .lshl | .lshr | .lushr => match S with | .int y :: .long x :: S => (opS ins).map fun f => (pc + len, L, .long (f x y) :: S, k, n, H) | _ => none
  | .idiv => match S with | .int y :: .int x :: S => if y = 0 then none else some (pc + len, L, .int (x / y) :: S, k, n, H) | _ => none
  | .irem => match S with | .int y :: .int x :: S => if y = 0 then none else some (pc + len, L, .int (x % y) :: S, k, n, H) | _ => none
  | .ldiv => match S with | .long y :: .long x :: S => if y = 0 then none else some (pc + len, L, .long (x / y) :: S, k, n, H) | _ => none
  | .lrem => match S with | .long y :: .long x :: S => if y = 0 then none else some (pc + len, L, .long (x % y) :: S, k, n, H) | _ => none
  | .ineg => match S with | .int x :: S => some (pc + len, L, .int (-x) :: S, k, n, H) | _ => none
  | .lneg => match S with | .long x :: S => some (pc + len, L, .long (-x) :: S, k, n, H) | _ => none
  | .i2l => match S with | .int x :: S => some (pc + len, L, .long x.toInt64 :: S, k, n, H) | _ => none
  | .l2i => match S with | .long x :: S => some (pc + len, L, .int x.toInt32 :: S, k, n, H) | _ => none
  | .i2b => match S with | .int x :: S => some (pc + len, L, .int x.toInt8.toInt32 :: S, k, n, H) | _ => none
  | .lcmp => match S with | .long y :: .long x :: S => some (pc + len, L, .int (Jvm.Free.XT.cmpL x y) :: S, k, n, H) | _ => none
  | .dup => match S with | v :: S => if v.category = 1 then some (pc + len, L, v :: v :: S, k, n, H) else none | _ => none
  | .dup2 => match S with
    | .long x :: S => some (pc + len, L, .long x :: .long x :: S, k, n, H)
    | v :: w :: S => if v.category = 1 ∧ w.category = 1 then some (pc + len, L, v :: w :: v :: w :: S, k, n, H) else none
    | _ => none
  | .pop => match S with | v :: S => if v.category = 1 then some (pc + len, L, S, k, n, H) else none | _ => none
  | .goto o => (jmp pc o).map fun q => (q, L, S, k, n, H)
  | .ifCond c o => match S with | .int x :: S => if ifCond.holds c x = true then (jmp pc o).map fun q => (q, L, S, k, n, H) else some (pc + len, L, S, k, n, H) | _ => none
  | .if_icmp c o => match S with | .int y :: .int x :: S => if if_icmp.holds c x y = true then (jmp pc o).map fun q => (q, L, S, k, n, H) else some (pc + len, L, S, k, n, H) | _ => none
  | .tableswitch d lo hi os => match S with
    | .int x :: S => if x.toInt < lo ∨ x.toInt > hi then (jmp pc d).map fun q => (q, L, S, k, n, H) else (os[(x.toInt - lo).toNat]?).bind fun o => (jmp pc o).map fun q => (q, L, S, k, n, H)
    | _ => none
  | .getfield _ => match S with | .ref a :: S => if isO H a = true then some (pc + len, L, fld H a aux.toNat :: S, k, n, H) else none | _ => none
  | .putfield _ => match S with | v :: .ref a :: S => if isOw H a = true ∧ okv (P.2.2.1 aux.toNat) v = true then some (pc + len, L, S, k, n, wr H a aux.toNat v) else none | _ => none
  | .iaload => match S with | .int i :: .ref a :: S => if inA H a .int i = true then some (pc + len, L, elt H a i :: S, k, n, H) else none | _ => none
  | .laload => match S with | .int i :: .ref a :: S => if inA H a .long i = true then some (pc + len, L, elt H a i :: S, k, n, H) else none | _ => none
  | .baload => match S with | .int i :: .ref a :: S => if inA H a .byte i = true ∨ inA H a .boolean i = true then some (pc + len, L, elt H a i :: S, k, n, H) else none | _ => none
  | .iastore => match S with | .int x :: .int i :: .ref a :: S => if inAw H a .int i = true then some (pc + len, L, S, k, n, wr H a i.toNatClampNeg (.int x)) else none | _ => none
  | .lastore => match S with | .long x :: .int i :: .ref a :: S => if inAw H a .long i = true then some (pc + len, L, S, k, n, wr H a i.toNatClampNeg (.long x)) else none | _ => none
  | .bastore => match S with
    | .int x :: .int i :: .ref a :: S => if (inAw H a .byte i = true ∧ okv .byte (.int x) = true) ∨ (inAw H a .boolean i = true ∧ okv .boolean (.int x) = true) then some (pc + len, L, S, k, n, wr H a i.toNatClampNeg (.int x)) else none
    | _ => none
  | .arraylength => match S with | .ref a :: S => if isA H a = true then some (pc + len, L, .int (alen H a).toInt32 :: S, k, n, H) else none | _ => none
  | .newarray t => match S with | .int c :: S => if ¬ c < 0 ∧ c.toNatClampNeg * 8 ≤ 536870912 ∧ k + 1 ≤ (rm P m).cells ∧ n + c.toNatClampNeg ≤ (rm P m).slots then some (pc + len, L, .ref H.1 :: S, k + 1, n + c.toNatClampNeg, mkA (newarray.typeOf t) c.toNatClampNeg H) else none | _ => none
  | .new _ => if 0 ≤ aux ∧ k + 1 ≤ (rm P m).cells ∧ n + aux.toNat ≤ (rm P m).slots then some (pc + len, L, .ref H.1 :: S, k + 1, n + aux.toNat, mkO P H) else none
  | .invokespecial _ => match S with | .ref a :: S => if aux = -1 ∧ 1 ≤ (rm P m).frames ∧ cs S + 12 ≤ (rm P m).locals then some (pc + len, L, S, k, n, H) else none | _ => none
  | _ => none
def run (P : Prog) : Nat → Nat → Nat → List Slot → List Value → Nat → Nat → AH → Option (Option Value × AH)
  | 0, _, _, _, _, _, _, _ => none
  | f + 1, m, pc, L, S, k, n, H =>
    match P.1 m pc with
    | none => none
    | some d =>
      match ret P m d.1 S with
      | some v => some (v, H)
      | none => match cal P m d.1 d.2.2 S k n H with
        | some c => match run P f c.1 0 (ent P c.1 c.2.1) [] 0 0 H with
          | none => none
          | some r => run P f m (pc + d.2.1) L (r.1.toList ++ c.2.2) (k + (rm P c.1).cells) (n + (rm P c.1).slots) r.2
        | none => match stp P m d.1 d.2.1 d.2.2 pc L S k n H with
          | none => none
          | some q => run P f m q.1 q.2.1 q.2.2.1 q.2.2.2.1 q.2.2.2.2.1 q.2.2.2.2.2
end Jvm.JX

namespace Jvm.JX
open Sem ClassFile Op Lib
section
variable {P : Prog}
theorem run_succ (f m pc : Nat) (L : List Slot) (S : List Value) (k n : Nat) (H : AH) : run P (f + 1) m pc L S k n H =
    match P.1 m pc with
    | none => none
    | some d =>
      match ret P m d.1 S with
      | some v => some (v, H)
      | none => match cal P m d.1 d.2.2 S k n H with
        | some c => match run P f c.1 0 (ent P c.1 c.2.1) [] 0 0 H with
          | none => none
          | some r => run P f m (pc + d.2.1) L (r.1.toList ++ c.2.2) (k + (rm P c.1).cells) (n + (rm P c.1).slots) r.2
        | none => match stp P m d.1 d.2.1 d.2.2 pc L S k n H with
          | none => none
          | some q => run P f m q.1 q.2.1 q.2.2.1 q.2.2.2.1 q.2.2.2.2.1 q.2.2.2.2.2 := rfl
theorem run_mono : ∀ (f m pc : Nat) (L : List Slot) (S : List Value) (k n : Nat) (H : AH) (r : Option Value × AH), run P f m pc L S k n H = some r → run P (f + 1) m pc L S k n H = some r := by
  intro f
  induction f with
  | zero => intro m pc L S k n H r h; cases h
  | succ f ih =>
    intro m pc L S k n H r h
    rw [run_succ] at h ⊢
    cases hd : P.1 m pc with
    | none => rw [hd] at h; cases h
    | some d =>
      rw [hd] at h
      simp only at h ⊢
      cases hr : ret P m d.1 S with
      | some v => rw [hr] at h; exact h
      | none =>
        rw [hr] at h
        simp only at h ⊢
        cases hc : cal P m d.1 d.2.2 S k n H with
        | some c =>
          rw [hc] at h
          simp only at h ⊢
          cases hq : run P f c.1 0 (ent P c.1 c.2.1) [] 0 0 H with
          | none => rw [hq] at h; cases h
          | some q =>
            rw [hq] at h
            rw [ih _ _ _ _ _ _ _ _ hq]
            exact ih _ _ _ _ _ _ _ _ h
        | none =>
          rw [hc] at h
          simp only at h ⊢
          cases hs : stp P m d.1 d.2.1 d.2.2 pc L S k n H with
          | none => rw [hs] at h; cases h
          | some q => rw [hs] at h; exact ih _ _ _ _ _ _ _ _ h
theorem run_le {f g : Nat} (hfg : f ≤ g) {m pc : Nat} {L : List Slot} {S : List Value} {k n : Nat} {H : AH} {r : Option Value × AH} (h : run P f m pc L S k n H = some r) : run P g m pc L S k n H = some r := by
  induction hfg with
  | refl => exact h
  | step _ ih => exact run_mono _ _ _ _ _ _ _ _ _ ih
end
def W (P : Prog) (m pc : Nat) (L : List Slot) (S : List Value) (k n : Nat) (H : AH) (Q : Option Value → AH → Prop) : Prop := ∃ f v H', run P f m pc L S k n H = some (v, H') ∧ Q v H'
def Cl (P : Prog) (m : Nat) (a : List Value) (H : AH) (Q : Option Value → AH → Prop) : Prop := W P m 0 (ent P m a) [] 0 0 H Q
section Rules
variable {P : Prog} {m pc : Nat} {L : List Slot} {S : List Value} {k n : Nat} {H : AH} {Q : Option Value → AH → Prop} {ins : Instr} {len : Nat} {aux : Int}
theorem W_r {v : Option Value} (hd : P.1 m pc = some (ins, len, aux)) (hr : ret P m ins S = some v) : W P m pc L S k n H Q ↔ Q v H := by
  constructor
  · rintro ⟨f, v', H', h1, h2⟩
    cases f with
    | zero => cases h1
    | succ f => rw [run_succ, hd] at h1; simp only [hr] at h1; cases h1; exact h2
  · intro h
    refine ⟨1, v, H, ?_, h⟩
    rw [run_succ, hd]; simp only [hr]
theorem W_c {m' : Nat} {a r : List Value} (hd : P.1 m pc = some (ins, len, aux)) (hr : ret P m ins S = none) (hc : cal P m ins aux S k n H = some (m', a, r)) :
    W P m pc L S k n H Q ↔ Cl P m' a H (fun v H' => W P m (pc + len) L (v.toList ++ r) (k + (rm P m').cells) (n + (rm P m').slots) H' Q) := by
  constructor
  · rintro ⟨f, v', H', h1, h2⟩
    cases f with
    | zero => cases h1
    | succ f =>
      rw [run_succ, hd] at h1; simp only [hr, hc] at h1
      cases hq : run P f m' 0 (ent P m' a) [] 0 0 H with
      | none => rw [hq] at h1; cases h1
      | some q => rw [hq] at h1; exact ⟨f, q.1, q.2, hq, f, v', H', h1, h2⟩
  · rintro ⟨f, v, H', h1, g, v', H'', h2, h3⟩
    refine ⟨max f g + 1, v', H'', ?_, h3⟩
    rw [run_succ, hd]; simp only [hr, hc]
    rw [run_le (Nat.le_max_left f g) h1]
    exact run_le (Nat.le_max_right f g) h2
theorem W_q (hd : P.1 m pc = some (ins, len, aux)) (hr : ret P m ins S = none) (hc : cal P m ins aux S k n H = none) :
    W P m pc L S k n H Q ↔ ∃ q, stp P m ins len aux pc L S k n H = some q ∧ W P m q.1 q.2.1 q.2.2.1 q.2.2.2.1 q.2.2.2.2.1 q.2.2.2.2.2 Q := by
  constructor
  · rintro ⟨f, v', H', h1, h2⟩
    cases f with
    | zero => cases h1
    | succ f =>
      rw [run_succ, hd] at h1; simp only [hr, hc] at h1
      cases hq : stp P m ins len aux pc L S k n H with
      | none => rw [hq] at h1; cases h1
      | some q => rw [hq] at h1; exact ⟨q, rfl, f, v', H', h1, h2⟩
  · rintro ⟨q, hq, f, v', H', h1, h2⟩
    refine ⟨f + 1, v', H', ?_, h2⟩
    rw [run_succ, hd]; simp only [hr, hc, hq]; exact h1
theorem W_s {pc' : Nat} {L' : List Slot} {S' : List Value} {k' n' : Nat} {H' : AH} (hd : P.1 m pc = some (ins, len, aux)) (hr : ret P m ins S = none) (hc : cal P m ins aux S k n H = none)
    (hs : stp P m ins len aux pc L S k n H = some (pc', L', S', k', n', H')) : W P m pc L S k n H Q ↔ W P m pc' L' S' k' n' H' Q := by
  rw [W_q hd hr hc, hs]
  exact ⟨fun ⟨q, e, h⟩ => by cases e; exact h, fun h => ⟨_, rfl, h⟩⟩
theorem W_g {G : Prop} [Decidable G] {pc' : Nat} {L' : List Slot} {S' : List Value} {k' n' : Nat} {H' : AH} (hd : P.1 m pc = some (ins, len, aux)) (hr : ret P m ins S = none) (hc : cal P m ins aux S k n H = none)
    (hs : stp P m ins len aux pc L S k n H = if G then some (pc', L', S', k', n', H') else none) : W P m pc L S k n H Q ↔ (G ∧ W P m pc' L' S' k' n' H' Q) := by
  rw [W_q hd hr hc, hs]
  by_cases g : G
  · rw [if_pos g]; exact ⟨fun ⟨q, e, h⟩ => by cases e; exact ⟨g, h⟩, fun h => ⟨_, rfl, h.2⟩⟩
  · rw [if_neg g]; exact ⟨fun ⟨q, e, h⟩ => (by cases e), fun h => absurd h.1 g⟩
theorem W_n {G : Prop} [Decidable G] {pc' : Nat} {L' : List Slot} {S' : List Value} {k' n' : Nat} {H' : AH} (hd : P.1 m pc = some (ins, len, aux)) (hr : ret P m ins S = none) (hc : cal P m ins aux S k n H = none)
    (hs : stp P m ins len aux pc L S k n H = if G then none else some (pc', L', S', k', n', H')) : W P m pc L S k n H Q ↔ (¬ G ∧ W P m pc' L' S' k' n' H' Q) := by
  rw [W_q hd hr hc, hs]
  by_cases g : G
  · rw [if_pos g]; exact ⟨fun ⟨q, e, h⟩ => (by cases e), fun h => absurd g h.1⟩
  · rw [if_neg g]; exact ⟨fun ⟨q, e, h⟩ => by cases e; exact ⟨g, h⟩, fun h => ⟨_, rfl, h.2⟩⟩
theorem W_f {G : Prop} [Decidable G] {q1 q2 : Fm} (hd : P.1 m pc = some (ins, len, aux)) (hr : ret P m ins S = none) (hc : cal P m ins aux S k n H = none)
    (hs : stp P m ins len aux pc L S k n H = if G then some q1 else some q2) : W P m pc L S k n H Q ↔ (if G then W P m q1.1 q1.2.1 q1.2.2.1 q1.2.2.2.1 q1.2.2.2.2.1 q1.2.2.2.2.2 Q else W P m q2.1 q2.2.1 q2.2.2.1 q2.2.2.2.1 q2.2.2.2.2.1 q2.2.2.2.2.2 Q) := by
  rw [W_q hd hr hc, hs]
  by_cases g : G
  · rw [if_pos g, if_pos g]; exact ⟨fun ⟨q, e, h⟩ => by cases e; exact h, fun h => ⟨_, rfl, h⟩⟩
  · rw [if_neg g, if_neg g]; exact ⟨fun ⟨q, e, h⟩ => by cases e; exact h, fun h => ⟨_, rfl, h⟩⟩
section Cmp
variable {x y : Int32} {o : Int} {q : Nat}
theorem W_icmp_eq (hd : P.1 m pc = some (.if_icmp .eq o, len, aux)) (hj : jmp pc o = some q) : W P m pc L (.int y :: .int x :: S) k n H Q ↔ (if x = y then W P m q L S k n H Q else W P m (pc + len) L S k n H Q) :=
  W_f (G := x = y) (q1 := (q, L, S, k, n, H)) (q2 := (pc + len, L, S, k, n, H)) hd rfl rfl (by simp only [stp, hj, if_icmp.holds]; by_cases h : x = y <;> simp [h])
theorem W_icmp_ne (hd : P.1 m pc = some (.if_icmp .ne o, len, aux)) (hj : jmp pc o = some q) : W P m pc L (.int y :: .int x :: S) k n H Q ↔ (if x = y then W P m (pc + len) L S k n H Q else W P m q L S k n H Q) :=
  W_f (G := x = y) (q1 := (pc + len, L, S, k, n, H)) (q2 := (q, L, S, k, n, H)) hd rfl rfl (by simp only [stp, hj, if_icmp.holds]; by_cases h : x = y <;> simp [h])
theorem W_icmp_lt (hd : P.1 m pc = some (.if_icmp .lt o, len, aux)) (hj : jmp pc o = some q) : W P m pc L (.int y :: .int x :: S) k n H Q ↔ (if x < y then W P m q L S k n H Q else W P m (pc + len) L S k n H Q) :=
  W_f (G := x < y) (q1 := (q, L, S, k, n, H)) (q2 := (pc + len, L, S, k, n, H)) hd rfl rfl (by
    by_cases h : x < y
    · simp [stp, hj, Jvm.Free.XT.ii_lt_t h, h]
    · simp [stp, hj, Jvm.Free.XT.ii_lt_f h, h])
theorem W_icmp_ge (hd : P.1 m pc = some (.if_icmp .ge o, len, aux)) (hj : jmp pc o = some q) : W P m pc L (.int y :: .int x :: S) k n H Q ↔ (if x < y then W P m (pc + len) L S k n H Q else W P m q L S k n H Q) :=
  W_f (G := x < y) (q1 := (pc + len, L, S, k, n, H)) (q2 := (q, L, S, k, n, H)) hd rfl rfl (by
    by_cases h : x < y
    · simp [stp, hj, Jvm.Free.XT.ii_ge_f h, h]
    · simp [stp, hj, Jvm.Free.XT.ii_ge_t h, h])
theorem W_icmp_gt (hd : P.1 m pc = some (.if_icmp .gt o, len, aux)) (hj : jmp pc o = some q) : W P m pc L (.int y :: .int x :: S) k n H Q ↔ (if y < x then W P m q L S k n H Q else W P m (pc + len) L S k n H Q) :=
  W_f (G := y < x) (q1 := (q, L, S, k, n, H)) (q2 := (pc + len, L, S, k, n, H)) hd rfl rfl (by
    by_cases h : y < x
    · simp [stp, hj, Jvm.Free.XT.ii_gt_t h, h]
    · simp [stp, hj, Jvm.Free.XT.ii_gt_f h, h])
theorem W_icmp_le (hd : P.1 m pc = some (.if_icmp .le o, len, aux)) (hj : jmp pc o = some q) : W P m pc L (.int y :: .int x :: S) k n H Q ↔ (if y < x then W P m (pc + len) L S k n H Q else W P m q L S k n H Q) :=
  W_f (G := y < x) (q1 := (pc + len, L, S, k, n, H)) (q2 := (q, L, S, k, n, H)) hd rfl rfl (by
    by_cases h : y < x
    · simp [stp, hj, Jvm.Free.XT.ii_le_f h, h]
    · simp [stp, hj, Jvm.Free.XT.ii_le_t h, h])
theorem W_if_eq (hd : P.1 m pc = some (.ifCond .eq o, len, aux)) (hj : jmp pc o = some q) : W P m pc L (.int x :: S) k n H Q ↔ (if x = 0 then W P m q L S k n H Q else W P m (pc + len) L S k n H Q) :=
  W_f (G := x = 0) (q1 := (q, L, S, k, n, H)) (q2 := (pc + len, L, S, k, n, H)) hd rfl rfl (by
    by_cases h : x = 0
    · have e := Jvm.Free.XT.i0_eq_t h; simp only [stp, hj, e, if_pos h, if_true, Option.map_some]
    · simp [stp, hj, Jvm.Free.XT.i0_eq_f h, h])
theorem W_if_ne (hd : P.1 m pc = some (.ifCond .ne o, len, aux)) (hj : jmp pc o = some q) : W P m pc L (.int x :: S) k n H Q ↔ (if x = 0 then W P m (pc + len) L S k n H Q else W P m q L S k n H Q) :=
  W_f (G := x = 0) (q1 := (pc + len, L, S, k, n, H)) (q2 := (q, L, S, k, n, H)) hd rfl rfl (by
    by_cases h : x = 0
    · have e := Jvm.Free.XT.i0_ne_f h; simp only [stp, hj, e, if_pos h, Bool.false_eq_true, if_false]
    · simp [stp, hj, Jvm.Free.XT.i0_ne_t h, h])
theorem W_if_lt (hd : P.1 m pc = some (.ifCond .lt o, len, aux)) (hj : jmp pc o = some q) : W P m pc L (.int x :: S) k n H Q ↔ (if x < 0 then W P m q L S k n H Q else W P m (pc + len) L S k n H Q) :=
  W_f (G := x < 0) (q1 := (q, L, S, k, n, H)) (q2 := (pc + len, L, S, k, n, H)) hd rfl rfl (by
    by_cases h : x < 0
    · simp [stp, hj, Jvm.Free.XT.i0_lt_t h, h]
    · simp [stp, hj, Jvm.Free.XT.i0_lt_f h, h])
theorem W_if_ge (hd : P.1 m pc = some (.ifCond .ge o, len, aux)) (hj : jmp pc o = some q) : W P m pc L (.int x :: S) k n H Q ↔ (if x < 0 then W P m (pc + len) L S k n H Q else W P m q L S k n H Q) :=
  W_f (G := x < 0) (q1 := (pc + len, L, S, k, n, H)) (q2 := (q, L, S, k, n, H)) hd rfl rfl (by
    by_cases h : x < 0
    · simp [stp, hj, Jvm.Free.XT.i0_ge_f h, h]
    · simp [stp, hj, Jvm.Free.XT.i0_ge_t h, h])
theorem W_if_gt (hd : P.1 m pc = some (.ifCond .gt o, len, aux)) (hj : jmp pc o = some q) : W P m pc L (.int x :: S) k n H Q ↔ (if 0 < x then W P m q L S k n H Q else W P m (pc + len) L S k n H Q) :=
  W_f (G := 0 < x) (q1 := (q, L, S, k, n, H)) (q2 := (pc + len, L, S, k, n, H)) hd rfl rfl (by
    by_cases h : 0 < x
    · simp [stp, hj, Jvm.Free.XT.i0_gt_t h, h]
    · simp [stp, hj, Jvm.Free.XT.i0_gt_f h, h])
theorem W_if_le (hd : P.1 m pc = some (.ifCond .le o, len, aux)) (hj : jmp pc o = some q) : W P m pc L (.int x :: S) k n H Q ↔ (if 0 < x then W P m (pc + len) L S k n H Q else W P m q L S k n H Q) :=
  W_f (G := 0 < x) (q1 := (pc + len, L, S, k, n, H)) (q2 := (q, L, S, k, n, H)) hd rfl rfl (by
    by_cases h : 0 < x
    · simp [stp, hj, Jvm.Free.XT.i0_le_f h, h]
    · simp [stp, hj, Jvm.Free.XT.i0_le_t h, h])
theorem W_goto (hd : P.1 m pc = some (.goto o, len, aux)) (hj : jmp pc o = some q) : W P m pc L S k n H Q ↔ W P m q L S k n H Q := W_s hd rfl rfl (by simp [stp, hj])
end Cmp
section Sto
variable {i : Nat} {o o2 : Slot} {x y : Int32} {v : Value} {l : Int64} {a : Nat}
theorem stl_plain (h : L[i]? = some o) (ho : cat1 o = true) : stl L i v = some (L.set i (.val v)) := by
  unfold stl
  rw [h]
  cases o with
  | unset => rfl
  | second => cases ho
  | val w => simp only [cat1, beq_iff_eq] at ho; simp [ho]
theorem stL_plain (h : L[i]? = some o) (h2 : L[i + 1]? = some o2) (ho : cat1 o = true) (ho2 : cat1 o2 = true) : stL L i v = some ((L.set i (.val v)).set (i + 1) .second) := by
  unfold stL
  rw [h, h2]
  cases o with
  | unset => simp [ho2]
  | second => cases ho
  | val w => simp only [cat1, beq_iff_eq] at ho; simp [ho, ho2]
theorem stL_again (h : L[i]? = some (.val (.long l))) (h2 : L[i + 1]? = some o2) : stL L i v = some ((L.set i (.val v)).set (i + 1) .second) := by
  unfold stL
  rw [h, h2]; simp [Value.category]
theorem W_ist (hd : P.1 m pc = some (.istore i, len, aux)) (h : L[i]? = some o) (ho : cat1 o = true) : W P m pc L (.int x :: S) k n H Q ↔ W P m (pc + len) (L.set i (.val (.int x))) S k n H Q := W_s hd rfl rfl (by simp [stp, stl_plain h ho])
theorem W_istn {i : Fin 4} (hd : P.1 m pc = some (.istore_n i, len, aux)) (h : L[i.val]? = some o) (ho : cat1 o = true) : W P m pc L (.int x :: S) k n H Q ↔ W P m (pc + len) (L.set i.val (.val (.int x))) S k n H Q := W_s hd rfl rfl (by simp [stp, stl_plain h ho])
theorem W_astn {i : Fin 4} (hd : P.1 m pc = some (.astore_n i, len, aux)) (h : L[i.val]? = some o) (ho : cat1 o = true) : W P m pc L (.ref a :: S) k n H Q ↔ W P m (pc + len) (L.set i.val (.val (.ref a))) S k n H Q := W_s hd rfl rfl (by simp [stp, stl_plain h ho])
theorem W_lst (hd : P.1 m pc = some (.lstore i, len, aux)) (h : L[i]? = some o) (h2 : L[i + 1]? = some o2) (ho : cat1 o = true) (ho2 : cat1 o2 = true) : W P m pc L (.long l :: S) k n H Q ↔ W P m (pc + len) ((L.set i (.val (.long l))).set (i + 1) .second) S k n H Q := W_s hd rfl rfl (by simp [stp, stL_plain h h2 ho ho2])
theorem W_lstn {i : Fin 4} (hd : P.1 m pc = some (.lstore_n i, len, aux)) (h : L[i.val]? = some o) (h2 : L[i.val + 1]? = some o2) (ho : cat1 o = true) (ho2 : cat1 o2 = true) : W P m pc L (.long l :: S) k n H Q ↔ W P m (pc + len) ((L.set i.val (.val (.long l))).set (i.val + 1) .second) S k n H Q := W_s hd rfl rfl (by simp [stp, stL_plain h h2 ho ho2])
theorem W_lst' {l' : Int64} (hd : P.1 m pc = some (.lstore i, len, aux)) (h : L[i]? = some (.val (.long l'))) (h2 : L[i + 1]? = some o2) : W P m pc L (.long l :: S) k n H Q ↔ W P m (pc + len) ((L.set i (.val (.long l))).set (i + 1) .second) S k n H Q := W_s hd rfl rfl (by simp [stp, stL_again h h2])
theorem W_lstn' {l' : Int64} {i : Fin 4} (hd : P.1 m pc = some (.lstore_n i, len, aux)) (h : L[i.val]? = some (.val (.long l'))) (h2 : L[i.val + 1]? = some o2) : W P m pc L (.long l :: S) k n H Q ↔ W P m (pc + len) ((L.set i.val (.val (.long l))).set (i.val + 1) .second) S k n H Q := W_s hd rfl rfl (by simp [stp, stL_again h h2])
theorem cs_nil : cs [] = 0 := by simp [cs]
theorem cs_int : cs (.int x :: S) = 1 + cs S := by simp [cs, Value.category]
theorem cs_ref : cs (.ref a :: S) = 1 + cs S := by simp [cs, Value.category]
theorem cs_long : cs (.long l :: S) = 2 + cs S := by simp [cs, Value.category]
end Sto
section Heap
variable {a j : Nat} {i x c : Int32} {v : Value} {l : Int64}
theorem W_getf {ix : Nat} (hd : P.1 m pc = some (.getfield ix, len, aux)) : W P m pc L (.ref a :: S) k n H Q ↔ (isO H a = true ∧ W P m (pc + len) L (fld H a aux.toNat :: S) k n H Q) := W_g hd rfl rfl rfl
theorem W_putf {ix : Nat} (hd : P.1 m pc = some (.putfield ix, len, aux)) : W P m pc L (v :: .ref a :: S) k n H Q ↔ ((isOw H a = true ∧ okv (P.2.2.1 aux.toNat) v = true) ∧ W P m (pc + len) L S k n (wr H a aux.toNat v) Q) := W_g hd rfl rfl rfl
theorem W_iaload (hd : P.1 m pc = some (.iaload, len, aux)) : W P m pc L (.int i :: .ref a :: S) k n H Q ↔ (inA H a .int i = true ∧ W P m (pc + len) L (elt H a i :: S) k n H Q) := W_g hd rfl rfl rfl
theorem W_laload (hd : P.1 m pc = some (.laload, len, aux)) : W P m pc L (.int i :: .ref a :: S) k n H Q ↔ (inA H a .long i = true ∧ W P m (pc + len) L (elt H a i :: S) k n H Q) := W_g hd rfl rfl rfl
theorem W_baload (hd : P.1 m pc = some (.baload, len, aux)) : W P m pc L (.int i :: .ref a :: S) k n H Q ↔ ((inA H a .byte i = true ∨ inA H a .boolean i = true) ∧ W P m (pc + len) L (elt H a i :: S) k n H Q) := W_g hd rfl rfl rfl
theorem W_iastore (hd : P.1 m pc = some (.iastore, len, aux)) : W P m pc L (.int x :: .int i :: .ref a :: S) k n H Q ↔ (inAw H a .int i = true ∧ W P m (pc + len) L S k n (wr H a i.toNatClampNeg (.int x)) Q) := W_g hd rfl rfl rfl
theorem W_lastore (hd : P.1 m pc = some (.lastore, len, aux)) : W P m pc L (.long l :: .int i :: .ref a :: S) k n H Q ↔ (inAw H a .long i = true ∧ W P m (pc + len) L S k n (wr H a i.toNatClampNeg (.long l)) Q) := W_g hd rfl rfl rfl
theorem W_bastore (hd : P.1 m pc = some (.bastore, len, aux)) : W P m pc L (.int x :: .int i :: .ref a :: S) k n H Q ↔ (((inAw H a .byte i = true ∧ okv .byte (.int x) = true) ∨ (inAw H a .boolean i = true ∧ okv .boolean (.int x) = true)) ∧ W P m (pc + len) L S k n (wr H a i.toNatClampNeg (.int x)) Q) := W_g hd rfl rfl rfl
theorem W_alen (hd : P.1 m pc = some (.arraylength, len, aux)) : W P m pc L (.ref a :: S) k n H Q ↔ (isA H a = true ∧ W P m (pc + len) L (.int (alen H a).toInt32 :: S) k n H Q) := W_g hd rfl rfl rfl
theorem W_newarr {t : ArrayType} (hd : P.1 m pc = some (.newarray t, len, aux)) : W P m pc L (.int c :: S) k n H Q ↔ ((¬ c < 0 ∧ c.toNatClampNeg * 8 ≤ 536870912 ∧ k + 1 ≤ (rm P m).cells ∧ n + c.toNatClampNeg ≤ (rm P m).slots) ∧ W P m (pc + len) L (.ref H.1 :: S) (k + 1) (n + c.toNatClampNeg) (mkA (newarray.typeOf t) c.toNatClampNeg H) Q) := W_g hd rfl rfl rfl
theorem W_new {ix : Nat} (hd : P.1 m pc = some (.new ix, len, aux)) : W P m pc L S k n H Q ↔ ((0 ≤ aux ∧ k + 1 ≤ (rm P m).cells ∧ n + aux.toNat ≤ (rm P m).slots) ∧ W P m (pc + len) L (.ref H.1 :: S) (k + 1) (n + aux.toNat) (mkO P H) Q) := W_g hd rfl rfl rfl
theorem W_oinit {ix : Nat} (hd : P.1 m pc = some (.invokespecial ix, len, -1)) : W P m pc L (.ref a :: S) k n H Q ↔ ((1 ≤ (rm P m).frames ∧ cs S + 12 ≤ (rm P m).locals) ∧ W P m (pc + len) L S k n H Q) :=
  W_g (G := 1 ≤ (rm P m).frames ∧ cs S + 12 ≤ (rm P m).locals) hd rfl (by simp [cal, cal1]) (by simp [stp])
theorem W_idiv {y : Int32} (hd : P.1 m pc = some (.idiv, len, aux)) : W P m pc L (.int y :: .int x :: S) k n H Q ↔ (¬ y = 0 ∧ W P m (pc + len) L (.int (x / y) :: S) k n H Q) := W_n hd rfl rfl rfl
theorem W_irem {y : Int32} (hd : P.1 m pc = some (.irem, len, aux)) : W P m pc L (.int y :: .int x :: S) k n H Q ↔ (¬ y = 0 ∧ W P m (pc + len) L (.int (x % y) :: S) k n H Q) := W_n hd rfl rfl rfl
end Heap
section Call
variable {m' : Nat} {a r : List Value} {b : Nat}
theorem cal_eq (hk : kindOk ins (kd P m') = true) (hl : a.length = na P m') : cal P m ins (m' : Int) (a.reverse ++ r) k n H = if may P m m' a r k n H = true then some (m', a, r) else none := by
  have e1 : (a.reverse ++ r).take (na P m') = a.reverse := by rw [← hl, ← List.length_reverse (as := a)]; exact List.take_left ..
  have e2 : (a.reverse ++ r).drop (na P m') = r := by rw [← hl, ← List.length_reverse (as := a)]; exact List.drop_left ..
  have key : cal1 P m ins (m' : Int) (a.reverse ++ r) k n H = if may P m m' a r k n H = true then some (m', a, r) else none := by
    unfold cal1
    rw [Int.toNat_natCast, e1, e2, List.reverse_reverse]
    simp [hk]
  cases ins <;> first | exact key | (cases hk)
theorem W_call (hd : P.1 m pc = some (ins, len, (m' : Int))) (hr : ret P m ins S = none) (hk : kindOk ins (kd P m') = true) (hl : a.length = na P m') (hS : S = a.reverse ++ r) (hns : stp P m ins len (m' : Int) pc L S k n H = none) :
    W P m pc L S k n H Q ↔ (may P m m' a r k n H = true ∧ Cl P m' a H (fun v H' => W P m (pc + len) L (v.toList ++ r) (k + (rm P m').cells) (n + (rm P m').slots) H' Q)) := by
  have hc : cal P m ins (m' : Int) S k n H = if may P m m' a r k n H = true then some (m', a, r) else none := by rw [hS]; exact cal_eq hk hl
  by_cases g : may P m m' a r k n H = true
  · rw [if_pos g] at hc
    rw [W_c hd hr hc]; simp [g]
  · rw [if_neg g] at hc
    rw [W_q hd hr hc, hns]
    exact ⟨fun ⟨q, e, h⟩ => (by cases e), fun h => absurd h.1 g⟩
theorem W_inst {ix : Nat} {as : List Value} (hd : P.1 m pc = some (.invokevirtual ix, len, (m' : Int))) (hk : kindOk (.invokevirtual ix) (kd P m') = true) (hl : as.length + 1 = na P m') (hS : S = as.reverse ++ .ref b :: r)
    (h1 : (Sym.laidSlots (.ref b :: as)).length ≤ ml P m') (h2 : (rm P m').frames + 1 ≤ (rm P m).frames) (h3 : (rm P m').cells = 0 ∧ (rm P m').slots = 0) :
    W P m pc L S k n H Q ↔ ((isO H b = true ∧ cs r + (ml P m' + 11) + (rm P m').locals ≤ (rm P m).locals) ∧ Cl P m' (.ref b :: as) H (fun v H' => W P m (pc + len) L (v.toList ++ r) k n H' Q)) := by
  rw [W_call (a := .ref b :: as) (r := r) hd rfl hk hl (by rw [hS]; simp) rfl]
  have e : may P m m' (.ref b :: as) r k n H = true ↔ (isO H b = true ∧ cs r + (ml P m' + 11) + (rm P m').locals ≤ (rm P m).locals) := by
    have hk0 : kd P m' ≠ 0 := by intro h; rw [h] at hk; cases hk
    simp [may, rcv, h1, h2, h3, ← hl, hk0]; exact And.comm
  rw [e, h3.1, h3.2]; rfl
theorem W_stat {ix : Nat} (hd : P.1 m pc = some (.invokestatic ix, len, (m' : Int))) (hk : kindOk (.invokestatic ix) (kd P m') = true) (hl : a.length = na P m') (hS : S = a.reverse ++ r)
    (h1 : (Sym.laidSlots a).length ≤ ml P m') (h2 : (rm P m').frames + 1 ≤ (rm P m).frames) (h3 : (rm P m').cells = 0 ∧ (rm P m').slots = 0) :
    W P m pc L S k n H Q ↔ ((cs r + (ml P m' + 11) + (rm P m').locals ≤ (rm P m).locals) ∧ Cl P m' a H (fun v H' => W P m (pc + len) L (v.toList ++ r) k n H' Q)) := by
  rw [W_call (a := a) (r := r) hd rfl hk hl hS rfl]
  have e : may P m m' a r k n H = true ↔ (cs r + (ml P m' + 11) + (rm P m').locals ≤ (rm P m).locals) := by
    have hk0 : kd P m' = 0 := by simpa [kindOk] using hk
    simp [may, h1, h2, h3, hl, hk0]
  rw [e, h3.1, h3.2]; rfl
theorem W_init {ix : Nat} {as : List Value} (hd : P.1 m pc = some (.invokespecial ix, len, (m' : Int))) (hk : kindOk (.invokespecial ix) (kd P m') = true) (hl : as.length + 1 = na P m') (hS : S = as.reverse ++ .ref b :: r)
    (h1 : (Sym.laidSlots (.ref b :: as)).length ≤ ml P m') (h2 : (rm P m').frames + 1 ≤ (rm P m).frames) (h3 : ¬ ((rm P m').cells = 0 ∧ (rm P m').slots = 0)) :
    W P m pc L S k n H Q ↔ ((isO H b = true ∧ cs r + (ml P m' + 11) + (rm P m').locals ≤ (rm P m).locals ∧ k + (rm P m').cells ≤ (rm P m).cells ∧ n + (rm P m').slots ≤ (rm P m).slots) ∧ Cl P m' (.ref b :: as) H (fun v H' => W P m (pc + len) L (v.toList ++ r) (k + (rm P m').cells) (n + (rm P m').slots) H' Q)) := by
  have hns : stp P m (.invokespecial ix) len (m' : Int) pc L S k n H = none := by
    dsimp only [stp]
    split
    · rw [if_neg]; omega
    · rfl
  rw [W_call (a := .ref b :: as) (r := r) hd rfl hk hl (by rw [hS]; simp) hns]
  have e : may P m m' (.ref b :: as) r k n H = true ↔ (isO H b = true ∧ cs r + (ml P m' + 11) + (rm P m').locals ≤ (rm P m).locals ∧ k + (rm P m').cells ≤ (rm P m).cells ∧ n + (rm P m').slots ≤ (rm P m).slots) := by
    have hk0 : kd P m' ≠ 0 := by intro h; rw [h] at hk; cases hk
    simp only [may, rcv, h1, h2, h3, ← hl, hk0, List.length_cons, decide_true, decide_false, Bool.true_and, Bool.false_or, Bool.and_eq_true, decide_eq_true_eq]
    constructor
    · rintro ⟨⟨q1, q2⟩, q3⟩; exact ⟨q3, q1, q2⟩
    · rintro ⟨q3, q1, q2⟩; exact ⟨⟨q1, q2⟩, q3⟩
  rw [e]
end Call
section Last
theorem W_rz {x : Int32} (hd : P.1 m pc = some (.ireturn, len, aux)) (hr : rt P m = some .boolean) : W P m pc L (.int x :: S) k n H Q ↔ ((x = 0 ∨ x = 1) ∧ Q (some (.int x)) H) := by
  by_cases g : x = 0 ∨ x = 1
  · rw [W_r hd (by simp only [ret, hr]; rw [if_pos g])]; simp [g]
  · rw [W_q hd (by simp only [ret, hr]; rw [if_neg g]) rfl]
    constructor
    · rintro ⟨q, e, -⟩; cases e
    · intro h; exact absurd h.1 g
theorem W_newarr' {t : ArrayType} {c : Int32} {N : Nat} (hd : P.1 m pc = some (.newarray t, len, aux)) (hN : c.toNatClampNeg = N) (h1 : ¬ c < 0) (h2 : N * 8 ≤ 536870912) :
    W P m pc L (.int c :: S) k n H Q ↔ ((k + 1 ≤ (rm P m).cells ∧ n + N ≤ (rm P m).slots) ∧ W P m (pc + len) L (.ref H.1 :: S) (k + 1) (n + N) (mkA (newarray.typeOf t) N H) Q) := by
  rw [W_newarr hd, hN]; simp [h1, h2]
theorem W_new' {ix : Nat} (hd : P.1 m pc = some (.new ix, len, aux)) (h0 : 0 ≤ aux) : W P m pc L S k n H Q ↔ ((k + 1 ≤ (rm P m).cells ∧ n + aux.toNat ≤ (rm P m).slots) ∧ W P m (pc + len) L (.ref H.1 :: S) (k + 1) (n + aux.toNat) (mkO P H) Q) := by
  rw [W_new hd]; simp [h0]
theorem cmpL_lt {x y : Int64} : Jvm.Free.XT.cmpL x y < 0 ↔ x < y := by
  unfold Jvm.Free.XT.cmpL
  by_cases h1 : y < x
  · rw [if_pos h1]; exact ⟨fun h => absurd h (by decide), fun h => by rw [Int64.lt_iff_toInt_lt] at *; omega⟩
  · rw [if_neg h1]
    by_cases h2 : x = y
    · rw [if_pos h2]; exact ⟨fun h => absurd h (by decide), fun h => by subst h2; rw [Int64.lt_iff_toInt_lt] at *; omega⟩
    · rw [if_neg h2]; refine ⟨fun _ => ?_, fun _ => by decide⟩
      rw [Int64.lt_iff_toInt_lt] at *; rw [← Int64.toInt_inj] at h2; omega
theorem cmpL_gt {x y : Int64} : 0 < Jvm.Free.XT.cmpL x y ↔ y < x := by
  unfold Jvm.Free.XT.cmpL
  by_cases h1 : y < x
  · rw [if_pos h1]; exact ⟨fun _ => h1, fun _ => by decide⟩
  · rw [if_neg h1]
    by_cases h2 : x = y
    · rw [if_pos h2]; exact ⟨fun h => absurd h (by decide), fun h => absurd h h1⟩
    · rw [if_neg h2]; exact ⟨fun h => absurd h (by decide), fun h => absurd h h1⟩
theorem cmpL_eq {x y : Int64} : Jvm.Free.XT.cmpL x y = 0 ↔ x = y := by
  unfold Jvm.Free.XT.cmpL
  by_cases h1 : y < x
  · rw [if_pos h1]; exact ⟨fun h => absurd h (by decide), fun h => by subst h; rw [Int64.lt_iff_toInt_lt] at h1; omega⟩
  · rw [if_neg h1]
    by_cases h2 : x = y
    · rw [if_pos h2]; exact ⟨fun _ => h2, fun _ => rfl⟩
    · rw [if_neg h2]; exact ⟨fun h => absurd h (by decide), fun h => absurd h h2⟩
end Last
end Rules
abbrev LW : Type := (Nat → Nat → Option (Instr × Nat × Int)) × (Nat → MInfo)
abbrev Row : Type := Nat × Instr × Nat × Int
end Jvm.JX

namespace Jvm.JX
open Sem ClassFile Op Lib
abbrev St : Type := (Nat → Int32) × (Nat → Int64) × (Nat → Nat → Int32) × (Nat → Nat → Int64)
abbrev Lay : Type := List (FieldType × Nat) × List (FieldType × Nat)
def sI (s : St) (k : Nat) : Int32 := s.1 k
def sJ (s : St) (k : Nat) : Int64 := s.2.1 k
def sA (s : St) (t i : Nat) : Int32 := s.2.2.1 t i
def sB (s : St) (t i : Nat) : Int64 := s.2.2.2 t i
def uI (s : St) (k : Nat) (v : Int32) : St := (fun j => if j = k then v else s.1 j, s.2.1, s.2.2.1, s.2.2.2)
def uJ (s : St) (k : Nat) (v : Int64) : St := (s.1, fun j => if j = k then v else s.2.1 j, s.2.2.1, s.2.2.2)
def uA (s : St) (t i : Nat) (v : Int32) : St := (s.1, s.2.1, fun t' i' => if t' = t ∧ i' = i then v else s.2.2.1 t' i', s.2.2.2)
def uB (s : St) (t i : Nat) (v : Int64) : St := (s.1, s.2.1, s.2.2.1, fun t' i' => if t' = t ∧ i' = i then v else s.2.2.2 t' i')
def z0 : St := (fun _ => 0, fun _ => 0, fun _ _ => 0, fun _ _ => 0)
section St
variable {s : St} {k j t i t' i' : Nat} {v : Int32} {w : Int64}
theorem sI_uI : sI (uI s k v) j = if j = k then v else sI s j := by simp [sI, sJ, sA, sB, uI, uJ, uA, uB, z0]
theorem sI_uJ : sI (uJ s k w) j = sI s j := by simp [sI, sJ, sA, sB, uI, uJ, uA, uB, z0]
theorem sI_uA : sI (uA s t i v) j = sI s j := by simp [sI, sJ, sA, sB, uI, uJ, uA, uB, z0]
theorem sI_uB : sI (uB s t i w) j = sI s j := by simp [sI, sJ, sA, sB, uI, uJ, uA, uB, z0]
theorem sJ_uI : sJ (uI s k v) j = sJ s j := by simp [sI, sJ, sA, sB, uI, uJ, uA, uB, z0]
theorem sJ_uJ : sJ (uJ s k w) j = if j = k then w else sJ s j := by simp [sI, sJ, sA, sB, uI, uJ, uA, uB, z0]
theorem sJ_uA : sJ (uA s t i v) j = sJ s j := by simp [sI, sJ, sA, sB, uI, uJ, uA, uB, z0]
theorem sJ_uB : sJ (uB s t i w) j = sJ s j := by simp [sI, sJ, sA, sB, uI, uJ, uA, uB, z0]
theorem sA_uI : sA (uI s k v) t' i' = sA s t' i' := by simp [sI, sJ, sA, sB, uI, uJ, uA, uB, z0]
theorem sA_uJ : sA (uJ s k w) t' i' = sA s t' i' := by simp [sI, sJ, sA, sB, uI, uJ, uA, uB, z0]
theorem sA_uA : sA (uA s t i v) t' i' = if t' = t ∧ i' = i then v else sA s t' i' := by simp [sI, sJ, sA, sB, uI, uJ, uA, uB, z0]
theorem sA_uB : sA (uB s t i w) t' i' = sA s t' i' := by simp [sI, sJ, sA, sB, uI, uJ, uA, uB, z0]
theorem sB_uI : sB (uI s k v) t' i' = sB s t' i' := by simp [sI, sJ, sA, sB, uI, uJ, uA, uB, z0]
theorem sB_uJ : sB (uJ s k w) t' i' = sB s t' i' := by simp [sI, sJ, sA, sB, uI, uJ, uA, uB, z0]
theorem sB_uA : sB (uA s t i v) t' i' = sB s t' i' := by simp [sI, sJ, sA, sB, uI, uJ, uA, uB, z0]
theorem sB_uB : sB (uB s t i w) t' i' = if t' = t ∧ i' = i then w else sB s t' i' := by simp [sI, sJ, sA, sB, uI, uJ, uA, uB, z0]
theorem sA_z0 : sA z0 t i = 0 := by simp [sI, sJ, sA, sB, uI, uJ, uA, uB, z0]
theorem sB_z0 : sB z0 t i = 0 := by simp [sI, sJ, sA, sB, uI, uJ, uA, uB, z0]
theorem St_ext {s s' : St} (h1 : ∀ k, sI s k = sI s' k) (h2 : ∀ k, sJ s k = sJ s' k) (h3 : ∀ t i, sA s t i = sA s' t i) (h4 : ∀ t i, sB s t i = sB s' t i) : s = s' :=
  Prod.ext (funext h1) (Prod.ext (funext h2) (Prod.ext (funext fun t => funext (h3 t)) (funext fun t => funext (h4 t))))
end St
def zr (s : St) (t : Nat) : Prop := (∀ i, sA s t i = 0) ∧ ∀ i, sB s t i = 0
theorem zr_z0 {t : Nat} : zr z0 t = True := by simp [zr, sA_z0, sB_z0]
def fvl (y : Lay) (j p : Nat) (s : St) (k : Nat) : Value := match y.1[k]? with
  | some (.long, _) => .long (sJ s k)
  | some (.array _, t) => if t ≤ j then .ref (p + t) else .null
  | _ => .int (sI s k)
def blk (y : Lay) (j p : Nat) (s : St) : Nat → Cel
  | 0 => (.object "", y.1.length, true, fvl y j p s)
  | t + 1 => match y.2[t]? with
    | some (.long, n) => (.array .long, n, true, fun i => .long (sB s (t + 1) i))
    | some (ty, n) => (.array ty, n, true, fun i => .int (sA s (t + 1) i))
    | none => (.char, 0, false, fun _ => .null)
def put (y : Lay) (j : Nat) (H : AH) (p : Nat) (s : St) : AH := (H.1, fun a => if p ≤ a ∧ a ≤ p + j then blk y j p s (a - p) else H.2 a)
section Put
variable {y : Lay} {j : Nat} {H : AH} {p : Nat} {s : St} {k t n : Nat} {ty : FieldType} {i : Int32}
theorem put_0 : (put y j H p s).2 p = (.object "", y.1.length, true, fvl y j p s) := by simp [put, blk]
theorem put_t (ht : t ≤ j) : (put y j H p s).2 (p + t) = blk y j p s t := by simp [put, ht]
theorem put_ot {a : Nat} (h : a < p ∨ p + j < a) : (put y j H p s).2 a = H.2 a := by
  have : ¬ (p ≤ a ∧ a ≤ p + j) := by omega
  simp [put, this]
theorem isO_put : isO (put y j H p s) p = true := by simp [isO, put_0]
theorem isOw_put : isOw (put y j H p s) p = true := by simp [isOw, isO_put, put_0]
theorem fld_I (h : y.1[k]? = some (ty, t)) (hl : ty ≠ .long) (ha : ∀ e, ty ≠ .array e) : fld (put y j H p s) p k = .int (sI s k) := by
  simp only [fld, put_0, fvl, h]; cases ty <;> first | rfl | exact absurd rfl hl | exact absurd rfl (ha _)
theorem fld_J (h : y.1[k]? = some (.long, t)) : fld (put y j H p s) p k = .long (sJ s k) := by simp only [fld, put_0, fvl, h]
theorem fld_R (h : y.1[k]? = some (.array ty, t)) (ht : t ≤ j) : fld (put y j H p s) p k = .ref (p + t) := by simp only [fld, put_0, fvl, h, ht, if_true]
theorem blk_I (h : y.2[t]? = some (ty, n)) (hl : ty ≠ .long) : blk y j p s (t + 1) = (.array ty, n, true, fun i => .int (sA s (t + 1) i)) := by
  simp only [blk, h]
theorem blk_J (h : y.2[t]? = some (.long, n)) : blk y j p s (t + 1) = (.array .long, n, true, fun i => .long (sB s (t + 1) i)) := by simp only [blk, h]
theorem clamp_lt {i : Int32} {n : Nat} : (¬ i < 0 ∧ i.toNatClampNeg < n) ↔ (0 ≤ i.toInt ∧ i.toInt < n) := by
  simp only [Int32.lt_iff_toInt_lt, Int32.toNatClampNeg, Int32.reduceToInt]; omega
theorem inA_I (h : y.2[t]? = some (ty, n)) (hl : ty ≠ .long) (ht : t + 1 ≤ j) : inA (put y j H p s) (p + (t + 1)) ty i = true ↔ (0 ≤ i.toInt ∧ i.toInt < n) := by
  rw [← clamp_lt]; simp [inA, put_t ht, blk_I h hl]
theorem inA_J (h : y.2[t]? = some (.long, n)) (ht : t + 1 ≤ j) : inA (put y j H p s) (p + (t + 1)) .long i = true ↔ (0 ≤ i.toInt ∧ i.toInt < n) := by
  rw [← clamp_lt]; simp [inA, put_t ht, blk_J h]
theorem inA_no {ty' : FieldType} (h : y.2[t]? = some (ty, n)) (hl : ty ≠ .long) (ht : t + 1 ≤ j) (hne : ty ≠ ty') : inA (put y j H p s) (p + (t + 1)) ty' i = true ↔ False := by
  simp [inA, put_t ht, blk_I h hl, hne]
theorem inAw_I (h : y.2[t]? = some (ty, n)) (hl : ty ≠ .long) (ht : t + 1 ≤ j) : inAw (put y j H p s) (p + (t + 1)) ty i = true ↔ (0 ≤ i.toInt ∧ i.toInt < n) := by
  rw [← inA_I (H := H) (p := p) (s := s) h hl ht]; simp [inAw, put_t ht, blk_I h hl]
theorem inAw_J (h : y.2[t]? = some (.long, n)) (ht : t + 1 ≤ j) : inAw (put y j H p s) (p + (t + 1)) .long i = true ↔ (0 ≤ i.toInt ∧ i.toInt < n) := by
  rw [← inA_J (H := H) (p := p) (s := s) h ht]; simp [inAw, put_t ht, blk_J h]
theorem inAw_no {ty' : FieldType} (h : y.2[t]? = some (ty, n)) (hl : ty ≠ .long) (ht : t + 1 ≤ j) (hne : ty ≠ ty') : inAw (put y j H p s) (p + (t + 1)) ty' i = true ↔ False := by
  simp [inAw, inA, put_t ht, blk_I h hl, hne]
theorem elt_I (h : y.2[t]? = some (ty, n)) (hl : ty ≠ .long) (ht : t + 1 ≤ j) : elt (put y j H p s) (p + (t + 1)) i = .int (sA s (t + 1) i.toNatClampNeg) := by
  simp only [elt, put_t ht, blk_I h hl]
theorem elt_J (h : y.2[t]? = some (.long, n)) (ht : t + 1 ≤ j) : elt (put y j H p s) (p + (t + 1)) i = .long (sB s (t + 1) i.toNatClampNeg) := by
  simp only [elt, put_t ht, blk_J h]
theorem put_wr {s' : St} {t q : Nat} {v : Value} (ht : t ≤ j) (hb : ∀ t', blk y j p s' t' = if t' = t then ((blk y j p s t).1, (blk y j p s t).2.1, (blk y j p s t).2.2.1, fun i => if i = q then v else (blk y j p s t).2.2.2 i) else blk y j p s t') :
    wr (put y j H p s) (p + t) q v = put y j H p s' := by
  refine Prod.ext rfl (funext fun a => ?_)
  simp only [wr, put_t ht]
  by_cases e : a = p + t
  · subst e; simp [put, ht, hb]
  · simp only [e, if_false, put]
    by_cases g : p ≤ a ∧ a ≤ p + j
    · have : a - p ≠ t := by omega
      simp [g, hb, this]
    · simp [g]
theorem fvl_uI {v : Int32} (h : y.1[k]? = some (ty, t)) (hl : ty ≠ .long) (ha : ∀ e, ty ≠ .array e) (i : Nat) : fvl y j p (uI s k v) i = if i = k then .int v else fvl y j p s i := by
  by_cases e : i = k
  · subst e; simp only [fvl, h, if_true]; cases ty <;> first | (simp [sI_uI]; done) | exact absurd rfl hl | exact absurd rfl (ha _)
  · simp only [fvl, e, if_false, sI_uI, sJ_uI]
theorem fvl_uJ {v : Int64} (h : y.1[k]? = some (.long, t)) (i : Nat) : fvl y j p (uJ s k v) i = if i = k then .long v else fvl y j p s i := by
  by_cases e : i = k
  · subst e; simp only [fvl, h, if_true, sJ_uJ]
  · simp only [fvl, e, if_false, sI_uJ, sJ_uJ]
theorem wr_I {v : Int32} (h : y.1[k]? = some (ty, t)) (hl : ty ≠ .long) (ha : ∀ e, ty ≠ .array e) : wr (put y j H p s) p k (.int v) = put y j H p (uI s k v) := by
  refine put_wr (t := 0) (Nat.zero_le _) fun t' => ?_
  cases t' with
  | zero => simp only [blk, if_true]; exact congrArg (fun f => (_, _, _, f)) (funext fun i => fvl_uI h hl ha i)
  | succ t' => simp [blk, sA_uI, sB_uI]
theorem wr_J {v : Int64} (h : y.1[k]? = some (.long, t)) : wr (put y j H p s) p k (.long v) = put y j H p (uJ s k v) := by
  refine put_wr (t := 0) (Nat.zero_le _) fun t' => ?_
  cases t' with
  | zero => simp only [blk, if_true]; exact congrArg (fun f => (_, _, _, f)) (funext fun i => fvl_uJ h i)
  | succ t' => simp [blk, sA_uJ, sB_uJ]
theorem wr_A {v : Int32} {q : Nat} (h : y.2[t]? = some (ty, n)) (hl : ty ≠ .long) (ht : t + 1 ≤ j) : wr (put y j H p s) (p + (t + 1)) q (.int v) = put y j H p (uA s (t + 1) q v) := by
  refine put_wr ht fun t' => ?_
  by_cases e : t' = t + 1
  · subst e
    simp only [blk_I h hl, if_true, sA_uA, true_and]
    exact congrArg (fun f => (_, _, _, f)) (funext fun i => by split <;> rfl)
  · simp only [e, if_false]
    cases t' with
    | zero => rfl
    | succ t' => have : ¬ t' = t := fun q => e (by rw [q]); simp [blk, sA_uA, sB_uA, this]
theorem wr_B {v : Int64} {q : Nat} (h : y.2[t]? = some (.long, n)) (ht : t + 1 ≤ j) : wr (put y j H p s) (p + (t + 1)) q (.long v) = put y j H p (uB s (t + 1) q v) := by
  refine put_wr ht fun t' => ?_
  by_cases e : t' = t + 1
  · subst e
    simp only [blk_J h, if_true, sB_uB, true_and]
    exact congrArg (fun f => (_, _, _, f)) (funext fun i => by split <;> rfl)
  · simp only [e, if_false]
    cases t' with
    | zero => rfl
    | succ t' => have : ¬ t' = t := fun q => e (by rw [q]); simp [blk, sA_uB, sB_uB, this]
theorem mkO_put {P : Prog} (hn : P.2.2.2 = y.1.length) (hf : ∀ k, defaultValue (P.2.2.1 k) = fvl y 0 H.1 z0 k) : mkO P H = put y 0 (H.1 + 1, H.2) H.1 z0 := by
  refine Prod.ext rfl (funext fun a => ?_)
  by_cases e : a = H.1
  · subst e; simp only [mkO, if_true, put_0, hn]; exact congrArg (fun f => (_, _, _, f)) (funext fun k => hf k)
  · have : ¬ (H.1 ≤ a ∧ a ≤ H.1 + 0) := by omega
    simp only [mkO, put, e, if_false, if_neg this]
theorem mkA_put {h : Nat → Cel} (h1 : y.1[k]? = some (.array ty, j + 1)) (h2 : y.2[j]? = some (ty, n)) (hu : (List.range y.1.length).all (fun k' => decide (k' = k) || ((y.1.getD k' (.int, 0)).2 != j + 1)) = true) (hz : ∀ i, sA s (j + 1) i = 0) (hz' : ∀ i, sB s (j + 1) i = 0) (hty : ty = .int ∨ ty = .long ∨ ty = .byte ∨ ty = .boolean) :
    wr (mkA ty n (put y j (p + (j + 1), h) p s)) p k (.ref (p + (j + 1))) = put y (j + 1) (p + (j + 1) + 1, h) p s := by
  refine Prod.ext rfl (funext fun a => ?_)
  have hp : ¬ p = p + (j + 1) := by omega
  have hN : (put y j (p + (j + 1), h) p s).1 = p + (j + 1) := rfl
  by_cases e : a = p
  · subst e
    simp only [wr, mkA, hN, if_true, hp, if_false, put_0]
    refine congrArg (fun f => (_, _, _, f)) (funext fun i => ?_)
    by_cases e2 : i = k
    · subst e2; simp [fvl, h1]
    · simp only [e2, if_false, fvl]
      cases hq : y.1[i]? with
      | none => rfl
      | some x =>
        obtain ⟨x1, x2⟩ := x
        cases x1 <;> try rfl
        rename_i el
        have : x2 ≠ j + 1 := fun q => by
          have hlt : i < y.1.length := (List.getElem?_eq_some_iff.mp hq).1
          have u := List.all_eq_true.mp hu i (List.mem_range.mpr hlt)
          simp [e2, hq, q] at u
        have : (x2 ≤ j + 1) = (x2 ≤ j) := propext ⟨fun _ => by omega, fun _ => by omega⟩
        simp [this]
  · simp only [wr, mkA, hN, e, if_false]
    by_cases e2 : a = p + (j + 1)
    · subst e2
      simp only [if_true, put_t (Nat.le_refl (j + 1))]
      rcases hty with rfl | rfl | rfl | rfl
      · simp only [blk, h2, hz]; rfl
      · simp only [blk, h2, hz']; rfl
      · simp only [blk, h2, hz]; rfl
      · simp only [blk, h2, hz]; rfl
    · simp only [e2, if_false, put]
      by_cases g : p ≤ a ∧ a ≤ p + j
      · have g2 : p ≤ a ∧ a ≤ p + (j + 1) := by omega
        simp only [g, g2, and_self, if_true]
        obtain ⟨t, ht⟩ : ∃ t, a - p = t + 1 := ⟨a - p - 1, by omega⟩
        rw [ht]; rfl
      · have g2 : ¬ (p ≤ a ∧ a ≤ p + (j + 1)) := by omega
        simp only [g, g2, if_false]
theorem isOw_mk {h : Nat → Cel} {c : Nat} : isOw (mkA ty n (put y j (p + (c + 1), h) p s)) p = true := by
  have : ¬ p = p + (c + 1) := by omega
  have hN : (put y j (p + (c + 1), h) p s).1 = p + (c + 1) := rfl
  simp [isOw, isO, mkA, hN, this, put_0]
theorem put_fst : (put y j H p s).1 = H.1 := by simp [put]
theorem cl_unf {P : Prog} {m : Nat} {a : List Value} {L : List Slot} {Q : Option Value → AH → Prop} (h : ent P m a = L) : Cl P m a H Q ↔ W P m 0 L [] 0 0 H Q := by unfold Cl; rw [h]
theorem inA_ot {a : Nat} (h : a < p ∨ p + j < a) : inA (put y j H p s) a ty i = inA H a ty i := by simp only [inA, put_ot h]
theorem isA_ot {a : Nat} (h : a < p ∨ p + j < a) : isA (put y j H p s) a = isA H a := by simp only [isA, put_ot h]
theorem elt_ot {a : Nat} (h : a < p ∨ p + j < a) : elt (put y j H p s) a i = elt H a i := by simp only [elt, put_ot h]
theorem alen_ot {a : Nat} (h : a < p ∨ p + j < a) : alen (put y j H p s) a = alen H a := by simp only [alen, put_ot h]
end Put
def noc : Cel := (.char, 0, false, fun _ => .null)
def H1 (n a len : Nat) (f : Nat → Int32) : AH := (n, fun b => if b = a then (.array .int, len, false, fun i => .int (f i)) else noc)
theorem isA_H1 {n a len : Nat} {f : Nat → Int32} : isA (H1 n a len f) a = true := by simp [isA, H1]
theorem alen_H1 {n a len : Nat} {f : Nat → Int32} : alen (H1 n a len f) a = len := by simp [alen, H1]
theorem inA_H1 {n a len : Nat} {f : Nat → Int32} {i : Int32} : inA (H1 n a len f) a .int i = true ↔ (0 ≤ i.toInt ∧ i.toInt < len) := by rw [← clamp_lt]; simp [inA, H1]
theorem elt_H1 {n a len : Nat} {f : Nat → Int32} {i : Int32} : elt (H1 n a len f) a i = .int (f i.toNatClampNeg) := by simp [elt, H1]
def cl (lo hi v : Int32) : Int32 := if v < lo then lo else if hi < v then hi else v
theorem cl3 {lo hi : Int32} (v : Int32) (h : ¬ hi < lo) : (v < lo ∧ ¬ hi < v) ∨ (¬ v < lo ∧ hi < v) ∨ (¬ v < lo ∧ ¬ hi < v) := by
  by_cases h1 : v < lo
  · exact Or.inl ⟨h1, fun h2 => h (by rw [Int32.lt_iff_toInt_lt] at *; omega)⟩
  · by_cases h2 : hi < v
    · exact Or.inr (Or.inl ⟨h1, h2⟩)
    · exact Or.inr (Or.inr ⟨h1, h2⟩)
section Okv
variable {x : Int32} {l : Int64} {a : Nat} {t : FieldType}
theorem okv_int : (okv .int (.int x) = true) = True := by simp [okv]
theorem okv_long : (okv .long (.long l) = true) = True := by simp [okv]
theorem okv_ref : (okv (.array t) (.ref a) = true) = True := by simp [okv]
end Okv
end Jvm.JX

namespace Jvm.JX
open Sem ClassFile Op Lib
section Num
theorem ia {x y : Int32} (h1 : -2147483648 ≤ x.toInt + y.toInt) (h2 : x.toInt + y.toInt ≤ 2147483647) : (x + y).toInt = x.toInt + y.toInt := by
  rw [Int32.toInt_add]; exact Int.bmod_eq_of_le (by omega) (by omega)
theorem isb {x y : Int32} (h1 : -2147483648 ≤ x.toInt - y.toInt) (h2 : x.toInt - y.toInt ≤ 2147483647) : (x - y).toInt = x.toInt - y.toInt := by
  rw [Int32.toInt_sub]; exact Int.bmod_eq_of_le (by omega) (by omega)
theorem lt32 {x y : Int32} : x < y ↔ x.toInt < y.toInt := Int32.lt_iff_toInt_lt
theorem eq32 {x y : Int32} : x = y ↔ x.toInt = y.toInt := Int32.toInt_inj.symm
theorem eq64 {x y : Int64} : x = y ↔ x.toInt = y.toInt := Int64.toInt_inj.symm
theorem cln {i : Int32} : i.toNatClampNeg = i.toInt.toNat := rfl
end Num
section Fill
def fA (s : St) (t lo hi : Nat) (v : Int32) : St := (s.1, s.2.1, fun t' i => if t' = t ∧ lo ≤ i ∧ i < hi then v else s.2.2.1 t' i, s.2.2.2)
variable {s : St} {t lo hi k i t' : Nat} {v : Int32}
theorem sI_fA : sI (fA s t lo hi v) k = sI s k := by simp [sI, fA]
theorem sJ_fA : sJ (fA s t lo hi v) k = sJ s k := by simp [sJ, fA]
theorem sA_fA : sA (fA s t lo hi v) t' i = if t' = t ∧ lo ≤ i ∧ i < hi then v else sA s t' i := by simp [sA, fA]
theorem sB_fA : sB (fA s t lo hi v) t' i = sB s t' i := by simp [sB, fA]
theorem fA_nil (h : hi ≤ lo) : fA s t lo hi v = s := by
  refine St_ext (fun k => sI_fA) (fun k => sJ_fA) (fun t' i => ?_) (fun t' i => sB_fA)
  rw [sA_fA, if_neg (by omega)]
theorem fA_step (h : lo < hi) : fA (uA s t lo v) t (lo + 1) hi v = fA s t lo hi v := by
  refine St_ext (fun k => by simp only [sI_fA, sI_uA]) (fun k => by simp only [sJ_fA, sJ_uA]) (fun t' i => ?_) (fun t' i => by simp only [sB_fA, sB_uA])
  simp only [sA_fA, sA_uA]
  by_cases h1 : t' = t ∧ lo + 1 ≤ i ∧ i < hi
  · rw [if_pos h1, if_pos (by omega)]
  · rw [if_neg h1]
    by_cases h2 : t' = t ∧ i = lo
    · rw [if_pos h2, if_pos (by omega)]
    · rw [if_neg h2, if_neg (by omega)]
end Fill
section Cnt
def cnt (f : Nat → Bool) : Nat → Nat → Nat
  | _, 0 => 0
  | j, k + 1 => (if f j = true then 1 else 0) + cnt f (j + 1) k
theorem cnt_none {f : Nat → Bool} : ∀ (k j : Nat), (∀ i, j ≤ i → i < j + k → f i = false) → cnt f j k = 0
  | 0, _, _ => rfl
  | k + 1, j, h => by
    have h1 := h j (Nat.le_refl _) (by omega)
    simp only [cnt, h1]
    rw [cnt_none k (j + 1) fun i a b => h i (by omega) (by omega)]; rfl
theorem cnt_le {f : Nat → Bool} : ∀ (k j : Nat), cnt f j k ≤ k
  | 0, _ => Nat.le_refl _
  | k + 1, j => by have := cnt_le (f := f) k (j + 1); simp only [cnt]; split <;> omega
theorem cnt_congr {f g : Nat → Bool} : ∀ (k j : Nat), (∀ i, j ≤ i → i < j + k → f i = g i) → cnt f j k = cnt g j k
  | 0, _, _ => rfl
  | k + 1, j, h => by simp only [cnt]; rw [h j (Nat.le_refl _) (by omega), cnt_congr k (j + 1) fun i a b => h i (by omega) (by omega)]
end Cnt
section Ite
variable {P : Prog} {m pc : Nat} {L : List Slot} {S : List Value} {k n : Nat} {H : AH} {Q : Option Value → AH → Prop} {c : Prop} [Decidable c]
end Ite
end Jvm.JX

namespace Jvm.JX
open Sem ClassFile Op Lib
section Forget
variable {P : Prog} {m pc len k n i : Nat} {aux : Int} {ins : Instr} {L L' M : List Slot} {S : List Value} {H : AH} {v : Value} {Q : Option Value → AH → Prop}
def lel (L L' : List Slot) : Prop := ∀ i : Nat, L[i]? = L'[i]? ∨ (L[i]? = some .unset ∧ ∃ o, L'[i]? = some o ∧ cat1 o = true)
theorem lel_refl : lel L L := fun _ => Or.inl rfl
theorem lel_cons {a : Slot} (h : lel L L') : lel (a :: L) (a :: L') := fun i => by cases i with
  | zero => exact Or.inl rfl
  | succ i => simpa using h i
theorem lel_un {o : Slot} (ho : cat1 o = true) (h : lel L L') : lel (.unset :: L) (o :: L') := fun i => by cases i with
  | zero => exact Or.inr ⟨rfl, o, rfl, ho⟩
  | succ i => simpa using h i
theorem lel_len (h : lel L L') : L.length = L'.length := by
  rcases Nat.lt_trichotomy L.length L'.length with g | g | g
  · have h1 : L[L.length]? = none := List.getElem?_eq_none (Nat.le_refl _)
    rcases h L.length with e | ⟨e, -⟩
    · rw [h1] at e; have := List.getElem?_eq_none_iff.mp e.symm; omega
    · rw [h1] at e; cases e
  · exact g
  · have h1 : L'[L'.length]? = none := List.getElem?_eq_none (Nat.le_refl _)
    rcases h L'.length with e | ⟨-, o, e, -⟩
    · rw [h1] at e; have := List.getElem?_eq_none_iff.mp e; omega
    · rw [h1] at e; cases e
theorem lel_set {a : Slot} (h : lel L L') : lel (L.set i a) (L'.set i a) := fun j => by
  rw [List.getElem?_set, List.getElem?_set, lel_len h]
  by_cases e : i = j
  · rw [if_pos e, if_pos e]; exact Or.inl rfl
  · rw [if_neg e, if_neg e]; exact h j
theorem ldI_le (h : lel L L') (e : ldI L i = some v) : ldI L' i = some v := by
  unfold ldI at *; rcases h i with g | ⟨g, -⟩
  · rw [← g]; exact e
  · rw [g] at e; cases e
theorem ldJ_le (h : lel L L') (e : ldJ L i = some v) : ldJ L' i = some v := by
  unfold ldJ at *; rcases h i with g | ⟨g, -⟩
  · rw [← g]; exact e
  · rw [g] at e; cases e
theorem ldR_le (h : lel L L') (e : ldR L i = some v) : ldR L' i = some v := by
  unfold ldR at *; rcases h i with g | ⟨g, -⟩
  · rw [← g]; exact e
  · rw [g] at e; cases e
theorem stl_le (h : lel L L') (e : stl L i v = some M) : ∃ M', stl L' i v = some M' ∧ lel M M' := by
  unfold stl at *
  rcases h i with g | ⟨g, o, g', ho⟩
  · rw [← g, ← lel_len h]
    revert e; generalize L[i]? = x; intro e
    match x, e with
    | some .unset, e => cases e; exact ⟨_, rfl, lel_set h⟩
    | some (.val w), e =>
      simp only at e ⊢
      by_cases c : w.category = 1
      · simp only [c, if_true] at e ⊢; cases e; exact ⟨_, rfl, lel_set h⟩
      · simp only [c, if_false] at e ⊢
        by_cases d : i + 1 < L.length
        · simp only [d, if_true] at e ⊢; cases e; exact ⟨_, rfl, lel_set (lel_set h)⟩
        · simp only [d, if_false] at e; cases e
    | some .second, e =>
      simp only at e ⊢
      by_cases d : 1 ≤ i
      · simp only [d, if_true] at e ⊢; cases e; exact ⟨_, rfl, lel_set (lel_set h)⟩
      · simp only [d, if_false] at e; cases e
    | none, e => cases e
  · rw [g] at e; cases e; rw [g']
    match o, ho with
    | .unset, _ => exact ⟨_, rfl, lel_set h⟩
    | .val w, ho =>
      have c : w.category = 1 := by simpa [cat1] using ho
      simp only [c, if_true]; exact ⟨_, rfl, lel_set h⟩
theorem stL_le (h : lel L L') (e : stL L i v = some M) : ∃ M', stL L' i v = some M' ∧ lel M M' := by
  have key : ∀ o2, L[i + 1]? = some o2 → ∃ o3, L'[i + 1]? = some o3 ∧ (cat1 o2 = true → cat1 o3 = true) ∧ (cat1 o2 = false → o3 = o2) := by
    intro o2 e2
    rcases h (i + 1) with g | ⟨g, o, g', ho⟩
    · exact ⟨o2, by rw [← g]; exact e2, id, fun _ => rfl⟩
    · exact ⟨o, g', fun _ => ho, fun z => by rw [e2] at g; cases g; cases z⟩
  unfold stL at *
  have hs : lel ((L.set i (.val v)).set (i + 1) .second) ((L'.set i (.val v)).set (i + 1) .second) := lel_set (lel_set h)
  have hs3 : lel (((L.set i (.val v)).set (i + 2) .unset).set (i + 1) .second) (((L'.set i (.val v)).set (i + 2) .unset).set (i + 1) .second) := lel_set (lel_set (lel_set h))
  cases e2 : L[i + 1]? with
  | none => rw [e2] at e; revert e; cases L[i]? with
    | none => intro e; cases e
    | some o => intro e; cases o <;> cases e
  | some o2 =>
    obtain ⟨o3, g3, c3, c4⟩ := key o2 e2
    rw [e2] at e; rw [g3, ← lel_len h]
    rcases h i with g | ⟨g, o, g', ho⟩
    · rw [← g]
      revert e; generalize L[i]? = x; intro e
      match x, e with
      | some .unset, e =>
        simp only at e ⊢
        by_cases c : cat1 o2 = true
        · simp only [c, if_true] at e; cases e; simp only [c3 c, if_true]; exact ⟨_, rfl, hs⟩
        · rw [if_neg c] at e
          have c' : cat1 o2 = false := by simpa using c
          rw [c4 c', if_neg c]
          by_cases l3 : lng o2 = true ∧ i + 2 < L.length
          · rw [if_pos l3] at e; cases e; rw [if_pos l3]; exact ⟨_, rfl, hs3⟩
          · rw [if_neg l3] at e; cases e
      | some (.val w), e =>
        simp only at e ⊢
        by_cases d : w.category = 2
        · simp only [d, if_true] at e ⊢; cases e; exact ⟨_, rfl, hs⟩
        · rw [if_neg d] at e ⊢
          by_cases c : cat1 o2 = true
          · simp only [c, if_true] at e; cases e; simp only [c3 c, if_true]; exact ⟨_, rfl, hs⟩
          · rw [if_neg c] at e
            have c' : cat1 o2 = false := by simpa using c
            rw [c4 c', if_neg c]
            by_cases l3 : lng o2 = true ∧ i + 2 < L.length
            · rw [if_pos l3] at e; cases e; rw [if_pos l3]; exact ⟨_, rfl, hs3⟩
            · rw [if_neg l3] at e; cases e
      | some .second, e =>
        simp only at e ⊢
        by_cases d : 1 ≤ i
        · rw [if_pos d] at e ⊢
          by_cases c : cat1 o2 = true
          · rw [if_pos c] at e; cases e; rw [if_pos (c3 c)]; exact ⟨_, rfl, lel_set (lel_set (lel_set h))⟩
          · rw [if_neg c] at e
            have c' : cat1 o2 = false := by simpa using c
            rw [c4 c', if_neg c]
            by_cases l3 : lng o2 = true ∧ i + 2 < L.length
            · rw [if_pos l3] at e; cases e; rw [if_pos l3]; exact ⟨_, rfl, lel_set (lel_set (lel_set (lel_set h)))⟩
            · rw [if_neg l3] at e; cases e
        · rw [if_neg d] at e; cases e
      | none, e => cases e
    · rw [g] at e; rw [g']
      simp only at e
      by_cases c : cat1 o2 = true
      · simp only [c, if_true] at e; cases e
        match o, ho with
        | .unset, _ => simp only [c3 c, if_true]; exact ⟨_, rfl, hs⟩
        | .val w, ho =>
          by_cases d : w.category = 2
          · simp only [d, if_true]; exact ⟨_, rfl, hs⟩
          · simp only [d, if_false, c3 c, if_true]; exact ⟨_, rfl, hs⟩
      · rw [if_neg c] at e
        have c' : cat1 o2 = false := by simpa using c
        rw [c4 c']
        by_cases l3 : lng o2 = true ∧ i + 2 < L.length
        · rw [if_pos l3] at e; cases e
          match o, ho with
          | .unset, _ => simp only [if_neg c, if_pos l3]; exact ⟨_, rfl, hs3⟩
          | .val w, ho =>
            have d : ¬ w.category = 2 := by simp only [cat1, beq_iff_eq] at ho; omega
            simp only [if_neg d, if_neg c, if_pos l3]; exact ⟨_, rfl, hs3⟩
        · rw [if_neg l3] at e; cases e
def loc : Instr → Bool
  | .iload _ | .iload_n _ | .lload _ | .lload_n _ | .aload _ | .aload_n _ | .istore _ | .istore_n _ | .astore _ | .astore_n _ | .lstore _ | .lstore_n _ | .iinc _ _ => true
  | _ => false
theorem stp_fr {q : Fm} (hl : loc ins = false) (e : stp P m ins len aux pc L S k n H = some q) : q.2.1 = L ∧ stp P m ins len aux pc L' S k n H = some (q.1, L', q.2.2) := by
  cases ins <;> first
    | (cases hl; done)
    | (simp only [stp] at e ⊢; cases e; done)
    | (simp only [stp] at e ⊢; cases e; exact ⟨rfl, rfl⟩)
    | (simp only [stp, Option.map_eq_some_iff] at e ⊢; (repeat' split at e) <;> first
        | (cases e; done)
        | (cases e; exact ⟨rfl, rfl⟩)
        | (obtain ⟨w, h1, h2⟩ := e; subst h2; exact ⟨rfl, w, h1, rfl⟩)
        | (simp_all; done)
        | (simp_all; subst e; simp; done)
        | (simp_all; obtain ⟨e1, e2, e3⟩ := e; subst e3; simp_all; done)
        | (simp only [Option.bind_eq_some_iff, Option.map_eq_some_iff] at e; obtain ⟨w, h1, u, h2, h3⟩ := e; subst h3; simp_all; done)
        | (simp only [Option.bind_eq_some_iff, Option.map_eq_some_iff] at e; obtain ⟨w, h1, u, h2, h3⟩ := e; subst h3; simp_all; omega))
theorem stp_le {q : Fm} (h : lel L L') (e : stp P m ins len aux pc L S k n H = some q) : ∃ M, stp P m ins len aux pc L' S k n H = some (q.1, M, q.2.2) ∧ lel q.2.1 M := by
  cases hl : loc ins with
  | false =>
    obtain ⟨h1, h2⟩ := stp_fr (L' := L') hl e
    exact ⟨L', h2, by rw [h1]; exact h⟩
  | true =>
    cases ins <;> first
      | (cases hl; done)
      | (simp only [stp, Option.map_eq_some_iff] at e ⊢; obtain ⟨w, h1, h2⟩ := e; subst h2; first
          | exact ⟨L', ⟨w, ldI_le h h1, rfl⟩, h⟩
          | exact ⟨L', ⟨w, ldJ_le h h1, rfl⟩, h⟩
          | exact ⟨L', ⟨w, ldR_le h h1, rfl⟩, h⟩)
      | (simp only [stp] at e ⊢; split at e
         · simp only [Option.map_eq_some_iff] at e ⊢
           obtain ⟨w, h1, h2⟩ := e; subst h2
           first
            | (obtain ⟨M, g1, g2⟩ := stl_le h h1; exact ⟨M, ⟨M, g1, rfl⟩, g2⟩)
            | (obtain ⟨M, g1, g2⟩ := stL_le h h1; exact ⟨M, ⟨M, g1, rfl⟩, g2⟩)
         · cases e)
      | (simp only [stp] at e ⊢; rename_i i c; rcases h i with g | ⟨g, -⟩
         · rw [← g]; revert e; generalize L[i]? = x; intro e
           split at e
           · cases e; exact ⟨_, rfl, lel_set h⟩
           · cases e
         · rw [g] at e; cases e)
theorem run_fg : ∀ (f m pc : Nat) (L L' : List Slot) (S : List Value) (k n : Nat) (H : AH) (r : Option Value × AH), lel L L' → run P f m pc L S k n H = some r → run P f m pc L' S k n H = some r
  | 0, _, _, _, _, _, _, _, _, _, _, e => by cases e
  | f + 1, m, pc, L, L', S, k, n, H, r, h, e => by
    unfold run at e ⊢
    cases hd : P.1 m pc with
    | none => rw [hd] at e; cases e
    | some d =>
      rw [hd] at e; simp only at e ⊢
      cases hr : ret P m d.1 S with
      | some v => rw [hr] at e; exact e
      | none =>
        rw [hr] at e; simp only at e ⊢
        cases hc : cal P m d.1 d.2.2 S k n H with
        | some c =>
          rw [hc] at e; simp only at e ⊢
          cases hx : run P f c.1 0 (ent P c.1 c.2.1) [] 0 0 H with
          | none => rw [hx] at e; cases e
          | some y => rw [hx] at e; simp only at e ⊢; exact run_fg f _ _ _ _ _ _ _ _ _ h e
        | none =>
          rw [hc] at e; simp only at e ⊢
          cases hs : stp P m d.1 d.2.1 d.2.2 pc L S k n H with
          | none => rw [hs] at e; cases e
          | some q =>
            rw [hs] at e; simp only at e
            obtain ⟨M, g1, g2⟩ := stp_le h hs
            rw [g1]; exact run_fg f _ _ _ _ _ _ _ _ _ g2 e
theorem W_fg (h : lel L L') (w : W P m pc L S k n H Q) : W P m pc L' S k n H Q := by
  obtain ⟨f, v, H', e, q⟩ := w
  exact ⟨f, v, H', run_fg f m pc L L' S k n H _ h e, q⟩
end Forget
section ForgetL
variable {P : Prog} {m pc len k n i j : Nat} {aux : Int} {ins : Instr} {L M N : List Slot} {S : List Value} {H : AH} {v : Value} {a : Slot} {Q : Option Value → AH → Prop}
def ff (j : Nat) (M : List Slot) : List Slot := (M.set j .unset).set (j + 1) .unset
def Gl (j : Nat) (M : List Slot) : Prop := (∃ w : Value, M[j]? = some (.val w) ∧ w.category = 2) ∧ M[j + 1]? = some .second ∧ (∀ i o, i + 1 = j → M[i]? = some o → lng o = false) ∧ M[j + 2]? ≠ some .second
def lfr (j : Nat) (L M : List Slot) : Prop := L = M ∨ (L = ff j M ∧ Gl j M)
theorem ff_set (h1 : i ≠ j) (h2 : i ≠ j + 1) : (ff j M).set i a = ff j (M.set i a) := by
  unfold ff; rw [List.set_comm _ _ (Ne.symm h2), List.set_comm _ _ (Ne.symm h1)]
theorem ff_get (h1 : i ≠ j) (h2 : i ≠ j + 1) : (ff j M)[i]? = M[i]? := by
  unfold ff; rw [List.getElem?_set_ne (Ne.symm h2), List.getElem?_set_ne (Ne.symm h1)]
theorem ff_len : (ff j M).length = M.length := by simp [ff]
theorem Gl_set (h : Gl j M) (h1 : i ≠ j) (h2 : i ≠ j + 1) (h3 : i + 1 = j → lng a = false) (h4 : i = j + 2 → a ≠ .second) : Gl j (M.set i a) := by
  obtain ⟨⟨w, g1, g2⟩, g3, g4, g5⟩ := h
  refine ⟨⟨w, ?_, g2⟩, ?_, ?_, ?_⟩
  · rw [List.getElem?_set_ne h1]; exact g1
  · rw [List.getElem?_set_ne h2]; exact g3
  · intro i' o e h
    by_cases c : i = i'
    · subst c
      rw [List.getElem?_set] at h
      simp only [if_true] at h
      split at h
      · cases h; exact h3 e
      · cases h
    · rw [List.getElem?_set_ne c] at h; exact g4 i' o e h
  · by_cases c : i = j + 2
    · rw [List.getElem?_set]; simp only [c, if_true]
      split
      · intro e; cases e; exact h4 c rfl
      · intro e; cases e
    · rw [List.getElem?_set_ne c]; exact g5
theorem Gl_lt (h : Gl j M) : j + 1 < M.length := (List.getElem?_eq_some_iff.mp h.2.1).1
theorem ff_j (h : Gl j M) : (ff j M)[j]? = some .unset ∧ (ff j M)[j + 1]? = some .unset := by
  have := Gl_lt h
  unfold ff; constructor
  · rw [List.getElem?_set_ne (by omega), List.getElem?_set]; simp only [if_true]; rw [if_pos (by omega)]
  · rw [List.getElem?_set]; simp only [if_true, List.length_set]; rw [if_pos (by omega)]
theorem ff_0 {b : Slot} : (ff j M).set j b = (M.set (j + 1) .unset).set j b := by
  unfold ff; rw [List.set_comm _ _ (by omega : j ≠ j + 1), List.set_set]
theorem ff_1 {b : Slot} : (ff j M).set (j + 1) b = (M.set j .unset).set (j + 1) b := by
  unfold ff; rw [List.set_set]
theorem stl_fr (hv : v.category = 1) (h : lfr j L M) (e : stl L i v = some N) : ∃ N', stl M i v = some N' ∧ lfr j N N' := by
  rcases h with rfl | ⟨rfl, h⟩
  · exact ⟨N, e, Or.inl rfl⟩
  have lv : lng (.val v) = false := by simp [lng, hv]
  obtain ⟨⟨w, g1, g2⟩, g3, g4, g5⟩ := id h
  have hl := Gl_lt h
  unfold stl at e ⊢
  by_cases c1 : i = j
  · subst c1
    rw [(ff_j h).1] at e; cases e
    rw [g1]; simp only [g2, hl, if_true]
    exact ⟨_, rfl, Or.inl ff_0⟩
  by_cases c2 : i = j + 1
  · subst c2
    rw [(ff_j h).2] at e; cases e
    rw [g3]; simp only [Nat.le_add_left, if_true]
    exact ⟨_, rfl, Or.inl ff_1⟩
  rw [ff_get c1 c2, ff_len] at e
  revert e; cases hx : M[i]? with
  | none => intro e; cases e
  | some o =>
    intro e
    have s1 : ∀ {M}, Gl j M → Gl j (M.set i (.val v)) := fun h => Gl_set h c1 c2 (fun _ => lv) (fun _ => by intro z; cases z)
    cases o with
    | unset => cases e; exact ⟨_, rfl, Or.inr ⟨ff_set c1 c2, s1 h⟩⟩
    | second =>
      simp only at e ⊢
      by_cases d : 1 ≤ i
      · rw [if_pos d] at e ⊢; cases e
        have c3 : i - 1 ≠ j := by omega
        have c4 : i - 1 ≠ j + 1 := by intro z; exact g5 (by rw [← hx]; congr 1; omega)
        exact ⟨_, rfl, Or.inr ⟨by rw [ff_set c3 c4, ff_set c1 c2], s1 (Gl_set h c3 c4 (fun _ => rfl) (fun _ => by intro z; cases z))⟩⟩
      · rw [if_neg d] at e; cases e
    | val x =>
      simp only at e ⊢
      by_cases d : x.category = 1
      · rw [if_pos d] at e ⊢; cases e; exact ⟨_, rfl, Or.inr ⟨ff_set c1 c2, s1 h⟩⟩
      · rw [if_neg d] at e ⊢
        by_cases d2 : i + 1 < M.length
        · rw [if_pos d2] at e ⊢; cases e
          have d3 : x.category = 2 := by cases x <;> simp [Value.category] at d ⊢
          have c3 : i + 1 ≠ j := by intro z; have := g4 i _ z hx; simp [lng, d3] at this
          exact ⟨_, rfl, Or.inr ⟨by rw [ff_set c3 (by omega), ff_set c1 c2], s1 (Gl_set h c3 (by omega) (fun _ => rfl) (fun _ => by intro z; cases z))⟩⟩
        · rw [if_neg d2] at e; cases e
theorem stL_fr (h : lfr j L M) (e : stL L i v = some N) : ∃ N', stL M i v = some N' ∧ lfr j N N' := by
  rcases h with rfl | ⟨rfl, h⟩
  · exact ⟨N, e, Or.inl rfl⟩
  obtain ⟨⟨w, g1, g2⟩, g3, g4, g5⟩ := id h
  have hl := Gl_lt h
  unfold stL at e ⊢
  by_cases c1 : i = j
  · subst c1
    rw [(ff_j h).1, (ff_j h).2] at e; simp only [cat1, if_true] at e; cases e
    rw [g1, g3]; simp only [g2, if_true]
    exact ⟨_, rfl, Or.inl (by rw [ff_0, List.set_comm _ _ (by omega : i + 1 ≠ i), List.set_set])⟩
  by_cases c2 : i = j + 1
  · subst c2
    rw [(ff_j h).2, ff_get (i := j + 1 + 1) (by omega) (by omega), ff_len, ff_1] at e
    rw [g3]
    revert e; cases hy : M[j + 1 + 1]? with
    | none => intro e; cases e
    | some o2 =>
      intro e; simp only [Nat.le_add_left, if_true, Nat.add_sub_cancel] at e ⊢
      exact ⟨N, e, Or.inl rfl⟩
  by_cases c3 : i + 1 = j
  · subst c3
    rw [ff_get c1 c2, (ff_j h).1] at e
    rw [g1]
    have w1 : ¬ cat1 (.val w) = true := by simp [cat1, g2]
    have w2 : lng (.val w) = true ∧ i + 2 < M.length := ⟨by simp [lng, g2], hl⟩
    have en : ∀ b : Slot, ((ff (i + 1) M).set i b).set (i + 1) .second = ((M.set i b).set (i + 2) .unset).set (i + 1) .second := fun b => by
      rw [ff_set (by omega) (by omega), ff_0]
    revert e; cases hx : M[i]? with
    | none => intro e; cases e
    | some o =>
      intro e
      have lo := g4 i o rfl hx
      cases o with
      | unset => simp only [cat1, if_true] at e; cases e; simp only [if_neg w1, if_pos w2]; exact ⟨_, rfl, Or.inl (en _)⟩
      | val x =>
        have x2 : ¬ x.category = 2 := by simpa [lng] using lo
        simp only [cat1, if_true, if_neg x2] at e; cases e; simp only [if_neg w1, if_pos w2, if_neg x2]; exact ⟨_, rfl, Or.inl (en _)⟩
      | second =>
        simp only [cat1, if_true] at e
        by_cases d : 1 ≤ i
        · simp only [if_pos d, if_neg w1, if_pos w2] at e ⊢; cases e
          exact ⟨_, rfl, Or.inl (by rw [ff_set (by omega) (by omega), ff_set (by omega) (by omega), ff_0])⟩
        · rw [if_neg d] at e; cases e
  rw [ff_get c1 c2, ff_get (i := i + 1) c3 (by omega), ff_len] at e
  revert e; cases hx : M[i]? with
  | none => intro e; cases e
  | some o =>
    cases hy : M[i + 1]? with
    | none => intro e; cases o <;> cases e
    | some o2 =>
      intro e
      have s1 : ∀ {M}, Gl j M → Gl j (M.set i (.val v)) := fun h => Gl_set h c1 c2 (fun z => absurd z c3) (fun _ => by intro z; cases z)
      have s2 : ∀ {M}, Gl j M → Gl j (M.set (i + 1) .second) := fun h => Gl_set h c3 (by omega) (fun _ => rfl) (fun z => absurd z (by omega))
      have f1 : ∀ {M : List Slot}, (ff j M).set i (.val v) = ff j (M.set i (.val v)) := ff_set c1 c2
      have f2 : ∀ {M : List Slot}, (ff j M).set (i + 1) .second = ff j (M.set (i + 1) .second) := ff_set c3 (by omega)
      have t3 : lng o2 = true → i + 2 ≠ j := fun l z => by have := g4 (i + 1) o2 (by omega) hy; rw [l] at this; cases this
      have s3 : lng o2 = true → ∀ {M}, Gl j M → Gl j (M.set (i + 2) .unset) := fun l _ h => Gl_set h (t3 l) (by omega) (fun _ => rfl) (fun _ => by intro z; cases z)
      have f3 : lng o2 = true → ∀ {M : List Slot}, (ff j M).set (i + 2) .unset = ff j (M.set (i + 2) .unset) := fun l _ => ff_set (t3 l) (by omega)
      cases o with
      | unset =>
        simp only at e ⊢
        by_cases c : cat1 o2 = true
        · rw [if_pos c] at e ⊢; cases e; exact ⟨_, rfl, Or.inr ⟨by rw [f1, f2], s2 (s1 h)⟩⟩
        · rw [if_neg c] at e ⊢
          by_cases l : lng o2 = true ∧ i + 2 < M.length
          · rw [if_pos l] at e ⊢; cases e; exact ⟨_, rfl, Or.inr ⟨by rw [f1, f3 l.1, f2], s2 (s3 l.1 (s1 h))⟩⟩
          · rw [if_neg l] at e; cases e
      | val x =>
        simp only at e ⊢
        by_cases d : x.category = 2
        · rw [if_pos d] at e ⊢; cases e; exact ⟨_, rfl, Or.inr ⟨by rw [f1, f2], s2 (s1 h)⟩⟩
        rw [if_neg d] at e ⊢
        by_cases c : cat1 o2 = true
        · rw [if_pos c] at e ⊢; cases e; exact ⟨_, rfl, Or.inr ⟨by rw [f1, f2], s2 (s1 h)⟩⟩
        · rw [if_neg c] at e ⊢
          by_cases l : lng o2 = true ∧ i + 2 < M.length
          · rw [if_pos l] at e ⊢; cases e; exact ⟨_, rfl, Or.inr ⟨by rw [f1, f3 l.1, f2], s2 (s3 l.1 (s1 h))⟩⟩
          · rw [if_neg l] at e; cases e
      | second =>
        simp only at e ⊢
        by_cases d : 1 ≤ i
        · rw [if_pos d] at e ⊢
          have t0 : i - 1 ≠ j := by omega
          have t1 : i - 1 ≠ j + 1 := by intro z; exact g5 (by rw [← hx]; congr 1; omega)
          have f0 : (ff j M).set (i - 1) .unset = ff j (M.set (i - 1) .unset) := ff_set t0 t1
          have s0 : Gl j (M.set (i - 1) .unset) := Gl_set h t0 t1 (fun _ => rfl) (fun _ => by intro z; cases z)
          by_cases c : cat1 o2 = true
          · rw [if_pos c] at e ⊢; cases e; exact ⟨_, rfl, Or.inr ⟨by rw [f0, f1, f2], s2 (s1 s0)⟩⟩
          · rw [if_neg c] at e ⊢
            by_cases l : lng o2 = true ∧ i + 2 < M.length
            · rw [if_pos l] at e ⊢; cases e; exact ⟨_, rfl, Or.inr ⟨by rw [f0, f1, f3 l.1, f2], s2 (s3 l.1 (s1 s0))⟩⟩
            · rw [if_neg l] at e; cases e
        · rw [if_neg d] at e; cases e
theorem get_fr {o : Slot} (h : lfr j L M) (e : L[i]? = some o) (ho : o ≠ .unset) : M[i]? = some o := by
  rcases h with rfl | ⟨rfl, h⟩
  · exact e
  by_cases c1 : i = j
  · subst c1; rw [(ff_j h).1] at e; cases e; exact absurd rfl ho
  by_cases c2 : i = j + 1
  · subst c2; rw [(ff_j h).2] at e; cases e; exact absurd rfl ho
  rw [ff_get c1 c2] at e; exact e
theorem ldI_fr (h : lfr j L M) (e : ldI L i = some v) : ldI M i = some v := by
  unfold ldI at *
  split at e
  · rename_i g; rw [get_fr h g (by intro z; cases z)]; exact e
  · cases e
theorem ldJ_fr (h : lfr j L M) (e : ldJ L i = some v) : ldJ M i = some v := by
  unfold ldJ at *
  split at e
  · rename_i g; rw [get_fr h g (by intro z; cases z)]; exact e
  · cases e
theorem ldR_fr (h : lfr j L M) (e : ldR L i = some v) : ldR M i = some v := by
  unfold ldR at *
  split at e
  · rename_i g; rw [get_fr h g (by intro z; cases z)]; exact e
  · cases e
theorem inc_fr {x : Int32} {b : Value} (hb : b.category = 1) (h : lfr j L M) (e : L[i]? = some (.val (.int x))) : lfr j (L.set i (.val b)) (M.set i (.val b)) := by
  have e' := get_fr h e (by intro z; cases z)
  rcases h with rfl | ⟨rfl, h⟩
  · exact Or.inl rfl
  have c1 : i ≠ j := by intro z; subst z; rw [(ff_j h).1] at e; cases e
  have c2 : i ≠ j + 1 := by intro z; subst z; rw [(ff_j h).2] at e; cases e
  exact Or.inr ⟨ff_set c1 c2, Gl_set h c1 c2 (fun _ => by simp [lng, hb]) (fun _ => by intro z; cases z)⟩
theorem stp_fl {q : Fm} (h : lfr j L M) (e : stp P m ins len aux pc L S k n H = some q) : ∃ M', stp P m ins len aux pc M S k n H = some (q.1, M', q.2.2) ∧ lfr j q.2.1 M' := by
  cases hl : loc ins with
  | false =>
    obtain ⟨h1, h2⟩ := stp_fr (L' := M) hl e
    exact ⟨M, h2, by rw [h1]; exact h⟩
  | true =>
    cases ins <;> first
      | (cases hl; done)
      | (simp only [stp, Option.map_eq_some_iff] at e ⊢; obtain ⟨w, h1, h2⟩ := e; subst h2; first
          | exact ⟨M, ⟨w, ldI_fr h h1, rfl⟩, h⟩
          | exact ⟨M, ⟨w, ldJ_fr h h1, rfl⟩, h⟩
          | exact ⟨M, ⟨w, ldR_fr h h1, rfl⟩, h⟩)
      | (simp only [stp] at e ⊢; split at e
         · simp only [Option.map_eq_some_iff] at e ⊢
           obtain ⟨w, h1, h2⟩ := e; subst h2
           first
            | (obtain ⟨M, g1, g2⟩ := stl_fr rfl h h1; exact ⟨M, ⟨M, g1, rfl⟩, g2⟩)
            | (obtain ⟨M, g1, g2⟩ := stL_fr h h1; exact ⟨M, ⟨M, g1, rfl⟩, g2⟩)
         · cases e)
      | (simp only [stp] at e ⊢; rename_i i c
         revert e; cases hx : L[i]? with
         | none => intro e; cases e
         | some o =>
           intro e
           split at e
           · rename_i x g; cases g
             rw [get_fr h hx (by intro z; cases z)]
             cases e; exact ⟨_, rfl, inc_fr rfl h hx⟩
           · cases e)
theorem run_fl : ∀ (f m pc : Nat) (L L' : List Slot) (S : List Value) (k n : Nat) (H : AH) (r : Option Value × AH), lfr j L L' → run P f m pc L S k n H = some r → run P f m pc L' S k n H = some r
  | 0, _, _, _, _, _, _, _, _, _, _, e => by cases e
  | f + 1, m, pc, L, L', S, k, n, H, r, h, e => by
    unfold run at e ⊢
    cases hd : P.1 m pc with
    | none => rw [hd] at e; cases e
    | some d =>
      rw [hd] at e; simp only at e ⊢
      cases hr : ret P m d.1 S with
      | some v => rw [hr] at e; exact e
      | none =>
        rw [hr] at e; simp only at e ⊢
        cases hc : cal P m d.1 d.2.2 S k n H with
        | some c =>
          rw [hc] at e; simp only at e ⊢
          cases hx : run P f c.1 0 (ent P c.1 c.2.1) [] 0 0 H with
          | none => rw [hx] at e; cases e
          | some y => rw [hx] at e; simp only at e ⊢; exact run_fl f _ _ _ _ _ _ _ _ _ h e
        | none =>
          rw [hc] at e; simp only at e ⊢
          cases hs : stp P m d.1 d.2.1 d.2.2 pc L S k n H with
          | none => rw [hs] at e; cases e
          | some q =>
            rw [hs] at e; simp only at e
            obtain ⟨M, g1, g2⟩ := stp_fl h hs
            rw [g1]; exact run_fl f _ _ _ _ _ _ _ _ _ g2 e
theorem W_fl (j : Nat) (h : Gl j L) (w : W P m pc (ff j L) S k n H Q) : W P m pc L S k n H Q := by
  obtain ⟨f, v, H', e, q⟩ := w
  exact ⟨f, v, H', run_fl f m pc _ L S k n H _ (Or.inr ⟨rfl, h⟩) e, q⟩
def wfb : List Slot → Bool
  | [] => true
  | .second :: _ => false
  | .unset :: L => wfb L
  | .val v :: L => if v.category = 2 then (match L with | .second :: L => wfb L | _ => false) else if v.category = 1 then wfb L else false
theorem lel_app : ∀ (A : List Slot) {C D : List Slot}, lel C D → lel (A ++ C) (A ++ D)
  | [], _, _, h => h
  | a :: A, _, _, h => lel_cons (lel_app A h)
theorem ff_app {A B : List Slot} {x y : Slot} : ff A.length (A ++ x :: y :: B) = A ++ .unset :: .unset :: B := by
  unfold ff
  rw [List.set_append_right _ _ (Nat.le_refl _), List.set_append_right _ _ (by omega)]
  simp
theorem wfb_hd {B : List Slot} (h : wfb B = true) : B[0]? ≠ some .second := by
  cases B with
  | nil => intro e; cases e
  | cons b B => intro e; cases b <;> cases e; cases h
theorem W_fB : ∀ (c : Nat) (A B : List Slot), B.length ≤ c → wfb B = true → (∀ i o, i + 1 = A.length → A[i]? = some o → lng o = false) → W P m pc (A ++ B.map fun _ => .unset) S k n H Q → W P m pc (A ++ B) S k n H Q
  | 0, A, B, hc, hw, ha, w => by
    have : B = [] := List.eq_nil_of_length_eq_zero (by omega)
    subst this; exact w
  | c + 1, A, [], hc, hw, ha, w => w
  | c + 1, A, .second :: B, hc, hw, ha, w => by cases hw
  | c + 1, A, .unset :: B, hc, hw, ha, w => by
    have := W_fB c (A ++ [.unset]) B (by simpa using hc) hw (fun i o e h => by
      rw [List.length_append, List.length_singleton] at e
      have : i = A.length := by omega
      subst this; rw [List.getElem?_concat_length] at h; cases h; rfl) (by simpa using w)
    simpa using this
  | c + 1, A, .val v :: B, hc, hw, ha, w => by
    by_cases d : v.category = 2
    · unfold wfb at hw; rw [if_pos d] at hw
      cases B with
      | nil => cases hw
      | cons b B =>
        cases b with
        | unset => cases hw
        | val u => cases hw
        | second =>
          simp only at hw
          refine W_fl A.length ⟨⟨v, by simp, d⟩, by simp, fun i o e h => ?_, ?_⟩ ?_
          · rw [List.getElem?_append_left (by omega)] at h; exact ha i o e h
          · have := wfb_hd hw
            rw [List.getElem?_append_right (by omega)]; simpa using this
          · rw [ff_app]
            have := W_fB c (A ++ [.unset, .unset]) B (by simp only [List.length_cons] at hc; omega) hw (fun i o e h => by
              rw [List.length_append] at e; simp only [List.length_cons, List.length_nil] at e
              have : i = A.length + 1 := by omega
              subst this; rw [List.getElem?_append_right (by omega)] at h; simp at h; subst h; rfl) (by simpa using w)
            simpa using this
    · have d1 : v.category = 1 := by cases v <;> simp [Value.category] at d ⊢
      unfold wfb at hw; rw [if_neg d, if_pos d1] at hw
      have := W_fB c (A ++ [.val v]) B (by simpa using hc) (by simpa using hw) (fun i o e h => by
        rw [List.length_append, List.length_singleton] at e
        have : i = A.length := by omega
        subst this; rw [List.getElem?_concat_length] at h; cases h; simp [lng, d1]) (by
          rw [List.append_assoc]
          refine W_fg (lel_app A ?_) w
          exact lel_un (by simp [cat1, d1]) lel_refl)
      simpa using this
def okf (c : Nat) (L : List Slot) : Bool := decide (c ≤ L.length) && (wfb (L.drop c) && (match c with | 0 => true | c + 1 => match L[c]? with | some o => !lng o | none => true))
theorem W_fa (c : Nat) (h : okf c L = true) (w : W P m pc (L.take c ++ (L.drop c).map fun _ => .unset) S k n H Q) : W P m pc L S k n H Q := by
  unfold okf at h; rw [Bool.and_eq_true, Bool.and_eq_true, decide_eq_true_eq] at h
  have := W_fB _ (L.take c) (L.drop c) (Nat.le_refl _) h.2.1 (fun i o e h' => by
    rw [List.length_take, Nat.min_eq_left h.1] at e; subst e
    rw [List.getElem?_take_of_lt (by omega)] at h'
    have h2 := h.2.2; simp only [h'] at h2; simpa using h2) w
  rwa [List.take_append_drop] at this
end ForgetL
section Ist
variable {P : Prog} {m pc len k n i : Nat} {aux : Int} {L : List Slot} {S : List Value} {H : AH} {Q : Option Value → AH → Prop} {x : Int32} {l : Int64}
end Ist
section Num2
theorem nn32 {x : Int32} (h : 0 ≤ x.toInt) : x.toInt = (x.toBitVec.toNat : Int) ∧ x.toBitVec.toNat < 2147483648 := by
  have e : x.toInt = x.toBitVec.toInt := rfl
  rw [e, BitVec.toInt_eq_toNat_cond] at h ⊢
  have := x.toBitVec.isLt
  split at h
  · rename_i g; rw [if_pos g]; exact ⟨rfl, by omega⟩
  · omega
theorem of_nn {x : Int32} (h : x.toBitVec.toNat < 2147483648) : x.toInt = (x.toBitVec.toNat : Int) := by
  have e : x.toInt = x.toBitVec.toInt := rfl
  rw [e, BitVec.toInt_eq_toNat_cond, if_pos (by omega)]
theorem and_rg {x m : Int32} (h : 0 ≤ m.toInt) : 0 ≤ (x &&& m).toInt ∧ (x &&& m).toInt ≤ m.toInt := by
  obtain ⟨e, hm⟩ := nn32 h
  have h1 : (x &&& m).toBitVec.toNat ≤ m.toBitVec.toNat := by
    rw [Int32.toBitVec_and, BitVec.toNat_and]; exact Nat.and_le_right
  rw [of_nn (x := x &&& m) (by omega), e]; omega
theorem len32 {n : Nat} (h : n < 2147483648) : (n.toInt32).toInt = n := by
  rw [show n.toInt32 = Int32.ofNat n from rfl, Int32.toInt_ofNat_of_lt (by omega)]
end Num2
end Jvm.JX

namespace Jvm.JX
open Sem ClassFile Op Lib
theorem rem_rg {x m : Int32} (hx : 0 ≤ x.toInt) (hm : 0 < m.toInt) : 0 ≤ (x % m).toInt ∧ (x % m).toInt < m.toInt := by
  rw [Int32.toInt_mod]
  exact ⟨Int.tmod_nonneg _ hx, Int.tmod_lt_of_pos _ hm⟩
def G2 (P : Int64) (j : Int32) : Int64 := Jvm.Free.XT.ushrL P (2 * j) &&& 3
end Jvm.JX

namespace Jvm.JX
open Sem ClassFile Op Lib Jvm.Stand Jvm.Free Jvm.LawKit Jvm.RoadKit
def CRel (C : String) (fn : Nat → String × String) (F : List Nat) (Z : State) (n0 : Nat) (h : Heap) (a : Nat) (c : Cel) : Prop :=
  (c.2.2.1 = true → n0 ≤ a) ∧
  match c.1 with
  | .object _ => Exa Z h a C ∧ ∀ k ∈ F, Fld Z h a C (fn k).1 (fn k).2 (c.2.2.2 k)
  | .array t => c.2.1 < 2 ^ 31 ∧ ∃ cl : Cell, Arr Z h a cl t ∧ cl.slots.size = c.2.1 ∧ ∀ i, i < c.2.1 → cl.slots[i]? = some (c.2.2.2 i)
  | _ => True
def RelH (C : String) (fn : Nat → String × String) (F : List Nat) (Z : State) (n0 : Nat) (h : Heap) (H : AH) : Prop := h.size = H.1 ∧ n0 ≤ H.1 ∧ ∀ a, CRel C fn F Z n0 h a (H.2 a)
def ilen2 : Instr → Nat → Nat
  | .tableswitch _ _ _ _, l => l
  | i, _ => ilen i
def RowOk (P : Prog) (tb : List Jvm.Cond) (C : String) (fn : Nat → String × String) (F : List Nat) (nsl : Nat) (nm : Nat → MethodName) (R : List Nat) (m : Nat) (ins : Instr) (aux : Int) : Prop :=
  match ins with
  | .getfield i => aux.toNat ∈ F ∧ Jvm.Cond.fieldLink (nm m).cls i C (fn aux.toNat).1 (fn aux.toNat).2 ∈ tb
  | .putfield i => aux.toNat ∈ F ∧ Jvm.Cond.fieldLink (nm m).cls i C (fn aux.toNat).1 (fn aux.toNat).2 ∈ tb ∧ (Jvm.Cond.lays C C (fn aux.toNat).1 (fn aux.toNat).2 ∈ tb ∨ (nm m).cls = C ∧ (nm m).name = "<init>")
  | .new i => aux.toNat = nsl ∧ Jvm.Cond.classLink (nm m).cls i C ∈ tb
  | .newarray t => Jvm.Cond.arrayClass (newarray.typeOf t) ∈ tb
  | .ldc i => Jvm.Cond.constant (nm m).cls i (Int32.ofInt aux) ∈ tb
  | .ldc2_w i => Jvm.Cond.constantLong (nm m).cls i (Int64.ofInt aux) ∈ tb
  | .invokevirtual i => aux.toNat ∈ R ∧ Jvm.Cond.methodLink (nm m).cls i (nm aux.toNat) ∈ tb
  | .invokestatic i => aux.toNat ∈ R ∧ Jvm.Cond.methodLink (nm m).cls i (nm aux.toNat) ∈ tb
  | .invokespecial i => (aux = -1 → Jvm.Cond.methodLink (nm m).cls i Lib.objectInit ∈ tb ∧ Jvm.Cond.instanceMethod Lib.objectInit ∈ tb ∧ Jvm.Cond.code Lib.objectInit ⟨#[0xb1]⟩ 1 none ∈ tb) ∧ (0 ≤ aux → aux.toNat ∈ R ∧ Jvm.Cond.methodLink (nm m).cls i (nm aux.toNat) ∈ tb)
  | _ => True
def CalOk (P : Prog) (tb : List Jvm.Cond) (C : String) (nm : Nat → MethodName) (bt : Nat → ByteArray) (m : Nat) : Prop :=
  Jvm.Cond.code (nm m) (bt m) (ml P m) (rt P m) ∈ tb ∧ Jvm.Cond.initialized (nm m).cls ∈ tb ∧ (∃ ps r, parseMethodDescriptor (nm m).desc = some ⟨ps, r⟩ ∧ ps.length + (if kd P m = 0 then 0 else 1) = na P m) ∧
  (kd P m = 0 → Jvm.Cond.static (nm m) ∈ tb) ∧
  (kd P m ≠ 0 → (nm m).cls = C ∧ Jvm.Cond.instanceMethod (nm m) ∈ tb) ∧
  (kd P m = 1 → Jvm.Cond.declares (nm m) ∈ tb ∧ Jvm.Cond.selects C (nm m) (nm m) ∈ tb) ∧
  (kd P m = 2 → Jvm.Cond.privateMethod (nm m) ∈ tb) ∧
  (kd P m = 3 → (nm m).name = "<init>" ∧ rt P m = none)
def Good (P : Prog) (tb : List Jvm.Cond) (C : String) (fn : Nat → String × String) (F : List Nat) (nsl : Nat) (nm : Nat → MethodName) (bt : Nat → ByteArray) (R : List Nat) (top : Nat) : Prop :=
  Jvm.Cond.instantiable C nsl ∈ tb ∧ Jvm.Cond.initialized C ∈ tb ∧
  (∀ k ∈ F, parseFieldDescriptor (fn k).2 = some (P.2.2.1 k) ∧ (Jvm.Cond.lays C C (fn k).1 (fn k).2 ∈ tb ∨ Jvm.Cond.laysFinal C C (fn k).1 (fn k).2 ∈ tb)) ∧
  (∀ j ∈ F, ∀ k ∈ F, (fn j).1 = (fn k).1 → j = k) ∧
  (∀ m ∈ R, plainName (nm m).cls = true ∧ ((nm m).cls ≠ "java/lang/invoke/MethodHandle" ∧ (nm m).cls ≠ "java/lang/invoke/VarHandle") ∧
    ∀ pc ins len aux, P.1 m pc = some (ins, len, aux) → decode (bt m) pc = .ok (ins, len) ∧ len = ilen2 ins len ∧ RowOk P tb C fn F nsl nm R m ins aux) ∧
  (∀ m ∈ R, m ≠ top → CalOk P tb C nm bt m) ∧
  (∀ m ∈ R, ∀ pc ins len aux, P.1 m pc = some (ins, len, aux) → aux = (top : Int) → kindOk ins (kd P top) = false)
section Rel
variable {C : String} {fn : Nat → String × String} {F : List Nat} {Z : State} {n0 : Nat} {h h' : Heap} {H : AH}
theorem RelH.obj (r : RelH C fn F Z n0 h H) {a : Nat} (ha : isO H a = true) : Exa Z h a C ∧ ∀ k ∈ F, Fld Z h a C (fn k).1 (fn k).2 (fld H a k) := by
  have q := (r.2.2 a).2
  unfold isO at ha
  cases hk : (H.2 a).1 <;> rw [hk] at ha <;> first | (cases ha; done) | (simp only [hk] at q; exact q)
theorem RelH.own (r : RelH C fn F Z n0 h H) {a : Nat} (ha : (H.2 a).2.2.1 = true) : n0 ≤ a := (r.2.2 a).1 ha
theorem RelH.arr (r : RelH C fn F Z n0 h H) {a : Nat} {t : FieldType} (ha : (H.2 a).1 = .array t) : (H.2 a).2.1 < 2 ^ 31 ∧ ∃ cl : Cell, Arr Z h a cl t ∧ cl.slots.size = (H.2 a).2.1 ∧ ∀ i, i < (H.2 a).2.1 → cl.slots[i]? = some ((H.2 a).2.2.2 i) := by
  have q := (r.2.2 a).2
  simp only [ha] at q; exact q
theorem RelH.ext (r : RelH C fn F Z n0 h H) (E : Ext h h') {c : Cel} (hs : h'.size = h.size + 1) (hc : CRel C fn F Z n0 h' h.size c) : RelH C fn F Z n0 h' (H.1 + 1, fun b => if b = H.1 then c else H.2 b) := by
  refine ⟨by rw [hs, r.1], Nat.le_succ_of_le r.2.1, fun a => ?_⟩
  by_cases e : a = H.1
  · subst e; simp only [if_true]; rw [← r.1]; exact hc
  · simp only [e, if_false]
    obtain ⟨q1, q2⟩ := r.2.2 a
    refine ⟨q1, ?_⟩
    cases hk : (H.2 a).1 <;> simp only [hk] at q2 ⊢
    · exact ⟨q2.1.ext E, fun k hk => (q2.2 k hk).ext E⟩
    · obtain ⟨q3, cl, q4, q5⟩ := q2; exact ⟨q3, cl, q4.ext E, q5⟩
end Rel
def Go (C : String) (fn : Nat → String × String) (F : List Nat) (Z : State) (n0 : Nat) (p : Program) (l : Launch) (e : Env) (R : Jvm.Room) (s : State) (mid : MethodId) (args : Array Value) (below : List Frame) (meth : Method) (c : Code) (start : State) (nl : Nat) (q : Fm) : Prop :=
  ∃ T' locs', Stand p l e R s mid args below meth c T' locs' q.2.2.2.1 q.2.2.2.2.1 ∧ RelH C fn F Z n0 T'.heap q.2.2.2.2.2 ∧ Fr n0 locs' ∧ q.2.2.2.1 ≤ R.cells ∧ q.2.2.2.2.1 ≤ R.slots ∧ q.2.1.length = nl ∧
    ∀ target, Steps p.tables e below (T'.setTop (mkF mid q.1 q.2.1.toArray q.2.2.1)) target → Steps p.tables e below start target
theorem lrem_mod (x y : Int64) : x - (x / y) * y = x % y := by
  apply Int64.toInt_inj.mp
  have h1 := Int64.le_toInt (x % y)
  have h2 := Int64.toInt_lt (x % y)
  rw [Int64.toInt_sub, Int64.toInt_mul, Int64.toInt_div, Int.bmod_mul_bmod, Int.sub_bmod_bmod, Int.mul_comm (x.toInt.tdiv y.toInt), ← Int.tmod_def, ← Int64.toInt_mod]
  exact Int.bmod_eq_of_le_mul_two (by omega) (by omega)
theorem arr_get {L : List Slot} {i : Nat} {o : Slot} (h : L[i]? = some o) : L.toArray[i]? = some o := by simpa using h
theorem stl_ok {L L' : List Slot} {i : Nat} {v : Value} (hv : v.category = 1) (h : stl L i v = some L') : storeLocals L.toArray i v = some L'.toArray ∧ L'.length = L.length := by
  unfold stl at h
  unfold storeLocals
  cases hi : L[i]? with
  | none => rw [hi] at h; cases h
  | some o =>
    have hlt : i < L.length := (List.getElem?_eq_some_iff.mp hi).1
    rw [hi] at h
    rw [arr_get hi]
    cases o with
    | unset => cases h; simp [storeSelf, setAt, hlt, hv]
    | second =>
      simp only at h
      split at h
      · cases h; simp [storeSelf, setAt, hv, hlt, Nat.lt_of_le_of_lt (Nat.sub_le i 1) hlt]
      · cases h
    | val w =>
      simp only at h
      split at h
      · rename_i hw; cases h; simp [storeSelf, setAt, hv, hlt, hw]
      · rename_i hw
        split at h
        · rename_i h1
          have hw2 : w.category = 2 := by cases w <;> simp [Value.category] at hw ⊢
          cases h; simp [storeSelf, setAt, hv, hlt, hw2, h1]
        · cases h
theorem stL_ok {L L' : List Slot} {i : Nat} {v : Value} (hv : v.category = 2) (h : stL L i v = some L') : storeLocals L.toArray i v = some L'.toArray ∧ L'.length = L.length := by
  unfold stL at h
  unfold storeLocals
  cases hi : L[i]? with
  | none => rw [hi] at h; cases h
  | some o =>
    cases hi2 : L[i + 1]? with
    | none => rw [hi, hi2] at h; cases o <;> cases h
    | some o2 =>
      have hlt : i < L.length := (List.getElem?_eq_some_iff.mp hi).1
      have hlt2 : i + 1 < L.length := (List.getElem?_eq_some_iff.mp hi2).1
      rw [hi, hi2] at h
      rw [arr_get hi]
      have g2 : (L.set i (.val v))[i + 1]? = some o2 := by rw [List.getElem?_set_ne (by omega)]; exact hi2
      have g4 : L[i + 1] = o2 := (List.getElem?_eq_some_iff.mp hi2).2
      cases o with
      | second =>
        simp only at h
        have h0 : i - 1 < L.length := by omega
        split at h
        · rename_i h1
          have g2' : ((L.set (i - 1) .unset).set i (.val v))[i + 1]? = some o2 := by rw [List.getElem?_set_ne (by omega), List.getElem?_set_ne (by omega)]; exact hi2
          have g4' : ((L.set (i - 1) .unset).set i (.val v))[i + 1]'(by simpa using hlt2) = o2 := (List.getElem?_eq_some_iff.mp g2').2
          split at h
          · rename_i hc
            cases h
            cases o2 with
            | second => cases hc
            | unset => simp [storeSelf, setAt, hv, hlt, hlt2, h0, g4']
            | val w => simp only [cat1, beq_iff_eq] at hc; simp [storeSelf, setAt, hv, hlt, hlt2, h0, g4', hc]
          · split at h
            · rename_i hc
              cases h
              obtain ⟨hc, hlt3⟩ := hc
              cases o2 with
              | second => cases hc
              | unset => cases hc
              | val w => simp only [lng, beq_iff_eq] at hc; simp [storeSelf, setAt, hv, hlt, hlt2, hlt3, h0, g4', hc]
            · cases h
        · cases h
      | unset =>
        simp only at h
        split at h
        · rename_i hc
          cases h
          cases o2 with
          | second => cases hc
          | unset => simp [storeSelf, setAt, hv, hlt, hlt2, g2, g4]
          | val w => simp only [cat1, beq_iff_eq] at hc; simp [storeSelf, setAt, hv, hlt, hlt2, g2, g4, hc]
        · split at h
          · rename_i hc
            cases h
            obtain ⟨hc, hlt3⟩ := hc
            cases o2 with
            | second => cases hc
            | unset => cases hc
            | val w => simp only [lng, beq_iff_eq] at hc; simp [storeSelf, setAt, hv, hlt, hlt2, hlt3, g2, g4, hc]
          · cases h
      | val w =>
        simp only at h
        split at h
        · rename_i hw
          cases h
          have g3 : ((L.set (i + 1) .unset).set i (.val v))[i + 1]? = some .unset := by rw [List.getElem?_set_ne (by omega)]; simp [hlt2]
          simp [storeSelf, setAt, hv, hlt, hlt2, hw, g3]
          rw [List.set_comm _ _ (by omega), List.set_set, List.set_comm _ _ (by omega)]
        · rename_i hw
          have hw1 : ¬ w.category = 2 := hw
          split at h
          · rename_i hc
            cases h
            cases o2 with
            | second => cases hc
            | unset => simp [storeSelf, setAt, hv, hlt, hlt2, g2, g4, hw1]
            | val w => simp only [cat1, beq_iff_eq] at hc; simp [storeSelf, setAt, hv, hlt, hlt2, g2, g4, hw1, hc]
          · split at h
            · rename_i hc
              cases h
              obtain ⟨hc, hlt3⟩ := hc
              cases o2 with
              | second => cases hc
              | unset => cases hc
              | val w2 => simp only [lng, beq_iff_eq] at hc; simp [storeSelf, setAt, hv, hlt, hlt2, hlt3, g2, g4, hw1, hc]
            · cases h
theorem jmp_ok {pc q : Nat} {o : Int} (h : jmp pc o = some q) : 0 ≤ (pc : Int) + o ∧ ((pc : Int) + o).toNat = q := by
  unfold jmp at h
  split at h
  · rename_i g; cases h; exact ⟨g, rfl⟩
  · cases h
theorem ldI_ok {L : List Slot} {i : Nat} {v : Value} (h : ldI L i = some v) : ∃ x, v = .int x ∧ L.toArray[i]? = some (.val (.int x)) := by
  unfold ldI at h
  split at h
  · rename_i x e; cases h; exact ⟨x, rfl, arr_get e⟩
  · cases h
theorem ldJ_ok {L : List Slot} {i : Nat} {v : Value} (h : ldJ L i = some v) : ∃ x, v = .long x ∧ L.toArray[i]? = some (.val (.long x)) := by
  unfold ldJ at h
  split at h
  · rename_i x e; cases h; exact ⟨x, rfl, arr_get e⟩
  · cases h
theorem ldR_ok {L : List Slot} {i : Nat} {v : Value} (h : ldR L i = some v) : ∃ x, v = .ref x ∧ L.toArray[i]? = some (.val (.ref x)) := by
  unfold ldR at h
  split at h
  · rename_i x e; cases h; exact ⟨x, rfl, arr_get e⟩
  · cases h
theorem okv_ok {t : FieldType} {v : Value} (h : okv t v = true) : narrow t v = v ∧ fits t v = true := by
  unfold okv at h
  split at h
  · exact ⟨rfl, rfl⟩
  · rename_i z
    simp only [Bool.or_eq_true, beq_iff_eq] at h
    rcases h with rfl | rfl <;> exact ⟨rfl, rfl⟩
  · rename_i z
    simp only [beq_iff_eq] at h
    have q := fits_nar_byte z
    rw [h] at q
    exact ⟨by show Value.int _ = _; rw [h], q⟩
  · exact ⟨rfl, rfl⟩
  · exact ⟨rfl, rfl⟩
  · cases h
end Jvm.JX

namespace Jvm.JX
open Sem ClassFile Op Lib Jvm.Stand Jvm.Free Jvm.LawKit Jvm.RoadKit
section Step
variable {P : Prog} {tb : List Jvm.Cond} {C : String} {fn : Nat → String × String} {F : List Nat} {nsl : Nat} {nm : Nat → MethodName} {bt : Nat → ByteArray} {R : List Nat} {top : Nat}
variable {l : Launch} {Z : State} {a0 : Array Value} {n0 : Nat} {m pc len k n : Nat} {aux : Int} {L : List Slot} {S : List Value} {H : AH} {ins : Instr} {q : Fm}
variable {p : Program} {e : Env} {s : State} {mid : MethodId} {args : Array Value} {below : List Frame} {meth : Method} {c : Code} {T : State} {locs : List Loc} {Rm : Jvm.Room}
theorem go_same {start : State} {nl pc' : Nat} {L' : List Slot} {S' : List Value} (X : Stand p l e Rm s mid args below meth c T locs k n) (r : RelH C fn F Z n0 T.heap H) (N : Fr n0 locs) (hk : k ≤ Rm.cells) (hn : n ≤ Rm.slots) (hL : L'.length = nl)
    (st : ∀ target, Steps p.tables e below (T.setTop (mkF mid pc' L'.toArray S')) target → Steps p.tables e below start target) : Go C fn F Z n0 p l e Rm s mid args below meth c start nl (pc', L', S', k, n, H) := ⟨T, locs, X, r, N, hk, hn, hL, st⟩
theorem go_heap {start : State} {nl pc' : Nat} {L' : List Slot} {S' : List Value} {T' : State} (X : Stand p l e Rm s mid args below meth c T' locs k n) (r : RelH C fn F Z n0 T.heap H) (hh : T'.heap = T.heap) (N : Fr n0 locs) (hk : k ≤ Rm.cells) (hn : n ≤ Rm.slots) (hL : L'.length = nl)
    (st : ∀ target, Steps p.tables e below (T'.setTop (mkF mid pc' L'.toArray S')) target → Steps p.tables e below start target) : Go C fn F Z n0 p l e Rm s mid args below meth c start nl (pc', L', S', k, n, H) := ⟨T', locs, X, by rw [hh]; exact r, N, hk, hn, hL, st⟩
theorem idx_not {i : Int32} {n : Nat} (h1 : ¬ i < 0) (h2 : i.toNatClampNeg < n) : ¬ (i < 0 ∨ n ≤ i.toNatClampNeg) := fun h => h.elim h1 (Nat.not_le.mpr h2)
theorem inA_ok {a : Nat} {t : FieldType} {i : Int32} (h : inA H a t i = true) : (H.2 a).1 = .array t ∧ ¬ i < 0 ∧ i.toNatClampNeg < (H.2 a).2.1 := by
  simpa [inA, and_assoc] using h
theorem inAw_ok {a : Nat} {t : FieldType} {i : Int32} (h : inAw H a t i = true) : inA H a t i = true ∧ (H.2 a).2.2.1 = true := by
  simpa [inAw] using h
theorem isOw_ok {a : Nat} (h : isOw H a = true) : isO H a = true ∧ (H.2 a).2.2.1 = true := by simpa [isOw] using h
theorem RelH.wrF {h h' : Heap} {a j : Nat} {v : Value} (hG : Good P tb C fn F nsl nm bt R top) (hw : ∀ d ∈ tb, d.before a0 Z = true) (r : RelH C fn F Z n0 h H) (ha : isO H a = true) (hj : j ∈ F) (Wt : Wr h h' a (Jvm.RoadKit.slotOf Z C (fn j).1 (fn j).2) v) : RelH C fn F Z n0 h' (wr H a j v) := by
  refine ⟨by rw [Wt.size]; exact r.1, r.2.1, fun b => ?_⟩
  by_cases e : b = a
  · subst e
    obtain ⟨q1, q2⟩ := r.2.2 b
    obtain ⟨E, Fs⟩ := r.obj ha
    simp only [wr, if_true]
    refine ⟨q1, ?_⟩
    unfold isO at ha
    cases hk : (H.2 b).1 <;> rw [hk] at ha <;> try (cases ha; done)
    simp only
    refine ⟨E.wr Wt, fun i hi => ?_⟩
    by_cases e2 : i = j
    · subst e2; simp only [if_true]; exact (Fs i hi).same Wt
    · simp only [e2, if_false]
      refine (Fs i hi).other Wt (Or.inr ?_)
      have lw : ∀ k ∈ F, Laid Z a0 C C (fn k).1 (fn k).2 := fun k hk => ((hG.2.2.1 k hk).2).imp (hw _) (hw _)
      exact slot_ne (lw i hi) (lw j hj) (fun q => e2 (hG.2.2.2.1 i hi j hj q)) (hG.2.2.1 i hi).1 (hG.2.2.1 j hj).1
  · simp only [wr, e, if_false]
    obtain ⟨q1, q2⟩ := r.2.2 b
    refine ⟨q1, ?_⟩
    cases hk : (H.2 b).1 <;> simp only [hk] at q2 ⊢
    · exact ⟨q2.1.wr Wt, fun k hk => (q2.2 k hk).other Wt (Or.inl e)⟩
    · obtain ⟨q3, cl, q4, q5⟩ := q2; exact ⟨q3, cl, q4.other Wt e, q5⟩
theorem RelH.wrA {h h' : Heap} {a j : Nat} {t : FieldType} {v : Value} (r : RelH C fn F Z n0 h H) (ha : (H.2 a).1 = .array t) (hj : j < (H.2 a).2.1) (Wt : Wr h h' a j v) : RelH C fn F Z n0 h' (wr H a j v) := by
  refine ⟨by rw [Wt.size]; exact r.1, r.2.1, fun b => ?_⟩
  by_cases e : b = a
  · subst e
    obtain ⟨q1, q2⟩ := r.2.2 b
    obtain ⟨g1, cl, g2, g3, g4⟩ := r.arr ha
    simp only [wr, if_true]
    refine ⟨q1, ?_⟩
    simp only [ha]
    refine ⟨g1, cl.setSlot j v, g2.same Wt, by rw [sz_set]; exact g3, fun i hi => ?_⟩
    by_cases e2 : i = j
    · subst e2; simp [Cell.setSlot, g3, hj]
    · simp only [e2, if_false]; rw [← g4 i hi]; exact Array.getElem?_setIfInBounds_ne (Ne.symm e2)
  · simp only [wr, e, if_false]
    obtain ⟨q1, q2⟩ := r.2.2 b
    refine ⟨q1, ?_⟩
    cases hk : (H.2 b).1 <;> simp only [hk] at q2 ⊢
    · exact ⟨q2.1.wr Wt, fun k hk => (q2.2 k hk).other Wt (Or.inl e)⟩
    · obtain ⟨q3, cl, q4, q5⟩ := q2; exact ⟨q3, cl, q4.other Wt e, q5⟩
theorem ext_push (h : Heap) (x : Cell) : Ext h (h.push x) := ⟨by simp, fun a c q => by rw [Array.getElem?_push_lt (Array.getElem?_eq_some_iff.mp q).1]; exact (Array.getElem?_eq_getElem _).symm.trans q⟩
theorem made_obj {h : Heap} {cC : ClassId} {kC : Class} (hZ : Z.Warmed39 s.vm) (h1 : s.vm.findClass C = some cC) (h2 : s.vm.classes[cC]? = some kC) :
    Exa Z (h.push { cls := cC, slots := kC.instanceTypes.map defaultValue, vm := .none }) h.size C ∧ ∀ {nm d : String} {ty : FieldType}, Laid Z a0 C C nm d → parseFieldDescriptor d = some ty → Fld Z (h.push { cls := cC, slots := kC.instanceTypes.map defaultValue, vm := .none }) h.size C nm d (defaultValue ty) := by
  rw [hZ.alike.findClass] at h1
  obtain ⟨kZ, z1, -⟩ := Vm.findClass_spec h1
  obtain ⟨k', z2, z3⟩ := hZ.alike.2.2 _ _ z1
  cases h2.symm.trans z2
  have ei : kC.instanceTypes = kZ.instanceTypes := by rw [z3]
  have hN : ∀ x : Cell, (h.push x)[h.size]? = some x := fun x => by simp
  refine ⟨⟨_, kZ, hN _, h1, z1, rfl, fun _ => by simp [ei]⟩, fun {nm d ty} lw ht => ?_⟩
  obtain ⟨c1, k1, cf, kf, i, f, a1, a2, a3, a4, a5, a6, -⟩ := lw.spec
  cases h1.symm.trans a1
  cases z1.symm.trans a2
  exact ⟨_, cf, kf, i, f, hN _, a3, a4, by simp, rfl, a5, by simp [ei, a6, (State.fieldFound?_type a3 ht).2]⟩
theorem made_arr {h : Heap} {t : FieldType} {cA comp : ClassId} {kA : Class} {xs : Array Value} (hZ : Z.Warmed39 s.vm) (h1 : s.vm.findClass ("[" ++ t.toString) = some cA) (h2 : s.vm.classes[cA]? = some kA) (h3 : kA.kind = .array comp t) : Arr Z (h.push { cls := cA, slots := xs, vm := .none }) h.size { cls := cA, slots := xs, vm := .none } t := by
  rw [hZ.alike.findClass] at h1
  obtain ⟨kZ, z1, -⟩ := Vm.findClass_spec h1
  obtain ⟨k', z2, z3⟩ := hZ.alike.2.2 _ _ z1
  cases h2.symm.trans z2
  exact ⟨by simp, ⟨by simp, kZ, z1, comp, by rw [← h3, z3]⟩, by simp⟩
set_option maxHeartbeats 4000000 in
theorem stp_go (hG : Good P tb C fn F nsl nm bt R top) (hw : ∀ d ∈ tb, d.before a0 Z = true) (hm : m ∈ R) (hrow : P.1 m pc = some (ins, len, aux)) (h : stp P m ins len aux pc L S k n H = some q) (X : Stand p l e (rm P m) s mid args below meth c T locs k n) (hx : p.tables.exec = Jvm.exec) (hZ : Z.Warmed39 s.vm)
    (hby : c.code = bt m) (hml : c.maxLocals = ml P m) (hown : s.vm.findClass (nm m).cls = some mid.cls) (hnm : meth.name = (nm m).name) (hL : L.length = ml P m) (r : RelH C fn F Z n0 T.heap H) (N : Fr n0 locs) (hk : k ≤ (rm P m).cells) (hn : n ≤ (rm P m).slots) :
    Go C fn F Z n0 p l e (rm P m) s mid args below meth c (T.setTop (mkF mid pc L.toArray S)) (ml P m) q := by
  obtain ⟨hd, hl, ho⟩ := (hG.2.2.2.2.1 m hm).2.2 pc ins len aux hrow
  replace hd := hb hby hd
  cases ins with
  | iconst i =>
    have hl : len = 1 := hl; subst hl
    obtain rfl := Option.some.inj h
    exact go_same X r N hk hn hL fun t g => XS.iconst X.here hx rfl hd g
  | bipush i =>
    have hl : len = 2 := hl; subst hl
    obtain rfl := Option.some.inj h
    exact go_same X r N hk hn hL fun t g => XS.bipush X.here hx rfl hd g
  | sipush i =>
    have hl : len = 3 := hl; subst hl
    obtain rfl := Option.some.inj h
    exact go_same X r N hk hn hL fun t g => XS.sipush X.here hx rfl hd g
  | lconst i =>
    have hl : len = 1 := hl; subst hl
    obtain rfl := Option.some.inj h
    exact go_same X r N hk hn hL fun t g => XT.lconst X.here hx rfl hd g
  | ldc i =>
    have hl : len = 2 := hl; subst hl
    obtain rfl := Option.some.inj h
    exact go_same X r N hk hn hL fun t g => X.ldcI hx hown (mv hZ (hw _ ho)) rfl hd g
  | ldc2_w i =>
    have hl : len = 3 := hl; subst hl
    obtain rfl := Option.some.inj h
    exact go_same X r N hk hn hL fun t g => X.ldc2J hx hown (mv hZ (hw _ ho)) rfl hd g
  | iload i =>
    have hl : len = 2 := hl; subst hl
    obtain ⟨v, hv, rfl⟩ := Option.map_eq_some_iff.mp h
    obtain ⟨x, rfl, hg⟩ := ldI_ok hv
    exact go_same X r N hk hn hL fun t g => XS.iload X.here hx rfl hd hg g
  | iload_n i =>
    have hl : len = 1 := hl; subst hl
    obtain ⟨v, hv, rfl⟩ := Option.map_eq_some_iff.mp h
    obtain ⟨x, rfl, hg⟩ := ldI_ok hv
    exact go_same X r N hk hn hL fun t g => XS.iloadN X.here hx rfl hd hg g
  | lload i =>
    have hl : len = 2 := hl; subst hl
    obtain ⟨v, hv, rfl⟩ := Option.map_eq_some_iff.mp h
    obtain ⟨x, rfl, hg⟩ := ldJ_ok hv
    exact go_same X r N hk hn hL fun t g => XT.lload X.here hx rfl hd hg g
  | lload_n i =>
    have hl : len = 1 := hl; subst hl
    obtain ⟨v, hv, rfl⟩ := Option.map_eq_some_iff.mp h
    obtain ⟨x, rfl, hg⟩ := ldJ_ok hv
    exact go_same X r N hk hn hL fun t g => XT.lloadN X.here hx rfl hd hg g
  | aload i =>
    have hl : len = 2 := hl; subst hl
    obtain ⟨v, hv, rfl⟩ := Option.map_eq_some_iff.mp h
    obtain ⟨x, rfl, hg⟩ := ldR_ok hv
    exact go_same X r N hk hn hL fun t g => XS.aload X.here hx rfl hd hg rfl g
  | aload_n i =>
    have hl : len = 1 := hl; subst hl
    obtain ⟨v, hv, rfl⟩ := Option.map_eq_some_iff.mp h
    obtain ⟨x, rfl, hg⟩ := ldR_ok hv
    exact go_same X r N hk hn hL fun t g => XS.aloadN X.here hx rfl hd hg rfl g
  | istore i =>
    have hl : len = 2 := hl; subst hl
    dsimp only [stp] at h
    split at h
    · rename_i x S'
      obtain ⟨L', hv, rfl⟩ := Option.map_eq_some_iff.mp h
      obtain ⟨g1, g2⟩ := stl_ok rfl hv
      exact go_same X r N hk hn (g2.trans hL) fun t g => XS.istore X.here hx rfl hd rfl g1 g
    · cases h
  | istore_n i =>
    have hl : len = 1 := hl; subst hl
    dsimp only [stp] at h
    split at h
    · rename_i x S'
      obtain ⟨L', hv, rfl⟩ := Option.map_eq_some_iff.mp h
      obtain ⟨g1, g2⟩ := stl_ok rfl hv
      exact go_same X r N hk hn (g2.trans hL) fun t g => XS.istoreN X.here hx rfl hd rfl g1 g
    · cases h
  | astore i =>
    have hl : len = 2 := hl; subst hl
    dsimp only [stp] at h
    split at h
    · rename_i x S'
      obtain ⟨L', hv, rfl⟩ := Option.map_eq_some_iff.mp h
      obtain ⟨g1, g2⟩ := stl_ok rfl hv
      exact go_same X r N hk hn (g2.trans hL) fun t g => XS.astore X.here hx rfl hd rfl rfl g1 g
    · cases h
  | astore_n i =>
    have hl : len = 1 := hl; subst hl
    dsimp only [stp] at h
    split at h
    · rename_i x S'
      obtain ⟨L', hv, rfl⟩ := Option.map_eq_some_iff.mp h
      obtain ⟨g1, g2⟩ := stl_ok rfl hv
      exact go_same X r N hk hn (g2.trans hL) fun t g => XS.astoreN X.here hx rfl hd rfl rfl g1 g
    · cases h
  | lstore i =>
    have hl : len = 2 := hl; subst hl
    dsimp only [stp] at h
    split at h
    · rename_i x S'
      obtain ⟨L', hv, rfl⟩ := Option.map_eq_some_iff.mp h
      obtain ⟨g1, g2⟩ := stL_ok rfl hv
      exact go_same X r N hk hn (g2.trans hL) fun t g => XT.lstore X.here hx rfl hd rfl g1 g
    · cases h
  | lstore_n i =>
    have hl : len = 1 := hl; subst hl
    dsimp only [stp] at h
    split at h
    · rename_i x S'
      obtain ⟨L', hv, rfl⟩ := Option.map_eq_some_iff.mp h
      obtain ⟨g1, g2⟩ := stL_ok rfl hv
      exact go_same X r N hk hn (g2.trans hL) fun t g => XT.lstoreN X.here hx rfl hd rfl g1 g
    · cases h
  | iinc i cst =>
    have hl : len = 3 := hl; subst hl
    dsimp only [stp] at h
    split at h
    · rename_i x hx1
      obtain rfl := Option.some.inj h
      have g1 : storeLocals L.toArray i (.int (x + Int32.ofInt cst)) = some (L.set i (.val (.int (x + Int32.ofInt cst)))).toArray := (stl_ok rfl (stl_plain hx1 rfl)).1
      exact go_same X r N hk hn (by simpa using hL) fun t g => XS.iinc X.here hx rfl hd (arr_get hx1) g1 g
    · cases h
  | iadd =>
    have hl : len = 1 := hl; subst hl
    dsimp only [stp] at h
    split at h
    · rename_i y x S'
      obtain rfl := Option.some.inj h
      exact go_same X r N hk hn hL fun t g => XS.iadd X.here hx rfl hd rfl g
    · cases h
  | isub =>
    have hl : len = 1 := hl; subst hl
    dsimp only [stp] at h
    split at h
    · rename_i y x S'
      obtain rfl := Option.some.inj h
      exact go_same X r N hk hn hL fun t g => XS.isub X.here hx rfl hd rfl g
    · cases h
  | imul =>
    have hl : len = 1 := hl; subst hl
    dsimp only [stp] at h
    split at h
    · rename_i y x S'
      obtain rfl := Option.some.inj h
      exact go_same X r N hk hn hL fun t g => XS.imul X.here hx rfl hd rfl g
    · cases h
  | iand =>
    have hl : len = 1 := hl; subst hl
    dsimp only [stp] at h
    split at h
    · rename_i y x S'
      obtain rfl := Option.some.inj h
      exact go_same X r N hk hn hL fun t g => XS.iand X.here hx rfl hd rfl g
    · cases h
  | ior =>
    have hl : len = 1 := hl; subst hl
    dsimp only [stp] at h
    split at h
    · rename_i y x S'
      obtain rfl := Option.some.inj h
      exact go_same X r N hk hn hL fun t g => XT.ior X.here hx rfl hd rfl g
    · cases h
  | ixor =>
    have hl : len = 1 := hl; subst hl
    dsimp only [stp] at h
    split at h
    · rename_i y x S'
      obtain rfl := Option.some.inj h
      exact go_same X r N hk hn hL fun t g => XT.ixor X.here hx rfl hd rfl g
    · cases h
  | ishl =>
    have hl : len = 1 := hl; subst hl
    dsimp only [stp] at h
    split at h
    · rename_i y x S'
      obtain rfl := Option.some.inj h
      exact go_same X r N hk hn hL fun t g => XT.ishl X.here hx rfl hd rfl g
    · cases h
  | ishr =>
    have hl : len = 1 := hl; subst hl
    dsimp only [stp] at h
    split at h
    · rename_i y x S'
      obtain rfl := Option.some.inj h
      exact go_same X r N hk hn hL fun t g => XT.ishr X.here hx rfl hd rfl g
    · cases h
  | iushr =>
    have hl : len = 1 := hl; subst hl
    dsimp only [stp] at h
    split at h
    · rename_i y x S'
      obtain rfl := Option.some.inj h
      exact go_same X r N hk hn hL fun t g => XT.iushr X.here hx rfl hd rfl g
    · cases h
  | ladd =>
    have hl : len = 1 := hl; subst hl
    dsimp only [stp] at h
    split at h
    · rename_i y x S'
      obtain rfl := Option.some.inj h
      exact go_same X r N hk hn hL fun t g => XT.ladd X.here hx rfl hd rfl g
    · cases h
  | lsub =>
    have hl : len = 1 := hl; subst hl
    dsimp only [stp] at h
    split at h
    · rename_i y x S'
      obtain rfl := Option.some.inj h
      exact go_same X r N hk hn hL fun t g => XT.lsub X.here hx rfl hd rfl g
    · cases h
  | lmul =>
    have hl : len = 1 := hl; subst hl
    dsimp only [stp] at h
    split at h
    · rename_i y x S'
      obtain rfl := Option.some.inj h
      exact go_same X r N hk hn hL fun t g => XT.lmul X.here hx rfl hd rfl g
    · cases h
  | land =>
    have hl : len = 1 := hl; subst hl
    dsimp only [stp] at h
    split at h
    · rename_i y x S'
      obtain rfl := Option.some.inj h
      exact go_same X r N hk hn hL fun t g => XT.land X.here hx rfl hd rfl g
    · cases h
  | lor =>
    have hl : len = 1 := hl; subst hl
    dsimp only [stp] at h
    split at h
    · rename_i y x S'
      obtain rfl := Option.some.inj h
      exact go_same X r N hk hn hL fun t g => XT.lor X.here hx rfl hd rfl g
    · cases h
  | lxor =>
    have hl : len = 1 := hl; subst hl
    dsimp only [stp] at h
    split at h
    · rename_i y x S'
      obtain rfl := Option.some.inj h
      exact go_same X r N hk hn hL fun t g => XT.lxor X.here hx rfl hd rfl g
    · cases h
  | lshl =>
    have hl : len = 1 := hl; subst hl
    dsimp only [stp] at h
    split at h
    · rename_i y x S'
      obtain rfl := Option.some.inj h
      exact go_same X r N hk hn hL fun t g => XT.lshl X.here hx rfl hd rfl g
    · cases h
  | lshr =>
    have hl : len = 1 := hl; subst hl
    dsimp only [stp] at h
    split at h
    · rename_i y x S'
      obtain rfl := Option.some.inj h
      exact go_same X r N hk hn hL fun t g => XT.lshr X.here hx rfl hd rfl g
    · cases h
  | lushr =>
    have hl : len = 1 := hl; subst hl
    dsimp only [stp] at h
    split at h
    · rename_i y x S'
      obtain rfl := Option.some.inj h
      exact go_same X r N hk hn hL fun t g => XT.lushr X.here hx rfl hd rfl g
    · cases h
  | idiv =>
    have hl : len = 1 := hl; subst hl
    dsimp only [stp] at h
    split at h
    · rename_i y x S'
      split at h
      · cases h
      · rename_i g0
        obtain rfl := Option.some.inj h
        exact go_same X r N hk hn hL fun t g => XS.idiv X.here hx rfl hd rfl g0 g
    · cases h
  | irem =>
    have hl : len = 1 := hl; subst hl
    dsimp only [stp] at h
    split at h
    · rename_i y x S'
      split at h
      · cases h
      · rename_i g0
        obtain rfl := Option.some.inj h
        exact go_same X r N hk hn hL fun t g => iremM X hx rfl hd rfl g0 g
    · cases h
  | ldiv =>
    have hl : len = 1 := hl; subst hl
    dsimp only [stp] at h
    split at h
    · rename_i y x S'
      split at h
      · cases h
      · rename_i g0
        obtain rfl := Option.some.inj h
        exact go_same X r N hk hn hL fun t g => XT.ldiv X.here hx rfl hd rfl g0 g
    · cases h
  | lrem =>
    have hl : len = 1 := hl; subst hl
    dsimp only [stp] at h
    split at h
    · rename_i y x S'
      split at h
      · cases h
      · rename_i g0
        obtain rfl := Option.some.inj h
        exact go_same X r N hk hn hL fun t g => XT.lrem X.here hx rfl hd rfl g0 (by rw [lrem_mod]; exact g)
    · cases h
  | ineg =>
    have hl : len = 1 := hl; subst hl
    dsimp only [stp] at h
    split at h
    · rename_i x S'
      obtain rfl := Option.some.inj h
      exact go_same X r N hk hn hL fun t g => XS.ineg X.here hx rfl hd rfl g
    · cases h
  | lneg =>
    have hl : len = 1 := hl; subst hl
    dsimp only [stp] at h
    split at h
    · rename_i x S'
      obtain rfl := Option.some.inj h
      exact go_same X r N hk hn hL fun t g => XT.lneg X.here hx rfl hd rfl g
    · cases h
  | i2l =>
    have hl : len = 1 := hl; subst hl
    dsimp only [stp] at h
    split at h
    · rename_i x S'
      obtain rfl := Option.some.inj h
      exact go_same X r N hk hn hL fun t g => XT.i2l X.here hx rfl hd rfl g
    · cases h
  | l2i =>
    have hl : len = 1 := hl; subst hl
    dsimp only [stp] at h
    split at h
    · rename_i x S'
      obtain rfl := Option.some.inj h
      exact go_same X r N hk hn hL fun t g => XT.l2i X.here hx rfl hd rfl g
    · cases h
  | i2b =>
    have hl : len = 1 := hl; subst hl
    dsimp only [stp] at h
    split at h
    · rename_i x S'
      obtain rfl := Option.some.inj h
      exact go_same X r N hk hn hL fun t g => XT.i2b X.here hx rfl hd rfl g
    · cases h
  | lcmp =>
    have hl : len = 1 := hl; subst hl
    dsimp only [stp] at h
    split at h
    · rename_i y x S'
      obtain rfl := Option.some.inj h
      exact go_same X r N hk hn hL fun t g => XT.lcmp X.here hx rfl hd rfl g
    · cases h
  | dup =>
    have hl : len = 1 := hl; subst hl
    dsimp only [stp] at h
    split at h
    · rename_i v S'
      split at h
      · rename_i g0
        obtain rfl := Option.some.inj h
        exact go_same X r N hk hn hL fun t g => XS.dup X.here hx rfl hd rfl g0 g
      · cases h
    · cases h
  | pop =>
    have hl : len = 1 := hl; subst hl
    dsimp only [stp] at h
    split at h
    · rename_i v S'
      split at h
      · rename_i g0
        obtain rfl := Option.some.inj h
        exact go_same X r N hk hn hL fun t g => XT.pop X.here hx rfl hd rfl g0 g
      · cases h
    · cases h
  | dup2 =>
    have hl : len = 1 := hl; subst hl
    dsimp only [stp] at h
    split at h
    · rename_i x S'
      obtain rfl := Option.some.inj h
      exact go_same X r N hk hn hL fun t g => XT.dup2L X.here hx rfl hd rfl g
    · rename_i v w S' _
      split at h
      · rename_i g0
        obtain rfl := Option.some.inj h
        exact go_same X r N hk hn hL fun t g => XT.dup2 X.here hx rfl hd rfl g0.1 g0.2 g
      · cases h
    · cases h
  | goto o =>
    have hl : len = 3 := hl; subst hl
    obtain ⟨v, hv, rfl⟩ := Option.map_eq_some_iff.mp h
    obtain ⟨g1, g2⟩ := jmp_ok hv
    exact go_same X r N hk hn hL fun t g => XS.goto X.here hx rfl rfl hd g1 g2 g
  | ifCond cd o =>
    have hl : len = 3 := hl; subst hl
    dsimp only [stp] at h
    split at h
    · rename_i x S'
      split at h
      · rename_i g0
        obtain ⟨v, hv, rfl⟩ := Option.map_eq_some_iff.mp h
        obtain ⟨g1, g2⟩ := jmp_ok hv
        exact go_same X r N hk hn hL fun t g => XS.ifYes X.here hx rfl rfl hd rfl g0 g1 g2 g
      · rename_i g0
        obtain rfl := Option.some.inj h
        exact go_same X r N hk hn hL fun t g => XS.ifNo X.here hx rfl hd rfl (by simpa using g0) g
    · cases h
  | if_icmp cd o =>
    have hl : len = 3 := hl; subst hl
    dsimp only [stp] at h
    split at h
    · rename_i y x S'
      split at h
      · rename_i g0
        obtain ⟨v, hv, rfl⟩ := Option.map_eq_some_iff.mp h
        obtain ⟨g1, g2⟩ := jmp_ok hv
        exact go_same X r N hk hn hL fun t g => XS.icmpYes X.here hx rfl rfl hd rfl g0 g1 g2 g
      · rename_i g0
        obtain rfl := Option.some.inj h
        exact go_same X r N hk hn hL fun t g => XS.icmpNo X.here hx rfl hd rfl (by simpa using g0) g
    · cases h
  | tableswitch d lo hi os =>
    dsimp only [stp] at h
    split at h
    · rename_i x S'
      split at h
      · rename_i g0
        obtain ⟨v, hv, rfl⟩ := Option.map_eq_some_iff.mp h
        obtain ⟨g1, g2⟩ := jmp_ok hv
        exact go_same X r N hk hn hL fun t g => XS.tswOut X.here hx rfl rfl hd rfl g0 g1 g2 g
      · rename_i g0
        obtain ⟨o, ho1, h⟩ := Option.bind_eq_some_iff.mp h
        obtain ⟨v, hv, rfl⟩ := Option.map_eq_some_iff.mp h
        obtain ⟨g1, g2⟩ := jmp_ok hv
        exact go_same X r N hk hn hL fun t g => XS.tswIn X.here hx rfl rfl hd rfl g0 ho1 g1 g2 g
    · cases h
  | getfield i =>
    have hl : len = 3 := hl; subst hl
    dsimp only [stp] at h
    split at h
    · rename_i a S'
      split at h
      · rename_i g0
        obtain rfl := Option.some.inj h
        obtain ⟨T1, X1, e1, st1⟩ := getF X hx hZ hown (host := "") (Or.inl (hw _ ho.2)) Via.refl rfl ((r.obj g0).2 _ ho.1) (g := mkF mid pc L.toArray (.ref a :: S')) rfl rfl hd
        exact go_heap X1 r e1 N hk hn hL fun t g => st1 t g
      · cases h
    · cases h
  | putfield i =>
    have hl : len = 3 := hl; subst hl
    dsimp only [stp] at h
    split at h
    · rename_i v a S'
      split at h
      · rename_i g0
        obtain rfl := Option.some.inj h
        obtain ⟨o1, o2, o3⟩ := ho
        obtain ⟨w1, w2⟩ := isOw_ok g0.1
        obtain ⟨n1, n2⟩ := okv_ok g0.2
        have hlay : (Jvm.Cond.lays C C (fn aux.toNat).1 (fn aux.toNat).2).before a0 Z = true ∨ ((Jvm.Cond.laysFinal C C (fn aux.toNat).1 (fn aux.toNat).2).before a0 Z = true ∧ (nm m).cls = C ∧ meth.name = "<init>") := by
          rcases o3 with q | ⟨q1, q2⟩
          · exact Or.inl (hw _ q)
          · rcases (hG.2.2.1 _ o1).2 with q | q
            · exact Or.inl (hw _ q)
            · exact Or.inr ⟨hw _ q, q1, hnm.trans q2⟩
        obtain ⟨T1, h1, X1, e1, W1, st1⟩ := putF X hx hZ hown (host := "") (Or.inl (hw _ o2)) Via.refl rfl ((r.obj w1).2 _ o1) (r.obj w1).1 hlay (hw _ hG.1) (hG.2.2.1 _ o1).1 n1 n2 (g := mkF mid pc L.toArray (v :: .ref a :: S')) rfl rfl hd
        exact ⟨T1, _, X1, by rw [e1]; exact r.wrF hG hw w1 o1 W1, Fr.snoc X1 N (r.own w2), hk, hn, hL, st1⟩
      · cases h
    · cases h
  | iaload =>
    have hl : len = 1 := hl; subst hl
    dsimp only [stp] at h
    split at h
    · rename_i i a S'
      split at h
      · rename_i g0
        obtain rfl := Option.some.inj h
        obtain ⟨w1, w2, w3⟩ := inA_ok g0
        obtain ⟨b1, cl, b2, b3, b4⟩ := r.arr w1
        exact go_same X r N hk hn hL fun t g => X.iaload hx (g := mkF mid pc L.toArray (.int i :: .ref a :: S')) b2.1 (State.isArrayOf_alike hZ.alike b2.2.1) b2.2.2 (by rw [b3]; exact idx_not w2 w3) (b4 _ w3) rfl rfl hd t g
      · cases h
    · cases h
  | laload =>
    have hl : len = 1 := hl; subst hl
    dsimp only [stp] at h
    split at h
    · rename_i i a S'
      split at h
      · rename_i g0
        obtain rfl := Option.some.inj h
        obtain ⟨w1, w2, w3⟩ := inA_ok g0
        obtain ⟨b1, cl, b2, b3, b4⟩ := r.arr w1
        exact go_same X r N hk hn hL fun t g => X.laload hx (g := mkF mid pc L.toArray (.int i :: .ref a :: S')) b2.1 (State.isArrayOf_alike hZ.alike b2.2.1) b2.2.2 (by rw [b3]; exact idx_not w2 w3) (b4 _ w3) rfl rfl hd t g
      · cases h
    · cases h
  | baload =>
    have hl : len = 1 := hl; subst hl
    dsimp only [stp] at h
    split at h
    · rename_i i a S'
      split at h
      · rename_i g0
        obtain rfl := Option.some.inj h
        rcases g0 with g0 | g0
        · obtain ⟨w1, w2, w3⟩ := inA_ok g0
          obtain ⟨b1, cl, b2, b3, b4⟩ := r.arr w1
          exact go_same X r N hk hn hL fun t g => X.baloadBytes hx (g := mkF mid pc L.toArray (.int i :: .ref a :: S')) b2.1 (State.isArrayOf_alike hZ.alike b2.2.1) b2.2.2 (by rw [b3]; exact idx_not w2 w3) (b4 _ w3) rfl rfl hd t g
        · obtain ⟨w1, w2, w3⟩ := inA_ok g0
          obtain ⟨b1, cl, b2, b3, b4⟩ := r.arr w1
          exact go_same X r N hk hn hL fun t g => X.baloadBooleans hx (g := mkF mid pc L.toArray (.int i :: .ref a :: S')) b2.1 (State.isArrayOf_alike hZ.alike b2.2.1) b2.2.2 (by rw [b3]; exact idx_not w2 w3) (b4 _ w3) rfl rfl hd t g
      · cases h
    · cases h
  | iastore =>
    have hl : len = 1 := hl; subst hl
    dsimp only [stp] at h
    split at h
    · rename_i x i a S'
      split at h
      · rename_i g0
        obtain rfl := Option.some.inj h
        obtain ⟨g1, g2⟩ := inAw_ok g0
        obtain ⟨w1, w2, w3⟩ := inA_ok g1
        obtain ⟨b1, cl, b2, b3, b4⟩ := r.arr w1
        obtain ⟨T1, h1, X1, e1, W1, st1⟩ := stI X hx hZ rfl b2 (j := i) (x := x) (by rw [b3]; exact idx_not w2 w3) (g := mkF mid pc L.toArray (.int x :: .int i :: .ref a :: S')) rfl rfl hd
        exact ⟨T1, _, X1, by rw [e1]; exact r.wrA w1 w3 W1, Fr.snoc X1 N (r.own g2), hk, hn, hL, st1⟩
      · cases h
    · cases h
  | lastore =>
    have hl : len = 1 := hl; subst hl
    dsimp only [stp] at h
    split at h
    · rename_i x i a S'
      split at h
      · rename_i g0
        obtain rfl := Option.some.inj h
        obtain ⟨g1, g2⟩ := inAw_ok g0
        obtain ⟨w1, w2, w3⟩ := inA_ok g1
        obtain ⟨b1, cl, b2, b3, b4⟩ := r.arr w1
        obtain ⟨T1, h1, X1, e1, W1, st1⟩ := stJ X hx hZ rfl b2 (j := i) (x := x) (by rw [b3]; exact idx_not w2 w3) (g := mkF mid pc L.toArray (.long x :: .int i :: .ref a :: S')) rfl rfl hd
        exact ⟨T1, _, X1, by rw [e1]; exact r.wrA w1 w3 W1, Fr.snoc X1 N (r.own g2), hk, hn, hL, st1⟩
      · cases h
    · cases h
  | bastore =>
    have hl : len = 1 := hl; subst hl
    dsimp only [stp] at h
    split at h
    · rename_i x i a S'
      split at h
      · rename_i g0
        obtain rfl := Option.some.inj h
        rcases g0 with ⟨g0, gx⟩ | ⟨g0, gx⟩
        · obtain ⟨g1, g2⟩ := inAw_ok g0
          obtain ⟨w1, w2, w3⟩ := inA_ok g1
          obtain ⟨b1, cl, b2, b3, b4⟩ := r.arr w1
          have hx2 : nar .byte x = x := Value.int.inj (okv_ok gx).1
          obtain ⟨T1, h1, X1, e1, W1, st1⟩ := stB X hx hZ rfl b2 (j := i) (x := x) (by rw [b3]; exact idx_not w2 w3) (g := mkF mid pc L.toArray (.int x :: .int i :: .ref a :: S')) rfl rfl hd
          rw [hx2] at W1
          exact ⟨T1, _, X1, by rw [e1]; exact r.wrA w1 w3 W1, Fr.snoc X1 N (r.own g2), hk, hn, hL, st1⟩
        · obtain ⟨g1, g2⟩ := inAw_ok g0
          obtain ⟨w1, w2, w3⟩ := inA_ok g1
          obtain ⟨b1, cl, b2, b3, b4⟩ := r.arr w1
          have hx2 : nar .boolean x = x := Value.int.inj (okv_ok gx).1
          obtain ⟨T1, h1, X1, e1, W1, st1⟩ := stZ X hx hZ rfl b2 (j := i) (x := x) (by rw [b3]; exact idx_not w2 w3) (g := mkF mid pc L.toArray (.int x :: .int i :: .ref a :: S')) rfl rfl hd
          rw [hx2] at W1
          exact ⟨T1, _, X1, by rw [e1]; exact r.wrA w1 w3 W1, Fr.snoc X1 N (r.own g2), hk, hn, hL, st1⟩
      · cases h
    · cases h
  | arraylength =>
    have hl : len = 1 := hl; subst hl
    dsimp only [stp] at h
    split at h
    · rename_i a S'
      split at h
      · rename_i g0
        obtain rfl := Option.some.inj h
        obtain ⟨t0, w1⟩ : ∃ t0, (H.2 a).1 = .array t0 := by unfold isA at g0; cases hq : (H.2 a).1 <;> rw [hq] at g0 <;> first | (cases g0; done) | exact ⟨_, rfl⟩
        obtain ⟨b1, cl, b2, b3, b4⟩ := r.arr w1
        refine go_same X r N hk hn hL fun t g => X.arraylength hx (g := mkF mid pc L.toArray (.ref a :: S')) b2.1 (State.isArrayOf_alike hZ.alike b2.2.1) rfl rfl hd t ?_
        rw [b3]; exact g
      · cases h
    · cases h
  | newarray t =>
    have hl : len = 2 := hl; subst hl
    dsimp only [stp] at h
    split at h
    · rename_i cnt S'
      split at h
      · rename_i g0
        obtain rfl := Option.some.inj h
        obtain ⟨z1, z2, z3, z4⟩ := g0
        have hcb : componentBytes (newarray.typeOf t) ≤ 8 := by cases t <;> decide
        obtain ⟨cA, kA, comp, h1, h2, h3, X1, st1⟩ := X.newarrayPrim hx (mvA hZ (hw _ ho)) (g := mkF mid pc L.toArray (.int cnt :: S')) rfl hd rfl z1 (Nat.le_trans (Nat.mul_le_mul_left _ hcb) z2) z3 z4
        refine ⟨_, locs, X1, ?_, N, z3, z4, hL, fun t g => st1 t (by rw [r.1]; exact g)⟩
        exact r.ext (ext_push _ _) (by show (T.heap.push _).size = _; simp) ⟨fun _ => by rw [r.1]; exact r.2.1, (back32 z1).2, _, made_arr hZ h1 h2 h3, by simp, fun i hi => by simp [hi]⟩
      · cases h
    · cases h
  | new i =>
    have hl : len = 3 := hl; subst hl
    dsimp only [stp] at h
    split at h
    · rename_i g0
      obtain rfl := Option.some.inj h
      obtain ⟨z1, z2, z3⟩ := g0
      rw [ho.1] at z3 ⊢
      obtain ⟨vm1, cC, kC, h1, h2, h3, h4, X1, st1⟩ := X.newCold hx hown (mv hZ (hw _ ho.2)) (mv hZ (hw _ hG.1)) (mv hZ (hw _ hG.2.1)) (g := mkF mid pc L.toArray S) rfl hd z2 z3
      obtain ⟨A1, D1⟩ := made_obj (h := T.heap) (a0 := a0) hZ h1 h2
      refine ⟨_, locs, X1, ?_, N, z2, z3, hL, fun t g => st1 t (by rw [r.1]; exact g)⟩
      exact r.ext (ext_push _ _) (by show (T.heap.push _).size = _; simp) ⟨fun _ => by rw [r.1]; exact r.2.1, A1, fun j hj => D1 (((hG.2.2.1 j hj).2).imp (hw _) (hw _)) (hG.2.2.1 j hj).1⟩
    · cases h
  | invokespecial i =>
    have hl : len = 3 := hl; subst hl
    dsimp only [stp] at h
    split at h
    · rename_i a S'
      split at h
      · rename_i g0
        obtain rfl := Option.some.inj h
        obtain ⟨rfl, z2, z3⟩ := g0
        obtain ⟨o1, o2, o3⟩ := ho.1 rfl
        obtain ⟨T1, X1, e1, st1⟩ := initO X hx hZ hown (hw _ o1) (hw _ o2) (hw _ o3) rfl (g := mkF mid pc L.toArray (.ref a :: S')) rfl (by rw [hml, ← hL]; simp) rfl hd z2 (W := cs S') (by show 2 * 0 + _ ≤ _; exact Nat.le_of_eq (Nat.zero_add _)) z3
        exact go_heap X1 r e1 N hk hn hL fun t g => st1 t g
      · cases h
    · cases h
  | _ => exact absurd (show (none : Option Fm) = some q from h) (by simp)
end Step
end Jvm.JX

namespace Jvm.JX
open Sem ClassFile Op Lib Jvm.Stand Jvm.Free Jvm.LawKit Jvm.RoadKit
section Sound
variable {P : Prog} {tb : List Jvm.Cond} {C : String} {fn : Nat → String × String} {F : List Nat} {nsl : Nat} {nm : Nat → MethodName} {bt : Nat → ByteArray} {R : List Nat} {top : Nat}
variable {l : Launch} {Z : State} {a0 : Array Value} {n0 : Nat}
def Endd (C : String) (fn : Nat → String × String) (F : List Nat) (Z : State) (n0 : Nat) (p : Program) (l : Launch) (e : Env) (Rm : Jvm.Room) (s : State) (mid : MethodId) (args : Array Value) (below : List Frame) (meth : Method) (c : Code) (rt0 : Option FieldType) (start : State) (v : Option Value) (H' : AH) : Prop :=
  ∃ T' locs' k' n', Stand p l e Rm s mid args below meth c T' locs' k' n' ∧ RelH C fn F Z n0 T'.heap H' ∧ Fr n0 locs' ∧ k' ≤ Rm.cells ∧ n' ≤ Rm.slots ∧ (rt0 = none → v = none) ∧
    ∀ fs, (∀ (f : JFrame) (acts : List Action), f.method = mid → f.locked = none → f.entered = [] → (doReturn e (T'.setTop f) acts v).1 = T'.setFrames fs) → Steps p.tables e below start (T'.setFrames fs)
def Says (P : Prog) (C : String) (fn : Nat → String × String) (F : List Nat) (nm : Nat → MethodName) (bt : Nat → ByteArray) (l : Launch) (Z : State) (n0 m pc : Nat) (L : List Slot) (S : List Value) (k n : Nat) (H : AH) (v : Option Value) (H' : AH) : Prop :=
  ∀ (p : Program) (e : Env) (s : State) (mid : MethodId) (args : Array Value) (below : List Frame) (meth : Method) (c : Code) (T : State) (locs : List Loc), Stand p l e (rm P m) s mid args below meth c T locs k n → p.tables.exec = Jvm.exec → Z.Warmed39 s.vm → c.code = bt m → c.maxLocals = ml P m →
    s.vm.findClass (nm m).cls = some mid.cls → meth.name = (nm m).name → meth.sig.returnType = rt P m → L.length = ml P m → RelH C fn F Z n0 T.heap H → Fr n0 locs → k ≤ (rm P m).cells → n ≤ (rm P m).slots →
    Endd C fn F Z n0 p l e (rm P m) s mid args below meth c (rt P m) (T.setTop (mkF mid pc L.toArray S)) v H'
theorem Endd.back {p : Program} {e : Env} {Rm : Jvm.Room} {s : State} {mid : MethodId} {args : Array Value} {below : List Frame} {meth : Method} {c : Code} {rt0 : Option FieldType} {start start' : State} {v : Option Value} {H' : AH}
    (h : Endd C fn F Z n0 p l e Rm s mid args below meth c rt0 start' v H') (st : ∀ t, Steps p.tables e below start' t → Steps p.tables e below start t) : Endd C fn F Z n0 p l e Rm s mid args below meth c rt0 start v H' := by
  obtain ⟨T', locs', k', n', h1, h2, h3, h4, h5, h6, h7⟩ := h
  exact ⟨T', locs', k', n', h1, h2, h3, h4, h5, h6, fun fs g => st _ (h7 fs g)⟩
theorem met_of {m : Nat} {as : List Value} {H H' : AH} {v : Option Value} {h : Heap} (ws : List Jvm.Cond) (hp : plainName (nm m).cls = true) (hl : (Sym.laidSlots as).length ≤ ml P m) (r : RelH C fn F Z n0 h H)
    (hS : Says P C fn F nm bt l Z n0 m 0 (ent P m as) [] 0 0 H v H') :
    MetFree l (nm m) (head1 (Jvm.Cond.code (nm m) (bt m) (ml P m) (rt P m) :: ws) (rm P m)) (fun a U => a = as.toArray ∧ Z.Warmed39 U.vm ∧ U.heap = h) (fun _ _ _ _ _ => True)
      (fun _ U o U' => ∃ v' L, o = .returned v' ∧ (v' = v ∧ Fr n0 L ∧ RelH C fn F Z n0 U'.heap H') ∧ FrameEnd U o U' L (rm P m).cells (rm P m).slots) := by
  refine MetFree.of_bodySF (plainFor_of_name hp) hisR ?_
  intro p e s mid args below meth c s₁ Bd hml0 hP hK
  obtain ⟨rfl, hZ, hh⟩ := hP
  have X0 : Stand p l e (rm P m) s mid as.toArray below meth c s₁ [] 0 0 := Stand.of_body Bd
  have e0 : s₁.heap = h := by rw [← hh, Bd.state]; rfl
  have hle : (ent P m as).length = ml P m := by simp [ent]; omega
  obtain ⟨T', locs', k', n', X1, r1, N1, hk1, hn1, hv1, st1⟩ := hS p e s mid as.toArray below meth c s₁ [] X0 Bd.exec hZ Bd.bytes hml0 (findClass_of_methodNamed Bd.named) (name_of_methodNamed Bd.named Bd.method).1 Bd.returns hle (by rw [e0]; exact r) (Fr.nil n0) (Nat.zero_le _) (Nat.zero_le _)
  obtain ⟨fs, hr, hrun, hended, hW, hsame⟩ := X1.leave (v := v) (fun q => hv1 (Bd.returns.symm.trans q))
  refine ⟨_, _, (Jvm.Free.XT.entry (Ls := (ent P m as).toArray) (by simp [ent])).trans (st1 fs hr), hrun, hended, v, locs', rfl, ⟨rfl, N1, r1⟩, ⟨_, rfl⟩, hW, hsame.mono hk1 hn1⟩
theorem ret_ok {m : Nat} {ins : Instr} {S : List Value} {v : Option Value} (h : ret P m ins S = some v) : (rt P m = none ∧ v = none ∧ ins = .return_ ∧ S = []) ∨ ∃ t w rest, rt P m = some t ∧ v = some w ∧ S = w :: rest ∧ narrow t w = w ∧
    ((ins = .ireturn ∧ (t = .int ∨ t = .boolean ∨ t = .byte ∨ t = .char ∨ t = .short) ∧ ∃ z, w = .int z) ∨ (ins = .lreturn ∧ t = .long ∧ ∃ z, w = .long z)) := by
  unfold ret at h
  split at h
  · split at h
    · rename_i g; cases h; exact Or.inl ⟨g.1, rfl, rfl, g.2⟩
    · cases h
  · split at h
    · rename_i z rest g; cases h; exact Or.inr ⟨.int, _, rest, g, rfl, rfl, rfl, Or.inl ⟨rfl, Or.inl rfl, z, rfl⟩⟩
    · rename_i z rest g
      split at h
      · rename_i g0
        cases h
        refine Or.inr ⟨.boolean, _, rest, g, rfl, rfl, ?_, Or.inl ⟨rfl, Or.inr (Or.inl rfl), z, rfl⟩⟩
        rcases g0 with rfl | rfl <;> rfl
      · cases h
    · cases h
  · split at h
    · rename_i z rest g; cases h; exact Or.inr ⟨.long, _, rest, g, rfl, rfl, rfl, Or.inr ⟨rfl, rfl, z, rfl⟩⟩
    · cases h
  · cases h
theorem cal_ok {m m' k n : Nat} {ins : Instr} {aux : Int} {S a r : List Value} {H : AH} (h : cal P m ins aux S k n H = some (m', a, r)) : aux = (m' : Int) ∧ kindOk ins (kd P m') = true ∧ may P m m' a r k n H = true ∧ S = a.reverse ++ r := by
  have h1 : cal1 P m ins aux S k n H = some (m', a, r) := by
    unfold cal at h
    split at h <;> first | exact h | (cases h)
  unfold cal1 at h1
  split at h1
  · rename_i g
    cases h1
    exact ⟨by omega, g.2.1, g.2.2, by rw [List.reverse_reverse]; exact (List.take_append_drop ..).symm⟩
  · cases h1
end Sound
end Jvm.JX

namespace Jvm.JX
open Sem ClassFile Op Lib Jvm.Stand Jvm.Free Jvm.LawKit Jvm.RoadKit
section Sound
variable {P : Prog} {tb : List Jvm.Cond} {C : String} {fn : Nat → String × String} {F : List Nat} {nsl : Nat} {nm : Nat → MethodName} {bt : Nat → ByteArray} {R : List Nat} {top : Nat}
variable {l : Launch} {Z : State} {a0 : Array Value} {n0 : Nat}
theorem may_ok {m m' k n : Nat} {a r : List Value} {H : AH} (h : may P m m' a r k n H = true) : (Sym.laidSlots a).length ≤ ml P m' ∧ a.length = na P m' ∧ (rm P m').frames + 1 ≤ (rm P m).frames ∧ cs r + (ml P m' + 11) + (rm P m').locals ≤ (rm P m).locals ∧
    (((rm P m').cells = 0 ∧ (rm P m').slots = 0) ∨ (k + (rm P m').cells ≤ (rm P m).cells ∧ n + (rm P m').slots ≤ (rm P m).slots)) ∧ (kd P m' = 0 ∨ rcv H a = true) := by
  simpa [may, and_assoc] using h
theorem rcv_ok {H : AH} {a : List Value} (h : rcv H a = true) : ∃ b as, a = .ref b :: as ∧ isO H b = true := by
  unfold rcv at h
  split at h
  · exact ⟨_, _, rfl, h⟩
  · cases h
set_option maxHeartbeats 1000000 in
theorem call_go {m pc len k n m' : Nat} {aux : Int} {L : List Slot} {S a r : List Value} {H H1 : AH} {ins : Instr} {v1 : Option Value} {p : Program} {e : Env} {s : State} {mid : MethodId} {args : Array Value} {below : List Frame} {meth : Method} {c : Code} {T : State} {locs : List Loc}
    (hG : Good P tb C fn F nsl nm bt R top) (hw : ∀ d ∈ tb, d.before a0 Z = true) (hm : m ∈ R) (hrow : P.1 m pc = some (ins, len, aux)) (hc : cal P m ins aux S k n H = some (m', a, r)) (hS : m' ∈ R → Says P C fn F nm bt l Z n0 m' 0 (ent P m' a) [] 0 0 H v1 H1)
    (X : Stand p l e (rm P m) s mid args below meth c T locs k n) (hx : p.tables.exec = Jvm.exec) (hZ : Z.Warmed39 s.vm)
    (hby : c.code = bt m) (hml : c.maxLocals = ml P m) (hown : s.vm.findClass (nm m).cls = some mid.cls) (hL : L.length = ml P m) (rr : RelH C fn F Z n0 T.heap H) (N : Fr n0 locs) (hk : k ≤ (rm P m).cells) (hn : n ≤ (rm P m).slots) :
    Go C fn F Z n0 p l e (rm P m) s mid args below meth c (T.setTop (mkF mid pc L.toArray S)) (ml P m) (pc + len, L, v1.toList ++ r, k + (rm P m').cells, n + (rm P m').slots, H1) := by
  obtain ⟨hd, hl, ho⟩ := (hG.2.2.2.2.1 m hm).2.2 pc ins len aux hrow
  replace hd := hb hby hd
  obtain ⟨e1, e2, e3, e4⟩ := cal_ok hc
  obtain ⟨y1, y2, y3, y4, y5, y6⟩ := may_ok e3
  have hnt : m' ≠ top := fun q => by
    have := hG.2.2.2.2.2.2 m hm pc ins len aux hrow (by rw [e1, q])
    rw [q, this] at e2; cases e2
  have y5' : k + (rm P m').cells ≤ (rm P m).cells ∧ n + (rm P m').slots ≤ (rm P m).slots := by rcases y5 with ⟨q1, q2⟩ | q <;> omega
  have hsize : (mkF mid pc L.toArray S).locals.size = c.maxLocals := by rw [hml, ← hL]; simp
  have hcs : 2 * (mkF mid pc L.toArray S).monitorRoom + (r.map fun v => v.category).sum ≤ cs r := by show 2 * 0 + _ ≤ _; exact Nat.le_of_eq (Nat.zero_add _)
  subst e1
  cases ins with
  | invokevirtual ix =>
    have hl : len = 3 := hl
    subst hl
    obtain ⟨mR, lnk⟩ := ho
    rw [Int.toNat_natCast] at mR lnk
    obtain ⟨c1, c2, ⟨ps, rr0, c3, c4⟩, c5, c6, c7, c8, c9⟩ := hG.2.2.2.2.2.1 m' mR hnt
    have hk0 : kd P m' ≠ 0 := fun q => by rw [q] at e2; cases e2
    obtain ⟨hcls, hinst⟩ := c6 hk0
    obtain ⟨b, as, rfl, hb⟩ := rcv_ok (y6.resolve_left hk0)
    obtain ⟨Eb, -⟩ := rr.obj hb
    have hlen : as.length = ps.length := by rw [if_neg hk0] at c4; simp only [List.length_cons] at y2; omega
    have eS : S = as.reverse ++ .ref b :: r := by rw [e4]; simp
    subst eS
    obtain ⟨pn, hy, -⟩ := hG.2.2.2.2.1 m' mR
    have BK := backOf (Q := fun v' h' L' => v' = v1 ∧ Fr n0 L' ∧ RelH C fn F Z n0 h' H1) (R := rm P m) (W := cs r) (p := p) (e := e) (below := below) (s := s) (args := args) (len := 3) (met_of [] pn y1 rr (hS mR)) hZ (hw _ c1) (hw _ c2) y3 y4
    have hkk : kd P m' = 1 ∨ kd P m' = 2 := by simpa [kindOk] using e2
    rcases hkk with hkk | hkk
    · obtain ⟨d1, d2⟩ := c7 hkk
      obtain ⟨cB, kB, q1, q2, q3⟩ := isOf (T := T) hZ rfl Eb
      obtain ⟨v, vm1, ⟨T1, L1, k1, n1⟩, -, X1, ⟨Lc, hQ, l1, z1, z2⟩, st⟩ := X.virtualBack hx (y := nm m') (z := nm m') hown (mvT hZ (hw _ lnk)) (mvT hZ (hw _ d1)) (notFace_of_selects (args := #[]) (mvT hZ (hw _ d2))) (mvT hZ (hw _ d2)) (mvT hZ (hw _ hinst)) hy BK q1 q3 (g := mkF mid pc L.toArray (as.reverse ++ .ref b :: r)) rfl hsize (Steps.refl _) (argsL := as) (rest := r) (lenOf c3 hlen) rfl hcs hd (fun _ _ => ⟨rfl, rfl, y5'.1, y5'.2⟩)
      dsimp only [Pt.U, Pt.locs, Pt.cells, Pt.slots] at X1 l1 z1 z2 st hQ
      subst l1 z1 z2
      obtain ⟨rfl, N1, r1⟩ := hQ
      exact ⟨T1, _, X1, r1, Fr.app N N1, y5'.1, y5'.2, hL, fun t g => st.trans g⟩
    · obtain ⟨ci, ki, i1, i2, i3, i4, -⟩ := Cond.instantiable_spec (show (Jvm.Cond.instantiable C nsl).before args s = true from mv hZ (hw _ hG.1))
      have hni : ki.isInterface = false := (Bool.or_eq_false_iff.mp i4).1
      have hpriv := Cond.privateMethod_at (mvP hZ (hw _ (c8 hkk)) (args := #[]))
      have hsel : (Jvm.Cond.selects (nm m').cls (nm m') (nm m')).before args s = true := selects_self_of_private (by rw [hcls]; exact i1) i2 hni hpriv (mvT hZ (hw _ hinst)) hy
      obtain ⟨cl, hcl, hcl'⟩ := Eb.cell
      obtain ⟨v, vm1, ⟨T1, L1, k1, n1⟩, -, X1, ⟨Lc, hQ, l1, z1, z2⟩, st⟩ := X.privateBack hx (y := nm m') hown (mvT hZ (hw _ lnk)) (mvT hZ (hw _ hinst)) hsel hpriv (mvT hZ (hw _ c1)) hy BK (g := mkF mid pc L.toArray (as.reverse ++ .ref b :: r)) rfl hsize (Steps.refl _) (a := b) hcl hcl' (argsL := as) (rest := r) (lenOf c3 hlen) rfl hcs hd (fun _ _ => ⟨rfl, rfl, y5'.1, y5'.2⟩)
      dsimp only [Pt.U, Pt.locs, Pt.cells, Pt.slots] at X1 l1 z1 z2 st hQ
      subst l1 z1 z2
      obtain ⟨rfl, N1, r1⟩ := hQ
      exact ⟨T1, _, X1, r1, Fr.app N N1, y5'.1, y5'.2, hL, fun t g => st.trans g⟩
  | invokestatic ix =>
    have hl : len = 3 := hl
    subst hl
    obtain ⟨mR, lnk⟩ := ho
    rw [Int.toNat_natCast] at mR lnk
    obtain ⟨c1, c2, ⟨ps, rr0, c3, c4⟩, c5, c6, c7, c8, c9⟩ := hG.2.2.2.2.2.1 m' mR hnt
    have hk0 : kd P m' = 0 := by simpa [kindOk] using e2
    have hlen : a.length = ps.length := by rw [if_pos hk0] at c4; omega
    subst e4
    obtain ⟨pn, hy, -⟩ := hG.2.2.2.2.1 m' mR
    have BK := backOf (Q := fun v' h' L' => v' = v1 ∧ Fr n0 L' ∧ RelH C fn F Z n0 h' H1) (R := rm P m) (W := cs r) (p := p) (e := e) (below := below) (s := s) (args := args) (len := 3) (met_of [] pn y1 rr (hS mR)) hZ (hw _ c1) (hw _ c2) y3 y4
    obtain ⟨v, vm1, ⟨T1, L1, k1, n1⟩, -, X1, ⟨Lc, hQ, l1, z1, z2⟩, st⟩ := Jvm.LawKit.callS X hx (y := nm m') hown (mvT hZ (hw _ lnk)) (mvT hZ (hw _ (c5 hk0))) (mvT hZ (hw _ c2)) (mvT hZ (hw _ c1)) hy BK (g := mkF mid pc L.toArray (a.reverse ++ r)) rfl hsize (argsL := a) (rest := r) (lenOf c3 hlen) rfl hcs hd (fun _ _ => ⟨rfl, rfl, y5'.1, y5'.2⟩)
    dsimp only [Pt.U, Pt.locs, Pt.cells, Pt.slots] at X1 l1 z1 z2 st hQ
    subst l1 z1 z2
    obtain ⟨rfl, N1, r1⟩ := hQ
    exact ⟨T1, _, X1, r1, Fr.app N N1, y5'.1, y5'.2, hL, fun t g => st t g⟩
  | invokespecial ix =>
    have hl : len = 3 := hl
    subst hl
    obtain ⟨mR, lnk⟩ := ho.2 (by omega)
    rw [Int.toNat_natCast] at mR lnk
    obtain ⟨c1, c2, ⟨ps, rr0, c3, c4⟩, c5, c6, c7, c8, c9⟩ := hG.2.2.2.2.2.1 m' mR hnt
    have hk3 : kd P m' = 3 := by simpa [kindOk] using e2
    have hk0 : kd P m' ≠ 0 := by omega
    obtain ⟨hcls, hinst⟩ := c6 hk0
    obtain ⟨hn3, hr3⟩ := c9 hk3
    obtain ⟨b, as, rfl, hb⟩ := rcv_ok (y6.resolve_left hk0)
    have hlen : as.length = ps.length := by rw [if_neg hk0] at c4; simp only [List.length_cons] at y2; omega
    have eS : S = as.reverse ++ .ref b :: r := by rw [e4]; simp
    subst eS
    obtain ⟨pn, hy, -⟩ := hG.2.2.2.2.1 m' mR
    have BK := backOf (Q := fun v' h' L' => v' = v1 ∧ Fr n0 L' ∧ RelH C fn F Z n0 h' H1) (R := rm P m) (W := cs r) (p := p) (e := e) (below := below) (s := s) (args := args) (len := 3) (met_of [] pn y1 rr (hS mR)) hZ (hw _ c1) (hw _ c2) y3 y4
    rw [hr3] at c1
    obtain ⟨v, vm1, ⟨T1, L1, k1, n1⟩, -, X1, ⟨Lc, hQ, l1, z1, z2⟩, st⟩ := X.specialBack hx (y := nm m') hn3 hown (mvT hZ (hw _ lnk)) (mvT hZ (hw _ hinst)) (mvT hZ (hw _ c1)) hy BK (g := mkF mid pc L.toArray (as.reverse ++ .ref b :: r)) rfl hsize (Steps.refl _) (a := b) (argsL := as) (rest := r) (lenOf c3 hlen) rfl hcs hd (fun _ _ => ⟨rfl, rfl, y5'.1, y5'.2⟩)
    dsimp only [Pt.U, Pt.locs, Pt.cells, Pt.slots] at X1 l1 z1 z2 st hQ
    subst l1 z1 z2
    obtain ⟨rfl, N1, r1⟩ := hQ
    exact ⟨T1, _, X1, r1, Fr.app N N1, y5'.1, y5'.2, hL, fun t g => st.trans g⟩
  | _ => cases e2
theorem sound (hG : Good P tb C fn F nsl nm bt R top) (hw : ∀ d ∈ tb, d.before a0 Z = true) : ∀ (f m : Nat), m ∈ R → ∀ (pc : Nat) (L : List Slot) (S : List Value) (k n : Nat) (H : AH) (v : Option Value) (H' : AH), run P f m pc L S k n H = some (v, H') → Says P C fn F nm bt l Z n0 m pc L S k n H v H' := by
  intro f
  induction f with
  | zero => intro m _ pc L S k n H v H' h; cases h
  | succ f ih =>
    intro m hm pc L S k n H v H' h p e s mid args below meth c T locs X hx hZ hby hml hown hnm hret hL r N hk hn
    rw [run_succ] at h
    cases hd : P.1 m pc with
    | none => rw [hd] at h; cases h
    | some d =>
      obtain ⟨ins, len, aux⟩ := d
      rw [hd] at h
      simp only at h
      cases hr : ret P m ins S with
      | some v1 =>
        rw [hr] at h
        cases h
        obtain ⟨hdec, hl, -⟩ := (hG.2.2.2.2.1 m hm).2.2 pc ins len aux hd
        replace hdec := hb hby hdec
        rcases ret_ok hr with ⟨q1, rfl, rfl, q0⟩ | ⟨t, w, rest, q1, rfl, rfl, q4, q5⟩
        · have hl : len = 1 := hl
          subst hl
          exact ⟨T, locs, k, n, X, r, N, hk, hn, fun _ => rfl, fun fs g => by subst q0; exact X.returnOut hx (hret.trans q1) hdec g⟩
        · refine ⟨T, locs, k, n, X, r, N, hk, hn, fun q => absurd (q1.symm.trans q) (by simp), fun fs g => ?_⟩
          have hl1 : len = 1 := by
            rcases q5 with ⟨rfl, -⟩ | ⟨rfl, -⟩ <;> exact hl
          subst hl1
          exact retOut X hx (hret.trans q1) q4 (q5.elim (fun u => Or.inl u) (fun u => Or.inr (Or.inl u))) hdec g
      | none =>
        rw [hr] at h
        simp only at h
        cases hc : cal P m ins aux S k n H with
        | some cc =>
          obtain ⟨m', a, rs⟩ := cc
          rw [hc] at h
          simp only at h
          cases hq : run P f m' 0 (ent P m' a) [] 0 0 H with
          | none => rw [hq] at h; cases h
          | some q =>
            obtain ⟨v1, H1⟩ := q
            rw [hq] at h
            obtain ⟨T1, locs1, X1, r1, N1, hk1, hn1, hL1, st⟩ := call_go hG hw hm hd hc (fun mR => ih m' mR _ _ _ _ _ _ _ _ hq) X hx hZ hby hml hown hL r N hk hn
            exact (ih m hm _ _ _ _ _ _ _ _ h p e s mid args below meth c T1 locs1 X1 hx hZ hby hml hown hnm hret hL1 r1 N1 hk1 hn1).back st
        | none =>
          rw [hc] at h
          simp only at h
          cases hs : stp P m ins len aux pc L S k n H with
          | none => rw [hs] at h; cases h
          | some q =>
            rw [hs] at h
            obtain ⟨T1, locs1, X1, r1, N1, hk1, hn1, hL1, st⟩ := stp_go hG hw hm hd hs X hx hZ hby hml hown hnm hL r N hk hn
            exact (ih m hm _ _ _ _ _ _ _ _ h p e s mid args below meth c T1 locs1 X1 hx hZ hby hml hown hnm hret hL1 r1 N1 hk1 hn1).back st
theorem law_met (hG : Good P tb C fn F nsl nm bt R top) (hw : ∀ d ∈ tb, d.before a0 Z = true) {as : List Value} {H : AH} {h : Heap} {Q : Option Value → AH → Prop} (ws : List Jvm.Cond) (ht : top ∈ R) (hl : (Sym.laidSlots as).length ≤ ml P top) (r : RelH C fn F Z n0 h H) (hC : Cl P top as H Q) :
    MetFree l (nm top) (head1 (Jvm.Cond.code (nm top) (bt top) (ml P top) (rt P top) :: ws) (rm P top)) (fun a U => a = as.toArray ∧ Z.Warmed39 U.vm ∧ U.heap = h) (fun _ _ _ _ _ => True)
      (fun _ U o U' => ∃ v' L, o = .returned v' ∧ (Fr n0 L ∧ ∃ H', Q v' H') ∧ FrameEnd U o U' L (rm P top).cells (rm P top).slots) := by
  obtain ⟨f, v, H', h1, h2⟩ := hC
  have hM := met_of (l := l) (h := h) ws (hG.2.2.2.2.1 top ht).1 hl r (sound hG hw f top ht _ _ _ _ _ _ _ _ h1)
  intro p e ha hc hk s m args below hf happ hP hK
  obtain ⟨n, o, q1, q2, q3, v', L, q4, ⟨q5, q6, q7⟩, q8⟩ := hM p e ha hc hk s m args below hf happ hP hK
  exact ⟨n, o, q1, q2, q3, v', L, q4, ⟨q6, H', by rw [q5]; exact h2⟩, q8⟩
end Sound
end Jvm.JX
namespace Jvm.JX
open Sem ClassFile Op Lib Jvm.Stand Jvm.Free Jvm.LawKit Jvm.RoadKit
theorem fa0 {α : Type} {p : α → Prop} : ∀ x ∈ ([] : List α), p x := fun _ q => nomatch q
theorem faS {α : Type} {p : α → Prop} {y : α} {L : List α} (q : p y) (r : ∀ x ∈ L, p x) : ∀ x ∈ y :: L, p x := fun x z => (List.mem_cons.mp z).elim (fun u => u ▸ q) (r x)
def rowChk (FL ML : List (Nat × Nat × Nat)) (KI KJ : List (Nat × Nat × Int)) (AT : List FieldType) (WF : List Nat) (nsl nw : Nat) (own : Nat) (ini : Bool) (ins : Instr) (aux : Int) : Bool :=
  match ins with
  | .getfield i => FL.contains (own, i, aux.toNat)
  | .putfield i => FL.contains (own, i, aux.toNat) && (WF.contains aux.toNat || ini)
  | .new i => decide (aux.toNat = nsl) && decide (own = 1) && decide (i = nw)
  | .newarray t => decide (newarray.typeOf t ∈ AT)
  | .ldc i => KI.contains (own, i, aux)
  | .ldc2_w i => KJ.contains (own, i, aux)
  | .invokevirtual i => ML.contains (own, i, aux.toNat)
  | .invokestatic i => ML.contains (own, i, aux.toNat)
  | .invokespecial i => if aux = -1 then decide (own = 0) && decide (i = 1) else ML.contains (own, i, aux.toNat)
  | _ => true
def rowOne (FL ML : List (Nat × Nat × Nat)) (KI KJ : List (Nat × Nat × Int)) (AT : List FieldType) (WF : List Nat) (nsl nw : Nat) (bt : Nat → ByteArray) (own : Nat → Nat) (ini : Nat → Bool) (m : Nat) (r : Row) : Bool :=
  decide (decode (bt m) r.1 = .ok (r.2.1, r.2.2.1)) && decide (r.2.2.1 = ilen2 r.2.1 r.2.2.1) && rowChk FL ML KI KJ AT WF nsl nw (own m) (ini m) r.2.1 r.2.2.2
theorem all_td {α : Type} {p : α → Bool} {l : List α} (c : Nat) (h1 : (l.take c).all p = true) (h2 : (l.drop c).all p = true) : l.all p = true := by
  rw [← List.take_append_drop c l, List.all_append, h1, h2]; rfl
theorem all_c {α : Type} {p : α → Bool} {l : List α} {a : α} (h1 : p a = true) (h2 : l.all p = true) : (a :: l).all p = true := by
  rw [List.all_cons, h1, h2]; rfl
theorem all_n {α : Type} {p : α → Bool} : ([] : List α).all p = true := rfl
theorem lookup_mem {L : List Row} {pc : Nat} {d : Instr × Nat × Int} (h : L.lookup pc = some d) : (pc, d) ∈ L := by
  induction L with
  | nil => cases h
  | cons x L ih =>
    obtain ⟨k, v⟩ := x
    rw [List.lookup_cons] at h
    by_cases e : pc = k
    · subst e; simp at h; subst h; exact List.mem_cons_self ..
    · have : (pc == k) = false := by simpa using e
      rw [this] at h; exact List.mem_cons_of_mem _ (ih h)
theorem row_ok {P : Prog} {tb : List Jvm.Cond} {C : String} {fn : Nat → String × String} {F : List Nat} {nsl nw : Nat} {nm : Nat → MethodName} {R : List Nat} {cn : Nat → String} {own : Nat → Nat} {ini : Nat → Bool}
    {FL ML : List (Nat × Nat × Nat)} {KI KJ : List (Nat × Nat × Int)} {AT : List FieldType} {WF : List Nat} {m : Nat} {ins : Instr} {aux : Int}
    (hown : (nm m).cls = cn (own m)) (hini : ini m = true → (nm m).cls = C ∧ (nm m).name = "<init>")
    (hFL : ∀ t ∈ FL, t.2.2 ∈ F ∧ Jvm.Cond.fieldLink (cn t.1) t.2.1 C (fn t.2.2).1 (fn t.2.2).2 ∈ tb) (hWF : ∀ k ∈ WF, Jvm.Cond.lays C C (fn k).1 (fn k).2 ∈ tb)
    (hML : ∀ t ∈ ML, t.2.2 ∈ R ∧ Jvm.Cond.methodLink (cn t.1) t.2.1 (nm t.2.2) ∈ tb) (hKI : ∀ t ∈ KI, Jvm.Cond.constant (cn t.1) t.2.1 (Int32.ofInt t.2.2) ∈ tb) (hKJ : ∀ t ∈ KJ, Jvm.Cond.constantLong (cn t.1) t.2.1 (Int64.ofInt t.2.2) ∈ tb)
    (hAT : ∀ t ∈ AT, Jvm.Cond.arrayClass t ∈ tb) (hN : Jvm.Cond.classLink (cn 1) nw C ∈ tb)
    (hO : Jvm.Cond.methodLink (cn 0) 1 Lib.objectInit ∈ tb ∧ Jvm.Cond.instanceMethod Lib.objectInit ∈ tb ∧ Jvm.Cond.code Lib.objectInit ⟨#[0xb1]⟩ 1 none ∈ tb)
    (h : rowChk FL ML KI KJ AT WF nsl nw (own m) (ini m) ins aux = true) : RowOk P tb C fn F nsl nm R m ins aux := by
  cases ins <;> first | trivial | skip
  case getfield i => have q := hFL _ (List.contains_iff_mem.mp h); exact ⟨q.1, by rw [hown]; exact q.2⟩
  case putfield i =>
    simp only [rowChk, Bool.and_eq_true, Bool.or_eq_true] at h
    have q := hFL _ (List.contains_iff_mem.mp h.1)
    exact ⟨q.1, by rw [hown]; exact q.2, h.2.imp (fun u => hWF _ (List.contains_iff_mem.mp u)) hini⟩
  case new i =>
    simp only [rowChk, Bool.and_eq_true, decide_eq_true_eq] at h
    obtain ⟨⟨h1, h2⟩, h3⟩ := h
    exact ⟨h1, by rw [hown, h2, h3]; exact hN⟩
  case newarray t => exact hAT _ (of_decide_eq_true h)
  case ldc i => have q := hKI _ (List.contains_iff_mem.mp h); show _ ∈ tb; rw [hown]; exact q
  case ldc2_w i => have q := hKJ _ (List.contains_iff_mem.mp h); show _ ∈ tb; rw [hown]; exact q
  case invokevirtual i => have q := hML _ (List.contains_iff_mem.mp h); exact ⟨q.1, by rw [hown]; exact q.2⟩
  case invokestatic i => have q := hML _ (List.contains_iff_mem.mp h); exact ⟨q.1, by rw [hown]; exact q.2⟩
  case invokespecial i =>
    simp only [rowChk] at h
    refine ⟨fun e => ?_, fun e => ?_⟩
    · rw [if_pos e] at h
      simp only [Bool.and_eq_true, decide_eq_true_eq] at h
      rw [hown, h.1, h.2]; exact hO
    · rw [if_neg (by omega)] at h
      have q := hML _ (List.contains_iff_mem.mp h)
      exact ⟨q.1, by rw [hown]; exact q.2⟩
theorem rel_H1 {C : String} {fn : Nat → String × String} {F : List Nat} {s : State} {a : Addr} {cl : Cell} (hf : Fit s) (A : Arr s s.heap a cl .int) (hl : cl.slots.size < 2 ^ 31) :
    ∃ f : Nat → Int32, RelH C fn F s s.heap.size s.heap (H1 s.heap.size a cl.slots.size f) := by
  refine ⟨fun i => match cl.slots[i]? with | some (.int x) => x | _ => 0, rfl, Nat.le_refl _, fun b => ?_⟩
  simp only [H1]
  by_cases e : b = a
  · subst e
    simp only [if_true]
    refine ⟨fun q => (by cases q), hl, cl, A, rfl, fun i hi => ?_⟩
    have hi : i < cl.slots.size := hi
    have hj := idx_in hi hl
    obtain ⟨v, q1, q2⟩ := elem_fit hf A hj
    have e2 : (i.toInt32).toNatClampNeg = i := by
      have := len_toInt (n := i) (by omega)
      simp only [Int32.toNatClampNeg, this]; omega
    rw [e2] at q1
    obtain ⟨x, rfl⟩ := fit_I q2 (Or.inl rfl)
    show _ = some (Value.int (match cl.slots[i]? with | some (.int x) => x | _ => 0))
    rw [q1]
  · simp only [e, if_false]; exact ⟨fun q => (by cases q), trivial⟩
end Jvm.JX

namespace Jvm.JX.Pj
open Jvm Jvm.ClassFile Sem Op Lib Jvm.JX
def r1 : List Row := [(0, .aload_n 0, 1, 0), (1, .invokespecial 1, 3, (-1)), (4, .aload_n 0, 1, 0), (5, .sipush 576, 3, 0), (8, .newarray .boolean, 2, 0), (10, .putfield 7, 3, 2), (13, .aload_n 0, 1, 0), (14, .sipush 576, 3, 0), (17, .newarray .int, 2, 0), (19, .putfield 13, 3, 3), (22, .aload_n 0, 1, 0), (23, .bipush 24, 2, 0), (25, .newarray .int, 2, 0), (27, .putfield 17, 3, 8), (30, .aload_n 0, 1, 0), (31, .bipush 24, 2, 0), (33, .newarray .boolean, 2, 0), (35, .putfield 20, 3, 9), (38, .aload_n 0, 1, 0), (39, .bipush 24, 2, 0), (41, .newarray .long, 2, 0), (43, .putfield 23, 3, 10), (46, .aload_n 0, 1, 0), (47, .sipush 600, 3, 0), (50, .newarray .long, 2, 0), (52, .putfield 27, 3, 11), (55, .aload_n 0, 1, 0), (56, .sipush 576, 3, 0), (59, .newarray .boolean, 2, 0), (61, .putfield 30, 3, 12), (64, .aload_n 0, 1, 0), (65, .bipush 24, 2, 0), (67, .newarray .int, 2, 0), (69, .putfield 33, 3, 13), (72, .aload_n 0, 1, 0), (73, .bipush 24, 2, 0), (75, .newarray .int, 2, 0), (77, .putfield 36, 3, 14), (80, .aload_n 0, 1, 0), (81, .bipush 24, 2, 0), (83, .newarray .int, 2, 0), (85, .putfield 39, 3, 15), (88, .aload_n 0, 1, 0), (89, .ldc2_w 42, 3, 4000000000000000000), (92, .putfield 44, 3, 16), (95, .iload_n 1, 1, 0), (96, .istore_n 2, 1, 0), (97, .iload_n 2, 1, 0), (98, .iconst 1, 1, 0), (99, .if_icmp .ge 5, 3, 0), (102, .iconst 1, 1, 0), (103, .istore_n 2, 1, 0), (104, .iload_n 2, 1, 0), (105, .bipush 24, 2, 0), (107, .if_icmp .le 6, 3, 0), (110, .bipush 24, 2, 0), (112, .istore_n 2, 1, 0), (113, .aload_n 0, 1, 0), (114, .iload_n 2, 1, 0), (115, .putfield 48, 3, 0), (118, .return_, 1, 0)]
def r2 : List Row := [(0, .iload_n 1, 1, 0), (1, .ifCond .lt 15, 3, 0), (4, .iload_n 1, 1, 0), (5, .aload_n 0, 1, 0), (6, .getfield 48, 3, 0), (9, .if_icmp .ge 7, 3, 0), (12, .iconst 1, 1, 0), (13, .goto 4, 3, 0), (16, .iconst 0, 1, 0), (17, .ireturn, 1, 0)]
def r3 : List Row := [(0, .iload_n 1, 1, 0), (1, .sipush (-10000), 3, 0), (4, .if_icmp .lt 14, 3, 0), (7, .iload_n 1, 1, 0), (8, .sipush 10000, 3, 0), (11, .if_icmp .gt 7, 3, 0), (14, .iconst 1, 1, 0), (15, .goto 4, 3, 0), (18, .iconst 0, 1, 0), (19, .ireturn, 1, 0)]
def r4 : List Row := [(0, .aload_n 0, 1, 0), (1, .iconst 0, 1, 0), (2, .putfield 52, 3, 4), (5, .aload_n 0, 1, 0), (6, .iconst 0, 1, 0), (7, .putfield 56, 3, 5), (10, .return_, 1, 0)]
def r5 : List Row := [(0, .aload_n 0, 1, 0), (1, .iload_n 1, 1, 0), (2, .invokevirtual 59, 3, 2), (5, .ifCond .eq 11, 3, 0), (8, .aload_n 0, 1, 0), (9, .iload_n 2, 1, 0), (10, .invokevirtual 59, 3, 2), (13, .ifCond .ne 5, 3, 0), (16, .iconst 1, 1, 0), (17, .ireturn, 1, 0), (18, .aload_n 0, 1, 0), (19, .iload_n 3, 1, 0), (20, .invokevirtual 63, 3, 3), (23, .ifCond .ne 5, 3, 0), (26, .iconst 2, 1, 0), (27, .ireturn, 1, 0), (28, .iload_n 1, 1, 0), (29, .bipush 24, 2, 0), (31, .imul, 1, 0), (32, .iload_n 2, 1, 0), (33, .iadd, 1, 0), (34, .istore 4, 2, 0), (36, .aload_n 0, 1, 0), (37, .getfield 7, 3, 2), (40, .iload 4, 2, 0), (42, .baload, 1, 0), (43, .ifCond .eq 5, 3, 0), (46, .iconst 3, 1, 0), (47, .ireturn, 1, 0), (48, .aload_n 0, 1, 0), (49, .getfield 66, 3, 1), (52, .bipush 96, 2, 0), (54, .if_icmp .lt 5, 3, 0), (57, .iconst 5, 1, 0), (58, .ireturn, 1, 0), (59, .aload_n 0, 1, 0), (60, .getfield 7, 3, 2), (63, .iload 4, 2, 0), (65, .iconst 1, 1, 0), (66, .bastore, 1, 0), (67, .aload_n 0, 1, 0), (68, .getfield 13, 3, 3), (71, .iload 4, 2, 0), (73, .iload_n 3, 1, 0), (74, .iastore, 1, 0), (75, .aload_n 0, 1, 0), (76, .dup, 1, 0), (77, .getfield 66, 3, 1), (80, .iconst 1, 1, 0), (81, .iadd, 1, 0), (82, .putfield 66, 3, 1), (85, .aload_n 0, 1, 0), (86, .invokevirtual 69, 3, 4), (89, .iconst 0, 1, 0), (90, .ireturn, 1, 0)]
def r6 : List Row := [(0, .aload_n 0, 1, 0), (1, .iload_n 1, 1, 0), (2, .invokevirtual 59, 3, 2), (5, .ifCond .eq 11, 3, 0), (8, .aload_n 0, 1, 0), (9, .iload_n 2, 1, 0), (10, .invokevirtual 59, 3, 2), (13, .ifCond .ne 5, 3, 0), (16, .iconst 1, 1, 0), (17, .ireturn, 1, 0), (18, .iload_n 1, 1, 0), (19, .bipush 24, 2, 0), (21, .imul, 1, 0), (22, .iload_n 2, 1, 0), (23, .iadd, 1, 0), (24, .istore_n 3, 1, 0), (25, .aload_n 0, 1, 0), (26, .getfield 7, 3, 2), (29, .iload_n 3, 1, 0), (30, .baload, 1, 0), (31, .ifCond .ne 5, 3, 0), (34, .iconst 4, 1, 0), (35, .ireturn, 1, 0), (36, .aload_n 0, 1, 0), (37, .getfield 7, 3, 2), (40, .iload_n 3, 1, 0), (41, .iconst 0, 1, 0), (42, .bastore, 1, 0), (43, .aload_n 0, 1, 0), (44, .getfield 13, 3, 3), (47, .iload_n 3, 1, 0), (48, .iconst 0, 1, 0), (49, .iastore, 1, 0), (50, .aload_n 0, 1, 0), (51, .dup, 1, 0), (52, .getfield 66, 3, 1), (55, .iconst 1, 1, 0), (56, .isub, 1, 0), (57, .putfield 66, 3, 1), (60, .aload_n 0, 1, 0), (61, .invokevirtual 69, 3, 4), (64, .iconst 0, 1, 0), (65, .ireturn, 1, 0)]
def r7 : List Row := [(0, .aload_n 0, 1, 0), (1, .iload_n 1, 1, 0), (2, .invokevirtual 59, 3, 2), (5, .ifCond .eq 11, 3, 0), (8, .aload_n 0, 1, 0), (9, .iload_n 2, 1, 0), (10, .invokevirtual 59, 3, 2), (13, .ifCond .ne 5, 3, 0), (16, .iconst 1, 1, 0), (17, .ireturn, 1, 0), (18, .aload_n 0, 1, 0), (19, .iload_n 3, 1, 0), (20, .invokevirtual 63, 3, 3), (23, .ifCond .ne 5, 3, 0), (26, .iconst 2, 1, 0), (27, .ireturn, 1, 0), (28, .iload_n 1, 1, 0), (29, .bipush 24, 2, 0), (31, .imul, 1, 0), (32, .iload_n 2, 1, 0), (33, .iadd, 1, 0), (34, .istore 4, 2, 0), (36, .aload_n 0, 1, 0), (37, .getfield 7, 3, 2), (40, .iload 4, 2, 0), (42, .baload, 1, 0), (43, .ifCond .ne 5, 3, 0), (46, .iconst 4, 1, 0), (47, .ireturn, 1, 0), (48, .aload_n 0, 1, 0), (49, .getfield 13, 3, 3), (52, .iload 4, 2, 0), (54, .iload_n 3, 1, 0), (55, .iastore, 1, 0), (56, .aload_n 0, 1, 0), (57, .invokevirtual 69, 3, 4), (60, .iconst 0, 1, 0), (61, .ireturn, 1, 0)]
def r8 : List Row := [(0, .aload_n 0, 1, 0), (1, .iload_n 1, 1, 0), (2, .invokevirtual 59, 3, 2), (5, .ifCond .eq 29, 3, 0), (8, .aload_n 0, 1, 0), (9, .iload_n 2, 1, 0), (10, .invokevirtual 59, 3, 2), (13, .ifCond .eq 21, 3, 0), (16, .aload_n 0, 1, 0), (17, .getfield 7, 3, 2), (20, .iload_n 1, 1, 0), (21, .bipush 24, 2, 0), (23, .imul, 1, 0), (24, .iload_n 2, 1, 0), (25, .iadd, 1, 0), (26, .baload, 1, 0), (27, .ifCond .eq 7, 3, 0), (30, .iconst 1, 1, 0), (31, .goto 4, 3, 0), (34, .iconst 0, 1, 0), (35, .ireturn, 1, 0)]
def r9 : List Row := [(0, .aload_n 0, 1, 0), (1, .iload_n 1, 1, 0), (2, .iload_n 2, 1, 0), (3, .invokevirtual 72, 3, 8), (6, .ifCond .ne 5, 3, 0), (9, .iconst 0, 1, 0), (10, .ireturn, 1, 0), (11, .aload_n 0, 1, 0), (12, .getfield 13, 3, 3), (15, .iload_n 1, 1, 0), (16, .bipush 24, 2, 0), (18, .imul, 1, 0), (19, .iload_n 2, 1, 0), (20, .iadd, 1, 0), (21, .iaload, 1, 0), (22, .ireturn, 1, 0)]
def r10 : List Row := [(0, .aload_n 0, 1, 0), (1, .getfield 66, 3, 1), (4, .ireturn, 1, 0)]
def r11 : List Row := [(0, .aload_n 0, 1, 0), (1, .getfield 48, 3, 0), (4, .ireturn, 1, 0)]
def r12 : List Row := [(0, .aload_n 0, 1, 0), (1, .invokevirtual 76, 3, 13), (4, .aload_n 0, 1, 0), (5, .iconst 1, 1, 0), (6, .putfield 52, 3, 4), (9, .aload_n 0, 1, 0), (10, .invokevirtual 79, 3, 14), (13, .ifCond .ne 5, 3, 0), (16, .iconst 0, 1, 0), (17, .ireturn, 1, 0), (18, .aload_n 0, 1, 0), (19, .aload_n 0, 1, 0), (20, .getfield 83, 3, 18), (23, .aload_n 0, 1, 0), (24, .getfield 86, 3, 17), (27, .invokevirtual 89, 3, 17), (30, .aload_n 0, 1, 0), (31, .aload_n 0, 1, 0), (32, .getfield 83, 3, 18), (35, .aload_n 0, 1, 0), (36, .getfield 86, 3, 17), (39, .invokevirtual 93, 3, 18), (42, .aload_n 0, 1, 0), (43, .invokevirtual 96, 3, 19), (46, .iconst (-1), 1, 0), (47, .istore_n 1, 1, 0), (48, .iconst 0, 1, 0), (49, .istore_n 2, 1, 0), (50, .iload_n 2, 1, 0), (51, .aload_n 0, 1, 0), (52, .getfield 48, 3, 0), (55, .if_icmp .ge 48, 3, 0), (58, .aload_n 0, 1, 0), (59, .getfield 20, 3, 9), (62, .iload_n 2, 1, 0), (63, .aload_n 0, 1, 0), (64, .getfield 33, 3, 13), (67, .iload_n 2, 1, 0), (68, .iaload, 1, 0), (69, .iload_n 2, 1, 0), (70, .ishr, 1, 0), (71, .iconst 1, 1, 0), (72, .iand, 1, 0), (73, .ifCond .eq 7, 3, 0), (76, .iconst 1, 1, 0), (77, .goto 4, 3, 0), (80, .iconst 0, 1, 0), (81, .bastore, 1, 0), (82, .aload_n 0, 1, 0), (83, .getfield 20, 3, 9), (86, .iload_n 2, 1, 0), (87, .baload, 1, 0), (88, .ifCond .eq 9, 3, 0), (91, .iload_n 1, 1, 0), (92, .ifCond .ge 5, 3, 0), (95, .iload_n 2, 1, 0), (96, .istore_n 1, 1, 0), (97, .iinc 2 1, 3, 0), (100, .goto (-50), 3, 0), (103, .iload_n 1, 1, 0), (104, .ifCond .ge 5, 3, 0), (107, .iconst 0, 1, 0), (108, .istore_n 1, 1, 0), (109, .aload_n 0, 1, 0), (110, .iload_n 1, 1, 0), (111, .invokevirtual 99, 3, 20), (114, .aload_n 0, 1, 0), (115, .iload_n 1, 1, 0), (116, .invokevirtual 103, 3, 21), (119, .aload_n 0, 1, 0), (120, .aload_n 0, 1, 0), (121, .getfield 106, 3, 6), (124, .i2l, 1, 0), (125, .aload_n 0, 1, 0), (126, .getfield 109, 3, 7), (129, .invokevirtual 89, 3, 17), (132, .aload_n 0, 1, 0), (133, .iconst 1, 1, 0), (134, .putfield 56, 3, 5), (137, .iconst 1, 1, 0), (138, .ireturn, 1, 0)]
def r13 : List Row := [(0, .aload_n 0, 1, 0), (1, .iconst 0, 1, 0), (2, .putfield 56, 3, 5), (5, .aload_n 0, 1, 0), (6, .iconst 0, 1, 0), (7, .putfield 106, 3, 6), (10, .aload_n 0, 1, 0), (11, .lconst 0, 1, 0), (12, .putfield 109, 3, 7), (15, .iconst 0, 1, 0), (16, .istore_n 1, 1, 0), (17, .iload_n 1, 1, 0), (18, .bipush 24, 2, 0), (20, .if_icmp .ge 30, 3, 0), (23, .aload_n 0, 1, 0), (24, .getfield 17, 3, 8), (27, .iload_n 1, 1, 0), (28, .iconst (-1), 1, 0), (29, .iastore, 1, 0), (30, .aload_n 0, 1, 0), (31, .getfield 20, 3, 9), (34, .iload_n 1, 1, 0), (35, .iconst 0, 1, 0), (36, .bastore, 1, 0), (37, .aload_n 0, 1, 0), (38, .getfield 23, 3, 10), (41, .iload_n 1, 1, 0), (42, .lconst 0, 1, 0), (43, .lastore, 1, 0), (44, .iinc 1 1, 3, 0), (47, .goto (-30), 3, 0), (50, .return_, 1, 0)]
def r14 : List Row := [(0, .iconst 0, 1, 0), (1, .istore_n 1, 1, 0), (2, .iload_n 1, 1, 0), (3, .sipush 600, 3, 0), (6, .if_icmp .ge 19, 3, 0), (9, .aload_n 0, 1, 0), (10, .getfield 27, 3, 11), (13, .iload_n 1, 1, 0), (14, .aload_n 0, 1, 0), (15, .getfield 44, 3, 16), (18, .lastore, 1, 0), (19, .iinc 1 1, 3, 0), (22, .goto (-20), 3, 0), (25, .iconst 0, 1, 0), (26, .istore_n 1, 1, 0), (27, .iload_n 1, 1, 0), (28, .aload_n 0, 1, 0), (29, .getfield 48, 3, 0), (32, .if_icmp .ge 16, 3, 0), (35, .aload_n 0, 1, 0), (36, .getfield 27, 3, 11), (39, .iload_n 1, 1, 0), (40, .lconst 0, 1, 0), (41, .lastore, 1, 0), (42, .iinc 1 1, 3, 0), (45, .goto (-18), 3, 0), (48, .iconst 1, 1, 0), (49, .istore_n 1, 1, 0), (50, .iload_n 1, 1, 0), (51, .aload_n 0, 1, 0), (52, .getfield 48, 3, 0), (55, .if_icmp .gt 39, 3, 0), (58, .iconst 0, 1, 0), (59, .istore_n 2, 1, 0), (60, .iload_n 2, 1, 0), (61, .sipush 576, 3, 0), (64, .if_icmp .ge 24, 3, 0), (67, .aload_n 0, 1, 0), (68, .getfield 7, 3, 2), (71, .iload_n 2, 1, 0), (72, .baload, 1, 0), (73, .ifCond .eq 9, 3, 0), (76, .aload_n 0, 1, 0), (77, .iload_n 1, 1, 0), (78, .iload_n 2, 1, 0), (79, .invokevirtual 112, 3, 15), (82, .iinc 2 1, 3, 0), (85, .goto (-25), 3, 0), (88, .iinc 1 1, 3, 0), (91, .goto (-41), 3, 0), (94, .iconst 0, 1, 0), (95, .istore_n 1, 1, 0), (96, .iconst 0, 1, 0), (97, .istore_n 2, 1, 0), (98, .iload_n 2, 1, 0), (99, .aload_n 0, 1, 0), (100, .getfield 48, 3, 0), (103, .if_icmp .ge 80, 3, 0), (106, .aload_n 0, 1, 0), (107, .getfield 27, 3, 11), (110, .aload_n 0, 1, 0), (111, .getfield 48, 3, 0), (114, .bipush 24, 2, 0), (116, .imul, 1, 0), (117, .iload_n 2, 1, 0), (118, .iadd, 1, 0), (119, .laload, 1, 0), (120, .aload_n 0, 1, 0), (121, .getfield 44, 3, 16), (124, .lcmp, 1, 0), (125, .ifCond .eq 52, 3, 0), (128, .aload_n 0, 1, 0), (129, .iload_n 2, 1, 0), (130, .invokevirtual 116, 3, 16), (133, .iload_n 1, 1, 0), (134, .ifCond .eq 25, 3, 0), (137, .aload_n 0, 1, 0), (138, .getfield 119, 3, 19), (141, .aload_n 0, 1, 0), (142, .getfield 83, 3, 18), (145, .lmul, 1, 0), (146, .aload_n 0, 1, 0), (147, .getfield 86, 3, 17), (150, .aload_n 0, 1, 0), (151, .getfield 122, 3, 20), (154, .lmul, 1, 0), (155, .lcmp, 1, 0), (156, .ifCond .ge 21, 3, 0), (159, .aload_n 0, 1, 0), (160, .aload_n 0, 1, 0), (161, .getfield 119, 3, 19), (164, .putfield 86, 3, 17), (167, .aload_n 0, 1, 0), (168, .aload_n 0, 1, 0), (169, .getfield 122, 3, 20), (172, .putfield 83, 3, 18), (175, .iconst 1, 1, 0), (176, .istore_n 1, 1, 0), (177, .iinc 2 1, 3, 0), (180, .goto (-82), 3, 0), (183, .iload_n 1, 1, 0), (184, .ireturn, 1, 0)]
def r15 : List Row := [(0, .iload_n 2, 1, 0), (1, .bipush 24, 2, 0), (3, .idiv, 1, 0), (4, .istore_n 3, 1, 0), (5, .iload_n 2, 1, 0), (6, .bipush 24, 2, 0), (8, .irem, 1, 0), (9, .istore 4, 2, 0), (11, .aload_n 0, 1, 0), (12, .getfield 27, 3, 11), (15, .iload_n 1, 1, 0), (16, .iconst 1, 1, 0), (17, .isub, 1, 0), (18, .bipush 24, 2, 0), (20, .imul, 1, 0), (21, .iload_n 3, 1, 0), (22, .iadd, 1, 0), (23, .laload, 1, 0), (24, .lstore 5, 2, 0), (26, .lload 5, 2, 0), (28, .aload_n 0, 1, 0), (29, .getfield 44, 3, 16), (32, .lcmp, 1, 0), (33, .ifCond .ne 4, 3, 0), (36, .return_, 1, 0), (37, .lload 5, 2, 0), (39, .aload_n 0, 1, 0), (40, .getfield 13, 3, 3), (43, .iload_n 2, 1, 0), (44, .iaload, 1, 0), (45, .i2l, 1, 0), (46, .ladd, 1, 0), (47, .lstore 7, 2, 0), (49, .lload 7, 2, 0), (51, .aload_n 0, 1, 0), (52, .getfield 27, 3, 11), (55, .iload_n 1, 1, 0), (56, .bipush 24, 2, 0), (58, .imul, 1, 0), (59, .iload 4, 2, 0), (61, .iadd, 1, 0), (62, .laload, 1, 0), (63, .lcmp, 1, 0), (64, .ifCond .ge 17, 3, 0), (67, .aload_n 0, 1, 0), (68, .getfield 27, 3, 11), (71, .iload_n 1, 1, 0), (72, .bipush 24, 2, 0), (74, .imul, 1, 0), (75, .iload 4, 2, 0), (77, .iadd, 1, 0), (78, .lload 7, 2, 0), (80, .lastore, 1, 0), (81, .return_, 1, 0)]
def r16 : List Row := [(0, .aload_n 0, 1, 0), (1, .getfield 27, 3, 11), (4, .aload_n 0, 1, 0), (5, .getfield 48, 3, 0), (8, .bipush 24, 2, 0), (10, .imul, 1, 0), (11, .iload_n 1, 1, 0), (12, .iadd, 1, 0), (13, .laload, 1, 0), (14, .lstore_n 2, 1, 0), (15, .iconst 1, 1, 0), (16, .istore 4, 2, 0), (18, .aload_n 0, 1, 0), (19, .lconst 0, 1, 0), (20, .putfield 119, 3, 19), (23, .aload_n 0, 1, 0), (24, .lconst 1, 1, 0), (25, .putfield 122, 3, 20), (28, .iconst 0, 1, 0), (29, .istore 5, 2, 0), (31, .iload 5, 2, 0), (33, .aload_n 0, 1, 0), (34, .getfield 48, 3, 0), (37, .if_icmp .ge 90, 3, 0), (40, .aload_n 0, 1, 0), (41, .getfield 27, 3, 11), (44, .iload 5, 2, 0), (46, .bipush 24, 2, 0), (48, .imul, 1, 0), (49, .iload_n 1, 1, 0), (50, .iadd, 1, 0), (51, .laload, 1, 0), (52, .lstore 6, 2, 0), (54, .lload 6, 2, 0), (56, .aload_n 0, 1, 0), (57, .getfield 44, 3, 16), (60, .lcmp, 1, 0), (61, .ifCond .ne 6, 3, 0), (64, .goto 57, 3, 0), (67, .lload_n 2, 1, 0), (68, .lload 6, 2, 0), (70, .lsub, 1, 0), (71, .lstore 8, 2, 0), (73, .aload_n 0, 1, 0), (74, .getfield 48, 3, 0), (77, .iload 5, 2, 0), (79, .isub, 1, 0), (80, .i2l, 1, 0), (81, .lstore 10, 2, 0), (83, .iload 4, 2, 0), (85, .ifCond .ne 21, 3, 0), (88, .lload 8, 2, 0), (90, .aload_n 0, 1, 0), (91, .getfield 122, 3, 20), (94, .lmul, 1, 0), (95, .aload_n 0, 1, 0), (96, .getfield 119, 3, 19), (99, .lload 10, 2, 0), (101, .lmul, 1, 0), (102, .lcmp, 1, 0), (103, .ifCond .le 18, 3, 0), (106, .aload_n 0, 1, 0), (107, .lload 8, 2, 0), (109, .putfield 119, 3, 19), (112, .aload_n 0, 1, 0), (113, .lload 10, 2, 0), (115, .putfield 122, 3, 20), (118, .iconst 0, 1, 0), (119, .istore 4, 2, 0), (121, .iinc 5 1, 3, 0), (124, .goto (-93), 3, 0), (127, .return_, 1, 0)]
def r17 : List Row := [(0, .iconst 0, 1, 0), (1, .istore 5, 2, 0), (3, .iload 5, 2, 0), (5, .bipush 24, 2, 0), (7, .if_icmp .ge 17, 3, 0), (10, .aload_n 0, 1, 0), (11, .getfield 23, 3, 10), (14, .iload 5, 2, 0), (16, .lconst 0, 1, 0), (17, .lastore, 1, 0), (18, .iinc 5 1, 3, 0), (21, .goto (-18), 3, 0), (24, .iconst 0, 1, 0), (25, .istore 5, 2, 0), (27, .iload 5, 2, 0), (29, .aload_n 0, 1, 0), (30, .getfield 48, 3, 0), (33, .iconst 1, 1, 0), (34, .iadd, 1, 0), (35, .if_icmp .gt 111, 3, 0), (38, .iconst 0, 1, 0), (39, .istore 6, 2, 0), (41, .iconst 0, 1, 0), (42, .istore 7, 2, 0), (44, .iload 7, 2, 0), (46, .sipush 576, 3, 0), (49, .if_icmp .ge 83, 3, 0), (52, .aload_n 0, 1, 0), (53, .getfield 7, 3, 2), (56, .iload 7, 2, 0), (58, .baload, 1, 0), (59, .ifCond .ne 6, 3, 0), (62, .goto 64, 3, 0), (65, .iload 7, 2, 0), (67, .bipush 24, 2, 0), (69, .idiv, 1, 0), (70, .istore 8, 2, 0), (72, .iload 7, 2, 0), (74, .bipush 24, 2, 0), (76, .irem, 1, 0), (77, .istore 9, 2, 0), (79, .aload_n 0, 1, 0), (80, .getfield 23, 3, 10), (83, .iload 8, 2, 0), (85, .laload, 1, 0), (86, .lload_n 1, 1, 0), (87, .aload_n 0, 1, 0), (88, .getfield 13, 3, 3), (91, .iload 7, 2, 0), (93, .iaload, 1, 0), (94, .i2l, 1, 0), (95, .lmul, 1, 0), (96, .ladd, 1, 0), (97, .lload_n 3, 1, 0), (98, .lsub, 1, 0), (99, .lstore 10, 2, 0), (101, .lload 10, 2, 0), (103, .aload_n 0, 1, 0), (104, .getfield 23, 3, 10), (107, .iload 9, 2, 0), (109, .laload, 1, 0), (110, .lcmp, 1, 0), (111, .ifCond .ge 15, 3, 0), (114, .aload_n 0, 1, 0), (115, .getfield 23, 3, 10), (118, .iload 9, 2, 0), (120, .lload 10, 2, 0), (122, .lastore, 1, 0), (123, .iconst 1, 1, 0), (124, .istore 6, 2, 0), (126, .iinc 7 1, 3, 0), (129, .goto (-85), 3, 0), (132, .iload 6, 2, 0), (134, .ifCond .ne 6, 3, 0), (137, .goto 9, 3, 0), (140, .iinc 5 1, 3, 0), (143, .goto (-116), 3, 0), (146, .return_, 1, 0)]
def r18 : List Row := [(0, .iconst 0, 1, 0), (1, .istore 5, 2, 0), (3, .iload 5, 2, 0), (5, .sipush 576, 3, 0), (8, .if_icmp .ge 78, 3, 0), (11, .iload 5, 2, 0), (13, .bipush 24, 2, 0), (15, .idiv, 1, 0), (16, .istore 6, 2, 0), (18, .iload 5, 2, 0), (20, .bipush 24, 2, 0), (22, .irem, 1, 0), (23, .istore 7, 2, 0), (25, .aload_n 0, 1, 0), (26, .getfield 30, 3, 12), (29, .iload 5, 2, 0), (31, .aload_n 0, 1, 0), (32, .getfield 7, 3, 2), (35, .iload 5, 2, 0), (37, .baload, 1, 0), (38, .ifCond .eq 40, 3, 0), (41, .aload_n 0, 1, 0), (42, .getfield 23, 3, 10), (45, .iload 6, 2, 0), (47, .laload, 1, 0), (48, .lload_n 1, 1, 0), (49, .aload_n 0, 1, 0), (50, .getfield 13, 3, 3), (53, .iload 5, 2, 0), (55, .iaload, 1, 0), (56, .i2l, 1, 0), (57, .lmul, 1, 0), (58, .ladd, 1, 0), (59, .lload_n 3, 1, 0), (60, .lsub, 1, 0), (61, .aload_n 0, 1, 0), (62, .getfield 23, 3, 10), (65, .iload 7, 2, 0), (67, .laload, 1, 0), (68, .lsub, 1, 0), (69, .lconst 0, 1, 0), (70, .lcmp, 1, 0), (71, .ifCond .ne 7, 3, 0), (74, .iconst 1, 1, 0), (75, .goto 4, 3, 0), (78, .iconst 0, 1, 0), (79, .bastore, 1, 0), (80, .iinc 5 1, 3, 0), (83, .goto (-80), 3, 0), (86, .return_, 1, 0)]
def r19 : List Row := [(0, .iconst 0, 1, 0), (1, .istore_n 1, 1, 0), (2, .iload_n 1, 1, 0), (3, .bipush 24, 2, 0), (5, .if_icmp .ge 16, 3, 0), (8, .aload_n 0, 1, 0), (9, .getfield 33, 3, 13), (12, .iload_n 1, 1, 0), (13, .iconst 0, 1, 0), (14, .iastore, 1, 0), (15, .iinc 1 1, 3, 0), (18, .goto (-16), 3, 0), (21, .iconst 0, 1, 0), (22, .istore_n 1, 1, 0), (23, .iload_n 1, 1, 0), (24, .sipush 576, 3, 0), (27, .if_icmp .ge 36, 3, 0), (30, .aload_n 0, 1, 0), (31, .getfield 30, 3, 12), (34, .iload_n 1, 1, 0), (35, .baload, 1, 0), (36, .ifCond .eq 21, 3, 0), (39, .aload_n 0, 1, 0), (40, .getfield 33, 3, 13), (43, .iload_n 1, 1, 0), (44, .bipush 24, 2, 0), (46, .idiv, 1, 0), (47, .dup2, 1, 0), (48, .iaload, 1, 0), (49, .iconst 1, 1, 0), (50, .iload_n 1, 1, 0), (51, .bipush 24, 2, 0), (53, .irem, 1, 0), (54, .ishl, 1, 0), (55, .ior, 1, 0), (56, .iastore, 1, 0), (57, .iinc 1 1, 3, 0), (60, .goto (-37), 3, 0), (63, .iconst 0, 1, 0), (64, .istore_n 1, 1, 0), (65, .iload_n 1, 1, 0), (66, .aload_n 0, 1, 0), (67, .getfield 48, 3, 0), (70, .if_icmp .ge 53, 3, 0), (73, .iconst 0, 1, 0), (74, .istore_n 2, 1, 0), (75, .iload_n 2, 1, 0), (76, .aload_n 0, 1, 0), (77, .getfield 48, 3, 0), (80, .if_icmp .ge 37, 3, 0), (83, .aload_n 0, 1, 0), (84, .getfield 33, 3, 13), (87, .iload_n 2, 1, 0), (88, .iaload, 1, 0), (89, .iload_n 1, 1, 0), (90, .ishr, 1, 0), (91, .iconst 1, 1, 0), (92, .iand, 1, 0), (93, .ifCond .eq 18, 3, 0), (96, .aload_n 0, 1, 0), (97, .getfield 33, 3, 13), (100, .iload_n 2, 1, 0), (101, .dup2, 1, 0), (102, .iaload, 1, 0), (103, .aload_n 0, 1, 0), (104, .getfield 33, 3, 13), (107, .iload_n 1, 1, 0), (108, .iaload, 1, 0), (109, .ior, 1, 0), (110, .iastore, 1, 0), (111, .iinc 2 1, 3, 0), (114, .goto (-39), 3, 0), (117, .iinc 1 1, 3, 0), (120, .goto (-55), 3, 0), (123, .return_, 1, 0)]
def r20 : List Row := [(0, .iconst 0, 1, 0), (1, .istore_n 2, 1, 0), (2, .iload_n 2, 1, 0), (3, .bipush 24, 2, 0), (5, .if_icmp .ge 16, 3, 0), (8, .aload_n 0, 1, 0), (9, .getfield 36, 3, 14), (12, .iload_n 2, 1, 0), (13, .iconst (-1), 1, 0), (14, .iastore, 1, 0), (15, .iinc 2 1, 3, 0), (18, .goto (-16), 3, 0), (21, .aload_n 0, 1, 0), (22, .getfield 36, 3, 14), (25, .iload_n 1, 1, 0), (26, .iconst 0, 1, 0), (27, .iastore, 1, 0), (28, .aload_n 0, 1, 0), (29, .getfield 39, 3, 15), (32, .iconst 0, 1, 0), (33, .iload_n 1, 1, 0), (34, .iastore, 1, 0), (35, .iconst 1, 1, 0), (36, .istore_n 2, 1, 0), (37, .iconst 0, 1, 0), (38, .istore_n 3, 1, 0), (39, .iload_n 3, 1, 0), (40, .iload_n 2, 1, 0), (41, .if_icmp .ge 100, 3, 0), (44, .iload_n 3, 1, 0), (45, .bipush 24, 2, 0), (47, .if_icmp .ge 94, 3, 0), (50, .aload_n 0, 1, 0), (51, .getfield 39, 3, 15), (54, .iload_n 3, 1, 0), (55, .iaload, 1, 0), (56, .istore 4, 2, 0), (58, .iconst 0, 1, 0), (59, .istore 5, 2, 0), (61, .iload 5, 2, 0), (63, .aload_n 0, 1, 0), (64, .getfield 48, 3, 0), (67, .if_icmp .ge 68, 3, 0), (70, .aload_n 0, 1, 0), (71, .getfield 30, 3, 12), (74, .iload 5, 2, 0), (76, .bipush 24, 2, 0), (78, .imul, 1, 0), (79, .iload 4, 2, 0), (81, .iadd, 1, 0), (82, .baload, 1, 0), (83, .ifCond .eq 46, 3, 0), (86, .aload_n 0, 1, 0), (87, .getfield 36, 3, 14), (90, .iload 5, 2, 0), (92, .iaload, 1, 0), (93, .ifCond .ge 36, 3, 0), (96, .iload_n 2, 1, 0), (97, .bipush 24, 2, 0), (99, .if_icmp .ge 30, 3, 0), (102, .aload_n 0, 1, 0), (103, .getfield 36, 3, 14), (106, .iload 5, 2, 0), (108, .aload_n 0, 1, 0), (109, .getfield 36, 3, 14), (112, .iload 4, 2, 0), (114, .iaload, 1, 0), (115, .iconst 1, 1, 0), (116, .iadd, 1, 0), (117, .iastore, 1, 0), (118, .aload_n 0, 1, 0), (119, .getfield 39, 3, 15), (122, .iload_n 2, 1, 0), (123, .iload 5, 2, 0), (125, .iastore, 1, 0), (126, .iinc 2 1, 3, 0), (129, .iinc 5 1, 3, 0), (132, .goto (-71), 3, 0), (135, .iinc 3 1, 3, 0), (138, .goto (-99), 3, 0), (141, .return_, 1, 0)]
def r21 : List Row := [(0, .iconst (-1), 1, 0), (1, .istore_n 2, 1, 0), (2, .iconst 0, 1, 0), (3, .istore_n 3, 1, 0), (4, .iload_n 3, 1, 0), (5, .aload_n 0, 1, 0), (6, .getfield 48, 3, 0), (9, .if_icmp .ge 55, 3, 0), (12, .aload_n 0, 1, 0), (13, .getfield 30, 3, 12), (16, .iload_n 1, 1, 0), (17, .bipush 24, 2, 0), (19, .imul, 1, 0), (20, .iload_n 3, 1, 0), (21, .iadd, 1, 0), (22, .baload, 1, 0), (23, .ifCond .eq 35, 3, 0), (26, .aload_n 0, 1, 0), (27, .getfield 36, 3, 14), (30, .iload_n 3, 1, 0), (31, .iaload, 1, 0), (32, .ifCond .lt 26, 3, 0), (35, .aload_n 0, 1, 0), (36, .getfield 36, 3, 14), (39, .iload_n 3, 1, 0), (40, .iaload, 1, 0), (41, .iconst 1, 1, 0), (42, .iadd, 1, 0), (43, .istore 4, 2, 0), (45, .iload_n 2, 1, 0), (46, .ifCond .lt 9, 3, 0), (49, .iload 4, 2, 0), (51, .iload_n 2, 1, 0), (52, .if_icmp .ge 6, 3, 0), (55, .iload 4, 2, 0), (57, .istore_n 2, 1, 0), (58, .iinc 3 1, 3, 0), (61, .goto (-57), 3, 0), (64, .iload_n 2, 1, 0), (65, .iconst 1, 1, 0), (66, .if_icmp .ge 5, 3, 0), (69, .iconst 1, 1, 0), (70, .istore_n 2, 1, 0), (71, .iload_n 2, 1, 0), (72, .aload_n 0, 1, 0), (73, .getfield 48, 3, 0), (76, .if_icmp .le 8, 3, 0), (79, .aload_n 0, 1, 0), (80, .getfield 48, 3, 0), (83, .istore_n 2, 1, 0), (84, .aload_n 0, 1, 0), (85, .iload_n 2, 1, 0), (86, .putfield 106, 3, 6), (89, .aload_n 0, 1, 0), (90, .getfield 17, 3, 8), (93, .iconst 0, 1, 0), (94, .iload_n 1, 1, 0), (95, .iastore, 1, 0), (96, .iload_n 1, 1, 0), (97, .istore_n 3, 1, 0), (98, .iconst 1, 1, 0), (99, .istore 4, 2, 0), (101, .iload 4, 2, 0), (103, .aload_n 0, 1, 0), (104, .getfield 106, 3, 6), (107, .if_icmp .ge 83, 3, 0), (110, .aload_n 0, 1, 0), (111, .getfield 106, 3, 6), (114, .iload 4, 2, 0), (116, .isub, 1, 0), (117, .istore 5, 2, 0), (119, .iload_n 3, 1, 0), (120, .istore 6, 2, 0), (122, .aload_n 0, 1, 0), (123, .getfield 48, 3, 0), (126, .iconst 1, 1, 0), (127, .isub, 1, 0), (128, .istore 7, 2, 0), (130, .iload 7, 2, 0), (132, .ifCond .lt 40, 3, 0), (135, .aload_n 0, 1, 0), (136, .getfield 30, 3, 12), (139, .iload_n 3, 1, 0), (140, .bipush 24, 2, 0), (142, .imul, 1, 0), (143, .iload 7, 2, 0), (145, .iadd, 1, 0), (146, .baload, 1, 0), (147, .ifCond .eq 19, 3, 0), (150, .aload_n 0, 1, 0), (151, .getfield 36, 3, 14), (154, .iload 7, 2, 0), (156, .iaload, 1, 0), (157, .iload 5, 2, 0), (159, .if_icmp .ne 7, 3, 0), (162, .iload 7, 2, 0), (164, .istore 6, 2, 0), (166, .iinc 7 (-1), 3, 0), (169, .goto (-39), 3, 0), (172, .aload_n 0, 1, 0), (173, .getfield 17, 3, 8), (176, .iload 4, 2, 0), (178, .iload 6, 2, 0), (180, .iastore, 1, 0), (181, .iload 6, 2, 0), (183, .istore_n 3, 1, 0), (184, .iinc 4 1, 3, 0), (187, .goto (-86), 3, 0), (190, .lconst 0, 1, 0), (191, .lstore 4, 2, 0), (193, .iconst 0, 1, 0), (194, .istore 6, 2, 0), (196, .iload 6, 2, 0), (198, .aload_n 0, 1, 0), (199, .getfield 106, 3, 6), (202, .if_icmp .ge 53, 3, 0), (205, .aload_n 0, 1, 0), (206, .getfield 17, 3, 8), (209, .iload 6, 2, 0), (211, .iaload, 1, 0), (212, .istore 7, 2, 0), (214, .aload_n 0, 1, 0), (215, .getfield 17, 3, 8), (218, .iload 6, 2, 0), (220, .iconst 1, 1, 0), (221, .iadd, 1, 0), (222, .aload_n 0, 1, 0), (223, .getfield 106, 3, 6), (226, .irem, 1, 0), (227, .iaload, 1, 0), (228, .istore 8, 2, 0), (230, .lload 4, 2, 0), (232, .aload_n 0, 1, 0), (233, .getfield 13, 3, 3), (236, .iload 7, 2, 0), (238, .bipush 24, 2, 0), (240, .imul, 1, 0), (241, .iload 8, 2, 0), (243, .iadd, 1, 0), (244, .iaload, 1, 0), (245, .i2l, 1, 0), (246, .ladd, 1, 0), (247, .lstore 4, 2, 0), (249, .iinc 6 1, 3, 0), (252, .goto (-56), 3, 0), (255, .aload_n 0, 1, 0), (256, .lload 4, 2, 0), (258, .putfield 109, 3, 7), (261, .return_, 1, 0)]
def r22 : List Row := [(0, .aload_n 0, 1, 0), (1, .getfield 52, 3, 4), (4, .ireturn, 1, 0)]
def r23 : List Row := [(0, .aload_n 0, 1, 0), (1, .getfield 52, 3, 4), (4, .ifCond .eq 14, 3, 0), (7, .aload_n 0, 1, 0), (8, .getfield 56, 3, 5), (11, .ifCond .eq 7, 3, 0), (14, .iconst 1, 1, 0), (15, .goto 4, 3, 0), (18, .iconst 0, 1, 0), (19, .ireturn, 1, 0)]
def r24 : List Row := [(0, .aload_n 0, 1, 0), (1, .invokevirtual 125, 3, 23), (4, .ifCond .eq 10, 3, 0), (7, .aload_n 0, 1, 0), (8, .getfield 106, 3, 6), (11, .goto 4, 3, 0), (14, .iconst 0, 1, 0), (15, .ireturn, 1, 0)]
def r25 : List Row := [(0, .aload_n 0, 1, 0), (1, .invokevirtual 125, 3, 23), (4, .ifCond .eq 10, 3, 0), (7, .aload_n 0, 1, 0), (8, .getfield 109, 3, 7), (11, .goto 4, 3, 0), (14, .lconst 0, 1, 0), (15, .lreturn, 1, 0)]
def r26 : List Row := [(0, .aload_n 0, 1, 0), (1, .invokevirtual 125, 3, 23), (4, .ifCond .eq 15, 3, 0), (7, .iload_n 1, 1, 0), (8, .ifCond .lt 11, 3, 0), (11, .iload_n 1, 1, 0), (12, .aload_n 0, 1, 0), (13, .getfield 106, 3, 6), (16, .if_icmp .lt 5, 3, 0), (19, .iconst (-1), 1, 0), (20, .ireturn, 1, 0), (21, .aload_n 0, 1, 0), (22, .getfield 17, 3, 8), (25, .iload_n 1, 1, 0), (26, .iaload, 1, 0), (27, .ireturn, 1, 0)]
def r27 : List Row := [(0, .aload_n 0, 1, 0), (1, .invokevirtual 125, 3, 23), (4, .ifCond .eq 24, 3, 0), (7, .aload_n 0, 1, 0), (8, .iload_n 1, 1, 0), (9, .invokevirtual 59, 3, 2), (12, .ifCond .eq 16, 3, 0), (15, .aload_n 0, 1, 0), (16, .getfield 20, 3, 9), (19, .iload_n 1, 1, 0), (20, .baload, 1, 0), (21, .ifCond .eq 7, 3, 0), (24, .iconst 1, 1, 0), (25, .goto 4, 3, 0), (28, .iconst 0, 1, 0), (29, .ireturn, 1, 0)]
def r28 : List Row := [(0, .aload_n 0, 1, 0), (1, .invokevirtual 125, 3, 23), (4, .ifCond .eq 11, 3, 0), (7, .aload_n 0, 1, 0), (8, .iload_n 1, 1, 0), (9, .invokevirtual 59, 3, 2), (12, .ifCond .ne 5, 3, 0), (15, .lconst 0, 1, 0), (16, .lreturn, 1, 0), (17, .aload_n 0, 1, 0), (18, .getfield 23, 3, 10), (21, .iload_n 1, 1, 0), (22, .laload, 1, 0), (23, .lreturn, 1, 0)]
def r29 : List Row := [(0, .aload_n 0, 1, 0), (1, .invokevirtual 125, 3, 23), (4, .ifCond .eq 12, 3, 0), (7, .aload_n 0, 1, 0), (8, .iload_n 1, 1, 0), (9, .iload_n 2, 1, 0), (10, .invokevirtual 72, 3, 8), (13, .ifCond .ne 7, 3, 0), (16, .ldc2_w 128, 3, (-1)), (19, .lreturn, 1, 0), (20, .aload_n 0, 1, 0), (21, .getfield 106, 3, 6), (24, .i2l, 1, 0), (25, .aload_n 0, 1, 0), (26, .getfield 13, 3, 3), (29, .iload_n 1, 1, 0), (30, .bipush 24, 2, 0), (32, .imul, 1, 0), (33, .iload_n 2, 1, 0), (34, .iadd, 1, 0), (35, .iaload, 1, 0), (36, .i2l, 1, 0), (37, .lmul, 1, 0), (38, .aload_n 0, 1, 0), (39, .getfield 109, 3, 7), (42, .lsub, 1, 0), (43, .aload_n 0, 1, 0), (44, .getfield 23, 3, 10), (47, .iload_n 1, 1, 0), (48, .laload, 1, 0), (49, .ladd, 1, 0), (50, .aload_n 0, 1, 0), (51, .getfield 23, 3, 10), (54, .iload_n 2, 1, 0), (55, .laload, 1, 0), (56, .lsub, 1, 0), (57, .lreturn, 1, 0)]
def prows : List (List Row) := [[], r1, r2, r3, r4, r5, r6, r7, r8, r9, r10, r11, r12, r13, r14, r15, r16, r17, r18, r19, r20, r21, r22, r23, r24, r25, r26, r27, r28, r29]
def pinfo : List MInfo := [(0, 0, 9, none, {}), (2, 3, 3, none, { frames := 1, cells := 10, slots := 2472, locals := 12 }), (2, 2, 2, some .boolean, { frames := 0, cells := 0, slots := 0, locals := 0 }), (2, 2, 2, some .boolean, { frames := 0, cells := 0, slots := 0, locals := 0 }), (1, 1, 2, none, { frames := 0, cells := 0, slots := 0, locals := 0 }), (4, 5, 1, some .int, { frames := 1, cells := 0, slots := 0, locals := 13 }), (3, 4, 1, some .int, { frames := 1, cells := 0, slots := 0, locals := 13 }), (4, 5, 1, some .int, { frames := 1, cells := 0, slots := 0, locals := 13 }), (3, 3, 1, some .boolean, { frames := 1, cells := 0, slots := 0, locals := 13 }), (3, 3, 1, some .int, { frames := 2, cells := 0, slots := 0, locals := 27 }), (1, 1, 1, some .int, { frames := 0, cells := 0, slots := 0, locals := 0 }), (1, 1, 1, some .int, { frames := 0, cells := 0, slots := 0, locals := 0 }), (1, 3, 1, some .int, { frames := 2, cells := 0, slots := 0, locals := 37 }), (1, 2, 2, none, { frames := 0, cells := 0, slots := 0, locals := 0 }), (1, 3, 2, some .boolean, { frames := 1, cells := 0, slots := 0, locals := 23 }), (3, 9, 2, none, { frames := 0, cells := 0, slots := 0, locals := 0 }), (2, 12, 2, none, { frames := 0, cells := 0, slots := 0, locals := 0 }), (3, 12, 2, none, { frames := 0, cells := 0, slots := 0, locals := 0 }), (3, 8, 2, none, { frames := 0, cells := 0, slots := 0, locals := 0 }), (1, 3, 2, none, { frames := 0, cells := 0, slots := 0, locals := 0 }), (2, 6, 2, none, { frames := 0, cells := 0, slots := 0, locals := 0 }), (2, 9, 2, none, { frames := 0, cells := 0, slots := 0, locals := 0 }), (1, 1, 1, some .boolean, { frames := 0, cells := 0, slots := 0, locals := 0 }), (1, 1, 2, some .boolean, { frames := 0, cells := 0, slots := 0, locals := 0 }), (1, 1, 1, some .int, { frames := 1, cells := 0, slots := 0, locals := 12 }), (1, 1, 1, some .long, { frames := 1, cells := 0, slots := 0, locals := 12 }), (2, 2, 1, some .int, { frames := 1, cells := 0, slots := 0, locals := 12 }), (2, 2, 1, some .boolean, { frames := 1, cells := 0, slots := 0, locals := 13 }), (2, 2, 1, some .long, { frames := 1, cells := 0, slots := 0, locals := 13 }), (3, 3, 1, some .long, { frames := 2, cells := 0, slots := 0, locals := 27 })]
def pft : List FieldType := [.int, .int, .array .boolean, .array .int, .boolean, .boolean, .int, .long, .array .int, .array .boolean, .array .long, .array .long, .array .boolean, .array .int, .array .int, .array .int, .long, .long, .long, .long, .long]
def pj (lw : LW) : Prog := (fun m pc => if m < 100 then (prows.getD m []).lookup pc else lw.1 (m - 100) pc, fun m => if m < 100 then pinfo.getD m (0, 0, 9, none, {}) else lw.2 (m - 100), fun k => pft.getD k .int, 21)
def lay : Lay := ([(.int, 0), (.int, 0), (.array .boolean, 1), (.array .int, 2), (.boolean, 0), (.boolean, 0), (.int, 0), (.long, 0), (.array .int, 3), (.array .boolean, 4), (.array .long, 5), (.array .long, 6), (.array .boolean, 7), (.array .int, 8), (.array .int, 9), (.array .int, 10), (.long, 0), (.long, 0), (.long, 0), (.long, 0), (.long, 0)], [(.boolean, 576), (.int, 576), (.int, 24), (.boolean, 24), (.long, 24), (.long, 600), (.boolean, 576), (.int, 24), (.int, 24), (.int, 24)])
abbrev ob (H : AH) (p : Nat) (s : St) : AH := put lay 10 H p s
section Acc
variable {H : AH} {p : Nat} {s : St} {i : Int32} {j q : Nat} {v : Int32} {w : Int64}
theorem g0 : fld (put lay j H p s) p 0 = .int (sI s 0) := fld_I (ty := .int) rfl (by decide) (by simp)
theorem s0 : wr (put lay j H p s) p 0 (.int v) = put lay j H p (uI s 0 v) := wr_I (ty := .int) rfl (by decide) (by simp)
theorem g1 : fld (put lay j H p s) p 1 = .int (sI s 1) := fld_I (ty := .int) rfl (by decide) (by simp)
theorem s1 : wr (put lay j H p s) p 1 (.int v) = put lay j H p (uI s 1 v) := wr_I (ty := .int) rfl (by decide) (by simp)
theorem g2 : fld (ob H p s) p 2 = .ref (p + 1) := fld_R (ty := .boolean) rfl (by decide)
theorem g3 : fld (ob H p s) p 3 = .ref (p + 2) := fld_R (ty := .int) rfl (by decide)
theorem g4 : fld (put lay j H p s) p 4 = .int (sI s 4) := fld_I (ty := .boolean) rfl (by decide) (by simp)
theorem s4 : wr (put lay j H p s) p 4 (.int v) = put lay j H p (uI s 4 v) := wr_I (ty := .boolean) rfl (by decide) (by simp)
theorem g5 : fld (put lay j H p s) p 5 = .int (sI s 5) := fld_I (ty := .boolean) rfl (by decide) (by simp)
theorem s5 : wr (put lay j H p s) p 5 (.int v) = put lay j H p (uI s 5 v) := wr_I (ty := .boolean) rfl (by decide) (by simp)
theorem g6 : fld (put lay j H p s) p 6 = .int (sI s 6) := fld_I (ty := .int) rfl (by decide) (by simp)
theorem s6 : wr (put lay j H p s) p 6 (.int v) = put lay j H p (uI s 6 v) := wr_I (ty := .int) rfl (by decide) (by simp)
theorem g7 : fld (put lay j H p s) p 7 = .long (sJ s 7) := fld_J rfl
theorem s7 : wr (put lay j H p s) p 7 (.long w) = put lay j H p (uJ s 7 w) := wr_J rfl
theorem g8 : fld (ob H p s) p 8 = .ref (p + 3) := fld_R (ty := .int) rfl (by decide)
theorem g9 : fld (ob H p s) p 9 = .ref (p + 4) := fld_R (ty := .boolean) rfl (by decide)
theorem g10 : fld (ob H p s) p 10 = .ref (p + 5) := fld_R (ty := .long) rfl (by decide)
theorem g11 : fld (ob H p s) p 11 = .ref (p + 6) := fld_R (ty := .long) rfl (by decide)
theorem g12 : fld (ob H p s) p 12 = .ref (p + 7) := fld_R (ty := .boolean) rfl (by decide)
theorem g13 : fld (ob H p s) p 13 = .ref (p + 8) := fld_R (ty := .int) rfl (by decide)
theorem g14 : fld (ob H p s) p 14 = .ref (p + 9) := fld_R (ty := .int) rfl (by decide)
theorem g15 : fld (ob H p s) p 15 = .ref (p + 10) := fld_R (ty := .int) rfl (by decide)
theorem g16 : fld (put lay j H p s) p 16 = .long (sJ s 16) := fld_J rfl
theorem s16 : wr (put lay j H p s) p 16 (.long w) = put lay j H p (uJ s 16 w) := wr_J rfl
theorem g17 : fld (put lay j H p s) p 17 = .long (sJ s 17) := fld_J rfl
theorem s17 : wr (put lay j H p s) p 17 (.long w) = put lay j H p (uJ s 17 w) := wr_J rfl
theorem g18 : fld (put lay j H p s) p 18 = .long (sJ s 18) := fld_J rfl
theorem s18 : wr (put lay j H p s) p 18 (.long w) = put lay j H p (uJ s 18 w) := wr_J rfl
theorem g19 : fld (put lay j H p s) p 19 = .long (sJ s 19) := fld_J rfl
theorem s19 : wr (put lay j H p s) p 19 (.long w) = put lay j H p (uJ s 19 w) := wr_J rfl
theorem g20 : fld (put lay j H p s) p 20 = .long (sJ s 20) := fld_J rfl
theorem s20 : wr (put lay j H p s) p 20 (.long w) = put lay j H p (uJ s 20 w) := wr_J rfl
theorem ai1 : inA (ob H p s) (p + 1) .boolean i = true ↔ (0 ≤ i.toInt ∧ i.toInt < 576) := inA_I (t := 0) rfl (by decide) (by decide)
theorem aw1 : inAw (ob H p s) (p + 1) .boolean i = true ↔ (0 ≤ i.toInt ∧ i.toInt < 576) := inAw_I (t := 0) rfl (by decide) (by decide)
theorem ain1 : inA (ob H p s) (p + 1) .byte i = true ↔ False := inA_no (t := 0) (ty := .boolean) rfl (by decide) (by decide) (by decide)
theorem awn1 : inAw (ob H p s) (p + 1) .byte i = true ↔ False := inAw_no (t := 0) (ty := .boolean) rfl (by decide) (by decide) (by decide)
theorem ae1 : elt (ob H p s) (p + 1) i = .int (sA s 1 i.toNatClampNeg) := elt_I (t := 0) (ty := .boolean) rfl (by decide) (by decide)
theorem as1 : wr (ob H p s) (p + 1) q (.int v) = ob H p (uA s 1 q v) := wr_A (t := 0) (ty := .boolean) rfl (by decide) (by decide)
theorem ai2 : inA (ob H p s) (p + 2) .int i = true ↔ (0 ≤ i.toInt ∧ i.toInt < 576) := inA_I (t := 1) rfl (by decide) (by decide)
theorem aw2 : inAw (ob H p s) (p + 2) .int i = true ↔ (0 ≤ i.toInt ∧ i.toInt < 576) := inAw_I (t := 1) rfl (by decide) (by decide)
theorem ae2 : elt (ob H p s) (p + 2) i = .int (sA s 2 i.toNatClampNeg) := elt_I (t := 1) (ty := .int) rfl (by decide) (by decide)
theorem as2 : wr (ob H p s) (p + 2) q (.int v) = ob H p (uA s 2 q v) := wr_A (t := 1) (ty := .int) rfl (by decide) (by decide)
theorem ai3 : inA (ob H p s) (p + 3) .int i = true ↔ (0 ≤ i.toInt ∧ i.toInt < 24) := inA_I (t := 2) rfl (by decide) (by decide)
theorem aw3 : inAw (ob H p s) (p + 3) .int i = true ↔ (0 ≤ i.toInt ∧ i.toInt < 24) := inAw_I (t := 2) rfl (by decide) (by decide)
theorem ae3 : elt (ob H p s) (p + 3) i = .int (sA s 3 i.toNatClampNeg) := elt_I (t := 2) (ty := .int) rfl (by decide) (by decide)
theorem as3 : wr (ob H p s) (p + 3) q (.int v) = ob H p (uA s 3 q v) := wr_A (t := 2) (ty := .int) rfl (by decide) (by decide)
theorem ai4 : inA (ob H p s) (p + 4) .boolean i = true ↔ (0 ≤ i.toInt ∧ i.toInt < 24) := inA_I (t := 3) rfl (by decide) (by decide)
theorem aw4 : inAw (ob H p s) (p + 4) .boolean i = true ↔ (0 ≤ i.toInt ∧ i.toInt < 24) := inAw_I (t := 3) rfl (by decide) (by decide)
theorem ain4 : inA (ob H p s) (p + 4) .byte i = true ↔ False := inA_no (t := 3) (ty := .boolean) rfl (by decide) (by decide) (by decide)
theorem awn4 : inAw (ob H p s) (p + 4) .byte i = true ↔ False := inAw_no (t := 3) (ty := .boolean) rfl (by decide) (by decide) (by decide)
theorem ae4 : elt (ob H p s) (p + 4) i = .int (sA s 4 i.toNatClampNeg) := elt_I (t := 3) (ty := .boolean) rfl (by decide) (by decide)
theorem as4 : wr (ob H p s) (p + 4) q (.int v) = ob H p (uA s 4 q v) := wr_A (t := 3) (ty := .boolean) rfl (by decide) (by decide)
theorem ai5 : inA (ob H p s) (p + 5) .long i = true ↔ (0 ≤ i.toInt ∧ i.toInt < 24) := inA_J (t := 4) rfl (by decide)
theorem aw5 : inAw (ob H p s) (p + 5) .long i = true ↔ (0 ≤ i.toInt ∧ i.toInt < 24) := inAw_J (t := 4) rfl (by decide)
theorem ae5 : elt (ob H p s) (p + 5) i = .long (sB s 5 i.toNatClampNeg) := elt_J (t := 4) rfl (by decide)
theorem as5 : wr (ob H p s) (p + 5) q (.long w) = ob H p (uB s 5 q w) := wr_B (t := 4) rfl (by decide)
theorem ai6 : inA (ob H p s) (p + 6) .long i = true ↔ (0 ≤ i.toInt ∧ i.toInt < 600) := inA_J (t := 5) rfl (by decide)
theorem aw6 : inAw (ob H p s) (p + 6) .long i = true ↔ (0 ≤ i.toInt ∧ i.toInt < 600) := inAw_J (t := 5) rfl (by decide)
theorem ae6 : elt (ob H p s) (p + 6) i = .long (sB s 6 i.toNatClampNeg) := elt_J (t := 5) rfl (by decide)
theorem as6 : wr (ob H p s) (p + 6) q (.long w) = ob H p (uB s 6 q w) := wr_B (t := 5) rfl (by decide)
theorem ai7 : inA (ob H p s) (p + 7) .boolean i = true ↔ (0 ≤ i.toInt ∧ i.toInt < 576) := inA_I (t := 6) rfl (by decide) (by decide)
theorem aw7 : inAw (ob H p s) (p + 7) .boolean i = true ↔ (0 ≤ i.toInt ∧ i.toInt < 576) := inAw_I (t := 6) rfl (by decide) (by decide)
theorem ain7 : inA (ob H p s) (p + 7) .byte i = true ↔ False := inA_no (t := 6) (ty := .boolean) rfl (by decide) (by decide) (by decide)
theorem awn7 : inAw (ob H p s) (p + 7) .byte i = true ↔ False := inAw_no (t := 6) (ty := .boolean) rfl (by decide) (by decide) (by decide)
theorem ae7 : elt (ob H p s) (p + 7) i = .int (sA s 7 i.toNatClampNeg) := elt_I (t := 6) (ty := .boolean) rfl (by decide) (by decide)
theorem as7 : wr (ob H p s) (p + 7) q (.int v) = ob H p (uA s 7 q v) := wr_A (t := 6) (ty := .boolean) rfl (by decide) (by decide)
theorem ai8 : inA (ob H p s) (p + 8) .int i = true ↔ (0 ≤ i.toInt ∧ i.toInt < 24) := inA_I (t := 7) rfl (by decide) (by decide)
theorem aw8 : inAw (ob H p s) (p + 8) .int i = true ↔ (0 ≤ i.toInt ∧ i.toInt < 24) := inAw_I (t := 7) rfl (by decide) (by decide)
theorem ae8 : elt (ob H p s) (p + 8) i = .int (sA s 8 i.toNatClampNeg) := elt_I (t := 7) (ty := .int) rfl (by decide) (by decide)
theorem as8 : wr (ob H p s) (p + 8) q (.int v) = ob H p (uA s 8 q v) := wr_A (t := 7) (ty := .int) rfl (by decide) (by decide)
theorem ai9 : inA (ob H p s) (p + 9) .int i = true ↔ (0 ≤ i.toInt ∧ i.toInt < 24) := inA_I (t := 8) rfl (by decide) (by decide)
theorem aw9 : inAw (ob H p s) (p + 9) .int i = true ↔ (0 ≤ i.toInt ∧ i.toInt < 24) := inAw_I (t := 8) rfl (by decide) (by decide)
theorem ae9 : elt (ob H p s) (p + 9) i = .int (sA s 9 i.toNatClampNeg) := elt_I (t := 8) (ty := .int) rfl (by decide) (by decide)
theorem as9 : wr (ob H p s) (p + 9) q (.int v) = ob H p (uA s 9 q v) := wr_A (t := 8) (ty := .int) rfl (by decide) (by decide)
theorem ai10 : inA (ob H p s) (p + 10) .int i = true ↔ (0 ≤ i.toInt ∧ i.toInt < 24) := inA_I (t := 9) rfl (by decide) (by decide)
theorem aw10 : inAw (ob H p s) (p + 10) .int i = true ↔ (0 ≤ i.toInt ∧ i.toInt < 24) := inAw_I (t := 9) rfl (by decide) (by decide)
theorem ae10 : elt (ob H p s) (p + 10) i = .int (sA s 10 i.toNatClampNeg) := elt_I (t := 9) (ty := .int) rfl (by decide) (by decide)
theorem as10 : wr (ob H p s) (p + 10) q (.int v) = ob H p (uA s 10 q v) := wr_A (t := 9) (ty := .int) rfl (by decide) (by decide)
theorem mkO_ob {lw : LW} : mkO (pj lw) H = put lay 0 (H.1 + 1, H.2) H.1 z0 := mkO_put rfl (fun k => match k with | 0 => rfl | 1 => rfl | 2 => rfl | 3 => rfl | 4 => rfl | 5 => rfl | 6 => rfl | 7 => rfl | 8 => rfl | 9 => rfl | 10 => rfl | 11 => rfl | 12 => rfl | 13 => rfl | 14 => rfl | 15 => rfl | 16 => rfl | 17 => rfl | 18 => rfl | 19 => rfl | 20 => rfl | (_ + 21) => rfl)
theorem mk1 {h : Nat → Cel} (hz : zr s 1) : wr (mkA .boolean 576 (put lay 0 (p + 1, h) p s)) p 2 (.ref (p + 1)) = put lay 1 (p + 2, h) p s := mkA_put (j := 0) rfl rfl (by decide) hz.1 hz.2 (Or.inr (Or.inr (Or.inr rfl)))
theorem io1 {h : Nat → Cel} : isOw (mkA .boolean 576 (put lay 0 (p + 1, h) p s)) p = true := isOw_mk (c := 0)
theorem mk2 {h : Nat → Cel} (hz : zr s 2) : wr (mkA .int 576 (put lay 1 (p + 2, h) p s)) p 3 (.ref (p + 2)) = put lay 2 (p + 3, h) p s := mkA_put (j := 1) rfl rfl (by decide) hz.1 hz.2 (Or.inl rfl)
theorem io2 {h : Nat → Cel} : isOw (mkA .int 576 (put lay 1 (p + 2, h) p s)) p = true := isOw_mk (c := 1)
theorem mk3 {h : Nat → Cel} (hz : zr s 3) : wr (mkA .int 24 (put lay 2 (p + 3, h) p s)) p 8 (.ref (p + 3)) = put lay 3 (p + 4, h) p s := mkA_put (j := 2) rfl rfl (by decide) hz.1 hz.2 (Or.inl rfl)
theorem io3 {h : Nat → Cel} : isOw (mkA .int 24 (put lay 2 (p + 3, h) p s)) p = true := isOw_mk (c := 2)
theorem mk4 {h : Nat → Cel} (hz : zr s 4) : wr (mkA .boolean 24 (put lay 3 (p + 4, h) p s)) p 9 (.ref (p + 4)) = put lay 4 (p + 5, h) p s := mkA_put (j := 3) rfl rfl (by decide) hz.1 hz.2 (Or.inr (Or.inr (Or.inr rfl)))
theorem io4 {h : Nat → Cel} : isOw (mkA .boolean 24 (put lay 3 (p + 4, h) p s)) p = true := isOw_mk (c := 3)
theorem mk5 {h : Nat → Cel} (hz : zr s 5) : wr (mkA .long 24 (put lay 4 (p + 5, h) p s)) p 10 (.ref (p + 5)) = put lay 5 (p + 6, h) p s := mkA_put (j := 4) rfl rfl (by decide) hz.1 hz.2 (Or.inr (Or.inl rfl))
theorem io5 {h : Nat → Cel} : isOw (mkA .long 24 (put lay 4 (p + 5, h) p s)) p = true := isOw_mk (c := 4)
theorem mk6 {h : Nat → Cel} (hz : zr s 6) : wr (mkA .long 600 (put lay 5 (p + 6, h) p s)) p 11 (.ref (p + 6)) = put lay 6 (p + 7, h) p s := mkA_put (j := 5) rfl rfl (by decide) hz.1 hz.2 (Or.inr (Or.inl rfl))
theorem io6 {h : Nat → Cel} : isOw (mkA .long 600 (put lay 5 (p + 6, h) p s)) p = true := isOw_mk (c := 5)
theorem mk7 {h : Nat → Cel} (hz : zr s 7) : wr (mkA .boolean 576 (put lay 6 (p + 7, h) p s)) p 12 (.ref (p + 7)) = put lay 7 (p + 8, h) p s := mkA_put (j := 6) rfl rfl (by decide) hz.1 hz.2 (Or.inr (Or.inr (Or.inr rfl)))
theorem io7 {h : Nat → Cel} : isOw (mkA .boolean 576 (put lay 6 (p + 7, h) p s)) p = true := isOw_mk (c := 6)
theorem mk8 {h : Nat → Cel} (hz : zr s 8) : wr (mkA .int 24 (put lay 7 (p + 8, h) p s)) p 13 (.ref (p + 8)) = put lay 8 (p + 9, h) p s := mkA_put (j := 7) rfl rfl (by decide) hz.1 hz.2 (Or.inl rfl)
theorem io8 {h : Nat → Cel} : isOw (mkA .int 24 (put lay 7 (p + 8, h) p s)) p = true := isOw_mk (c := 7)
theorem mk9 {h : Nat → Cel} (hz : zr s 9) : wr (mkA .int 24 (put lay 8 (p + 9, h) p s)) p 14 (.ref (p + 9)) = put lay 9 (p + 10, h) p s := mkA_put (j := 8) rfl rfl (by decide) hz.1 hz.2 (Or.inl rfl)
theorem io9 {h : Nat → Cel} : isOw (mkA .int 24 (put lay 8 (p + 9, h) p s)) p = true := isOw_mk (c := 8)
theorem mk10 {h : Nat → Cel} (hz : zr s 10) : wr (mkA .int 24 (put lay 9 (p + 10, h) p s)) p 15 (.ref (p + 10)) = put lay 10 (p + 11, h) p s := mkA_put (j := 9) rfl rfl (by decide) hz.1 hz.2 (Or.inl rfl)
theorem io10 {h : Nat → Cel} : isOw (mkA .int 24 (put lay 9 (p + 10, h) p s)) p = true := isOw_mk (c := 9)
end Acc
section Pc
variable {lw : LW} {L : List Slot} {S : List Value} {k n : Nat} {H : AH} {Q : Option Value → AH → Prop}
theorem c1 {x0 : Nat} {x1 : Int32} : Cl (pj lw) 1 [.ref x0, .int x1] H Q ↔ W (pj lw) 1 0 [.val (.ref x0), .val (.int x1), .unset] [] 0 0 H Q := cl_unf rfl
theorem w1_0 : W (pj lw) 1 0 (.val (.ref x) :: L) S k n H Q ↔ W (pj lw) 1 1 (.val (.ref x) :: L) (.ref x :: S) k n H Q := W_s rfl rfl rfl rfl
theorem w1_1 : W (pj lw) 1 1 L (.ref a :: S) k n H Q ↔ ((1 ≤ 1 ∧ cs S + 12 ≤ 12) ∧ W (pj lw) 1 4 L S k n H Q) := W_oinit (rfl : (pj lw).1 1 1 = some (.invokespecial 1, 3, (-1)))
theorem w1_4 : W (pj lw) 1 4 (.val (.ref x) :: L) S k n H Q ↔ W (pj lw) 1 5 (.val (.ref x) :: L) (.ref x :: S) k n H Q := W_s rfl rfl rfl rfl
theorem w1_5 : W (pj lw) 1 5 L S k n H Q ↔ W (pj lw) 1 8 L (.int 576 :: S) k n H Q := W_s rfl rfl rfl rfl
theorem w1_8 : W (pj lw) 1 8 L (.int 576 :: S) k n H Q ↔ ((k + 1 ≤ 10 ∧ n + 576 ≤ 2472) ∧ W (pj lw) 1 10 L (.ref H.1 :: S) (k + 1) (n + 576) (mkA .boolean 576 H) Q) := W_newarr' (rfl : (pj lw).1 1 8 = some (.newarray .boolean, 2, 0)) rfl (by decide) (by decide)
theorem w1_10 {a : Nat} {v : Value} : W (pj lw) 1 10 L (v :: .ref a :: S) k n H Q ↔ ((isOw H a = true ∧ okv (.array .boolean) v = true) ∧ W (pj lw) 1 13 L S k n (wr H a 2 v) Q) := W_putf (rfl : (pj lw).1 1 10 = some (.putfield 7, 3, 2))
theorem w1_13 : W (pj lw) 1 13 (.val (.ref x) :: L) S k n H Q ↔ W (pj lw) 1 14 (.val (.ref x) :: L) (.ref x :: S) k n H Q := W_s rfl rfl rfl rfl
theorem w1_14 : W (pj lw) 1 14 L S k n H Q ↔ W (pj lw) 1 17 L (.int 576 :: S) k n H Q := W_s rfl rfl rfl rfl
theorem w1_17 : W (pj lw) 1 17 L (.int 576 :: S) k n H Q ↔ ((k + 1 ≤ 10 ∧ n + 576 ≤ 2472) ∧ W (pj lw) 1 19 L (.ref H.1 :: S) (k + 1) (n + 576) (mkA .int 576 H) Q) := W_newarr' (rfl : (pj lw).1 1 17 = some (.newarray .int, 2, 0)) rfl (by decide) (by decide)
theorem w1_19 {a : Nat} {v : Value} : W (pj lw) 1 19 L (v :: .ref a :: S) k n H Q ↔ ((isOw H a = true ∧ okv (.array .int) v = true) ∧ W (pj lw) 1 22 L S k n (wr H a 3 v) Q) := W_putf (rfl : (pj lw).1 1 19 = some (.putfield 13, 3, 3))
theorem w1_22 : W (pj lw) 1 22 (.val (.ref x) :: L) S k n H Q ↔ W (pj lw) 1 23 (.val (.ref x) :: L) (.ref x :: S) k n H Q := W_s rfl rfl rfl rfl
theorem w1_23 : W (pj lw) 1 23 L S k n H Q ↔ W (pj lw) 1 25 L (.int 24 :: S) k n H Q := W_s rfl rfl rfl rfl
theorem w1_25 : W (pj lw) 1 25 L (.int 24 :: S) k n H Q ↔ ((k + 1 ≤ 10 ∧ n + 24 ≤ 2472) ∧ W (pj lw) 1 27 L (.ref H.1 :: S) (k + 1) (n + 24) (mkA .int 24 H) Q) := W_newarr' (rfl : (pj lw).1 1 25 = some (.newarray .int, 2, 0)) rfl (by decide) (by decide)
theorem w1_27 {a : Nat} {v : Value} : W (pj lw) 1 27 L (v :: .ref a :: S) k n H Q ↔ ((isOw H a = true ∧ okv (.array .int) v = true) ∧ W (pj lw) 1 30 L S k n (wr H a 8 v) Q) := W_putf (rfl : (pj lw).1 1 27 = some (.putfield 17, 3, 8))
theorem w1_30 : W (pj lw) 1 30 (.val (.ref x) :: L) S k n H Q ↔ W (pj lw) 1 31 (.val (.ref x) :: L) (.ref x :: S) k n H Q := W_s rfl rfl rfl rfl
theorem w1_31 : W (pj lw) 1 31 L S k n H Q ↔ W (pj lw) 1 33 L (.int 24 :: S) k n H Q := W_s rfl rfl rfl rfl
theorem w1_33 : W (pj lw) 1 33 L (.int 24 :: S) k n H Q ↔ ((k + 1 ≤ 10 ∧ n + 24 ≤ 2472) ∧ W (pj lw) 1 35 L (.ref H.1 :: S) (k + 1) (n + 24) (mkA .boolean 24 H) Q) := W_newarr' (rfl : (pj lw).1 1 33 = some (.newarray .boolean, 2, 0)) rfl (by decide) (by decide)
theorem w1_35 {a : Nat} {v : Value} : W (pj lw) 1 35 L (v :: .ref a :: S) k n H Q ↔ ((isOw H a = true ∧ okv (.array .boolean) v = true) ∧ W (pj lw) 1 38 L S k n (wr H a 9 v) Q) := W_putf (rfl : (pj lw).1 1 35 = some (.putfield 20, 3, 9))
theorem w1_38 : W (pj lw) 1 38 (.val (.ref x) :: L) S k n H Q ↔ W (pj lw) 1 39 (.val (.ref x) :: L) (.ref x :: S) k n H Q := W_s rfl rfl rfl rfl
theorem w1_39 : W (pj lw) 1 39 L S k n H Q ↔ W (pj lw) 1 41 L (.int 24 :: S) k n H Q := W_s rfl rfl rfl rfl
theorem w1_41 : W (pj lw) 1 41 L (.int 24 :: S) k n H Q ↔ ((k + 1 ≤ 10 ∧ n + 24 ≤ 2472) ∧ W (pj lw) 1 43 L (.ref H.1 :: S) (k + 1) (n + 24) (mkA .long 24 H) Q) := W_newarr' (rfl : (pj lw).1 1 41 = some (.newarray .long, 2, 0)) rfl (by decide) (by decide)
theorem w1_43 {a : Nat} {v : Value} : W (pj lw) 1 43 L (v :: .ref a :: S) k n H Q ↔ ((isOw H a = true ∧ okv (.array .long) v = true) ∧ W (pj lw) 1 46 L S k n (wr H a 10 v) Q) := W_putf (rfl : (pj lw).1 1 43 = some (.putfield 23, 3, 10))
theorem w1_46 : W (pj lw) 1 46 (.val (.ref x) :: L) S k n H Q ↔ W (pj lw) 1 47 (.val (.ref x) :: L) (.ref x :: S) k n H Q := W_s rfl rfl rfl rfl
theorem w1_47 : W (pj lw) 1 47 L S k n H Q ↔ W (pj lw) 1 50 L (.int 600 :: S) k n H Q := W_s rfl rfl rfl rfl
theorem w1_50 : W (pj lw) 1 50 L (.int 600 :: S) k n H Q ↔ ((k + 1 ≤ 10 ∧ n + 600 ≤ 2472) ∧ W (pj lw) 1 52 L (.ref H.1 :: S) (k + 1) (n + 600) (mkA .long 600 H) Q) := W_newarr' (rfl : (pj lw).1 1 50 = some (.newarray .long, 2, 0)) rfl (by decide) (by decide)
theorem w1_52 {a : Nat} {v : Value} : W (pj lw) 1 52 L (v :: .ref a :: S) k n H Q ↔ ((isOw H a = true ∧ okv (.array .long) v = true) ∧ W (pj lw) 1 55 L S k n (wr H a 11 v) Q) := W_putf (rfl : (pj lw).1 1 52 = some (.putfield 27, 3, 11))
theorem w1_55 : W (pj lw) 1 55 (.val (.ref x) :: L) S k n H Q ↔ W (pj lw) 1 56 (.val (.ref x) :: L) (.ref x :: S) k n H Q := W_s rfl rfl rfl rfl
theorem w1_56 : W (pj lw) 1 56 L S k n H Q ↔ W (pj lw) 1 59 L (.int 576 :: S) k n H Q := W_s rfl rfl rfl rfl
theorem w1_59 : W (pj lw) 1 59 L (.int 576 :: S) k n H Q ↔ ((k + 1 ≤ 10 ∧ n + 576 ≤ 2472) ∧ W (pj lw) 1 61 L (.ref H.1 :: S) (k + 1) (n + 576) (mkA .boolean 576 H) Q) := W_newarr' (rfl : (pj lw).1 1 59 = some (.newarray .boolean, 2, 0)) rfl (by decide) (by decide)
theorem w1_61 {a : Nat} {v : Value} : W (pj lw) 1 61 L (v :: .ref a :: S) k n H Q ↔ ((isOw H a = true ∧ okv (.array .boolean) v = true) ∧ W (pj lw) 1 64 L S k n (wr H a 12 v) Q) := W_putf (rfl : (pj lw).1 1 61 = some (.putfield 30, 3, 12))
theorem w1_64 : W (pj lw) 1 64 (.val (.ref x) :: L) S k n H Q ↔ W (pj lw) 1 65 (.val (.ref x) :: L) (.ref x :: S) k n H Q := W_s rfl rfl rfl rfl
theorem w1_65 : W (pj lw) 1 65 L S k n H Q ↔ W (pj lw) 1 67 L (.int 24 :: S) k n H Q := W_s rfl rfl rfl rfl
theorem w1_67 : W (pj lw) 1 67 L (.int 24 :: S) k n H Q ↔ ((k + 1 ≤ 10 ∧ n + 24 ≤ 2472) ∧ W (pj lw) 1 69 L (.ref H.1 :: S) (k + 1) (n + 24) (mkA .int 24 H) Q) := W_newarr' (rfl : (pj lw).1 1 67 = some (.newarray .int, 2, 0)) rfl (by decide) (by decide)
theorem w1_69 {a : Nat} {v : Value} : W (pj lw) 1 69 L (v :: .ref a :: S) k n H Q ↔ ((isOw H a = true ∧ okv (.array .int) v = true) ∧ W (pj lw) 1 72 L S k n (wr H a 13 v) Q) := W_putf (rfl : (pj lw).1 1 69 = some (.putfield 33, 3, 13))
theorem w1_72 : W (pj lw) 1 72 (.val (.ref x) :: L) S k n H Q ↔ W (pj lw) 1 73 (.val (.ref x) :: L) (.ref x :: S) k n H Q := W_s rfl rfl rfl rfl
theorem w1_73 : W (pj lw) 1 73 L S k n H Q ↔ W (pj lw) 1 75 L (.int 24 :: S) k n H Q := W_s rfl rfl rfl rfl
theorem w1_75 : W (pj lw) 1 75 L (.int 24 :: S) k n H Q ↔ ((k + 1 ≤ 10 ∧ n + 24 ≤ 2472) ∧ W (pj lw) 1 77 L (.ref H.1 :: S) (k + 1) (n + 24) (mkA .int 24 H) Q) := W_newarr' (rfl : (pj lw).1 1 75 = some (.newarray .int, 2, 0)) rfl (by decide) (by decide)
theorem w1_77 {a : Nat} {v : Value} : W (pj lw) 1 77 L (v :: .ref a :: S) k n H Q ↔ ((isOw H a = true ∧ okv (.array .int) v = true) ∧ W (pj lw) 1 80 L S k n (wr H a 14 v) Q) := W_putf (rfl : (pj lw).1 1 77 = some (.putfield 36, 3, 14))
theorem w1_80 : W (pj lw) 1 80 (.val (.ref x) :: L) S k n H Q ↔ W (pj lw) 1 81 (.val (.ref x) :: L) (.ref x :: S) k n H Q := W_s rfl rfl rfl rfl
theorem w1_81 : W (pj lw) 1 81 L S k n H Q ↔ W (pj lw) 1 83 L (.int 24 :: S) k n H Q := W_s rfl rfl rfl rfl
theorem w1_83 : W (pj lw) 1 83 L (.int 24 :: S) k n H Q ↔ ((k + 1 ≤ 10 ∧ n + 24 ≤ 2472) ∧ W (pj lw) 1 85 L (.ref H.1 :: S) (k + 1) (n + 24) (mkA .int 24 H) Q) := W_newarr' (rfl : (pj lw).1 1 83 = some (.newarray .int, 2, 0)) rfl (by decide) (by decide)
theorem w1_85 {a : Nat} {v : Value} : W (pj lw) 1 85 L (v :: .ref a :: S) k n H Q ↔ ((isOw H a = true ∧ okv (.array .int) v = true) ∧ W (pj lw) 1 88 L S k n (wr H a 15 v) Q) := W_putf (rfl : (pj lw).1 1 85 = some (.putfield 39, 3, 15))
theorem w1_88 : W (pj lw) 1 88 (.val (.ref x) :: L) S k n H Q ↔ W (pj lw) 1 89 (.val (.ref x) :: L) (.ref x :: S) k n H Q := W_s rfl rfl rfl rfl
theorem w1_89 : W (pj lw) 1 89 L S k n H Q ↔ W (pj lw) 1 92 L (.long 4000000000000000000 :: S) k n H Q := W_s rfl rfl rfl rfl
theorem w1_92 {a : Nat} {v : Value} : W (pj lw) 1 92 L (v :: .ref a :: S) k n H Q ↔ ((isOw H a = true ∧ okv (.long) v = true) ∧ W (pj lw) 1 95 L S k n (wr H a 16 v) Q) := W_putf (rfl : (pj lw).1 1 92 = some (.putfield 44, 3, 16))
theorem w1_95 : W (pj lw) 1 95 (l0 :: .val (.int x) :: L) S k n H Q ↔ W (pj lw) 1 96 (l0 :: .val (.int x) :: L) (.int x :: S) k n H Q := W_s rfl rfl rfl rfl
theorem w1_96 : W (pj lw) 1 96 (l0 :: l1 :: .unset :: L) (.int x :: S) k n H Q ↔ W (pj lw) 1 97 (l0 :: l1 :: .val (.int x) :: L) S k n H Q := W_istn (rfl : (pj lw).1 1 96 = some (.istore_n 2, 1, 0)) rfl rfl
theorem w1_97 : W (pj lw) 1 97 (l0 :: l1 :: .val (.int x) :: L) S k n H Q ↔ W (pj lw) 1 98 (l0 :: l1 :: .val (.int x) :: L) (.int x :: S) k n H Q := W_s rfl rfl rfl rfl
theorem w1_98 : W (pj lw) 1 98 L S k n H Q ↔ W (pj lw) 1 99 L (.int 1 :: S) k n H Q := W_s rfl rfl rfl rfl
theorem w1_99 : W (pj lw) 1 99 L (.int y :: .int x :: S) k n H Q ↔ (if x < y then W (pj lw) 1 102 L S k n H Q else W (pj lw) 1 104 L S k n H Q) := W_icmp_ge (rfl : (pj lw).1 1 99 = some (.if_icmp .ge 5, 3, 0)) rfl
theorem w1_102 : W (pj lw) 1 102 L S k n H Q ↔ W (pj lw) 1 103 L (.int 1 :: S) k n H Q := W_s rfl rfl rfl rfl
theorem w1_103i : W (pj lw) 1 103 (l0 :: l1 :: .val (.int y) :: L) (.int x :: S) k n H Q ↔ W (pj lw) 1 104 (l0 :: l1 :: .val (.int x) :: L) S k n H Q := W_istn (rfl : (pj lw).1 1 103 = some (.istore_n 2, 1, 0)) rfl rfl
theorem w1_104 : W (pj lw) 1 104 (l0 :: l1 :: .val (.int x) :: L) S k n H Q ↔ W (pj lw) 1 105 (l0 :: l1 :: .val (.int x) :: L) (.int x :: S) k n H Q := W_s rfl rfl rfl rfl
theorem w1_105 : W (pj lw) 1 105 L S k n H Q ↔ W (pj lw) 1 107 L (.int 24 :: S) k n H Q := W_s rfl rfl rfl rfl
theorem w1_107 : W (pj lw) 1 107 L (.int y :: .int x :: S) k n H Q ↔ (if y < x then W (pj lw) 1 110 L S k n H Q else W (pj lw) 1 113 L S k n H Q) := W_icmp_le (rfl : (pj lw).1 1 107 = some (.if_icmp .le 6, 3, 0)) rfl
theorem w1_110 : W (pj lw) 1 110 L S k n H Q ↔ W (pj lw) 1 112 L (.int 24 :: S) k n H Q := W_s rfl rfl rfl rfl
theorem w1_112i : W (pj lw) 1 112 (l0 :: l1 :: .val (.int y) :: L) (.int x :: S) k n H Q ↔ W (pj lw) 1 113 (l0 :: l1 :: .val (.int x) :: L) S k n H Q := W_istn (rfl : (pj lw).1 1 112 = some (.istore_n 2, 1, 0)) rfl rfl
theorem w1_113 : W (pj lw) 1 113 (.val (.ref x) :: L) S k n H Q ↔ W (pj lw) 1 114 (.val (.ref x) :: L) (.ref x :: S) k n H Q := W_s rfl rfl rfl rfl
theorem w1_114 : W (pj lw) 1 114 (l0 :: l1 :: .val (.int x) :: L) S k n H Q ↔ W (pj lw) 1 115 (l0 :: l1 :: .val (.int x) :: L) (.int x :: S) k n H Q := W_s rfl rfl rfl rfl
theorem w1_115 {a : Nat} {v : Value} : W (pj lw) 1 115 L (v :: .ref a :: S) k n H Q ↔ ((isOw H a = true ∧ okv (.int) v = true) ∧ W (pj lw) 1 118 L S k n (wr H a 0 v) Q) := W_putf (rfl : (pj lw).1 1 115 = some (.putfield 48, 3, 0))
theorem w1_118 : W (pj lw) 1 118 L [] k n H Q ↔ Q none H := W_r rfl rfl
theorem c2 {x0 : Nat} {x1 : Int32} : Cl (pj lw) 2 [.ref x0, .int x1] H Q ↔ W (pj lw) 2 0 [.val (.ref x0), .val (.int x1)] [] 0 0 H Q := cl_unf rfl
theorem w2_0 : W (pj lw) 2 0 (l0 :: .val (.int x) :: L) S k n H Q ↔ W (pj lw) 2 1 (l0 :: .val (.int x) :: L) (.int x :: S) k n H Q := W_s rfl rfl rfl rfl
theorem w2_1 : W (pj lw) 2 1 L (.int x :: S) k n H Q ↔ (if x < 0 then W (pj lw) 2 16 L S k n H Q else W (pj lw) 2 4 L S k n H Q) := W_if_lt (rfl : (pj lw).1 2 1 = some (.ifCond .lt 15, 3, 0)) rfl
theorem w2_4 : W (pj lw) 2 4 (l0 :: .val (.int x) :: L) S k n H Q ↔ W (pj lw) 2 5 (l0 :: .val (.int x) :: L) (.int x :: S) k n H Q := W_s rfl rfl rfl rfl
theorem w2_5 : W (pj lw) 2 5 (.val (.ref x) :: L) S k n H Q ↔ W (pj lw) 2 6 (.val (.ref x) :: L) (.ref x :: S) k n H Q := W_s rfl rfl rfl rfl
theorem w2_6 : W (pj lw) 2 6 L (.ref a :: S) k n H Q ↔ (isO H a = true ∧ W (pj lw) 2 9 L (fld H a 0 :: S) k n H Q) := W_getf (rfl : (pj lw).1 2 6 = some (.getfield 48, 3, 0))
theorem w2_9 : W (pj lw) 2 9 L (.int y :: .int x :: S) k n H Q ↔ (if x < y then W (pj lw) 2 12 L S k n H Q else W (pj lw) 2 16 L S k n H Q) := W_icmp_ge (rfl : (pj lw).1 2 9 = some (.if_icmp .ge 7, 3, 0)) rfl
theorem w2_12 : W (pj lw) 2 12 L S k n H Q ↔ W (pj lw) 2 13 L (.int 1 :: S) k n H Q := W_s rfl rfl rfl rfl
theorem w2_13 : W (pj lw) 2 13 L S k n H Q ↔ W (pj lw) 2 17 L S k n H Q := W_goto rfl rfl
theorem w2_16 : W (pj lw) 2 16 L S k n H Q ↔ W (pj lw) 2 17 L (.int 0 :: S) k n H Q := W_s rfl rfl rfl rfl
theorem w2_17 : W (pj lw) 2 17 L (.int x :: S) k n H Q ↔ ((x = 0 ∨ x = 1) ∧ Q (some (.int x)) H) := W_rz rfl rfl
theorem c3 {x0 : Nat} {x1 : Int32} : Cl (pj lw) 3 [.ref x0, .int x1] H Q ↔ W (pj lw) 3 0 [.val (.ref x0), .val (.int x1)] [] 0 0 H Q := cl_unf rfl
theorem w3_0 : W (pj lw) 3 0 (l0 :: .val (.int x) :: L) S k n H Q ↔ W (pj lw) 3 1 (l0 :: .val (.int x) :: L) (.int x :: S) k n H Q := W_s rfl rfl rfl rfl
theorem w3_1 : W (pj lw) 3 1 L S k n H Q ↔ W (pj lw) 3 4 L (.int (-10000) :: S) k n H Q := W_s rfl rfl rfl rfl
theorem w3_4 : W (pj lw) 3 4 L (.int y :: .int x :: S) k n H Q ↔ (if x < y then W (pj lw) 3 18 L S k n H Q else W (pj lw) 3 7 L S k n H Q) := W_icmp_lt (rfl : (pj lw).1 3 4 = some (.if_icmp .lt 14, 3, 0)) rfl
theorem w3_7 : W (pj lw) 3 7 (l0 :: .val (.int x) :: L) S k n H Q ↔ W (pj lw) 3 8 (l0 :: .val (.int x) :: L) (.int x :: S) k n H Q := W_s rfl rfl rfl rfl
theorem w3_8 : W (pj lw) 3 8 L S k n H Q ↔ W (pj lw) 3 11 L (.int 10000 :: S) k n H Q := W_s rfl rfl rfl rfl
theorem w3_11 : W (pj lw) 3 11 L (.int y :: .int x :: S) k n H Q ↔ (if y < x then W (pj lw) 3 18 L S k n H Q else W (pj lw) 3 14 L S k n H Q) := W_icmp_gt (rfl : (pj lw).1 3 11 = some (.if_icmp .gt 7, 3, 0)) rfl
theorem w3_14 : W (pj lw) 3 14 L S k n H Q ↔ W (pj lw) 3 15 L (.int 1 :: S) k n H Q := W_s rfl rfl rfl rfl
theorem w3_15 : W (pj lw) 3 15 L S k n H Q ↔ W (pj lw) 3 19 L S k n H Q := W_goto rfl rfl
theorem w3_18 : W (pj lw) 3 18 L S k n H Q ↔ W (pj lw) 3 19 L (.int 0 :: S) k n H Q := W_s rfl rfl rfl rfl
theorem w3_19 : W (pj lw) 3 19 L (.int x :: S) k n H Q ↔ ((x = 0 ∨ x = 1) ∧ Q (some (.int x)) H) := W_rz rfl rfl
theorem c4 {x0 : Nat} : Cl (pj lw) 4 [.ref x0] H Q ↔ W (pj lw) 4 0 [.val (.ref x0)] [] 0 0 H Q := cl_unf rfl
theorem w4_0 : W (pj lw) 4 0 (.val (.ref x) :: L) S k n H Q ↔ W (pj lw) 4 1 (.val (.ref x) :: L) (.ref x :: S) k n H Q := W_s rfl rfl rfl rfl
theorem w4_1 : W (pj lw) 4 1 L S k n H Q ↔ W (pj lw) 4 2 L (.int 0 :: S) k n H Q := W_s rfl rfl rfl rfl
theorem w4_2 {a : Nat} {v : Value} : W (pj lw) 4 2 L (v :: .ref a :: S) k n H Q ↔ ((isOw H a = true ∧ okv (.boolean) v = true) ∧ W (pj lw) 4 5 L S k n (wr H a 4 v) Q) := W_putf (rfl : (pj lw).1 4 2 = some (.putfield 52, 3, 4))
theorem w4_5 : W (pj lw) 4 5 (.val (.ref x) :: L) S k n H Q ↔ W (pj lw) 4 6 (.val (.ref x) :: L) (.ref x :: S) k n H Q := W_s rfl rfl rfl rfl
theorem w4_6 : W (pj lw) 4 6 L S k n H Q ↔ W (pj lw) 4 7 L (.int 0 :: S) k n H Q := W_s rfl rfl rfl rfl
theorem w4_7 {a : Nat} {v : Value} : W (pj lw) 4 7 L (v :: .ref a :: S) k n H Q ↔ ((isOw H a = true ∧ okv (.boolean) v = true) ∧ W (pj lw) 4 10 L S k n (wr H a 5 v) Q) := W_putf (rfl : (pj lw).1 4 7 = some (.putfield 56, 3, 5))
theorem w4_10 : W (pj lw) 4 10 L [] k n H Q ↔ Q none H := W_r rfl rfl
theorem c5 {x0 : Nat} {x1 : Int32} {x2 : Int32} {x3 : Int32} : Cl (pj lw) 5 [.ref x0, .int x1, .int x2, .int x3] H Q ↔ W (pj lw) 5 0 [.val (.ref x0), .val (.int x1), .val (.int x2), .val (.int x3), .unset] [] 0 0 H Q := cl_unf rfl
theorem w5_0 : W (pj lw) 5 0 (.val (.ref x) :: L) S k n H Q ↔ W (pj lw) 5 1 (.val (.ref x) :: L) (.ref x :: S) k n H Q := W_s rfl rfl rfl rfl
theorem w5_1 : W (pj lw) 5 1 (l0 :: .val (.int x) :: L) S k n H Q ↔ W (pj lw) 5 2 (l0 :: .val (.int x) :: L) (.int x :: S) k n H Q := W_s rfl rfl rfl rfl
theorem w5_2 : W (pj lw) 5 2 L (.int x0 :: .ref a :: S) k n H Q ↔ ((isO H a = true ∧ cs S + (2 + 11) + 0 ≤ 13) ∧ Cl (pj lw) 2 [.ref a, .int x0] H (fun v H => W (pj lw) 5 5 L (v.toList ++ S) k n H Q)) := W_inst (as := [.int x0]) (rfl : (pj lw).1 5 2 = some (.invokevirtual 59, 3, 2)) rfl rfl rfl (Nat.le_of_ble_eq_true rfl) (Nat.le_of_ble_eq_true rfl) ⟨rfl, rfl⟩
theorem w5_5 : W (pj lw) 5 5 L (.int x :: S) k n H Q ↔ (if x = 0 then W (pj lw) 5 16 L S k n H Q else W (pj lw) 5 8 L S k n H Q) := W_if_eq (rfl : (pj lw).1 5 5 = some (.ifCond .eq 11, 3, 0)) rfl
theorem w5_8 : W (pj lw) 5 8 (.val (.ref x) :: L) S k n H Q ↔ W (pj lw) 5 9 (.val (.ref x) :: L) (.ref x :: S) k n H Q := W_s rfl rfl rfl rfl
theorem w5_9 : W (pj lw) 5 9 (l0 :: l1 :: .val (.int x) :: L) S k n H Q ↔ W (pj lw) 5 10 (l0 :: l1 :: .val (.int x) :: L) (.int x :: S) k n H Q := W_s rfl rfl rfl rfl
theorem w5_10 : W (pj lw) 5 10 L (.int x0 :: .ref a :: S) k n H Q ↔ ((isO H a = true ∧ cs S + (2 + 11) + 0 ≤ 13) ∧ Cl (pj lw) 2 [.ref a, .int x0] H (fun v H => W (pj lw) 5 13 L (v.toList ++ S) k n H Q)) := W_inst (as := [.int x0]) (rfl : (pj lw).1 5 10 = some (.invokevirtual 59, 3, 2)) rfl rfl rfl (Nat.le_of_ble_eq_true rfl) (Nat.le_of_ble_eq_true rfl) ⟨rfl, rfl⟩
theorem w5_13 : W (pj lw) 5 13 L (.int x :: S) k n H Q ↔ (if x = 0 then W (pj lw) 5 16 L S k n H Q else W (pj lw) 5 18 L S k n H Q) := W_if_ne (rfl : (pj lw).1 5 13 = some (.ifCond .ne 5, 3, 0)) rfl
theorem w5_16 : W (pj lw) 5 16 L S k n H Q ↔ W (pj lw) 5 17 L (.int 1 :: S) k n H Q := W_s rfl rfl rfl rfl
theorem w5_17 : W (pj lw) 5 17 L (.int x :: S) k n H Q ↔ Q (some (.int x)) H := W_r rfl rfl
theorem w5_18 : W (pj lw) 5 18 (.val (.ref x) :: L) S k n H Q ↔ W (pj lw) 5 19 (.val (.ref x) :: L) (.ref x :: S) k n H Q := W_s rfl rfl rfl rfl
theorem w5_19 : W (pj lw) 5 19 (l0 :: l1 :: l2 :: .val (.int x) :: L) S k n H Q ↔ W (pj lw) 5 20 (l0 :: l1 :: l2 :: .val (.int x) :: L) (.int x :: S) k n H Q := W_s rfl rfl rfl rfl
theorem w5_20 : W (pj lw) 5 20 L (.int x0 :: .ref a :: S) k n H Q ↔ ((isO H a = true ∧ cs S + (2 + 11) + 0 ≤ 13) ∧ Cl (pj lw) 3 [.ref a, .int x0] H (fun v H => W (pj lw) 5 23 L (v.toList ++ S) k n H Q)) := W_inst (as := [.int x0]) (rfl : (pj lw).1 5 20 = some (.invokevirtual 63, 3, 3)) rfl rfl rfl (Nat.le_of_ble_eq_true rfl) (Nat.le_of_ble_eq_true rfl) ⟨rfl, rfl⟩
theorem w5_23 : W (pj lw) 5 23 L (.int x :: S) k n H Q ↔ (if x = 0 then W (pj lw) 5 26 L S k n H Q else W (pj lw) 5 28 L S k n H Q) := W_if_ne (rfl : (pj lw).1 5 23 = some (.ifCond .ne 5, 3, 0)) rfl
theorem w5_26 : W (pj lw) 5 26 L S k n H Q ↔ W (pj lw) 5 27 L (.int 2 :: S) k n H Q := W_s rfl rfl rfl rfl
theorem w5_27 : W (pj lw) 5 27 L (.int x :: S) k n H Q ↔ Q (some (.int x)) H := W_r rfl rfl
theorem w5_28 : W (pj lw) 5 28 (l0 :: .val (.int x) :: L) S k n H Q ↔ W (pj lw) 5 29 (l0 :: .val (.int x) :: L) (.int x :: S) k n H Q := W_s rfl rfl rfl rfl
theorem w5_29 : W (pj lw) 5 29 L S k n H Q ↔ W (pj lw) 5 31 L (.int 24 :: S) k n H Q := W_s rfl rfl rfl rfl
theorem w5_31 : W (pj lw) 5 31 L (.int y :: .int x :: S) k n H Q ↔ W (pj lw) 5 32 L (.int (x * y) :: S) k n H Q := W_s rfl rfl rfl rfl
theorem w5_32 : W (pj lw) 5 32 (l0 :: l1 :: .val (.int x) :: L) S k n H Q ↔ W (pj lw) 5 33 (l0 :: l1 :: .val (.int x) :: L) (.int x :: S) k n H Q := W_s rfl rfl rfl rfl
theorem w5_33 : W (pj lw) 5 33 L (.int y :: .int x :: S) k n H Q ↔ W (pj lw) 5 34 L (.int (x + y) :: S) k n H Q := W_s rfl rfl rfl rfl
theorem w5_34 : W (pj lw) 5 34 (l0 :: l1 :: l2 :: l3 :: .unset :: L) (.int x :: S) k n H Q ↔ W (pj lw) 5 36 (l0 :: l1 :: l2 :: l3 :: .val (.int x) :: L) S k n H Q := W_ist (rfl : (pj lw).1 5 34 = some (.istore 4, 2, 0)) rfl rfl
theorem w5_36 : W (pj lw) 5 36 (.val (.ref x) :: L) S k n H Q ↔ W (pj lw) 5 37 (.val (.ref x) :: L) (.ref x :: S) k n H Q := W_s rfl rfl rfl rfl
theorem w5_37 : W (pj lw) 5 37 L (.ref a :: S) k n H Q ↔ (isO H a = true ∧ W (pj lw) 5 40 L (fld H a 2 :: S) k n H Q) := W_getf (rfl : (pj lw).1 5 37 = some (.getfield 7, 3, 2))
theorem w5_40 : W (pj lw) 5 40 (l0 :: l1 :: l2 :: l3 :: .val (.int x) :: L) S k n H Q ↔ W (pj lw) 5 42 (l0 :: l1 :: l2 :: l3 :: .val (.int x) :: L) (.int x :: S) k n H Q := W_s rfl rfl rfl rfl
theorem w5_42 : W (pj lw) 5 42 L (.int i :: .ref a :: S) k n H Q ↔ ((inA H a .byte i = true ∨ inA H a .boolean i = true) ∧ W (pj lw) 5 43 L (elt H a i :: S) k n H Q) := W_baload (rfl : (pj lw).1 5 42 = some (.baload, 1, 0))
theorem w5_43 : W (pj lw) 5 43 L (.int x :: S) k n H Q ↔ (if x = 0 then W (pj lw) 5 48 L S k n H Q else W (pj lw) 5 46 L S k n H Q) := W_if_eq (rfl : (pj lw).1 5 43 = some (.ifCond .eq 5, 3, 0)) rfl
theorem w5_46 : W (pj lw) 5 46 L S k n H Q ↔ W (pj lw) 5 47 L (.int 3 :: S) k n H Q := W_s rfl rfl rfl rfl
theorem w5_47 : W (pj lw) 5 47 L (.int x :: S) k n H Q ↔ Q (some (.int x)) H := W_r rfl rfl
theorem w5_48 : W (pj lw) 5 48 (.val (.ref x) :: L) S k n H Q ↔ W (pj lw) 5 49 (.val (.ref x) :: L) (.ref x :: S) k n H Q := W_s rfl rfl rfl rfl
theorem w5_49 : W (pj lw) 5 49 L (.ref a :: S) k n H Q ↔ (isO H a = true ∧ W (pj lw) 5 52 L (fld H a 1 :: S) k n H Q) := W_getf (rfl : (pj lw).1 5 49 = some (.getfield 66, 3, 1))
theorem w5_52 : W (pj lw) 5 52 L S k n H Q ↔ W (pj lw) 5 54 L (.int 96 :: S) k n H Q := W_s rfl rfl rfl rfl
theorem w5_54 : W (pj lw) 5 54 L (.int y :: .int x :: S) k n H Q ↔ (if x < y then W (pj lw) 5 59 L S k n H Q else W (pj lw) 5 57 L S k n H Q) := W_icmp_lt (rfl : (pj lw).1 5 54 = some (.if_icmp .lt 5, 3, 0)) rfl
theorem w5_57 : W (pj lw) 5 57 L S k n H Q ↔ W (pj lw) 5 58 L (.int 5 :: S) k n H Q := W_s rfl rfl rfl rfl
theorem w5_58 : W (pj lw) 5 58 L (.int x :: S) k n H Q ↔ Q (some (.int x)) H := W_r rfl rfl
theorem w5_59 : W (pj lw) 5 59 (.val (.ref x) :: L) S k n H Q ↔ W (pj lw) 5 60 (.val (.ref x) :: L) (.ref x :: S) k n H Q := W_s rfl rfl rfl rfl
theorem w5_60 : W (pj lw) 5 60 L (.ref a :: S) k n H Q ↔ (isO H a = true ∧ W (pj lw) 5 63 L (fld H a 2 :: S) k n H Q) := W_getf (rfl : (pj lw).1 5 60 = some (.getfield 7, 3, 2))
theorem w5_63 : W (pj lw) 5 63 (l0 :: l1 :: l2 :: l3 :: .val (.int x) :: L) S k n H Q ↔ W (pj lw) 5 65 (l0 :: l1 :: l2 :: l3 :: .val (.int x) :: L) (.int x :: S) k n H Q := W_s rfl rfl rfl rfl
theorem w5_65 : W (pj lw) 5 65 L S k n H Q ↔ W (pj lw) 5 66 L (.int 1 :: S) k n H Q := W_s rfl rfl rfl rfl
theorem w5_66 : W (pj lw) 5 66 L (.int x :: .int i :: .ref a :: S) k n H Q ↔ (((inAw H a .byte i = true ∧ okv .byte (.int x) = true) ∨ (inAw H a .boolean i = true ∧ okv .boolean (.int x) = true)) ∧ W (pj lw) 5 67 L S k n (wr H a i.toNatClampNeg (.int x)) Q) := W_bastore (rfl : (pj lw).1 5 66 = some (.bastore, 1, 0))
theorem w5_67 : W (pj lw) 5 67 (.val (.ref x) :: L) S k n H Q ↔ W (pj lw) 5 68 (.val (.ref x) :: L) (.ref x :: S) k n H Q := W_s rfl rfl rfl rfl
theorem w5_68 : W (pj lw) 5 68 L (.ref a :: S) k n H Q ↔ (isO H a = true ∧ W (pj lw) 5 71 L (fld H a 3 :: S) k n H Q) := W_getf (rfl : (pj lw).1 5 68 = some (.getfield 13, 3, 3))
theorem w5_71 : W (pj lw) 5 71 (l0 :: l1 :: l2 :: l3 :: .val (.int x) :: L) S k n H Q ↔ W (pj lw) 5 73 (l0 :: l1 :: l2 :: l3 :: .val (.int x) :: L) (.int x :: S) k n H Q := W_s rfl rfl rfl rfl
theorem w5_73 : W (pj lw) 5 73 (l0 :: l1 :: l2 :: .val (.int x) :: L) S k n H Q ↔ W (pj lw) 5 74 (l0 :: l1 :: l2 :: .val (.int x) :: L) (.int x :: S) k n H Q := W_s rfl rfl rfl rfl
theorem w5_74 : W (pj lw) 5 74 L (.int x :: .int i :: .ref a :: S) k n H Q ↔ (inAw H a .int i = true ∧ W (pj lw) 5 75 L S k n (wr H a i.toNatClampNeg (.int x)) Q) := W_iastore (rfl : (pj lw).1 5 74 = some (.iastore, 1, 0))
theorem w5_75 : W (pj lw) 5 75 (.val (.ref x) :: L) S k n H Q ↔ W (pj lw) 5 76 (.val (.ref x) :: L) (.ref x :: S) k n H Q := W_s rfl rfl rfl rfl
theorem w5_76 : W (pj lw) 5 76 L (.ref x :: S) k n H Q ↔ W (pj lw) 5 77 L (.ref x :: .ref x :: S) k n H Q := W_s rfl rfl rfl rfl
theorem w5_77 : W (pj lw) 5 77 L (.ref a :: S) k n H Q ↔ (isO H a = true ∧ W (pj lw) 5 80 L (fld H a 1 :: S) k n H Q) := W_getf (rfl : (pj lw).1 5 77 = some (.getfield 66, 3, 1))
theorem w5_80 : W (pj lw) 5 80 L S k n H Q ↔ W (pj lw) 5 81 L (.int 1 :: S) k n H Q := W_s rfl rfl rfl rfl
theorem w5_81 : W (pj lw) 5 81 L (.int y :: .int x :: S) k n H Q ↔ W (pj lw) 5 82 L (.int (x + y) :: S) k n H Q := W_s rfl rfl rfl rfl
theorem w5_82 {a : Nat} {v : Value} : W (pj lw) 5 82 L (v :: .ref a :: S) k n H Q ↔ ((isOw H a = true ∧ okv (.int) v = true) ∧ W (pj lw) 5 85 L S k n (wr H a 1 v) Q) := W_putf (rfl : (pj lw).1 5 82 = some (.putfield 66, 3, 1))
theorem w5_85 : W (pj lw) 5 85 (.val (.ref x) :: L) S k n H Q ↔ W (pj lw) 5 86 (.val (.ref x) :: L) (.ref x :: S) k n H Q := W_s rfl rfl rfl rfl
theorem w5_86 : W (pj lw) 5 86 L (.ref a :: S) k n H Q ↔ ((isO H a = true ∧ cs S + (1 + 11) + 0 ≤ 13) ∧ Cl (pj lw) 4 [.ref a] H (fun v H => W (pj lw) 5 89 L (v.toList ++ S) k n H Q)) := W_inst (as := []) (rfl : (pj lw).1 5 86 = some (.invokevirtual 69, 3, 4)) rfl rfl rfl (Nat.le_of_ble_eq_true rfl) (Nat.le_of_ble_eq_true rfl) ⟨rfl, rfl⟩
theorem w5_89 : W (pj lw) 5 89 L S k n H Q ↔ W (pj lw) 5 90 L (.int 0 :: S) k n H Q := W_s rfl rfl rfl rfl
theorem w5_90 : W (pj lw) 5 90 L (.int x :: S) k n H Q ↔ Q (some (.int x)) H := W_r rfl rfl
theorem c6 {x0 : Nat} {x1 : Int32} {x2 : Int32} : Cl (pj lw) 6 [.ref x0, .int x1, .int x2] H Q ↔ W (pj lw) 6 0 [.val (.ref x0), .val (.int x1), .val (.int x2), .unset] [] 0 0 H Q := cl_unf rfl
theorem w6_0 : W (pj lw) 6 0 (.val (.ref x) :: L) S k n H Q ↔ W (pj lw) 6 1 (.val (.ref x) :: L) (.ref x :: S) k n H Q := W_s rfl rfl rfl rfl
theorem w6_1 : W (pj lw) 6 1 (l0 :: .val (.int x) :: L) S k n H Q ↔ W (pj lw) 6 2 (l0 :: .val (.int x) :: L) (.int x :: S) k n H Q := W_s rfl rfl rfl rfl
theorem w6_2 : W (pj lw) 6 2 L (.int x0 :: .ref a :: S) k n H Q ↔ ((isO H a = true ∧ cs S + (2 + 11) + 0 ≤ 13) ∧ Cl (pj lw) 2 [.ref a, .int x0] H (fun v H => W (pj lw) 6 5 L (v.toList ++ S) k n H Q)) := W_inst (as := [.int x0]) (rfl : (pj lw).1 6 2 = some (.invokevirtual 59, 3, 2)) rfl rfl rfl (Nat.le_of_ble_eq_true rfl) (Nat.le_of_ble_eq_true rfl) ⟨rfl, rfl⟩
theorem w6_5 : W (pj lw) 6 5 L (.int x :: S) k n H Q ↔ (if x = 0 then W (pj lw) 6 16 L S k n H Q else W (pj lw) 6 8 L S k n H Q) := W_if_eq (rfl : (pj lw).1 6 5 = some (.ifCond .eq 11, 3, 0)) rfl
theorem w6_8 : W (pj lw) 6 8 (.val (.ref x) :: L) S k n H Q ↔ W (pj lw) 6 9 (.val (.ref x) :: L) (.ref x :: S) k n H Q := W_s rfl rfl rfl rfl
theorem w6_9 : W (pj lw) 6 9 (l0 :: l1 :: .val (.int x) :: L) S k n H Q ↔ W (pj lw) 6 10 (l0 :: l1 :: .val (.int x) :: L) (.int x :: S) k n H Q := W_s rfl rfl rfl rfl
theorem w6_10 : W (pj lw) 6 10 L (.int x0 :: .ref a :: S) k n H Q ↔ ((isO H a = true ∧ cs S + (2 + 11) + 0 ≤ 13) ∧ Cl (pj lw) 2 [.ref a, .int x0] H (fun v H => W (pj lw) 6 13 L (v.toList ++ S) k n H Q)) := W_inst (as := [.int x0]) (rfl : (pj lw).1 6 10 = some (.invokevirtual 59, 3, 2)) rfl rfl rfl (Nat.le_of_ble_eq_true rfl) (Nat.le_of_ble_eq_true rfl) ⟨rfl, rfl⟩
theorem w6_13 : W (pj lw) 6 13 L (.int x :: S) k n H Q ↔ (if x = 0 then W (pj lw) 6 16 L S k n H Q else W (pj lw) 6 18 L S k n H Q) := W_if_ne (rfl : (pj lw).1 6 13 = some (.ifCond .ne 5, 3, 0)) rfl
theorem w6_16 : W (pj lw) 6 16 L S k n H Q ↔ W (pj lw) 6 17 L (.int 1 :: S) k n H Q := W_s rfl rfl rfl rfl
theorem w6_17 : W (pj lw) 6 17 L (.int x :: S) k n H Q ↔ Q (some (.int x)) H := W_r rfl rfl
theorem w6_18 : W (pj lw) 6 18 (l0 :: .val (.int x) :: L) S k n H Q ↔ W (pj lw) 6 19 (l0 :: .val (.int x) :: L) (.int x :: S) k n H Q := W_s rfl rfl rfl rfl
theorem w6_19 : W (pj lw) 6 19 L S k n H Q ↔ W (pj lw) 6 21 L (.int 24 :: S) k n H Q := W_s rfl rfl rfl rfl
theorem w6_21 : W (pj lw) 6 21 L (.int y :: .int x :: S) k n H Q ↔ W (pj lw) 6 22 L (.int (x * y) :: S) k n H Q := W_s rfl rfl rfl rfl
theorem w6_22 : W (pj lw) 6 22 (l0 :: l1 :: .val (.int x) :: L) S k n H Q ↔ W (pj lw) 6 23 (l0 :: l1 :: .val (.int x) :: L) (.int x :: S) k n H Q := W_s rfl rfl rfl rfl
theorem w6_23 : W (pj lw) 6 23 L (.int y :: .int x :: S) k n H Q ↔ W (pj lw) 6 24 L (.int (x + y) :: S) k n H Q := W_s rfl rfl rfl rfl
theorem w6_24 : W (pj lw) 6 24 (l0 :: l1 :: l2 :: .unset :: L) (.int x :: S) k n H Q ↔ W (pj lw) 6 25 (l0 :: l1 :: l2 :: .val (.int x) :: L) S k n H Q := W_istn (rfl : (pj lw).1 6 24 = some (.istore_n 3, 1, 0)) rfl rfl
theorem w6_25 : W (pj lw) 6 25 (.val (.ref x) :: L) S k n H Q ↔ W (pj lw) 6 26 (.val (.ref x) :: L) (.ref x :: S) k n H Q := W_s rfl rfl rfl rfl
theorem w6_26 : W (pj lw) 6 26 L (.ref a :: S) k n H Q ↔ (isO H a = true ∧ W (pj lw) 6 29 L (fld H a 2 :: S) k n H Q) := W_getf (rfl : (pj lw).1 6 26 = some (.getfield 7, 3, 2))
theorem w6_29 : W (pj lw) 6 29 (l0 :: l1 :: l2 :: .val (.int x) :: L) S k n H Q ↔ W (pj lw) 6 30 (l0 :: l1 :: l2 :: .val (.int x) :: L) (.int x :: S) k n H Q := W_s rfl rfl rfl rfl
theorem w6_30 : W (pj lw) 6 30 L (.int i :: .ref a :: S) k n H Q ↔ ((inA H a .byte i = true ∨ inA H a .boolean i = true) ∧ W (pj lw) 6 31 L (elt H a i :: S) k n H Q) := W_baload (rfl : (pj lw).1 6 30 = some (.baload, 1, 0))
theorem w6_31 : W (pj lw) 6 31 L (.int x :: S) k n H Q ↔ (if x = 0 then W (pj lw) 6 34 L S k n H Q else W (pj lw) 6 36 L S k n H Q) := W_if_ne (rfl : (pj lw).1 6 31 = some (.ifCond .ne 5, 3, 0)) rfl
theorem w6_34 : W (pj lw) 6 34 L S k n H Q ↔ W (pj lw) 6 35 L (.int 4 :: S) k n H Q := W_s rfl rfl rfl rfl
theorem w6_35 : W (pj lw) 6 35 L (.int x :: S) k n H Q ↔ Q (some (.int x)) H := W_r rfl rfl
theorem w6_36 : W (pj lw) 6 36 (.val (.ref x) :: L) S k n H Q ↔ W (pj lw) 6 37 (.val (.ref x) :: L) (.ref x :: S) k n H Q := W_s rfl rfl rfl rfl
theorem w6_37 : W (pj lw) 6 37 L (.ref a :: S) k n H Q ↔ (isO H a = true ∧ W (pj lw) 6 40 L (fld H a 2 :: S) k n H Q) := W_getf (rfl : (pj lw).1 6 37 = some (.getfield 7, 3, 2))
theorem w6_40 : W (pj lw) 6 40 (l0 :: l1 :: l2 :: .val (.int x) :: L) S k n H Q ↔ W (pj lw) 6 41 (l0 :: l1 :: l2 :: .val (.int x) :: L) (.int x :: S) k n H Q := W_s rfl rfl rfl rfl
theorem w6_41 : W (pj lw) 6 41 L S k n H Q ↔ W (pj lw) 6 42 L (.int 0 :: S) k n H Q := W_s rfl rfl rfl rfl
theorem w6_42 : W (pj lw) 6 42 L (.int x :: .int i :: .ref a :: S) k n H Q ↔ (((inAw H a .byte i = true ∧ okv .byte (.int x) = true) ∨ (inAw H a .boolean i = true ∧ okv .boolean (.int x) = true)) ∧ W (pj lw) 6 43 L S k n (wr H a i.toNatClampNeg (.int x)) Q) := W_bastore (rfl : (pj lw).1 6 42 = some (.bastore, 1, 0))
theorem w6_43 : W (pj lw) 6 43 (.val (.ref x) :: L) S k n H Q ↔ W (pj lw) 6 44 (.val (.ref x) :: L) (.ref x :: S) k n H Q := W_s rfl rfl rfl rfl
theorem w6_44 : W (pj lw) 6 44 L (.ref a :: S) k n H Q ↔ (isO H a = true ∧ W (pj lw) 6 47 L (fld H a 3 :: S) k n H Q) := W_getf (rfl : (pj lw).1 6 44 = some (.getfield 13, 3, 3))
theorem w6_47 : W (pj lw) 6 47 (l0 :: l1 :: l2 :: .val (.int x) :: L) S k n H Q ↔ W (pj lw) 6 48 (l0 :: l1 :: l2 :: .val (.int x) :: L) (.int x :: S) k n H Q := W_s rfl rfl rfl rfl
theorem w6_48 : W (pj lw) 6 48 L S k n H Q ↔ W (pj lw) 6 49 L (.int 0 :: S) k n H Q := W_s rfl rfl rfl rfl
theorem w6_49 : W (pj lw) 6 49 L (.int x :: .int i :: .ref a :: S) k n H Q ↔ (inAw H a .int i = true ∧ W (pj lw) 6 50 L S k n (wr H a i.toNatClampNeg (.int x)) Q) := W_iastore (rfl : (pj lw).1 6 49 = some (.iastore, 1, 0))
theorem w6_50 : W (pj lw) 6 50 (.val (.ref x) :: L) S k n H Q ↔ W (pj lw) 6 51 (.val (.ref x) :: L) (.ref x :: S) k n H Q := W_s rfl rfl rfl rfl
theorem w6_51 : W (pj lw) 6 51 L (.ref x :: S) k n H Q ↔ W (pj lw) 6 52 L (.ref x :: .ref x :: S) k n H Q := W_s rfl rfl rfl rfl
theorem w6_52 : W (pj lw) 6 52 L (.ref a :: S) k n H Q ↔ (isO H a = true ∧ W (pj lw) 6 55 L (fld H a 1 :: S) k n H Q) := W_getf (rfl : (pj lw).1 6 52 = some (.getfield 66, 3, 1))
theorem w6_55 : W (pj lw) 6 55 L S k n H Q ↔ W (pj lw) 6 56 L (.int 1 :: S) k n H Q := W_s rfl rfl rfl rfl
theorem w6_56 : W (pj lw) 6 56 L (.int y :: .int x :: S) k n H Q ↔ W (pj lw) 6 57 L (.int (x - y) :: S) k n H Q := W_s rfl rfl rfl rfl
theorem w6_57 {a : Nat} {v : Value} : W (pj lw) 6 57 L (v :: .ref a :: S) k n H Q ↔ ((isOw H a = true ∧ okv (.int) v = true) ∧ W (pj lw) 6 60 L S k n (wr H a 1 v) Q) := W_putf (rfl : (pj lw).1 6 57 = some (.putfield 66, 3, 1))
theorem w6_60 : W (pj lw) 6 60 (.val (.ref x) :: L) S k n H Q ↔ W (pj lw) 6 61 (.val (.ref x) :: L) (.ref x :: S) k n H Q := W_s rfl rfl rfl rfl
theorem w6_61 : W (pj lw) 6 61 L (.ref a :: S) k n H Q ↔ ((isO H a = true ∧ cs S + (1 + 11) + 0 ≤ 13) ∧ Cl (pj lw) 4 [.ref a] H (fun v H => W (pj lw) 6 64 L (v.toList ++ S) k n H Q)) := W_inst (as := []) (rfl : (pj lw).1 6 61 = some (.invokevirtual 69, 3, 4)) rfl rfl rfl (Nat.le_of_ble_eq_true rfl) (Nat.le_of_ble_eq_true rfl) ⟨rfl, rfl⟩
theorem w6_64 : W (pj lw) 6 64 L S k n H Q ↔ W (pj lw) 6 65 L (.int 0 :: S) k n H Q := W_s rfl rfl rfl rfl
theorem w6_65 : W (pj lw) 6 65 L (.int x :: S) k n H Q ↔ Q (some (.int x)) H := W_r rfl rfl
theorem c7 {x0 : Nat} {x1 : Int32} {x2 : Int32} {x3 : Int32} : Cl (pj lw) 7 [.ref x0, .int x1, .int x2, .int x3] H Q ↔ W (pj lw) 7 0 [.val (.ref x0), .val (.int x1), .val (.int x2), .val (.int x3), .unset] [] 0 0 H Q := cl_unf rfl
theorem w7_0 : W (pj lw) 7 0 (.val (.ref x) :: L) S k n H Q ↔ W (pj lw) 7 1 (.val (.ref x) :: L) (.ref x :: S) k n H Q := W_s rfl rfl rfl rfl
theorem w7_1 : W (pj lw) 7 1 (l0 :: .val (.int x) :: L) S k n H Q ↔ W (pj lw) 7 2 (l0 :: .val (.int x) :: L) (.int x :: S) k n H Q := W_s rfl rfl rfl rfl
theorem w7_2 : W (pj lw) 7 2 L (.int x0 :: .ref a :: S) k n H Q ↔ ((isO H a = true ∧ cs S + (2 + 11) + 0 ≤ 13) ∧ Cl (pj lw) 2 [.ref a, .int x0] H (fun v H => W (pj lw) 7 5 L (v.toList ++ S) k n H Q)) := W_inst (as := [.int x0]) (rfl : (pj lw).1 7 2 = some (.invokevirtual 59, 3, 2)) rfl rfl rfl (Nat.le_of_ble_eq_true rfl) (Nat.le_of_ble_eq_true rfl) ⟨rfl, rfl⟩
theorem w7_5 : W (pj lw) 7 5 L (.int x :: S) k n H Q ↔ (if x = 0 then W (pj lw) 7 16 L S k n H Q else W (pj lw) 7 8 L S k n H Q) := W_if_eq (rfl : (pj lw).1 7 5 = some (.ifCond .eq 11, 3, 0)) rfl
theorem w7_8 : W (pj lw) 7 8 (.val (.ref x) :: L) S k n H Q ↔ W (pj lw) 7 9 (.val (.ref x) :: L) (.ref x :: S) k n H Q := W_s rfl rfl rfl rfl
theorem w7_9 : W (pj lw) 7 9 (l0 :: l1 :: .val (.int x) :: L) S k n H Q ↔ W (pj lw) 7 10 (l0 :: l1 :: .val (.int x) :: L) (.int x :: S) k n H Q := W_s rfl rfl rfl rfl
theorem w7_10 : W (pj lw) 7 10 L (.int x0 :: .ref a :: S) k n H Q ↔ ((isO H a = true ∧ cs S + (2 + 11) + 0 ≤ 13) ∧ Cl (pj lw) 2 [.ref a, .int x0] H (fun v H => W (pj lw) 7 13 L (v.toList ++ S) k n H Q)) := W_inst (as := [.int x0]) (rfl : (pj lw).1 7 10 = some (.invokevirtual 59, 3, 2)) rfl rfl rfl (Nat.le_of_ble_eq_true rfl) (Nat.le_of_ble_eq_true rfl) ⟨rfl, rfl⟩
theorem w7_13 : W (pj lw) 7 13 L (.int x :: S) k n H Q ↔ (if x = 0 then W (pj lw) 7 16 L S k n H Q else W (pj lw) 7 18 L S k n H Q) := W_if_ne (rfl : (pj lw).1 7 13 = some (.ifCond .ne 5, 3, 0)) rfl
theorem w7_16 : W (pj lw) 7 16 L S k n H Q ↔ W (pj lw) 7 17 L (.int 1 :: S) k n H Q := W_s rfl rfl rfl rfl
theorem w7_17 : W (pj lw) 7 17 L (.int x :: S) k n H Q ↔ Q (some (.int x)) H := W_r rfl rfl
theorem w7_18 : W (pj lw) 7 18 (.val (.ref x) :: L) S k n H Q ↔ W (pj lw) 7 19 (.val (.ref x) :: L) (.ref x :: S) k n H Q := W_s rfl rfl rfl rfl
theorem w7_19 : W (pj lw) 7 19 (l0 :: l1 :: l2 :: .val (.int x) :: L) S k n H Q ↔ W (pj lw) 7 20 (l0 :: l1 :: l2 :: .val (.int x) :: L) (.int x :: S) k n H Q := W_s rfl rfl rfl rfl
theorem w7_20 : W (pj lw) 7 20 L (.int x0 :: .ref a :: S) k n H Q ↔ ((isO H a = true ∧ cs S + (2 + 11) + 0 ≤ 13) ∧ Cl (pj lw) 3 [.ref a, .int x0] H (fun v H => W (pj lw) 7 23 L (v.toList ++ S) k n H Q)) := W_inst (as := [.int x0]) (rfl : (pj lw).1 7 20 = some (.invokevirtual 63, 3, 3)) rfl rfl rfl (Nat.le_of_ble_eq_true rfl) (Nat.le_of_ble_eq_true rfl) ⟨rfl, rfl⟩
theorem w7_23 : W (pj lw) 7 23 L (.int x :: S) k n H Q ↔ (if x = 0 then W (pj lw) 7 26 L S k n H Q else W (pj lw) 7 28 L S k n H Q) := W_if_ne (rfl : (pj lw).1 7 23 = some (.ifCond .ne 5, 3, 0)) rfl
theorem w7_26 : W (pj lw) 7 26 L S k n H Q ↔ W (pj lw) 7 27 L (.int 2 :: S) k n H Q := W_s rfl rfl rfl rfl
theorem w7_27 : W (pj lw) 7 27 L (.int x :: S) k n H Q ↔ Q (some (.int x)) H := W_r rfl rfl
theorem w7_28 : W (pj lw) 7 28 (l0 :: .val (.int x) :: L) S k n H Q ↔ W (pj lw) 7 29 (l0 :: .val (.int x) :: L) (.int x :: S) k n H Q := W_s rfl rfl rfl rfl
theorem w7_29 : W (pj lw) 7 29 L S k n H Q ↔ W (pj lw) 7 31 L (.int 24 :: S) k n H Q := W_s rfl rfl rfl rfl
theorem w7_31 : W (pj lw) 7 31 L (.int y :: .int x :: S) k n H Q ↔ W (pj lw) 7 32 L (.int (x * y) :: S) k n H Q := W_s rfl rfl rfl rfl
theorem w7_32 : W (pj lw) 7 32 (l0 :: l1 :: .val (.int x) :: L) S k n H Q ↔ W (pj lw) 7 33 (l0 :: l1 :: .val (.int x) :: L) (.int x :: S) k n H Q := W_s rfl rfl rfl rfl
theorem w7_33 : W (pj lw) 7 33 L (.int y :: .int x :: S) k n H Q ↔ W (pj lw) 7 34 L (.int (x + y) :: S) k n H Q := W_s rfl rfl rfl rfl
theorem w7_34 : W (pj lw) 7 34 (l0 :: l1 :: l2 :: l3 :: .unset :: L) (.int x :: S) k n H Q ↔ W (pj lw) 7 36 (l0 :: l1 :: l2 :: l3 :: .val (.int x) :: L) S k n H Q := W_ist (rfl : (pj lw).1 7 34 = some (.istore 4, 2, 0)) rfl rfl
theorem w7_36 : W (pj lw) 7 36 (.val (.ref x) :: L) S k n H Q ↔ W (pj lw) 7 37 (.val (.ref x) :: L) (.ref x :: S) k n H Q := W_s rfl rfl rfl rfl
theorem w7_37 : W (pj lw) 7 37 L (.ref a :: S) k n H Q ↔ (isO H a = true ∧ W (pj lw) 7 40 L (fld H a 2 :: S) k n H Q) := W_getf (rfl : (pj lw).1 7 37 = some (.getfield 7, 3, 2))
theorem w7_40 : W (pj lw) 7 40 (l0 :: l1 :: l2 :: l3 :: .val (.int x) :: L) S k n H Q ↔ W (pj lw) 7 42 (l0 :: l1 :: l2 :: l3 :: .val (.int x) :: L) (.int x :: S) k n H Q := W_s rfl rfl rfl rfl
theorem w7_42 : W (pj lw) 7 42 L (.int i :: .ref a :: S) k n H Q ↔ ((inA H a .byte i = true ∨ inA H a .boolean i = true) ∧ W (pj lw) 7 43 L (elt H a i :: S) k n H Q) := W_baload (rfl : (pj lw).1 7 42 = some (.baload, 1, 0))
theorem w7_43 : W (pj lw) 7 43 L (.int x :: S) k n H Q ↔ (if x = 0 then W (pj lw) 7 46 L S k n H Q else W (pj lw) 7 48 L S k n H Q) := W_if_ne (rfl : (pj lw).1 7 43 = some (.ifCond .ne 5, 3, 0)) rfl
theorem w7_46 : W (pj lw) 7 46 L S k n H Q ↔ W (pj lw) 7 47 L (.int 4 :: S) k n H Q := W_s rfl rfl rfl rfl
theorem w7_47 : W (pj lw) 7 47 L (.int x :: S) k n H Q ↔ Q (some (.int x)) H := W_r rfl rfl
theorem w7_48 : W (pj lw) 7 48 (.val (.ref x) :: L) S k n H Q ↔ W (pj lw) 7 49 (.val (.ref x) :: L) (.ref x :: S) k n H Q := W_s rfl rfl rfl rfl
theorem w7_49 : W (pj lw) 7 49 L (.ref a :: S) k n H Q ↔ (isO H a = true ∧ W (pj lw) 7 52 L (fld H a 3 :: S) k n H Q) := W_getf (rfl : (pj lw).1 7 49 = some (.getfield 13, 3, 3))
theorem w7_52 : W (pj lw) 7 52 (l0 :: l1 :: l2 :: l3 :: .val (.int x) :: L) S k n H Q ↔ W (pj lw) 7 54 (l0 :: l1 :: l2 :: l3 :: .val (.int x) :: L) (.int x :: S) k n H Q := W_s rfl rfl rfl rfl
theorem w7_54 : W (pj lw) 7 54 (l0 :: l1 :: l2 :: .val (.int x) :: L) S k n H Q ↔ W (pj lw) 7 55 (l0 :: l1 :: l2 :: .val (.int x) :: L) (.int x :: S) k n H Q := W_s rfl rfl rfl rfl
theorem w7_55 : W (pj lw) 7 55 L (.int x :: .int i :: .ref a :: S) k n H Q ↔ (inAw H a .int i = true ∧ W (pj lw) 7 56 L S k n (wr H a i.toNatClampNeg (.int x)) Q) := W_iastore (rfl : (pj lw).1 7 55 = some (.iastore, 1, 0))
theorem w7_56 : W (pj lw) 7 56 (.val (.ref x) :: L) S k n H Q ↔ W (pj lw) 7 57 (.val (.ref x) :: L) (.ref x :: S) k n H Q := W_s rfl rfl rfl rfl
theorem w7_57 : W (pj lw) 7 57 L (.ref a :: S) k n H Q ↔ ((isO H a = true ∧ cs S + (1 + 11) + 0 ≤ 13) ∧ Cl (pj lw) 4 [.ref a] H (fun v H => W (pj lw) 7 60 L (v.toList ++ S) k n H Q)) := W_inst (as := []) (rfl : (pj lw).1 7 57 = some (.invokevirtual 69, 3, 4)) rfl rfl rfl (Nat.le_of_ble_eq_true rfl) (Nat.le_of_ble_eq_true rfl) ⟨rfl, rfl⟩
theorem w7_60 : W (pj lw) 7 60 L S k n H Q ↔ W (pj lw) 7 61 L (.int 0 :: S) k n H Q := W_s rfl rfl rfl rfl
theorem w7_61 : W (pj lw) 7 61 L (.int x :: S) k n H Q ↔ Q (some (.int x)) H := W_r rfl rfl
theorem c8 {x0 : Nat} {x1 : Int32} {x2 : Int32} : Cl (pj lw) 8 [.ref x0, .int x1, .int x2] H Q ↔ W (pj lw) 8 0 [.val (.ref x0), .val (.int x1), .val (.int x2)] [] 0 0 H Q := cl_unf rfl
theorem w8_0 : W (pj lw) 8 0 (.val (.ref x) :: L) S k n H Q ↔ W (pj lw) 8 1 (.val (.ref x) :: L) (.ref x :: S) k n H Q := W_s rfl rfl rfl rfl
theorem w8_1 : W (pj lw) 8 1 (l0 :: .val (.int x) :: L) S k n H Q ↔ W (pj lw) 8 2 (l0 :: .val (.int x) :: L) (.int x :: S) k n H Q := W_s rfl rfl rfl rfl
theorem w8_2 : W (pj lw) 8 2 L (.int x0 :: .ref a :: S) k n H Q ↔ ((isO H a = true ∧ cs S + (2 + 11) + 0 ≤ 13) ∧ Cl (pj lw) 2 [.ref a, .int x0] H (fun v H => W (pj lw) 8 5 L (v.toList ++ S) k n H Q)) := W_inst (as := [.int x0]) (rfl : (pj lw).1 8 2 = some (.invokevirtual 59, 3, 2)) rfl rfl rfl (Nat.le_of_ble_eq_true rfl) (Nat.le_of_ble_eq_true rfl) ⟨rfl, rfl⟩
theorem w8_5 : W (pj lw) 8 5 L (.int x :: S) k n H Q ↔ (if x = 0 then W (pj lw) 8 34 L S k n H Q else W (pj lw) 8 8 L S k n H Q) := W_if_eq (rfl : (pj lw).1 8 5 = some (.ifCond .eq 29, 3, 0)) rfl
theorem w8_8 : W (pj lw) 8 8 (.val (.ref x) :: L) S k n H Q ↔ W (pj lw) 8 9 (.val (.ref x) :: L) (.ref x :: S) k n H Q := W_s rfl rfl rfl rfl
theorem w8_9 : W (pj lw) 8 9 (l0 :: l1 :: .val (.int x) :: L) S k n H Q ↔ W (pj lw) 8 10 (l0 :: l1 :: .val (.int x) :: L) (.int x :: S) k n H Q := W_s rfl rfl rfl rfl
theorem w8_10 : W (pj lw) 8 10 L (.int x0 :: .ref a :: S) k n H Q ↔ ((isO H a = true ∧ cs S + (2 + 11) + 0 ≤ 13) ∧ Cl (pj lw) 2 [.ref a, .int x0] H (fun v H => W (pj lw) 8 13 L (v.toList ++ S) k n H Q)) := W_inst (as := [.int x0]) (rfl : (pj lw).1 8 10 = some (.invokevirtual 59, 3, 2)) rfl rfl rfl (Nat.le_of_ble_eq_true rfl) (Nat.le_of_ble_eq_true rfl) ⟨rfl, rfl⟩
theorem w8_13 : W (pj lw) 8 13 L (.int x :: S) k n H Q ↔ (if x = 0 then W (pj lw) 8 34 L S k n H Q else W (pj lw) 8 16 L S k n H Q) := W_if_eq (rfl : (pj lw).1 8 13 = some (.ifCond .eq 21, 3, 0)) rfl
theorem w8_16 : W (pj lw) 8 16 (.val (.ref x) :: L) S k n H Q ↔ W (pj lw) 8 17 (.val (.ref x) :: L) (.ref x :: S) k n H Q := W_s rfl rfl rfl rfl
theorem w8_17 : W (pj lw) 8 17 L (.ref a :: S) k n H Q ↔ (isO H a = true ∧ W (pj lw) 8 20 L (fld H a 2 :: S) k n H Q) := W_getf (rfl : (pj lw).1 8 17 = some (.getfield 7, 3, 2))
theorem w8_20 : W (pj lw) 8 20 (l0 :: .val (.int x) :: L) S k n H Q ↔ W (pj lw) 8 21 (l0 :: .val (.int x) :: L) (.int x :: S) k n H Q := W_s rfl rfl rfl rfl
theorem w8_21 : W (pj lw) 8 21 L S k n H Q ↔ W (pj lw) 8 23 L (.int 24 :: S) k n H Q := W_s rfl rfl rfl rfl
theorem w8_23 : W (pj lw) 8 23 L (.int y :: .int x :: S) k n H Q ↔ W (pj lw) 8 24 L (.int (x * y) :: S) k n H Q := W_s rfl rfl rfl rfl
theorem w8_24 : W (pj lw) 8 24 (l0 :: l1 :: .val (.int x) :: L) S k n H Q ↔ W (pj lw) 8 25 (l0 :: l1 :: .val (.int x) :: L) (.int x :: S) k n H Q := W_s rfl rfl rfl rfl
theorem w8_25 : W (pj lw) 8 25 L (.int y :: .int x :: S) k n H Q ↔ W (pj lw) 8 26 L (.int (x + y) :: S) k n H Q := W_s rfl rfl rfl rfl
theorem w8_26 : W (pj lw) 8 26 L (.int i :: .ref a :: S) k n H Q ↔ ((inA H a .byte i = true ∨ inA H a .boolean i = true) ∧ W (pj lw) 8 27 L (elt H a i :: S) k n H Q) := W_baload (rfl : (pj lw).1 8 26 = some (.baload, 1, 0))
theorem w8_27 : W (pj lw) 8 27 L (.int x :: S) k n H Q ↔ (if x = 0 then W (pj lw) 8 34 L S k n H Q else W (pj lw) 8 30 L S k n H Q) := W_if_eq (rfl : (pj lw).1 8 27 = some (.ifCond .eq 7, 3, 0)) rfl
theorem w8_30 : W (pj lw) 8 30 L S k n H Q ↔ W (pj lw) 8 31 L (.int 1 :: S) k n H Q := W_s rfl rfl rfl rfl
theorem w8_31 : W (pj lw) 8 31 L S k n H Q ↔ W (pj lw) 8 35 L S k n H Q := W_goto rfl rfl
theorem w8_34 : W (pj lw) 8 34 L S k n H Q ↔ W (pj lw) 8 35 L (.int 0 :: S) k n H Q := W_s rfl rfl rfl rfl
theorem w8_35 : W (pj lw) 8 35 L (.int x :: S) k n H Q ↔ ((x = 0 ∨ x = 1) ∧ Q (some (.int x)) H) := W_rz rfl rfl
theorem c9 {x0 : Nat} {x1 : Int32} {x2 : Int32} : Cl (pj lw) 9 [.ref x0, .int x1, .int x2] H Q ↔ W (pj lw) 9 0 [.val (.ref x0), .val (.int x1), .val (.int x2)] [] 0 0 H Q := cl_unf rfl
theorem w9_0 : W (pj lw) 9 0 (.val (.ref x) :: L) S k n H Q ↔ W (pj lw) 9 1 (.val (.ref x) :: L) (.ref x :: S) k n H Q := W_s rfl rfl rfl rfl
theorem w9_1 : W (pj lw) 9 1 (l0 :: .val (.int x) :: L) S k n H Q ↔ W (pj lw) 9 2 (l0 :: .val (.int x) :: L) (.int x :: S) k n H Q := W_s rfl rfl rfl rfl
theorem w9_2 : W (pj lw) 9 2 (l0 :: l1 :: .val (.int x) :: L) S k n H Q ↔ W (pj lw) 9 3 (l0 :: l1 :: .val (.int x) :: L) (.int x :: S) k n H Q := W_s rfl rfl rfl rfl
theorem w9_3 : W (pj lw) 9 3 L (.int x1 :: .int x0 :: .ref a :: S) k n H Q ↔ ((isO H a = true ∧ cs S + (3 + 11) + 13 ≤ 27) ∧ Cl (pj lw) 8 [.ref a, .int x0, .int x1] H (fun v H => W (pj lw) 9 6 L (v.toList ++ S) k n H Q)) := W_inst (as := [.int x0, .int x1]) (rfl : (pj lw).1 9 3 = some (.invokevirtual 72, 3, 8)) rfl rfl rfl (Nat.le_of_ble_eq_true rfl) (Nat.le_of_ble_eq_true rfl) ⟨rfl, rfl⟩
theorem w9_6 : W (pj lw) 9 6 L (.int x :: S) k n H Q ↔ (if x = 0 then W (pj lw) 9 9 L S k n H Q else W (pj lw) 9 11 L S k n H Q) := W_if_ne (rfl : (pj lw).1 9 6 = some (.ifCond .ne 5, 3, 0)) rfl
theorem w9_9 : W (pj lw) 9 9 L S k n H Q ↔ W (pj lw) 9 10 L (.int 0 :: S) k n H Q := W_s rfl rfl rfl rfl
theorem w9_10 : W (pj lw) 9 10 L (.int x :: S) k n H Q ↔ Q (some (.int x)) H := W_r rfl rfl
theorem w9_11 : W (pj lw) 9 11 (.val (.ref x) :: L) S k n H Q ↔ W (pj lw) 9 12 (.val (.ref x) :: L) (.ref x :: S) k n H Q := W_s rfl rfl rfl rfl
theorem w9_12 : W (pj lw) 9 12 L (.ref a :: S) k n H Q ↔ (isO H a = true ∧ W (pj lw) 9 15 L (fld H a 3 :: S) k n H Q) := W_getf (rfl : (pj lw).1 9 12 = some (.getfield 13, 3, 3))
theorem w9_15 : W (pj lw) 9 15 (l0 :: .val (.int x) :: L) S k n H Q ↔ W (pj lw) 9 16 (l0 :: .val (.int x) :: L) (.int x :: S) k n H Q := W_s rfl rfl rfl rfl
theorem w9_16 : W (pj lw) 9 16 L S k n H Q ↔ W (pj lw) 9 18 L (.int 24 :: S) k n H Q := W_s rfl rfl rfl rfl
theorem w9_18 : W (pj lw) 9 18 L (.int y :: .int x :: S) k n H Q ↔ W (pj lw) 9 19 L (.int (x * y) :: S) k n H Q := W_s rfl rfl rfl rfl
theorem w9_19 : W (pj lw) 9 19 (l0 :: l1 :: .val (.int x) :: L) S k n H Q ↔ W (pj lw) 9 20 (l0 :: l1 :: .val (.int x) :: L) (.int x :: S) k n H Q := W_s rfl rfl rfl rfl
theorem w9_20 : W (pj lw) 9 20 L (.int y :: .int x :: S) k n H Q ↔ W (pj lw) 9 21 L (.int (x + y) :: S) k n H Q := W_s rfl rfl rfl rfl
theorem w9_21 : W (pj lw) 9 21 L (.int i :: .ref a :: S) k n H Q ↔ (inA H a .int i = true ∧ W (pj lw) 9 22 L (elt H a i :: S) k n H Q) := W_iaload (rfl : (pj lw).1 9 21 = some (.iaload, 1, 0))
theorem w9_22 : W (pj lw) 9 22 L (.int x :: S) k n H Q ↔ Q (some (.int x)) H := W_r rfl rfl
theorem c10 {x0 : Nat} : Cl (pj lw) 10 [.ref x0] H Q ↔ W (pj lw) 10 0 [.val (.ref x0)] [] 0 0 H Q := cl_unf rfl
theorem w10_0 : W (pj lw) 10 0 (.val (.ref x) :: L) S k n H Q ↔ W (pj lw) 10 1 (.val (.ref x) :: L) (.ref x :: S) k n H Q := W_s rfl rfl rfl rfl
theorem w10_1 : W (pj lw) 10 1 L (.ref a :: S) k n H Q ↔ (isO H a = true ∧ W (pj lw) 10 4 L (fld H a 1 :: S) k n H Q) := W_getf (rfl : (pj lw).1 10 1 = some (.getfield 66, 3, 1))
theorem w10_4 : W (pj lw) 10 4 L (.int x :: S) k n H Q ↔ Q (some (.int x)) H := W_r rfl rfl
theorem c11 {x0 : Nat} : Cl (pj lw) 11 [.ref x0] H Q ↔ W (pj lw) 11 0 [.val (.ref x0)] [] 0 0 H Q := cl_unf rfl
theorem w11_0 : W (pj lw) 11 0 (.val (.ref x) :: L) S k n H Q ↔ W (pj lw) 11 1 (.val (.ref x) :: L) (.ref x :: S) k n H Q := W_s rfl rfl rfl rfl
theorem w11_1 : W (pj lw) 11 1 L (.ref a :: S) k n H Q ↔ (isO H a = true ∧ W (pj lw) 11 4 L (fld H a 0 :: S) k n H Q) := W_getf (rfl : (pj lw).1 11 1 = some (.getfield 48, 3, 0))
theorem w11_4 : W (pj lw) 11 4 L (.int x :: S) k n H Q ↔ Q (some (.int x)) H := W_r rfl rfl
theorem c12 {x0 : Nat} : Cl (pj lw) 12 [.ref x0] H Q ↔ W (pj lw) 12 0 [.val (.ref x0), .unset, .unset] [] 0 0 H Q := cl_unf rfl
theorem w12_0 : W (pj lw) 12 0 (.val (.ref x) :: L) S k n H Q ↔ W (pj lw) 12 1 (.val (.ref x) :: L) (.ref x :: S) k n H Q := W_s rfl rfl rfl rfl
theorem w12_1 : W (pj lw) 12 1 L (.ref a :: S) k n H Q ↔ ((isO H a = true ∧ cs S + (2 + 11) + 0 ≤ 37) ∧ Cl (pj lw) 13 [.ref a] H (fun v H => W (pj lw) 12 4 L (v.toList ++ S) k n H Q)) := W_inst (as := []) (rfl : (pj lw).1 12 1 = some (.invokevirtual 76, 3, 13)) rfl rfl rfl (Nat.le_of_ble_eq_true rfl) (Nat.le_of_ble_eq_true rfl) ⟨rfl, rfl⟩
theorem w12_4 : W (pj lw) 12 4 (.val (.ref x) :: L) S k n H Q ↔ W (pj lw) 12 5 (.val (.ref x) :: L) (.ref x :: S) k n H Q := W_s rfl rfl rfl rfl
theorem w12_5 : W (pj lw) 12 5 L S k n H Q ↔ W (pj lw) 12 6 L (.int 1 :: S) k n H Q := W_s rfl rfl rfl rfl
theorem w12_6 {a : Nat} {v : Value} : W (pj lw) 12 6 L (v :: .ref a :: S) k n H Q ↔ ((isOw H a = true ∧ okv (.boolean) v = true) ∧ W (pj lw) 12 9 L S k n (wr H a 4 v) Q) := W_putf (rfl : (pj lw).1 12 6 = some (.putfield 52, 3, 4))
theorem w12_9 : W (pj lw) 12 9 (.val (.ref x) :: L) S k n H Q ↔ W (pj lw) 12 10 (.val (.ref x) :: L) (.ref x :: S) k n H Q := W_s rfl rfl rfl rfl
theorem w12_10 : W (pj lw) 12 10 L (.ref a :: S) k n H Q ↔ ((isO H a = true ∧ cs S + (3 + 11) + 23 ≤ 37) ∧ Cl (pj lw) 14 [.ref a] H (fun v H => W (pj lw) 12 13 L (v.toList ++ S) k n H Q)) := W_inst (as := []) (rfl : (pj lw).1 12 10 = some (.invokevirtual 79, 3, 14)) rfl rfl rfl (Nat.le_of_ble_eq_true rfl) (Nat.le_of_ble_eq_true rfl) ⟨rfl, rfl⟩
theorem w12_13 : W (pj lw) 12 13 L (.int x :: S) k n H Q ↔ (if x = 0 then W (pj lw) 12 16 L S k n H Q else W (pj lw) 12 18 L S k n H Q) := W_if_ne (rfl : (pj lw).1 12 13 = some (.ifCond .ne 5, 3, 0)) rfl
theorem w12_16 : W (pj lw) 12 16 L S k n H Q ↔ W (pj lw) 12 17 L (.int 0 :: S) k n H Q := W_s rfl rfl rfl rfl
theorem w12_17 : W (pj lw) 12 17 L (.int x :: S) k n H Q ↔ Q (some (.int x)) H := W_r rfl rfl
theorem w12_18 : W (pj lw) 12 18 (.val (.ref x) :: L) S k n H Q ↔ W (pj lw) 12 19 (.val (.ref x) :: L) (.ref x :: S) k n H Q := W_s rfl rfl rfl rfl
theorem w12_19 : W (pj lw) 12 19 (.val (.ref x) :: L) S k n H Q ↔ W (pj lw) 12 20 (.val (.ref x) :: L) (.ref x :: S) k n H Q := W_s rfl rfl rfl rfl
theorem w12_20 : W (pj lw) 12 20 L (.ref a :: S) k n H Q ↔ (isO H a = true ∧ W (pj lw) 12 23 L (fld H a 18 :: S) k n H Q) := W_getf (rfl : (pj lw).1 12 20 = some (.getfield 83, 3, 18))
theorem w12_23 : W (pj lw) 12 23 (.val (.ref x) :: L) S k n H Q ↔ W (pj lw) 12 24 (.val (.ref x) :: L) (.ref x :: S) k n H Q := W_s rfl rfl rfl rfl
theorem w12_24 : W (pj lw) 12 24 L (.ref a :: S) k n H Q ↔ (isO H a = true ∧ W (pj lw) 12 27 L (fld H a 17 :: S) k n H Q) := W_getf (rfl : (pj lw).1 12 24 = some (.getfield 86, 3, 17))
theorem w12_27 : W (pj lw) 12 27 L (.long x1 :: .long x0 :: .ref a :: S) k n H Q ↔ ((isO H a = true ∧ cs S + (12 + 11) + 0 ≤ 37) ∧ Cl (pj lw) 17 [.ref a, .long x0, .long x1] H (fun v H => W (pj lw) 12 30 L (v.toList ++ S) k n H Q)) := W_inst (as := [.long x0, .long x1]) (rfl : (pj lw).1 12 27 = some (.invokevirtual 89, 3, 17)) rfl rfl rfl (Nat.le_of_ble_eq_true rfl) (Nat.le_of_ble_eq_true rfl) ⟨rfl, rfl⟩
theorem w12_30 : W (pj lw) 12 30 (.val (.ref x) :: L) S k n H Q ↔ W (pj lw) 12 31 (.val (.ref x) :: L) (.ref x :: S) k n H Q := W_s rfl rfl rfl rfl
theorem w12_31 : W (pj lw) 12 31 (.val (.ref x) :: L) S k n H Q ↔ W (pj lw) 12 32 (.val (.ref x) :: L) (.ref x :: S) k n H Q := W_s rfl rfl rfl rfl
theorem w12_32 : W (pj lw) 12 32 L (.ref a :: S) k n H Q ↔ (isO H a = true ∧ W (pj lw) 12 35 L (fld H a 18 :: S) k n H Q) := W_getf (rfl : (pj lw).1 12 32 = some (.getfield 83, 3, 18))
theorem w12_35 : W (pj lw) 12 35 (.val (.ref x) :: L) S k n H Q ↔ W (pj lw) 12 36 (.val (.ref x) :: L) (.ref x :: S) k n H Q := W_s rfl rfl rfl rfl
theorem w12_36 : W (pj lw) 12 36 L (.ref a :: S) k n H Q ↔ (isO H a = true ∧ W (pj lw) 12 39 L (fld H a 17 :: S) k n H Q) := W_getf (rfl : (pj lw).1 12 36 = some (.getfield 86, 3, 17))
theorem w12_39 : W (pj lw) 12 39 L (.long x1 :: .long x0 :: .ref a :: S) k n H Q ↔ ((isO H a = true ∧ cs S + (8 + 11) + 0 ≤ 37) ∧ Cl (pj lw) 18 [.ref a, .long x0, .long x1] H (fun v H => W (pj lw) 12 42 L (v.toList ++ S) k n H Q)) := W_inst (as := [.long x0, .long x1]) (rfl : (pj lw).1 12 39 = some (.invokevirtual 93, 3, 18)) rfl rfl rfl (Nat.le_of_ble_eq_true rfl) (Nat.le_of_ble_eq_true rfl) ⟨rfl, rfl⟩
theorem w12_42 : W (pj lw) 12 42 (.val (.ref x) :: L) S k n H Q ↔ W (pj lw) 12 43 (.val (.ref x) :: L) (.ref x :: S) k n H Q := W_s rfl rfl rfl rfl
theorem w12_43 : W (pj lw) 12 43 L (.ref a :: S) k n H Q ↔ ((isO H a = true ∧ cs S + (3 + 11) + 0 ≤ 37) ∧ Cl (pj lw) 19 [.ref a] H (fun v H => W (pj lw) 12 46 L (v.toList ++ S) k n H Q)) := W_inst (as := []) (rfl : (pj lw).1 12 43 = some (.invokevirtual 96, 3, 19)) rfl rfl rfl (Nat.le_of_ble_eq_true rfl) (Nat.le_of_ble_eq_true rfl) ⟨rfl, rfl⟩
theorem w12_46 : W (pj lw) 12 46 L S k n H Q ↔ W (pj lw) 12 47 L (.int (-1) :: S) k n H Q := W_s rfl rfl rfl rfl
theorem w12_47 : W (pj lw) 12 47 (l0 :: .unset :: L) (.int x :: S) k n H Q ↔ W (pj lw) 12 48 (l0 :: .val (.int x) :: L) S k n H Q := W_istn (rfl : (pj lw).1 12 47 = some (.istore_n 1, 1, 0)) rfl rfl
theorem w12_48 : W (pj lw) 12 48 L S k n H Q ↔ W (pj lw) 12 49 L (.int 0 :: S) k n H Q := W_s rfl rfl rfl rfl
theorem w12_49 : W (pj lw) 12 49 (l0 :: l1 :: .unset :: L) (.int x :: S) k n H Q ↔ W (pj lw) 12 50 (l0 :: l1 :: .val (.int x) :: L) S k n H Q := W_istn (rfl : (pj lw).1 12 49 = some (.istore_n 2, 1, 0)) rfl rfl
theorem w12_50 : W (pj lw) 12 50 (l0 :: l1 :: .val (.int x) :: L) S k n H Q ↔ W (pj lw) 12 51 (l0 :: l1 :: .val (.int x) :: L) (.int x :: S) k n H Q := W_s rfl rfl rfl rfl
theorem w12_51 : W (pj lw) 12 51 (.val (.ref x) :: L) S k n H Q ↔ W (pj lw) 12 52 (.val (.ref x) :: L) (.ref x :: S) k n H Q := W_s rfl rfl rfl rfl
theorem w12_52 : W (pj lw) 12 52 L (.ref a :: S) k n H Q ↔ (isO H a = true ∧ W (pj lw) 12 55 L (fld H a 0 :: S) k n H Q) := W_getf (rfl : (pj lw).1 12 52 = some (.getfield 48, 3, 0))
theorem w12_55 : W (pj lw) 12 55 L (.int y :: .int x :: S) k n H Q ↔ (if x < y then W (pj lw) 12 58 L S k n H Q else W (pj lw) 12 103 L S k n H Q) := W_icmp_ge (rfl : (pj lw).1 12 55 = some (.if_icmp .ge 48, 3, 0)) rfl
theorem w12_58 : W (pj lw) 12 58 (.val (.ref x) :: L) S k n H Q ↔ W (pj lw) 12 59 (.val (.ref x) :: L) (.ref x :: S) k n H Q := W_s rfl rfl rfl rfl
theorem w12_59 : W (pj lw) 12 59 L (.ref a :: S) k n H Q ↔ (isO H a = true ∧ W (pj lw) 12 62 L (fld H a 9 :: S) k n H Q) := W_getf (rfl : (pj lw).1 12 59 = some (.getfield 20, 3, 9))
theorem w12_62 : W (pj lw) 12 62 (l0 :: l1 :: .val (.int x) :: L) S k n H Q ↔ W (pj lw) 12 63 (l0 :: l1 :: .val (.int x) :: L) (.int x :: S) k n H Q := W_s rfl rfl rfl rfl
theorem w12_63 : W (pj lw) 12 63 (.val (.ref x) :: L) S k n H Q ↔ W (pj lw) 12 64 (.val (.ref x) :: L) (.ref x :: S) k n H Q := W_s rfl rfl rfl rfl
theorem w12_64 : W (pj lw) 12 64 L (.ref a :: S) k n H Q ↔ (isO H a = true ∧ W (pj lw) 12 67 L (fld H a 13 :: S) k n H Q) := W_getf (rfl : (pj lw).1 12 64 = some (.getfield 33, 3, 13))
theorem w12_67 : W (pj lw) 12 67 (l0 :: l1 :: .val (.int x) :: L) S k n H Q ↔ W (pj lw) 12 68 (l0 :: l1 :: .val (.int x) :: L) (.int x :: S) k n H Q := W_s rfl rfl rfl rfl
theorem w12_68 : W (pj lw) 12 68 L (.int i :: .ref a :: S) k n H Q ↔ (inA H a .int i = true ∧ W (pj lw) 12 69 L (elt H a i :: S) k n H Q) := W_iaload (rfl : (pj lw).1 12 68 = some (.iaload, 1, 0))
theorem w12_69 : W (pj lw) 12 69 (l0 :: l1 :: .val (.int x) :: L) S k n H Q ↔ W (pj lw) 12 70 (l0 :: l1 :: .val (.int x) :: L) (.int x :: S) k n H Q := W_s rfl rfl rfl rfl
theorem w12_70 : W (pj lw) 12 70 L (.int y :: .int x :: S) k n H Q ↔ W (pj lw) 12 71 L (.int (x >>> (y &&& 31)) :: S) k n H Q := W_s rfl rfl rfl rfl
theorem w12_71 : W (pj lw) 12 71 L S k n H Q ↔ W (pj lw) 12 72 L (.int 1 :: S) k n H Q := W_s rfl rfl rfl rfl
theorem w12_72 : W (pj lw) 12 72 L (.int y :: .int x :: S) k n H Q ↔ W (pj lw) 12 73 L (.int (x &&& y) :: S) k n H Q := W_s rfl rfl rfl rfl
theorem w12_73 : W (pj lw) 12 73 L (.int x :: S) k n H Q ↔ (if x = 0 then W (pj lw) 12 80 L S k n H Q else W (pj lw) 12 76 L S k n H Q) := W_if_eq (rfl : (pj lw).1 12 73 = some (.ifCond .eq 7, 3, 0)) rfl
theorem w12_76 : W (pj lw) 12 76 L S k n H Q ↔ W (pj lw) 12 77 L (.int 1 :: S) k n H Q := W_s rfl rfl rfl rfl
theorem w12_77 : W (pj lw) 12 77 L S k n H Q ↔ W (pj lw) 12 81 L S k n H Q := W_goto rfl rfl
theorem w12_80 : W (pj lw) 12 80 L S k n H Q ↔ W (pj lw) 12 81 L (.int 0 :: S) k n H Q := W_s rfl rfl rfl rfl
theorem w12_81 : W (pj lw) 12 81 L (.int x :: .int i :: .ref a :: S) k n H Q ↔ (((inAw H a .byte i = true ∧ okv .byte (.int x) = true) ∨ (inAw H a .boolean i = true ∧ okv .boolean (.int x) = true)) ∧ W (pj lw) 12 82 L S k n (wr H a i.toNatClampNeg (.int x)) Q) := W_bastore (rfl : (pj lw).1 12 81 = some (.bastore, 1, 0))
theorem w12_82 : W (pj lw) 12 82 (.val (.ref x) :: L) S k n H Q ↔ W (pj lw) 12 83 (.val (.ref x) :: L) (.ref x :: S) k n H Q := W_s rfl rfl rfl rfl
theorem w12_83 : W (pj lw) 12 83 L (.ref a :: S) k n H Q ↔ (isO H a = true ∧ W (pj lw) 12 86 L (fld H a 9 :: S) k n H Q) := W_getf (rfl : (pj lw).1 12 83 = some (.getfield 20, 3, 9))
theorem w12_86 : W (pj lw) 12 86 (l0 :: l1 :: .val (.int x) :: L) S k n H Q ↔ W (pj lw) 12 87 (l0 :: l1 :: .val (.int x) :: L) (.int x :: S) k n H Q := W_s rfl rfl rfl rfl
theorem w12_87 : W (pj lw) 12 87 L (.int i :: .ref a :: S) k n H Q ↔ ((inA H a .byte i = true ∨ inA H a .boolean i = true) ∧ W (pj lw) 12 88 L (elt H a i :: S) k n H Q) := W_baload (rfl : (pj lw).1 12 87 = some (.baload, 1, 0))
theorem w12_88 : W (pj lw) 12 88 L (.int x :: S) k n H Q ↔ (if x = 0 then W (pj lw) 12 97 L S k n H Q else W (pj lw) 12 91 L S k n H Q) := W_if_eq (rfl : (pj lw).1 12 88 = some (.ifCond .eq 9, 3, 0)) rfl
theorem w12_91 : W (pj lw) 12 91 (l0 :: .val (.int x) :: L) S k n H Q ↔ W (pj lw) 12 92 (l0 :: .val (.int x) :: L) (.int x :: S) k n H Q := W_s rfl rfl rfl rfl
theorem w12_92 : W (pj lw) 12 92 L (.int x :: S) k n H Q ↔ (if x < 0 then W (pj lw) 12 95 L S k n H Q else W (pj lw) 12 97 L S k n H Q) := W_if_ge (rfl : (pj lw).1 12 92 = some (.ifCond .ge 5, 3, 0)) rfl
theorem w12_95 : W (pj lw) 12 95 (l0 :: l1 :: .val (.int x) :: L) S k n H Q ↔ W (pj lw) 12 96 (l0 :: l1 :: .val (.int x) :: L) (.int x :: S) k n H Q := W_s rfl rfl rfl rfl
theorem w12_96i : W (pj lw) 12 96 (l0 :: .val (.int y) :: L) (.int x :: S) k n H Q ↔ W (pj lw) 12 97 (l0 :: .val (.int x) :: L) S k n H Q := W_istn (rfl : (pj lw).1 12 96 = some (.istore_n 1, 1, 0)) rfl rfl
theorem w12_97 : W (pj lw) 12 97 (l0 :: l1 :: .val (.int x) :: L) S k n H Q ↔ W (pj lw) 12 100 (l0 :: l1 :: .val (.int (x + 1)) :: L) S k n H Q := W_s rfl rfl rfl rfl
theorem w12_100 : W (pj lw) 12 100 L S k n H Q ↔ W (pj lw) 12 50 L S k n H Q := W_goto rfl rfl
theorem w12_103 : W (pj lw) 12 103 (l0 :: .val (.int x) :: L) S k n H Q ↔ W (pj lw) 12 104 (l0 :: .val (.int x) :: L) (.int x :: S) k n H Q := W_s rfl rfl rfl rfl
theorem w12_104 : W (pj lw) 12 104 L (.int x :: S) k n H Q ↔ (if x < 0 then W (pj lw) 12 107 L S k n H Q else W (pj lw) 12 109 L S k n H Q) := W_if_ge (rfl : (pj lw).1 12 104 = some (.ifCond .ge 5, 3, 0)) rfl
theorem w12_109 : W (pj lw) 12 109 (.val (.ref x) :: L) S k n H Q ↔ W (pj lw) 12 110 (.val (.ref x) :: L) (.ref x :: S) k n H Q := W_s rfl rfl rfl rfl
theorem w12_110 : W (pj lw) 12 110 (l0 :: .val (.int x) :: L) S k n H Q ↔ W (pj lw) 12 111 (l0 :: .val (.int x) :: L) (.int x :: S) k n H Q := W_s rfl rfl rfl rfl
theorem w12_111 : W (pj lw) 12 111 L (.int x0 :: .ref a :: S) k n H Q ↔ ((isO H a = true ∧ cs S + (6 + 11) + 0 ≤ 37) ∧ Cl (pj lw) 20 [.ref a, .int x0] H (fun v H => W (pj lw) 12 114 L (v.toList ++ S) k n H Q)) := W_inst (as := [.int x0]) (rfl : (pj lw).1 12 111 = some (.invokevirtual 99, 3, 20)) rfl rfl rfl (Nat.le_of_ble_eq_true rfl) (Nat.le_of_ble_eq_true rfl) ⟨rfl, rfl⟩
theorem w12_114 : W (pj lw) 12 114 (.val (.ref x) :: L) S k n H Q ↔ W (pj lw) 12 115 (.val (.ref x) :: L) (.ref x :: S) k n H Q := W_s rfl rfl rfl rfl
theorem w12_115 : W (pj lw) 12 115 (l0 :: .val (.int x) :: L) S k n H Q ↔ W (pj lw) 12 116 (l0 :: .val (.int x) :: L) (.int x :: S) k n H Q := W_s rfl rfl rfl rfl
theorem w12_116 : W (pj lw) 12 116 L (.int x0 :: .ref a :: S) k n H Q ↔ ((isO H a = true ∧ cs S + (9 + 11) + 0 ≤ 37) ∧ Cl (pj lw) 21 [.ref a, .int x0] H (fun v H => W (pj lw) 12 119 L (v.toList ++ S) k n H Q)) := W_inst (as := [.int x0]) (rfl : (pj lw).1 12 116 = some (.invokevirtual 103, 3, 21)) rfl rfl rfl (Nat.le_of_ble_eq_true rfl) (Nat.le_of_ble_eq_true rfl) ⟨rfl, rfl⟩
theorem w12_119 : W (pj lw) 12 119 (.val (.ref x) :: L) S k n H Q ↔ W (pj lw) 12 120 (.val (.ref x) :: L) (.ref x :: S) k n H Q := W_s rfl rfl rfl rfl
theorem w12_120 : W (pj lw) 12 120 (.val (.ref x) :: L) S k n H Q ↔ W (pj lw) 12 121 (.val (.ref x) :: L) (.ref x :: S) k n H Q := W_s rfl rfl rfl rfl
theorem w12_121 : W (pj lw) 12 121 L (.ref a :: S) k n H Q ↔ (isO H a = true ∧ W (pj lw) 12 124 L (fld H a 6 :: S) k n H Q) := W_getf (rfl : (pj lw).1 12 121 = some (.getfield 106, 3, 6))
theorem w12_124 : W (pj lw) 12 124 L (.int x :: S) k n H Q ↔ W (pj lw) 12 125 L (.long x.toInt64 :: S) k n H Q := W_s rfl rfl rfl rfl
theorem w12_125 : W (pj lw) 12 125 (.val (.ref x) :: L) S k n H Q ↔ W (pj lw) 12 126 (.val (.ref x) :: L) (.ref x :: S) k n H Q := W_s rfl rfl rfl rfl
theorem w12_126 : W (pj lw) 12 126 L (.ref a :: S) k n H Q ↔ (isO H a = true ∧ W (pj lw) 12 129 L (fld H a 7 :: S) k n H Q) := W_getf (rfl : (pj lw).1 12 126 = some (.getfield 109, 3, 7))
theorem w12_129 : W (pj lw) 12 129 L (.long x1 :: .long x0 :: .ref a :: S) k n H Q ↔ ((isO H a = true ∧ cs S + (12 + 11) + 0 ≤ 37) ∧ Cl (pj lw) 17 [.ref a, .long x0, .long x1] H (fun v H => W (pj lw) 12 132 L (v.toList ++ S) k n H Q)) := W_inst (as := [.long x0, .long x1]) (rfl : (pj lw).1 12 129 = some (.invokevirtual 89, 3, 17)) rfl rfl rfl (Nat.le_of_ble_eq_true rfl) (Nat.le_of_ble_eq_true rfl) ⟨rfl, rfl⟩
theorem w12_132 : W (pj lw) 12 132 (.val (.ref x) :: L) S k n H Q ↔ W (pj lw) 12 133 (.val (.ref x) :: L) (.ref x :: S) k n H Q := W_s rfl rfl rfl rfl
theorem w12_133 : W (pj lw) 12 133 L S k n H Q ↔ W (pj lw) 12 134 L (.int 1 :: S) k n H Q := W_s rfl rfl rfl rfl
theorem w12_134 {a : Nat} {v : Value} : W (pj lw) 12 134 L (v :: .ref a :: S) k n H Q ↔ ((isOw H a = true ∧ okv (.boolean) v = true) ∧ W (pj lw) 12 137 L S k n (wr H a 5 v) Q) := W_putf (rfl : (pj lw).1 12 134 = some (.putfield 56, 3, 5))
theorem w12_137 : W (pj lw) 12 137 L S k n H Q ↔ W (pj lw) 12 138 L (.int 1 :: S) k n H Q := W_s rfl rfl rfl rfl
theorem w12_138 : W (pj lw) 12 138 L (.int x :: S) k n H Q ↔ Q (some (.int x)) H := W_r rfl rfl
theorem c13 {x0 : Nat} : Cl (pj lw) 13 [.ref x0] H Q ↔ W (pj lw) 13 0 [.val (.ref x0), .unset] [] 0 0 H Q := cl_unf rfl
theorem w13_0 : W (pj lw) 13 0 (.val (.ref x) :: L) S k n H Q ↔ W (pj lw) 13 1 (.val (.ref x) :: L) (.ref x :: S) k n H Q := W_s rfl rfl rfl rfl
theorem w13_1 : W (pj lw) 13 1 L S k n H Q ↔ W (pj lw) 13 2 L (.int 0 :: S) k n H Q := W_s rfl rfl rfl rfl
theorem w13_2 {a : Nat} {v : Value} : W (pj lw) 13 2 L (v :: .ref a :: S) k n H Q ↔ ((isOw H a = true ∧ okv (.boolean) v = true) ∧ W (pj lw) 13 5 L S k n (wr H a 5 v) Q) := W_putf (rfl : (pj lw).1 13 2 = some (.putfield 56, 3, 5))
theorem w13_5 : W (pj lw) 13 5 (.val (.ref x) :: L) S k n H Q ↔ W (pj lw) 13 6 (.val (.ref x) :: L) (.ref x :: S) k n H Q := W_s rfl rfl rfl rfl
theorem w13_6 : W (pj lw) 13 6 L S k n H Q ↔ W (pj lw) 13 7 L (.int 0 :: S) k n H Q := W_s rfl rfl rfl rfl
theorem w13_7 {a : Nat} {v : Value} : W (pj lw) 13 7 L (v :: .ref a :: S) k n H Q ↔ ((isOw H a = true ∧ okv (.int) v = true) ∧ W (pj lw) 13 10 L S k n (wr H a 6 v) Q) := W_putf (rfl : (pj lw).1 13 7 = some (.putfield 106, 3, 6))
theorem w13_10 : W (pj lw) 13 10 (.val (.ref x) :: L) S k n H Q ↔ W (pj lw) 13 11 (.val (.ref x) :: L) (.ref x :: S) k n H Q := W_s rfl rfl rfl rfl
theorem w13_11 : W (pj lw) 13 11 L S k n H Q ↔ W (pj lw) 13 12 L (.long 0 :: S) k n H Q := W_s rfl rfl rfl rfl
theorem w13_12 {a : Nat} {v : Value} : W (pj lw) 13 12 L (v :: .ref a :: S) k n H Q ↔ ((isOw H a = true ∧ okv (.long) v = true) ∧ W (pj lw) 13 15 L S k n (wr H a 7 v) Q) := W_putf (rfl : (pj lw).1 13 12 = some (.putfield 109, 3, 7))
theorem w13_15 : W (pj lw) 13 15 L S k n H Q ↔ W (pj lw) 13 16 L (.int 0 :: S) k n H Q := W_s rfl rfl rfl rfl
theorem w13_16 : W (pj lw) 13 16 (l0 :: .unset :: L) (.int x :: S) k n H Q ↔ W (pj lw) 13 17 (l0 :: .val (.int x) :: L) S k n H Q := W_istn (rfl : (pj lw).1 13 16 = some (.istore_n 1, 1, 0)) rfl rfl
theorem w13_17 : W (pj lw) 13 17 (l0 :: .val (.int x) :: L) S k n H Q ↔ W (pj lw) 13 18 (l0 :: .val (.int x) :: L) (.int x :: S) k n H Q := W_s rfl rfl rfl rfl
theorem w13_18 : W (pj lw) 13 18 L S k n H Q ↔ W (pj lw) 13 20 L (.int 24 :: S) k n H Q := W_s rfl rfl rfl rfl
theorem w13_20 : W (pj lw) 13 20 L (.int y :: .int x :: S) k n H Q ↔ (if x < y then W (pj lw) 13 23 L S k n H Q else W (pj lw) 13 50 L S k n H Q) := W_icmp_ge (rfl : (pj lw).1 13 20 = some (.if_icmp .ge 30, 3, 0)) rfl
theorem w13_23 : W (pj lw) 13 23 (.val (.ref x) :: L) S k n H Q ↔ W (pj lw) 13 24 (.val (.ref x) :: L) (.ref x :: S) k n H Q := W_s rfl rfl rfl rfl
theorem w13_24 : W (pj lw) 13 24 L (.ref a :: S) k n H Q ↔ (isO H a = true ∧ W (pj lw) 13 27 L (fld H a 8 :: S) k n H Q) := W_getf (rfl : (pj lw).1 13 24 = some (.getfield 17, 3, 8))
theorem w13_27 : W (pj lw) 13 27 (l0 :: .val (.int x) :: L) S k n H Q ↔ W (pj lw) 13 28 (l0 :: .val (.int x) :: L) (.int x :: S) k n H Q := W_s rfl rfl rfl rfl
theorem w13_28 : W (pj lw) 13 28 L S k n H Q ↔ W (pj lw) 13 29 L (.int (-1) :: S) k n H Q := W_s rfl rfl rfl rfl
theorem w13_29 : W (pj lw) 13 29 L (.int x :: .int i :: .ref a :: S) k n H Q ↔ (inAw H a .int i = true ∧ W (pj lw) 13 30 L S k n (wr H a i.toNatClampNeg (.int x)) Q) := W_iastore (rfl : (pj lw).1 13 29 = some (.iastore, 1, 0))
theorem w13_30 : W (pj lw) 13 30 (.val (.ref x) :: L) S k n H Q ↔ W (pj lw) 13 31 (.val (.ref x) :: L) (.ref x :: S) k n H Q := W_s rfl rfl rfl rfl
theorem w13_31 : W (pj lw) 13 31 L (.ref a :: S) k n H Q ↔ (isO H a = true ∧ W (pj lw) 13 34 L (fld H a 9 :: S) k n H Q) := W_getf (rfl : (pj lw).1 13 31 = some (.getfield 20, 3, 9))
theorem w13_34 : W (pj lw) 13 34 (l0 :: .val (.int x) :: L) S k n H Q ↔ W (pj lw) 13 35 (l0 :: .val (.int x) :: L) (.int x :: S) k n H Q := W_s rfl rfl rfl rfl
theorem w13_35 : W (pj lw) 13 35 L S k n H Q ↔ W (pj lw) 13 36 L (.int 0 :: S) k n H Q := W_s rfl rfl rfl rfl
theorem w13_36 : W (pj lw) 13 36 L (.int x :: .int i :: .ref a :: S) k n H Q ↔ (((inAw H a .byte i = true ∧ okv .byte (.int x) = true) ∨ (inAw H a .boolean i = true ∧ okv .boolean (.int x) = true)) ∧ W (pj lw) 13 37 L S k n (wr H a i.toNatClampNeg (.int x)) Q) := W_bastore (rfl : (pj lw).1 13 36 = some (.bastore, 1, 0))
theorem w13_37 : W (pj lw) 13 37 (.val (.ref x) :: L) S k n H Q ↔ W (pj lw) 13 38 (.val (.ref x) :: L) (.ref x :: S) k n H Q := W_s rfl rfl rfl rfl
theorem w13_38 : W (pj lw) 13 38 L (.ref a :: S) k n H Q ↔ (isO H a = true ∧ W (pj lw) 13 41 L (fld H a 10 :: S) k n H Q) := W_getf (rfl : (pj lw).1 13 38 = some (.getfield 23, 3, 10))
theorem w13_41 : W (pj lw) 13 41 (l0 :: .val (.int x) :: L) S k n H Q ↔ W (pj lw) 13 42 (l0 :: .val (.int x) :: L) (.int x :: S) k n H Q := W_s rfl rfl rfl rfl
theorem w13_42 : W (pj lw) 13 42 L S k n H Q ↔ W (pj lw) 13 43 L (.long 0 :: S) k n H Q := W_s rfl rfl rfl rfl
theorem w13_43 : W (pj lw) 13 43 L (.long x :: .int i :: .ref a :: S) k n H Q ↔ (inAw H a .long i = true ∧ W (pj lw) 13 44 L S k n (wr H a i.toNatClampNeg (.long x)) Q) := W_lastore (rfl : (pj lw).1 13 43 = some (.lastore, 1, 0))
theorem w13_44 : W (pj lw) 13 44 (l0 :: .val (.int x) :: L) S k n H Q ↔ W (pj lw) 13 47 (l0 :: .val (.int (x + 1)) :: L) S k n H Q := W_s rfl rfl rfl rfl
theorem w13_47 : W (pj lw) 13 47 L S k n H Q ↔ W (pj lw) 13 17 L S k n H Q := W_goto rfl rfl
theorem w13_50 : W (pj lw) 13 50 L [] k n H Q ↔ Q none H := W_r rfl rfl
theorem c14 {x0 : Nat} : Cl (pj lw) 14 [.ref x0] H Q ↔ W (pj lw) 14 0 [.val (.ref x0), .unset, .unset] [] 0 0 H Q := cl_unf rfl
theorem w14_0 : W (pj lw) 14 0 L S k n H Q ↔ W (pj lw) 14 1 L (.int 0 :: S) k n H Q := W_s rfl rfl rfl rfl
theorem w14_1 : W (pj lw) 14 1 (l0 :: .unset :: L) (.int x :: S) k n H Q ↔ W (pj lw) 14 2 (l0 :: .val (.int x) :: L) S k n H Q := W_istn (rfl : (pj lw).1 14 1 = some (.istore_n 1, 1, 0)) rfl rfl
theorem w14_2 : W (pj lw) 14 2 (l0 :: .val (.int x) :: L) S k n H Q ↔ W (pj lw) 14 3 (l0 :: .val (.int x) :: L) (.int x :: S) k n H Q := W_s rfl rfl rfl rfl
theorem w14_3 : W (pj lw) 14 3 L S k n H Q ↔ W (pj lw) 14 6 L (.int 600 :: S) k n H Q := W_s rfl rfl rfl rfl
theorem w14_6 : W (pj lw) 14 6 L (.int y :: .int x :: S) k n H Q ↔ (if x < y then W (pj lw) 14 9 L S k n H Q else W (pj lw) 14 25 L S k n H Q) := W_icmp_ge (rfl : (pj lw).1 14 6 = some (.if_icmp .ge 19, 3, 0)) rfl
theorem w14_9 : W (pj lw) 14 9 (.val (.ref x) :: L) S k n H Q ↔ W (pj lw) 14 10 (.val (.ref x) :: L) (.ref x :: S) k n H Q := W_s rfl rfl rfl rfl
theorem w14_10 : W (pj lw) 14 10 L (.ref a :: S) k n H Q ↔ (isO H a = true ∧ W (pj lw) 14 13 L (fld H a 11 :: S) k n H Q) := W_getf (rfl : (pj lw).1 14 10 = some (.getfield 27, 3, 11))
theorem w14_13 : W (pj lw) 14 13 (l0 :: .val (.int x) :: L) S k n H Q ↔ W (pj lw) 14 14 (l0 :: .val (.int x) :: L) (.int x :: S) k n H Q := W_s rfl rfl rfl rfl
theorem w14_14 : W (pj lw) 14 14 (.val (.ref x) :: L) S k n H Q ↔ W (pj lw) 14 15 (.val (.ref x) :: L) (.ref x :: S) k n H Q := W_s rfl rfl rfl rfl
theorem w14_15 : W (pj lw) 14 15 L (.ref a :: S) k n H Q ↔ (isO H a = true ∧ W (pj lw) 14 18 L (fld H a 16 :: S) k n H Q) := W_getf (rfl : (pj lw).1 14 15 = some (.getfield 44, 3, 16))
theorem w14_18 : W (pj lw) 14 18 L (.long x :: .int i :: .ref a :: S) k n H Q ↔ (inAw H a .long i = true ∧ W (pj lw) 14 19 L S k n (wr H a i.toNatClampNeg (.long x)) Q) := W_lastore (rfl : (pj lw).1 14 18 = some (.lastore, 1, 0))
theorem w14_19 : W (pj lw) 14 19 (l0 :: .val (.int x) :: L) S k n H Q ↔ W (pj lw) 14 22 (l0 :: .val (.int (x + 1)) :: L) S k n H Q := W_s rfl rfl rfl rfl
theorem w14_22 : W (pj lw) 14 22 L S k n H Q ↔ W (pj lw) 14 2 L S k n H Q := W_goto rfl rfl
theorem w14_25 : W (pj lw) 14 25 L S k n H Q ↔ W (pj lw) 14 26 L (.int 0 :: S) k n H Q := W_s rfl rfl rfl rfl
theorem w14_26i : W (pj lw) 14 26 (l0 :: .val (.int y) :: L) (.int x :: S) k n H Q ↔ W (pj lw) 14 27 (l0 :: .val (.int x) :: L) S k n H Q := W_istn (rfl : (pj lw).1 14 26 = some (.istore_n 1, 1, 0)) rfl rfl
theorem w14_27 : W (pj lw) 14 27 (l0 :: .val (.int x) :: L) S k n H Q ↔ W (pj lw) 14 28 (l0 :: .val (.int x) :: L) (.int x :: S) k n H Q := W_s rfl rfl rfl rfl
theorem w14_28 : W (pj lw) 14 28 (.val (.ref x) :: L) S k n H Q ↔ W (pj lw) 14 29 (.val (.ref x) :: L) (.ref x :: S) k n H Q := W_s rfl rfl rfl rfl
theorem w14_29 : W (pj lw) 14 29 L (.ref a :: S) k n H Q ↔ (isO H a = true ∧ W (pj lw) 14 32 L (fld H a 0 :: S) k n H Q) := W_getf (rfl : (pj lw).1 14 29 = some (.getfield 48, 3, 0))
theorem w14_32 : W (pj lw) 14 32 L (.int y :: .int x :: S) k n H Q ↔ (if x < y then W (pj lw) 14 35 L S k n H Q else W (pj lw) 14 48 L S k n H Q) := W_icmp_ge (rfl : (pj lw).1 14 32 = some (.if_icmp .ge 16, 3, 0)) rfl
theorem w14_35 : W (pj lw) 14 35 (.val (.ref x) :: L) S k n H Q ↔ W (pj lw) 14 36 (.val (.ref x) :: L) (.ref x :: S) k n H Q := W_s rfl rfl rfl rfl
theorem w14_36 : W (pj lw) 14 36 L (.ref a :: S) k n H Q ↔ (isO H a = true ∧ W (pj lw) 14 39 L (fld H a 11 :: S) k n H Q) := W_getf (rfl : (pj lw).1 14 36 = some (.getfield 27, 3, 11))
theorem w14_39 : W (pj lw) 14 39 (l0 :: .val (.int x) :: L) S k n H Q ↔ W (pj lw) 14 40 (l0 :: .val (.int x) :: L) (.int x :: S) k n H Q := W_s rfl rfl rfl rfl
theorem w14_40 : W (pj lw) 14 40 L S k n H Q ↔ W (pj lw) 14 41 L (.long 0 :: S) k n H Q := W_s rfl rfl rfl rfl
theorem w14_41 : W (pj lw) 14 41 L (.long x :: .int i :: .ref a :: S) k n H Q ↔ (inAw H a .long i = true ∧ W (pj lw) 14 42 L S k n (wr H a i.toNatClampNeg (.long x)) Q) := W_lastore (rfl : (pj lw).1 14 41 = some (.lastore, 1, 0))
theorem w14_42 : W (pj lw) 14 42 (l0 :: .val (.int x) :: L) S k n H Q ↔ W (pj lw) 14 45 (l0 :: .val (.int (x + 1)) :: L) S k n H Q := W_s rfl rfl rfl rfl
theorem w14_45 : W (pj lw) 14 45 L S k n H Q ↔ W (pj lw) 14 27 L S k n H Q := W_goto rfl rfl
theorem w14_48 : W (pj lw) 14 48 L S k n H Q ↔ W (pj lw) 14 49 L (.int 1 :: S) k n H Q := W_s rfl rfl rfl rfl
theorem w14_49i : W (pj lw) 14 49 (l0 :: .val (.int y) :: L) (.int x :: S) k n H Q ↔ W (pj lw) 14 50 (l0 :: .val (.int x) :: L) S k n H Q := W_istn (rfl : (pj lw).1 14 49 = some (.istore_n 1, 1, 0)) rfl rfl
theorem w14_50 : W (pj lw) 14 50 (l0 :: .val (.int x) :: L) S k n H Q ↔ W (pj lw) 14 51 (l0 :: .val (.int x) :: L) (.int x :: S) k n H Q := W_s rfl rfl rfl rfl
theorem w14_51 : W (pj lw) 14 51 (.val (.ref x) :: L) S k n H Q ↔ W (pj lw) 14 52 (.val (.ref x) :: L) (.ref x :: S) k n H Q := W_s rfl rfl rfl rfl
theorem w14_52 : W (pj lw) 14 52 L (.ref a :: S) k n H Q ↔ (isO H a = true ∧ W (pj lw) 14 55 L (fld H a 0 :: S) k n H Q) := W_getf (rfl : (pj lw).1 14 52 = some (.getfield 48, 3, 0))
theorem w14_55 : W (pj lw) 14 55 L (.int y :: .int x :: S) k n H Q ↔ (if y < x then W (pj lw) 14 94 L S k n H Q else W (pj lw) 14 58 L S k n H Q) := W_icmp_gt (rfl : (pj lw).1 14 55 = some (.if_icmp .gt 39, 3, 0)) rfl
theorem w14_58 : W (pj lw) 14 58 L S k n H Q ↔ W (pj lw) 14 59 L (.int 0 :: S) k n H Q := W_s rfl rfl rfl rfl
theorem w14_59 : W (pj lw) 14 59 (l0 :: l1 :: .unset :: L) (.int x :: S) k n H Q ↔ W (pj lw) 14 60 (l0 :: l1 :: .val (.int x) :: L) S k n H Q := W_istn (rfl : (pj lw).1 14 59 = some (.istore_n 2, 1, 0)) rfl rfl
theorem w14_60 : W (pj lw) 14 60 (l0 :: l1 :: .val (.int x) :: L) S k n H Q ↔ W (pj lw) 14 61 (l0 :: l1 :: .val (.int x) :: L) (.int x :: S) k n H Q := W_s rfl rfl rfl rfl
theorem w14_61 : W (pj lw) 14 61 L S k n H Q ↔ W (pj lw) 14 64 L (.int 576 :: S) k n H Q := W_s rfl rfl rfl rfl
theorem w14_64 : W (pj lw) 14 64 L (.int y :: .int x :: S) k n H Q ↔ (if x < y then W (pj lw) 14 67 L S k n H Q else W (pj lw) 14 88 L S k n H Q) := W_icmp_ge (rfl : (pj lw).1 14 64 = some (.if_icmp .ge 24, 3, 0)) rfl
theorem w14_67 : W (pj lw) 14 67 (.val (.ref x) :: L) S k n H Q ↔ W (pj lw) 14 68 (.val (.ref x) :: L) (.ref x :: S) k n H Q := W_s rfl rfl rfl rfl
theorem w14_68 : W (pj lw) 14 68 L (.ref a :: S) k n H Q ↔ (isO H a = true ∧ W (pj lw) 14 71 L (fld H a 2 :: S) k n H Q) := W_getf (rfl : (pj lw).1 14 68 = some (.getfield 7, 3, 2))
theorem w14_71 : W (pj lw) 14 71 (l0 :: l1 :: .val (.int x) :: L) S k n H Q ↔ W (pj lw) 14 72 (l0 :: l1 :: .val (.int x) :: L) (.int x :: S) k n H Q := W_s rfl rfl rfl rfl
theorem w14_72 : W (pj lw) 14 72 L (.int i :: .ref a :: S) k n H Q ↔ ((inA H a .byte i = true ∨ inA H a .boolean i = true) ∧ W (pj lw) 14 73 L (elt H a i :: S) k n H Q) := W_baload (rfl : (pj lw).1 14 72 = some (.baload, 1, 0))
theorem w14_73 : W (pj lw) 14 73 L (.int x :: S) k n H Q ↔ (if x = 0 then W (pj lw) 14 82 L S k n H Q else W (pj lw) 14 76 L S k n H Q) := W_if_eq (rfl : (pj lw).1 14 73 = some (.ifCond .eq 9, 3, 0)) rfl
theorem w14_76 : W (pj lw) 14 76 (.val (.ref x) :: L) S k n H Q ↔ W (pj lw) 14 77 (.val (.ref x) :: L) (.ref x :: S) k n H Q := W_s rfl rfl rfl rfl
theorem w14_77 : W (pj lw) 14 77 (l0 :: .val (.int x) :: L) S k n H Q ↔ W (pj lw) 14 78 (l0 :: .val (.int x) :: L) (.int x :: S) k n H Q := W_s rfl rfl rfl rfl
theorem w14_78 : W (pj lw) 14 78 (l0 :: l1 :: .val (.int x) :: L) S k n H Q ↔ W (pj lw) 14 79 (l0 :: l1 :: .val (.int x) :: L) (.int x :: S) k n H Q := W_s rfl rfl rfl rfl
theorem w14_79 : W (pj lw) 14 79 L (.int x1 :: .int x0 :: .ref a :: S) k n H Q ↔ ((isO H a = true ∧ cs S + (9 + 11) + 0 ≤ 23) ∧ Cl (pj lw) 15 [.ref a, .int x0, .int x1] H (fun v H => W (pj lw) 14 82 L (v.toList ++ S) k n H Q)) := W_inst (as := [.int x0, .int x1]) (rfl : (pj lw).1 14 79 = some (.invokevirtual 112, 3, 15)) rfl rfl rfl (Nat.le_of_ble_eq_true rfl) (Nat.le_of_ble_eq_true rfl) ⟨rfl, rfl⟩
theorem w14_82 : W (pj lw) 14 82 (l0 :: l1 :: .val (.int x) :: L) S k n H Q ↔ W (pj lw) 14 85 (l0 :: l1 :: .val (.int (x + 1)) :: L) S k n H Q := W_s rfl rfl rfl rfl
theorem w14_85 : W (pj lw) 14 85 L S k n H Q ↔ W (pj lw) 14 60 L S k n H Q := W_goto rfl rfl
theorem w14_88 : W (pj lw) 14 88 (l0 :: .val (.int x) :: L) S k n H Q ↔ W (pj lw) 14 91 (l0 :: .val (.int (x + 1)) :: L) S k n H Q := W_s rfl rfl rfl rfl
theorem w14_91 : W (pj lw) 14 91 L S k n H Q ↔ W (pj lw) 14 50 L S k n H Q := W_goto rfl rfl
theorem w14_94 : W (pj lw) 14 94 L S k n H Q ↔ W (pj lw) 14 95 L (.int 0 :: S) k n H Q := W_s rfl rfl rfl rfl
theorem w14_95i : W (pj lw) 14 95 (l0 :: .val (.int y) :: L) (.int x :: S) k n H Q ↔ W (pj lw) 14 96 (l0 :: .val (.int x) :: L) S k n H Q := W_istn (rfl : (pj lw).1 14 95 = some (.istore_n 1, 1, 0)) rfl rfl
theorem w14_96 : W (pj lw) 14 96 L S k n H Q ↔ W (pj lw) 14 97 L (.int 0 :: S) k n H Q := W_s rfl rfl rfl rfl
theorem w14_97 : W (pj lw) 14 97 (l0 :: l1 :: .unset :: L) (.int x :: S) k n H Q ↔ W (pj lw) 14 98 (l0 :: l1 :: .val (.int x) :: L) S k n H Q := W_istn (rfl : (pj lw).1 14 97 = some (.istore_n 2, 1, 0)) rfl rfl
theorem w14_98 : W (pj lw) 14 98 (l0 :: l1 :: .val (.int x) :: L) S k n H Q ↔ W (pj lw) 14 99 (l0 :: l1 :: .val (.int x) :: L) (.int x :: S) k n H Q := W_s rfl rfl rfl rfl
theorem w14_99 : W (pj lw) 14 99 (.val (.ref x) :: L) S k n H Q ↔ W (pj lw) 14 100 (.val (.ref x) :: L) (.ref x :: S) k n H Q := W_s rfl rfl rfl rfl
theorem w14_100 : W (pj lw) 14 100 L (.ref a :: S) k n H Q ↔ (isO H a = true ∧ W (pj lw) 14 103 L (fld H a 0 :: S) k n H Q) := W_getf (rfl : (pj lw).1 14 100 = some (.getfield 48, 3, 0))
theorem w14_103 : W (pj lw) 14 103 L (.int y :: .int x :: S) k n H Q ↔ (if x < y then W (pj lw) 14 106 L S k n H Q else W (pj lw) 14 183 L S k n H Q) := W_icmp_ge (rfl : (pj lw).1 14 103 = some (.if_icmp .ge 80, 3, 0)) rfl
theorem w14_106 : W (pj lw) 14 106 (.val (.ref x) :: L) S k n H Q ↔ W (pj lw) 14 107 (.val (.ref x) :: L) (.ref x :: S) k n H Q := W_s rfl rfl rfl rfl
theorem w14_107 : W (pj lw) 14 107 L (.ref a :: S) k n H Q ↔ (isO H a = true ∧ W (pj lw) 14 110 L (fld H a 11 :: S) k n H Q) := W_getf (rfl : (pj lw).1 14 107 = some (.getfield 27, 3, 11))
theorem w14_110 : W (pj lw) 14 110 (.val (.ref x) :: L) S k n H Q ↔ W (pj lw) 14 111 (.val (.ref x) :: L) (.ref x :: S) k n H Q := W_s rfl rfl rfl rfl
theorem w14_111 : W (pj lw) 14 111 L (.ref a :: S) k n H Q ↔ (isO H a = true ∧ W (pj lw) 14 114 L (fld H a 0 :: S) k n H Q) := W_getf (rfl : (pj lw).1 14 111 = some (.getfield 48, 3, 0))
theorem w14_114 : W (pj lw) 14 114 L S k n H Q ↔ W (pj lw) 14 116 L (.int 24 :: S) k n H Q := W_s rfl rfl rfl rfl
theorem w14_116 : W (pj lw) 14 116 L (.int y :: .int x :: S) k n H Q ↔ W (pj lw) 14 117 L (.int (x * y) :: S) k n H Q := W_s rfl rfl rfl rfl
theorem w14_117 : W (pj lw) 14 117 (l0 :: l1 :: .val (.int x) :: L) S k n H Q ↔ W (pj lw) 14 118 (l0 :: l1 :: .val (.int x) :: L) (.int x :: S) k n H Q := W_s rfl rfl rfl rfl
theorem w14_118 : W (pj lw) 14 118 L (.int y :: .int x :: S) k n H Q ↔ W (pj lw) 14 119 L (.int (x + y) :: S) k n H Q := W_s rfl rfl rfl rfl
theorem w14_119 : W (pj lw) 14 119 L (.int i :: .ref a :: S) k n H Q ↔ (inA H a .long i = true ∧ W (pj lw) 14 120 L (elt H a i :: S) k n H Q) := W_laload (rfl : (pj lw).1 14 119 = some (.laload, 1, 0))
theorem w14_120 : W (pj lw) 14 120 (.val (.ref x) :: L) S k n H Q ↔ W (pj lw) 14 121 (.val (.ref x) :: L) (.ref x :: S) k n H Q := W_s rfl rfl rfl rfl
theorem w14_121 : W (pj lw) 14 121 L (.ref a :: S) k n H Q ↔ (isO H a = true ∧ W (pj lw) 14 124 L (fld H a 16 :: S) k n H Q) := W_getf (rfl : (pj lw).1 14 121 = some (.getfield 44, 3, 16))
theorem w14_124 : W (pj lw) 14 124 L (.long y :: .long x :: S) k n H Q ↔ W (pj lw) 14 125 L (.int (Jvm.Free.XT.cmpL x y) :: S) k n H Q := W_s rfl rfl rfl rfl
theorem w14_125 : W (pj lw) 14 125 L (.int x :: S) k n H Q ↔ (if x = 0 then W (pj lw) 14 177 L S k n H Q else W (pj lw) 14 128 L S k n H Q) := W_if_eq (rfl : (pj lw).1 14 125 = some (.ifCond .eq 52, 3, 0)) rfl
theorem w14_128 : W (pj lw) 14 128 (.val (.ref x) :: L) S k n H Q ↔ W (pj lw) 14 129 (.val (.ref x) :: L) (.ref x :: S) k n H Q := W_s rfl rfl rfl rfl
theorem w14_129 : W (pj lw) 14 129 (l0 :: l1 :: .val (.int x) :: L) S k n H Q ↔ W (pj lw) 14 130 (l0 :: l1 :: .val (.int x) :: L) (.int x :: S) k n H Q := W_s rfl rfl rfl rfl
theorem w14_130 : W (pj lw) 14 130 L (.int x0 :: .ref a :: S) k n H Q ↔ ((isO H a = true ∧ cs S + (12 + 11) + 0 ≤ 23) ∧ Cl (pj lw) 16 [.ref a, .int x0] H (fun v H => W (pj lw) 14 133 L (v.toList ++ S) k n H Q)) := W_inst (as := [.int x0]) (rfl : (pj lw).1 14 130 = some (.invokevirtual 116, 3, 16)) rfl rfl rfl (Nat.le_of_ble_eq_true rfl) (Nat.le_of_ble_eq_true rfl) ⟨rfl, rfl⟩
theorem w14_133 : W (pj lw) 14 133 (l0 :: .val (.int x) :: L) S k n H Q ↔ W (pj lw) 14 134 (l0 :: .val (.int x) :: L) (.int x :: S) k n H Q := W_s rfl rfl rfl rfl
theorem w14_134 : W (pj lw) 14 134 L (.int x :: S) k n H Q ↔ (if x = 0 then W (pj lw) 14 159 L S k n H Q else W (pj lw) 14 137 L S k n H Q) := W_if_eq (rfl : (pj lw).1 14 134 = some (.ifCond .eq 25, 3, 0)) rfl
theorem w14_137 : W (pj lw) 14 137 (.val (.ref x) :: L) S k n H Q ↔ W (pj lw) 14 138 (.val (.ref x) :: L) (.ref x :: S) k n H Q := W_s rfl rfl rfl rfl
theorem w14_138 : W (pj lw) 14 138 L (.ref a :: S) k n H Q ↔ (isO H a = true ∧ W (pj lw) 14 141 L (fld H a 19 :: S) k n H Q) := W_getf (rfl : (pj lw).1 14 138 = some (.getfield 119, 3, 19))
theorem w14_141 : W (pj lw) 14 141 (.val (.ref x) :: L) S k n H Q ↔ W (pj lw) 14 142 (.val (.ref x) :: L) (.ref x :: S) k n H Q := W_s rfl rfl rfl rfl
theorem w14_142 : W (pj lw) 14 142 L (.ref a :: S) k n H Q ↔ (isO H a = true ∧ W (pj lw) 14 145 L (fld H a 18 :: S) k n H Q) := W_getf (rfl : (pj lw).1 14 142 = some (.getfield 83, 3, 18))
theorem w14_145 : W (pj lw) 14 145 L (.long y :: .long x :: S) k n H Q ↔ W (pj lw) 14 146 L (.long (x * y) :: S) k n H Q := W_s rfl rfl rfl rfl
theorem w14_146 : W (pj lw) 14 146 (.val (.ref x) :: L) S k n H Q ↔ W (pj lw) 14 147 (.val (.ref x) :: L) (.ref x :: S) k n H Q := W_s rfl rfl rfl rfl
theorem w14_147 : W (pj lw) 14 147 L (.ref a :: S) k n H Q ↔ (isO H a = true ∧ W (pj lw) 14 150 L (fld H a 17 :: S) k n H Q) := W_getf (rfl : (pj lw).1 14 147 = some (.getfield 86, 3, 17))
theorem w14_150 : W (pj lw) 14 150 (.val (.ref x) :: L) S k n H Q ↔ W (pj lw) 14 151 (.val (.ref x) :: L) (.ref x :: S) k n H Q := W_s rfl rfl rfl rfl
theorem w14_151 : W (pj lw) 14 151 L (.ref a :: S) k n H Q ↔ (isO H a = true ∧ W (pj lw) 14 154 L (fld H a 20 :: S) k n H Q) := W_getf (rfl : (pj lw).1 14 151 = some (.getfield 122, 3, 20))
theorem w14_154 : W (pj lw) 14 154 L (.long y :: .long x :: S) k n H Q ↔ W (pj lw) 14 155 L (.long (x * y) :: S) k n H Q := W_s rfl rfl rfl rfl
theorem w14_155 : W (pj lw) 14 155 L (.long y :: .long x :: S) k n H Q ↔ W (pj lw) 14 156 L (.int (Jvm.Free.XT.cmpL x y) :: S) k n H Q := W_s rfl rfl rfl rfl
theorem w14_156 : W (pj lw) 14 156 L (.int x :: S) k n H Q ↔ (if x < 0 then W (pj lw) 14 159 L S k n H Q else W (pj lw) 14 177 L S k n H Q) := W_if_ge (rfl : (pj lw).1 14 156 = some (.ifCond .ge 21, 3, 0)) rfl
theorem w14_159 : W (pj lw) 14 159 (.val (.ref x) :: L) S k n H Q ↔ W (pj lw) 14 160 (.val (.ref x) :: L) (.ref x :: S) k n H Q := W_s rfl rfl rfl rfl
theorem w14_160 : W (pj lw) 14 160 (.val (.ref x) :: L) S k n H Q ↔ W (pj lw) 14 161 (.val (.ref x) :: L) (.ref x :: S) k n H Q := W_s rfl rfl rfl rfl
theorem w14_161 : W (pj lw) 14 161 L (.ref a :: S) k n H Q ↔ (isO H a = true ∧ W (pj lw) 14 164 L (fld H a 19 :: S) k n H Q) := W_getf (rfl : (pj lw).1 14 161 = some (.getfield 119, 3, 19))
theorem w14_164 {a : Nat} {v : Value} : W (pj lw) 14 164 L (v :: .ref a :: S) k n H Q ↔ ((isOw H a = true ∧ okv (.long) v = true) ∧ W (pj lw) 14 167 L S k n (wr H a 17 v) Q) := W_putf (rfl : (pj lw).1 14 164 = some (.putfield 86, 3, 17))
theorem w14_167 : W (pj lw) 14 167 (.val (.ref x) :: L) S k n H Q ↔ W (pj lw) 14 168 (.val (.ref x) :: L) (.ref x :: S) k n H Q := W_s rfl rfl rfl rfl
theorem w14_168 : W (pj lw) 14 168 (.val (.ref x) :: L) S k n H Q ↔ W (pj lw) 14 169 (.val (.ref x) :: L) (.ref x :: S) k n H Q := W_s rfl rfl rfl rfl
theorem w14_169 : W (pj lw) 14 169 L (.ref a :: S) k n H Q ↔ (isO H a = true ∧ W (pj lw) 14 172 L (fld H a 20 :: S) k n H Q) := W_getf (rfl : (pj lw).1 14 169 = some (.getfield 122, 3, 20))
theorem w14_172 {a : Nat} {v : Value} : W (pj lw) 14 172 L (v :: .ref a :: S) k n H Q ↔ ((isOw H a = true ∧ okv (.long) v = true) ∧ W (pj lw) 14 175 L S k n (wr H a 18 v) Q) := W_putf (rfl : (pj lw).1 14 172 = some (.putfield 83, 3, 18))
theorem w14_175 : W (pj lw) 14 175 L S k n H Q ↔ W (pj lw) 14 176 L (.int 1 :: S) k n H Q := W_s rfl rfl rfl rfl
theorem w14_176i : W (pj lw) 14 176 (l0 :: .val (.int y) :: L) (.int x :: S) k n H Q ↔ W (pj lw) 14 177 (l0 :: .val (.int x) :: L) S k n H Q := W_istn (rfl : (pj lw).1 14 176 = some (.istore_n 1, 1, 0)) rfl rfl
theorem w14_177 : W (pj lw) 14 177 (l0 :: l1 :: .val (.int x) :: L) S k n H Q ↔ W (pj lw) 14 180 (l0 :: l1 :: .val (.int (x + 1)) :: L) S k n H Q := W_s rfl rfl rfl rfl
theorem w14_180 : W (pj lw) 14 180 L S k n H Q ↔ W (pj lw) 14 98 L S k n H Q := W_goto rfl rfl
theorem w14_183 : W (pj lw) 14 183 (l0 :: .val (.int x) :: L) S k n H Q ↔ W (pj lw) 14 184 (l0 :: .val (.int x) :: L) (.int x :: S) k n H Q := W_s rfl rfl rfl rfl
theorem w14_184 : W (pj lw) 14 184 L (.int x :: S) k n H Q ↔ ((x = 0 ∨ x = 1) ∧ Q (some (.int x)) H) := W_rz rfl rfl
theorem c15 {x0 : Nat} {x1 : Int32} {x2 : Int32} : Cl (pj lw) 15 [.ref x0, .int x1, .int x2] H Q ↔ W (pj lw) 15 0 [.val (.ref x0), .val (.int x1), .val (.int x2), .unset, .unset, .unset, .unset, .unset, .unset] [] 0 0 H Q := cl_unf rfl
theorem w15_0 : W (pj lw) 15 0 (l0 :: l1 :: .val (.int x) :: L) S k n H Q ↔ W (pj lw) 15 1 (l0 :: l1 :: .val (.int x) :: L) (.int x :: S) k n H Q := W_s rfl rfl rfl rfl
theorem w15_1 : W (pj lw) 15 1 L S k n H Q ↔ W (pj lw) 15 3 L (.int 24 :: S) k n H Q := W_s rfl rfl rfl rfl
theorem w15_3 : W (pj lw) 15 3 L (.int y :: .int x :: S) k n H Q ↔ (¬ y = 0 ∧ W (pj lw) 15 4 L (.int (x / y) :: S) k n H Q) := W_idiv (rfl : (pj lw).1 15 3 = some (.idiv, 1, 0))
theorem w15_4 : W (pj lw) 15 4 (l0 :: l1 :: l2 :: .unset :: L) (.int x :: S) k n H Q ↔ W (pj lw) 15 5 (l0 :: l1 :: l2 :: .val (.int x) :: L) S k n H Q := W_istn (rfl : (pj lw).1 15 4 = some (.istore_n 3, 1, 0)) rfl rfl
theorem w15_5 : W (pj lw) 15 5 (l0 :: l1 :: .val (.int x) :: L) S k n H Q ↔ W (pj lw) 15 6 (l0 :: l1 :: .val (.int x) :: L) (.int x :: S) k n H Q := W_s rfl rfl rfl rfl
theorem w15_6 : W (pj lw) 15 6 L S k n H Q ↔ W (pj lw) 15 8 L (.int 24 :: S) k n H Q := W_s rfl rfl rfl rfl
theorem w15_8 : W (pj lw) 15 8 L (.int y :: .int x :: S) k n H Q ↔ (¬ y = 0 ∧ W (pj lw) 15 9 L (.int (x % y) :: S) k n H Q) := W_irem (rfl : (pj lw).1 15 8 = some (.irem, 1, 0))
theorem w15_9 : W (pj lw) 15 9 (l0 :: l1 :: l2 :: l3 :: .unset :: L) (.int x :: S) k n H Q ↔ W (pj lw) 15 11 (l0 :: l1 :: l2 :: l3 :: .val (.int x) :: L) S k n H Q := W_ist (rfl : (pj lw).1 15 9 = some (.istore 4, 2, 0)) rfl rfl
theorem w15_11 : W (pj lw) 15 11 (.val (.ref x) :: L) S k n H Q ↔ W (pj lw) 15 12 (.val (.ref x) :: L) (.ref x :: S) k n H Q := W_s rfl rfl rfl rfl
theorem w15_12 : W (pj lw) 15 12 L (.ref a :: S) k n H Q ↔ (isO H a = true ∧ W (pj lw) 15 15 L (fld H a 11 :: S) k n H Q) := W_getf (rfl : (pj lw).1 15 12 = some (.getfield 27, 3, 11))
theorem w15_15 : W (pj lw) 15 15 (l0 :: .val (.int x) :: L) S k n H Q ↔ W (pj lw) 15 16 (l0 :: .val (.int x) :: L) (.int x :: S) k n H Q := W_s rfl rfl rfl rfl
theorem w15_16 : W (pj lw) 15 16 L S k n H Q ↔ W (pj lw) 15 17 L (.int 1 :: S) k n H Q := W_s rfl rfl rfl rfl
theorem w15_17 : W (pj lw) 15 17 L (.int y :: .int x :: S) k n H Q ↔ W (pj lw) 15 18 L (.int (x - y) :: S) k n H Q := W_s rfl rfl rfl rfl
theorem w15_18 : W (pj lw) 15 18 L S k n H Q ↔ W (pj lw) 15 20 L (.int 24 :: S) k n H Q := W_s rfl rfl rfl rfl
theorem w15_20 : W (pj lw) 15 20 L (.int y :: .int x :: S) k n H Q ↔ W (pj lw) 15 21 L (.int (x * y) :: S) k n H Q := W_s rfl rfl rfl rfl
theorem w15_21 : W (pj lw) 15 21 (l0 :: l1 :: l2 :: .val (.int x) :: L) S k n H Q ↔ W (pj lw) 15 22 (l0 :: l1 :: l2 :: .val (.int x) :: L) (.int x :: S) k n H Q := W_s rfl rfl rfl rfl
theorem w15_22 : W (pj lw) 15 22 L (.int y :: .int x :: S) k n H Q ↔ W (pj lw) 15 23 L (.int (x + y) :: S) k n H Q := W_s rfl rfl rfl rfl
theorem w15_23 : W (pj lw) 15 23 L (.int i :: .ref a :: S) k n H Q ↔ (inA H a .long i = true ∧ W (pj lw) 15 24 L (elt H a i :: S) k n H Q) := W_laload (rfl : (pj lw).1 15 23 = some (.laload, 1, 0))
theorem w15_24uu : W (pj lw) 15 24 (l0 :: l1 :: l2 :: l3 :: l4 :: .unset :: .unset :: L) (.long x :: S) k n H Q ↔ W (pj lw) 15 26 (l0 :: l1 :: l2 :: l3 :: l4 :: .val (.long x) :: .second :: L) S k n H Q := W_lst (rfl : (pj lw).1 15 24 = some (.lstore 5, 2, 0)) rfl rfl rfl rfl
theorem w15_26 : W (pj lw) 15 26 (l0 :: l1 :: l2 :: l3 :: l4 :: .val (.long x) :: L) S k n H Q ↔ W (pj lw) 15 28 (l0 :: l1 :: l2 :: l3 :: l4 :: .val (.long x) :: L) (.long x :: S) k n H Q := W_s rfl rfl rfl rfl
theorem w15_28 : W (pj lw) 15 28 (.val (.ref x) :: L) S k n H Q ↔ W (pj lw) 15 29 (.val (.ref x) :: L) (.ref x :: S) k n H Q := W_s rfl rfl rfl rfl
theorem w15_29 : W (pj lw) 15 29 L (.ref a :: S) k n H Q ↔ (isO H a = true ∧ W (pj lw) 15 32 L (fld H a 16 :: S) k n H Q) := W_getf (rfl : (pj lw).1 15 29 = some (.getfield 44, 3, 16))
theorem w15_32 : W (pj lw) 15 32 L (.long y :: .long x :: S) k n H Q ↔ W (pj lw) 15 33 L (.int (Jvm.Free.XT.cmpL x y) :: S) k n H Q := W_s rfl rfl rfl rfl
theorem w15_33 : W (pj lw) 15 33 L (.int x :: S) k n H Q ↔ (if x = 0 then W (pj lw) 15 36 L S k n H Q else W (pj lw) 15 37 L S k n H Q) := W_if_ne (rfl : (pj lw).1 15 33 = some (.ifCond .ne 4, 3, 0)) rfl
theorem w15_36 : W (pj lw) 15 36 L [] k n H Q ↔ Q none H := W_r rfl rfl
theorem w15_37 : W (pj lw) 15 37 (l0 :: l1 :: l2 :: l3 :: l4 :: .val (.long x) :: L) S k n H Q ↔ W (pj lw) 15 39 (l0 :: l1 :: l2 :: l3 :: l4 :: .val (.long x) :: L) (.long x :: S) k n H Q := W_s rfl rfl rfl rfl
theorem w15_39 : W (pj lw) 15 39 (.val (.ref x) :: L) S k n H Q ↔ W (pj lw) 15 40 (.val (.ref x) :: L) (.ref x :: S) k n H Q := W_s rfl rfl rfl rfl
theorem w15_40 : W (pj lw) 15 40 L (.ref a :: S) k n H Q ↔ (isO H a = true ∧ W (pj lw) 15 43 L (fld H a 3 :: S) k n H Q) := W_getf (rfl : (pj lw).1 15 40 = some (.getfield 13, 3, 3))
theorem w15_43 : W (pj lw) 15 43 (l0 :: l1 :: .val (.int x) :: L) S k n H Q ↔ W (pj lw) 15 44 (l0 :: l1 :: .val (.int x) :: L) (.int x :: S) k n H Q := W_s rfl rfl rfl rfl
theorem w15_44 : W (pj lw) 15 44 L (.int i :: .ref a :: S) k n H Q ↔ (inA H a .int i = true ∧ W (pj lw) 15 45 L (elt H a i :: S) k n H Q) := W_iaload (rfl : (pj lw).1 15 44 = some (.iaload, 1, 0))
theorem w15_45 : W (pj lw) 15 45 L (.int x :: S) k n H Q ↔ W (pj lw) 15 46 L (.long x.toInt64 :: S) k n H Q := W_s rfl rfl rfl rfl
theorem w15_46 : W (pj lw) 15 46 L (.long y :: .long x :: S) k n H Q ↔ W (pj lw) 15 47 L (.long (x + y) :: S) k n H Q := W_s rfl rfl rfl rfl
theorem w15_47uu : W (pj lw) 15 47 (l0 :: l1 :: l2 :: l3 :: l4 :: l5 :: l6 :: .unset :: .unset :: L) (.long x :: S) k n H Q ↔ W (pj lw) 15 49 (l0 :: l1 :: l2 :: l3 :: l4 :: l5 :: l6 :: .val (.long x) :: .second :: L) S k n H Q := W_lst (rfl : (pj lw).1 15 47 = some (.lstore 7, 2, 0)) rfl rfl rfl rfl
theorem w15_49 : W (pj lw) 15 49 (l0 :: l1 :: l2 :: l3 :: l4 :: l5 :: l6 :: .val (.long x) :: L) S k n H Q ↔ W (pj lw) 15 51 (l0 :: l1 :: l2 :: l3 :: l4 :: l5 :: l6 :: .val (.long x) :: L) (.long x :: S) k n H Q := W_s rfl rfl rfl rfl
theorem w15_51 : W (pj lw) 15 51 (.val (.ref x) :: L) S k n H Q ↔ W (pj lw) 15 52 (.val (.ref x) :: L) (.ref x :: S) k n H Q := W_s rfl rfl rfl rfl
theorem w15_52 : W (pj lw) 15 52 L (.ref a :: S) k n H Q ↔ (isO H a = true ∧ W (pj lw) 15 55 L (fld H a 11 :: S) k n H Q) := W_getf (rfl : (pj lw).1 15 52 = some (.getfield 27, 3, 11))
theorem w15_55 : W (pj lw) 15 55 (l0 :: .val (.int x) :: L) S k n H Q ↔ W (pj lw) 15 56 (l0 :: .val (.int x) :: L) (.int x :: S) k n H Q := W_s rfl rfl rfl rfl
theorem w15_56 : W (pj lw) 15 56 L S k n H Q ↔ W (pj lw) 15 58 L (.int 24 :: S) k n H Q := W_s rfl rfl rfl rfl
theorem w15_58 : W (pj lw) 15 58 L (.int y :: .int x :: S) k n H Q ↔ W (pj lw) 15 59 L (.int (x * y) :: S) k n H Q := W_s rfl rfl rfl rfl
theorem w15_59 : W (pj lw) 15 59 (l0 :: l1 :: l2 :: l3 :: .val (.int x) :: L) S k n H Q ↔ W (pj lw) 15 61 (l0 :: l1 :: l2 :: l3 :: .val (.int x) :: L) (.int x :: S) k n H Q := W_s rfl rfl rfl rfl
theorem w15_61 : W (pj lw) 15 61 L (.int y :: .int x :: S) k n H Q ↔ W (pj lw) 15 62 L (.int (x + y) :: S) k n H Q := W_s rfl rfl rfl rfl
theorem w15_62 : W (pj lw) 15 62 L (.int i :: .ref a :: S) k n H Q ↔ (inA H a .long i = true ∧ W (pj lw) 15 63 L (elt H a i :: S) k n H Q) := W_laload (rfl : (pj lw).1 15 62 = some (.laload, 1, 0))
theorem w15_63 : W (pj lw) 15 63 L (.long y :: .long x :: S) k n H Q ↔ W (pj lw) 15 64 L (.int (Jvm.Free.XT.cmpL x y) :: S) k n H Q := W_s rfl rfl rfl rfl
theorem w15_64 : W (pj lw) 15 64 L (.int x :: S) k n H Q ↔ (if x < 0 then W (pj lw) 15 67 L S k n H Q else W (pj lw) 15 81 L S k n H Q) := W_if_ge (rfl : (pj lw).1 15 64 = some (.ifCond .ge 17, 3, 0)) rfl
theorem w15_67 : W (pj lw) 15 67 (.val (.ref x) :: L) S k n H Q ↔ W (pj lw) 15 68 (.val (.ref x) :: L) (.ref x :: S) k n H Q := W_s rfl rfl rfl rfl
theorem w15_68 : W (pj lw) 15 68 L (.ref a :: S) k n H Q ↔ (isO H a = true ∧ W (pj lw) 15 71 L (fld H a 11 :: S) k n H Q) := W_getf (rfl : (pj lw).1 15 68 = some (.getfield 27, 3, 11))
theorem w15_71 : W (pj lw) 15 71 (l0 :: .val (.int x) :: L) S k n H Q ↔ W (pj lw) 15 72 (l0 :: .val (.int x) :: L) (.int x :: S) k n H Q := W_s rfl rfl rfl rfl
theorem w15_72 : W (pj lw) 15 72 L S k n H Q ↔ W (pj lw) 15 74 L (.int 24 :: S) k n H Q := W_s rfl rfl rfl rfl
theorem w15_74 : W (pj lw) 15 74 L (.int y :: .int x :: S) k n H Q ↔ W (pj lw) 15 75 L (.int (x * y) :: S) k n H Q := W_s rfl rfl rfl rfl
theorem w15_75 : W (pj lw) 15 75 (l0 :: l1 :: l2 :: l3 :: .val (.int x) :: L) S k n H Q ↔ W (pj lw) 15 77 (l0 :: l1 :: l2 :: l3 :: .val (.int x) :: L) (.int x :: S) k n H Q := W_s rfl rfl rfl rfl
theorem w15_77 : W (pj lw) 15 77 L (.int y :: .int x :: S) k n H Q ↔ W (pj lw) 15 78 L (.int (x + y) :: S) k n H Q := W_s rfl rfl rfl rfl
theorem w15_78 : W (pj lw) 15 78 (l0 :: l1 :: l2 :: l3 :: l4 :: l5 :: l6 :: .val (.long x) :: L) S k n H Q ↔ W (pj lw) 15 80 (l0 :: l1 :: l2 :: l3 :: l4 :: l5 :: l6 :: .val (.long x) :: L) (.long x :: S) k n H Q := W_s rfl rfl rfl rfl
theorem w15_80 : W (pj lw) 15 80 L (.long x :: .int i :: .ref a :: S) k n H Q ↔ (inAw H a .long i = true ∧ W (pj lw) 15 81 L S k n (wr H a i.toNatClampNeg (.long x)) Q) := W_lastore (rfl : (pj lw).1 15 80 = some (.lastore, 1, 0))
theorem w15_81 : W (pj lw) 15 81 L [] k n H Q ↔ Q none H := W_r rfl rfl
theorem c16 {x0 : Nat} {x1 : Int32} : Cl (pj lw) 16 [.ref x0, .int x1] H Q ↔ W (pj lw) 16 0 [.val (.ref x0), .val (.int x1), .unset, .unset, .unset, .unset, .unset, .unset, .unset, .unset, .unset, .unset] [] 0 0 H Q := cl_unf rfl
theorem w16_0 : W (pj lw) 16 0 (.val (.ref x) :: L) S k n H Q ↔ W (pj lw) 16 1 (.val (.ref x) :: L) (.ref x :: S) k n H Q := W_s rfl rfl rfl rfl
theorem w16_1 : W (pj lw) 16 1 L (.ref a :: S) k n H Q ↔ (isO H a = true ∧ W (pj lw) 16 4 L (fld H a 11 :: S) k n H Q) := W_getf (rfl : (pj lw).1 16 1 = some (.getfield 27, 3, 11))
theorem w16_4 : W (pj lw) 16 4 (.val (.ref x) :: L) S k n H Q ↔ W (pj lw) 16 5 (.val (.ref x) :: L) (.ref x :: S) k n H Q := W_s rfl rfl rfl rfl
theorem w16_5 : W (pj lw) 16 5 L (.ref a :: S) k n H Q ↔ (isO H a = true ∧ W (pj lw) 16 8 L (fld H a 0 :: S) k n H Q) := W_getf (rfl : (pj lw).1 16 5 = some (.getfield 48, 3, 0))
theorem w16_8 : W (pj lw) 16 8 L S k n H Q ↔ W (pj lw) 16 10 L (.int 24 :: S) k n H Q := W_s rfl rfl rfl rfl
theorem w16_10 : W (pj lw) 16 10 L (.int y :: .int x :: S) k n H Q ↔ W (pj lw) 16 11 L (.int (x * y) :: S) k n H Q := W_s rfl rfl rfl rfl
theorem w16_11 : W (pj lw) 16 11 (l0 :: .val (.int x) :: L) S k n H Q ↔ W (pj lw) 16 12 (l0 :: .val (.int x) :: L) (.int x :: S) k n H Q := W_s rfl rfl rfl rfl
theorem w16_12 : W (pj lw) 16 12 L (.int y :: .int x :: S) k n H Q ↔ W (pj lw) 16 13 L (.int (x + y) :: S) k n H Q := W_s rfl rfl rfl rfl
theorem w16_13 : W (pj lw) 16 13 L (.int i :: .ref a :: S) k n H Q ↔ (inA H a .long i = true ∧ W (pj lw) 16 14 L (elt H a i :: S) k n H Q) := W_laload (rfl : (pj lw).1 16 13 = some (.laload, 1, 0))
theorem w16_14uu : W (pj lw) 16 14 (l0 :: l1 :: .unset :: .unset :: L) (.long x :: S) k n H Q ↔ W (pj lw) 16 15 (l0 :: l1 :: .val (.long x) :: .second :: L) S k n H Q := W_lstn (rfl : (pj lw).1 16 14 = some (.lstore_n 2, 1, 0)) rfl rfl rfl rfl
theorem w16_15 : W (pj lw) 16 15 L S k n H Q ↔ W (pj lw) 16 16 L (.int 1 :: S) k n H Q := W_s rfl rfl rfl rfl
theorem w16_16 : W (pj lw) 16 16 (l0 :: l1 :: l2 :: l3 :: .unset :: L) (.int x :: S) k n H Q ↔ W (pj lw) 16 18 (l0 :: l1 :: l2 :: l3 :: .val (.int x) :: L) S k n H Q := W_ist (rfl : (pj lw).1 16 16 = some (.istore 4, 2, 0)) rfl rfl
theorem w16_18 : W (pj lw) 16 18 (.val (.ref x) :: L) S k n H Q ↔ W (pj lw) 16 19 (.val (.ref x) :: L) (.ref x :: S) k n H Q := W_s rfl rfl rfl rfl
theorem w16_19 : W (pj lw) 16 19 L S k n H Q ↔ W (pj lw) 16 20 L (.long 0 :: S) k n H Q := W_s rfl rfl rfl rfl
theorem w16_20 {a : Nat} {v : Value} : W (pj lw) 16 20 L (v :: .ref a :: S) k n H Q ↔ ((isOw H a = true ∧ okv (.long) v = true) ∧ W (pj lw) 16 23 L S k n (wr H a 19 v) Q) := W_putf (rfl : (pj lw).1 16 20 = some (.putfield 119, 3, 19))
theorem w16_23 : W (pj lw) 16 23 (.val (.ref x) :: L) S k n H Q ↔ W (pj lw) 16 24 (.val (.ref x) :: L) (.ref x :: S) k n H Q := W_s rfl rfl rfl rfl
theorem w16_24 : W (pj lw) 16 24 L S k n H Q ↔ W (pj lw) 16 25 L (.long 1 :: S) k n H Q := W_s rfl rfl rfl rfl
theorem w16_25 {a : Nat} {v : Value} : W (pj lw) 16 25 L (v :: .ref a :: S) k n H Q ↔ ((isOw H a = true ∧ okv (.long) v = true) ∧ W (pj lw) 16 28 L S k n (wr H a 20 v) Q) := W_putf (rfl : (pj lw).1 16 25 = some (.putfield 122, 3, 20))
theorem w16_28 : W (pj lw) 16 28 L S k n H Q ↔ W (pj lw) 16 29 L (.int 0 :: S) k n H Q := W_s rfl rfl rfl rfl
theorem w16_29 : W (pj lw) 16 29 (l0 :: l1 :: l2 :: l3 :: l4 :: .unset :: L) (.int x :: S) k n H Q ↔ W (pj lw) 16 31 (l0 :: l1 :: l2 :: l3 :: l4 :: .val (.int x) :: L) S k n H Q := W_ist (rfl : (pj lw).1 16 29 = some (.istore 5, 2, 0)) rfl rfl
theorem w16_31 : W (pj lw) 16 31 (l0 :: l1 :: l2 :: l3 :: l4 :: .val (.int x) :: L) S k n H Q ↔ W (pj lw) 16 33 (l0 :: l1 :: l2 :: l3 :: l4 :: .val (.int x) :: L) (.int x :: S) k n H Q := W_s rfl rfl rfl rfl
theorem w16_33 : W (pj lw) 16 33 (.val (.ref x) :: L) S k n H Q ↔ W (pj lw) 16 34 (.val (.ref x) :: L) (.ref x :: S) k n H Q := W_s rfl rfl rfl rfl
theorem w16_34 : W (pj lw) 16 34 L (.ref a :: S) k n H Q ↔ (isO H a = true ∧ W (pj lw) 16 37 L (fld H a 0 :: S) k n H Q) := W_getf (rfl : (pj lw).1 16 34 = some (.getfield 48, 3, 0))
theorem w16_37 : W (pj lw) 16 37 L (.int y :: .int x :: S) k n H Q ↔ (if x < y then W (pj lw) 16 40 L S k n H Q else W (pj lw) 16 127 L S k n H Q) := W_icmp_ge (rfl : (pj lw).1 16 37 = some (.if_icmp .ge 90, 3, 0)) rfl
theorem w16_40 : W (pj lw) 16 40 (.val (.ref x) :: L) S k n H Q ↔ W (pj lw) 16 41 (.val (.ref x) :: L) (.ref x :: S) k n H Q := W_s rfl rfl rfl rfl
theorem w16_41 : W (pj lw) 16 41 L (.ref a :: S) k n H Q ↔ (isO H a = true ∧ W (pj lw) 16 44 L (fld H a 11 :: S) k n H Q) := W_getf (rfl : (pj lw).1 16 41 = some (.getfield 27, 3, 11))
theorem w16_44 : W (pj lw) 16 44 (l0 :: l1 :: l2 :: l3 :: l4 :: .val (.int x) :: L) S k n H Q ↔ W (pj lw) 16 46 (l0 :: l1 :: l2 :: l3 :: l4 :: .val (.int x) :: L) (.int x :: S) k n H Q := W_s rfl rfl rfl rfl
theorem w16_46 : W (pj lw) 16 46 L S k n H Q ↔ W (pj lw) 16 48 L (.int 24 :: S) k n H Q := W_s rfl rfl rfl rfl
theorem w16_48 : W (pj lw) 16 48 L (.int y :: .int x :: S) k n H Q ↔ W (pj lw) 16 49 L (.int (x * y) :: S) k n H Q := W_s rfl rfl rfl rfl
theorem w16_49 : W (pj lw) 16 49 (l0 :: .val (.int x) :: L) S k n H Q ↔ W (pj lw) 16 50 (l0 :: .val (.int x) :: L) (.int x :: S) k n H Q := W_s rfl rfl rfl rfl
theorem w16_50 : W (pj lw) 16 50 L (.int y :: .int x :: S) k n H Q ↔ W (pj lw) 16 51 L (.int (x + y) :: S) k n H Q := W_s rfl rfl rfl rfl
theorem w16_51 : W (pj lw) 16 51 L (.int i :: .ref a :: S) k n H Q ↔ (inA H a .long i = true ∧ W (pj lw) 16 52 L (elt H a i :: S) k n H Q) := W_laload (rfl : (pj lw).1 16 51 = some (.laload, 1, 0))
theorem w16_52uu : W (pj lw) 16 52 (l0 :: l1 :: l2 :: l3 :: l4 :: l5 :: .unset :: .unset :: L) (.long x :: S) k n H Q ↔ W (pj lw) 16 54 (l0 :: l1 :: l2 :: l3 :: l4 :: l5 :: .val (.long x) :: .second :: L) S k n H Q := W_lst (rfl : (pj lw).1 16 52 = some (.lstore 6, 2, 0)) rfl rfl rfl rfl
theorem w16_54 : W (pj lw) 16 54 (l0 :: l1 :: l2 :: l3 :: l4 :: l5 :: .val (.long x) :: L) S k n H Q ↔ W (pj lw) 16 56 (l0 :: l1 :: l2 :: l3 :: l4 :: l5 :: .val (.long x) :: L) (.long x :: S) k n H Q := W_s rfl rfl rfl rfl
theorem w16_56 : W (pj lw) 16 56 (.val (.ref x) :: L) S k n H Q ↔ W (pj lw) 16 57 (.val (.ref x) :: L) (.ref x :: S) k n H Q := W_s rfl rfl rfl rfl
theorem w16_57 : W (pj lw) 16 57 L (.ref a :: S) k n H Q ↔ (isO H a = true ∧ W (pj lw) 16 60 L (fld H a 16 :: S) k n H Q) := W_getf (rfl : (pj lw).1 16 57 = some (.getfield 44, 3, 16))
theorem w16_60 : W (pj lw) 16 60 L (.long y :: .long x :: S) k n H Q ↔ W (pj lw) 16 61 L (.int (Jvm.Free.XT.cmpL x y) :: S) k n H Q := W_s rfl rfl rfl rfl
theorem w16_61 : W (pj lw) 16 61 L (.int x :: S) k n H Q ↔ (if x = 0 then W (pj lw) 16 64 L S k n H Q else W (pj lw) 16 67 L S k n H Q) := W_if_ne (rfl : (pj lw).1 16 61 = some (.ifCond .ne 6, 3, 0)) rfl
theorem w16_64 : W (pj lw) 16 64 L S k n H Q ↔ W (pj lw) 16 121 L S k n H Q := W_goto rfl rfl
theorem w16_67 : W (pj lw) 16 67 (l0 :: l1 :: .val (.long x) :: L) S k n H Q ↔ W (pj lw) 16 68 (l0 :: l1 :: .val (.long x) :: L) (.long x :: S) k n H Q := W_s rfl rfl rfl rfl
theorem w16_68 : W (pj lw) 16 68 (l0 :: l1 :: l2 :: l3 :: l4 :: l5 :: .val (.long x) :: L) S k n H Q ↔ W (pj lw) 16 70 (l0 :: l1 :: l2 :: l3 :: l4 :: l5 :: .val (.long x) :: L) (.long x :: S) k n H Q := W_s rfl rfl rfl rfl
theorem w16_70 : W (pj lw) 16 70 L (.long y :: .long x :: S) k n H Q ↔ W (pj lw) 16 71 L (.long (x - y) :: S) k n H Q := W_s rfl rfl rfl rfl
theorem w16_71uu : W (pj lw) 16 71 (l0 :: l1 :: l2 :: l3 :: l4 :: l5 :: l6 :: l7 :: .unset :: .unset :: L) (.long x :: S) k n H Q ↔ W (pj lw) 16 73 (l0 :: l1 :: l2 :: l3 :: l4 :: l5 :: l6 :: l7 :: .val (.long x) :: .second :: L) S k n H Q := W_lst (rfl : (pj lw).1 16 71 = some (.lstore 8, 2, 0)) rfl rfl rfl rfl
theorem w16_73 : W (pj lw) 16 73 (.val (.ref x) :: L) S k n H Q ↔ W (pj lw) 16 74 (.val (.ref x) :: L) (.ref x :: S) k n H Q := W_s rfl rfl rfl rfl
theorem w16_74 : W (pj lw) 16 74 L (.ref a :: S) k n H Q ↔ (isO H a = true ∧ W (pj lw) 16 77 L (fld H a 0 :: S) k n H Q) := W_getf (rfl : (pj lw).1 16 74 = some (.getfield 48, 3, 0))
theorem w16_77 : W (pj lw) 16 77 (l0 :: l1 :: l2 :: l3 :: l4 :: .val (.int x) :: L) S k n H Q ↔ W (pj lw) 16 79 (l0 :: l1 :: l2 :: l3 :: l4 :: .val (.int x) :: L) (.int x :: S) k n H Q := W_s rfl rfl rfl rfl
theorem w16_79 : W (pj lw) 16 79 L (.int y :: .int x :: S) k n H Q ↔ W (pj lw) 16 80 L (.int (x - y) :: S) k n H Q := W_s rfl rfl rfl rfl
theorem w16_80 : W (pj lw) 16 80 L (.int x :: S) k n H Q ↔ W (pj lw) 16 81 L (.long x.toInt64 :: S) k n H Q := W_s rfl rfl rfl rfl
theorem w16_81uu : W (pj lw) 16 81 (l0 :: l1 :: l2 :: l3 :: l4 :: l5 :: l6 :: l7 :: l8 :: l9 :: .unset :: .unset :: L) (.long x :: S) k n H Q ↔ W (pj lw) 16 83 (l0 :: l1 :: l2 :: l3 :: l4 :: l5 :: l6 :: l7 :: l8 :: l9 :: .val (.long x) :: .second :: L) S k n H Q := W_lst (rfl : (pj lw).1 16 81 = some (.lstore 10, 2, 0)) rfl rfl rfl rfl
theorem w16_83 : W (pj lw) 16 83 (l0 :: l1 :: l2 :: l3 :: .val (.int x) :: L) S k n H Q ↔ W (pj lw) 16 85 (l0 :: l1 :: l2 :: l3 :: .val (.int x) :: L) (.int x :: S) k n H Q := W_s rfl rfl rfl rfl
theorem w16_85 : W (pj lw) 16 85 L (.int x :: S) k n H Q ↔ (if x = 0 then W (pj lw) 16 88 L S k n H Q else W (pj lw) 16 106 L S k n H Q) := W_if_ne (rfl : (pj lw).1 16 85 = some (.ifCond .ne 21, 3, 0)) rfl
theorem w16_88 : W (pj lw) 16 88 (l0 :: l1 :: l2 :: l3 :: l4 :: l5 :: l6 :: l7 :: .val (.long x) :: L) S k n H Q ↔ W (pj lw) 16 90 (l0 :: l1 :: l2 :: l3 :: l4 :: l5 :: l6 :: l7 :: .val (.long x) :: L) (.long x :: S) k n H Q := W_s rfl rfl rfl rfl
theorem w16_90 : W (pj lw) 16 90 (.val (.ref x) :: L) S k n H Q ↔ W (pj lw) 16 91 (.val (.ref x) :: L) (.ref x :: S) k n H Q := W_s rfl rfl rfl rfl
theorem w16_91 : W (pj lw) 16 91 L (.ref a :: S) k n H Q ↔ (isO H a = true ∧ W (pj lw) 16 94 L (fld H a 20 :: S) k n H Q) := W_getf (rfl : (pj lw).1 16 91 = some (.getfield 122, 3, 20))
theorem w16_94 : W (pj lw) 16 94 L (.long y :: .long x :: S) k n H Q ↔ W (pj lw) 16 95 L (.long (x * y) :: S) k n H Q := W_s rfl rfl rfl rfl
theorem w16_95 : W (pj lw) 16 95 (.val (.ref x) :: L) S k n H Q ↔ W (pj lw) 16 96 (.val (.ref x) :: L) (.ref x :: S) k n H Q := W_s rfl rfl rfl rfl
theorem w16_96 : W (pj lw) 16 96 L (.ref a :: S) k n H Q ↔ (isO H a = true ∧ W (pj lw) 16 99 L (fld H a 19 :: S) k n H Q) := W_getf (rfl : (pj lw).1 16 96 = some (.getfield 119, 3, 19))
theorem w16_99 : W (pj lw) 16 99 (l0 :: l1 :: l2 :: l3 :: l4 :: l5 :: l6 :: l7 :: l8 :: l9 :: .val (.long x) :: L) S k n H Q ↔ W (pj lw) 16 101 (l0 :: l1 :: l2 :: l3 :: l4 :: l5 :: l6 :: l7 :: l8 :: l9 :: .val (.long x) :: L) (.long x :: S) k n H Q := W_s rfl rfl rfl rfl
theorem w16_101 : W (pj lw) 16 101 L (.long y :: .long x :: S) k n H Q ↔ W (pj lw) 16 102 L (.long (x * y) :: S) k n H Q := W_s rfl rfl rfl rfl
theorem w16_102 : W (pj lw) 16 102 L (.long y :: .long x :: S) k n H Q ↔ W (pj lw) 16 103 L (.int (Jvm.Free.XT.cmpL x y) :: S) k n H Q := W_s rfl rfl rfl rfl
theorem w16_103 : W (pj lw) 16 103 L (.int x :: S) k n H Q ↔ (if 0 < x then W (pj lw) 16 106 L S k n H Q else W (pj lw) 16 121 L S k n H Q) := W_if_le (rfl : (pj lw).1 16 103 = some (.ifCond .le 18, 3, 0)) rfl
theorem w16_106 : W (pj lw) 16 106 (.val (.ref x) :: L) S k n H Q ↔ W (pj lw) 16 107 (.val (.ref x) :: L) (.ref x :: S) k n H Q := W_s rfl rfl rfl rfl
theorem w16_107 : W (pj lw) 16 107 (l0 :: l1 :: l2 :: l3 :: l4 :: l5 :: l6 :: l7 :: .val (.long x) :: L) S k n H Q ↔ W (pj lw) 16 109 (l0 :: l1 :: l2 :: l3 :: l4 :: l5 :: l6 :: l7 :: .val (.long x) :: L) (.long x :: S) k n H Q := W_s rfl rfl rfl rfl
theorem w16_109 {a : Nat} {v : Value} : W (pj lw) 16 109 L (v :: .ref a :: S) k n H Q ↔ ((isOw H a = true ∧ okv (.long) v = true) ∧ W (pj lw) 16 112 L S k n (wr H a 19 v) Q) := W_putf (rfl : (pj lw).1 16 109 = some (.putfield 119, 3, 19))
theorem w16_112 : W (pj lw) 16 112 (.val (.ref x) :: L) S k n H Q ↔ W (pj lw) 16 113 (.val (.ref x) :: L) (.ref x :: S) k n H Q := W_s rfl rfl rfl rfl
theorem w16_113 : W (pj lw) 16 113 (l0 :: l1 :: l2 :: l3 :: l4 :: l5 :: l6 :: l7 :: l8 :: l9 :: .val (.long x) :: L) S k n H Q ↔ W (pj lw) 16 115 (l0 :: l1 :: l2 :: l3 :: l4 :: l5 :: l6 :: l7 :: l8 :: l9 :: .val (.long x) :: L) (.long x :: S) k n H Q := W_s rfl rfl rfl rfl
theorem w16_115 {a : Nat} {v : Value} : W (pj lw) 16 115 L (v :: .ref a :: S) k n H Q ↔ ((isOw H a = true ∧ okv (.long) v = true) ∧ W (pj lw) 16 118 L S k n (wr H a 20 v) Q) := W_putf (rfl : (pj lw).1 16 115 = some (.putfield 122, 3, 20))
theorem w16_118 : W (pj lw) 16 118 L S k n H Q ↔ W (pj lw) 16 119 L (.int 0 :: S) k n H Q := W_s rfl rfl rfl rfl
theorem w16_119i : W (pj lw) 16 119 (l0 :: l1 :: l2 :: l3 :: .val (.int y) :: L) (.int x :: S) k n H Q ↔ W (pj lw) 16 121 (l0 :: l1 :: l2 :: l3 :: .val (.int x) :: L) S k n H Q := W_ist (rfl : (pj lw).1 16 119 = some (.istore 4, 2, 0)) rfl rfl
theorem w16_121 : W (pj lw) 16 121 (l0 :: l1 :: l2 :: l3 :: l4 :: .val (.int x) :: L) S k n H Q ↔ W (pj lw) 16 124 (l0 :: l1 :: l2 :: l3 :: l4 :: .val (.int (x + 1)) :: L) S k n H Q := W_s rfl rfl rfl rfl
theorem w16_124 : W (pj lw) 16 124 L S k n H Q ↔ W (pj lw) 16 31 L S k n H Q := W_goto rfl rfl
theorem w16_127 : W (pj lw) 16 127 L [] k n H Q ↔ Q none H := W_r rfl rfl
theorem c17 {x0 : Nat} {x1 : Int64} {x2 : Int64} : Cl (pj lw) 17 [.ref x0, .long x1, .long x2] H Q ↔ W (pj lw) 17 0 [.val (.ref x0), .val (.long x1), .second, .val (.long x2), .second, .unset, .unset, .unset, .unset, .unset, .unset, .unset] [] 0 0 H Q := cl_unf rfl
theorem w17_0 : W (pj lw) 17 0 L S k n H Q ↔ W (pj lw) 17 1 L (.int 0 :: S) k n H Q := W_s rfl rfl rfl rfl
theorem w17_1 : W (pj lw) 17 1 (l0 :: l1 :: l2 :: l3 :: l4 :: .unset :: L) (.int x :: S) k n H Q ↔ W (pj lw) 17 3 (l0 :: l1 :: l2 :: l3 :: l4 :: .val (.int x) :: L) S k n H Q := W_ist (rfl : (pj lw).1 17 1 = some (.istore 5, 2, 0)) rfl rfl
theorem w17_3 : W (pj lw) 17 3 (l0 :: l1 :: l2 :: l3 :: l4 :: .val (.int x) :: L) S k n H Q ↔ W (pj lw) 17 5 (l0 :: l1 :: l2 :: l3 :: l4 :: .val (.int x) :: L) (.int x :: S) k n H Q := W_s rfl rfl rfl rfl
theorem w17_5 : W (pj lw) 17 5 L S k n H Q ↔ W (pj lw) 17 7 L (.int 24 :: S) k n H Q := W_s rfl rfl rfl rfl
theorem w17_7 : W (pj lw) 17 7 L (.int y :: .int x :: S) k n H Q ↔ (if x < y then W (pj lw) 17 10 L S k n H Q else W (pj lw) 17 24 L S k n H Q) := W_icmp_ge (rfl : (pj lw).1 17 7 = some (.if_icmp .ge 17, 3, 0)) rfl
theorem w17_10 : W (pj lw) 17 10 (.val (.ref x) :: L) S k n H Q ↔ W (pj lw) 17 11 (.val (.ref x) :: L) (.ref x :: S) k n H Q := W_s rfl rfl rfl rfl
theorem w17_11 : W (pj lw) 17 11 L (.ref a :: S) k n H Q ↔ (isO H a = true ∧ W (pj lw) 17 14 L (fld H a 10 :: S) k n H Q) := W_getf (rfl : (pj lw).1 17 11 = some (.getfield 23, 3, 10))
theorem w17_14 : W (pj lw) 17 14 (l0 :: l1 :: l2 :: l3 :: l4 :: .val (.int x) :: L) S k n H Q ↔ W (pj lw) 17 16 (l0 :: l1 :: l2 :: l3 :: l4 :: .val (.int x) :: L) (.int x :: S) k n H Q := W_s rfl rfl rfl rfl
theorem w17_16 : W (pj lw) 17 16 L S k n H Q ↔ W (pj lw) 17 17 L (.long 0 :: S) k n H Q := W_s rfl rfl rfl rfl
theorem w17_17 : W (pj lw) 17 17 L (.long x :: .int i :: .ref a :: S) k n H Q ↔ (inAw H a .long i = true ∧ W (pj lw) 17 18 L S k n (wr H a i.toNatClampNeg (.long x)) Q) := W_lastore (rfl : (pj lw).1 17 17 = some (.lastore, 1, 0))
theorem w17_18 : W (pj lw) 17 18 (l0 :: l1 :: l2 :: l3 :: l4 :: .val (.int x) :: L) S k n H Q ↔ W (pj lw) 17 21 (l0 :: l1 :: l2 :: l3 :: l4 :: .val (.int (x + 1)) :: L) S k n H Q := W_s rfl rfl rfl rfl
theorem w17_21 : W (pj lw) 17 21 L S k n H Q ↔ W (pj lw) 17 3 L S k n H Q := W_goto rfl rfl
theorem w17_24 : W (pj lw) 17 24 L S k n H Q ↔ W (pj lw) 17 25 L (.int 0 :: S) k n H Q := W_s rfl rfl rfl rfl
theorem w17_25i : W (pj lw) 17 25 (l0 :: l1 :: l2 :: l3 :: l4 :: .val (.int y) :: L) (.int x :: S) k n H Q ↔ W (pj lw) 17 27 (l0 :: l1 :: l2 :: l3 :: l4 :: .val (.int x) :: L) S k n H Q := W_ist (rfl : (pj lw).1 17 25 = some (.istore 5, 2, 0)) rfl rfl
theorem w17_27 : W (pj lw) 17 27 (l0 :: l1 :: l2 :: l3 :: l4 :: .val (.int x) :: L) S k n H Q ↔ W (pj lw) 17 29 (l0 :: l1 :: l2 :: l3 :: l4 :: .val (.int x) :: L) (.int x :: S) k n H Q := W_s rfl rfl rfl rfl
theorem w17_29 : W (pj lw) 17 29 (.val (.ref x) :: L) S k n H Q ↔ W (pj lw) 17 30 (.val (.ref x) :: L) (.ref x :: S) k n H Q := W_s rfl rfl rfl rfl
theorem w17_30 : W (pj lw) 17 30 L (.ref a :: S) k n H Q ↔ (isO H a = true ∧ W (pj lw) 17 33 L (fld H a 0 :: S) k n H Q) := W_getf (rfl : (pj lw).1 17 30 = some (.getfield 48, 3, 0))
theorem w17_33 : W (pj lw) 17 33 L S k n H Q ↔ W (pj lw) 17 34 L (.int 1 :: S) k n H Q := W_s rfl rfl rfl rfl
theorem w17_34 : W (pj lw) 17 34 L (.int y :: .int x :: S) k n H Q ↔ W (pj lw) 17 35 L (.int (x + y) :: S) k n H Q := W_s rfl rfl rfl rfl
theorem w17_35 : W (pj lw) 17 35 L (.int y :: .int x :: S) k n H Q ↔ (if y < x then W (pj lw) 17 146 L S k n H Q else W (pj lw) 17 38 L S k n H Q) := W_icmp_gt (rfl : (pj lw).1 17 35 = some (.if_icmp .gt 111, 3, 0)) rfl
theorem w17_38 : W (pj lw) 17 38 L S k n H Q ↔ W (pj lw) 17 39 L (.int 0 :: S) k n H Q := W_s rfl rfl rfl rfl
theorem w17_39 : W (pj lw) 17 39 (l0 :: l1 :: l2 :: l3 :: l4 :: l5 :: .unset :: L) (.int x :: S) k n H Q ↔ W (pj lw) 17 41 (l0 :: l1 :: l2 :: l3 :: l4 :: l5 :: .val (.int x) :: L) S k n H Q := W_ist (rfl : (pj lw).1 17 39 = some (.istore 6, 2, 0)) rfl rfl
theorem w17_41 : W (pj lw) 17 41 L S k n H Q ↔ W (pj lw) 17 42 L (.int 0 :: S) k n H Q := W_s rfl rfl rfl rfl
theorem w17_42 : W (pj lw) 17 42 (l0 :: l1 :: l2 :: l3 :: l4 :: l5 :: l6 :: .unset :: L) (.int x :: S) k n H Q ↔ W (pj lw) 17 44 (l0 :: l1 :: l2 :: l3 :: l4 :: l5 :: l6 :: .val (.int x) :: L) S k n H Q := W_ist (rfl : (pj lw).1 17 42 = some (.istore 7, 2, 0)) rfl rfl
theorem w17_44 : W (pj lw) 17 44 (l0 :: l1 :: l2 :: l3 :: l4 :: l5 :: l6 :: .val (.int x) :: L) S k n H Q ↔ W (pj lw) 17 46 (l0 :: l1 :: l2 :: l3 :: l4 :: l5 :: l6 :: .val (.int x) :: L) (.int x :: S) k n H Q := W_s rfl rfl rfl rfl
theorem w17_46 : W (pj lw) 17 46 L S k n H Q ↔ W (pj lw) 17 49 L (.int 576 :: S) k n H Q := W_s rfl rfl rfl rfl
theorem w17_49 : W (pj lw) 17 49 L (.int y :: .int x :: S) k n H Q ↔ (if x < y then W (pj lw) 17 52 L S k n H Q else W (pj lw) 17 132 L S k n H Q) := W_icmp_ge (rfl : (pj lw).1 17 49 = some (.if_icmp .ge 83, 3, 0)) rfl
theorem w17_52 : W (pj lw) 17 52 (.val (.ref x) :: L) S k n H Q ↔ W (pj lw) 17 53 (.val (.ref x) :: L) (.ref x :: S) k n H Q := W_s rfl rfl rfl rfl
theorem w17_53 : W (pj lw) 17 53 L (.ref a :: S) k n H Q ↔ (isO H a = true ∧ W (pj lw) 17 56 L (fld H a 2 :: S) k n H Q) := W_getf (rfl : (pj lw).1 17 53 = some (.getfield 7, 3, 2))
theorem w17_56 : W (pj lw) 17 56 (l0 :: l1 :: l2 :: l3 :: l4 :: l5 :: l6 :: .val (.int x) :: L) S k n H Q ↔ W (pj lw) 17 58 (l0 :: l1 :: l2 :: l3 :: l4 :: l5 :: l6 :: .val (.int x) :: L) (.int x :: S) k n H Q := W_s rfl rfl rfl rfl
theorem w17_58 : W (pj lw) 17 58 L (.int i :: .ref a :: S) k n H Q ↔ ((inA H a .byte i = true ∨ inA H a .boolean i = true) ∧ W (pj lw) 17 59 L (elt H a i :: S) k n H Q) := W_baload (rfl : (pj lw).1 17 58 = some (.baload, 1, 0))
theorem w17_59 : W (pj lw) 17 59 L (.int x :: S) k n H Q ↔ (if x = 0 then W (pj lw) 17 62 L S k n H Q else W (pj lw) 17 65 L S k n H Q) := W_if_ne (rfl : (pj lw).1 17 59 = some (.ifCond .ne 6, 3, 0)) rfl
theorem w17_62 : W (pj lw) 17 62 L S k n H Q ↔ W (pj lw) 17 126 L S k n H Q := W_goto rfl rfl
theorem w17_65 : W (pj lw) 17 65 (l0 :: l1 :: l2 :: l3 :: l4 :: l5 :: l6 :: .val (.int x) :: L) S k n H Q ↔ W (pj lw) 17 67 (l0 :: l1 :: l2 :: l3 :: l4 :: l5 :: l6 :: .val (.int x) :: L) (.int x :: S) k n H Q := W_s rfl rfl rfl rfl
theorem w17_67 : W (pj lw) 17 67 L S k n H Q ↔ W (pj lw) 17 69 L (.int 24 :: S) k n H Q := W_s rfl rfl rfl rfl
theorem w17_69 : W (pj lw) 17 69 L (.int y :: .int x :: S) k n H Q ↔ (¬ y = 0 ∧ W (pj lw) 17 70 L (.int (x / y) :: S) k n H Q) := W_idiv (rfl : (pj lw).1 17 69 = some (.idiv, 1, 0))
theorem w17_70 : W (pj lw) 17 70 (l0 :: l1 :: l2 :: l3 :: l4 :: l5 :: l6 :: l7 :: .unset :: L) (.int x :: S) k n H Q ↔ W (pj lw) 17 72 (l0 :: l1 :: l2 :: l3 :: l4 :: l5 :: l6 :: l7 :: .val (.int x) :: L) S k n H Q := W_ist (rfl : (pj lw).1 17 70 = some (.istore 8, 2, 0)) rfl rfl
theorem w17_72 : W (pj lw) 17 72 (l0 :: l1 :: l2 :: l3 :: l4 :: l5 :: l6 :: .val (.int x) :: L) S k n H Q ↔ W (pj lw) 17 74 (l0 :: l1 :: l2 :: l3 :: l4 :: l5 :: l6 :: .val (.int x) :: L) (.int x :: S) k n H Q := W_s rfl rfl rfl rfl
theorem w17_74 : W (pj lw) 17 74 L S k n H Q ↔ W (pj lw) 17 76 L (.int 24 :: S) k n H Q := W_s rfl rfl rfl rfl
theorem w17_76 : W (pj lw) 17 76 L (.int y :: .int x :: S) k n H Q ↔ (¬ y = 0 ∧ W (pj lw) 17 77 L (.int (x % y) :: S) k n H Q) := W_irem (rfl : (pj lw).1 17 76 = some (.irem, 1, 0))
theorem w17_77 : W (pj lw) 17 77 (l0 :: l1 :: l2 :: l3 :: l4 :: l5 :: l6 :: l7 :: l8 :: .unset :: L) (.int x :: S) k n H Q ↔ W (pj lw) 17 79 (l0 :: l1 :: l2 :: l3 :: l4 :: l5 :: l6 :: l7 :: l8 :: .val (.int x) :: L) S k n H Q := W_ist (rfl : (pj lw).1 17 77 = some (.istore 9, 2, 0)) rfl rfl
theorem w17_79 : W (pj lw) 17 79 (.val (.ref x) :: L) S k n H Q ↔ W (pj lw) 17 80 (.val (.ref x) :: L) (.ref x :: S) k n H Q := W_s rfl rfl rfl rfl
theorem w17_80 : W (pj lw) 17 80 L (.ref a :: S) k n H Q ↔ (isO H a = true ∧ W (pj lw) 17 83 L (fld H a 10 :: S) k n H Q) := W_getf (rfl : (pj lw).1 17 80 = some (.getfield 23, 3, 10))
theorem w17_83 : W (pj lw) 17 83 (l0 :: l1 :: l2 :: l3 :: l4 :: l5 :: l6 :: l7 :: .val (.int x) :: L) S k n H Q ↔ W (pj lw) 17 85 (l0 :: l1 :: l2 :: l3 :: l4 :: l5 :: l6 :: l7 :: .val (.int x) :: L) (.int x :: S) k n H Q := W_s rfl rfl rfl rfl
theorem w17_85 : W (pj lw) 17 85 L (.int i :: .ref a :: S) k n H Q ↔ (inA H a .long i = true ∧ W (pj lw) 17 86 L (elt H a i :: S) k n H Q) := W_laload (rfl : (pj lw).1 17 85 = some (.laload, 1, 0))
theorem w17_86 : W (pj lw) 17 86 (l0 :: .val (.long x) :: L) S k n H Q ↔ W (pj lw) 17 87 (l0 :: .val (.long x) :: L) (.long x :: S) k n H Q := W_s rfl rfl rfl rfl
theorem w17_87 : W (pj lw) 17 87 (.val (.ref x) :: L) S k n H Q ↔ W (pj lw) 17 88 (.val (.ref x) :: L) (.ref x :: S) k n H Q := W_s rfl rfl rfl rfl
theorem w17_88 : W (pj lw) 17 88 L (.ref a :: S) k n H Q ↔ (isO H a = true ∧ W (pj lw) 17 91 L (fld H a 3 :: S) k n H Q) := W_getf (rfl : (pj lw).1 17 88 = some (.getfield 13, 3, 3))
theorem w17_91 : W (pj lw) 17 91 (l0 :: l1 :: l2 :: l3 :: l4 :: l5 :: l6 :: .val (.int x) :: L) S k n H Q ↔ W (pj lw) 17 93 (l0 :: l1 :: l2 :: l3 :: l4 :: l5 :: l6 :: .val (.int x) :: L) (.int x :: S) k n H Q := W_s rfl rfl rfl rfl
theorem w17_93 : W (pj lw) 17 93 L (.int i :: .ref a :: S) k n H Q ↔ (inA H a .int i = true ∧ W (pj lw) 17 94 L (elt H a i :: S) k n H Q) := W_iaload (rfl : (pj lw).1 17 93 = some (.iaload, 1, 0))
theorem w17_94 : W (pj lw) 17 94 L (.int x :: S) k n H Q ↔ W (pj lw) 17 95 L (.long x.toInt64 :: S) k n H Q := W_s rfl rfl rfl rfl
theorem w17_95 : W (pj lw) 17 95 L (.long y :: .long x :: S) k n H Q ↔ W (pj lw) 17 96 L (.long (x * y) :: S) k n H Q := W_s rfl rfl rfl rfl
theorem w17_96 : W (pj lw) 17 96 L (.long y :: .long x :: S) k n H Q ↔ W (pj lw) 17 97 L (.long (x + y) :: S) k n H Q := W_s rfl rfl rfl rfl
theorem w17_97 : W (pj lw) 17 97 (l0 :: l1 :: l2 :: .val (.long x) :: L) S k n H Q ↔ W (pj lw) 17 98 (l0 :: l1 :: l2 :: .val (.long x) :: L) (.long x :: S) k n H Q := W_s rfl rfl rfl rfl
theorem w17_98 : W (pj lw) 17 98 L (.long y :: .long x :: S) k n H Q ↔ W (pj lw) 17 99 L (.long (x - y) :: S) k n H Q := W_s rfl rfl rfl rfl
theorem w17_99uu : W (pj lw) 17 99 (l0 :: l1 :: l2 :: l3 :: l4 :: l5 :: l6 :: l7 :: l8 :: l9 :: .unset :: .unset :: L) (.long x :: S) k n H Q ↔ W (pj lw) 17 101 (l0 :: l1 :: l2 :: l3 :: l4 :: l5 :: l6 :: l7 :: l8 :: l9 :: .val (.long x) :: .second :: L) S k n H Q := W_lst (rfl : (pj lw).1 17 99 = some (.lstore 10, 2, 0)) rfl rfl rfl rfl
theorem w17_101 : W (pj lw) 17 101 (l0 :: l1 :: l2 :: l3 :: l4 :: l5 :: l6 :: l7 :: l8 :: l9 :: .val (.long x) :: L) S k n H Q ↔ W (pj lw) 17 103 (l0 :: l1 :: l2 :: l3 :: l4 :: l5 :: l6 :: l7 :: l8 :: l9 :: .val (.long x) :: L) (.long x :: S) k n H Q := W_s rfl rfl rfl rfl
theorem w17_103 : W (pj lw) 17 103 (.val (.ref x) :: L) S k n H Q ↔ W (pj lw) 17 104 (.val (.ref x) :: L) (.ref x :: S) k n H Q := W_s rfl rfl rfl rfl
theorem w17_104 : W (pj lw) 17 104 L (.ref a :: S) k n H Q ↔ (isO H a = true ∧ W (pj lw) 17 107 L (fld H a 10 :: S) k n H Q) := W_getf (rfl : (pj lw).1 17 104 = some (.getfield 23, 3, 10))
theorem w17_107 : W (pj lw) 17 107 (l0 :: l1 :: l2 :: l3 :: l4 :: l5 :: l6 :: l7 :: l8 :: .val (.int x) :: L) S k n H Q ↔ W (pj lw) 17 109 (l0 :: l1 :: l2 :: l3 :: l4 :: l5 :: l6 :: l7 :: l8 :: .val (.int x) :: L) (.int x :: S) k n H Q := W_s rfl rfl rfl rfl
theorem w17_109 : W (pj lw) 17 109 L (.int i :: .ref a :: S) k n H Q ↔ (inA H a .long i = true ∧ W (pj lw) 17 110 L (elt H a i :: S) k n H Q) := W_laload (rfl : (pj lw).1 17 109 = some (.laload, 1, 0))
theorem w17_110 : W (pj lw) 17 110 L (.long y :: .long x :: S) k n H Q ↔ W (pj lw) 17 111 L (.int (Jvm.Free.XT.cmpL x y) :: S) k n H Q := W_s rfl rfl rfl rfl
theorem w17_111 : W (pj lw) 17 111 L (.int x :: S) k n H Q ↔ (if x < 0 then W (pj lw) 17 114 L S k n H Q else W (pj lw) 17 126 L S k n H Q) := W_if_ge (rfl : (pj lw).1 17 111 = some (.ifCond .ge 15, 3, 0)) rfl
theorem w17_114 : W (pj lw) 17 114 (.val (.ref x) :: L) S k n H Q ↔ W (pj lw) 17 115 (.val (.ref x) :: L) (.ref x :: S) k n H Q := W_s rfl rfl rfl rfl
theorem w17_115 : W (pj lw) 17 115 L (.ref a :: S) k n H Q ↔ (isO H a = true ∧ W (pj lw) 17 118 L (fld H a 10 :: S) k n H Q) := W_getf (rfl : (pj lw).1 17 115 = some (.getfield 23, 3, 10))
theorem w17_118 : W (pj lw) 17 118 (l0 :: l1 :: l2 :: l3 :: l4 :: l5 :: l6 :: l7 :: l8 :: .val (.int x) :: L) S k n H Q ↔ W (pj lw) 17 120 (l0 :: l1 :: l2 :: l3 :: l4 :: l5 :: l6 :: l7 :: l8 :: .val (.int x) :: L) (.int x :: S) k n H Q := W_s rfl rfl rfl rfl
theorem w17_120 : W (pj lw) 17 120 (l0 :: l1 :: l2 :: l3 :: l4 :: l5 :: l6 :: l7 :: l8 :: l9 :: .val (.long x) :: L) S k n H Q ↔ W (pj lw) 17 122 (l0 :: l1 :: l2 :: l3 :: l4 :: l5 :: l6 :: l7 :: l8 :: l9 :: .val (.long x) :: L) (.long x :: S) k n H Q := W_s rfl rfl rfl rfl
theorem w17_122 : W (pj lw) 17 122 L (.long x :: .int i :: .ref a :: S) k n H Q ↔ (inAw H a .long i = true ∧ W (pj lw) 17 123 L S k n (wr H a i.toNatClampNeg (.long x)) Q) := W_lastore (rfl : (pj lw).1 17 122 = some (.lastore, 1, 0))
theorem w17_123 : W (pj lw) 17 123 L S k n H Q ↔ W (pj lw) 17 124 L (.int 1 :: S) k n H Q := W_s rfl rfl rfl rfl
theorem w17_124i : W (pj lw) 17 124 (l0 :: l1 :: l2 :: l3 :: l4 :: l5 :: .val (.int y) :: L) (.int x :: S) k n H Q ↔ W (pj lw) 17 126 (l0 :: l1 :: l2 :: l3 :: l4 :: l5 :: .val (.int x) :: L) S k n H Q := W_ist (rfl : (pj lw).1 17 124 = some (.istore 6, 2, 0)) rfl rfl
theorem w17_126 : W (pj lw) 17 126 (l0 :: l1 :: l2 :: l3 :: l4 :: l5 :: l6 :: .val (.int x) :: L) S k n H Q ↔ W (pj lw) 17 129 (l0 :: l1 :: l2 :: l3 :: l4 :: l5 :: l6 :: .val (.int (x + 1)) :: L) S k n H Q := W_s rfl rfl rfl rfl
theorem w17_129 : W (pj lw) 17 129 L S k n H Q ↔ W (pj lw) 17 44 L S k n H Q := W_goto rfl rfl
theorem w17_132 : W (pj lw) 17 132 (l0 :: l1 :: l2 :: l3 :: l4 :: l5 :: .val (.int x) :: L) S k n H Q ↔ W (pj lw) 17 134 (l0 :: l1 :: l2 :: l3 :: l4 :: l5 :: .val (.int x) :: L) (.int x :: S) k n H Q := W_s rfl rfl rfl rfl
theorem w17_134 : W (pj lw) 17 134 L (.int x :: S) k n H Q ↔ (if x = 0 then W (pj lw) 17 137 L S k n H Q else W (pj lw) 17 140 L S k n H Q) := W_if_ne (rfl : (pj lw).1 17 134 = some (.ifCond .ne 6, 3, 0)) rfl
theorem w17_137 : W (pj lw) 17 137 L S k n H Q ↔ W (pj lw) 17 146 L S k n H Q := W_goto rfl rfl
theorem w17_140 : W (pj lw) 17 140 (l0 :: l1 :: l2 :: l3 :: l4 :: .val (.int x) :: L) S k n H Q ↔ W (pj lw) 17 143 (l0 :: l1 :: l2 :: l3 :: l4 :: .val (.int (x + 1)) :: L) S k n H Q := W_s rfl rfl rfl rfl
theorem w17_143 : W (pj lw) 17 143 L S k n H Q ↔ W (pj lw) 17 27 L S k n H Q := W_goto rfl rfl
theorem w17_146 : W (pj lw) 17 146 L [] k n H Q ↔ Q none H := W_r rfl rfl
theorem c18 {x0 : Nat} {x1 : Int64} {x2 : Int64} : Cl (pj lw) 18 [.ref x0, .long x1, .long x2] H Q ↔ W (pj lw) 18 0 [.val (.ref x0), .val (.long x1), .second, .val (.long x2), .second, .unset, .unset, .unset] [] 0 0 H Q := cl_unf rfl
theorem w18_0 : W (pj lw) 18 0 L S k n H Q ↔ W (pj lw) 18 1 L (.int 0 :: S) k n H Q := W_s rfl rfl rfl rfl
theorem w18_1 : W (pj lw) 18 1 (l0 :: l1 :: l2 :: l3 :: l4 :: .unset :: L) (.int x :: S) k n H Q ↔ W (pj lw) 18 3 (l0 :: l1 :: l2 :: l3 :: l4 :: .val (.int x) :: L) S k n H Q := W_ist (rfl : (pj lw).1 18 1 = some (.istore 5, 2, 0)) rfl rfl
theorem w18_3 : W (pj lw) 18 3 (l0 :: l1 :: l2 :: l3 :: l4 :: .val (.int x) :: L) S k n H Q ↔ W (pj lw) 18 5 (l0 :: l1 :: l2 :: l3 :: l4 :: .val (.int x) :: L) (.int x :: S) k n H Q := W_s rfl rfl rfl rfl
theorem w18_5 : W (pj lw) 18 5 L S k n H Q ↔ W (pj lw) 18 8 L (.int 576 :: S) k n H Q := W_s rfl rfl rfl rfl
theorem w18_8 : W (pj lw) 18 8 L (.int y :: .int x :: S) k n H Q ↔ (if x < y then W (pj lw) 18 11 L S k n H Q else W (pj lw) 18 86 L S k n H Q) := W_icmp_ge (rfl : (pj lw).1 18 8 = some (.if_icmp .ge 78, 3, 0)) rfl
theorem w18_11 : W (pj lw) 18 11 (l0 :: l1 :: l2 :: l3 :: l4 :: .val (.int x) :: L) S k n H Q ↔ W (pj lw) 18 13 (l0 :: l1 :: l2 :: l3 :: l4 :: .val (.int x) :: L) (.int x :: S) k n H Q := W_s rfl rfl rfl rfl
theorem w18_13 : W (pj lw) 18 13 L S k n H Q ↔ W (pj lw) 18 15 L (.int 24 :: S) k n H Q := W_s rfl rfl rfl rfl
theorem w18_15 : W (pj lw) 18 15 L (.int y :: .int x :: S) k n H Q ↔ (¬ y = 0 ∧ W (pj lw) 18 16 L (.int (x / y) :: S) k n H Q) := W_idiv (rfl : (pj lw).1 18 15 = some (.idiv, 1, 0))
theorem w18_16 : W (pj lw) 18 16 (l0 :: l1 :: l2 :: l3 :: l4 :: l5 :: .unset :: L) (.int x :: S) k n H Q ↔ W (pj lw) 18 18 (l0 :: l1 :: l2 :: l3 :: l4 :: l5 :: .val (.int x) :: L) S k n H Q := W_ist (rfl : (pj lw).1 18 16 = some (.istore 6, 2, 0)) rfl rfl
theorem w18_18 : W (pj lw) 18 18 (l0 :: l1 :: l2 :: l3 :: l4 :: .val (.int x) :: L) S k n H Q ↔ W (pj lw) 18 20 (l0 :: l1 :: l2 :: l3 :: l4 :: .val (.int x) :: L) (.int x :: S) k n H Q := W_s rfl rfl rfl rfl
theorem w18_20 : W (pj lw) 18 20 L S k n H Q ↔ W (pj lw) 18 22 L (.int 24 :: S) k n H Q := W_s rfl rfl rfl rfl
theorem w18_22 : W (pj lw) 18 22 L (.int y :: .int x :: S) k n H Q ↔ (¬ y = 0 ∧ W (pj lw) 18 23 L (.int (x % y) :: S) k n H Q) := W_irem (rfl : (pj lw).1 18 22 = some (.irem, 1, 0))
theorem w18_23 : W (pj lw) 18 23 (l0 :: l1 :: l2 :: l3 :: l4 :: l5 :: l6 :: .unset :: L) (.int x :: S) k n H Q ↔ W (pj lw) 18 25 (l0 :: l1 :: l2 :: l3 :: l4 :: l5 :: l6 :: .val (.int x) :: L) S k n H Q := W_ist (rfl : (pj lw).1 18 23 = some (.istore 7, 2, 0)) rfl rfl
theorem w18_25 : W (pj lw) 18 25 (.val (.ref x) :: L) S k n H Q ↔ W (pj lw) 18 26 (.val (.ref x) :: L) (.ref x :: S) k n H Q := W_s rfl rfl rfl rfl
theorem w18_26 : W (pj lw) 18 26 L (.ref a :: S) k n H Q ↔ (isO H a = true ∧ W (pj lw) 18 29 L (fld H a 12 :: S) k n H Q) := W_getf (rfl : (pj lw).1 18 26 = some (.getfield 30, 3, 12))
theorem w18_29 : W (pj lw) 18 29 (l0 :: l1 :: l2 :: l3 :: l4 :: .val (.int x) :: L) S k n H Q ↔ W (pj lw) 18 31 (l0 :: l1 :: l2 :: l3 :: l4 :: .val (.int x) :: L) (.int x :: S) k n H Q := W_s rfl rfl rfl rfl
theorem w18_31 : W (pj lw) 18 31 (.val (.ref x) :: L) S k n H Q ↔ W (pj lw) 18 32 (.val (.ref x) :: L) (.ref x :: S) k n H Q := W_s rfl rfl rfl rfl
theorem w18_32 : W (pj lw) 18 32 L (.ref a :: S) k n H Q ↔ (isO H a = true ∧ W (pj lw) 18 35 L (fld H a 2 :: S) k n H Q) := W_getf (rfl : (pj lw).1 18 32 = some (.getfield 7, 3, 2))
theorem w18_35 : W (pj lw) 18 35 (l0 :: l1 :: l2 :: l3 :: l4 :: .val (.int x) :: L) S k n H Q ↔ W (pj lw) 18 37 (l0 :: l1 :: l2 :: l3 :: l4 :: .val (.int x) :: L) (.int x :: S) k n H Q := W_s rfl rfl rfl rfl
theorem w18_37 : W (pj lw) 18 37 L (.int i :: .ref a :: S) k n H Q ↔ ((inA H a .byte i = true ∨ inA H a .boolean i = true) ∧ W (pj lw) 18 38 L (elt H a i :: S) k n H Q) := W_baload (rfl : (pj lw).1 18 37 = some (.baload, 1, 0))
theorem w18_38 : W (pj lw) 18 38 L (.int x :: S) k n H Q ↔ (if x = 0 then W (pj lw) 18 78 L S k n H Q else W (pj lw) 18 41 L S k n H Q) := W_if_eq (rfl : (pj lw).1 18 38 = some (.ifCond .eq 40, 3, 0)) rfl
theorem w18_41 : W (pj lw) 18 41 (.val (.ref x) :: L) S k n H Q ↔ W (pj lw) 18 42 (.val (.ref x) :: L) (.ref x :: S) k n H Q := W_s rfl rfl rfl rfl
theorem w18_42 : W (pj lw) 18 42 L (.ref a :: S) k n H Q ↔ (isO H a = true ∧ W (pj lw) 18 45 L (fld H a 10 :: S) k n H Q) := W_getf (rfl : (pj lw).1 18 42 = some (.getfield 23, 3, 10))
theorem w18_45 : W (pj lw) 18 45 (l0 :: l1 :: l2 :: l3 :: l4 :: l5 :: .val (.int x) :: L) S k n H Q ↔ W (pj lw) 18 47 (l0 :: l1 :: l2 :: l3 :: l4 :: l5 :: .val (.int x) :: L) (.int x :: S) k n H Q := W_s rfl rfl rfl rfl
theorem w18_47 : W (pj lw) 18 47 L (.int i :: .ref a :: S) k n H Q ↔ (inA H a .long i = true ∧ W (pj lw) 18 48 L (elt H a i :: S) k n H Q) := W_laload (rfl : (pj lw).1 18 47 = some (.laload, 1, 0))
theorem w18_48 : W (pj lw) 18 48 (l0 :: .val (.long x) :: L) S k n H Q ↔ W (pj lw) 18 49 (l0 :: .val (.long x) :: L) (.long x :: S) k n H Q := W_s rfl rfl rfl rfl
theorem w18_49 : W (pj lw) 18 49 (.val (.ref x) :: L) S k n H Q ↔ W (pj lw) 18 50 (.val (.ref x) :: L) (.ref x :: S) k n H Q := W_s rfl rfl rfl rfl
theorem w18_50 : W (pj lw) 18 50 L (.ref a :: S) k n H Q ↔ (isO H a = true ∧ W (pj lw) 18 53 L (fld H a 3 :: S) k n H Q) := W_getf (rfl : (pj lw).1 18 50 = some (.getfield 13, 3, 3))
theorem w18_53 : W (pj lw) 18 53 (l0 :: l1 :: l2 :: l3 :: l4 :: .val (.int x) :: L) S k n H Q ↔ W (pj lw) 18 55 (l0 :: l1 :: l2 :: l3 :: l4 :: .val (.int x) :: L) (.int x :: S) k n H Q := W_s rfl rfl rfl rfl
theorem w18_55 : W (pj lw) 18 55 L (.int i :: .ref a :: S) k n H Q ↔ (inA H a .int i = true ∧ W (pj lw) 18 56 L (elt H a i :: S) k n H Q) := W_iaload (rfl : (pj lw).1 18 55 = some (.iaload, 1, 0))
theorem w18_56 : W (pj lw) 18 56 L (.int x :: S) k n H Q ↔ W (pj lw) 18 57 L (.long x.toInt64 :: S) k n H Q := W_s rfl rfl rfl rfl
theorem w18_57 : W (pj lw) 18 57 L (.long y :: .long x :: S) k n H Q ↔ W (pj lw) 18 58 L (.long (x * y) :: S) k n H Q := W_s rfl rfl rfl rfl
theorem w18_58 : W (pj lw) 18 58 L (.long y :: .long x :: S) k n H Q ↔ W (pj lw) 18 59 L (.long (x + y) :: S) k n H Q := W_s rfl rfl rfl rfl
theorem w18_59 : W (pj lw) 18 59 (l0 :: l1 :: l2 :: .val (.long x) :: L) S k n H Q ↔ W (pj lw) 18 60 (l0 :: l1 :: l2 :: .val (.long x) :: L) (.long x :: S) k n H Q := W_s rfl rfl rfl rfl
theorem w18_60 : W (pj lw) 18 60 L (.long y :: .long x :: S) k n H Q ↔ W (pj lw) 18 61 L (.long (x - y) :: S) k n H Q := W_s rfl rfl rfl rfl
theorem w18_61 : W (pj lw) 18 61 (.val (.ref x) :: L) S k n H Q ↔ W (pj lw) 18 62 (.val (.ref x) :: L) (.ref x :: S) k n H Q := W_s rfl rfl rfl rfl
theorem w18_62 : W (pj lw) 18 62 L (.ref a :: S) k n H Q ↔ (isO H a = true ∧ W (pj lw) 18 65 L (fld H a 10 :: S) k n H Q) := W_getf (rfl : (pj lw).1 18 62 = some (.getfield 23, 3, 10))
theorem w18_65 : W (pj lw) 18 65 (l0 :: l1 :: l2 :: l3 :: l4 :: l5 :: l6 :: .val (.int x) :: L) S k n H Q ↔ W (pj lw) 18 67 (l0 :: l1 :: l2 :: l3 :: l4 :: l5 :: l6 :: .val (.int x) :: L) (.int x :: S) k n H Q := W_s rfl rfl rfl rfl
theorem w18_67 : W (pj lw) 18 67 L (.int i :: .ref a :: S) k n H Q ↔ (inA H a .long i = true ∧ W (pj lw) 18 68 L (elt H a i :: S) k n H Q) := W_laload (rfl : (pj lw).1 18 67 = some (.laload, 1, 0))
theorem w18_68 : W (pj lw) 18 68 L (.long y :: .long x :: S) k n H Q ↔ W (pj lw) 18 69 L (.long (x - y) :: S) k n H Q := W_s rfl rfl rfl rfl
theorem w18_69 : W (pj lw) 18 69 L S k n H Q ↔ W (pj lw) 18 70 L (.long 0 :: S) k n H Q := W_s rfl rfl rfl rfl
theorem w18_70 : W (pj lw) 18 70 L (.long y :: .long x :: S) k n H Q ↔ W (pj lw) 18 71 L (.int (Jvm.Free.XT.cmpL x y) :: S) k n H Q := W_s rfl rfl rfl rfl
theorem w18_71 : W (pj lw) 18 71 L (.int x :: S) k n H Q ↔ (if x = 0 then W (pj lw) 18 74 L S k n H Q else W (pj lw) 18 78 L S k n H Q) := W_if_ne (rfl : (pj lw).1 18 71 = some (.ifCond .ne 7, 3, 0)) rfl
theorem w18_74 : W (pj lw) 18 74 L S k n H Q ↔ W (pj lw) 18 75 L (.int 1 :: S) k n H Q := W_s rfl rfl rfl rfl
theorem w18_75 : W (pj lw) 18 75 L S k n H Q ↔ W (pj lw) 18 79 L S k n H Q := W_goto rfl rfl
theorem w18_78 : W (pj lw) 18 78 L S k n H Q ↔ W (pj lw) 18 79 L (.int 0 :: S) k n H Q := W_s rfl rfl rfl rfl
theorem w18_79 : W (pj lw) 18 79 L (.int x :: .int i :: .ref a :: S) k n H Q ↔ (((inAw H a .byte i = true ∧ okv .byte (.int x) = true) ∨ (inAw H a .boolean i = true ∧ okv .boolean (.int x) = true)) ∧ W (pj lw) 18 80 L S k n (wr H a i.toNatClampNeg (.int x)) Q) := W_bastore (rfl : (pj lw).1 18 79 = some (.bastore, 1, 0))
theorem w18_80 : W (pj lw) 18 80 (l0 :: l1 :: l2 :: l3 :: l4 :: .val (.int x) :: L) S k n H Q ↔ W (pj lw) 18 83 (l0 :: l1 :: l2 :: l3 :: l4 :: .val (.int (x + 1)) :: L) S k n H Q := W_s rfl rfl rfl rfl
theorem w18_83 : W (pj lw) 18 83 L S k n H Q ↔ W (pj lw) 18 3 L S k n H Q := W_goto rfl rfl
theorem w18_86 : W (pj lw) 18 86 L [] k n H Q ↔ Q none H := W_r rfl rfl
theorem c19 {x0 : Nat} : Cl (pj lw) 19 [.ref x0] H Q ↔ W (pj lw) 19 0 [.val (.ref x0), .unset, .unset] [] 0 0 H Q := cl_unf rfl
theorem w19_0 : W (pj lw) 19 0 L S k n H Q ↔ W (pj lw) 19 1 L (.int 0 :: S) k n H Q := W_s rfl rfl rfl rfl
theorem w19_1 : W (pj lw) 19 1 (l0 :: .unset :: L) (.int x :: S) k n H Q ↔ W (pj lw) 19 2 (l0 :: .val (.int x) :: L) S k n H Q := W_istn (rfl : (pj lw).1 19 1 = some (.istore_n 1, 1, 0)) rfl rfl
theorem w19_2 : W (pj lw) 19 2 (l0 :: .val (.int x) :: L) S k n H Q ↔ W (pj lw) 19 3 (l0 :: .val (.int x) :: L) (.int x :: S) k n H Q := W_s rfl rfl rfl rfl
theorem w19_3 : W (pj lw) 19 3 L S k n H Q ↔ W (pj lw) 19 5 L (.int 24 :: S) k n H Q := W_s rfl rfl rfl rfl
theorem w19_5 : W (pj lw) 19 5 L (.int y :: .int x :: S) k n H Q ↔ (if x < y then W (pj lw) 19 8 L S k n H Q else W (pj lw) 19 21 L S k n H Q) := W_icmp_ge (rfl : (pj lw).1 19 5 = some (.if_icmp .ge 16, 3, 0)) rfl
theorem w19_8 : W (pj lw) 19 8 (.val (.ref x) :: L) S k n H Q ↔ W (pj lw) 19 9 (.val (.ref x) :: L) (.ref x :: S) k n H Q := W_s rfl rfl rfl rfl
theorem w19_9 : W (pj lw) 19 9 L (.ref a :: S) k n H Q ↔ (isO H a = true ∧ W (pj lw) 19 12 L (fld H a 13 :: S) k n H Q) := W_getf (rfl : (pj lw).1 19 9 = some (.getfield 33, 3, 13))
theorem w19_12 : W (pj lw) 19 12 (l0 :: .val (.int x) :: L) S k n H Q ↔ W (pj lw) 19 13 (l0 :: .val (.int x) :: L) (.int x :: S) k n H Q := W_s rfl rfl rfl rfl
theorem w19_13 : W (pj lw) 19 13 L S k n H Q ↔ W (pj lw) 19 14 L (.int 0 :: S) k n H Q := W_s rfl rfl rfl rfl
theorem w19_14 : W (pj lw) 19 14 L (.int x :: .int i :: .ref a :: S) k n H Q ↔ (inAw H a .int i = true ∧ W (pj lw) 19 15 L S k n (wr H a i.toNatClampNeg (.int x)) Q) := W_iastore (rfl : (pj lw).1 19 14 = some (.iastore, 1, 0))
theorem w19_15 : W (pj lw) 19 15 (l0 :: .val (.int x) :: L) S k n H Q ↔ W (pj lw) 19 18 (l0 :: .val (.int (x + 1)) :: L) S k n H Q := W_s rfl rfl rfl rfl
theorem w19_18 : W (pj lw) 19 18 L S k n H Q ↔ W (pj lw) 19 2 L S k n H Q := W_goto rfl rfl
theorem w19_21 : W (pj lw) 19 21 L S k n H Q ↔ W (pj lw) 19 22 L (.int 0 :: S) k n H Q := W_s rfl rfl rfl rfl
theorem w19_22i : W (pj lw) 19 22 (l0 :: .val (.int y) :: L) (.int x :: S) k n H Q ↔ W (pj lw) 19 23 (l0 :: .val (.int x) :: L) S k n H Q := W_istn (rfl : (pj lw).1 19 22 = some (.istore_n 1, 1, 0)) rfl rfl
theorem w19_23 : W (pj lw) 19 23 (l0 :: .val (.int x) :: L) S k n H Q ↔ W (pj lw) 19 24 (l0 :: .val (.int x) :: L) (.int x :: S) k n H Q := W_s rfl rfl rfl rfl
theorem w19_24 : W (pj lw) 19 24 L S k n H Q ↔ W (pj lw) 19 27 L (.int 576 :: S) k n H Q := W_s rfl rfl rfl rfl
theorem w19_27 : W (pj lw) 19 27 L (.int y :: .int x :: S) k n H Q ↔ (if x < y then W (pj lw) 19 30 L S k n H Q else W (pj lw) 19 63 L S k n H Q) := W_icmp_ge (rfl : (pj lw).1 19 27 = some (.if_icmp .ge 36, 3, 0)) rfl
theorem w19_30 : W (pj lw) 19 30 (.val (.ref x) :: L) S k n H Q ↔ W (pj lw) 19 31 (.val (.ref x) :: L) (.ref x :: S) k n H Q := W_s rfl rfl rfl rfl
theorem w19_31 : W (pj lw) 19 31 L (.ref a :: S) k n H Q ↔ (isO H a = true ∧ W (pj lw) 19 34 L (fld H a 12 :: S) k n H Q) := W_getf (rfl : (pj lw).1 19 31 = some (.getfield 30, 3, 12))
theorem w19_34 : W (pj lw) 19 34 (l0 :: .val (.int x) :: L) S k n H Q ↔ W (pj lw) 19 35 (l0 :: .val (.int x) :: L) (.int x :: S) k n H Q := W_s rfl rfl rfl rfl
theorem w19_35 : W (pj lw) 19 35 L (.int i :: .ref a :: S) k n H Q ↔ ((inA H a .byte i = true ∨ inA H a .boolean i = true) ∧ W (pj lw) 19 36 L (elt H a i :: S) k n H Q) := W_baload (rfl : (pj lw).1 19 35 = some (.baload, 1, 0))
theorem w19_36 : W (pj lw) 19 36 L (.int x :: S) k n H Q ↔ (if x = 0 then W (pj lw) 19 57 L S k n H Q else W (pj lw) 19 39 L S k n H Q) := W_if_eq (rfl : (pj lw).1 19 36 = some (.ifCond .eq 21, 3, 0)) rfl
theorem w19_39 : W (pj lw) 19 39 (.val (.ref x) :: L) S k n H Q ↔ W (pj lw) 19 40 (.val (.ref x) :: L) (.ref x :: S) k n H Q := W_s rfl rfl rfl rfl
theorem w19_40 : W (pj lw) 19 40 L (.ref a :: S) k n H Q ↔ (isO H a = true ∧ W (pj lw) 19 43 L (fld H a 13 :: S) k n H Q) := W_getf (rfl : (pj lw).1 19 40 = some (.getfield 33, 3, 13))
theorem w19_43 : W (pj lw) 19 43 (l0 :: .val (.int x) :: L) S k n H Q ↔ W (pj lw) 19 44 (l0 :: .val (.int x) :: L) (.int x :: S) k n H Q := W_s rfl rfl rfl rfl
theorem w19_44 : W (pj lw) 19 44 L S k n H Q ↔ W (pj lw) 19 46 L (.int 24 :: S) k n H Q := W_s rfl rfl rfl rfl
theorem w19_46 : W (pj lw) 19 46 L (.int y :: .int x :: S) k n H Q ↔ (¬ y = 0 ∧ W (pj lw) 19 47 L (.int (x / y) :: S) k n H Q) := W_idiv (rfl : (pj lw).1 19 46 = some (.idiv, 1, 0))
theorem w19_47 : W (pj lw) 19 47 L (.int x :: .ref y :: S) k n H Q ↔ W (pj lw) 19 48 L (.int x :: .ref y :: .int x :: .ref y :: S) k n H Q := W_s rfl rfl rfl rfl
theorem w19_48 : W (pj lw) 19 48 L (.int i :: .ref a :: S) k n H Q ↔ (inA H a .int i = true ∧ W (pj lw) 19 49 L (elt H a i :: S) k n H Q) := W_iaload (rfl : (pj lw).1 19 48 = some (.iaload, 1, 0))
theorem w19_49 : W (pj lw) 19 49 L S k n H Q ↔ W (pj lw) 19 50 L (.int 1 :: S) k n H Q := W_s rfl rfl rfl rfl
theorem w19_50 : W (pj lw) 19 50 (l0 :: .val (.int x) :: L) S k n H Q ↔ W (pj lw) 19 51 (l0 :: .val (.int x) :: L) (.int x :: S) k n H Q := W_s rfl rfl rfl rfl
theorem w19_51 : W (pj lw) 19 51 L S k n H Q ↔ W (pj lw) 19 53 L (.int 24 :: S) k n H Q := W_s rfl rfl rfl rfl
theorem w19_53 : W (pj lw) 19 53 L (.int y :: .int x :: S) k n H Q ↔ (¬ y = 0 ∧ W (pj lw) 19 54 L (.int (x % y) :: S) k n H Q) := W_irem (rfl : (pj lw).1 19 53 = some (.irem, 1, 0))
theorem w19_54 : W (pj lw) 19 54 L (.int y :: .int x :: S) k n H Q ↔ W (pj lw) 19 55 L (.int (x <<< (y &&& 31)) :: S) k n H Q := W_s rfl rfl rfl rfl
theorem w19_55 : W (pj lw) 19 55 L (.int y :: .int x :: S) k n H Q ↔ W (pj lw) 19 56 L (.int (x ||| y) :: S) k n H Q := W_s rfl rfl rfl rfl
theorem w19_56 : W (pj lw) 19 56 L (.int x :: .int i :: .ref a :: S) k n H Q ↔ (inAw H a .int i = true ∧ W (pj lw) 19 57 L S k n (wr H a i.toNatClampNeg (.int x)) Q) := W_iastore (rfl : (pj lw).1 19 56 = some (.iastore, 1, 0))
theorem w19_57 : W (pj lw) 19 57 (l0 :: .val (.int x) :: L) S k n H Q ↔ W (pj lw) 19 60 (l0 :: .val (.int (x + 1)) :: L) S k n H Q := W_s rfl rfl rfl rfl
theorem w19_60 : W (pj lw) 19 60 L S k n H Q ↔ W (pj lw) 19 23 L S k n H Q := W_goto rfl rfl
theorem w19_63 : W (pj lw) 19 63 L S k n H Q ↔ W (pj lw) 19 64 L (.int 0 :: S) k n H Q := W_s rfl rfl rfl rfl
theorem w19_64i : W (pj lw) 19 64 (l0 :: .val (.int y) :: L) (.int x :: S) k n H Q ↔ W (pj lw) 19 65 (l0 :: .val (.int x) :: L) S k n H Q := W_istn (rfl : (pj lw).1 19 64 = some (.istore_n 1, 1, 0)) rfl rfl
theorem w19_65 : W (pj lw) 19 65 (l0 :: .val (.int x) :: L) S k n H Q ↔ W (pj lw) 19 66 (l0 :: .val (.int x) :: L) (.int x :: S) k n H Q := W_s rfl rfl rfl rfl
theorem w19_66 : W (pj lw) 19 66 (.val (.ref x) :: L) S k n H Q ↔ W (pj lw) 19 67 (.val (.ref x) :: L) (.ref x :: S) k n H Q := W_s rfl rfl rfl rfl
theorem w19_67 : W (pj lw) 19 67 L (.ref a :: S) k n H Q ↔ (isO H a = true ∧ W (pj lw) 19 70 L (fld H a 0 :: S) k n H Q) := W_getf (rfl : (pj lw).1 19 67 = some (.getfield 48, 3, 0))
theorem w19_70 : W (pj lw) 19 70 L (.int y :: .int x :: S) k n H Q ↔ (if x < y then W (pj lw) 19 73 L S k n H Q else W (pj lw) 19 123 L S k n H Q) := W_icmp_ge (rfl : (pj lw).1 19 70 = some (.if_icmp .ge 53, 3, 0)) rfl
theorem w19_73 : W (pj lw) 19 73 L S k n H Q ↔ W (pj lw) 19 74 L (.int 0 :: S) k n H Q := W_s rfl rfl rfl rfl
theorem w19_74 : W (pj lw) 19 74 (l0 :: l1 :: .unset :: L) (.int x :: S) k n H Q ↔ W (pj lw) 19 75 (l0 :: l1 :: .val (.int x) :: L) S k n H Q := W_istn (rfl : (pj lw).1 19 74 = some (.istore_n 2, 1, 0)) rfl rfl
theorem w19_75 : W (pj lw) 19 75 (l0 :: l1 :: .val (.int x) :: L) S k n H Q ↔ W (pj lw) 19 76 (l0 :: l1 :: .val (.int x) :: L) (.int x :: S) k n H Q := W_s rfl rfl rfl rfl
theorem w19_76 : W (pj lw) 19 76 (.val (.ref x) :: L) S k n H Q ↔ W (pj lw) 19 77 (.val (.ref x) :: L) (.ref x :: S) k n H Q := W_s rfl rfl rfl rfl
theorem w19_77 : W (pj lw) 19 77 L (.ref a :: S) k n H Q ↔ (isO H a = true ∧ W (pj lw) 19 80 L (fld H a 0 :: S) k n H Q) := W_getf (rfl : (pj lw).1 19 77 = some (.getfield 48, 3, 0))
theorem w19_80 : W (pj lw) 19 80 L (.int y :: .int x :: S) k n H Q ↔ (if x < y then W (pj lw) 19 83 L S k n H Q else W (pj lw) 19 117 L S k n H Q) := W_icmp_ge (rfl : (pj lw).1 19 80 = some (.if_icmp .ge 37, 3, 0)) rfl
theorem w19_83 : W (pj lw) 19 83 (.val (.ref x) :: L) S k n H Q ↔ W (pj lw) 19 84 (.val (.ref x) :: L) (.ref x :: S) k n H Q := W_s rfl rfl rfl rfl
theorem w19_84 : W (pj lw) 19 84 L (.ref a :: S) k n H Q ↔ (isO H a = true ∧ W (pj lw) 19 87 L (fld H a 13 :: S) k n H Q) := W_getf (rfl : (pj lw).1 19 84 = some (.getfield 33, 3, 13))
theorem w19_87 : W (pj lw) 19 87 (l0 :: l1 :: .val (.int x) :: L) S k n H Q ↔ W (pj lw) 19 88 (l0 :: l1 :: .val (.int x) :: L) (.int x :: S) k n H Q := W_s rfl rfl rfl rfl
theorem w19_88 : W (pj lw) 19 88 L (.int i :: .ref a :: S) k n H Q ↔ (inA H a .int i = true ∧ W (pj lw) 19 89 L (elt H a i :: S) k n H Q) := W_iaload (rfl : (pj lw).1 19 88 = some (.iaload, 1, 0))
theorem w19_89 : W (pj lw) 19 89 (l0 :: .val (.int x) :: L) S k n H Q ↔ W (pj lw) 19 90 (l0 :: .val (.int x) :: L) (.int x :: S) k n H Q := W_s rfl rfl rfl rfl
theorem w19_90 : W (pj lw) 19 90 L (.int y :: .int x :: S) k n H Q ↔ W (pj lw) 19 91 L (.int (x >>> (y &&& 31)) :: S) k n H Q := W_s rfl rfl rfl rfl
theorem w19_91 : W (pj lw) 19 91 L S k n H Q ↔ W (pj lw) 19 92 L (.int 1 :: S) k n H Q := W_s rfl rfl rfl rfl
theorem w19_92 : W (pj lw) 19 92 L (.int y :: .int x :: S) k n H Q ↔ W (pj lw) 19 93 L (.int (x &&& y) :: S) k n H Q := W_s rfl rfl rfl rfl
theorem w19_93 : W (pj lw) 19 93 L (.int x :: S) k n H Q ↔ (if x = 0 then W (pj lw) 19 111 L S k n H Q else W (pj lw) 19 96 L S k n H Q) := W_if_eq (rfl : (pj lw).1 19 93 = some (.ifCond .eq 18, 3, 0)) rfl
theorem w19_96 : W (pj lw) 19 96 (.val (.ref x) :: L) S k n H Q ↔ W (pj lw) 19 97 (.val (.ref x) :: L) (.ref x :: S) k n H Q := W_s rfl rfl rfl rfl
theorem w19_97 : W (pj lw) 19 97 L (.ref a :: S) k n H Q ↔ (isO H a = true ∧ W (pj lw) 19 100 L (fld H a 13 :: S) k n H Q) := W_getf (rfl : (pj lw).1 19 97 = some (.getfield 33, 3, 13))
theorem w19_100 : W (pj lw) 19 100 (l0 :: l1 :: .val (.int x) :: L) S k n H Q ↔ W (pj lw) 19 101 (l0 :: l1 :: .val (.int x) :: L) (.int x :: S) k n H Q := W_s rfl rfl rfl rfl
theorem w19_101 : W (pj lw) 19 101 L (.int x :: .ref y :: S) k n H Q ↔ W (pj lw) 19 102 L (.int x :: .ref y :: .int x :: .ref y :: S) k n H Q := W_s rfl rfl rfl rfl
theorem w19_102 : W (pj lw) 19 102 L (.int i :: .ref a :: S) k n H Q ↔ (inA H a .int i = true ∧ W (pj lw) 19 103 L (elt H a i :: S) k n H Q) := W_iaload (rfl : (pj lw).1 19 102 = some (.iaload, 1, 0))
theorem w19_103 : W (pj lw) 19 103 (.val (.ref x) :: L) S k n H Q ↔ W (pj lw) 19 104 (.val (.ref x) :: L) (.ref x :: S) k n H Q := W_s rfl rfl rfl rfl
theorem w19_104 : W (pj lw) 19 104 L (.ref a :: S) k n H Q ↔ (isO H a = true ∧ W (pj lw) 19 107 L (fld H a 13 :: S) k n H Q) := W_getf (rfl : (pj lw).1 19 104 = some (.getfield 33, 3, 13))
theorem w19_107 : W (pj lw) 19 107 (l0 :: .val (.int x) :: L) S k n H Q ↔ W (pj lw) 19 108 (l0 :: .val (.int x) :: L) (.int x :: S) k n H Q := W_s rfl rfl rfl rfl
theorem w19_108 : W (pj lw) 19 108 L (.int i :: .ref a :: S) k n H Q ↔ (inA H a .int i = true ∧ W (pj lw) 19 109 L (elt H a i :: S) k n H Q) := W_iaload (rfl : (pj lw).1 19 108 = some (.iaload, 1, 0))
theorem w19_109 : W (pj lw) 19 109 L (.int y :: .int x :: S) k n H Q ↔ W (pj lw) 19 110 L (.int (x ||| y) :: S) k n H Q := W_s rfl rfl rfl rfl
theorem w19_110 : W (pj lw) 19 110 L (.int x :: .int i :: .ref a :: S) k n H Q ↔ (inAw H a .int i = true ∧ W (pj lw) 19 111 L S k n (wr H a i.toNatClampNeg (.int x)) Q) := W_iastore (rfl : (pj lw).1 19 110 = some (.iastore, 1, 0))
theorem w19_111 : W (pj lw) 19 111 (l0 :: l1 :: .val (.int x) :: L) S k n H Q ↔ W (pj lw) 19 114 (l0 :: l1 :: .val (.int (x + 1)) :: L) S k n H Q := W_s rfl rfl rfl rfl
theorem w19_114 : W (pj lw) 19 114 L S k n H Q ↔ W (pj lw) 19 75 L S k n H Q := W_goto rfl rfl
theorem w19_117 : W (pj lw) 19 117 (l0 :: .val (.int x) :: L) S k n H Q ↔ W (pj lw) 19 120 (l0 :: .val (.int (x + 1)) :: L) S k n H Q := W_s rfl rfl rfl rfl
theorem w19_120 : W (pj lw) 19 120 L S k n H Q ↔ W (pj lw) 19 65 L S k n H Q := W_goto rfl rfl
theorem w19_123 : W (pj lw) 19 123 L [] k n H Q ↔ Q none H := W_r rfl rfl
theorem c20 {x0 : Nat} {x1 : Int32} : Cl (pj lw) 20 [.ref x0, .int x1] H Q ↔ W (pj lw) 20 0 [.val (.ref x0), .val (.int x1), .unset, .unset, .unset, .unset] [] 0 0 H Q := cl_unf rfl
theorem w20_0 : W (pj lw) 20 0 L S k n H Q ↔ W (pj lw) 20 1 L (.int 0 :: S) k n H Q := W_s rfl rfl rfl rfl
theorem w20_1 : W (pj lw) 20 1 (l0 :: l1 :: .unset :: L) (.int x :: S) k n H Q ↔ W (pj lw) 20 2 (l0 :: l1 :: .val (.int x) :: L) S k n H Q := W_istn (rfl : (pj lw).1 20 1 = some (.istore_n 2, 1, 0)) rfl rfl
theorem w20_2 : W (pj lw) 20 2 (l0 :: l1 :: .val (.int x) :: L) S k n H Q ↔ W (pj lw) 20 3 (l0 :: l1 :: .val (.int x) :: L) (.int x :: S) k n H Q := W_s rfl rfl rfl rfl
theorem w20_3 : W (pj lw) 20 3 L S k n H Q ↔ W (pj lw) 20 5 L (.int 24 :: S) k n H Q := W_s rfl rfl rfl rfl
theorem w20_5 : W (pj lw) 20 5 L (.int y :: .int x :: S) k n H Q ↔ (if x < y then W (pj lw) 20 8 L S k n H Q else W (pj lw) 20 21 L S k n H Q) := W_icmp_ge (rfl : (pj lw).1 20 5 = some (.if_icmp .ge 16, 3, 0)) rfl
theorem w20_8 : W (pj lw) 20 8 (.val (.ref x) :: L) S k n H Q ↔ W (pj lw) 20 9 (.val (.ref x) :: L) (.ref x :: S) k n H Q := W_s rfl rfl rfl rfl
theorem w20_9 : W (pj lw) 20 9 L (.ref a :: S) k n H Q ↔ (isO H a = true ∧ W (pj lw) 20 12 L (fld H a 14 :: S) k n H Q) := W_getf (rfl : (pj lw).1 20 9 = some (.getfield 36, 3, 14))
theorem w20_12 : W (pj lw) 20 12 (l0 :: l1 :: .val (.int x) :: L) S k n H Q ↔ W (pj lw) 20 13 (l0 :: l1 :: .val (.int x) :: L) (.int x :: S) k n H Q := W_s rfl rfl rfl rfl
theorem w20_13 : W (pj lw) 20 13 L S k n H Q ↔ W (pj lw) 20 14 L (.int (-1) :: S) k n H Q := W_s rfl rfl rfl rfl
theorem w20_14 : W (pj lw) 20 14 L (.int x :: .int i :: .ref a :: S) k n H Q ↔ (inAw H a .int i = true ∧ W (pj lw) 20 15 L S k n (wr H a i.toNatClampNeg (.int x)) Q) := W_iastore (rfl : (pj lw).1 20 14 = some (.iastore, 1, 0))
theorem w20_15 : W (pj lw) 20 15 (l0 :: l1 :: .val (.int x) :: L) S k n H Q ↔ W (pj lw) 20 18 (l0 :: l1 :: .val (.int (x + 1)) :: L) S k n H Q := W_s rfl rfl rfl rfl
theorem w20_18 : W (pj lw) 20 18 L S k n H Q ↔ W (pj lw) 20 2 L S k n H Q := W_goto rfl rfl
theorem w20_21 : W (pj lw) 20 21 (.val (.ref x) :: L) S k n H Q ↔ W (pj lw) 20 22 (.val (.ref x) :: L) (.ref x :: S) k n H Q := W_s rfl rfl rfl rfl
theorem w20_22 : W (pj lw) 20 22 L (.ref a :: S) k n H Q ↔ (isO H a = true ∧ W (pj lw) 20 25 L (fld H a 14 :: S) k n H Q) := W_getf (rfl : (pj lw).1 20 22 = some (.getfield 36, 3, 14))
theorem w20_25 : W (pj lw) 20 25 (l0 :: .val (.int x) :: L) S k n H Q ↔ W (pj lw) 20 26 (l0 :: .val (.int x) :: L) (.int x :: S) k n H Q := W_s rfl rfl rfl rfl
theorem w20_26 : W (pj lw) 20 26 L S k n H Q ↔ W (pj lw) 20 27 L (.int 0 :: S) k n H Q := W_s rfl rfl rfl rfl
theorem w20_27 : W (pj lw) 20 27 L (.int x :: .int i :: .ref a :: S) k n H Q ↔ (inAw H a .int i = true ∧ W (pj lw) 20 28 L S k n (wr H a i.toNatClampNeg (.int x)) Q) := W_iastore (rfl : (pj lw).1 20 27 = some (.iastore, 1, 0))
theorem w20_28 : W (pj lw) 20 28 (.val (.ref x) :: L) S k n H Q ↔ W (pj lw) 20 29 (.val (.ref x) :: L) (.ref x :: S) k n H Q := W_s rfl rfl rfl rfl
theorem w20_29 : W (pj lw) 20 29 L (.ref a :: S) k n H Q ↔ (isO H a = true ∧ W (pj lw) 20 32 L (fld H a 15 :: S) k n H Q) := W_getf (rfl : (pj lw).1 20 29 = some (.getfield 39, 3, 15))
theorem w20_32 : W (pj lw) 20 32 L S k n H Q ↔ W (pj lw) 20 33 L (.int 0 :: S) k n H Q := W_s rfl rfl rfl rfl
theorem w20_33 : W (pj lw) 20 33 (l0 :: .val (.int x) :: L) S k n H Q ↔ W (pj lw) 20 34 (l0 :: .val (.int x) :: L) (.int x :: S) k n H Q := W_s rfl rfl rfl rfl
theorem w20_34 : W (pj lw) 20 34 L (.int x :: .int i :: .ref a :: S) k n H Q ↔ (inAw H a .int i = true ∧ W (pj lw) 20 35 L S k n (wr H a i.toNatClampNeg (.int x)) Q) := W_iastore (rfl : (pj lw).1 20 34 = some (.iastore, 1, 0))
theorem w20_35 : W (pj lw) 20 35 L S k n H Q ↔ W (pj lw) 20 36 L (.int 1 :: S) k n H Q := W_s rfl rfl rfl rfl
theorem w20_36i : W (pj lw) 20 36 (l0 :: l1 :: .val (.int y) :: L) (.int x :: S) k n H Q ↔ W (pj lw) 20 37 (l0 :: l1 :: .val (.int x) :: L) S k n H Q := W_istn (rfl : (pj lw).1 20 36 = some (.istore_n 2, 1, 0)) rfl rfl
theorem w20_37 : W (pj lw) 20 37 L S k n H Q ↔ W (pj lw) 20 38 L (.int 0 :: S) k n H Q := W_s rfl rfl rfl rfl
theorem w20_38 : W (pj lw) 20 38 (l0 :: l1 :: l2 :: .unset :: L) (.int x :: S) k n H Q ↔ W (pj lw) 20 39 (l0 :: l1 :: l2 :: .val (.int x) :: L) S k n H Q := W_istn (rfl : (pj lw).1 20 38 = some (.istore_n 3, 1, 0)) rfl rfl
theorem w20_39 : W (pj lw) 20 39 (l0 :: l1 :: l2 :: .val (.int x) :: L) S k n H Q ↔ W (pj lw) 20 40 (l0 :: l1 :: l2 :: .val (.int x) :: L) (.int x :: S) k n H Q := W_s rfl rfl rfl rfl
theorem w20_40 : W (pj lw) 20 40 (l0 :: l1 :: .val (.int x) :: L) S k n H Q ↔ W (pj lw) 20 41 (l0 :: l1 :: .val (.int x) :: L) (.int x :: S) k n H Q := W_s rfl rfl rfl rfl
theorem w20_41 : W (pj lw) 20 41 L (.int y :: .int x :: S) k n H Q ↔ (if x < y then W (pj lw) 20 44 L S k n H Q else W (pj lw) 20 141 L S k n H Q) := W_icmp_ge (rfl : (pj lw).1 20 41 = some (.if_icmp .ge 100, 3, 0)) rfl
theorem w20_44 : W (pj lw) 20 44 (l0 :: l1 :: l2 :: .val (.int x) :: L) S k n H Q ↔ W (pj lw) 20 45 (l0 :: l1 :: l2 :: .val (.int x) :: L) (.int x :: S) k n H Q := W_s rfl rfl rfl rfl
theorem w20_45 : W (pj lw) 20 45 L S k n H Q ↔ W (pj lw) 20 47 L (.int 24 :: S) k n H Q := W_s rfl rfl rfl rfl
theorem w20_47 : W (pj lw) 20 47 L (.int y :: .int x :: S) k n H Q ↔ (if x < y then W (pj lw) 20 50 L S k n H Q else W (pj lw) 20 141 L S k n H Q) := W_icmp_ge (rfl : (pj lw).1 20 47 = some (.if_icmp .ge 94, 3, 0)) rfl
theorem w20_50 : W (pj lw) 20 50 (.val (.ref x) :: L) S k n H Q ↔ W (pj lw) 20 51 (.val (.ref x) :: L) (.ref x :: S) k n H Q := W_s rfl rfl rfl rfl
theorem w20_51 : W (pj lw) 20 51 L (.ref a :: S) k n H Q ↔ (isO H a = true ∧ W (pj lw) 20 54 L (fld H a 15 :: S) k n H Q) := W_getf (rfl : (pj lw).1 20 51 = some (.getfield 39, 3, 15))
theorem w20_54 : W (pj lw) 20 54 (l0 :: l1 :: l2 :: .val (.int x) :: L) S k n H Q ↔ W (pj lw) 20 55 (l0 :: l1 :: l2 :: .val (.int x) :: L) (.int x :: S) k n H Q := W_s rfl rfl rfl rfl
theorem w20_55 : W (pj lw) 20 55 L (.int i :: .ref a :: S) k n H Q ↔ (inA H a .int i = true ∧ W (pj lw) 20 56 L (elt H a i :: S) k n H Q) := W_iaload (rfl : (pj lw).1 20 55 = some (.iaload, 1, 0))
theorem w20_56 : W (pj lw) 20 56 (l0 :: l1 :: l2 :: l3 :: .unset :: L) (.int x :: S) k n H Q ↔ W (pj lw) 20 58 (l0 :: l1 :: l2 :: l3 :: .val (.int x) :: L) S k n H Q := W_ist (rfl : (pj lw).1 20 56 = some (.istore 4, 2, 0)) rfl rfl
theorem w20_58 : W (pj lw) 20 58 L S k n H Q ↔ W (pj lw) 20 59 L (.int 0 :: S) k n H Q := W_s rfl rfl rfl rfl
theorem w20_59 : W (pj lw) 20 59 (l0 :: l1 :: l2 :: l3 :: l4 :: .unset :: L) (.int x :: S) k n H Q ↔ W (pj lw) 20 61 (l0 :: l1 :: l2 :: l3 :: l4 :: .val (.int x) :: L) S k n H Q := W_ist (rfl : (pj lw).1 20 59 = some (.istore 5, 2, 0)) rfl rfl
theorem w20_61 : W (pj lw) 20 61 (l0 :: l1 :: l2 :: l3 :: l4 :: .val (.int x) :: L) S k n H Q ↔ W (pj lw) 20 63 (l0 :: l1 :: l2 :: l3 :: l4 :: .val (.int x) :: L) (.int x :: S) k n H Q := W_s rfl rfl rfl rfl
theorem w20_63 : W (pj lw) 20 63 (.val (.ref x) :: L) S k n H Q ↔ W (pj lw) 20 64 (.val (.ref x) :: L) (.ref x :: S) k n H Q := W_s rfl rfl rfl rfl
theorem w20_64 : W (pj lw) 20 64 L (.ref a :: S) k n H Q ↔ (isO H a = true ∧ W (pj lw) 20 67 L (fld H a 0 :: S) k n H Q) := W_getf (rfl : (pj lw).1 20 64 = some (.getfield 48, 3, 0))
theorem w20_67 : W (pj lw) 20 67 L (.int y :: .int x :: S) k n H Q ↔ (if x < y then W (pj lw) 20 70 L S k n H Q else W (pj lw) 20 135 L S k n H Q) := W_icmp_ge (rfl : (pj lw).1 20 67 = some (.if_icmp .ge 68, 3, 0)) rfl
theorem w20_70 : W (pj lw) 20 70 (.val (.ref x) :: L) S k n H Q ↔ W (pj lw) 20 71 (.val (.ref x) :: L) (.ref x :: S) k n H Q := W_s rfl rfl rfl rfl
theorem w20_71 : W (pj lw) 20 71 L (.ref a :: S) k n H Q ↔ (isO H a = true ∧ W (pj lw) 20 74 L (fld H a 12 :: S) k n H Q) := W_getf (rfl : (pj lw).1 20 71 = some (.getfield 30, 3, 12))
theorem w20_74 : W (pj lw) 20 74 (l0 :: l1 :: l2 :: l3 :: l4 :: .val (.int x) :: L) S k n H Q ↔ W (pj lw) 20 76 (l0 :: l1 :: l2 :: l3 :: l4 :: .val (.int x) :: L) (.int x :: S) k n H Q := W_s rfl rfl rfl rfl
theorem w20_76 : W (pj lw) 20 76 L S k n H Q ↔ W (pj lw) 20 78 L (.int 24 :: S) k n H Q := W_s rfl rfl rfl rfl
theorem w20_78 : W (pj lw) 20 78 L (.int y :: .int x :: S) k n H Q ↔ W (pj lw) 20 79 L (.int (x * y) :: S) k n H Q := W_s rfl rfl rfl rfl
theorem w20_79 : W (pj lw) 20 79 (l0 :: l1 :: l2 :: l3 :: .val (.int x) :: L) S k n H Q ↔ W (pj lw) 20 81 (l0 :: l1 :: l2 :: l3 :: .val (.int x) :: L) (.int x :: S) k n H Q := W_s rfl rfl rfl rfl
theorem w20_81 : W (pj lw) 20 81 L (.int y :: .int x :: S) k n H Q ↔ W (pj lw) 20 82 L (.int (x + y) :: S) k n H Q := W_s rfl rfl rfl rfl
theorem w20_82 : W (pj lw) 20 82 L (.int i :: .ref a :: S) k n H Q ↔ ((inA H a .byte i = true ∨ inA H a .boolean i = true) ∧ W (pj lw) 20 83 L (elt H a i :: S) k n H Q) := W_baload (rfl : (pj lw).1 20 82 = some (.baload, 1, 0))
theorem w20_83 : W (pj lw) 20 83 L (.int x :: S) k n H Q ↔ (if x = 0 then W (pj lw) 20 129 L S k n H Q else W (pj lw) 20 86 L S k n H Q) := W_if_eq (rfl : (pj lw).1 20 83 = some (.ifCond .eq 46, 3, 0)) rfl
theorem w20_86 : W (pj lw) 20 86 (.val (.ref x) :: L) S k n H Q ↔ W (pj lw) 20 87 (.val (.ref x) :: L) (.ref x :: S) k n H Q := W_s rfl rfl rfl rfl
theorem w20_87 : W (pj lw) 20 87 L (.ref a :: S) k n H Q ↔ (isO H a = true ∧ W (pj lw) 20 90 L (fld H a 14 :: S) k n H Q) := W_getf (rfl : (pj lw).1 20 87 = some (.getfield 36, 3, 14))
theorem w20_90 : W (pj lw) 20 90 (l0 :: l1 :: l2 :: l3 :: l4 :: .val (.int x) :: L) S k n H Q ↔ W (pj lw) 20 92 (l0 :: l1 :: l2 :: l3 :: l4 :: .val (.int x) :: L) (.int x :: S) k n H Q := W_s rfl rfl rfl rfl
theorem w20_92 : W (pj lw) 20 92 L (.int i :: .ref a :: S) k n H Q ↔ (inA H a .int i = true ∧ W (pj lw) 20 93 L (elt H a i :: S) k n H Q) := W_iaload (rfl : (pj lw).1 20 92 = some (.iaload, 1, 0))
theorem w20_93 : W (pj lw) 20 93 L (.int x :: S) k n H Q ↔ (if x < 0 then W (pj lw) 20 96 L S k n H Q else W (pj lw) 20 129 L S k n H Q) := W_if_ge (rfl : (pj lw).1 20 93 = some (.ifCond .ge 36, 3, 0)) rfl
theorem w20_96 : W (pj lw) 20 96 (l0 :: l1 :: .val (.int x) :: L) S k n H Q ↔ W (pj lw) 20 97 (l0 :: l1 :: .val (.int x) :: L) (.int x :: S) k n H Q := W_s rfl rfl rfl rfl
theorem w20_97 : W (pj lw) 20 97 L S k n H Q ↔ W (pj lw) 20 99 L (.int 24 :: S) k n H Q := W_s rfl rfl rfl rfl
theorem w20_99 : W (pj lw) 20 99 L (.int y :: .int x :: S) k n H Q ↔ (if x < y then W (pj lw) 20 102 L S k n H Q else W (pj lw) 20 129 L S k n H Q) := W_icmp_ge (rfl : (pj lw).1 20 99 = some (.if_icmp .ge 30, 3, 0)) rfl
theorem w20_102 : W (pj lw) 20 102 (.val (.ref x) :: L) S k n H Q ↔ W (pj lw) 20 103 (.val (.ref x) :: L) (.ref x :: S) k n H Q := W_s rfl rfl rfl rfl
theorem w20_103 : W (pj lw) 20 103 L (.ref a :: S) k n H Q ↔ (isO H a = true ∧ W (pj lw) 20 106 L (fld H a 14 :: S) k n H Q) := W_getf (rfl : (pj lw).1 20 103 = some (.getfield 36, 3, 14))
theorem w20_106 : W (pj lw) 20 106 (l0 :: l1 :: l2 :: l3 :: l4 :: .val (.int x) :: L) S k n H Q ↔ W (pj lw) 20 108 (l0 :: l1 :: l2 :: l3 :: l4 :: .val (.int x) :: L) (.int x :: S) k n H Q := W_s rfl rfl rfl rfl
theorem w20_108 : W (pj lw) 20 108 (.val (.ref x) :: L) S k n H Q ↔ W (pj lw) 20 109 (.val (.ref x) :: L) (.ref x :: S) k n H Q := W_s rfl rfl rfl rfl
theorem w20_109 : W (pj lw) 20 109 L (.ref a :: S) k n H Q ↔ (isO H a = true ∧ W (pj lw) 20 112 L (fld H a 14 :: S) k n H Q) := W_getf (rfl : (pj lw).1 20 109 = some (.getfield 36, 3, 14))
theorem w20_112 : W (pj lw) 20 112 (l0 :: l1 :: l2 :: l3 :: .val (.int x) :: L) S k n H Q ↔ W (pj lw) 20 114 (l0 :: l1 :: l2 :: l3 :: .val (.int x) :: L) (.int x :: S) k n H Q := W_s rfl rfl rfl rfl
theorem w20_114 : W (pj lw) 20 114 L (.int i :: .ref a :: S) k n H Q ↔ (inA H a .int i = true ∧ W (pj lw) 20 115 L (elt H a i :: S) k n H Q) := W_iaload (rfl : (pj lw).1 20 114 = some (.iaload, 1, 0))
theorem w20_115 : W (pj lw) 20 115 L S k n H Q ↔ W (pj lw) 20 116 L (.int 1 :: S) k n H Q := W_s rfl rfl rfl rfl
theorem w20_116 : W (pj lw) 20 116 L (.int y :: .int x :: S) k n H Q ↔ W (pj lw) 20 117 L (.int (x + y) :: S) k n H Q := W_s rfl rfl rfl rfl
theorem w20_117 : W (pj lw) 20 117 L (.int x :: .int i :: .ref a :: S) k n H Q ↔ (inAw H a .int i = true ∧ W (pj lw) 20 118 L S k n (wr H a i.toNatClampNeg (.int x)) Q) := W_iastore (rfl : (pj lw).1 20 117 = some (.iastore, 1, 0))
theorem w20_118 : W (pj lw) 20 118 (.val (.ref x) :: L) S k n H Q ↔ W (pj lw) 20 119 (.val (.ref x) :: L) (.ref x :: S) k n H Q := W_s rfl rfl rfl rfl
theorem w20_119 : W (pj lw) 20 119 L (.ref a :: S) k n H Q ↔ (isO H a = true ∧ W (pj lw) 20 122 L (fld H a 15 :: S) k n H Q) := W_getf (rfl : (pj lw).1 20 119 = some (.getfield 39, 3, 15))
theorem w20_122 : W (pj lw) 20 122 (l0 :: l1 :: .val (.int x) :: L) S k n H Q ↔ W (pj lw) 20 123 (l0 :: l1 :: .val (.int x) :: L) (.int x :: S) k n H Q := W_s rfl rfl rfl rfl
theorem w20_123 : W (pj lw) 20 123 (l0 :: l1 :: l2 :: l3 :: l4 :: .val (.int x) :: L) S k n H Q ↔ W (pj lw) 20 125 (l0 :: l1 :: l2 :: l3 :: l4 :: .val (.int x) :: L) (.int x :: S) k n H Q := W_s rfl rfl rfl rfl
theorem w20_125 : W (pj lw) 20 125 L (.int x :: .int i :: .ref a :: S) k n H Q ↔ (inAw H a .int i = true ∧ W (pj lw) 20 126 L S k n (wr H a i.toNatClampNeg (.int x)) Q) := W_iastore (rfl : (pj lw).1 20 125 = some (.iastore, 1, 0))
theorem w20_126 : W (pj lw) 20 126 (l0 :: l1 :: .val (.int x) :: L) S k n H Q ↔ W (pj lw) 20 129 (l0 :: l1 :: .val (.int (x + 1)) :: L) S k n H Q := W_s rfl rfl rfl rfl
theorem w20_129 : W (pj lw) 20 129 (l0 :: l1 :: l2 :: l3 :: l4 :: .val (.int x) :: L) S k n H Q ↔ W (pj lw) 20 132 (l0 :: l1 :: l2 :: l3 :: l4 :: .val (.int (x + 1)) :: L) S k n H Q := W_s rfl rfl rfl rfl
theorem w20_132 : W (pj lw) 20 132 L S k n H Q ↔ W (pj lw) 20 61 L S k n H Q := W_goto rfl rfl
theorem w20_135 : W (pj lw) 20 135 (l0 :: l1 :: l2 :: .val (.int x) :: L) S k n H Q ↔ W (pj lw) 20 138 (l0 :: l1 :: l2 :: .val (.int (x + 1)) :: L) S k n H Q := W_s rfl rfl rfl rfl
theorem w20_138 : W (pj lw) 20 138 L S k n H Q ↔ W (pj lw) 20 39 L S k n H Q := W_goto rfl rfl
theorem w20_141 : W (pj lw) 20 141 L [] k n H Q ↔ Q none H := W_r rfl rfl
theorem c21 {x0 : Nat} {x1 : Int32} : Cl (pj lw) 21 [.ref x0, .int x1] H Q ↔ W (pj lw) 21 0 [.val (.ref x0), .val (.int x1), .unset, .unset, .unset, .unset, .unset, .unset, .unset] [] 0 0 H Q := cl_unf rfl
theorem w21_0 : W (pj lw) 21 0 L S k n H Q ↔ W (pj lw) 21 1 L (.int (-1) :: S) k n H Q := W_s rfl rfl rfl rfl
theorem w21_1 : W (pj lw) 21 1 (l0 :: l1 :: .unset :: L) (.int x :: S) k n H Q ↔ W (pj lw) 21 2 (l0 :: l1 :: .val (.int x) :: L) S k n H Q := W_istn (rfl : (pj lw).1 21 1 = some (.istore_n 2, 1, 0)) rfl rfl
theorem w21_2 : W (pj lw) 21 2 L S k n H Q ↔ W (pj lw) 21 3 L (.int 0 :: S) k n H Q := W_s rfl rfl rfl rfl
theorem w21_3 : W (pj lw) 21 3 (l0 :: l1 :: l2 :: .unset :: L) (.int x :: S) k n H Q ↔ W (pj lw) 21 4 (l0 :: l1 :: l2 :: .val (.int x) :: L) S k n H Q := W_istn (rfl : (pj lw).1 21 3 = some (.istore_n 3, 1, 0)) rfl rfl
theorem w21_4 : W (pj lw) 21 4 (l0 :: l1 :: l2 :: .val (.int x) :: L) S k n H Q ↔ W (pj lw) 21 5 (l0 :: l1 :: l2 :: .val (.int x) :: L) (.int x :: S) k n H Q := W_s rfl rfl rfl rfl
theorem w21_5 : W (pj lw) 21 5 (.val (.ref x) :: L) S k n H Q ↔ W (pj lw) 21 6 (.val (.ref x) :: L) (.ref x :: S) k n H Q := W_s rfl rfl rfl rfl
theorem w21_6 : W (pj lw) 21 6 L (.ref a :: S) k n H Q ↔ (isO H a = true ∧ W (pj lw) 21 9 L (fld H a 0 :: S) k n H Q) := W_getf (rfl : (pj lw).1 21 6 = some (.getfield 48, 3, 0))
theorem w21_9 : W (pj lw) 21 9 L (.int y :: .int x :: S) k n H Q ↔ (if x < y then W (pj lw) 21 12 L S k n H Q else W (pj lw) 21 64 L S k n H Q) := W_icmp_ge (rfl : (pj lw).1 21 9 = some (.if_icmp .ge 55, 3, 0)) rfl
theorem w21_12 : W (pj lw) 21 12 (.val (.ref x) :: L) S k n H Q ↔ W (pj lw) 21 13 (.val (.ref x) :: L) (.ref x :: S) k n H Q := W_s rfl rfl rfl rfl
theorem w21_13 : W (pj lw) 21 13 L (.ref a :: S) k n H Q ↔ (isO H a = true ∧ W (pj lw) 21 16 L (fld H a 12 :: S) k n H Q) := W_getf (rfl : (pj lw).1 21 13 = some (.getfield 30, 3, 12))
theorem w21_16 : W (pj lw) 21 16 (l0 :: .val (.int x) :: L) S k n H Q ↔ W (pj lw) 21 17 (l0 :: .val (.int x) :: L) (.int x :: S) k n H Q := W_s rfl rfl rfl rfl
theorem w21_17 : W (pj lw) 21 17 L S k n H Q ↔ W (pj lw) 21 19 L (.int 24 :: S) k n H Q := W_s rfl rfl rfl rfl
theorem w21_19 : W (pj lw) 21 19 L (.int y :: .int x :: S) k n H Q ↔ W (pj lw) 21 20 L (.int (x * y) :: S) k n H Q := W_s rfl rfl rfl rfl
theorem w21_20 : W (pj lw) 21 20 (l0 :: l1 :: l2 :: .val (.int x) :: L) S k n H Q ↔ W (pj lw) 21 21 (l0 :: l1 :: l2 :: .val (.int x) :: L) (.int x :: S) k n H Q := W_s rfl rfl rfl rfl
theorem w21_21 : W (pj lw) 21 21 L (.int y :: .int x :: S) k n H Q ↔ W (pj lw) 21 22 L (.int (x + y) :: S) k n H Q := W_s rfl rfl rfl rfl
theorem w21_22 : W (pj lw) 21 22 L (.int i :: .ref a :: S) k n H Q ↔ ((inA H a .byte i = true ∨ inA H a .boolean i = true) ∧ W (pj lw) 21 23 L (elt H a i :: S) k n H Q) := W_baload (rfl : (pj lw).1 21 22 = some (.baload, 1, 0))
theorem w21_23 : W (pj lw) 21 23 L (.int x :: S) k n H Q ↔ (if x = 0 then W (pj lw) 21 58 L S k n H Q else W (pj lw) 21 26 L S k n H Q) := W_if_eq (rfl : (pj lw).1 21 23 = some (.ifCond .eq 35, 3, 0)) rfl
theorem w21_26 : W (pj lw) 21 26 (.val (.ref x) :: L) S k n H Q ↔ W (pj lw) 21 27 (.val (.ref x) :: L) (.ref x :: S) k n H Q := W_s rfl rfl rfl rfl
theorem w21_27 : W (pj lw) 21 27 L (.ref a :: S) k n H Q ↔ (isO H a = true ∧ W (pj lw) 21 30 L (fld H a 14 :: S) k n H Q) := W_getf (rfl : (pj lw).1 21 27 = some (.getfield 36, 3, 14))
theorem w21_30 : W (pj lw) 21 30 (l0 :: l1 :: l2 :: .val (.int x) :: L) S k n H Q ↔ W (pj lw) 21 31 (l0 :: l1 :: l2 :: .val (.int x) :: L) (.int x :: S) k n H Q := W_s rfl rfl rfl rfl
theorem w21_31 : W (pj lw) 21 31 L (.int i :: .ref a :: S) k n H Q ↔ (inA H a .int i = true ∧ W (pj lw) 21 32 L (elt H a i :: S) k n H Q) := W_iaload (rfl : (pj lw).1 21 31 = some (.iaload, 1, 0))
theorem w21_32 : W (pj lw) 21 32 L (.int x :: S) k n H Q ↔ (if x < 0 then W (pj lw) 21 58 L S k n H Q else W (pj lw) 21 35 L S k n H Q) := W_if_lt (rfl : (pj lw).1 21 32 = some (.ifCond .lt 26, 3, 0)) rfl
theorem w21_35 : W (pj lw) 21 35 (.val (.ref x) :: L) S k n H Q ↔ W (pj lw) 21 36 (.val (.ref x) :: L) (.ref x :: S) k n H Q := W_s rfl rfl rfl rfl
theorem w21_36 : W (pj lw) 21 36 L (.ref a :: S) k n H Q ↔ (isO H a = true ∧ W (pj lw) 21 39 L (fld H a 14 :: S) k n H Q) := W_getf (rfl : (pj lw).1 21 36 = some (.getfield 36, 3, 14))
theorem w21_39 : W (pj lw) 21 39 (l0 :: l1 :: l2 :: .val (.int x) :: L) S k n H Q ↔ W (pj lw) 21 40 (l0 :: l1 :: l2 :: .val (.int x) :: L) (.int x :: S) k n H Q := W_s rfl rfl rfl rfl
theorem w21_40 : W (pj lw) 21 40 L (.int i :: .ref a :: S) k n H Q ↔ (inA H a .int i = true ∧ W (pj lw) 21 41 L (elt H a i :: S) k n H Q) := W_iaload (rfl : (pj lw).1 21 40 = some (.iaload, 1, 0))
theorem w21_41 : W (pj lw) 21 41 L S k n H Q ↔ W (pj lw) 21 42 L (.int 1 :: S) k n H Q := W_s rfl rfl rfl rfl
theorem w21_42 : W (pj lw) 21 42 L (.int y :: .int x :: S) k n H Q ↔ W (pj lw) 21 43 L (.int (x + y) :: S) k n H Q := W_s rfl rfl rfl rfl
theorem w21_43 : W (pj lw) 21 43 (l0 :: l1 :: l2 :: l3 :: .unset :: L) (.int x :: S) k n H Q ↔ W (pj lw) 21 45 (l0 :: l1 :: l2 :: l3 :: .val (.int x) :: L) S k n H Q := W_ist (rfl : (pj lw).1 21 43 = some (.istore 4, 2, 0)) rfl rfl
theorem w21_45 : W (pj lw) 21 45 (l0 :: l1 :: .val (.int x) :: L) S k n H Q ↔ W (pj lw) 21 46 (l0 :: l1 :: .val (.int x) :: L) (.int x :: S) k n H Q := W_s rfl rfl rfl rfl
theorem w21_46 : W (pj lw) 21 46 L (.int x :: S) k n H Q ↔ (if x < 0 then W (pj lw) 21 55 L S k n H Q else W (pj lw) 21 49 L S k n H Q) := W_if_lt (rfl : (pj lw).1 21 46 = some (.ifCond .lt 9, 3, 0)) rfl
theorem w21_49 : W (pj lw) 21 49 (l0 :: l1 :: l2 :: l3 :: .val (.int x) :: L) S k n H Q ↔ W (pj lw) 21 51 (l0 :: l1 :: l2 :: l3 :: .val (.int x) :: L) (.int x :: S) k n H Q := W_s rfl rfl rfl rfl
theorem w21_51 : W (pj lw) 21 51 (l0 :: l1 :: .val (.int x) :: L) S k n H Q ↔ W (pj lw) 21 52 (l0 :: l1 :: .val (.int x) :: L) (.int x :: S) k n H Q := W_s rfl rfl rfl rfl
theorem w21_52 : W (pj lw) 21 52 L (.int y :: .int x :: S) k n H Q ↔ (if x < y then W (pj lw) 21 55 L S k n H Q else W (pj lw) 21 58 L S k n H Q) := W_icmp_ge (rfl : (pj lw).1 21 52 = some (.if_icmp .ge 6, 3, 0)) rfl
theorem w21_55 : W (pj lw) 21 55 (l0 :: l1 :: l2 :: l3 :: .val (.int x) :: L) S k n H Q ↔ W (pj lw) 21 57 (l0 :: l1 :: l2 :: l3 :: .val (.int x) :: L) (.int x :: S) k n H Q := W_s rfl rfl rfl rfl
theorem w21_57i : W (pj lw) 21 57 (l0 :: l1 :: .val (.int y) :: L) (.int x :: S) k n H Q ↔ W (pj lw) 21 58 (l0 :: l1 :: .val (.int x) :: L) S k n H Q := W_istn (rfl : (pj lw).1 21 57 = some (.istore_n 2, 1, 0)) rfl rfl
theorem w21_58 : W (pj lw) 21 58 (l0 :: l1 :: l2 :: .val (.int x) :: L) S k n H Q ↔ W (pj lw) 21 61 (l0 :: l1 :: l2 :: .val (.int (x + 1)) :: L) S k n H Q := W_s rfl rfl rfl rfl
theorem w21_61 : W (pj lw) 21 61 L S k n H Q ↔ W (pj lw) 21 4 L S k n H Q := W_goto rfl rfl
theorem w21_64 : W (pj lw) 21 64 (l0 :: l1 :: .val (.int x) :: L) S k n H Q ↔ W (pj lw) 21 65 (l0 :: l1 :: .val (.int x) :: L) (.int x :: S) k n H Q := W_s rfl rfl rfl rfl
theorem w21_65 : W (pj lw) 21 65 L S k n H Q ↔ W (pj lw) 21 66 L (.int 1 :: S) k n H Q := W_s rfl rfl rfl rfl
theorem w21_66 : W (pj lw) 21 66 L (.int y :: .int x :: S) k n H Q ↔ (if x < y then W (pj lw) 21 69 L S k n H Q else W (pj lw) 21 71 L S k n H Q) := W_icmp_ge (rfl : (pj lw).1 21 66 = some (.if_icmp .ge 5, 3, 0)) rfl
theorem w21_71 : W (pj lw) 21 71 (l0 :: l1 :: .val (.int x) :: L) S k n H Q ↔ W (pj lw) 21 72 (l0 :: l1 :: .val (.int x) :: L) (.int x :: S) k n H Q := W_s rfl rfl rfl rfl
theorem w21_72 : W (pj lw) 21 72 (.val (.ref x) :: L) S k n H Q ↔ W (pj lw) 21 73 (.val (.ref x) :: L) (.ref x :: S) k n H Q := W_s rfl rfl rfl rfl
theorem w21_73 : W (pj lw) 21 73 L (.ref a :: S) k n H Q ↔ (isO H a = true ∧ W (pj lw) 21 76 L (fld H a 0 :: S) k n H Q) := W_getf (rfl : (pj lw).1 21 73 = some (.getfield 48, 3, 0))
theorem w21_76 : W (pj lw) 21 76 L (.int y :: .int x :: S) k n H Q ↔ (if y < x then W (pj lw) 21 79 L S k n H Q else W (pj lw) 21 84 L S k n H Q) := W_icmp_le (rfl : (pj lw).1 21 76 = some (.if_icmp .le 8, 3, 0)) rfl
theorem w21_84 : W (pj lw) 21 84 (.val (.ref x) :: L) S k n H Q ↔ W (pj lw) 21 85 (.val (.ref x) :: L) (.ref x :: S) k n H Q := W_s rfl rfl rfl rfl
theorem w21_85 : W (pj lw) 21 85 (l0 :: l1 :: .val (.int x) :: L) S k n H Q ↔ W (pj lw) 21 86 (l0 :: l1 :: .val (.int x) :: L) (.int x :: S) k n H Q := W_s rfl rfl rfl rfl
theorem w21_86 {a : Nat} {v : Value} : W (pj lw) 21 86 L (v :: .ref a :: S) k n H Q ↔ ((isOw H a = true ∧ okv (.int) v = true) ∧ W (pj lw) 21 89 L S k n (wr H a 6 v) Q) := W_putf (rfl : (pj lw).1 21 86 = some (.putfield 106, 3, 6))
theorem w21_89 : W (pj lw) 21 89 (.val (.ref x) :: L) S k n H Q ↔ W (pj lw) 21 90 (.val (.ref x) :: L) (.ref x :: S) k n H Q := W_s rfl rfl rfl rfl
theorem w21_90 : W (pj lw) 21 90 L (.ref a :: S) k n H Q ↔ (isO H a = true ∧ W (pj lw) 21 93 L (fld H a 8 :: S) k n H Q) := W_getf (rfl : (pj lw).1 21 90 = some (.getfield 17, 3, 8))
theorem w21_93 : W (pj lw) 21 93 L S k n H Q ↔ W (pj lw) 21 94 L (.int 0 :: S) k n H Q := W_s rfl rfl rfl rfl
theorem w21_94 : W (pj lw) 21 94 (l0 :: .val (.int x) :: L) S k n H Q ↔ W (pj lw) 21 95 (l0 :: .val (.int x) :: L) (.int x :: S) k n H Q := W_s rfl rfl rfl rfl
theorem w21_95 : W (pj lw) 21 95 L (.int x :: .int i :: .ref a :: S) k n H Q ↔ (inAw H a .int i = true ∧ W (pj lw) 21 96 L S k n (wr H a i.toNatClampNeg (.int x)) Q) := W_iastore (rfl : (pj lw).1 21 95 = some (.iastore, 1, 0))
theorem w21_96 : W (pj lw) 21 96 (l0 :: .val (.int x) :: L) S k n H Q ↔ W (pj lw) 21 97 (l0 :: .val (.int x) :: L) (.int x :: S) k n H Q := W_s rfl rfl rfl rfl
theorem w21_97i : W (pj lw) 21 97 (l0 :: l1 :: l2 :: .val (.int y) :: L) (.int x :: S) k n H Q ↔ W (pj lw) 21 98 (l0 :: l1 :: l2 :: .val (.int x) :: L) S k n H Q := W_istn (rfl : (pj lw).1 21 97 = some (.istore_n 3, 1, 0)) rfl rfl
theorem w21_98 : W (pj lw) 21 98 L S k n H Q ↔ W (pj lw) 21 99 L (.int 1 :: S) k n H Q := W_s rfl rfl rfl rfl
theorem w21_99 : W (pj lw) 21 99 (l0 :: l1 :: l2 :: l3 :: .unset :: L) (.int x :: S) k n H Q ↔ W (pj lw) 21 101 (l0 :: l1 :: l2 :: l3 :: .val (.int x) :: L) S k n H Q := W_ist (rfl : (pj lw).1 21 99 = some (.istore 4, 2, 0)) rfl rfl
theorem w21_101 : W (pj lw) 21 101 (l0 :: l1 :: l2 :: l3 :: .val (.int x) :: L) S k n H Q ↔ W (pj lw) 21 103 (l0 :: l1 :: l2 :: l3 :: .val (.int x) :: L) (.int x :: S) k n H Q := W_s rfl rfl rfl rfl
theorem w21_103 : W (pj lw) 21 103 (.val (.ref x) :: L) S k n H Q ↔ W (pj lw) 21 104 (.val (.ref x) :: L) (.ref x :: S) k n H Q := W_s rfl rfl rfl rfl
theorem w21_104 : W (pj lw) 21 104 L (.ref a :: S) k n H Q ↔ (isO H a = true ∧ W (pj lw) 21 107 L (fld H a 6 :: S) k n H Q) := W_getf (rfl : (pj lw).1 21 104 = some (.getfield 106, 3, 6))
theorem w21_107 : W (pj lw) 21 107 L (.int y :: .int x :: S) k n H Q ↔ (if x < y then W (pj lw) 21 110 L S k n H Q else W (pj lw) 21 190 L S k n H Q) := W_icmp_ge (rfl : (pj lw).1 21 107 = some (.if_icmp .ge 83, 3, 0)) rfl
theorem w21_110 : W (pj lw) 21 110 (.val (.ref x) :: L) S k n H Q ↔ W (pj lw) 21 111 (.val (.ref x) :: L) (.ref x :: S) k n H Q := W_s rfl rfl rfl rfl
theorem w21_111 : W (pj lw) 21 111 L (.ref a :: S) k n H Q ↔ (isO H a = true ∧ W (pj lw) 21 114 L (fld H a 6 :: S) k n H Q) := W_getf (rfl : (pj lw).1 21 111 = some (.getfield 106, 3, 6))
theorem w21_114 : W (pj lw) 21 114 (l0 :: l1 :: l2 :: l3 :: .val (.int x) :: L) S k n H Q ↔ W (pj lw) 21 116 (l0 :: l1 :: l2 :: l3 :: .val (.int x) :: L) (.int x :: S) k n H Q := W_s rfl rfl rfl rfl
theorem w21_116 : W (pj lw) 21 116 L (.int y :: .int x :: S) k n H Q ↔ W (pj lw) 21 117 L (.int (x - y) :: S) k n H Q := W_s rfl rfl rfl rfl
theorem w21_117 : W (pj lw) 21 117 (l0 :: l1 :: l2 :: l3 :: l4 :: .unset :: L) (.int x :: S) k n H Q ↔ W (pj lw) 21 119 (l0 :: l1 :: l2 :: l3 :: l4 :: .val (.int x) :: L) S k n H Q := W_ist (rfl : (pj lw).1 21 117 = some (.istore 5, 2, 0)) rfl rfl
theorem w21_119 : W (pj lw) 21 119 (l0 :: l1 :: l2 :: .val (.int x) :: L) S k n H Q ↔ W (pj lw) 21 120 (l0 :: l1 :: l2 :: .val (.int x) :: L) (.int x :: S) k n H Q := W_s rfl rfl rfl rfl
theorem w21_120 : W (pj lw) 21 120 (l0 :: l1 :: l2 :: l3 :: l4 :: l5 :: .unset :: L) (.int x :: S) k n H Q ↔ W (pj lw) 21 122 (l0 :: l1 :: l2 :: l3 :: l4 :: l5 :: .val (.int x) :: L) S k n H Q := W_ist (rfl : (pj lw).1 21 120 = some (.istore 6, 2, 0)) rfl rfl
theorem w21_122 : W (pj lw) 21 122 (.val (.ref x) :: L) S k n H Q ↔ W (pj lw) 21 123 (.val (.ref x) :: L) (.ref x :: S) k n H Q := W_s rfl rfl rfl rfl
theorem w21_123 : W (pj lw) 21 123 L (.ref a :: S) k n H Q ↔ (isO H a = true ∧ W (pj lw) 21 126 L (fld H a 0 :: S) k n H Q) := W_getf (rfl : (pj lw).1 21 123 = some (.getfield 48, 3, 0))
theorem w21_126 : W (pj lw) 21 126 L S k n H Q ↔ W (pj lw) 21 127 L (.int 1 :: S) k n H Q := W_s rfl rfl rfl rfl
theorem w21_127 : W (pj lw) 21 127 L (.int y :: .int x :: S) k n H Q ↔ W (pj lw) 21 128 L (.int (x - y) :: S) k n H Q := W_s rfl rfl rfl rfl
theorem w21_128 : W (pj lw) 21 128 (l0 :: l1 :: l2 :: l3 :: l4 :: l5 :: l6 :: .unset :: L) (.int x :: S) k n H Q ↔ W (pj lw) 21 130 (l0 :: l1 :: l2 :: l3 :: l4 :: l5 :: l6 :: .val (.int x) :: L) S k n H Q := W_ist (rfl : (pj lw).1 21 128 = some (.istore 7, 2, 0)) rfl rfl
theorem w21_130 : W (pj lw) 21 130 (l0 :: l1 :: l2 :: l3 :: l4 :: l5 :: l6 :: .val (.int x) :: L) S k n H Q ↔ W (pj lw) 21 132 (l0 :: l1 :: l2 :: l3 :: l4 :: l5 :: l6 :: .val (.int x) :: L) (.int x :: S) k n H Q := W_s rfl rfl rfl rfl
theorem w21_132 : W (pj lw) 21 132 L (.int x :: S) k n H Q ↔ (if x < 0 then W (pj lw) 21 172 L S k n H Q else W (pj lw) 21 135 L S k n H Q) := W_if_lt (rfl : (pj lw).1 21 132 = some (.ifCond .lt 40, 3, 0)) rfl
theorem w21_135 : W (pj lw) 21 135 (.val (.ref x) :: L) S k n H Q ↔ W (pj lw) 21 136 (.val (.ref x) :: L) (.ref x :: S) k n H Q := W_s rfl rfl rfl rfl
theorem w21_136 : W (pj lw) 21 136 L (.ref a :: S) k n H Q ↔ (isO H a = true ∧ W (pj lw) 21 139 L (fld H a 12 :: S) k n H Q) := W_getf (rfl : (pj lw).1 21 136 = some (.getfield 30, 3, 12))
theorem w21_139 : W (pj lw) 21 139 (l0 :: l1 :: l2 :: .val (.int x) :: L) S k n H Q ↔ W (pj lw) 21 140 (l0 :: l1 :: l2 :: .val (.int x) :: L) (.int x :: S) k n H Q := W_s rfl rfl rfl rfl
theorem w21_140 : W (pj lw) 21 140 L S k n H Q ↔ W (pj lw) 21 142 L (.int 24 :: S) k n H Q := W_s rfl rfl rfl rfl
theorem w21_142 : W (pj lw) 21 142 L (.int y :: .int x :: S) k n H Q ↔ W (pj lw) 21 143 L (.int (x * y) :: S) k n H Q := W_s rfl rfl rfl rfl
theorem w21_143 : W (pj lw) 21 143 (l0 :: l1 :: l2 :: l3 :: l4 :: l5 :: l6 :: .val (.int x) :: L) S k n H Q ↔ W (pj lw) 21 145 (l0 :: l1 :: l2 :: l3 :: l4 :: l5 :: l6 :: .val (.int x) :: L) (.int x :: S) k n H Q := W_s rfl rfl rfl rfl
theorem w21_145 : W (pj lw) 21 145 L (.int y :: .int x :: S) k n H Q ↔ W (pj lw) 21 146 L (.int (x + y) :: S) k n H Q := W_s rfl rfl rfl rfl
theorem w21_146 : W (pj lw) 21 146 L (.int i :: .ref a :: S) k n H Q ↔ ((inA H a .byte i = true ∨ inA H a .boolean i = true) ∧ W (pj lw) 21 147 L (elt H a i :: S) k n H Q) := W_baload (rfl : (pj lw).1 21 146 = some (.baload, 1, 0))
theorem w21_147 : W (pj lw) 21 147 L (.int x :: S) k n H Q ↔ (if x = 0 then W (pj lw) 21 166 L S k n H Q else W (pj lw) 21 150 L S k n H Q) := W_if_eq (rfl : (pj lw).1 21 147 = some (.ifCond .eq 19, 3, 0)) rfl
theorem w21_150 : W (pj lw) 21 150 (.val (.ref x) :: L) S k n H Q ↔ W (pj lw) 21 151 (.val (.ref x) :: L) (.ref x :: S) k n H Q := W_s rfl rfl rfl rfl
theorem w21_151 : W (pj lw) 21 151 L (.ref a :: S) k n H Q ↔ (isO H a = true ∧ W (pj lw) 21 154 L (fld H a 14 :: S) k n H Q) := W_getf (rfl : (pj lw).1 21 151 = some (.getfield 36, 3, 14))
theorem w21_154 : W (pj lw) 21 154 (l0 :: l1 :: l2 :: l3 :: l4 :: l5 :: l6 :: .val (.int x) :: L) S k n H Q ↔ W (pj lw) 21 156 (l0 :: l1 :: l2 :: l3 :: l4 :: l5 :: l6 :: .val (.int x) :: L) (.int x :: S) k n H Q := W_s rfl rfl rfl rfl
theorem w21_156 : W (pj lw) 21 156 L (.int i :: .ref a :: S) k n H Q ↔ (inA H a .int i = true ∧ W (pj lw) 21 157 L (elt H a i :: S) k n H Q) := W_iaload (rfl : (pj lw).1 21 156 = some (.iaload, 1, 0))
theorem w21_157 : W (pj lw) 21 157 (l0 :: l1 :: l2 :: l3 :: l4 :: .val (.int x) :: L) S k n H Q ↔ W (pj lw) 21 159 (l0 :: l1 :: l2 :: l3 :: l4 :: .val (.int x) :: L) (.int x :: S) k n H Q := W_s rfl rfl rfl rfl
theorem w21_159 : W (pj lw) 21 159 L (.int y :: .int x :: S) k n H Q ↔ (if x = y then W (pj lw) 21 162 L S k n H Q else W (pj lw) 21 166 L S k n H Q) := W_icmp_ne (rfl : (pj lw).1 21 159 = some (.if_icmp .ne 7, 3, 0)) rfl
theorem w21_162 : W (pj lw) 21 162 (l0 :: l1 :: l2 :: l3 :: l4 :: l5 :: l6 :: .val (.int x) :: L) S k n H Q ↔ W (pj lw) 21 164 (l0 :: l1 :: l2 :: l3 :: l4 :: l5 :: l6 :: .val (.int x) :: L) (.int x :: S) k n H Q := W_s rfl rfl rfl rfl
theorem w21_164i : W (pj lw) 21 164 (l0 :: l1 :: l2 :: l3 :: l4 :: l5 :: .val (.int y) :: L) (.int x :: S) k n H Q ↔ W (pj lw) 21 166 (l0 :: l1 :: l2 :: l3 :: l4 :: l5 :: .val (.int x) :: L) S k n H Q := W_ist (rfl : (pj lw).1 21 164 = some (.istore 6, 2, 0)) rfl rfl
theorem w21_166 : W (pj lw) 21 166 (l0 :: l1 :: l2 :: l3 :: l4 :: l5 :: l6 :: .val (.int x) :: L) S k n H Q ↔ W (pj lw) 21 169 (l0 :: l1 :: l2 :: l3 :: l4 :: l5 :: l6 :: .val (.int (x + (-1))) :: L) S k n H Q := W_s rfl rfl rfl rfl
theorem w21_169 : W (pj lw) 21 169 L S k n H Q ↔ W (pj lw) 21 130 L S k n H Q := W_goto rfl rfl
theorem w21_172 : W (pj lw) 21 172 (.val (.ref x) :: L) S k n H Q ↔ W (pj lw) 21 173 (.val (.ref x) :: L) (.ref x :: S) k n H Q := W_s rfl rfl rfl rfl
theorem w21_173 : W (pj lw) 21 173 L (.ref a :: S) k n H Q ↔ (isO H a = true ∧ W (pj lw) 21 176 L (fld H a 8 :: S) k n H Q) := W_getf (rfl : (pj lw).1 21 173 = some (.getfield 17, 3, 8))
theorem w21_176 : W (pj lw) 21 176 (l0 :: l1 :: l2 :: l3 :: .val (.int x) :: L) S k n H Q ↔ W (pj lw) 21 178 (l0 :: l1 :: l2 :: l3 :: .val (.int x) :: L) (.int x :: S) k n H Q := W_s rfl rfl rfl rfl
theorem w21_178 : W (pj lw) 21 178 (l0 :: l1 :: l2 :: l3 :: l4 :: l5 :: .val (.int x) :: L) S k n H Q ↔ W (pj lw) 21 180 (l0 :: l1 :: l2 :: l3 :: l4 :: l5 :: .val (.int x) :: L) (.int x :: S) k n H Q := W_s rfl rfl rfl rfl
theorem w21_180 : W (pj lw) 21 180 L (.int x :: .int i :: .ref a :: S) k n H Q ↔ (inAw H a .int i = true ∧ W (pj lw) 21 181 L S k n (wr H a i.toNatClampNeg (.int x)) Q) := W_iastore (rfl : (pj lw).1 21 180 = some (.iastore, 1, 0))
theorem w21_181 : W (pj lw) 21 181 (l0 :: l1 :: l2 :: l3 :: l4 :: l5 :: .val (.int x) :: L) S k n H Q ↔ W (pj lw) 21 183 (l0 :: l1 :: l2 :: l3 :: l4 :: l5 :: .val (.int x) :: L) (.int x :: S) k n H Q := W_s rfl rfl rfl rfl
theorem w21_183i : W (pj lw) 21 183 (l0 :: l1 :: l2 :: .val (.int y) :: L) (.int x :: S) k n H Q ↔ W (pj lw) 21 184 (l0 :: l1 :: l2 :: .val (.int x) :: L) S k n H Q := W_istn (rfl : (pj lw).1 21 183 = some (.istore_n 3, 1, 0)) rfl rfl
theorem w21_184 : W (pj lw) 21 184 (l0 :: l1 :: l2 :: l3 :: .val (.int x) :: L) S k n H Q ↔ W (pj lw) 21 187 (l0 :: l1 :: l2 :: l3 :: .val (.int (x + 1)) :: L) S k n H Q := W_s rfl rfl rfl rfl
theorem w21_187 : W (pj lw) 21 187 L S k n H Q ↔ W (pj lw) 21 101 L S k n H Q := W_goto rfl rfl
theorem w21_190 : W (pj lw) 21 190 L S k n H Q ↔ W (pj lw) 21 191 L (.long 0 :: S) k n H Q := W_s rfl rfl rfl rfl
theorem w21_191iu : W (pj lw) 21 191 (l0 :: l1 :: l2 :: l3 :: .val (.int y) :: .unset :: L) (.long x :: S) k n H Q ↔ W (pj lw) 21 193 (l0 :: l1 :: l2 :: l3 :: .val (.long x) :: .second :: L) S k n H Q := W_lst (rfl : (pj lw).1 21 191 = some (.lstore 4, 2, 0)) rfl rfl rfl rfl
theorem w21_193 : W (pj lw) 21 193 L S k n H Q ↔ W (pj lw) 21 194 L (.int 0 :: S) k n H Q := W_s rfl rfl rfl rfl
theorem w21_194 : W (pj lw) 21 194 (l0 :: l1 :: l2 :: l3 :: l4 :: l5 :: .unset :: L) (.int x :: S) k n H Q ↔ W (pj lw) 21 196 (l0 :: l1 :: l2 :: l3 :: l4 :: l5 :: .val (.int x) :: L) S k n H Q := W_ist (rfl : (pj lw).1 21 194 = some (.istore 6, 2, 0)) rfl rfl
theorem w21_196 : W (pj lw) 21 196 (l0 :: l1 :: l2 :: l3 :: l4 :: l5 :: .val (.int x) :: L) S k n H Q ↔ W (pj lw) 21 198 (l0 :: l1 :: l2 :: l3 :: l4 :: l5 :: .val (.int x) :: L) (.int x :: S) k n H Q := W_s rfl rfl rfl rfl
theorem w21_198 : W (pj lw) 21 198 (.val (.ref x) :: L) S k n H Q ↔ W (pj lw) 21 199 (.val (.ref x) :: L) (.ref x :: S) k n H Q := W_s rfl rfl rfl rfl
theorem w21_199 : W (pj lw) 21 199 L (.ref a :: S) k n H Q ↔ (isO H a = true ∧ W (pj lw) 21 202 L (fld H a 6 :: S) k n H Q) := W_getf (rfl : (pj lw).1 21 199 = some (.getfield 106, 3, 6))
theorem w21_202 : W (pj lw) 21 202 L (.int y :: .int x :: S) k n H Q ↔ (if x < y then W (pj lw) 21 205 L S k n H Q else W (pj lw) 21 255 L S k n H Q) := W_icmp_ge (rfl : (pj lw).1 21 202 = some (.if_icmp .ge 53, 3, 0)) rfl
theorem w21_205 : W (pj lw) 21 205 (.val (.ref x) :: L) S k n H Q ↔ W (pj lw) 21 206 (.val (.ref x) :: L) (.ref x :: S) k n H Q := W_s rfl rfl rfl rfl
theorem w21_206 : W (pj lw) 21 206 L (.ref a :: S) k n H Q ↔ (isO H a = true ∧ W (pj lw) 21 209 L (fld H a 8 :: S) k n H Q) := W_getf (rfl : (pj lw).1 21 206 = some (.getfield 17, 3, 8))
theorem w21_209 : W (pj lw) 21 209 (l0 :: l1 :: l2 :: l3 :: l4 :: l5 :: .val (.int x) :: L) S k n H Q ↔ W (pj lw) 21 211 (l0 :: l1 :: l2 :: l3 :: l4 :: l5 :: .val (.int x) :: L) (.int x :: S) k n H Q := W_s rfl rfl rfl rfl
theorem w21_211 : W (pj lw) 21 211 L (.int i :: .ref a :: S) k n H Q ↔ (inA H a .int i = true ∧ W (pj lw) 21 212 L (elt H a i :: S) k n H Q) := W_iaload (rfl : (pj lw).1 21 211 = some (.iaload, 1, 0))
theorem w21_212i : W (pj lw) 21 212 (l0 :: l1 :: l2 :: l3 :: l4 :: l5 :: l6 :: .val (.int y) :: L) (.int x :: S) k n H Q ↔ W (pj lw) 21 214 (l0 :: l1 :: l2 :: l3 :: l4 :: l5 :: l6 :: .val (.int x) :: L) S k n H Q := W_ist (rfl : (pj lw).1 21 212 = some (.istore 7, 2, 0)) rfl rfl
theorem w21_212 : W (pj lw) 21 212 (l0 :: l1 :: l2 :: l3 :: l4 :: l5 :: l6 :: .unset :: L) (.int x :: S) k n H Q ↔ W (pj lw) 21 214 (l0 :: l1 :: l2 :: l3 :: l4 :: l5 :: l6 :: .val (.int x) :: L) S k n H Q := W_ist (rfl : (pj lw).1 21 212 = some (.istore 7, 2, 0)) rfl rfl
theorem w21_214 : W (pj lw) 21 214 (.val (.ref x) :: L) S k n H Q ↔ W (pj lw) 21 215 (.val (.ref x) :: L) (.ref x :: S) k n H Q := W_s rfl rfl rfl rfl
theorem w21_215 : W (pj lw) 21 215 L (.ref a :: S) k n H Q ↔ (isO H a = true ∧ W (pj lw) 21 218 L (fld H a 8 :: S) k n H Q) := W_getf (rfl : (pj lw).1 21 215 = some (.getfield 17, 3, 8))
theorem w21_218 : W (pj lw) 21 218 (l0 :: l1 :: l2 :: l3 :: l4 :: l5 :: .val (.int x) :: L) S k n H Q ↔ W (pj lw) 21 220 (l0 :: l1 :: l2 :: l3 :: l4 :: l5 :: .val (.int x) :: L) (.int x :: S) k n H Q := W_s rfl rfl rfl rfl
theorem w21_220 : W (pj lw) 21 220 L S k n H Q ↔ W (pj lw) 21 221 L (.int 1 :: S) k n H Q := W_s rfl rfl rfl rfl
theorem w21_221 : W (pj lw) 21 221 L (.int y :: .int x :: S) k n H Q ↔ W (pj lw) 21 222 L (.int (x + y) :: S) k n H Q := W_s rfl rfl rfl rfl
theorem w21_222 : W (pj lw) 21 222 (.val (.ref x) :: L) S k n H Q ↔ W (pj lw) 21 223 (.val (.ref x) :: L) (.ref x :: S) k n H Q := W_s rfl rfl rfl rfl
theorem w21_223 : W (pj lw) 21 223 L (.ref a :: S) k n H Q ↔ (isO H a = true ∧ W (pj lw) 21 226 L (fld H a 6 :: S) k n H Q) := W_getf (rfl : (pj lw).1 21 223 = some (.getfield 106, 3, 6))
theorem w21_226 : W (pj lw) 21 226 L (.int y :: .int x :: S) k n H Q ↔ (¬ y = 0 ∧ W (pj lw) 21 227 L (.int (x % y) :: S) k n H Q) := W_irem (rfl : (pj lw).1 21 226 = some (.irem, 1, 0))
theorem w21_227 : W (pj lw) 21 227 L (.int i :: .ref a :: S) k n H Q ↔ (inA H a .int i = true ∧ W (pj lw) 21 228 L (elt H a i :: S) k n H Q) := W_iaload (rfl : (pj lw).1 21 227 = some (.iaload, 1, 0))
theorem w21_228i : W (pj lw) 21 228 (l0 :: l1 :: l2 :: l3 :: l4 :: l5 :: l6 :: l7 :: .val (.int y) :: L) (.int x :: S) k n H Q ↔ W (pj lw) 21 230 (l0 :: l1 :: l2 :: l3 :: l4 :: l5 :: l6 :: l7 :: .val (.int x) :: L) S k n H Q := W_ist (rfl : (pj lw).1 21 228 = some (.istore 8, 2, 0)) rfl rfl
theorem w21_228 : W (pj lw) 21 228 (l0 :: l1 :: l2 :: l3 :: l4 :: l5 :: l6 :: l7 :: .unset :: L) (.int x :: S) k n H Q ↔ W (pj lw) 21 230 (l0 :: l1 :: l2 :: l3 :: l4 :: l5 :: l6 :: l7 :: .val (.int x) :: L) S k n H Q := W_ist (rfl : (pj lw).1 21 228 = some (.istore 8, 2, 0)) rfl rfl
theorem w21_230 : W (pj lw) 21 230 (l0 :: l1 :: l2 :: l3 :: .val (.long x) :: L) S k n H Q ↔ W (pj lw) 21 232 (l0 :: l1 :: l2 :: l3 :: .val (.long x) :: L) (.long x :: S) k n H Q := W_s rfl rfl rfl rfl
theorem w21_232 : W (pj lw) 21 232 (.val (.ref x) :: L) S k n H Q ↔ W (pj lw) 21 233 (.val (.ref x) :: L) (.ref x :: S) k n H Q := W_s rfl rfl rfl rfl
theorem w21_233 : W (pj lw) 21 233 L (.ref a :: S) k n H Q ↔ (isO H a = true ∧ W (pj lw) 21 236 L (fld H a 3 :: S) k n H Q) := W_getf (rfl : (pj lw).1 21 233 = some (.getfield 13, 3, 3))
theorem w21_236 : W (pj lw) 21 236 (l0 :: l1 :: l2 :: l3 :: l4 :: l5 :: l6 :: .val (.int x) :: L) S k n H Q ↔ W (pj lw) 21 238 (l0 :: l1 :: l2 :: l3 :: l4 :: l5 :: l6 :: .val (.int x) :: L) (.int x :: S) k n H Q := W_s rfl rfl rfl rfl
theorem w21_238 : W (pj lw) 21 238 L S k n H Q ↔ W (pj lw) 21 240 L (.int 24 :: S) k n H Q := W_s rfl rfl rfl rfl
theorem w21_240 : W (pj lw) 21 240 L (.int y :: .int x :: S) k n H Q ↔ W (pj lw) 21 241 L (.int (x * y) :: S) k n H Q := W_s rfl rfl rfl rfl
theorem w21_241 : W (pj lw) 21 241 (l0 :: l1 :: l2 :: l3 :: l4 :: l5 :: l6 :: l7 :: .val (.int x) :: L) S k n H Q ↔ W (pj lw) 21 243 (l0 :: l1 :: l2 :: l3 :: l4 :: l5 :: l6 :: l7 :: .val (.int x) :: L) (.int x :: S) k n H Q := W_s rfl rfl rfl rfl
theorem w21_243 : W (pj lw) 21 243 L (.int y :: .int x :: S) k n H Q ↔ W (pj lw) 21 244 L (.int (x + y) :: S) k n H Q := W_s rfl rfl rfl rfl
theorem w21_244 : W (pj lw) 21 244 L (.int i :: .ref a :: S) k n H Q ↔ (inA H a .int i = true ∧ W (pj lw) 21 245 L (elt H a i :: S) k n H Q) := W_iaload (rfl : (pj lw).1 21 244 = some (.iaload, 1, 0))
theorem w21_245 : W (pj lw) 21 245 L (.int x :: S) k n H Q ↔ W (pj lw) 21 246 L (.long x.toInt64 :: S) k n H Q := W_s rfl rfl rfl rfl
theorem w21_246 : W (pj lw) 21 246 L (.long y :: .long x :: S) k n H Q ↔ W (pj lw) 21 247 L (.long (x + y) :: S) k n H Q := W_s rfl rfl rfl rfl
theorem w21_247j : W (pj lw) 21 247 (l0 :: l1 :: l2 :: l3 :: .val (.long y) :: .second :: L) (.long x :: S) k n H Q ↔ W (pj lw) 21 249 (l0 :: l1 :: l2 :: l3 :: .val (.long x) :: .second :: L) S k n H Q := W_lst' (rfl : (pj lw).1 21 247 = some (.lstore 4, 2, 0)) rfl rfl
theorem w21_249 : W (pj lw) 21 249 (l0 :: l1 :: l2 :: l3 :: l4 :: l5 :: .val (.int x) :: L) S k n H Q ↔ W (pj lw) 21 252 (l0 :: l1 :: l2 :: l3 :: l4 :: l5 :: .val (.int (x + 1)) :: L) S k n H Q := W_s rfl rfl rfl rfl
theorem w21_252 : W (pj lw) 21 252 L S k n H Q ↔ W (pj lw) 21 196 L S k n H Q := W_goto rfl rfl
theorem w21_255 : W (pj lw) 21 255 (.val (.ref x) :: L) S k n H Q ↔ W (pj lw) 21 256 (.val (.ref x) :: L) (.ref x :: S) k n H Q := W_s rfl rfl rfl rfl
theorem w21_256 : W (pj lw) 21 256 (l0 :: l1 :: l2 :: l3 :: .val (.long x) :: L) S k n H Q ↔ W (pj lw) 21 258 (l0 :: l1 :: l2 :: l3 :: .val (.long x) :: L) (.long x :: S) k n H Q := W_s rfl rfl rfl rfl
theorem w21_258 {a : Nat} {v : Value} : W (pj lw) 21 258 L (v :: .ref a :: S) k n H Q ↔ ((isOw H a = true ∧ okv (.long) v = true) ∧ W (pj lw) 21 261 L S k n (wr H a 7 v) Q) := W_putf (rfl : (pj lw).1 21 258 = some (.putfield 109, 3, 7))
theorem w21_261 : W (pj lw) 21 261 L [] k n H Q ↔ Q none H := W_r rfl rfl
theorem c22 {x0 : Nat} : Cl (pj lw) 22 [.ref x0] H Q ↔ W (pj lw) 22 0 [.val (.ref x0)] [] 0 0 H Q := cl_unf rfl
theorem w22_0 : W (pj lw) 22 0 (.val (.ref x) :: L) S k n H Q ↔ W (pj lw) 22 1 (.val (.ref x) :: L) (.ref x :: S) k n H Q := W_s rfl rfl rfl rfl
theorem w22_1 : W (pj lw) 22 1 L (.ref a :: S) k n H Q ↔ (isO H a = true ∧ W (pj lw) 22 4 L (fld H a 4 :: S) k n H Q) := W_getf (rfl : (pj lw).1 22 1 = some (.getfield 52, 3, 4))
theorem w22_4 : W (pj lw) 22 4 L (.int x :: S) k n H Q ↔ ((x = 0 ∨ x = 1) ∧ Q (some (.int x)) H) := W_rz rfl rfl
theorem c23 {x0 : Nat} : Cl (pj lw) 23 [.ref x0] H Q ↔ W (pj lw) 23 0 [.val (.ref x0)] [] 0 0 H Q := cl_unf rfl
theorem w23_0 : W (pj lw) 23 0 (.val (.ref x) :: L) S k n H Q ↔ W (pj lw) 23 1 (.val (.ref x) :: L) (.ref x :: S) k n H Q := W_s rfl rfl rfl rfl
theorem w23_1 : W (pj lw) 23 1 L (.ref a :: S) k n H Q ↔ (isO H a = true ∧ W (pj lw) 23 4 L (fld H a 4 :: S) k n H Q) := W_getf (rfl : (pj lw).1 23 1 = some (.getfield 52, 3, 4))
theorem w23_4 : W (pj lw) 23 4 L (.int x :: S) k n H Q ↔ (if x = 0 then W (pj lw) 23 18 L S k n H Q else W (pj lw) 23 7 L S k n H Q) := W_if_eq (rfl : (pj lw).1 23 4 = some (.ifCond .eq 14, 3, 0)) rfl
theorem w23_7 : W (pj lw) 23 7 (.val (.ref x) :: L) S k n H Q ↔ W (pj lw) 23 8 (.val (.ref x) :: L) (.ref x :: S) k n H Q := W_s rfl rfl rfl rfl
theorem w23_8 : W (pj lw) 23 8 L (.ref a :: S) k n H Q ↔ (isO H a = true ∧ W (pj lw) 23 11 L (fld H a 5 :: S) k n H Q) := W_getf (rfl : (pj lw).1 23 8 = some (.getfield 56, 3, 5))
theorem w23_11 : W (pj lw) 23 11 L (.int x :: S) k n H Q ↔ (if x = 0 then W (pj lw) 23 18 L S k n H Q else W (pj lw) 23 14 L S k n H Q) := W_if_eq (rfl : (pj lw).1 23 11 = some (.ifCond .eq 7, 3, 0)) rfl
theorem w23_14 : W (pj lw) 23 14 L S k n H Q ↔ W (pj lw) 23 15 L (.int 1 :: S) k n H Q := W_s rfl rfl rfl rfl
theorem w23_15 : W (pj lw) 23 15 L S k n H Q ↔ W (pj lw) 23 19 L S k n H Q := W_goto rfl rfl
theorem w23_18 : W (pj lw) 23 18 L S k n H Q ↔ W (pj lw) 23 19 L (.int 0 :: S) k n H Q := W_s rfl rfl rfl rfl
theorem w23_19 : W (pj lw) 23 19 L (.int x :: S) k n H Q ↔ ((x = 0 ∨ x = 1) ∧ Q (some (.int x)) H) := W_rz rfl rfl
theorem c24 {x0 : Nat} : Cl (pj lw) 24 [.ref x0] H Q ↔ W (pj lw) 24 0 [.val (.ref x0)] [] 0 0 H Q := cl_unf rfl
theorem w24_0 : W (pj lw) 24 0 (.val (.ref x) :: L) S k n H Q ↔ W (pj lw) 24 1 (.val (.ref x) :: L) (.ref x :: S) k n H Q := W_s rfl rfl rfl rfl
theorem w24_1 : W (pj lw) 24 1 L (.ref a :: S) k n H Q ↔ ((isO H a = true ∧ cs S + (1 + 11) + 0 ≤ 12) ∧ Cl (pj lw) 23 [.ref a] H (fun v H => W (pj lw) 24 4 L (v.toList ++ S) k n H Q)) := W_inst (as := []) (rfl : (pj lw).1 24 1 = some (.invokevirtual 125, 3, 23)) rfl rfl rfl (Nat.le_of_ble_eq_true rfl) (Nat.le_of_ble_eq_true rfl) ⟨rfl, rfl⟩
theorem w24_4 : W (pj lw) 24 4 L (.int x :: S) k n H Q ↔ (if x = 0 then W (pj lw) 24 14 L S k n H Q else W (pj lw) 24 7 L S k n H Q) := W_if_eq (rfl : (pj lw).1 24 4 = some (.ifCond .eq 10, 3, 0)) rfl
theorem w24_7 : W (pj lw) 24 7 (.val (.ref x) :: L) S k n H Q ↔ W (pj lw) 24 8 (.val (.ref x) :: L) (.ref x :: S) k n H Q := W_s rfl rfl rfl rfl
theorem w24_8 : W (pj lw) 24 8 L (.ref a :: S) k n H Q ↔ (isO H a = true ∧ W (pj lw) 24 11 L (fld H a 6 :: S) k n H Q) := W_getf (rfl : (pj lw).1 24 8 = some (.getfield 106, 3, 6))
theorem w24_11 : W (pj lw) 24 11 L S k n H Q ↔ W (pj lw) 24 15 L S k n H Q := W_goto rfl rfl
theorem w24_14 : W (pj lw) 24 14 L S k n H Q ↔ W (pj lw) 24 15 L (.int 0 :: S) k n H Q := W_s rfl rfl rfl rfl
theorem w24_15 : W (pj lw) 24 15 L (.int x :: S) k n H Q ↔ Q (some (.int x)) H := W_r rfl rfl
theorem c25 {x0 : Nat} : Cl (pj lw) 25 [.ref x0] H Q ↔ W (pj lw) 25 0 [.val (.ref x0)] [] 0 0 H Q := cl_unf rfl
theorem w25_0 : W (pj lw) 25 0 (.val (.ref x) :: L) S k n H Q ↔ W (pj lw) 25 1 (.val (.ref x) :: L) (.ref x :: S) k n H Q := W_s rfl rfl rfl rfl
theorem w25_1 : W (pj lw) 25 1 L (.ref a :: S) k n H Q ↔ ((isO H a = true ∧ cs S + (1 + 11) + 0 ≤ 12) ∧ Cl (pj lw) 23 [.ref a] H (fun v H => W (pj lw) 25 4 L (v.toList ++ S) k n H Q)) := W_inst (as := []) (rfl : (pj lw).1 25 1 = some (.invokevirtual 125, 3, 23)) rfl rfl rfl (Nat.le_of_ble_eq_true rfl) (Nat.le_of_ble_eq_true rfl) ⟨rfl, rfl⟩
theorem w25_4 : W (pj lw) 25 4 L (.int x :: S) k n H Q ↔ (if x = 0 then W (pj lw) 25 14 L S k n H Q else W (pj lw) 25 7 L S k n H Q) := W_if_eq (rfl : (pj lw).1 25 4 = some (.ifCond .eq 10, 3, 0)) rfl
theorem w25_7 : W (pj lw) 25 7 (.val (.ref x) :: L) S k n H Q ↔ W (pj lw) 25 8 (.val (.ref x) :: L) (.ref x :: S) k n H Q := W_s rfl rfl rfl rfl
theorem w25_8 : W (pj lw) 25 8 L (.ref a :: S) k n H Q ↔ (isO H a = true ∧ W (pj lw) 25 11 L (fld H a 7 :: S) k n H Q) := W_getf (rfl : (pj lw).1 25 8 = some (.getfield 109, 3, 7))
theorem w25_11 : W (pj lw) 25 11 L S k n H Q ↔ W (pj lw) 25 15 L S k n H Q := W_goto rfl rfl
theorem w25_14 : W (pj lw) 25 14 L S k n H Q ↔ W (pj lw) 25 15 L (.long 0 :: S) k n H Q := W_s rfl rfl rfl rfl
theorem w25_15 : W (pj lw) 25 15 L (.long x :: S) k n H Q ↔ Q (some (.long x)) H := W_r rfl rfl
theorem c26 {x0 : Nat} {x1 : Int32} : Cl (pj lw) 26 [.ref x0, .int x1] H Q ↔ W (pj lw) 26 0 [.val (.ref x0), .val (.int x1)] [] 0 0 H Q := cl_unf rfl
theorem w26_0 : W (pj lw) 26 0 (.val (.ref x) :: L) S k n H Q ↔ W (pj lw) 26 1 (.val (.ref x) :: L) (.ref x :: S) k n H Q := W_s rfl rfl rfl rfl
theorem w26_1 : W (pj lw) 26 1 L (.ref a :: S) k n H Q ↔ ((isO H a = true ∧ cs S + (1 + 11) + 0 ≤ 12) ∧ Cl (pj lw) 23 [.ref a] H (fun v H => W (pj lw) 26 4 L (v.toList ++ S) k n H Q)) := W_inst (as := []) (rfl : (pj lw).1 26 1 = some (.invokevirtual 125, 3, 23)) rfl rfl rfl (Nat.le_of_ble_eq_true rfl) (Nat.le_of_ble_eq_true rfl) ⟨rfl, rfl⟩
theorem w26_4 : W (pj lw) 26 4 L (.int x :: S) k n H Q ↔ (if x = 0 then W (pj lw) 26 19 L S k n H Q else W (pj lw) 26 7 L S k n H Q) := W_if_eq (rfl : (pj lw).1 26 4 = some (.ifCond .eq 15, 3, 0)) rfl
theorem w26_7 : W (pj lw) 26 7 (l0 :: .val (.int x) :: L) S k n H Q ↔ W (pj lw) 26 8 (l0 :: .val (.int x) :: L) (.int x :: S) k n H Q := W_s rfl rfl rfl rfl
theorem w26_8 : W (pj lw) 26 8 L (.int x :: S) k n H Q ↔ (if x < 0 then W (pj lw) 26 19 L S k n H Q else W (pj lw) 26 11 L S k n H Q) := W_if_lt (rfl : (pj lw).1 26 8 = some (.ifCond .lt 11, 3, 0)) rfl
theorem w26_11 : W (pj lw) 26 11 (l0 :: .val (.int x) :: L) S k n H Q ↔ W (pj lw) 26 12 (l0 :: .val (.int x) :: L) (.int x :: S) k n H Q := W_s rfl rfl rfl rfl
theorem w26_12 : W (pj lw) 26 12 (.val (.ref x) :: L) S k n H Q ↔ W (pj lw) 26 13 (.val (.ref x) :: L) (.ref x :: S) k n H Q := W_s rfl rfl rfl rfl
theorem w26_13 : W (pj lw) 26 13 L (.ref a :: S) k n H Q ↔ (isO H a = true ∧ W (pj lw) 26 16 L (fld H a 6 :: S) k n H Q) := W_getf (rfl : (pj lw).1 26 13 = some (.getfield 106, 3, 6))
theorem w26_16 : W (pj lw) 26 16 L (.int y :: .int x :: S) k n H Q ↔ (if x < y then W (pj lw) 26 21 L S k n H Q else W (pj lw) 26 19 L S k n H Q) := W_icmp_lt (rfl : (pj lw).1 26 16 = some (.if_icmp .lt 5, 3, 0)) rfl
theorem w26_19 : W (pj lw) 26 19 L S k n H Q ↔ W (pj lw) 26 20 L (.int (-1) :: S) k n H Q := W_s rfl rfl rfl rfl
theorem w26_20 : W (pj lw) 26 20 L (.int x :: S) k n H Q ↔ Q (some (.int x)) H := W_r rfl rfl
theorem w26_21 : W (pj lw) 26 21 (.val (.ref x) :: L) S k n H Q ↔ W (pj lw) 26 22 (.val (.ref x) :: L) (.ref x :: S) k n H Q := W_s rfl rfl rfl rfl
theorem w26_22 : W (pj lw) 26 22 L (.ref a :: S) k n H Q ↔ (isO H a = true ∧ W (pj lw) 26 25 L (fld H a 8 :: S) k n H Q) := W_getf (rfl : (pj lw).1 26 22 = some (.getfield 17, 3, 8))
theorem w26_25 : W (pj lw) 26 25 (l0 :: .val (.int x) :: L) S k n H Q ↔ W (pj lw) 26 26 (l0 :: .val (.int x) :: L) (.int x :: S) k n H Q := W_s rfl rfl rfl rfl
theorem w26_26 : W (pj lw) 26 26 L (.int i :: .ref a :: S) k n H Q ↔ (inA H a .int i = true ∧ W (pj lw) 26 27 L (elt H a i :: S) k n H Q) := W_iaload (rfl : (pj lw).1 26 26 = some (.iaload, 1, 0))
theorem w26_27 : W (pj lw) 26 27 L (.int x :: S) k n H Q ↔ Q (some (.int x)) H := W_r rfl rfl
theorem c27 {x0 : Nat} {x1 : Int32} : Cl (pj lw) 27 [.ref x0, .int x1] H Q ↔ W (pj lw) 27 0 [.val (.ref x0), .val (.int x1)] [] 0 0 H Q := cl_unf rfl
theorem w27_0 : W (pj lw) 27 0 (.val (.ref x) :: L) S k n H Q ↔ W (pj lw) 27 1 (.val (.ref x) :: L) (.ref x :: S) k n H Q := W_s rfl rfl rfl rfl
theorem w27_1 : W (pj lw) 27 1 L (.ref a :: S) k n H Q ↔ ((isO H a = true ∧ cs S + (1 + 11) + 0 ≤ 13) ∧ Cl (pj lw) 23 [.ref a] H (fun v H => W (pj lw) 27 4 L (v.toList ++ S) k n H Q)) := W_inst (as := []) (rfl : (pj lw).1 27 1 = some (.invokevirtual 125, 3, 23)) rfl rfl rfl (Nat.le_of_ble_eq_true rfl) (Nat.le_of_ble_eq_true rfl) ⟨rfl, rfl⟩
theorem w27_4 : W (pj lw) 27 4 L (.int x :: S) k n H Q ↔ (if x = 0 then W (pj lw) 27 28 L S k n H Q else W (pj lw) 27 7 L S k n H Q) := W_if_eq (rfl : (pj lw).1 27 4 = some (.ifCond .eq 24, 3, 0)) rfl
theorem w27_7 : W (pj lw) 27 7 (.val (.ref x) :: L) S k n H Q ↔ W (pj lw) 27 8 (.val (.ref x) :: L) (.ref x :: S) k n H Q := W_s rfl rfl rfl rfl
theorem w27_8 : W (pj lw) 27 8 (l0 :: .val (.int x) :: L) S k n H Q ↔ W (pj lw) 27 9 (l0 :: .val (.int x) :: L) (.int x :: S) k n H Q := W_s rfl rfl rfl rfl
theorem w27_9 : W (pj lw) 27 9 L (.int x0 :: .ref a :: S) k n H Q ↔ ((isO H a = true ∧ cs S + (2 + 11) + 0 ≤ 13) ∧ Cl (pj lw) 2 [.ref a, .int x0] H (fun v H => W (pj lw) 27 12 L (v.toList ++ S) k n H Q)) := W_inst (as := [.int x0]) (rfl : (pj lw).1 27 9 = some (.invokevirtual 59, 3, 2)) rfl rfl rfl (Nat.le_of_ble_eq_true rfl) (Nat.le_of_ble_eq_true rfl) ⟨rfl, rfl⟩
theorem w27_12 : W (pj lw) 27 12 L (.int x :: S) k n H Q ↔ (if x = 0 then W (pj lw) 27 28 L S k n H Q else W (pj lw) 27 15 L S k n H Q) := W_if_eq (rfl : (pj lw).1 27 12 = some (.ifCond .eq 16, 3, 0)) rfl
theorem w27_15 : W (pj lw) 27 15 (.val (.ref x) :: L) S k n H Q ↔ W (pj lw) 27 16 (.val (.ref x) :: L) (.ref x :: S) k n H Q := W_s rfl rfl rfl rfl
theorem w27_16 : W (pj lw) 27 16 L (.ref a :: S) k n H Q ↔ (isO H a = true ∧ W (pj lw) 27 19 L (fld H a 9 :: S) k n H Q) := W_getf (rfl : (pj lw).1 27 16 = some (.getfield 20, 3, 9))
theorem w27_19 : W (pj lw) 27 19 (l0 :: .val (.int x) :: L) S k n H Q ↔ W (pj lw) 27 20 (l0 :: .val (.int x) :: L) (.int x :: S) k n H Q := W_s rfl rfl rfl rfl
theorem w27_20 : W (pj lw) 27 20 L (.int i :: .ref a :: S) k n H Q ↔ ((inA H a .byte i = true ∨ inA H a .boolean i = true) ∧ W (pj lw) 27 21 L (elt H a i :: S) k n H Q) := W_baload (rfl : (pj lw).1 27 20 = some (.baload, 1, 0))
theorem w27_21 : W (pj lw) 27 21 L (.int x :: S) k n H Q ↔ (if x = 0 then W (pj lw) 27 28 L S k n H Q else W (pj lw) 27 24 L S k n H Q) := W_if_eq (rfl : (pj lw).1 27 21 = some (.ifCond .eq 7, 3, 0)) rfl
theorem w27_24 : W (pj lw) 27 24 L S k n H Q ↔ W (pj lw) 27 25 L (.int 1 :: S) k n H Q := W_s rfl rfl rfl rfl
theorem w27_25 : W (pj lw) 27 25 L S k n H Q ↔ W (pj lw) 27 29 L S k n H Q := W_goto rfl rfl
theorem w27_28 : W (pj lw) 27 28 L S k n H Q ↔ W (pj lw) 27 29 L (.int 0 :: S) k n H Q := W_s rfl rfl rfl rfl
theorem w27_29 : W (pj lw) 27 29 L (.int x :: S) k n H Q ↔ ((x = 0 ∨ x = 1) ∧ Q (some (.int x)) H) := W_rz rfl rfl
theorem c28 {x0 : Nat} {x1 : Int32} : Cl (pj lw) 28 [.ref x0, .int x1] H Q ↔ W (pj lw) 28 0 [.val (.ref x0), .val (.int x1)] [] 0 0 H Q := cl_unf rfl
theorem w28_0 : W (pj lw) 28 0 (.val (.ref x) :: L) S k n H Q ↔ W (pj lw) 28 1 (.val (.ref x) :: L) (.ref x :: S) k n H Q := W_s rfl rfl rfl rfl
theorem w28_1 : W (pj lw) 28 1 L (.ref a :: S) k n H Q ↔ ((isO H a = true ∧ cs S + (1 + 11) + 0 ≤ 13) ∧ Cl (pj lw) 23 [.ref a] H (fun v H => W (pj lw) 28 4 L (v.toList ++ S) k n H Q)) := W_inst (as := []) (rfl : (pj lw).1 28 1 = some (.invokevirtual 125, 3, 23)) rfl rfl rfl (Nat.le_of_ble_eq_true rfl) (Nat.le_of_ble_eq_true rfl) ⟨rfl, rfl⟩
theorem w28_4 : W (pj lw) 28 4 L (.int x :: S) k n H Q ↔ (if x = 0 then W (pj lw) 28 15 L S k n H Q else W (pj lw) 28 7 L S k n H Q) := W_if_eq (rfl : (pj lw).1 28 4 = some (.ifCond .eq 11, 3, 0)) rfl
theorem w28_7 : W (pj lw) 28 7 (.val (.ref x) :: L) S k n H Q ↔ W (pj lw) 28 8 (.val (.ref x) :: L) (.ref x :: S) k n H Q := W_s rfl rfl rfl rfl
theorem w28_8 : W (pj lw) 28 8 (l0 :: .val (.int x) :: L) S k n H Q ↔ W (pj lw) 28 9 (l0 :: .val (.int x) :: L) (.int x :: S) k n H Q := W_s rfl rfl rfl rfl
theorem w28_9 : W (pj lw) 28 9 L (.int x0 :: .ref a :: S) k n H Q ↔ ((isO H a = true ∧ cs S + (2 + 11) + 0 ≤ 13) ∧ Cl (pj lw) 2 [.ref a, .int x0] H (fun v H => W (pj lw) 28 12 L (v.toList ++ S) k n H Q)) := W_inst (as := [.int x0]) (rfl : (pj lw).1 28 9 = some (.invokevirtual 59, 3, 2)) rfl rfl rfl (Nat.le_of_ble_eq_true rfl) (Nat.le_of_ble_eq_true rfl) ⟨rfl, rfl⟩
theorem w28_12 : W (pj lw) 28 12 L (.int x :: S) k n H Q ↔ (if x = 0 then W (pj lw) 28 15 L S k n H Q else W (pj lw) 28 17 L S k n H Q) := W_if_ne (rfl : (pj lw).1 28 12 = some (.ifCond .ne 5, 3, 0)) rfl
theorem w28_15 : W (pj lw) 28 15 L S k n H Q ↔ W (pj lw) 28 16 L (.long 0 :: S) k n H Q := W_s rfl rfl rfl rfl
theorem w28_16 : W (pj lw) 28 16 L (.long x :: S) k n H Q ↔ Q (some (.long x)) H := W_r rfl rfl
theorem w28_17 : W (pj lw) 28 17 (.val (.ref x) :: L) S k n H Q ↔ W (pj lw) 28 18 (.val (.ref x) :: L) (.ref x :: S) k n H Q := W_s rfl rfl rfl rfl
theorem w28_18 : W (pj lw) 28 18 L (.ref a :: S) k n H Q ↔ (isO H a = true ∧ W (pj lw) 28 21 L (fld H a 10 :: S) k n H Q) := W_getf (rfl : (pj lw).1 28 18 = some (.getfield 23, 3, 10))
theorem w28_21 : W (pj lw) 28 21 (l0 :: .val (.int x) :: L) S k n H Q ↔ W (pj lw) 28 22 (l0 :: .val (.int x) :: L) (.int x :: S) k n H Q := W_s rfl rfl rfl rfl
theorem w28_22 : W (pj lw) 28 22 L (.int i :: .ref a :: S) k n H Q ↔ (inA H a .long i = true ∧ W (pj lw) 28 23 L (elt H a i :: S) k n H Q) := W_laload (rfl : (pj lw).1 28 22 = some (.laload, 1, 0))
theorem w28_23 : W (pj lw) 28 23 L (.long x :: S) k n H Q ↔ Q (some (.long x)) H := W_r rfl rfl
theorem c29 {x0 : Nat} {x1 : Int32} {x2 : Int32} : Cl (pj lw) 29 [.ref x0, .int x1, .int x2] H Q ↔ W (pj lw) 29 0 [.val (.ref x0), .val (.int x1), .val (.int x2)] [] 0 0 H Q := cl_unf rfl
theorem w29_0 : W (pj lw) 29 0 (.val (.ref x) :: L) S k n H Q ↔ W (pj lw) 29 1 (.val (.ref x) :: L) (.ref x :: S) k n H Q := W_s rfl rfl rfl rfl
theorem w29_1 : W (pj lw) 29 1 L (.ref a :: S) k n H Q ↔ ((isO H a = true ∧ cs S + (1 + 11) + 0 ≤ 27) ∧ Cl (pj lw) 23 [.ref a] H (fun v H => W (pj lw) 29 4 L (v.toList ++ S) k n H Q)) := W_inst (as := []) (rfl : (pj lw).1 29 1 = some (.invokevirtual 125, 3, 23)) rfl rfl rfl (Nat.le_of_ble_eq_true rfl) (Nat.le_of_ble_eq_true rfl) ⟨rfl, rfl⟩
theorem w29_4 : W (pj lw) 29 4 L (.int x :: S) k n H Q ↔ (if x = 0 then W (pj lw) 29 16 L S k n H Q else W (pj lw) 29 7 L S k n H Q) := W_if_eq (rfl : (pj lw).1 29 4 = some (.ifCond .eq 12, 3, 0)) rfl
theorem w29_7 : W (pj lw) 29 7 (.val (.ref x) :: L) S k n H Q ↔ W (pj lw) 29 8 (.val (.ref x) :: L) (.ref x :: S) k n H Q := W_s rfl rfl rfl rfl
theorem w29_8 : W (pj lw) 29 8 (l0 :: .val (.int x) :: L) S k n H Q ↔ W (pj lw) 29 9 (l0 :: .val (.int x) :: L) (.int x :: S) k n H Q := W_s rfl rfl rfl rfl
theorem w29_9 : W (pj lw) 29 9 (l0 :: l1 :: .val (.int x) :: L) S k n H Q ↔ W (pj lw) 29 10 (l0 :: l1 :: .val (.int x) :: L) (.int x :: S) k n H Q := W_s rfl rfl rfl rfl
theorem w29_10 : W (pj lw) 29 10 L (.int x1 :: .int x0 :: .ref a :: S) k n H Q ↔ ((isO H a = true ∧ cs S + (3 + 11) + 13 ≤ 27) ∧ Cl (pj lw) 8 [.ref a, .int x0, .int x1] H (fun v H => W (pj lw) 29 13 L (v.toList ++ S) k n H Q)) := W_inst (as := [.int x0, .int x1]) (rfl : (pj lw).1 29 10 = some (.invokevirtual 72, 3, 8)) rfl rfl rfl (Nat.le_of_ble_eq_true rfl) (Nat.le_of_ble_eq_true rfl) ⟨rfl, rfl⟩
theorem w29_13 : W (pj lw) 29 13 L (.int x :: S) k n H Q ↔ (if x = 0 then W (pj lw) 29 16 L S k n H Q else W (pj lw) 29 20 L S k n H Q) := W_if_ne (rfl : (pj lw).1 29 13 = some (.ifCond .ne 7, 3, 0)) rfl
theorem w29_16 : W (pj lw) 29 16 L S k n H Q ↔ W (pj lw) 29 19 L (.long (-1) :: S) k n H Q := W_s rfl rfl rfl rfl
theorem w29_19 : W (pj lw) 29 19 L (.long x :: S) k n H Q ↔ Q (some (.long x)) H := W_r rfl rfl
theorem w29_20 : W (pj lw) 29 20 (.val (.ref x) :: L) S k n H Q ↔ W (pj lw) 29 21 (.val (.ref x) :: L) (.ref x :: S) k n H Q := W_s rfl rfl rfl rfl
theorem w29_21 : W (pj lw) 29 21 L (.ref a :: S) k n H Q ↔ (isO H a = true ∧ W (pj lw) 29 24 L (fld H a 6 :: S) k n H Q) := W_getf (rfl : (pj lw).1 29 21 = some (.getfield 106, 3, 6))
theorem w29_24 : W (pj lw) 29 24 L (.int x :: S) k n H Q ↔ W (pj lw) 29 25 L (.long x.toInt64 :: S) k n H Q := W_s rfl rfl rfl rfl
theorem w29_25 : W (pj lw) 29 25 (.val (.ref x) :: L) S k n H Q ↔ W (pj lw) 29 26 (.val (.ref x) :: L) (.ref x :: S) k n H Q := W_s rfl rfl rfl rfl
theorem w29_26 : W (pj lw) 29 26 L (.ref a :: S) k n H Q ↔ (isO H a = true ∧ W (pj lw) 29 29 L (fld H a 3 :: S) k n H Q) := W_getf (rfl : (pj lw).1 29 26 = some (.getfield 13, 3, 3))
theorem w29_29 : W (pj lw) 29 29 (l0 :: .val (.int x) :: L) S k n H Q ↔ W (pj lw) 29 30 (l0 :: .val (.int x) :: L) (.int x :: S) k n H Q := W_s rfl rfl rfl rfl
theorem w29_30 : W (pj lw) 29 30 L S k n H Q ↔ W (pj lw) 29 32 L (.int 24 :: S) k n H Q := W_s rfl rfl rfl rfl
theorem w29_32 : W (pj lw) 29 32 L (.int y :: .int x :: S) k n H Q ↔ W (pj lw) 29 33 L (.int (x * y) :: S) k n H Q := W_s rfl rfl rfl rfl
theorem w29_33 : W (pj lw) 29 33 (l0 :: l1 :: .val (.int x) :: L) S k n H Q ↔ W (pj lw) 29 34 (l0 :: l1 :: .val (.int x) :: L) (.int x :: S) k n H Q := W_s rfl rfl rfl rfl
theorem w29_34 : W (pj lw) 29 34 L (.int y :: .int x :: S) k n H Q ↔ W (pj lw) 29 35 L (.int (x + y) :: S) k n H Q := W_s rfl rfl rfl rfl
theorem w29_35 : W (pj lw) 29 35 L (.int i :: .ref a :: S) k n H Q ↔ (inA H a .int i = true ∧ W (pj lw) 29 36 L (elt H a i :: S) k n H Q) := W_iaload (rfl : (pj lw).1 29 35 = some (.iaload, 1, 0))
theorem w29_36 : W (pj lw) 29 36 L (.int x :: S) k n H Q ↔ W (pj lw) 29 37 L (.long x.toInt64 :: S) k n H Q := W_s rfl rfl rfl rfl
theorem w29_37 : W (pj lw) 29 37 L (.long y :: .long x :: S) k n H Q ↔ W (pj lw) 29 38 L (.long (x * y) :: S) k n H Q := W_s rfl rfl rfl rfl
theorem w29_38 : W (pj lw) 29 38 (.val (.ref x) :: L) S k n H Q ↔ W (pj lw) 29 39 (.val (.ref x) :: L) (.ref x :: S) k n H Q := W_s rfl rfl rfl rfl
theorem w29_39 : W (pj lw) 29 39 L (.ref a :: S) k n H Q ↔ (isO H a = true ∧ W (pj lw) 29 42 L (fld H a 7 :: S) k n H Q) := W_getf (rfl : (pj lw).1 29 39 = some (.getfield 109, 3, 7))
theorem w29_42 : W (pj lw) 29 42 L (.long y :: .long x :: S) k n H Q ↔ W (pj lw) 29 43 L (.long (x - y) :: S) k n H Q := W_s rfl rfl rfl rfl
theorem w29_43 : W (pj lw) 29 43 (.val (.ref x) :: L) S k n H Q ↔ W (pj lw) 29 44 (.val (.ref x) :: L) (.ref x :: S) k n H Q := W_s rfl rfl rfl rfl
theorem w29_44 : W (pj lw) 29 44 L (.ref a :: S) k n H Q ↔ (isO H a = true ∧ W (pj lw) 29 47 L (fld H a 10 :: S) k n H Q) := W_getf (rfl : (pj lw).1 29 44 = some (.getfield 23, 3, 10))
theorem w29_47 : W (pj lw) 29 47 (l0 :: .val (.int x) :: L) S k n H Q ↔ W (pj lw) 29 48 (l0 :: .val (.int x) :: L) (.int x :: S) k n H Q := W_s rfl rfl rfl rfl
theorem w29_48 : W (pj lw) 29 48 L (.int i :: .ref a :: S) k n H Q ↔ (inA H a .long i = true ∧ W (pj lw) 29 49 L (elt H a i :: S) k n H Q) := W_laload (rfl : (pj lw).1 29 48 = some (.laload, 1, 0))
theorem w29_49 : W (pj lw) 29 49 L (.long y :: .long x :: S) k n H Q ↔ W (pj lw) 29 50 L (.long (x + y) :: S) k n H Q := W_s rfl rfl rfl rfl
theorem w29_50 : W (pj lw) 29 50 (.val (.ref x) :: L) S k n H Q ↔ W (pj lw) 29 51 (.val (.ref x) :: L) (.ref x :: S) k n H Q := W_s rfl rfl rfl rfl
theorem w29_51 : W (pj lw) 29 51 L (.ref a :: S) k n H Q ↔ (isO H a = true ∧ W (pj lw) 29 54 L (fld H a 10 :: S) k n H Q) := W_getf (rfl : (pj lw).1 29 51 = some (.getfield 23, 3, 10))
theorem w29_54 : W (pj lw) 29 54 (l0 :: l1 :: .val (.int x) :: L) S k n H Q ↔ W (pj lw) 29 55 (l0 :: l1 :: .val (.int x) :: L) (.int x :: S) k n H Q := W_s rfl rfl rfl rfl
theorem w29_55 : W (pj lw) 29 55 L (.int i :: .ref a :: S) k n H Q ↔ (inA H a .long i = true ∧ W (pj lw) 29 56 L (elt H a i :: S) k n H Q) := W_laload (rfl : (pj lw).1 29 55 = some (.laload, 1, 0))
theorem w29_56 : W (pj lw) 29 56 L (.long y :: .long x :: S) k n H Q ↔ W (pj lw) 29 57 L (.long (x - y) :: S) k n H Q := W_s rfl rfl rfl rfl
theorem w29_57 : W (pj lw) 29 57 L (.long x :: S) k n H Q ↔ Q (some (.long x)) H := W_r rfl rfl
end Pc
section A
variable {lw : LW} {H : AH} {p : Nat} {s : St} {Q : Option Value → AH → Prop} {a b : Int32} {h : Nat → Cel}
def ini0 (a : Int32) : St := uI (uJ z0 16 4000000000000000000) 0 (cl 1 24 a)
theorem t1 : Cl (pj lw) 1 [.ref p, .int a] (put lay 0 (p + 1, h) p z0) Q ↔ Q none (ob (p + 11, h) p (ini0 a)) := by
  rw [c1]
  rcases cl3 (lo := 1) (hi := 24) a (by decide) with ⟨h1, h2⟩ | ⟨h1, h2⟩ | ⟨h1, h2⟩ <;>
    simp +decide only [w1_0, w1_1, w1_4, w1_5, w1_8, w1_10, w1_13, w1_14, w1_17, w1_19, w1_22, w1_23, w1_25, w1_27, w1_30, w1_31, w1_33, w1_35, w1_38, w1_39, w1_41, w1_43, w1_46, w1_47, w1_50, w1_52, w1_55, w1_56, w1_59, w1_61, w1_64, w1_65, w1_67, w1_69, w1_72, w1_73, w1_75, w1_77, w1_80, w1_81, w1_83, w1_85, w1_88, w1_89, w1_92, w1_95, w1_96, w1_97, w1_98, w1_99, w1_102, w1_103i, w1_104, w1_105, w1_107, w1_110, w1_112i, w1_113, w1_114, w1_115, w1_118, zr_z0, isOw_put, put_fst, okv_int, okv_ref, true_and, and_true, ↓reduceIte, Nat.reduceAdd, Int32.reduceAdd, Int64.reduceAdd, Nat.zero_add, s0, s16, mk1, io1, mk2, io2, mk3, io3, mk4, io4, mk5, io5, mk6, io6, mk7, io7, mk8, io8, mk9, io9, mk10, io10, h1, h2, ini0, cl]
end A

section B
variable {lw : LW} {H : AH} {p j : Nat} {s s' : St} {Q : Option Value → AH → Prop} {a b c d x y : Int32} {h : Nat → Cel} {k n : Nat}
def fB (s : St) (t lo hi : Nat) (v : Int64) : St := (s.1, s.2.1, s.2.2.1, fun t' i => if t' = t ∧ lo ≤ i ∧ i < hi then v else s.2.2.2 t' i)
theorem sI_fB {t lo hi k : Nat} {v : Int64} : sI (fB s t lo hi v) k = sI s k := by simp [sI, fB]
theorem sJ_fB {t lo hi k : Nat} {v : Int64} : sJ (fB s t lo hi v) k = sJ s k := by simp [sJ, fB]
theorem sA_fB {t lo hi t' i : Nat} {v : Int64} : sA (fB s t lo hi v) t' i = sA s t' i := by simp [sA, fB]
theorem sB_fB {t lo hi t' i : Nat} {v : Int64} : sB (fB s t lo hi v) t' i = if t' = t ∧ lo ≤ i ∧ i < hi then v else sB s t' i := by simp [sB, fB]
theorem fB_nil {t lo hi : Nat} {v : Int64} (h : hi ≤ lo) : fB s t lo hi v = s := by
  refine St_ext (fun k => sI_fB) (fun k => sJ_fB) (fun t' i => sA_fB) (fun t' i => ?_)
  rw [sB_fB, if_neg (by omega)]
theorem fB_step {t lo hi : Nat} {v : Int64} (h : lo < hi) : fB (uB s t lo v) t (lo + 1) hi v = fB s t lo hi v := by
  refine St_ext (fun k => by simp only [sI_fB, sI_uB]) (fun k => by simp only [sJ_fB, sJ_uB]) (fun t' i => by simp only [sA_fB, sA_uB]) (fun t' i => ?_)
  simp only [sB_fB, sB_uB]
  by_cases g : t' = t ∧ lo ≤ i ∧ i < hi
  · rw [if_pos g]; split
    · rfl
    · rw [if_pos (by omega)]
  · rw [if_neg g, if_neg (by omega), if_neg (by omega)]
def oi (z : Int) : Int64 := Int64.ofInt z
theorem oi_add {x y : Int} : oi x + oi y = oi (x + y) := (Int64.ofInt_add x y).symm
theorem oi_sub {x y : Int} : oi x - oi y = oi (x - y) := (Int64.ofInt_sub x y).symm
theorem oi_mul {x y : Int} : oi x * oi y = oi (x * y) := (Int64.ofInt_mul x y).symm
theorem oi_t {z : Int} (h : -1000000000000000000 ≤ z ∧ z ≤ 1000000000000000000) : (oi z).toInt = z := Int64.toInt_ofInt_of_le (by omega) (by omega)
theorem oi_32 : x.toInt64 = oi x.toInt := by
  rw [eq64, Int32.toInt_toInt64, oi_t]; have := Int32.le_toInt x; have := Int32.toInt_lt x; omega
theorem oi_lt {x y : Int} (hx : -1000000000000000000 ≤ x ∧ x ≤ 1000000000000000000) (hy : -1000000000000000000 ≤ y ∧ y ≤ 1000000000000000000) : oi x < oi y ↔ x < y := by rw [Int64.lt_iff_toInt_lt, oi_t hx, oi_t hy]
theorem oi_eq {x y : Int} (hx : -1000000000000000000 ≤ x ∧ x ≤ 1000000000000000000) (hy : -1000000000000000000 ≤ y ∧ y ≤ 1000000000000000000) : oi x = oi y ↔ x = y := by rw [eq64, oi_t hx, oi_t hy]
theorem oi_inf {x : Int} (hx : -1000000000000000000 ≤ x ∧ x ≤ 1000000000000000000) : oi x < 4000000000000000000 ∧ ¬ oi x = 4000000000000000000 := by
  have e : (4000000000000000000 : Int64).toInt = 4000000000000000000 := by decide
  rw [Int64.lt_iff_toInt_lt, eq64, oi_t hx, e]; omega
theorem oi0 : (0 : Int64) = oi 0 := rfl
def HS (s : St) (a b c d : Int32) : Prop := (sI s 0 = 3 ∧ sJ s 16 = 4000000000000000000) ∧ (∀ i, i < 576 → sA s 1 i = if i = 1 ∨ i = 24 ∨ i = 26 ∨ i = 48 then 1 else 0) ∧ (sA s 2 1 = a ∧ sA s 2 24 = b ∧ sA s 2 26 = c ∧ sA s 2 48 = d)
theorem HS.of (h : HS s a b c d) (h0 : sI s' 0 = sI s 0) (h16 : sJ s' 16 = sJ s 16) (h1 : ∀ i, sA s' 1 i = sA s 1 i) (h2 : ∀ i, sA s' 2 i = sA s 2 i) : HS s' a b c d := by
  unfold HS; rw [h0, h16, h2, h2, h2, h2]; exact ⟨h.1, fun i hi => by rw [h1]; exact h.2.1 i hi, h.2.2⟩
theorem HS.z (h : HS s a b c d) {lo hi : Nat} (hh : hi ≤ 576) (hn : ∀ i, lo ≤ i → i < hi → ¬ (i = 1 ∨ i = 24 ∨ i = 26 ∨ i = 48)) : ∀ i, lo ≤ i → i < hi → sA s 1 i = 0 := fun i h1 h2 => by rw [h.2.1 i (by omega), if_neg (hn i h1 h2)]
theorem ofi {i : Nat} (h : i < 1000) : (Int32.ofNat i).toInt = i ∧ (Int32.ofNat i).toNatClampNeg = i := by
  have e : (Int32.ofNat i).toInt = i := Int32.toInt_ofNat_of_lt (by omega)
  exact ⟨e, by rw [cln, e]; omega⟩
theorem ofs {i : Nat} : Int32.ofNat i + 1 = Int32.ofNat (i + 1) := (Int32.ofNat_add i 1).symm
theorem l14_2 (hi' : sJ s 16 = 4000000000000000000) (m : Nat) : ∀ (i : Int32) (s : St), sJ s 16 = 4000000000000000000 → i.toInt = 600 - m → 0 ≤ i.toInt → (W (pj lw) 14 2 [.val (.ref p), .val (.int i), .unset] [] k n (ob H p s) Q ↔ W (pj lw) 14 25 [.val (.ref p), .val (.int 600), .unset] [] k n (ob H p (fB s 6 i.toNatClampNeg 600 4000000000000000000)) Q) := by
  induction m with
  | zero =>
    intro i s hI hi h0
    have h1 : ¬ i < 600 := by rw [lt32]; simp only [Int32.reduceToInt]; omega
    have e : i = 600 := by rw [eq32]; simp only [Int32.reduceToInt]; omega
    rw [w14_2]; simp +decide only [w14_3, w14_6, ↓reduceIte, h1]
    rw [e, fB_nil (by decide)]
  | succ m ih =>
    intro i s hI hi h0
    have h1 : i < 600 := by rw [lt32]; simp only [Int32.reduceToInt]; omega
    have h2 : (i + 1).toInt = i.toInt + 1 := ia (by simp only [Int32.reduceToInt]; omega) (by simp only [Int32.reduceToInt]; omega)
    have h4 : (i + 1).toNatClampNeg = i.toNatClampNeg + 1 := by rw [cln, cln]; omega
    have hb : 0 ≤ i.toInt ∧ i.toInt < 600 := by omega
    rw [← fB_step (by rw [cln]; omega), ← h4, ← ih (i + 1) _ (by rw [sJ_uB]; exact hI) (by omega) (by omega), w14_2]
    simp +decide only [w14_3, w14_6, w14_9, w14_10, w14_13, w14_14, w14_15, w14_18, w14_19, w14_22, isO_put, true_and, and_true, ↓reduceIte, g11, g16, aw6, as6, h1, hb, hI]
end B

section C
variable {lw : LW} {H : AH} {p j : Nat} {s s' : St} {Q : Option Value → AH → Prop} {a b c d x y : Int32} {h : Nat → Cel} {k n : Nat} {x0 x1 x2 x3 : Int}
def bd (z : Int) : Prop := -200000 ≤ z ∧ z ≤ 200000
theorem uJ4 {q r t u : Int64} : uJ (uJ (uJ (uJ s 19 q) 20 r) 19 t) 20 u = uJ (uJ s 19 t) 20 u := by
  refine St_ext (fun k => by simp only [sI_uJ]) (fun k => ?_) (fun t i => by simp only [sA_uJ]) (fun t i => by simp only [sB_uJ])
  simp only [sJ_uJ]; by_cases h1 : k = 20
  · simp [h1]
  · by_cases h2 : k = 19 <;> simp [h1, h2]
def VM (x0 x1 x2 x3 N D : Int) : Prop := (N = x3 - x0 ∧ D = 3 ∨ N = x3 - x1 ∧ D = 2 ∨ N = x3 - x2 ∧ D = 1) ∧ (x3 - x0) * D ≤ N * 3 ∧ (x3 - x1) * D ≤ N * 2 ∧ (x3 - x2) * D ≤ N * 1
end C

section D
variable {lw : LW} {H : AH} {p j : Nat} {s s' : St} {Q : Option Value → AH → Prop} {a b c d x y : Int32} {h : Nat → Cel} {k n kk nn : Nat} {y0 y1 y2 : Int}
def wb (x : Int32) : Prop := -10000 ≤ x.toInt ∧ x.toInt ≤ 10000
def Kr (s s' : St) (r : Nat) (z0 z1 z2 : Int) : Prop := (∀ k, sI s' k = sI s k) ∧ (∀ k, sJ s' k = sJ s k) ∧ (∀ t i, sA s' t i = sA s t i) ∧ ∀ i, sB s' 6 i = if i = r then oi z0 else if i = r + 1 then oi z1 else if i = r + 2 then oi z2 else sB s 6 i
theorem Kr.hs {r : Nat} {z0 z1 z2 : Int} (g : Kr s s' r z0 z1 z2) (h : HS s a b c d) : HS s' a b c d := h.of (g.1 0) (g.2.1 16) (fun i => g.2.2.1 1 i) (fun i => g.2.2.1 2 i)
end D

section E
variable {lw : LW} {H : AH} {p j : Nat} {s s' : St} {Q : Option Value → AH → Prop} {a b c d x y : Int32} {h : Nat → Cel} {k n : Nat}
theorem VM.nb {x0 x1 x2 x3 N D : Int} (h : VM x0 x1 x2 x3 N D) (h0 : bd x0) (h1 : bd x1) (h2 : bd x2) (h3 : bd x3) : -1000000 ≤ N ∧ N ≤ 1000000 := by
  unfold bd at *; rcases h.1 with w | w | w <;> omega
end E

section F
variable {lw : LW} {H : AH} {p j : Nat} {s s' s'' : St} {Q : Option Value → AH → Prop} {a b c d x y ch rd : Int32} {h : Nat → Cel} {k n : Nat} {N D p0 p1 p2 A B C E : Int}
theorem l17_3 (m : Nat) : ∀ (i : Int32) (s : St), i.toInt = 24 - m → 0 ≤ i.toInt → (W (pj lw) 17 3 [.val (.ref p), .val (.long (oi D)), .second, .val (.long (oi N)), .second, .val (.int i), .unset, .unset, .unset, .unset, .unset, .unset] [] k n (ob H p s) Q ↔ W (pj lw) 17 24 [.val (.ref p), .val (.long (oi D)), .second, .val (.long (oi N)), .second, .val (.int 24), .unset, .unset, .unset, .unset, .unset, .unset] [] k n (ob H p (fB s 5 i.toNatClampNeg 24 0)) Q) := by
  induction m with
  | zero =>
    intro i s hi h0
    have h1 : ¬ i < 24 := by rw [lt32]; simp only [Int32.reduceToInt]; omega
    have e : i = 24 := by rw [eq32]; simp only [Int32.reduceToInt]; omega
    rw [w17_3]; simp +decide only [w17_5, w17_7, ↓reduceIte, h1]
    rw [e, fB_nil (by decide)]
  | succ m ih =>
    intro i s hi h0
    have h1 : i < 24 := by rw [lt32]; simp only [Int32.reduceToInt]; omega
    have h2 : (i + 1).toInt = i.toInt + 1 := ia (by simp only [Int32.reduceToInt]; omega) (by simp only [Int32.reduceToInt]; omega)
    have h4 : (i + 1).toNatClampNeg = i.toNatClampNeg + 1 := by rw [cln, cln]; omega
    have hb : 0 ≤ i.toInt ∧ i.toInt < 24 := by omega
    rw [← fB_step (by rw [cln]; omega), ← h4, ← ih (i + 1) _ (by omega) (by omega), w17_3]
    simp +decide only [w17_5, w17_7, w17_10, w17_11, w17_14, w17_16, w17_17, w17_18, w17_21, isO_put, true_and, and_true, ↓reduceIte, g10, aw5, as5, h1, hb]
end F

section G
variable {lw : LW} {H : AH} {p j : Nat} {s s' s'' : St} {Q : Option Value → AH → Prop} {a b c d x y ch rd : Int32} {h : Nat → Cel} {k n : Nat} {N D p0 p1 p2 A B C E M : Int}
def Pt (s s' : St) (q : Int × Int × Int) : Prop := (∀ k, sI s' k = sI s k) ∧ (∀ k, sJ s' k = sJ s k) ∧ (∀ t i, sA s' t i = sA s t i) ∧ (∀ t i, t ≠ 5 → sB s' t i = sB s t i) ∧ sB s' 5 0 = oi q.1 ∧ sB s' 5 1 = oi q.2.1 ∧ sB s' 5 2 = oi q.2.2
theorem Pt.hs {q : Int × Int × Int} (g : Pt s s' q) (h : HS s a b c d) : HS s' a b c d := h.of (g.1 0) (g.2.1 16) (g.2.2.1 1) (g.2.2.1 2)
theorem Pt.trans {q q' : Int × Int × Int} (g : Pt s s' q) (h : Pt s' s'' q') : Pt s s'' q' := ⟨fun k => (h.1 k).trans (g.1 k), fun k => (h.2.1 k).trans (g.2.1 k), fun t i => (h.2.2.1 t i).trans (g.2.2.1 t i), fun t i ht => (h.2.2.2.1 t i ht).trans (g.2.2.2.1 t i ht), h.2.2.2.2⟩
def cb (z : Int) : Prop := -100000 ≤ z ∧ z ≤ 100000
end G

section Hh
variable {lw : LW} {H : AH} {p j : Nat} {s s' s'' : St} {Q : Option Value → AH → Prop} {a b c d x y ch rd : Int32} {h : Nat → Cel} {k n : Nat} {N D p0 p1 p2 A B C E M : Int}
theorem oi_z {z : Int} (hz : -1000000000000000000 ≤ z ∧ z ≤ 1000000000000000000) : oi z = 0 ↔ z = 0 := by rw [oi0]; exact oi_eq hz (by omega)
def TT (s : St) (t1 t2 t3 t4 : Int32) : Prop := ∀ i, i < 576 → sA s 7 i = if i = 1 then t1 else if i = 24 then t2 else if i = 26 then t3 else if i = 48 then t4 else 0
def Ka (s s' : St) (t : Nat) : Prop := (∀ k, sI s' k = sI s k) ∧ (∀ k, sJ s' k = sJ s k) ∧ (∀ t' i, t' ≠ t → sA s' t' i = sA s t' i) ∧ ∀ t' i, sB s' t' i = sB s t' i
theorem Ka.hs {t : Nat} (g : Ka s s' t) (h : HS s a b c d) (h1 : t ≠ 1) (h2 : t ≠ 2) : HS s' a b c d := h.of (g.1 0) (g.2.1 16) (fun i => g.2.2.1 1 i (fun w => h1 w.symm)) (fun i => g.2.2.1 2 i (fun w => h2 w.symm))
theorem Ka.tt {t : Nat} {t1 t2 t3 t4 : Int32} (g : Ka s s' t) (h : TT s t1 t2 t3 t4) (h7 : t ≠ 7) : TT s' t1 t2 t3 t4 := fun i hi => by rw [g.2.2.1 7 i (fun w => h7 w.symm)]; exact h i hi
end Hh

section I
variable {lw : LW} {H : AH} {p j : Nat} {s s' s'' : St} {Q : Option Value → AH → Prop} {a b c d x y ch rd : Int32} {h : Nat → Cel} {k n : Nat}
theorem TT.f {t1 t2 t3 t4 : Int32} (T : TT s t1 t2 t3 t4) : (sA s 7 0 = 0 ∧ sA s 7 1 = t1 ∧ sA s 7 2 = 0) ∧ (sA s 7 24 = t2 ∧ sA s 7 25 = 0 ∧ sA s 7 26 = t3) ∧ (sA s 7 48 = t4 ∧ sA s 7 49 = 0 ∧ sA s 7 50 = 0) := by
  refine ⟨⟨?_, ?_, ?_⟩, ⟨?_, ?_, ?_⟩, ?_, ?_, ?_⟩ <;> rw [T _ (by decide)] <;> rfl
end I

section J
variable {lw : LW} {H : AH} {p j : Nat} {s s' s'' : St} {Q : Option Value → AH → Prop} {a b c d x y ch rd : Int32} {h : Nat → Cel} {k n : Nat} {N D A B C E : Int}
end J

section K
variable {n : Nat} {E : Nat → Nat → Prop} {c w : Nat → Nat → Int} {f g h : Nat → Nat} {i j k m q : Nat}
def Wf (n : Nat) (E : Nat → Nat → Prop) (f : Nat → Nat) (k : Nat) : Prop := (∀ i, i ≤ k → f i < n) ∧ ∀ i, i < k → E (f i) (f (i + 1))
def sm (c : Nat → Nat → Int) (f : Nat → Nat) : Nat → Int
  | 0 => 0
  | k + 1 => sm c f k + c (f k) (f (k + 1))
theorem sm_congr (h : ∀ i, i ≤ k → f i = g i) : sm c f k = sm c g k := by
  induction k with
  | zero => rfl
  | succ k ih => rw [sm, sm, ih fun i hi => h i (by omega), h k (by omega), h (k + 1) (Nat.le_refl _)]
theorem sm_shift : ∀ m : Nat, sm c (fun t => f (i + t)) m = sm c f (i + m) - sm c f i
  | 0 => by simp [sm]
  | m + 1 => by
    have e := sm_shift m
    rw [show i + (m + 1) = (i + m) + 1 by omega, sm, sm, e]
    show _ + c (f (i + m)) (f (i + (m + 1))) = _
    rw [show i + (m + 1) = i + m + 1 by omega]; omega
theorem Wf.shift (h : Wf n E f k) (hm : i + m ≤ k) : Wf n E (fun t => f (i + t)) m := ⟨fun t ht => h.1 _ (by omega), fun t ht => h.2 (i + t) (by omega)⟩
theorem Wf.le (h : Wf n E f k) (hm : m ≤ k) : Wf n E f m := ⟨fun t ht => h.1 _ (by omega), fun t ht => h.2 t (by omega)⟩
def cut (f : Nat → Nat) (i j : Nat) : Nat → Nat := fun t => if t ≤ i then f t else f (t + (j - i))
theorem cut_sm (hij : i ≤ j) (he : f i = f j) : ∀ m : Nat, sm c (cut f i j) (i + m) = sm c f (j + m) - (sm c f j - sm c f i)
  | 0 => by
    have : sm c (cut f i j) i = sm c f i := sm_congr fun t ht => by unfold cut; rw [if_pos ht]
    simp only [Nat.add_zero]; rw [this]; omega
  | m + 1 => by
    rw [show i + (m + 1) = (i + m) + 1 by omega, show j + (m + 1) = (j + m) + 1 by omega, sm, sm, cut_sm hij he m]
    have e1 : cut f i j (i + m) = f (j + m) := by
      unfold cut; split
      · obtain rfl : m = 0 := by omega
        exact he
      · rw [show i + m + (j - i) = j + m by omega]
    have e2 : cut f i j (i + m + 1) = f (j + m + 1) := by
      unfold cut; rw [if_neg (by omega), show i + m + 1 + (j - i) = j + m + 1 by omega]
    rw [e1, e2]; omega
theorem Wf.cut (h : Wf n E f k) (hij : i < j) (hj : j ≤ k) (he : f i = f j) : Wf n E (cut f i j) (k - (j - i)) ∧ Pj.cut f i j (k - (j - i)) = f k ∧ Pj.cut f i j 0 = f 0 ∧ sm c (Pj.cut f i j) (k - (j - i)) = sm c f k - (sm c f j - sm c f i) := by
  refine ⟨⟨fun t ht => ?_, fun t ht => ?_⟩, ?_, ?_, ?_⟩
  · unfold Pj.cut; split
    · exact h.1 _ (by omega)
    · exact h.1 _ (by omega)
  · unfold Pj.cut
    by_cases q : t + 1 ≤ i
    · rw [if_pos (by omega), if_pos q]; exact h.2 t (by omega)
    · by_cases r : t ≤ i
      · obtain rfl : t = i := by omega
        rw [if_pos (by omega), if_neg q, he, show t + 1 + (j - t) = j + 1 by omega]; exact h.2 j (by omega)
      · rw [if_neg r, if_neg q, show t + 1 + (j - i) = t + (j - i) + 1 by omega]; exact h.2 _ (by omega)
  · unfold Pj.cut; split
    · rw [show k - (j - i) = i by omega, he, show k = j by omega]
    · rw [show k - (j - i) + (j - i) = k by omega]
  · unfold Pj.cut; rw [if_pos (Nat.zero_le _)]
  · have := cut_sm (c := c) (f := f) (Nat.le_of_lt hij) he (k - j)
    rw [show i + (k - j) = k - (j - i) by omega, show j + (k - j) = k by omega] at this; exact this
theorem phn : ∀ (n : Nat) (f : Nat → Nat), (∀ i, i ≤ n → f i < n) → ∃ i j, i < j ∧ j ≤ n ∧ f i = f j
  | 0, f, h => absurd (h 0 (Nat.le_refl _)) (by omega)
  | n + 1, f, h => by
    by_cases q : ∃ i, i ≤ n ∧ f i = f (n + 1)
    · obtain ⟨i, hi, e⟩ := q; exact ⟨i, n + 1, by omega, Nat.le_refl _, e⟩
    · have q' : ∀ i, i ≤ n → f i ≠ f (n + 1) := fun i hi e => q ⟨i, hi, e⟩
      obtain ⟨i, j, h1, h2, h3⟩ := phn n (fun t => if f t = n then f (n + 1) else f t) fun i hi => by
        show (if f i = n then f (n + 1) else f i) < n
        have a1 := h i (by omega)
        have a2 := h (n + 1) (Nat.le_refl _)
        have a3 := q' i hi
        split <;> omega
      refine ⟨i, j, h1, by omega, ?_⟩
      have b1 := q' i (by omega)
      have b2 := q' j (by omega)
      have h4 : (if f i = n then f (n + 1) else f i) = (if f j = n then f (n + 1) else f j) := h3
      clear h3
      by_cases u : f i = n
      · rw [if_pos u] at h4; by_cases v : f j = n
        · rw [u, v]
        · rw [if_neg v] at h4; exact absurd h4.symm b2
      · rw [if_neg u] at h4; by_cases v : f j = n
        · rw [if_pos v] at h4; exact absurd h4 b1
        · rw [if_neg v] at h4; exact h4
def NC (n : Nat) (E : Nat → Nat → Prop) (c : Nat → Nat → Int) : Prop := ∀ f k, 1 ≤ k → Wf n E f k → f 0 = f k → 0 ≤ sm c f k
theorem Wf.php (h : Wf n E f k) (hk : n ≤ k) : ∃ i j, i < j ∧ j ≤ n ∧ f i = f j := phn n f fun i hi => h.1 i (by omega)
theorem NC_of (hs : ∀ f k, 1 ≤ k → k ≤ n → Wf n E f k → f 0 = f k → 0 ≤ sm c f k) : NC n E c := by
  intro f k
  induction k using Nat.strongRecOn generalizing f with
  | ind k ih =>
    intro h1 hw he
    by_cases q : k ≤ n
    · exact hs f k h1 q hw he
    · obtain ⟨i, j, a1, a2, a3⟩ := hw.php (by omega)
      obtain ⟨b1, b2, b3, b4⟩ := hw.cut (c := c) a1 (by omega) a3
      have r1 := ih (k - (j - i)) (by omega) (cut f i j) (by omega) b1 (by rw [b3, b2, he])
      have r2 := hs (fun t => f (i + t)) (j - i) (by omega) (by omega) (hw.shift (by omega)) (by show f (i + 0) = f (i + (j - i)); rw [Nat.add_zero, show i + (j - i) = j by omega, a3])
      rw [sm_shift, show i + (j - i) = j by omega] at r2
      omega
theorem NC.short (hN : NC n E c) (h0 : 0 < n) : ∀ (k : Nat) (f : Nat → Nat), Wf n E f k → ∃ g k', k' < n ∧ Wf n E g k' ∧ g k' = f k ∧ sm c g k' ≤ sm c f k := by
  intro k
  induction k using Nat.strongRecOn with
  | ind k ih =>
    intro f hw
    by_cases q : k < n
    · exact ⟨f, k, q, hw, rfl, Int.le_refl _⟩
    · obtain ⟨i, j, a1, a2, a3⟩ := hw.php (by omega)
      obtain ⟨b1, b2, b3, b4⟩ := hw.cut (c := c) a1 (by omega) a3
      have r2 := hN (fun t => f (i + t)) (j - i) (by omega) (hw.shift (by omega)) (by show f (i + 0) = f (i + (j - i)); rw [Nat.add_zero, show i + (j - i) = j by omega, a3])
      rw [sm_shift, show i + (j - i) = j by omega] at r2
      obtain ⟨g, k', c1, c2, c3, c4⟩ := ih (k - (j - i)) (by omega) (cut f i j) b1
      exact ⟨g, k', c1, c2, by rw [c3, b2], by omega⟩
theorem imin {P : Int → Prop} {M : Int} : ∀ (t : Nat) (x : Int), P x → (∀ y, P y → -M ≤ y) → (x + M).toNat ≤ t → ∃ m, P m ∧ ∀ y, P y → m ≤ y
  | 0, x, hx, hM, ht => ⟨x, hx, fun y hy => by have := hM y hy; have := hM x hx; omega⟩
  | t + 1, x, hx, hM, ht => by
    by_cases q : ∃ y, P y ∧ y < x
    · obtain ⟨y, hy, hl⟩ := q
      exact imin t y hy hM (by have := hM y hy; omega)
    · exact ⟨x, hx, fun y hy => by
        have : ¬ y < x := fun w => q ⟨y, hy, w⟩
        omega⟩
theorem sm_ge {M : Int} (hM : 0 ≤ M) (hc : ∀ u v, u < n → v < n → -M ≤ c u v) : ∀ (k : Nat) (f : Nat → Nat), (∀ i, i ≤ k → f i < n) → -(M * k) ≤ sm c f k
  | 0, f, _ => by simp [sm]
  | k + 1, f, h => by
    have a := sm_ge hM hc k f fun i hi => h i (by omega)
    have b := hc (f k) (f (k + 1)) (h k (by omega)) (h (k + 1) (Nat.le_refl _))
    rw [sm]
    have e : M * ((k + 1 : Nat) : Int) = M * (k : Int) + M := by rw [Int.natCast_add, Int.mul_add]; simp
    omega
def Ph (n : Nat) (E : Nat → Nat → Prop) (c : Nat → Nat → Int) (v : Nat) (x : Int) : Prop := (∃ f k, k < n ∧ Wf n E f k ∧ f k = v ∧ sm c f k = x) ∧ ∀ f k, Wf n E f k → f k = v → x ≤ sm c f k
theorem Ph_ex {M : Int} (hM : 0 ≤ M) (hc : ∀ u v, u < n → v < n → -M ≤ c u v) (hN : NC n E c) {v : Nat} (hv : v < n) : ∃ x, Ph n E c v x := by
  have h0 : 0 < n := by omega
  obtain ⟨m, ⟨f, k, h1, h2, h3, h4⟩, hm⟩ := imin (P := fun x => ∃ f k, k < n ∧ Wf n E f k ∧ f k = v ∧ sm c f k = x) (M := M * n) (0 + M * n).toNat 0 ⟨fun _ => v, 0, h0, ⟨fun i _ => hv, fun i hi => absurd hi (by omega)⟩, rfl, rfl⟩
    (fun y ⟨f, k, a1, a2, a3, a4⟩ => by
      have := sm_ge hM hc k f a2.1
      have : M * (k : Int) ≤ M * (n : Int) := Int.mul_le_mul_of_nonneg_left (by omega) hM
      omega) (Nat.le_refl _)
  refine ⟨m, ⟨f, k, h1, h2, h3, h4⟩, fun f' k' w1 w2 => ?_⟩
  obtain ⟨g, k'', c1, c2, c3, c4⟩ := hN.short h0 k' f' w1
  have := hm (sm c g k'') ⟨g, k'', c1, c2, by rw [c3, w2], rfl⟩
  omega
def ext (f : Nat → Nat) (k v : Nat) : Nat → Nat := fun t => if t ≤ k then f t else v
theorem Wf.ext (h : Wf n E f k) {v : Nat} (hv : v < n) (he : E (f k) v) : Wf n E (Pj.ext f k v) (k + 1) ∧ Pj.ext f k v (k + 1) = v ∧ sm c (Pj.ext f k v) (k + 1) = sm c f k + c (f k) v := by
  refine ⟨⟨fun i hi => ?_, fun i hi => ?_⟩, ?_, ?_⟩
  · unfold Pj.ext; split
    · exact h.1 _ (by omega)
    · exact hv
  · unfold Pj.ext; rw [if_pos (by omega)]
    by_cases q : i + 1 ≤ k
    · rw [if_pos q]; exact h.2 i (by omega)
    · rw [if_neg q, show i = k by omega]; exact he
  · unfold Pj.ext; rw [if_neg (by omega)]
  · rw [sm]
    have e1 : sm c (Pj.ext f k v) k = sm c f k := sm_congr fun i hi => by unfold Pj.ext; rw [if_pos hi]
    have e2 : Pj.ext f k v k = f k := by unfold Pj.ext; rw [if_pos (Nat.le_refl _)]
    have e3 : Pj.ext f k v (k + 1) = v := by unfold Pj.ext; rw [if_neg (by omega)]
    rw [e1, e2, e3]
theorem Ph.feas {u v : Nat} {x y : Int} (hu : Ph n E c u x) (hv : Ph n E c v y) (hv' : v < n) (he : E u v) : y ≤ x + c u v := by
  obtain ⟨⟨f, k, h1, h2, h3, h4⟩, -⟩ := hu
  have := h2.ext (c := c) hv' (by rw [h3]; exact he)
  have r := hv.2 _ _ this.1 this.2.1
  rw [this.2.2, h3, h4] at r; exact r
def Fe (n : Nat) (E : Nat → Nat → Prop) (c : Nat → Nat → Int) (φ : Nat → Int) : Prop := ∀ u v, u < n → v < n → E u v → φ v ≤ φ u + c u v
theorem Fe.walk {φ : Nat → Int} (hF : Fe n E c φ) : ∀ (k : Nat), Wf n E f k → φ (f k) ≤ φ (f 0) + sm c f k
  | 0, _ => by simp [sm]
  | k + 1, h => by
    have a := hF.walk k (h.le (by omega))
    have b := hF (f k) (f (k + 1)) (h.1 _ (by omega)) (h.1 _ (Nat.le_refl _)) (h.2 k (by omega))
    rw [sm]; omega
theorem Fe.tight {φ : Nat → Int} (hF : Fe n E c φ) (hw : Wf n E f q) (he : f 0 = f q) (hz : sm c f q = 0) : ∀ i, i ≤ q → φ (f i) = φ (f 0) + sm c f i := fun i hi => by
  have a := hF.walk i (hw.le hi)
  have b := hF.walk (f := fun t => f (i + t)) (q - i) (hw.shift (by omega))
  rw [sm_shift, show i + (q - i) = q by omega, hz] at b
  simp only [Nat.add_zero] at b
  rw [← he] at b
  omega
end K

section L
variable {n : Nat} {E : Nat → Nat → Prop} {c w : Nat → Nat → Int} {f g h : Nat → Nat} {i j k m q : Nat} {φ : Nat → Int}
theorem mods {t q : Nat} (hq : 1 ≤ q) (he : f 0 = f q) : f ((t + 1) % q) = f (t % q + 1) := by
  have h1 := Nat.mod_lt t (show q > 0 by omega)
  by_cases r : t % q + 1 = q
  · rw [r, ← he]
    have : (t + 1) % q = 0 := by rw [Nat.add_mod]; by_cases q1 : q = 1
                                 · subst q1; omega
                                 · rw [Nat.mod_eq_of_lt (show 1 < q by omega), r]; exact Nat.mod_self q
    rw [this]
  · have : (t + 1) % q = t % q + 1 := by
      by_cases q1 : q = 1
      · subst q1; omega
      · rw [Nat.add_mod, Nat.mod_eq_of_lt (show 1 < q by omega)]; exact Nat.mod_eq_of_lt (by omega)
    rw [this]
theorem Kn (hP : ∀ v, v < n → Ph n E c v (φ v)) (h1 : 1 ≤ q) (hw : Wf n E f q) (he : f 0 = f q) (hz : sm c f q = 0) : ∃ F, Wf n E F n ∧ sm c F n = φ (F n) := by
  have hF : Fe n E c φ := fun u v hu hv e => (hP u hu).feas (hP v hv) hv e
  have ti := hF.tight hw he hz
  have x0 : f 0 < n := hw.1 0 (Nat.zero_le _)
  obtain ⟨⟨g, m, a1, a2, a3, a4⟩, -⟩ := hP (f 0) x0
  have r : ∀ t, t % q < q := fun t => Nat.mod_lt t (by omega)
  have F1 : ∀ t, m ≤ t → (if t ≤ m then g t else f ((t - m) % q)) = f ((t - m) % q) := fun t ht => by
    split
    · rw [show t = m by omega, a3, Nat.sub_self, Nat.zero_mod]
    · rfl
  refine ⟨fun t => if t ≤ m then g t else f ((t - m) % q), ⟨fun t ht => ?_, fun t ht => ?_⟩, ?_⟩
  · show (if t ≤ m then g t else f ((t - m) % q)) < n
    split
    · exact a2.1 _ (by omega)
    · exact hw.1 _ (by have := r (t - m); omega)
  · show E (if t ≤ m then g t else f ((t - m) % q)) (if t + 1 ≤ m then g (t + 1) else f ((t + 1 - m) % q))
    by_cases u : t + 1 ≤ m
    · rw [if_pos (by omega), if_pos u]; exact a2.2 t (by omega)
    · rw [F1 t (by omega), if_neg u, show t + 1 - m = (t - m) + 1 by omega, mods h1 he]; exact hw.2 _ (r _)
  · have key : ∀ s, sm c (fun t => if t ≤ m then g t else f ((t - m) % q)) (m + s) = φ (if m + s ≤ m then g (m + s) else f ((m + s - m) % q)) := fun s => by
      induction s with
      | zero =>
        rw [Nat.add_zero, if_pos (Nat.le_refl _), a3]
        rw [← a4]; exact sm_congr fun i hi => by show (if i ≤ m then g i else _) = g i; rw [if_pos hi]
      | succ s ih =>
        rw [show m + (s + 1) = (m + s) + 1 by omega, sm, ih]
        show φ _ + c (if m + s ≤ m then g (m + s) else f ((m + s - m) % q)) (if m + s + 1 ≤ m then g (m + s + 1) else f ((m + s + 1 - m) % q)) = _
        rw [F1 (m + s) (by omega), if_neg (show ¬ m + s + 1 ≤ m by omega), show m + s + 1 - m = s + 1 by omega, show m + s - m = s by omega, mods h1 he]
        have t1 := ti (s % q + 1) (r s)
        have t2 := ti (s % q) (by have := r s; omega)
        rw [sm] at t1
        omega
    have := key (n - m)
    rw [show m + (n - m) = n by omega] at this
    exact this
theorem sm_lin {a p : Int} : ∀ k : Nat, sm (fun u v => a * w u v - p) f k = a * sm w f k - p * k
  | 0 => by simp [sm]
  | k + 1 => by
    rw [sm, sm, sm_lin k, Int.mul_add, Int.natCast_add, Int.mul_add]
    show _ + (a * w (f k) (f (k + 1)) - p) = _
    simp only [Int.natCast_one, Int.mul_one]
    omega
theorem lamL {M : Int} (hM : 0 ≤ M) (hw : ∀ u v, u < n → v < n → -M ≤ w u v) : ∀ L : Nat, (∃ f k, 1 ≤ k ∧ k ≤ L ∧ Wf n E f k ∧ f 0 = f k) → ∃ f q, (1 ≤ q ∧ q ≤ L) ∧ Wf n E f q ∧ f 0 = f q ∧ ∀ g k, 1 ≤ k → k ≤ L → Wf n E g k → g 0 = g k → sm w f q * k ≤ sm w g k * q
  | 0, ⟨f, k, h1, h2, _⟩ => by omega
  | L + 1, hex => by
    by_cases hl : ∃ f, Wf n E f (L + 1) ∧ f 0 = f (L + 1)
    · obtain ⟨f0, b1, b2⟩ := hl
      obtain ⟨m, ⟨f, c1, c2, c3⟩, hm⟩ := imin (P := fun x => ∃ f, Wf n E f (L + 1) ∧ f 0 = f (L + 1) ∧ sm w f (L + 1) = x) (M := M * ((L + 1 : Nat) : Int)) (sm w f0 (L + 1) + M * ((L + 1 : Nat) : Int)).toNat _ ⟨f0, b1, b2, rfl⟩ (fun y ⟨f, a1, a2, a3⟩ => by rw [← a3]; exact sm_ge hM hw (L + 1) f a1.1) (Nat.le_refl _)
      by_cases hs : ∃ f k, 1 ≤ k ∧ k ≤ L ∧ Wf n E f k ∧ f 0 = f k
      · obtain ⟨f', q', d1, d2, d3, d4⟩ := lamL hM hw L hs
        by_cases cmp : sm w f' q' * ((L + 1 : Nat) : Int) ≤ m * q'
        · refine ⟨f', q', ⟨d1.1, by omega⟩, d2, d3, fun g k g1 g2 g3 g4 => ?_⟩
          by_cases e : k = L + 1
          · subst e
            have := hm _ ⟨g, g3, g4, rfl⟩
            have : m * (q' : Int) ≤ sm w g (L + 1) * q' := Int.mul_le_mul_of_nonneg_right this (by omega)
            omega
          · exact d4 g k g1 (by omega) g3 g4
        · refine ⟨f, L + 1, ⟨by omega, Nat.le_refl _⟩, c1, c2, fun g k g1 g2 g3 g4 => ?_⟩
          rw [c3]
          by_cases e : k = L + 1
          · subst e
            exact Int.mul_le_mul_of_nonneg_right (hm _ ⟨g, g3, g4, rfl⟩) (by omega)
          · have h5 := d4 g k g1 (by omega) g3 g4
            have h6 : m * q' ≤ sm w f' q' * ((L + 1 : Nat) : Int) := by omega
            have h7 : m * q' * k ≤ sm w f' q' * ((L + 1 : Nat) : Int) * k := Int.mul_le_mul_of_nonneg_right h6 (by omega)
            have h8 : sm w f' q' * (k : Int) * ((L + 1 : Nat) : Int) ≤ sm w g k * q' * ((L + 1 : Nat) : Int) := Int.mul_le_mul_of_nonneg_right h5 (by omega)
            have h9 : sm w f' q' * ((L + 1 : Nat) : Int) * (k : Int) = sm w f' q' * (k : Int) * ((L + 1 : Nat) : Int) := by ac_rfl
            have ha : (q' : Int) * (m * k) ≤ (q' : Int) * (sm w g k * ((L + 1 : Nat) : Int)) := by
              have e1 : (q' : Int) * (m * k) = m * q' * k := by ac_rfl
              have e2 : (q' : Int) * (sm w g k * ((L + 1 : Nat) : Int)) = sm w g k * q' * ((L + 1 : Nat) : Int) := by ac_rfl
              rw [e1, e2]; omega
            exact Int.le_of_mul_le_mul_left ha (by omega)
      · refine ⟨f, L + 1, ⟨by omega, Nat.le_refl _⟩, c1, c2, fun g k g1 g2 g3 g4 => ?_⟩
        have e : k = L + 1 := Classical.byContradiction fun e => hs ⟨g, k, g1, by omega, g3, g4⟩
        subst e
        rw [c3]; exact Int.mul_le_mul_of_nonneg_right (hm _ ⟨g, g3, g4, rfl⟩) (by omega)
    · have hex' : ∃ f k, 1 ≤ k ∧ k ≤ L ∧ Wf n E f k ∧ f 0 = f k := by
        obtain ⟨f, k, h1, h2, h3, h4⟩ := hex
        refine ⟨f, k, h1, ?_, h3, h4⟩
        have : k ≠ L + 1 := fun e => by subst e; exact hl ⟨f, h3, h4⟩
        omega
      obtain ⟨f', q', d1, d2, d3, d4⟩ := lamL hM hw L hex'
      refine ⟨f', q', ⟨d1.1, by omega⟩, d2, d3, fun g k g1 g2 g3 g4 => ?_⟩
      have : k ≠ L + 1 := fun e => by subst e; exact hl ⟨g, g3, g4⟩
      exact d4 g k g1 (by omega) g3 g4
def Dr (n : Nat) (E : Nat → Nat → Prop) (w : Nat → Nat → Int) (k v : Nat) (x : Int) : Prop := (∃ f, Wf n E f k ∧ f k = v ∧ sm w f k = x) ∧ ∀ f, Wf n E f k → f k = v → x ≤ sm w f k
theorem Dr_ex {M : Int} (hM : 0 ≤ M) (hw : ∀ u v, u < n → v < n → -M ≤ w u v) {v : Nat} (h : Wf n E f k) (he : f k = v) : ∃ x, Dr n E w k v x ∧ x ≤ sm w f k := by
  obtain ⟨m, h1, h2⟩ := imin (P := fun x => ∃ f, Wf n E f k ∧ f k = v ∧ sm w f k = x) (M := M * k) (sm w f k + M * k).toNat _ ⟨f, h, he, rfl⟩ (fun y ⟨f, a1, a2, a3⟩ => by rw [← a3]; exact sm_ge hM hw k f a1.1) (Nat.le_refl _)
  exact ⟨m, ⟨h1, fun f a b => h2 _ ⟨f, a, b, rfl⟩⟩, h2 _ ⟨f, h, he, rfl⟩⟩
theorem karp {M N D : Int} (hM : 0 ≤ M) (hw : ∀ u v, u < n → v < n → -M ≤ w u v) (hD : 0 < D) {v0 : Nat} {xn : Int} (ha : Dr n E w n v0 xn)
    (ha2 : ∀ k x, k < n → Dr n E w k v0 x → (xn - x) * D ≤ N * ((n : Int) - k)) (hb : ∀ v x, v < n → Dr n E w n v x → ∃ k y, k < n ∧ Dr n E w k v y ∧ N * ((n : Int) - k) ≤ (x - y) * D) :
    NC n E (fun u v => D * w u v - N) ∧ ∃ f q, 1 ≤ q ∧ q ≤ n ∧ Wf n E f q ∧ f 0 = f q ∧ sm (fun u v => D * w u v - N) f q = 0 := by
  obtain ⟨⟨F, f1, f2, f3⟩, -⟩ := ha
  obtain ⟨i, j, a1, a2, a3⟩ := f1.php (Nat.le_refl _)
  obtain ⟨b1, b2, b3, b4⟩ := f1.cut (c := w) a1 a2 a3
  obtain ⟨x, hx, hx2⟩ := Dr_ex hM hw b1 (by rw [b2, f2])
  have l0 := ha2 (n - (j - i)) x (by omega) hx
  have cw : Wf n E (fun t => F (i + t)) (j - i) := f1.shift (by omega)
  have ce : (fun t => F (i + t)) 0 = (fun t => F (i + t)) (j - i) := by show F (i + 0) = F (i + (j - i)); rw [Nat.add_zero, show i + (j - i) = j by omega, a3]
  have cs : sm w (fun t => F (i + t)) (j - i) = sm w F j - sm w F i := by rw [sm_shift, show i + (j - i) = j by omega]
  have le0 : sm (fun u v => D * w u v - N) (fun t => F (i + t)) (j - i) ≤ 0 := by
    rw [sm_lin, cs]
    have e : (n : Int) - ((n - (j - i) : Nat) : Int) = ((j - i : Nat) : Int) := by omega
    rw [e] at l0
    have : (sm w F j - sm w F i) * D ≤ (xn - x) * D := Int.mul_le_mul_of_nonneg_right (by omega) (by omega)
    rw [Int.mul_comm] at this; omega
  obtain ⟨f, q, q1, g1, g2, g3⟩ := lamL (E := E) hM hw n ⟨_, j - i, by omega, by omega, cw, ce⟩
  have qp : (0 : Int) < q := by omega
  have z : sm (fun u v => (q : Int) * w u v - sm w f q) f q = 0 := by rw [sm_lin, Int.mul_comm]; omega
  have nc : NC n E (fun u v => (q : Int) * w u v - sm w f q) := NC_of fun g k h1 h2 h3 h4 => by
    rw [sm_lin]; have := g3 g k h1 h2 h3 h4; rw [Int.mul_comm (q : Int)]; omega
  have cb : ∀ u v, u < n → v < n → -((q : Int) * M + (sm w f q).natAbs) ≤ (fun u v => (q : Int) * w u v - sm w f q) u v := fun u v hu hv => by
    have h1 := hw u v hu hv
    have h2 : (q : Int) * (-M) ≤ (q : Int) * w u v := Int.mul_le_mul_of_nonneg_left h1 (by omega)
    rw [Int.mul_neg] at h2
    show _ ≤ (q : Int) * w u v - sm w f q
    have h3 : sm w f q ≤ ((sm w f q).natAbs : Int) := by omega
    omega
  have qM : 0 ≤ (q : Int) * M := Int.mul_nonneg (by omega) hM
  have hP := fun v (hv : v < n) => Ph_ex (M := (q : Int) * M + (sm w f q).natAbs) (by omega) cb nc hv
  obtain ⟨φ, hφ⟩ : ∃ φ : Nat → Int, ∀ v, v < n → Ph n E (fun u v => (q : Int) * w u v - sm w f q) v (φ v) :=
    ⟨fun v => if hv : v < n then Classical.choose (hP v hv) else 0, fun v hv => by
      show Ph n E _ v (dite (v < n) _ _)
      rw [dif_pos hv]; exact Classical.choose_spec (hP v hv)⟩
  obtain ⟨G, w1, w2⟩ := Kn hφ q1.1 g1 g2 z
  have yn : G n < n := w1.1 n (Nat.le_refl _)
  have dn : Dr n E w n (G n) (sm w G n) := ⟨⟨G, w1, rfl, rfl⟩, fun f' u1 u2 => by
    have := (hφ _ yn).2 f' n u1 u2
    rw [← w2, sm_lin, sm_lin] at this
    exact Int.le_of_mul_le_mul_left (a := (q : Int)) (by omega) qp⟩
  obtain ⟨k, y, k1, ⟨⟨G', u1, u2, u3⟩, -⟩, k3⟩ := hb _ _ yn dn
  have r1 := (hφ _ yn).2 G' k u1 u2
  rw [← w2, sm_lin, sm_lin, u3] at r1
  have nk : (0 : Int) < (n : Int) - k := by omega
  have key : N * q ≤ D * sm w f q := by
    have e1 : ((n : Int) - k) * (N * q) ≤ ((n : Int) - k) * (D * sm w f q) := by
      have s1 : N * ((n : Int) - k) * q ≤ (sm w G n - y) * D * q := Int.mul_le_mul_of_nonneg_right k3 (by omega)
      have s2 : (q : Int) * (sm w G n - y) ≤ sm w f q * ((n : Int) - k) := by rw [Int.mul_sub, Int.mul_sub]; omega
      have s3 : D * ((q : Int) * (sm w G n - y)) ≤ D * (sm w f q * ((n : Int) - k)) := Int.mul_le_mul_of_nonneg_left s2 (by omega)
      have t1 : ((n : Int) - k) * (N * q) = N * ((n : Int) - k) * q := by ac_rfl
      have t2 : D * ((q : Int) * (sm w G n - y)) = (sm w G n - y) * D * q := by ac_rfl
      have t3 : D * (sm w f q * ((n : Int) - k)) = ((n : Int) - k) * (D * sm w f q) := by ac_rfl
      rw [t1, ← t3]; rw [← t2] at s1; omega
    exact Int.le_of_mul_le_mul_left e1 nk
  have NCc : NC n E (fun u v => D * w u v - N) := NC_of fun g k h1 h2 h3 h4 => by
    rw [sm_lin]
    have s1 := g3 g k h1 h2 h3 h4
    have s2 : N * q * k ≤ D * sm w f q * k := Int.mul_le_mul_of_nonneg_right key (by omega)
    have s3 : D * (sm w f q * k) ≤ D * (sm w g k * q) := Int.mul_le_mul_of_nonneg_left s1 (by omega)
    have e1 : (q : Int) * (N * k) ≤ (q : Int) * (D * sm w g k) := by
      have t1 : (q : Int) * (N * k) = N * q * k := by ac_rfl
      have t2 : (q : Int) * (D * sm w g k) = D * (sm w g k * q) := by ac_rfl
      have t3 : D * sm w f q * k = D * (sm w f q * k) := by ac_rfl
      rw [t1, t2]; omega
    have := Int.le_of_mul_le_mul_left e1 qp
    omega
  refine ⟨NCc, _, j - i, by omega, by omega, cw, ce, ?_⟩
  have := NCc _ (j - i) (by omega) cw ce
  omega
end L

section M
variable {lw : LW} {H : AH} {p : Nat} {s s' s'' : St} {Q : Option Value → AH → Prop} {x y : Int32} {i j k m n kk nn u v : Nat}
def GI (s : St) (n : Nat) : Prop := (sI s 0 = Int32.ofNat n ∧ 1 ≤ n ∧ n ≤ 24) ∧ sJ s 16 = 4000000000000000000 ∧ ∀ i, i < 576 → sA s 1 i ≠ 0 → i / 24 < n ∧ i % 24 < n ∧ -10000 ≤ (sA s 2 i).toInt ∧ (sA s 2 i).toInt ≤ 10000
def gE (s : St) (u v : Nat) : Prop := sA s 1 (u * 24 + v) ≠ 0
def gw (s : St) (u v : Nat) : Int := if sA s 1 (u * 24 + v) ≠ 0 ∧ u < 24 ∧ v < 24 then (sA s 2 (u * 24 + v)).toInt else 0
theorem GI.of (h : GI s n) (h0 : sI s' 0 = sI s 0) (h16 : sJ s' 16 = sJ s 16) (h1 : ∀ i, sA s' 1 i = sA s 1 i) (h2 : ∀ i, sA s' 2 i = sA s 2 i) : GI s' n := by
  unfold GI; rw [h0, h16]; exact ⟨h.1, h.2.1, fun i hi => by rw [h1, h2]; exact h.2.2 i hi⟩
theorem gE_of (h1 : ∀ i, sA s' 1 i = sA s 1 i) : gE s' = gE s := by funext u v; unfold gE; rw [h1]
theorem gw_of (h1 : ∀ i, sA s' 1 i = sA s 1 i) (h2 : ∀ i, sA s' 2 i = sA s 2 i) : gw s' = gw s := by funext u v; unfold gw; rw [h1, h2]
theorem GI.gb (h : GI s n) (u v : Nat) : -10000 ≤ gw s u v ∧ gw s u v ≤ 10000 := by
  unfold gw; split
  · rename_i g; exact (h.2.2 _ (by omega) g.1).2.2
  · omega
theorem m24 : Int32.ofNat u * 24 + Int32.ofNat v = Int32.ofNat (u * 24 + v) := by rw [Int32.ofNat_add, Int32.ofNat_mul]; rfl
theorem s1m : Int32.ofNat (k + 1) - 1 = Int32.ofNat k := by rw [Int32.ofNat_add]; exact Int32.add_sub_cancel _ _
theorem d24 (h : i < 1000) : Int32.ofNat i / 24 = Int32.ofNat (i / 24) := by
  have e : (24 : Int32).toInt = 24 := rfl
  rw [eq32, Int32.toInt_div, (ofi h).1, (ofi (i := i / 24) (by omega)).1, e, Int.tdiv_eq_ediv_of_nonneg (by omega), Int.bmod_eq_of_le (by omega) (by omega)]
  omega
theorem rm24 (h : i < 1000) : Int32.ofNat i % 24 = Int32.ofNat (i % 24) := by
  have e : (24 : Int32).toInt = 24 := rfl
  rw [eq32, Int32.toInt_mod, (ofi h).1, (ofi (i := i % 24) (by omega)).1, e, Int.tmod_eq_emod_of_nonneg (by omega)]
  omega
def rk (s : St) (k i : Nat) : St := if sB s 6 (k * 24 + i / 24) = sJ s 16 then s else
  if sB s 6 (k * 24 + i / 24) + (sA s 2 i).toInt64 < sB s 6 ((k + 1) * 24 + i % 24) then uB s 6 ((k + 1) * 24 + i % 24) (sB s 6 (k * 24 + i / 24) + (sA s 2 i).toInt64) else s
set_option maxRecDepth 100000 in
theorem t15 (hk : k < 24) (hi : i < 576) : Cl (pj lw) 15 [.ref p, .int (Int32.ofNat (k + 1)), .int (Int32.ofNat i)] (ob H p s) Q ↔ Q none (ob H p (rk s k i)) := by
  have e1 := d24 (i := i) (by omega)
  have e2 := rm24 (i := i) (by omega)
  have e3 := s1m (k := k)
  have e4 := m24 (u := k) (v := i / 24)
  have e5 := m24 (u := k + 1) (v := i % 24)
  obtain ⟨a1, a2⟩ := ofi (i := k * 24 + i / 24) (by omega)
  obtain ⟨b1, b2⟩ := ofi (i := (k + 1) * 24 + i % 24) (by omega)
  obtain ⟨c1, c2⟩ := ofi (i := i) (by omega)
  have r1 : 0 ≤ (Int32.ofNat (k * 24 + i / 24)).toInt ∧ (Int32.ofNat (k * 24 + i / 24)).toInt < 600 := by omega
  have r2 : 0 ≤ (Int32.ofNat ((k + 1) * 24 + i % 24)).toInt ∧ (Int32.ofNat ((k + 1) * 24 + i % 24)).toInt < 600 := by omega
  have r3 : 0 ≤ (Int32.ofNat i).toInt ∧ (Int32.ofNat i).toInt < 576 := by omega
  rw [c15]; unfold rk
  by_cases q1 : sB s 6 (k * 24 + i / 24) = sJ s 16
  · rw [if_pos q1]
    have q1' := eq_true q1
    simp +decide only [w15_0, w15_1, w15_3, w15_4, w15_5, w15_6, w15_8, w15_9, w15_11, w15_12, w15_15, w15_16, w15_17, w15_18, w15_20, w15_21, w15_22, w15_23, w15_24uu, w15_26, w15_28, w15_29, w15_32, w15_33, w15_36, isO_put, cmpL_eq, true_and, and_true, ↓reduceIte, g11, g16, ai6, ae6, e1, e2, e3, e4, r1, a2, q1']
  · rw [if_neg q1]
    by_cases q2 : sB s 6 (k * 24 + i / 24) + (sA s 2 i).toInt64 < sB s 6 ((k + 1) * 24 + i % 24)
    · rw [if_pos q2]
      simp +decide only [w15_0, w15_1, w15_3, w15_4, w15_5, w15_6, w15_8, w15_9, w15_11, w15_12, w15_15, w15_16, w15_17, w15_18, w15_20, w15_21, w15_22, w15_23, w15_24uu, w15_26, w15_28, w15_29, w15_32, w15_33, w15_37, w15_39, w15_40, w15_43, w15_44, w15_45, w15_46, w15_47uu, w15_49, w15_51, w15_52, w15_55, w15_56, w15_58, w15_59, w15_61, w15_62, w15_63, w15_64, w15_67, w15_68, w15_71, w15_72, w15_74, w15_75, w15_77, w15_78, w15_80, w15_81, isO_put, cmpL_lt, cmpL_eq, true_and, and_true, ↓reduceIte, g3, g11, g16, ai2, ae2, ai6, aw6, ae6, as6, e1, e2, e3, e4, e5, r1, r2, r3, a2, b2, c2, q1, q2]
    · rw [if_neg q2]
      simp +decide only [w15_0, w15_1, w15_3, w15_4, w15_5, w15_6, w15_8, w15_9, w15_11, w15_12, w15_15, w15_16, w15_17, w15_18, w15_20, w15_21, w15_22, w15_23, w15_24uu, w15_26, w15_28, w15_29, w15_32, w15_33, w15_37, w15_39, w15_40, w15_43, w15_44, w15_45, w15_46, w15_47uu, w15_49, w15_51, w15_52, w15_55, w15_56, w15_58, w15_59, w15_61, w15_62, w15_63, w15_64, w15_81, isO_put, cmpL_lt, cmpL_eq, true_and, and_true, ↓reduceIte, g3, g11, g16, ai2, ae2, ai6, ae6, e1, e2, e3, e4, e5, r1, r2, r3, a2, b2, c2, q1, q2]
def Cel6 (z : Int64) (P : Int → Prop) : Prop := (z = 4000000000000000000 ∧ ∀ x, ¬ P x) ∨ ∃ x, z = oi x ∧ P x ∧ ∀ y, P y → x ≤ y
theorem Cel6.congr {z : Int64} {P P' : Int → Prop} (h : Cel6 z P) (e : ∀ x, P x ↔ P' x) : Cel6 z P' := by
  have : P = P' := funext fun x => propext (e x)
  rw [← this]; exact h
def Ps (s : St) (k i v : Nat) (x : Int) : Prop := ∃ u y, u * 24 + v < i ∧ v < 24 ∧ gE s u v ∧ sB s 6 (k * 24 + u) = oi y ∧ -1000000 ≤ y ∧ y ≤ 1000000 ∧ x = y + gw s u v
def Kx (s s' : St) (k i : Nat) : Prop := ((∀ t, sI s' t = sI s t) ∧ (∀ t, sJ s' t = sJ s t) ∧ (∀ t j, sA s' t j = sA s t j) ∧ ∀ t j, t ≠ 6 → sB s' t j = sB s t j) ∧ (∀ j, (j < (k + 1) * 24 ∨ (k + 1) * 24 + 24 ≤ j) → sB s' 6 j = sB s 6 j) ∧ ∀ v, v < 24 → Cel6 (sB s' 6 ((k + 1) * 24 + v)) (Ps s k i v)
def Rw (s : St) (k : Nat) : Prop := ∀ u, u < 24 → sB s 6 (k * 24 + u) = 4000000000000000000 ∨ ∃ y, sB s 6 (k * 24 + u) = oi y ∧ -1000000 ≤ y ∧ y ≤ 1000000
theorem Kx_step (G : GI s n) (hR : Rw s k) (hi : i < 576) (h : Kx s s' k i) : Kx s (if sA s' 1 i = 0 then s' else rk s' k i) k (i + 1) := by
  obtain ⟨⟨h1, h2, h3, h4⟩, h5, h6⟩ := h
  have old : ∀ v, v < 24 → v ≠ i % 24 → ∀ x, Ps s k i v x ↔ Ps s k (i + 1) v x := fun v hv hne x => by
    unfold Ps
    constructor
    · rintro ⟨u, y, a1, a2⟩; exact ⟨u, y, by omega, a2⟩
    · rintro ⟨u, y, a1, a2⟩; exact ⟨u, y, by omega, a2⟩
  have vl : i % 24 < 24 := Nat.mod_lt _ (by decide)
  have ul : i / 24 < 24 := by omega
  have ei : i / 24 * 24 + i % 24 = i := by omega
  by_cases q : sA s' 1 i = 0
  · rw [if_pos q]
    rw [h3] at q
    refine ⟨⟨h1, h2, h3, h4⟩, h5, fun v hv => (h6 v hv).congr fun x => ?_⟩
    unfold Ps
    constructor
    · rintro ⟨u, y, a1, a2⟩; exact ⟨u, y, by omega, a2⟩
    · rintro ⟨u, y, a1, a2, a3, a4⟩
      refine ⟨u, y, ?_, a2, a3, a4⟩
      have : u * 24 + v ≠ i := fun e => a3 (by rw [e]; exact q)
      omega
  · rw [if_neg q]
    rw [h3] at q
    have ew : (sA s' 2 i).toInt64 = oi (gw s (i / 24) (i % 24)) := by
      rw [h3, oi_32]; unfold gw; rw [ei, if_pos ⟨q, ul, vl⟩]
    have wb := G.gb (i / 24) (i % 24)
    have er : sB s' 6 (k * 24 + i / 24) = sB s 6 (k * 24 + i / 24) := h5 _ (by omega)
    have ej : sJ s' 16 = 4000000000000000000 := by rw [h2]; exact G.2.1
    have new : ∀ y, sB s 6 (k * 24 + i / 24) = oi y → (-1000000 ≤ y ∧ y ≤ 1000000) → ∀ x, Ps s k (i + 1) (i % 24) x ↔ (Ps s k i (i % 24) x ∨ x = y + gw s (i / 24) (i % 24)) := fun y hy hb x => by
      unfold Ps
      constructor
      · rintro ⟨u, y', a1, a2, a3, a4, a5, a6, a7⟩
        by_cases e : u = i / 24
        · subst e
          rw [hy] at a4
          have := (oi_eq (by omega) (by omega)).1 a4
          exact Or.inr (by rw [a7, this])
        · exact Or.inl ⟨u, y', by omega, a2, a3, a4, a5, a6, a7⟩
      · rintro (⟨u, y', a1, a2⟩ | rfl)
        · exact ⟨u, y', by omega, a2⟩
        · exact ⟨i / 24, y, by omega, vl, by unfold gE; rw [ei]; exact q, hy, hb.1, hb.2, rfl⟩
    unfold rk; rw [ej, er, ew]
    rcases hR (i / 24) ul with e | ⟨y, e, eb⟩
    · rw [if_pos e]
      refine ⟨⟨h1, h2, h3, h4⟩, h5, fun v hv => ?_⟩
      by_cases hv2 : v = i % 24
      · refine (h6 v hv).congr fun x => ?_
        subst hv2
        unfold Ps
        constructor
        · rintro ⟨u, y, a1, a2⟩; exact ⟨u, y, by omega, a2⟩
        · rintro ⟨u, y, a1, a2, a3, a4, a5, a6, a7⟩
          refine ⟨u, y, ?_, a2, a3, a4, a5, a6, a7⟩
          have : u ≠ i / 24 := fun w => by
            rw [w, e] at a4
            exact (oi_inf (x := y) (by omega)).2 a4.symm
          omega
      · exact (h6 v hv).congr (old v hv hv2)
    · rw [e, oi_add, if_neg (oi_inf (x := y) (by omega)).2]
      have nw := new y e eb
      rcases h6 (i % 24) vl with ⟨g1, g2⟩ | ⟨z, g1, g2, g3⟩
      · rw [g1, if_pos (oi_inf (x := y + gw s (i / 24) (i % 24)) (by omega)).1]
        refine ⟨⟨fun t => by rw [sI_uB]; exact h1 t, fun t => by rw [sJ_uB]; exact h2 t, fun t j => by rw [sA_uB]; exact h3 t j, fun t j ht => by rw [sB_uB, if_neg (fun w => ht w.1)]; exact h4 t j ht⟩, fun j hj => by rw [sB_uB, if_neg (by omega)]; exact h5 j hj, fun v hv => ?_⟩
        by_cases hv2 : v = i % 24
        · subst hv2
          rw [sB_uB, if_pos ⟨rfl, rfl⟩]
          exact Or.inr ⟨_, rfl, (nw _).2 (Or.inr rfl), fun y' hy' => ((nw y').1 hy').elim (fun w => absurd w (g2 y')) (fun w => by omega)⟩
        · rw [sB_uB, if_neg (by omega)]
          exact (h6 v hv).congr (old v hv hv2)
      · obtain ⟨u0, y0, -, -, -, -, k1, k2, k3⟩ := id g2
        have wb0 := G.gb u0 (i % 24)
        rw [g1]
        by_cases hc : y + gw s (i / 24) (i % 24) < z
        · rw [if_pos ((oi_lt (by omega) (by omega)).2 hc)]
          refine ⟨⟨fun t => by rw [sI_uB]; exact h1 t, fun t => by rw [sJ_uB]; exact h2 t, fun t j => by rw [sA_uB]; exact h3 t j, fun t j ht => by rw [sB_uB, if_neg (fun w => ht w.1)]; exact h4 t j ht⟩, fun j hj => by rw [sB_uB, if_neg (by omega)]; exact h5 j hj, fun v hv => ?_⟩
          by_cases hv2 : v = i % 24
          · subst hv2
            rw [sB_uB, if_pos ⟨rfl, rfl⟩]
            exact Or.inr ⟨_, rfl, (nw _).2 (Or.inr rfl), fun y' hy' => ((nw y').1 hy').elim (fun w => by have := g3 y' w; omega) (fun w => by omega)⟩
          · rw [sB_uB, if_neg (by omega)]
            exact (h6 v hv).congr (old v hv hv2)
        · rw [if_neg (fun w => hc ((oi_lt (by omega) (by omega)).1 w))]
          refine ⟨⟨h1, h2, h3, h4⟩, h5, fun v hv => ?_⟩
          by_cases hv2 : v = i % 24
          · subst hv2
            rw [g1]
            exact Or.inr ⟨z, rfl, (nw z).2 (Or.inl g2), fun y' hy' => ((nw y').1 hy').elim (fun w => g3 y' w) (fun w => by omega)⟩
          · exact (h6 v hv).congr (old v hv hv2)
set_option maxRecDepth 100000 in
theorem l14_60 (G : GI s n) (hk : k < 24) (hR : Rw s k) (K : ∀ s', Kx s s' k 576 → W (pj lw) 14 88 [.val (.ref p), .val (.int (Int32.ofNat (k + 1))), .val (.int (Int32.ofNat 576))] [] kk nn (ob H p s') Q) (m : Nat) :
    ∀ (i : Nat) (s' : St), i + m = 576 → Kx s s' k i → W (pj lw) 14 60 [.val (.ref p), .val (.int (Int32.ofNat (k + 1))), .val (.int (Int32.ofNat i))] [] kk nn (ob H p s') Q := by
  induction m with
  | zero =>
    intro i s' hi hK
    obtain rfl : i = 576 := by omega
    have h1 : ¬ Int32.ofNat 576 < 576 := by decide
    rw [w14_60]; simp +decide only [w14_61, w14_64, ↓reduceIte]
    exact K s' hK
  | succ m ih =>
    intro i s' hi hK
    obtain ⟨e1, e2⟩ := ofi (i := i) (by omega)
    have h1 : Int32.ofNat i < 576 := by rw [lt32, e1]; simp only [Int32.reduceToInt]; omega
    have hb : 0 ≤ (Int32.ofNat i).toInt ∧ (Int32.ofNat i).toInt < 576 := by omega
    have key := ih (i + 1) _ (by omega) (Kx_step G hR (by omega) hK)
    have T := fun Q => t15 (lw := lw) (H := H) (p := p) (s := s') (Q := Q) hk (show i < 576 by omega)
    rw [w14_60]
    by_cases q : sA s' 1 i = 0
    · rw [if_pos q] at key
      simp +decide only [w14_61, w14_64, w14_67, w14_68, w14_71, w14_72, w14_73, w14_82, w14_85, isO_put, true_and, and_true, or_true, ↓reduceIte, g2, ai1, ain1, ae1, ain1, h1, hb, e2, q, ofs]; exact key
    · rw [if_neg q] at key
      simp +decide only [w14_61, w14_64, w14_67, w14_68, w14_71, w14_72, w14_73, w14_76, w14_77, w14_78, w14_79, w14_82, w14_85, isO_put, Option.toList_none, List.nil_append, true_and, and_true, or_true, ↓reduceIte, g2, ai1, ain1, ae1, ain1, h1, hb, e2, q, ofs, T]; exact key
end M

section N
variable {lw : LW} {H : AH} {p : Nat} {s s' s'' : St} {Q : Option Value → AH → Prop} {x y : Int32} {i j k m n kk nn u v : Nat}
def wkP (s : St) (n k v : Nat) (x : Int) : Prop := ∃ f, Wf n (gE s) f k ∧ f k = v ∧ sm (gw s) f k = x
def RW (s : St) (n k : Nat) : Prop := ∀ v, v < 24 → Cel6 (sB s 6 (k * 24 + v)) (wkP s n k v)
theorem sm_le {c : Nat → Nat → Int} {M : Int} (hM : 0 ≤ M) (hc : ∀ u v, u < n → v < n → c u v ≤ M) : ∀ (k : Nat) (f : Nat → Nat), (∀ i, i ≤ k → f i < n) → sm c f k ≤ M * k
  | 0, f, _ => by simp [sm]
  | k + 1, f, h => by
    have a := sm_le hM hc k f fun i hi => h i (by omega)
    have b := hc (f k) (f (k + 1)) (h k (by omega)) (h (k + 1) (Nat.le_refl _))
    rw [sm]
    have e : M * ((k + 1 : Nat) : Int) = M * (k : Int) + M := by rw [Int.natCast_add, Int.mul_add]; simp
    omega
theorem wk_b (G : GI s n) {x : Int} (hk : k ≤ 24) (h : wkP s n k v x) : -1000000 ≤ x ∧ x ≤ 1000000 := by
  obtain ⟨f, h1, h2, h3⟩ := h
  have a := sm_ge (c := gw s) (n := n) (M := 10000) (by omega) (fun u v _ _ => (G.gb u v).1) k f h1.1
  have b := sm_le (c := gw s) (n := n) (M := 10000) (by omega) (fun u v _ _ => (G.gb u v).2) k f h1.1
  omega
theorem RW.rw (G : GI s n) (hk : k ≤ 24) (h : RW s n k) : Rw s k := fun u hu => by
  rcases h u hu with ⟨a, _⟩ | ⟨x, a, b, _⟩
  · exact Or.inl a
  · exact Or.inr ⟨x, a, wk_b G hk b⟩
theorem RW.dr (h : RW s n k) (hv : v < 24) : (sB s 6 (k * 24 + v) = 4000000000000000000 ∧ ∀ x, ¬ wkP s n k v x) ∨ ∃ x, sB s 6 (k * 24 + v) = oi x ∧ Dr n (gE s) (gw s) k v x := by
  rcases h v hv with a | ⟨x, a, b, c⟩
  · exact Or.inl a
  · exact Or.inr ⟨x, a, b, fun f h1 h2 => c _ ⟨f, h1, h2, rfl⟩⟩
theorem RW.of (h : RW s n k) (h1 : ∀ i, sA s' 1 i = sA s 1 i) (h2 : ∀ i, sA s' 2 i = sA s 2 i) (h6 : ∀ v, v < 24 → sB s' 6 (k * 24 + v) = sB s 6 (k * 24 + v)) : RW s' n k := fun v hv => by
  rw [h6 v hv]
  have : wkP s' n k v = wkP s n k v := by unfold wkP; rw [gE_of h1, gw_of h1 h2]
  rw [this]; exact h v hv
theorem RW_next (G : GI s n) (hk : k < 24) (h : RW s n k) (hK : Kx s s' k 576) : RW s' n (k + 1) := fun v hv => by
  have hn := G.1.2.2
  have e : wkP s' n (k + 1) v = wkP s n (k + 1) v := by unfold wkP; rw [gE_of (hK.1.2.2.1 1), gw_of (hK.1.2.2.1 1) (hK.1.2.2.1 2)]
  rw [e]
  have ps : ∀ x, Ps s k 576 v x → wkP s n (k + 1) v x := fun x ⟨u, y, a1, a2, a3, a4, a5, a6, a7⟩ => by
    have hg := G.2.2 (u * 24 + v) (by omega) a3
    have hu : u < n := by have : (u * 24 + v) / 24 = u := by omega
                          omega
    have hvn : v < n := by have : (u * 24 + v) % 24 = v := by omega
                           omega
    rcases h u (by omega) with ⟨b1, _⟩ | ⟨z, b1, ⟨f, c1, c2, c3⟩, _⟩
    · rw [a4] at b1; exact absurd b1 (oi_inf (x := y) (by omega)).2
    · rw [a4] at b1
      have zb := wk_b G (by omega) ⟨f, c1, c2, c3⟩
      have ez := (oi_eq (x := y) (y := z) (by omega) (by omega)).1 b1
      have := c1.ext (c := gw s) hvn (by rw [c2]; exact a3)
      exact ⟨_, this.1, this.2.1, by rw [this.2.2, c3, c2, ← ez, a7]⟩
  have sp : ∀ x, wkP s n (k + 1) v x → ∃ x', Ps s k 576 v x' ∧ x' ≤ x := fun x ⟨f, c1, c2, c3⟩ => by
    have hu : f k < n := c1.1 k (by omega)
    have hvn : f (k + 1) < n := c1.1 (k + 1) (Nat.le_refl _)
    have ar := c1.2 k (by omega)
    rw [c2] at ar hvn
    have wk : wkP s n k (f k) (sm (gw s) f k) := ⟨f, c1.le (by omega), rfl, rfl⟩
    rcases h (f k) (by omega) with ⟨_, b2⟩ | ⟨z, b1, b2, b3⟩
    · exact absurd wk (b2 _)
    · have zb := wk_b G (by omega) b2
      refine ⟨z + gw s (f k) v, ⟨f k, z, by omega, hv, ar, b1, zb.1, zb.2, rfl⟩, ?_⟩
      have := b3 _ wk
      rw [← c3, sm, c2]; omega
  rcases hK.2.2 v hv with ⟨a1, a2⟩ | ⟨x, a1, a2, a3⟩
  · refine Or.inl ⟨a1, fun x hx => ?_⟩
    obtain ⟨x', b1, _⟩ := sp x hx
    exact a2 x' b1
  · refine Or.inr ⟨x, a1, ps x a2, fun y hy => ?_⟩
    obtain ⟨x', b1, b2⟩ := sp y hy
    have := a3 x' b1
    omega
def Tb (s s' : St) (n k : Nat) : Prop := ((∀ t, sI s' t = sI s t) ∧ (∀ t, sJ s' t = sJ s t) ∧ (∀ t j, sA s' t j = sA s t j) ∧ ∀ t j, t ≠ 6 → sB s' t j = sB s t j) ∧ (∀ k', k' ≤ k → RW s' n k') ∧ ∀ j, (k + 1) * 24 ≤ j → j < 600 → sB s' 6 j = 4000000000000000000
theorem Tb.gi (h : Tb s s' n k) (G : GI s n) : GI s' n := G.of (h.1.1 0) (h.1.2.1 16) (h.1.2.2.1 1) (h.1.2.2.1 2)
set_option maxHeartbeats 1000000 in
theorem Tb.next (h : Tb s s' n k) (G : GI s n) (hk : k < n) (hK : Kx s' s'' k 576) : Tb s s'' n (k + 1) := by
  have G' := h.gi G
  have hn := G.1.2.2
  refine ⟨⟨fun t => (hK.1.1 t).trans (h.1.1 t), fun t => (hK.1.2.1 t).trans (h.1.2.1 t), fun t j => (hK.1.2.2.1 t j).trans (h.1.2.2.1 t j), fun t j ht => (hK.1.2.2.2 t j ht).trans (h.1.2.2.2 t j ht)⟩, fun k' hk' => ?_, fun j h1 h2 => ?_⟩
  · by_cases e : k' = k + 1
    · subst e; exact RW_next G' (by omega) (h.2.1 k (Nat.le_refl _)) hK
    · exact (h.2.1 k' (by omega)).of (hK.1.2.2.1 1) (hK.1.2.2.1 2) fun v hv => hK.2.1 _ (Or.inl (by omega))
  · have aux : ∀ a b : Nat, (a + 1 + 1) * 24 ≤ b → (a + 1) * 24 + 24 ≤ b ∧ (a + 1) * 24 ≤ b := fun a b w => by omega
    obtain ⟨e1, e2⟩ := aux k j h1
    exact (hK.2.1 j (Or.inr e1)).trans (h.2.2 j e2 h2)
theorem Kx_0 (h : Tb s s' n k) (hk : k < 24) : Kx s' s' k 0 := by
  refine ⟨⟨fun _ => rfl, fun _ => rfl, fun _ _ => rfl, fun _ _ _ => rfl⟩, fun _ _ => rfl, fun v hv => Or.inl ⟨h.2.2 _ (by omega) (by omega), fun x => ?_⟩⟩
  rintro ⟨u, y, a1, _⟩; omega
set_option maxRecDepth 100000 in
theorem l14_50 (G : GI s n) (K : ∀ s', Tb s s' n n → W (pj lw) 14 94 [.val (.ref p), .val (.int (Int32.ofNat (n + 1))), .unset] [] kk nn (ob H p s') Q) (m : Nat) :
    ∀ (k : Nat) (s' : St), k + m = n → Tb s s' n k → W (pj lw) 14 50 [.val (.ref p), .val (.int (Int32.ofNat (k + 1))), .unset] [] kk nn (ob H p s') Q := by
  have hn := G.1.2
  induction m with
  | zero =>
    intro k s' hk hT
    obtain rfl : k = n := by omega
    have G' := hT.gi G
    have n0 := G'.1.1
    have h1 : Int32.ofNat k < Int32.ofNat (k + 1) := by rw [lt32, (ofi (by omega)).1, (ofi (by omega)).1]; omega
    rw [w14_50]; simp +decide only [w14_51, w14_52, w14_55, isO_put, true_and, ↓reduceIte, g0, n0, h1]
    exact K s' hT
  | succ m ih =>
    intro k s' hk hT
    have G' := hT.gi G
    have n0 := G'.1.1
    have h1 : ¬ Int32.ofNat n < Int32.ofNat (k + 1) := by rw [lt32, (ofi (by omega)).1, (ofi (by omega)).1]; omega
    have o0 : Int32.ofNat 0 = 0 := rfl
    rw [w14_50]; simp +decide only [w14_51, w14_52, w14_55, w14_58, w14_59, isO_put, true_and, ↓reduceIte, g0, n0, h1]
    rw [← o0]
    refine l14_60 G' (show k < 24 by omega) ((hT.2.1 k (Nat.le_refl _)).rw G' (by omega)) (fun s2 hK => ?_) 576 0 s' (by omega) (Kx_0 hT (by omega))
    refine W_fa 2 rfl ?_
    show W (pj lw) 14 88 [.val (.ref p), .val (.int (Int32.ofNat (k + 1))), .unset] [] kk nn (ob H p s2) Q
    simp +decide only [w14_88, w14_91, ofs]
    exact ih (k + 1) s2 (by omega) (hT.next G (by omega) hK)
def VX (s : St) (n v : Nat) (xn N D : Int) : Prop := (∃ k x, k < n ∧ Dr n (gE s) (gw s) k v x ∧ N = xn - x ∧ D = (n : Int) - k) ∧ ∀ k x, k < n → Dr n (gE s) (gw s) k v x → (xn - x) * D ≤ N * ((n : Int) - k)
theorem Dr.uniq {E : Nat → Nat → Prop} {w : Nat → Nat → Int} {x y : Int} (h : Dr n E w k v x) (g : Dr n E w k v y) : x = y := by
  obtain ⟨⟨f, a1, a2, a3⟩, a4⟩ := h
  obtain ⟨⟨f', b1, b2, b3⟩, b4⟩ := g
  have := a4 f' b1 b2
  have := b4 f a1 a2
  omega
theorem Dr.wk {x : Int} (h : Dr n (gE s) (gw s) k v x) : wkP s n k v x := h.1
def VP (s : St) (n v K : Nat) (xn N D : Int) : Prop := (∃ k x, k < K ∧ Dr n (gE s) (gw s) k v x ∧ N = xn - x ∧ D = (n : Int) - k) ∧ ∀ k x, k < K → Dr n (gE s) (gw s) k v x → (xn - x) * D ≤ N * ((n : Int) - k)
theorem ftr {a b c d e f : Int} (hb : 0 < b) (hd : 0 < d) (hf : 0 < f) (h1 : a * d ≤ c * b) (h2 : c * f ≤ e * d) : a * f ≤ e * b := by
  have s1 : a * d * f ≤ c * b * f := Int.mul_le_mul_of_nonneg_right h1 (by omega)
  have s2 : c * f * b ≤ e * d * b := Int.mul_le_mul_of_nonneg_right h2 (by omega)
  have e1 : d * (a * f) ≤ d * (e * b) := by
    have t1 : d * (a * f) = a * d * f := by ac_rfl
    have t2 : d * (e * b) = e * d * b := by ac_rfl
    have t3 : c * b * f = c * f * b := by ac_rfl
    rw [t1, t2]; omega
  exact Int.le_of_mul_le_mul_left e1 hd
theorem pb {a b : Int} (ha : -2000000 ≤ a ∧ a ≤ 2000000) (hb : 0 ≤ b ∧ b ≤ 24) : -1000000000000000000 ≤ a * b ∧ a * b ≤ 1000000000000000000 := by
  have h1 : a * b ≤ 2000000 * b := Int.mul_le_mul_of_nonneg_right ha.2 hb.1
  have h2 : -2000000 * b ≤ a * b := Int.mul_le_mul_of_nonneg_right ha.1 hb.1
  omega
def sv (s : St) (N D : Int64) : St := uJ (uJ s 19 N) 20 D
set_option maxRecDepth 100000 in
set_option maxHeartbeats 1000000 in
theorem l16_31 (G : GI s n) (hR : ∀ k, k ≤ n → RW s n k) (hv : v < n) {xn : Int} (hx : Dr n (gE s) (gw s) n v xn) (K : ∀ N D, VX s n v xn N D → Q none (ob H p (sv s (oi N) (oi D)))) (m : Nat) :
    ∀ (k : Nat) (N D : Int) (ft : Int32) (z1 z2 z3 z4 z5 z6 : Slot), k + m = n → ((ft = 1 ∧ k = 0) ∨ (ft = 0 ∧ VP s n v k xn N D)) →
    W (pj lw) 16 31 [.val (.ref p), .val (.int (Int32.ofNat v)), .val (.long (oi xn)), .second, .val (.int ft), .val (.int (Int32.ofNat k)), .unset, .unset, .unset, .unset, .unset, .unset] [] kk nn (ob H p (sv s (oi N) (oi D))) Q := by
  have hn := G.1.2
  have nv := (ofi (i := v) (by omega)).1
  have xb := wk_b G (by omega) hx.wk
  induction m with
  | zero =>
    intro k N D ft z1 z2 z3 z4 z5 z6 hk hV
    obtain rfl : k = n := by omega
    have n0 : sI (sv s (oi N) (oi D)) 0 = Int32.ofNat k := by unfold sv; rw [sI_uJ, sI_uJ]; exact G.1.1
    have h1 : ¬ Int32.ofNat k < Int32.ofNat k := by rw [lt32]; omega
    rw [w16_31]; simp +decide only [w16_33, w16_34, w16_37, w16_127, isO_put, true_and, ↓reduceIte, g0, n0, h1]
    rcases hV with ⟨_, w⟩ | ⟨_, w⟩
    · omega
    · exact K N D w
  | succ m ih =>
    intro k N D ft z1 z2 z3 z4 z5 z6 hk hV
    have n0 : sI (sv s (oi N) (oi D)) 0 = Int32.ofNat n := by unfold sv; rw [sI_uJ, sI_uJ]; exact G.1.1
    have j16 : sJ (sv s (oi N) (oi D)) 16 = 4000000000000000000 := by unfold sv; rw [sJ_uJ, if_neg (by decide), sJ_uJ, if_neg (by decide)]; exact G.2.1
    have j19 : sJ (sv s (oi N) (oi D)) 19 = oi N := by unfold sv; rw [sJ_uJ, if_neg (by decide), sJ_uJ, if_pos rfl]
    have j20 : sJ (sv s (oi N) (oi D)) 20 = oi D := by unfold sv; rw [sJ_uJ, if_pos rfl]
    have b6 : ∀ i, sB (sv s (oi N) (oi D)) 6 i = sB s 6 i := fun i => by unfold sv; rw [sB_uJ, sB_uJ]
    have h1 : Int32.ofNat k < Int32.ofNat n := by rw [lt32, (ofi (by omega)).1, (ofi (by omega)).1]; omega
    have e4 := m24 (u := k) (v := v)
    obtain ⟨a1, a2⟩ := ofi (i := k * 24 + v) (by omega)
    have r1 : 0 ≤ (Int32.ofNat (k * 24 + v)).toInt ∧ (Int32.ofNat (k * 24 + v)).toInt < 600 := by omega
    have en : (Int32.ofNat n - Int32.ofNat k).toInt64 = oi ((n : Int) - k) := by
      rw [oi_32, isb (by rw [(ofi (i := n) (by omega)).1, (ofi (i := k) (by omega)).1]; omega) (by rw [(ofi (i := n) (by omega)).1, (ofi (i := k) (by omega)).1]; omega), (ofi (i := n) (by omega)).1, (ofi (i := k) (by omega)).1]
    rw [w16_31]
    rcases (hR k (by omega)).dr (show v < 24 by omega) with ⟨q1, q2⟩ | ⟨x, q1, q2⟩
    · simp +decide only [w16_33, w16_34, w16_37, w16_40, w16_41, w16_44, w16_46, w16_48, w16_49, w16_50, w16_51, w16_52uu, w16_54, w16_56, w16_57, w16_60, w16_61, w16_64, isO_put, true_and, and_true, ↓reduceIte, g0, g11, g16, ai6, ae6, n0, h1, e4, r1, a2, b6, q1, j16]
      refine W_fa 6 rfl ?_
      show W (pj lw) 16 121 [.val (.ref p), .val (.int (Int32.ofNat v)), .val (.long (oi xn)), .second, .val (.int ft), .val (.int (Int32.ofNat k)), .unset, .unset, .unset, .unset, .unset, .unset] [] kk nn (ob H p (sv s (oi N) (oi D))) Q
      simp +decide only [w16_121, w16_124, ofs]
      refine ih (k + 1) N D ft z1 z2 z3 z4 z5 z6 (by omega) ?_
      rcases hV with ⟨_, w⟩ | ⟨w1, ⟨k0, x0, w2⟩, w3⟩
      · subst w
        exact absurd ⟨fun _ => v, ⟨fun _ _ => hv, fun i hi => absurd hi (by omega)⟩, rfl, rfl⟩ (q2 0)
      · refine Or.inr ⟨w1, ⟨k0, x0, by omega, w2.2⟩, fun k' x' g1 g2 => ?_⟩
        by_cases e : k' = k
        · subst e; exact absurd g2.wk (q2 x')
        · exact w3 k' x' (by omega) g2
    · have xb' := wk_b G (by omega) q2.wk
      have fin := (oi_inf (x := x) (by omega)).2
      have put2 : ∀ {A B : Int64}, uJ (uJ (sv s (oi N) (oi D)) 19 A) 20 B = sv s A B := fun {A B} => by unfold sv; exact uJ4
      have nxt : ∀ (N' D' : Int), VP s n v (k + 1) xn N' D' → W (pj lw) 16 31 [.val (.ref p), .val (.int (Int32.ofNat v)), .val (.long (oi xn)), .second, .val (.int 0), .val (.int (Int32.ofNat (k + 1))), .unset, .unset, .unset, .unset, .unset, .unset] [] kk nn (ob H p (sv s (oi N') (oi D'))) Q := fun N' D' hV' => ih (k + 1) N' D' 0 z1 z2 z3 z4 z5 z6 (by omega) (Or.inr ⟨rfl, hV'⟩)
      rcases hV with ⟨w0, w⟩ | ⟨w0, ⟨k0, x0, c1, c2, c3, c4⟩, w3⟩
      · subst w w0
        simp +decide only [w16_33, w16_34, w16_37, w16_40, w16_41, w16_44, w16_46, w16_48, w16_49, w16_50, w16_51, w16_52uu, w16_54, w16_56, w16_57, w16_60, w16_61, w16_67, w16_68, w16_70, w16_71uu, w16_73, w16_74, w16_77, w16_79, w16_80, w16_81uu, w16_83, w16_85, w16_106, w16_107, w16_109, w16_112, w16_113, w16_115, w16_118, w16_119i, isO_put, isOw_put, okv_long, cmpL_eq, true_and, and_true, ↓reduceIte, g0, g11, g16, s19, s20, ai6, ae6, n0, h1, e4, r1, a2, b6, q1, j16, fin, oi_sub, en]
        rw [put2]
        refine W_fa 6 rfl ?_
        show W (pj lw) 16 121 [.val (.ref p), .val (.int (Int32.ofNat v)), .val (.long (oi xn)), .second, .val (.int 0), .val (.int (Int32.ofNat 0)), .unset, .unset, .unset, .unset, .unset, .unset] [] kk nn (ob H p (sv s (oi (xn - x)) (oi ((n : Int) - ((0 : Nat) : Int))))) Q
        simp +decide only [w16_121, w16_124, Nat.zero_add, ofs]
        refine nxt _ _ ⟨⟨0, x, by omega, q2, rfl, rfl⟩, fun k' x' g1 g2 => ?_⟩
        obtain rfl : k' = 0 := by omega
        rw [q2.uniq g2]; exact Int.le_refl _
      · have kb := wk_b G (by omega) c2.wk
        have D0 : 0 < D ∧ D ≤ 24 := by omega
        have Nb : -2000000 ≤ N ∧ N ≤ 2000000 := by omega
        subst w0
        by_cases cmp : N * ((n : Int) - k) < (xn - x) * D
        · have cmp' := eq_true ((oi_lt (pb Nb (by omega)) (pb (by omega) (by omega))).2 cmp)
          simp +decide only [w16_33, w16_34, w16_37, w16_40, w16_41, w16_44, w16_46, w16_48, w16_49, w16_50, w16_51, w16_52uu, w16_54, w16_56, w16_57, w16_60, w16_61, w16_67, w16_68, w16_70, w16_71uu, w16_73, w16_74, w16_77, w16_79, w16_80, w16_81uu, w16_83, w16_85, w16_88, w16_90, w16_91, w16_94, w16_95, w16_96, w16_99, w16_101, w16_102, w16_103, w16_106, w16_107, w16_109, w16_112, w16_113, w16_115, w16_118, w16_119i, isO_put, isOw_put, okv_long, cmpL_gt, cmpL_eq, true_and, and_true, ↓reduceIte, g0, g11, g16, g19, s19, g20, s20, ai6, ae6, n0, h1, e4, r1, a2, b6, q1, j16, j19, j20, fin, oi_sub, oi_mul, en, cmp']
          rw [put2]
          refine W_fa 6 rfl ?_
          show W (pj lw) 16 121 [.val (.ref p), .val (.int (Int32.ofNat v)), .val (.long (oi xn)), .second, .val (.int 0), .val (.int (Int32.ofNat k)), .unset, .unset, .unset, .unset, .unset, .unset] [] kk nn (ob H p (sv s (oi (xn - x)) (oi ((n : Int) - k)))) Q
          simp +decide only [w16_121, w16_124, ofs]
          refine nxt _ _ ⟨⟨k, x, by omega, q2, rfl, rfl⟩, fun k' x' g1 g2 => ?_⟩
          by_cases e : k' = k
          · subst e; rw [q2.uniq g2]; exact Int.le_refl _
          · exact ftr (a := xn - x') (b := (n : Int) - k') (c := N) (d := D) (e := xn - x) (f := (n : Int) - k) (by omega) D0.1 (by omega) (w3 k' x' (by omega) g2) (by omega)
        · have cmp' := eq_false (fun w => cmp ((oi_lt (pb Nb (by omega)) (pb (by omega) (by omega))).1 w))
          simp +decide only [w16_33, w16_34, w16_37, w16_40, w16_41, w16_44, w16_46, w16_48, w16_49, w16_50, w16_51, w16_52uu, w16_54, w16_56, w16_57, w16_60, w16_61, w16_67, w16_68, w16_70, w16_71uu, w16_73, w16_74, w16_77, w16_79, w16_80, w16_81uu, w16_83, w16_85, w16_88, w16_90, w16_91, w16_94, w16_95, w16_96, w16_99, w16_101, w16_102, w16_103, isO_put, cmpL_gt, cmpL_eq, true_and, and_true, ↓reduceIte, g0, g11, g16, g19, g20, ai6, ae6, n0, h1, e4, r1, a2, b6, q1, j16, j19, j20, fin, oi_sub, oi_mul, en, cmp']
          refine W_fa 6 rfl ?_
          show W (pj lw) 16 121 [.val (.ref p), .val (.int (Int32.ofNat v)), .val (.long (oi xn)), .second, .val (.int 0), .val (.int (Int32.ofNat k)), .unset, .unset, .unset, .unset, .unset, .unset] [] kk nn (ob H p (sv s (oi N) (oi D))) Q
          simp +decide only [w16_121, w16_124, ofs]
          refine nxt _ _ ⟨⟨k0, x0, by omega, c2, c3, c4⟩, fun k' x' g1 g2 => ?_⟩
          by_cases e : k' = k
          · subst e; rw [← q2.uniq g2]; omega
          · exact w3 k' x' (by omega) g2
end N

section O
variable {lw : LW} {H : AH} {p : Nat} {s s' s'' : St} {Q : Option Value → AH → Prop} {x y fd : Int32} {i j k m n kk nn u v : Nat}
def Sk (s s' : St) : Prop := (∀ t, sI s' t = sI s t) ∧ (∀ t, t ≠ 17 → t ≠ 18 → t ≠ 19 → t ≠ 20 → sJ s' t = sJ s t) ∧ (∀ t j, sA s' t j = sA s t j) ∧ ∀ t j, t ≠ 6 → sB s' t j = sB s t j
theorem Sk.gi (h : Sk s s') (G : GI s n) : GI s' n := G.of (h.1 0) (h.2.1 16 (by decide) (by decide) (by decide) (by decide)) (h.2.2.1 1) (h.2.2.1 2)
theorem Dr_of {E E' : Nat → Nat → Prop} {w w' : Nat → Nat → Int} {z : Int} (hE : E' = E) (hw : w' = w) : Dr n E' w' k v z ↔ Dr n E w k v z := by rw [hE, hw]
set_option maxRecDepth 100000 in
theorem v16g (G : GI s n) (hR : ∀ k, k ≤ n → RW s n k) (hv : v < n) {xn : Int} (hx : Dr n (gE s) (gw s) n v xn) (hc : sB s 6 (n * 24 + v) = oi xn) (K : ∀ N D, VX s n v xn N D → Q none (ob H p (sv s (oi N) (oi D)))) : Cl (pj lw) 16 [.ref p, .int (Int32.ofNat v)] (ob H p s) Q := by
  have hn := G.1.2
  have n0 := G.1.1
  have e4 := m24 (u := n) (v := v)
  obtain ⟨a1, a2⟩ := ofi (i := n * 24 + v) (by omega)
  have r1 : 0 ≤ (Int32.ofNat (n * 24 + v)).toInt ∧ (Int32.ofNat (n * 24 + v)).toInt < 600 := by omega
  have o0 : (0 : Int32) = Int32.ofNat 0 := rfl
  have es : uJ (uJ s 19 0) 20 1 = sv s (oi 0) (oi 1) := rfl
  rw [c16]; simp +decide only [w16_0, w16_1, w16_4, w16_5, w16_8, w16_10, w16_11, w16_12, w16_13, w16_14uu, w16_15, w16_16, w16_18, w16_19, w16_20, w16_23, w16_24, w16_25, w16_28, w16_29, isO_put, isOw_put, true_and, and_true, g0, g11, s19, s20, ai6, ae6, n0, e4, r1, a2, hc]
  rw [es, o0]
  exact l16_31 G hR hv hx K n 0 0 1 1 .unset .unset .unset .unset .unset .unset (by omega) (Or.inl ⟨rfl, rfl⟩)
def MI (s s' : St) (n K : Nat) (fd : Int32) : Prop := (fd = 0 ∧ ∀ v, v < K → ∀ x, ¬ wkP s n n v x) ∨
  (fd = 1 ∧ ∃ N D : Int, sJ s' 17 = oi N ∧ sJ s' 18 = oi D ∧ (0 < D ∧ D ≤ 24) ∧ (-2000000 ≤ N ∧ N ≤ 2000000) ∧ (∃ v0 xn, Dr n (gE s) (gw s) n v0 xn ∧ ∀ k x, k < n → Dr n (gE s) (gw s) k v0 x → (xn - x) * D ≤ N * ((n : Int) - k)) ∧ ∀ v, v < K → ∀ x, Dr n (gE s) (gw s) n v x → ∃ k y, k < n ∧ Dr n (gE s) (gw s) k v y ∧ N * ((n : Int) - k) ≤ (x - y) * D)
def Sv (s s' : St) : Prop := (∀ t, sI s' t = sI s t) ∧ (∀ t, t ≠ 17 → t ≠ 18 → t ≠ 19 → t ≠ 20 → sJ s' t = sJ s t) ∧ (∀ t j, sA s' t j = sA s t j) ∧ ∀ t j, sB s' t j = sB s t j
theorem Sv.gi (h : Sv s s') (G : GI s n) : GI s' n := G.of (h.1 0) (h.2.1 16 (by decide) (by decide) (by decide) (by decide)) (h.2.2.1 1) (h.2.2.1 2)
theorem Sv.ge (h : Sv s s') : gE s' = gE s := gE_of (h.2.2.1 1)
theorem Sv.gw (h : Sv s s') : gw s' = gw s := gw_of (h.2.2.1 1) (h.2.2.1 2)
theorem VX.b (G : GI s n) {xn N D : Int} (hx : Dr n (gE s) (gw s) n v xn) (h : VX s n v xn N D) : (0 < D ∧ D ≤ 24) ∧ (-2000000 ≤ N ∧ N ≤ 2000000) := by
  have hn := G.1.2
  obtain ⟨⟨k, x, a1, a2, a3, a4⟩, -⟩ := h
  have := wk_b G (by omega) hx.wk
  have := wk_b G (by omega) a2.wk
  omega
set_option maxRecDepth 100000 in
set_option maxHeartbeats 1000000 in
theorem l14_98 (G : GI s n) (hR : ∀ k, k ≤ n → RW s n k) (K : ∀ s' fd, Sv s s' → MI s s' n n fd → Q (some (.int fd)) (ob H p s')) (m : Nat) :
    ∀ (v : Nat) (fd : Int32) (s' : St), v + m = n → Sv s s' → MI s s' n v fd → W (pj lw) 14 98 [.val (.ref p), .val (.int fd), .val (.int (Int32.ofNat v))] [] kk nn (ob H p s') Q := by
  have hn := G.1.2
  induction m with
  | zero =>
    intro v fd s' hv hS hM
    obtain rfl : v = n := by omega
    have n0 := (hS.gi G).1.1
    have h1 : ¬ Int32.ofNat v < Int32.ofNat v := by rw [lt32]; omega
    rw [w14_98]; simp +decide only [w14_99, w14_100, w14_103, w14_183, w14_184, isO_put, true_and, ↓reduceIte, g0, n0, h1]
    exact ⟨hM.elim (fun w => Or.inl w.1) (fun w => Or.inr w.1), K s' fd hS hM⟩
  | succ m ih =>
    intro v fd s' hv hS hM
    have G' := hS.gi G
    have n0 := G'.1.1
    have j16 := G'.2.1
    have h1 : Int32.ofNat v < Int32.ofNat n := by rw [lt32, (ofi (by omega)).1, (ofi (by omega)).1]; omega
    have e4 := m24 (u := n) (v := v)
    obtain ⟨a1, a2⟩ := ofi (i := n * 24 + v) (by omega)
    have r1 : 0 ≤ (Int32.ofNat (n * 24 + v)).toInt ∧ (Int32.ofNat (n * 24 + v)).toInt < 600 := by omega
    have eb := hS.2.2.2 6 (n * 24 + v)
    rw [w14_98]
    rcases (hR n (Nat.le_refl _)).dr (show v < 24 by omega) with ⟨q1, q2⟩ | ⟨xn, q1, q2⟩
    · rw [← eb] at q1
      simp +decide only [w14_99, w14_100, w14_103, w14_106, w14_107, w14_110, w14_111, w14_114, w14_116, w14_117, w14_118, w14_119, w14_120, w14_121, w14_124, w14_125, w14_177, w14_180, isO_put, true_and, and_true, ↓reduceIte, g0, g11, g16, ai6, ae6, n0, h1, e4, r1, a2, q1, j16, ofs]
      refine ih (v + 1) fd s' (by omega) hS ?_
      rcases hM with ⟨w1, w2⟩ | ⟨w1, N, D, w2, w3, w4, w5, w6, w7⟩
      · refine Or.inl ⟨w1, fun v' hv' x' => ?_⟩
        by_cases e : v' = v
        · subst e; exact q2 x'
        · exact w2 v' (by omega) x'
      · refine Or.inr ⟨w1, N, D, w2, w3, w4, w5, w6, fun v' hv' x' hx' => ?_⟩
        by_cases e : v' = v
        · subst e; exact absurd hx'.wk (q2 x')
        · exact w7 v' (by omega) x' hx'
    · have xb := wk_b G (by omega) q2.wk
      have fin := (oi_inf (x := xn) (by omega)).2
      have q1' := q1
      rw [← eb] at q1'
      simp +decide only [w14_99, w14_100, w14_103, w14_106, w14_107, w14_110, w14_111, w14_114, w14_116, w14_117, w14_118, w14_119, w14_120, w14_121, w14_124, w14_125, w14_128, w14_129, w14_130, isO_put, cmpL_eq, true_and, and_true, ↓reduceIte, g0, g11, g16, ai6, ae6, n0, h1, e4, r1, a2, q1', j16, fin]
      have q2' : Dr n (gE s') (gw s') n v xn := (Dr_of hS.ge hS.gw).2 q2
      refine v16g G' (fun k hk => (hR k hk).of (hS.2.2.1 1) (hS.2.2.1 2) fun v hv => hS.2.2.2 _ _) (by omega) q2' q1' fun N' D' hV => ?_
      have hV' : VX s n v xn N' D' := by
        unfold VX at hV ⊢; rw [hS.ge, hS.gw] at hV; exact hV
      obtain ⟨Db, Nb⟩ := VX.b G q2 hV'
      have S2 : ∀ A B, Sv s (uJ (uJ (sv s' (oi N') (oi D')) 17 A) 18 B) := fun A B => ⟨fun t => by unfold sv; simp only [sI_uJ]; exact hS.1 t, fun t h1 h2 h3 h4 => by unfold sv; simp only [sJ_uJ, h1, h2, h3, h4, if_false]; exact hS.2.1 t h1 h2 h3 h4, fun t j => by unfold sv; simp only [sA_uJ]; exact hS.2.2.1 t j, fun t j => by unfold sv; simp only [sB_uJ]; exact hS.2.2.2 t j⟩
      have S3 : Sv s (sv s' (oi N') (oi D')) := ⟨fun t => by unfold sv; simp only [sI_uJ]; exact hS.1 t, fun t h1 h2 h3 h4 => by unfold sv; simp only [sJ_uJ, h3, h4, if_false]; exact hS.2.1 t h1 h2 h3 h4, fun t j => by unfold sv; simp only [sA_uJ]; exact hS.2.2.1 t j, fun t j => by unfold sv; simp only [sB_uJ]; exact hS.2.2.2 t j⟩
      have own : ∀ x, Dr n (gE s) (gw s) n v x → ∃ k y, k < n ∧ Dr n (gE s) (gw s) k v y ∧ N' * ((n : Int) - k) ≤ (x - y) * D' := fun x hx => by
        obtain ⟨⟨k, y, b1, b2, b3, b4⟩, _⟩ := hV'
        refine ⟨k, y, b1, b2, ?_⟩
        rw [← q2.uniq hx, b3, b4]; exact Int.le_refl _
      have j19 : sJ (sv s' (oi N') (oi D')) 19 = oi N' := by unfold sv; rw [sJ_uJ, if_neg (by decide), sJ_uJ, if_pos rfl]
      have j20 : sJ (sv s' (oi N') (oi D')) 20 = oi D' := by unfold sv; rw [sJ_uJ, if_pos rfl]
      have take : ∀ fd', MI s (uJ (uJ (sv s' (oi N') (oi D')) 17 (oi N')) 18 (oi D')) n (v + 1) 1 → W (pj lw) 14 159 [.val (.ref p), .val (.int fd'), .val (.int (Int32.ofNat v))] [] kk nn (ob H p (sv s' (oi N') (oi D'))) Q := fun fd' hM' => by
        have j20' : sJ (uJ (sv s' (oi N') (oi D')) 17 (oi N')) 20 = oi D' := by rw [sJ_uJ, if_neg (by decide)]; exact j20
        simp +decide only [w14_159, w14_160, w14_161, w14_164, w14_167, w14_168, w14_169, w14_172, w14_175, w14_176i, w14_177, w14_180, isO_put, isOw_put, okv_long, true_and, and_true, s17, s18, g19, g20, j19, j20', ofs]
        exact ih (v + 1) 1 _ (by omega) (S2 _ _) hM'
      have j17 : sJ (sv s' (oi N') (oi D')) 17 = sJ s' 17 := by unfold sv; rw [sJ_uJ, if_neg (by decide), sJ_uJ, if_neg (by decide)]
      have j18 : sJ (sv s' (oi N') (oi D')) 18 = sJ s' 18 := by unfold sv; rw [sJ_uJ, if_neg (by decide), sJ_uJ, if_neg (by decide)]
      rcases hM with ⟨w1, w2⟩ | ⟨w1, N, D, w2, w3, w4, w5, w6, w7⟩
      · subst w1
        simp +decide only [w14_133, w14_134, Option.toList_none, List.nil_append, ↓reduceIte]
        refine take 0 (Or.inr ⟨rfl, N', D', by rw [sJ_uJ, if_neg (by decide), sJ_uJ, if_pos rfl], by rw [sJ_uJ, if_pos rfl], Db, Nb, ⟨v, xn, q2, hV'.2⟩, fun v' hv' x' hx' => ?_⟩)
        by_cases e : v' = v
        · subst e; exact own x' hx'
        · exact absurd hx'.wk (w2 v' (by omega) x')
      · subst w1
        by_cases cmp : N' * D < N * D'
        · have cmp' := eq_true ((oi_lt (pb Nb (by omega)) (pb w5 (by omega))).2 cmp)
          simp +decide only [w14_133, w14_134, w14_137, w14_138, w14_141, w14_142, w14_145, w14_146, w14_147, w14_150, w14_151, w14_154, w14_155, w14_156, isO_put, cmpL_lt, Option.toList_none, List.nil_append, true_and, ↓reduceIte, g17, g18, g19, g20, j17, j18, j19, j20, w2, w3, oi_mul, cmp']
          refine take 1 (Or.inr ⟨rfl, N', D', by rw [sJ_uJ, if_neg (by decide), sJ_uJ, if_pos rfl], by rw [sJ_uJ, if_pos rfl], Db, Nb, ⟨v, xn, q2, hV'.2⟩, fun v' hv' x' hx' => ?_⟩)
          by_cases e : v' = v
          · subst e; exact own x' hx'
          · obtain ⟨k, y, b1, b2, b3⟩ := w7 v' (by omega) x' hx'
            exact ⟨k, y, b1, b2, ftr (a := N') (b := D') (c := N) (d := D) (e := x' - y) (f := (n : Int) - k) Db.1 w4.1 (by omega) (by omega) b3⟩
        · have cmp' := eq_false (fun w => cmp ((oi_lt (pb Nb (by omega)) (pb w5 (by omega))).1 w))
          simp +decide only [w14_133, w14_134, w14_137, w14_138, w14_141, w14_142, w14_145, w14_146, w14_147, w14_150, w14_151, w14_154, w14_155, w14_156, w14_177, w14_180, isO_put, cmpL_lt, Option.toList_none, List.nil_append, true_and, ↓reduceIte, g17, g18, g19, g20, j17, j18, j19, j20, w2, w3, oi_mul, cmp', ofs]
          refine ih (v + 1) 1 _ (by omega) S3 (Or.inr ⟨rfl, N, D, by rw [j17]; exact w2, by rw [j18]; exact w3, w4, w5, w6, fun v' hv' x' hx' => ?_⟩)
          by_cases e : v' = v
          · subst e
            obtain ⟨k, y, b1, b2, b3⟩ := own x' hx'
            exact ⟨k, y, b1, b2, ftr (a := N) (b := D) (c := N') (d := D') (e := x' - y) (f := (n : Int) - k) w4.1 Db.1 (by omega) (by omega) b3⟩
          · exact w7 v' (by omega) x' hx'
def KA (s s' : St) (n : Nat) (r : Int32) : Prop := (r = 0 ∧ ∀ f k, 1 ≤ k → Wf n (gE s) f k → f 0 ≠ f k) ∨
  (r = 1 ∧ ∃ N D : Int, sJ s' 17 = oi N ∧ sJ s' 18 = oi D ∧ (0 < D ∧ D ≤ 24) ∧ (-2000000 ≤ N ∧ N ≤ 2000000) ∧ NC n (gE s) (fun u v => D * gw s u v - N) ∧ ∃ f q, 1 ≤ q ∧ q ≤ n ∧ Wf n (gE s) f q ∧ f 0 = f q ∧ sm (fun u v => D * gw s u v - N) f q = 0)
theorem unroll {E : Nat → Nat → Prop} {f : Nat → Nat} (h1 : 1 ≤ k) (hw : Wf n E f k) (he : f 0 = f k) : Wf n E (fun t => f (t % k)) m := by
  have r : ∀ t, t % k < k := fun t => Nat.mod_lt t (by omega)
  refine ⟨fun t _ => hw.1 _ (by have := r t; omega), fun t _ => ?_⟩
  show E (f (t % k)) (f ((t + 1) % k))
  rw [mods h1 he]; exact hw.2 _ (r t)
theorem MI.ka (G : GI s n) (h : MI s s' n n x) : KA s s' n x := by
  rcases h with ⟨w1, w2⟩ | ⟨w1, N, D, w2, w3, w4, w5, ⟨v0, xn, w6, w7⟩, w8⟩
  · refine Or.inl ⟨w1, fun f k h1 hw he => ?_⟩
    have U := unroll (m := n) h1 hw he
    exact w2 _ (U.1 n (Nat.le_refl _)) _ ⟨_, U, rfl, rfl⟩
  · have := karp (E := gE s) (w := gw s) (n := n) (M := 10000) (N := N) (D := D) (by omega) (fun u v _ _ => (G.gb u v).1) w4.1 w6 w7 (fun v x hv hx => w8 v hv x hx)
    exact Or.inr ⟨w1, N, D, w2, w3, w4, w5, this.1, this.2⟩
theorem l14_27 (G : GI s n) (K : ∀ s', ((∀ t, sI s' t = sI s t) ∧ (∀ t, sJ s' t = sJ s t) ∧ (∀ t j, sA s' t j = sA s t j) ∧ ∀ t j, t ≠ 6 → sB s' t j = sB s t j) → (∀ j, sB s' 6 j = if j < n then 0 else sB s 6 j) → W (pj lw) 14 48 [.val (.ref p), .val (.int (Int32.ofNat n)), .unset] [] kk nn (ob H p s') Q) (m : Nat) :
    ∀ (v : Nat) (s' : St), v + m = n → ((∀ t, sI s' t = sI s t) ∧ (∀ t, sJ s' t = sJ s t) ∧ (∀ t j, sA s' t j = sA s t j) ∧ ∀ t j, t ≠ 6 → sB s' t j = sB s t j) → (∀ j, sB s' 6 j = if j < v then 0 else sB s 6 j) → W (pj lw) 14 27 [.val (.ref p), .val (.int (Int32.ofNat v)), .unset] [] kk nn (ob H p s') Q := by
  have hn := G.1.2
  induction m with
  | zero =>
    intro v s' hv h1 h2
    obtain rfl : v = n := by omega
    have n0 : sI s' 0 = Int32.ofNat v := by rw [h1.1]; exact G.1.1
    have hl : ¬ Int32.ofNat v < Int32.ofNat v := by rw [lt32]; omega
    rw [w14_27]; simp +decide only [w14_28, w14_29, w14_32, isO_put, true_and, ↓reduceIte, g0, n0, hl]
    exact K s' h1 h2
  | succ m ih =>
    intro v s' hv h1 h2
    have n0 : sI s' 0 = Int32.ofNat n := by rw [h1.1]; exact G.1.1
    obtain ⟨e1, e2⟩ := ofi (i := v) (by omega)
    have hl : Int32.ofNat v < Int32.ofNat n := by rw [lt32, e1, (ofi (by omega)).1]; omega
    have hb : 0 ≤ (Int32.ofNat v).toInt ∧ (Int32.ofNat v).toInt < 600 := by omega
    rw [w14_27]; simp +decide only [w14_28, w14_29, w14_32, w14_35, w14_36, w14_39, w14_40, w14_41, w14_42, w14_45, isO_put, true_and, and_true, ↓reduceIte, g0, g11, aw6, as6, n0, hl, hb, e2, ofs]
    refine ih (v + 1) _ (by omega) ⟨fun t => by rw [sI_uB]; exact h1.1 t, fun t => by rw [sJ_uB]; exact h1.2.1 t, fun t j => by rw [sA_uB]; exact h1.2.2.1 t j, fun t j ht => by rw [sB_uB, if_neg (fun w => ht w.1)]; exact h1.2.2.2 t j ht⟩ (fun j => ?_)
    rw [sB_uB]
    by_cases e : j = v
    · rw [if_pos ⟨rfl, e⟩, if_pos (by omega)]
    · rw [if_neg (fun w => e w.2), h2]
      by_cases l : j < v
      · rw [if_pos l, if_pos (by omega)]
      · rw [if_neg l, if_neg (by omega)]
set_option maxRecDepth 100000 in
theorem v14g (G : GI s n) (K : ∀ s' r, Sk s s' → KA s s' n r → Q (some (.int r)) (ob H p s')) : Cl (pj lw) 14 [.ref p] (ob H p s) Q := by
  have hn := G.1.2
  have o0 : (0 : Int32) = Int32.ofNat 0 := rfl
  have o1 : (1 : Int32) = Int32.ofNat (0 + 1) := rfl
  rw [c14]; simp +decide only [w14_0, w14_1]
  refine (l14_2 G.2.1 600 0 s G.2.1 (by decide) (by decide)).2 ?_
  simp +decide only [w14_25, w14_26i, Int32.reduceToNatClampNeg]
  rw [o0]
  have G1 : GI (fB s 6 0 600 4000000000000000000) n := G.of sI_fB sJ_fB (fun i => sA_fB) (fun i => sA_fB)
  refine l14_27 G1 (fun σ h1 h2 => ?_) n 0 _ (by omega) ⟨fun _ => rfl, fun _ => rfl, fun _ _ => rfl, fun _ _ _ => rfl⟩ (fun j => by rw [if_neg (by omega)])
  simp +decide only [w14_48, w14_49i]
  rw [o1]
  have G2 : GI σ n := G1.of (h1.1 0) (h1.2.1 16) (h1.2.2.1 1) (h1.2.2.1 2)
  have tb : Tb σ σ n 0 := by
    refine ⟨⟨fun _ => rfl, fun _ => rfl, fun _ _ => rfl, fun _ _ _ => rfl⟩, fun k' hk' v hv => ?_, fun j j1 j2 => ?_⟩
    · obtain rfl : k' = 0 := by omega
      rw [Nat.zero_mul, Nat.zero_add, h2, sB_fB, if_pos (show 6 = 6 ∧ 0 ≤ v ∧ v < 600 by omega)]
      by_cases l : v < n
      · rw [if_pos l]
        exact Or.inr ⟨0, rfl, ⟨fun _ => v, ⟨fun _ _ => l, fun i hi => absurd hi (by omega)⟩, rfl, rfl⟩, fun y ⟨f, _, _, a3⟩ => by rw [← a3]; exact Int.le_refl _⟩
      · rw [if_neg l]
        exact Or.inl ⟨rfl, fun x ⟨f, a1, a2, _⟩ => by have := a1.1 0 (Nat.le_refl _); omega⟩
    · rw [h2, if_neg (by omega), sB_fB, if_pos (by omega)]
  refine l14_50 G2 (fun τ hT => ?_) n 0 σ (by omega) tb
  simp +decide only [w14_94, w14_95i, w14_96, w14_97]
  rw [o0]
  have G3 := hT.gi G2
  refine l14_98 G3 hT.2.1 (fun ρ fd hS hM => ?_) n 0 _ τ (by omega) ⟨fun _ => rfl, fun _ _ _ _ _ => rfl, fun _ _ => rfl, fun _ _ => rfl⟩ (Or.inl ⟨rfl, fun v hv => absurd hv (by omega)⟩)
  have eE : gE τ = gE s := by rw [gE_of (s := σ) (hT.1.2.2.1 1), gE_of (s := fB s 6 0 600 4000000000000000000) (h1.2.2.1 1)]; exact gE_of fun i => sA_fB
  have eW : gw τ = gw s := by rw [gw_of (s := σ) (hT.1.2.2.1 1) (hT.1.2.2.1 2), gw_of (s := fB s 6 0 600 4000000000000000000) (h1.2.2.1 1) (h1.2.2.1 2)]; exact gw_of (fun i => sA_fB) (fun i => sA_fB)
  have ka := hM.ka G3
  refine K ρ fd ⟨fun t => ?_, fun t a1 a2 a3 a4 => ?_, fun t j => ?_, fun t j ht => ?_⟩ ?_
  · rw [hS.1, hT.1.1, h1.1, sI_fB]
  · rw [hS.2.1 t a1 a2 a3 a4, hT.1.2.1, h1.2.1, sJ_fB]
  · rw [hS.2.2.1, hT.1.2.2.1, h1.2.2.1, sA_fB]
  · rw [hS.2.2.2, hT.1.2.2.2 t j ht, h1.2.2.2 t j ht, sB_fB, if_neg (fun w => ht w.1)]
  · unfold KA at ka ⊢; rw [eE, eW] at ka; exact ka
end O

section Pp
variable {lw : LW} {H : AH} {p : Nat} {s s' s'' : St} {Q : Option Value → AH → Prop} {x y ch rd : Int32} {i j k m n kk nn u v : Nat} {S B : Int} {π π0 : Nat → Int} {E : Nat → Nat → Prop} {c : Nat → Nat → Int}
def Pq (s s' : St) (π : Nat → Int) : Prop := ((∀ t, sI s' t = sI s t) ∧ (∀ t, sJ s' t = sJ s t) ∧ (∀ t j, sA s' t j = sA s t j) ∧ ∀ t j, t ≠ 5 → sB s' t j = sB s t j) ∧ ∀ v, v < 24 → sB s' 5 v = oi (π v)
theorem Pq.gi (h : Pq s s' π) (G : GI s n) : GI s' n := G.of (h.1.1 0) (h.1.2.1 16) (h.1.2.2.1 1) (h.1.2.2.1 2)
def WS (n : Nat) (E : Nat → Nat → Prop) (c : Nat → Nat → Int) (π : Nat → Int) : Prop := ∀ v, (v < n → ∃ f k, Wf n E f k ∧ f k = v ∧ sm c f k = π v) ∧ (n ≤ v → π v = 0) ∧ π v ≤ 0
theorem WS.b (h : WS n E c π) (hN : NC n E c) (hn : n ≤ 24) (hc : ∀ u v, u < n → v < n → -3000000 ≤ c u v) (v : Nat) : -72000000 ≤ π v ∧ π v ≤ 0 := by
  obtain ⟨h1, h2, h3⟩ := h v
  refine ⟨?_, h3⟩
  by_cases q : v < n
  · obtain ⟨f, k, a1, a2, a3⟩ := h1 q
    obtain ⟨g, k', b1, b2, b3, b4⟩ := hN.short (by omega) k f a1
    have := sm_ge (M := 3000000) (by omega) hc k' g b2.1
    omega
  · rw [h2 (by omega)]; omega
def Ir (s : St) (n i : Nat) (c : Nat → Nat → Int) (π0 π : Nat → Int) (ch : Int32) : Prop := WS n (gE s) c π ∧ (∀ v, π v ≤ π0 v) ∧ (∀ u v, v < 24 → u * 24 + v < i → gE s u v → π v ≤ π0 u + c u v) ∧ ((ch = 0 ∧ π = π0) ∨ ch = 1)
def upd (π : Nat → Int) (v : Nat) (z : Int) : Nat → Int := fun t => if t = v then z else π t
theorem ars (G : GI s n) (hi : i < 576) (ha : sA s 1 i ≠ 0) : i / 24 < n ∧ i % 24 < n ∧ gE s (i / 24) (i % 24) ∧ gw s (i / 24) (i % 24) = (sA s 2 i).toInt := by
  have g := G.2.2 i hi ha
  have e : i / 24 * 24 + i % 24 = i := by omega
  refine ⟨g.1, g.2.1, by unfold gE; rw [e]; exact ha, ?_⟩
  unfold gw; rw [e, if_pos ⟨ha, by omega, by omega⟩]
theorem Ir_skip (h : Ir s n i c π0 π ch) (hz : sA s 1 i = 0) : Ir s n (i + 1) c π0 π ch := by
  refine ⟨h.1, h.2.1, fun u v hv h1 h2 => ?_, h.2.2.2⟩
  have : u * 24 + v ≠ i := fun e => h2 (by rw [e]; exact hz)
  exact h.2.2.1 u v hv (by omega) h2
theorem Ir_keep (h : Ir s n i c π0 π ch) (hk : π (i % 24) ≤ π (i / 24) + c (i / 24) (i % 24)) : Ir s n (i + 1) c π0 π ch := by
  refine ⟨h.1, h.2.1, fun u v hv h1 h2 => ?_, h.2.2.2⟩
  by_cases e : u * 24 + v = i
  · have e1 : u = i / 24 := by omega
    have e2 : v = i % 24 := by omega
    rw [e1, e2]
    have := h.2.1 (i / 24)
    omega
  · exact h.2.2.1 u v hv (by omega) h2
theorem Ir_set (h : Ir s n i c π0 π ch) (hu : i / 24 < n) (hv : i % 24 < n) (he : gE s (i / 24) (i % 24)) (hl : π (i / 24) + c (i / 24) (i % 24) < π (i % 24)) : Ir s n (i + 1) c π0 (upd π (i % 24) (π (i / 24) + c (i / 24) (i % 24))) 1 := by
  have dec : ∀ t, upd π (i % 24) (π (i / 24) + c (i / 24) (i % 24)) t ≤ π t := fun t => by unfold upd; split; rename_i e; rw [e]; omega; exact Int.le_refl _
  refine ⟨fun t => ⟨fun ht => ?_, fun ht => ?_, ?_⟩, fun t => by have := dec t; have := h.2.1 t; omega, fun u v hv' h1 h2 => ?_, Or.inr rfl⟩
  · unfold upd; split
    · rename_i e
      obtain ⟨f, k, a1, a2, a3⟩ := (h.1 (i / 24)).1 hu
      have := a1.ext (c := c) hv (by rw [a2]; exact he)
      exact ⟨_, k + 1, this.1, by rw [this.2.1, e], by rw [this.2.2, a2, a3]⟩
    · exact (h.1 t).1 ht
  · unfold upd; rw [if_neg (by omega)]; exact (h.1 t).2.1 ht
  · have := dec t; have := (h.1 t).2.2; omega
  · by_cases e : u * 24 + v = i
    · have e1 : u = i / 24 := by omega
      have e2 : v = i % 24 := by omega
      rw [e1, e2]; unfold upd; rw [if_pos rfl]
      have := h.2.1 (i / 24)
      omega
    · have := h.2.2.1 u v hv' (by omega) h2
      have := dec v
      omega
set_option maxRecDepth 100000 in
set_option maxHeartbeats 1000000 in
theorem l17_44 (G : GI s n) (hS : 0 ≤ S ∧ S ≤ 24) (hB : -2000000 ≤ B ∧ B ≤ 2000000) (hN : NC n (gE s) (fun u v => S * gw s u v - B))
    (K : ∀ s' π ch', Pq s s' π → Ir s n 576 (fun u v => S * gw s u v - B) π0 π ch' → W (pj lw) 17 132 [.val (.ref p), .val (.long (oi S)), .second, .val (.long (oi B)), .second, .val (.int rd), .val (.int ch'), .val (.int (Int32.ofNat 576)), .unset, .unset, .unset, .unset] [] kk nn (ob H p s') Q) (m : Nat) :
    ∀ (i : Nat) (s' : St) (π : Nat → Int) (ch : Int32), i + m = 576 → Pq s s' π → Ir s n i (fun u v => S * gw s u v - B) π0 π ch → W (pj lw) 17 44 [.val (.ref p), .val (.long (oi S)), .second, .val (.long (oi B)), .second, .val (.int rd), .val (.int ch), .val (.int (Int32.ofNat i)), .unset, .unset, .unset, .unset] [] kk nn (ob H p s') Q := by
  have hn := G.1.2
  have cbb : ∀ u v, -3000000 ≤ S * gw s u v - B ∧ S * gw s u v - B ≤ 3000000 := fun u v => by
    have g := G.gb u v
    have h1 : S * gw s u v ≤ S * 10000 := Int.mul_le_mul_of_nonneg_left g.2 hS.1
    have h2 : S * (-10000) ≤ S * gw s u v := Int.mul_le_mul_of_nonneg_left g.1 hS.1
    omega
  induction m with
  | zero =>
    intro i s' π ch hi hP hI
    obtain rfl : i = 576 := by omega
    have h1 : ¬ Int32.ofNat 576 < 576 := by decide
    rw [w17_44]; simp +decide only [w17_46, w17_49, ↓reduceIte]
    exact K s' π ch hP hI
  | succ m ih =>
    intro i s' π ch hi hP hI
    obtain ⟨e1, e2⟩ := ofi (i := i) (by omega)
    have h1 : Int32.ofNat i < 576 := by rw [lt32, e1]; simp only [Int32.reduceToInt]; omega
    have hb : 0 ≤ (Int32.ofNat i).toInt ∧ (Int32.ofNat i).toInt < 576 := by omega
    rw [w17_44]
    by_cases q : sA s' 1 i = 0
    · simp +decide only [w17_46, w17_49, w17_52, w17_53, w17_56, w17_58, w17_59, w17_62, w17_126, w17_129, isO_put, true_and, and_true, or_true, ↓reduceIte, g2, ai1, ain1, ae1, ain1, h1, hb, e2, q, ofs]
      exact ih (i + 1) s' π ch (by omega) hP (Ir_skip hI (by rw [← hP.1.2.2.1]; exact q))
    · have q' : sA s 1 i ≠ 0 := by rw [← hP.1.2.2.1]; exact q
      obtain ⟨a1, a2, a3, a4⟩ := ars G (by omega) q'
      have d1 := d24 (i := i) (by omega)
      have d2 := rm24 (i := i) (by omega)
      obtain ⟨u1, u2⟩ := ofi (i := i / 24) (by omega)
      obtain ⟨v1, v2⟩ := ofi (i := i % 24) (by omega)
      have r1 : 0 ≤ (Int32.ofNat (i / 24)).toInt ∧ (Int32.ofNat (i / 24)).toInt < 24 := by omega
      have r2 : 0 ≤ (Int32.ofNat (i % 24)).toInt ∧ (Int32.ofNat (i % 24)).toInt < 24 := by omega
      have pu := hP.2 (i / 24) (by omega)
      have pv := hP.2 (i % 24) (by omega)
      have ew : (sA s' 2 i).toInt64 = oi (gw s (i / 24) (i % 24)) := by rw [hP.1.2.2.1, oi_32, a4]
      have bu := hI.1.b hN hn.2 (fun u v _ _ => (cbb u v).1) (i / 24)
      have bv := hI.1.b hN hn.2 (fun u v _ _ => (cbb u v).1) (i % 24)
      have cc := cbb (i / 24) (i % 24)
      have nf : π (i / 24) + S * gw s (i / 24) (i % 24) - B = π (i / 24) + (S * gw s (i / 24) (i % 24) - B) := by omega
      by_cases cmp : π (i / 24) + (S * gw s (i / 24) (i % 24) - B) < π (i % 24)
      · have cmp' := eq_true ((oi_lt (x := π (i / 24) + (S * gw s (i / 24) (i % 24) - B)) (y := π (i % 24)) (by omega) (by omega)).2 cmp)
        simp +decide only [w17_46, w17_49, w17_52, w17_53, w17_56, w17_58, w17_59, w17_65, w17_67, w17_69, w17_70, w17_72, w17_74, w17_76, w17_77, w17_79, w17_80, w17_83, w17_85, w17_86, w17_87, w17_88, w17_91, w17_93, w17_94, w17_95, w17_96, w17_97, w17_98, w17_99uu, w17_101, w17_103, w17_104, w17_107, w17_109, w17_110, w17_111, w17_114, w17_115, w17_118, w17_120, w17_122, w17_123, w17_124i, isO_put, cmpL_lt, true_and, and_true, or_true, ↓reduceIte, g2, g3, g10, ai1, ain1, ae1, ai2, ae2, ai5, aw5, ae5, as5, ain1, h1, hb, e2, q, d1, d2, r1, r2, u2, v2, pu, pv, ew, oi_mul, oi_add, oi_sub, nf, cmp']
        refine W_fa 8 rfl ?_
        show W (pj lw) 17 126 [.val (.ref p), .val (.long (oi S)), .second, .val (.long (oi B)), .second, .val (.int rd), .val (.int 1), .val (.int (Int32.ofNat i)), .unset, .unset, .unset, .unset] [] kk nn (ob H p (uB s' 5 (i % 24) (oi (π (i / 24) + (S * gw s (i / 24) (i % 24) - B))))) Q
        simp +decide only [w17_126, w17_129, ofs]
        refine ih (i + 1) _ (upd π (i % 24) (π (i / 24) + (S * gw s (i / 24) (i % 24) - B))) 1 (by omega) ⟨⟨fun t => by rw [sI_uB]; exact hP.1.1 t, fun t => by rw [sJ_uB]; exact hP.1.2.1 t, fun t j => by rw [sA_uB]; exact hP.1.2.2.1 t j, fun t j ht => by rw [sB_uB, if_neg (fun w => ht w.1)]; exact hP.1.2.2.2 t j ht⟩, fun t ht => ?_⟩ (Ir_set hI a1 a2 a3 cmp)
        rw [sB_uB]; unfold upd
        by_cases e : t = i % 24
        · rw [if_pos ⟨rfl, e⟩, if_pos e]
        · rw [if_neg (fun w => e w.2), if_neg e]; exact hP.2 t ht
      · have cmp' := eq_false (fun w => cmp ((oi_lt (x := π (i / 24) + (S * gw s (i / 24) (i % 24) - B)) (y := π (i % 24)) (by omega) (by omega)).1 w))
        simp +decide only [w17_46, w17_49, w17_52, w17_53, w17_56, w17_58, w17_59, w17_65, w17_67, w17_69, w17_70, w17_72, w17_74, w17_76, w17_77, w17_79, w17_80, w17_83, w17_85, w17_86, w17_87, w17_88, w17_91, w17_93, w17_94, w17_95, w17_96, w17_97, w17_98, w17_99uu, w17_101, w17_103, w17_104, w17_107, w17_109, w17_110, w17_111, isO_put, cmpL_lt, true_and, and_true, or_true, ↓reduceIte, g2, g3, g10, ai1, ain1, ae1, ai2, ae2, ai5, ae5, ain1, h1, hb, e2, q, d1, d2, r1, r2, u2, v2, pu, pv, ew, oi_mul, oi_add, oi_sub, nf, cmp']
        refine W_fa 8 rfl ?_
        show W (pj lw) 17 126 [.val (.ref p), .val (.long (oi S)), .second, .val (.long (oi B)), .second, .val (.int rd), .val (.int ch), .val (.int (Int32.ofNat i)), .unset, .unset, .unset, .unset] [] kk nn (ob H p s') Q
        simp +decide only [w17_126, w17_129, ofs]
        exact ih (i + 1) s' π ch (by omega) hP (Ir_keep hI (by show π (i % 24) ≤ π (i / 24) + (S * gw s (i / 24) (i % 24) - B); omega))
def RQ (n : Nat) (E : Nat → Nat → Prop) (c : Nat → Nat → Int) (π : Nat → Int) (r : Nat) : Prop := ∀ f k, k ≤ r → Wf n E f k → π (f k) ≤ sm c f k
theorem Ir.rq {r : Nat} (h : Ir s n 576 c π0 π ch) (hn : n ≤ 24) (h0 : RQ n (gE s) c π0 r) : RQ n (gE s) c π (r + 1) := fun f k hk hw => by
  match k with
  | 0 => have := h0 f 0 (by omega) hw; have := h.2.1 (f 0); omega
  | k + 1 =>
    have a := h0 f k (by omega) (hw.le (by omega))
    have l1 := hw.1 k (by omega)
    have l2 := hw.1 (k + 1) (Nat.le_refl _)
    have b := h.2.2.1 (f k) (f (k + 1)) (by omega) (by omega) (hw.2 k (by omega))
    rw [sm]; omega
def EX (n : Nat) (E : Nat → Nat → Prop) (c : Nat → Nat → Int) (π : Nat → Int) : Prop := WS n E c π ∧ ∀ f k, Wf n E f k → π (f k) ≤ sm c f k
theorem EX_stop (h : Ir s n 576 c π0 π 0) (hn : n ≤ 24) : EX n (gE s) c π := by
  have e : π = π0 := h.2.2.2.elim (fun w => w.2) (fun w => absurd w (by decide))
  refine ⟨h.1, fun f k hw => ?_⟩
  have hF : Fe n (gE s) c π := fun u v hu hv he => by have := h.2.2.1 u v (by omega) (by omega) he; rw [← e] at this; exact this
  have := hF.walk k hw
  have := (h.1 (f 0)).2.2
  omega
theorem EX_end {r : Nat} (hW : WS n E c π) (hN : NC n E c) (hr : n ≤ r) (hq : RQ n E c π r) : EX n E c π := by
  refine ⟨hW, fun f k hw => ?_⟩
  have h0 : 0 < n := by have := hw.1 0 (Nat.zero_le _); omega
  obtain ⟨g, k', b1, b2, b3, b4⟩ := hN.short h0 k f hw
  have := hq g k' (by omega) b2
  rw [b3] at this; omega
theorem EX.fe (h : EX n E c π) : Fe n E c π := fun u v hu hv he => by
  obtain ⟨f, k, a1, a2, a3⟩ := (h.1 u).1 hu
  have := a1.ext (c := c) hv (by rw [a2]; exact he)
  have r := h.2 _ _ this.1
  rw [this.2.1, this.2.2, a2, a3] at r; exact r
theorem EX.uniq {π' : Nat → Int} (h : EX n E c π) (g : EX n E c π') : π = π' := by
  funext v
  by_cases q : v < n
  · obtain ⟨f, k, a1, a2, a3⟩ := (h.1 v).1 q
    obtain ⟨f', k', b1, b2, b3⟩ := (g.1 v).1 q
    have r1 := h.2 _ _ b1
    have r2 := g.2 _ _ a1
    rw [b2, b3] at r1
    rw [a2, a3] at r2
    omega
  · rw [(h.1 v).2.1 (by omega), (g.1 v).2.1 (by omega)]
set_option maxRecDepth 100000 in
set_option maxHeartbeats 1000000 in
theorem l17_27g (G : GI s n) (hS : 0 ≤ S ∧ S ≤ 24) (hB : -2000000 ≤ B ∧ B ≤ 2000000) (hN : NC n (gE s) (fun u v => S * gw s u v - B)) (K : ∀ s' π, Pq s s' π → EX n (gE s) (fun u v => S * gw s u v - B) π → Q none (ob H p s')) (m : Nat) :
    ∀ (r : Nat) (s' : St) (π : Nat → Int), r + m = n + 2 → Pq s s' π → WS n (gE s) (fun u v => S * gw s u v - B) π → RQ n (gE s) (fun u v => S * gw s u v - B) π r → W (pj lw) 17 27 [.val (.ref p), .val (.long (oi S)), .second, .val (.long (oi B)), .second, .val (.int (Int32.ofNat r)), .unset, .unset, .unset, .unset, .unset, .unset] [] kk nn (ob H p s') Q := by
  have hn := G.1.2
  have e1 : Int32.ofNat n + 1 = Int32.ofNat (n + 1) := ofs
  induction m with
  | zero =>
    intro r s' π hr hP hW hq
    have n0 := (hP.gi G).1.1
    have h1 : Int32.ofNat (n + 1) < Int32.ofNat r := by rw [lt32, (ofi (by omega)).1, (ofi (by omega)).1]; omega
    rw [w17_27]; simp +decide only [w17_29, w17_30, w17_33, w17_34, w17_35, w17_146, isO_put, true_and, ↓reduceIte, g0, n0, e1, h1]
    exact K s' π hP (EX_end hW hN (by omega) hq)
  | succ m ih =>
    intro r s' π hr hP hW hq
    have n0 := (hP.gi G).1.1
    have h1 : ¬ Int32.ofNat (n + 1) < Int32.ofNat r := by rw [lt32, (ofi (by omega)).1, (ofi (by omega)).1]; omega
    have o0 : (0 : Int32) = Int32.ofNat 0 := rfl
    rw [w17_27]; simp +decide only [w17_29, w17_30, w17_33, w17_34, w17_35, w17_38, w17_39, w17_41, w17_42, isO_put, true_and, ↓reduceIte, g0, n0, e1, h1]
    have st : W (pj lw) 17 44 [.val (.ref p), .val (.long (oi S)), .second, .val (.long (oi B)), .second, .val (.int (Int32.ofNat r)), .val (.int 0), .val (.int (Int32.ofNat 0)), .unset, .unset, .unset, .unset] [] kk nn (ob H p s') Q := by
      refine l17_44 (π0 := π) G hS hB hN (fun σ π' ch' hP' hI => ?_) 576 0 s' π 0 (by omega) hP ⟨hW, fun _ => Int.le_refl _, fun u v _ w => by omega, Or.inl ⟨rfl, rfl⟩⟩
      rcases id hI.2.2.2 with ⟨w, _⟩ | w
      · subst w
        simp +decide only [w17_132, w17_134, w17_137, w17_146, ↓reduceIte]
        exact K σ π' hP' (EX_stop hI hn.2)
      · subst w
        simp +decide only [w17_132, w17_134, ↓reduceIte]
        refine W_fa 6 rfl ?_
        show W (pj lw) 17 140 [.val (.ref p), .val (.long (oi S)), .second, .val (.long (oi B)), .second, .val (.int (Int32.ofNat r)), .unset, .unset, .unset, .unset, .unset, .unset] [] kk nn (ob H p σ) Q
        simp +decide only [w17_140, w17_143, ofs]
        exact ih (r + 1) σ π' (by omega) hP' hI.1 (hI.rq hn.2 hq)
    exact st
theorem v17g (G : GI s n) (hS : 0 ≤ S ∧ S ≤ 24) (hB : -2000000 ≤ B ∧ B ≤ 2000000) (hN : NC n (gE s) (fun u v => S * gw s u v - B)) (K : ∀ s' π, Pq s s' π → EX n (gE s) (fun u v => S * gw s u v - B) π → Q none (ob H p s')) : Cl (pj lw) 17 [.ref p, .long (oi S), .long (oi B)] (ob H p s) Q := by
  have o0 : (0 : Int32) = Int32.ofNat 0 := rfl
  rw [c17]; simp +decide only [w17_0, w17_1]
  refine (l17_3 (D := S) (N := B) 24 0 s (by decide) (by decide)).2 ?_
  simp +decide only [w17_24, w17_25i, Int32.reduceToNatClampNeg]
  rw [o0]
  refine l17_27g G hS hB hN K (n + 2) 0 _ (fun _ => 0) (by omega) ⟨⟨fun t => sI_fB, fun t => sJ_fB, fun t j => sA_fB, fun t j ht => by rw [sB_fB, if_neg (fun w => ht w.1)]⟩, fun v hv => ?_⟩ (fun v => ⟨fun hv => ⟨fun _ => v, 0, ⟨fun _ _ => hv, fun i hi => absurd hi (by omega)⟩, rfl, rfl⟩, fun _ => rfl, Int.le_refl _⟩) (fun f k hk hw => ?_)
  · rw [sB_fB, if_pos ⟨rfl, Nat.zero_le _, hv⟩]; rfl
  · obtain rfl : k = 0 := by omega
    exact Int.le_refl _
end Pp

section Qq
variable {lw : LW} {H : AH} {p : Nat} {s s' s'' : St} {Q : Option Value → AH → Prop} {x y ch rd R : Int32} {i j k m n kk nn u v X : Nat} {S B : Int} {π π0 : Nat → Int} {E : Nat → Nat → Prop} {c : Nat → Nat → Int}
theorem Ka.gi {t : Nat} (h : Ka s s' t) (G : GI s n) (h1 : t ≠ 1) (h2 : t ≠ 2) : GI s' n := G.of (h.1 0) (h.2.1 16) (fun i => h.2.2.1 1 i (fun w => h1 w.symm)) (fun i => h.2.2.1 2 i (fun w => h2 w.symm))
def tv (s : St) (S B : Int) (π : Nat → Int) (i : Nat) : Int32 := if sA s 1 i ≠ 0 ∧ π (i / 24) + (S * gw s (i / 24) (i % 24) - B) = π (i % 24) then 1 else 0
set_option maxRecDepth 100000 in
set_option maxHeartbeats 1000000 in
theorem l18_3 (G : GI s n) (hS : 0 ≤ S ∧ S ≤ 24) (hB : -2000000 ≤ B ∧ B ≤ 2000000) (hp : ∀ v, v < 24 → sB s 5 v = oi (π v)) (hb : ∀ v, -72000000 ≤ π v ∧ π v ≤ 0)
    (K : ∀ s', Ka s s' 7 → (∀ j, j < 576 → sA s' 7 j = tv s S B π j) → Q none (ob H p s')) (m : Nat) :
    ∀ (i : Nat) (s' : St), i + m = 576 → Ka s s' 7 → (∀ j, j < i → sA s' 7 j = tv s S B π j) → W (pj lw) 18 3 [.val (.ref p), .val (.long (oi S)), .second, .val (.long (oi B)), .second, .val (.int (Int32.ofNat i)), .unset, .unset] [] kk nn (ob H p s') Q := by
  have hn := G.1.2
  have cbb : ∀ u v, -3000000 ≤ S * gw s u v - B ∧ S * gw s u v - B ≤ 3000000 := fun u v => by
    have g := G.gb u v
    have h1 : S * gw s u v ≤ S * 10000 := Int.mul_le_mul_of_nonneg_left g.2 hS.1
    have h2 : S * (-10000) ≤ S * gw s u v := Int.mul_le_mul_of_nonneg_left g.1 hS.1
    omega
  induction m with
  | zero =>
    intro i s' hi hK hT
    obtain rfl : i = 576 := by omega
    have h1 : ¬ Int32.ofNat 576 < 576 := by decide
    rw [w18_3]; simp +decide only [w18_5, w18_8, w18_86, ↓reduceIte]
    exact K s' hK hT
  | succ m ih =>
    intro i s' hi hK hT
    obtain ⟨e1, e2⟩ := ofi (i := i) (by omega)
    have h1 : Int32.ofNat i < 576 := by rw [lt32, e1]; simp only [Int32.reduceToInt]; omega
    have hb' : 0 ≤ (Int32.ofNat i).toInt ∧ (Int32.ofNat i).toInt < 576 := by omega
    have d1 := d24 (i := i) (by omega)
    have d2 := rm24 (i := i) (by omega)
    have nx : ∀ t, t = tv s S B π i → W (pj lw) 18 80 [.val (.ref p), .val (.long (oi S)), .second, .val (.long (oi B)), .second, .val (.int (Int32.ofNat i)), .unset, .unset] [] kk nn (ob H p (uA s' 7 i t)) Q := fun t ht => by
      simp +decide only [w18_80, w18_83, ofs]
      refine ih (i + 1) _ (by omega) ⟨fun k => by rw [sI_uA]; exact hK.1 k, fun k => by rw [sJ_uA]; exact hK.2.1 k, fun t' j ht' => by rw [sA_uA, if_neg (fun w => ht' w.1)]; exact hK.2.2.1 t' j ht', fun t' j => by rw [sB_uA]; exact hK.2.2.2 t' j⟩ (fun j hj => ?_)
      rw [sA_uA]
      by_cases e : j = i
      · rw [if_pos ⟨rfl, e⟩, e]; exact ht
      · rw [if_neg (fun w => e w.2)]; exact hT j (by omega)
    rw [w18_3]
    by_cases q : sA s' 1 i = 0
    · simp +decide only [w18_5, w18_8, w18_11, w18_13, w18_15, w18_16, w18_18, w18_20, w18_22, w18_23, w18_25, w18_26, w18_29, w18_31, w18_32, w18_35, w18_37, w18_38, w18_78, w18_79, isO_put, true_and, and_true, or_true, ↓reduceIte, g2, g12, ai1, ain1, ae1, aw7, awn7, as7, ain1, awn7, d1, d2, h1, hb', e2, q]
      refine W_fa 6 rfl ?_
      refine nx 0 ?_
      unfold tv; rw [if_neg (fun w => w.1 (by rw [← hK.2.2.1 1 i (by decide)]; exact q))]
    · have q' : sA s 1 i ≠ 0 := by rw [← hK.2.2.1 1 i (by decide)]; exact q
      obtain ⟨a1, a2, a3, a4⟩ := ars G (by omega) q'
      obtain ⟨u1, u2⟩ := ofi (i := i / 24) (by omega)
      obtain ⟨v1, v2⟩ := ofi (i := i % 24) (by omega)
      have r1 : 0 ≤ (Int32.ofNat (i / 24)).toInt ∧ (Int32.ofNat (i / 24)).toInt < 24 := by omega
      have r2 : 0 ≤ (Int32.ofNat (i % 24)).toInt ∧ (Int32.ofNat (i % 24)).toInt < 24 := by omega
      have pu : sB s' 5 (i / 24) = oi (π (i / 24)) := by rw [hK.2.2.2]; exact hp _ (by omega)
      have pv : sB s' 5 (i % 24) = oi (π (i % 24)) := by rw [hK.2.2.2]; exact hp _ (by omega)
      have ew : (sA s' 2 i).toInt64 = oi (gw s (i / 24) (i % 24)) := by rw [hK.2.2.1 2 i (by decide), oi_32, a4]
      have bu := hb (i / 24)
      have bv := hb (i % 24)
      have cc := cbb (i / 24) (i % 24)
      have nf : π (i / 24) + S * gw s (i / 24) (i % 24) - B - π (i % 24) = π (i / 24) + (S * gw s (i / 24) (i % 24) - B) - π (i % 24) := by omega
      by_cases cmp : π (i / 24) + (S * gw s (i / 24) (i % 24) - B) - π (i % 24) = 0
      · have cmp' := eq_true ((oi_z (z := π (i / 24) + (S * gw s (i / 24) (i % 24) - B) - π (i % 24)) (by omega)).2 cmp)
        simp +decide only [w18_5, w18_8, w18_11, w18_13, w18_15, w18_16, w18_18, w18_20, w18_22, w18_23, w18_25, w18_26, w18_29, w18_31, w18_32, w18_35, w18_37, w18_38, w18_41, w18_42, w18_45, w18_47, w18_48, w18_49, w18_50, w18_53, w18_55, w18_56, w18_57, w18_58, w18_59, w18_60, w18_61, w18_62, w18_65, w18_67, w18_68, w18_69, w18_70, w18_71, w18_74, w18_75, w18_79, isO_put, cmpL_eq, true_and, and_true, or_true, ↓reduceIte, g2, g3, g10, g12, ai1, ain1, ae1, ai2, ae2, ai5, ae5, aw7, awn7, as7, ain1, awn7, h1, hb', e2, q, d1, d2, r1, r2, u2, v2, pu, pv, ew, oi_mul, oi_add, oi_sub, nf, cmp']
        refine W_fa 6 rfl ?_
        refine nx 1 ?_
        unfold tv; rw [if_pos ⟨q', by omega⟩]
      · have cmp' := eq_false (fun w => cmp ((oi_z (z := π (i / 24) + (S * gw s (i / 24) (i % 24) - B) - π (i % 24)) (by omega)).1 w))
        simp +decide only [w18_5, w18_8, w18_11, w18_13, w18_15, w18_16, w18_18, w18_20, w18_22, w18_23, w18_25, w18_26, w18_29, w18_31, w18_32, w18_35, w18_37, w18_38, w18_41, w18_42, w18_45, w18_47, w18_48, w18_49, w18_50, w18_53, w18_55, w18_56, w18_57, w18_58, w18_59, w18_60, w18_61, w18_62, w18_65, w18_67, w18_68, w18_69, w18_70, w18_71, w18_78, w18_79, isO_put, cmpL_eq, true_and, and_true, or_true, ↓reduceIte, g2, g3, g10, g12, ai1, ain1, ae1, ai2, ae2, ai5, ae5, aw7, awn7, as7, ain1, awn7, h1, hb', e2, q, d1, d2, r1, r2, u2, v2, pu, pv, ew, oi_mul, oi_add, oi_sub, nf, cmp']
        refine W_fa 6 rfl ?_
        refine nx 0 ?_
        unfold tv; rw [if_neg (fun w => cmp (by have := w.2; omega))]
theorem v18g (G : GI s n) (hS : 0 ≤ S ∧ S ≤ 24) (hB : -2000000 ≤ B ∧ B ≤ 2000000) (hp : ∀ v, v < 24 → sB s 5 v = oi (π v)) (hb : ∀ v, -72000000 ≤ π v ∧ π v ≤ 0)
    (K : ∀ s', Ka s s' 7 → (∀ j, j < 576 → sA s' 7 j = tv s S B π j) → Q none (ob H p s')) : Cl (pj lw) 18 [.ref p, .long (oi S), .long (oi B)] (ob H p s) Q := by
  have o0 : (0 : Int32) = Int32.ofNat 0 := rfl
  rw [c18]; simp +decide only [w18_0, w18_1]
  rw [o0]
  exact l18_3 G hS hB hp hb K 576 0 s (by omega) ⟨fun _ => rfl, fun _ => rfl, fun _ _ _ => rfl, fun _ _ => rfl⟩ (fun j hj => absurd hj (by omega))
def bt (R : Int32) (X : Nat) : Bool := R.toBitVec.getLsbD X
theorem shl1' {κ i : Nat} (h : κ < 32) : (1#32 <<< κ).getLsbD i = decide (i = κ) := by
  rw [BitVec.getLsbD_shiftLeft, BitVec.getLsbD_one, Bool.eq_iff_iff]; simp; omega
theorem bt_1 (h : k < 32) : bt ((1 : Int32) <<< (Int32.ofNat k &&& 31)) X = decide (X = k) := by
  have key : ∀ j : Fin 32, ((1 : Int32) <<< (Int32.ofNat j.val &&& 31)).toBitVec = 1#32 <<< j.val := by decide +kernel
  have := key ⟨k, h⟩
  simp only at this
  unfold bt; rw [this, shl1' h]
theorem bt_or {R' : Int32} : bt (R ||| R') X = (bt R X || bt R' X) := by unfold bt; rw [Int32.toBitVec_or, BitVec.getLsbD_or]
theorem bt_0 : bt 0 X = false := by unfold bt; simp
theorem shr_bt (h : k < 32) : (R >>> (Int32.ofNat k &&& 31)) &&& 1 = 0 ↔ bt R k = false := by
  have key : ∀ j : Fin 32, (Int32.ofNat j.val &&& 31).toBitVec.smod 32 = BitVec.ofNat 32 j.val := by decide +kernel
  have hk := key ⟨k, h⟩
  simp only at hk
  have e : (R >>> (Int32.ofNat k &&& 31)).toBitVec = R.toBitVec.sshiftRight k := by
    show R.toBitVec.sshiftRight' ((Int32.ofNat k &&& 31).toBitVec.smod 32) = _
    rw [hk, BitVec.sshiftRight_eq', BitVec.toNat_ofNat, Nat.mod_eq_of_lt (by omega)]
  unfold bt
  rw [← Int32.toBitVec_inj, Int32.toBitVec_and, e]
  have b0 : (R.toBitVec.sshiftRight k).getLsbD 0 = R.toBitVec.getLsbD k := by
    rw [BitVec.getLsbD_sshiftRight]; simp [h]
  constructor
  · intro w
    have := congrArg (fun v => v.getLsbD 0) w
    simp only [BitVec.getLsbD_and, b0] at this
    simpa using this
  · intro w
    apply BitVec.eq_of_getLsbD_eq
    intro i hi
    rw [BitVec.getLsbD_and]
    by_cases g : i = 0
    · subst g; rw [b0, w]; simp
    · have : (1 : Int32).toBitVec.getLsbD i = false := by
        rw [show (1 : Int32).toBitVec = 1#32 from rfl, BitVec.getLsbD_one]; simp [g]
      rw [this]; simp
end Qq

section Rr
variable {lw : LW} {H : AH} {p : Nat} {s s' s'' : St} {Q : Option Value → AH → Prop} {x y : Int32} {i j k m n kk nn u v w X l l' : Nat} {T : Nat → Nat → Prop} {f g : Nat → Nat}
def cat (f : Nat → Nat) (l : Nat) (g : Nat → Nat) : Nat → Nat := fun t => if t ≤ l then f t else g (t - l)
theorem Wf.cat (hf : Wf n T f l) (hg : Wf n T g l') (he : f l = g 0) : Wf n T (Pj.cat f l g) (l + l') ∧ Pj.cat f l g 0 = f 0 ∧ Pj.cat f l g (l + l') = g l' := by
  refine ⟨⟨fun t ht => ?_, fun t ht => ?_⟩, ?_, ?_⟩
  · unfold Pj.cat; split
    · exact hf.1 _ (by omega)
    · exact hg.1 _ (by omega)
  · unfold Pj.cat
    by_cases q : t + 1 ≤ l
    · rw [if_pos (by omega), if_pos q]; exact hf.2 t (by omega)
    · by_cases r : t ≤ l
      · obtain rfl : t = l := by omega
        rw [if_pos (Nat.le_refl _), if_neg q, he, show t + 1 - t = 0 + 1 by omega]; exact hg.2 0 (by omega)
      · rw [if_neg r, if_neg q, show t + 1 - l = (t - l) + 1 by omega]; exact hg.2 _ (by omega)
  · unfold Pj.cat; rw [if_pos (Nat.zero_le _)]
  · unfold Pj.cat; split
    · obtain rfl : l' = 0 := by omega
      rw [Nat.add_zero, he]
    · rw [show l + l' - l = l' by omega]
def TR (n : Nat) (T : Nat → Nat → Prop) (u v : Nat) : Prop := ∃ f l, 1 ≤ l ∧ Wf n T f l ∧ f 0 = u ∧ f l = v
theorem TR.trans (h : TR n T u v) (g : TR n T v w) : TR n T u w := by
  obtain ⟨f, l, a1, a2, a3, a4⟩ := h
  obtain ⟨f', l', b1, b2, b3, b4⟩ := g
  have := a2.cat b2 (by rw [a4, b3])
  exact ⟨_, l + l', by omega, this.1, by rw [this.2.1, a3], by rw [this.2.2, b4]⟩
theorem TR.arc (hu : u < n) (hv : v < n) (h : T u v) : TR n T u v := by
  refine ⟨fun t => if t = 0 then u else v, 1, Nat.le_refl _, ⟨fun t ht => ?_, fun t ht => ?_⟩, rfl, rfl⟩
  · show (if t = 0 then u else v) < n
    split <;> assumption
  · obtain rfl : t = 0 := by omega
    exact h
def Cl2 (R : Nat → Nat → Bool) (k n : Nat) : Prop := ∀ m i j, m < k → i < n → j < n → R i m = true → R m j = true → R i j = true
def stp (R : Nat → Nat → Bool) (k : Nat) : Nat → Nat → Bool := fun i j => R i j || (R i k && R k j)
theorem Cl2.next {R : Nat → Nat → Bool} (h : Cl2 R k n) (hk : k < n) : Cl2 (stp R k) (k + 1) n := by
  intro m i j hm hi hj h1 h2
  unfold stp at *
  rw [Bool.or_eq_true, Bool.and_eq_true] at *
  by_cases e : m = k
  · subst e
    have a1 : R i m = true := by rcases h1 with w | w; exact w; exact w.1
    have a2 : R m j = true := by rcases h2 with w | w; exact w; exact w.2
    exact Or.inr ⟨a1, a2⟩
  · have hm' : m < k := by omega
    rcases h1 with w1 | w1 <;> rcases h2 with w2 | w2
    · exact Or.inl (h m i j hm' hi hj w1 w2)
    · exact Or.inr ⟨h m i k hm' hi hk w1 w2.1, w2.2⟩
    · exact Or.inr ⟨w1.1, h m k j hm' hk hj w1.2 w2⟩
    · exact Or.inr ⟨w1.1, w2.2⟩
theorem Cl2.full {R : Nat → Nat → Bool} (h : Cl2 R n n) (ha : ∀ u v, u < n → v < n → T u v → R u v = true) (ht : TR n T u v) : R u v = true := by
  obtain ⟨f, l, a1, a2, a3, a4⟩ := ht
  have key : ∀ t, 1 ≤ t → t ≤ l → R (f 0) (f t) = true := fun t => by
    induction t with
    | zero => intro w; omega
    | succ t ih =>
      intro _ h2
      have ar := ha (f t) (f (t + 1)) (a2.1 t (by omega)) (a2.1 (t + 1) h2) (a2.2 t (by omega))
      by_cases q : t = 0
      · subst q; exact ar
      · exact h (f t) (f 0) (f (t + 1)) (a2.1 t (by omega)) (a2.1 0 (by omega)) (a2.1 (t + 1) h2) (ih (by omega) (by omega)) ar
  have := key l a1 (Nat.le_refl _)
  rw [a3, a4] at this; exact this
def gt (s : St) (u v : Nat) : Prop := sA s 7 (u * 24 + v) ≠ 0
def Bm (s : St) (u v : Nat) : Bool := bt (sA s 8 u) v
theorem l19_2 (m : Nat) : ∀ (i : Int32) (s : St), i.toInt = 24 - m → 0 ≤ i.toInt → (W (pj lw) 19 2 [.val (.ref p), .val (.int i), .unset] [] kk nn (ob H p s) Q ↔ W (pj lw) 19 21 [.val (.ref p), .val (.int 24), .unset] [] kk nn (ob H p (fA s 8 i.toNatClampNeg 24 0)) Q) := by
  induction m with
  | zero =>
    intro i s hi h0
    have h1 : ¬ i < 24 := by rw [lt32]; simp only [Int32.reduceToInt]; omega
    have e : i = 24 := by rw [eq32]; simp only [Int32.reduceToInt]; omega
    rw [w19_2]; simp +decide only [w19_3, w19_5, ↓reduceIte, h1]
    rw [e, fA_nil (by decide)]
  | succ m ih =>
    intro i s hi h0
    have h1 : i < 24 := by rw [lt32]; simp only [Int32.reduceToInt]; omega
    have h2 : (i + 1).toInt = i.toInt + 1 := ia (by simp only [Int32.reduceToInt]; omega) (by simp only [Int32.reduceToInt]; omega)
    have h4 : (i + 1).toNatClampNeg = i.toNatClampNeg + 1 := by rw [cln, cln]; omega
    have hb : 0 ≤ i.toInt ∧ i.toInt < 24 := by omega
    rw [← fA_step (by rw [cln]; omega), ← h4, ← ih (i + 1) _ (by omega) (by omega), w19_2]
    simp +decide only [w19_3, w19_5, w19_8, w19_9, w19_12, w19_13, w19_14, w19_15, w19_18, isO_put, true_and, and_true, ↓reduceIte, g13, aw8, as8, h1, hb]
set_option maxRecDepth 100000 in
theorem l19_23 (K : ∀ s', Ka s s' 8 → (∀ u v, u < 24 → v < 24 → (Bm s' u v = true ↔ gt s u v)) → W (pj lw) 19 63 [.val (.ref p), .val (.int (Int32.ofNat 576)), .unset] [] kk nn (ob H p s') Q) (m : Nat) :
    ∀ (i : Nat) (s' : St), i + m = 576 → Ka s s' 8 → (∀ u v, u < 24 → v < 24 → (Bm s' u v = true ↔ (u * 24 + v < i ∧ gt s u v))) → W (pj lw) 19 23 [.val (.ref p), .val (.int (Int32.ofNat i)), .unset] [] kk nn (ob H p s') Q := by
  induction m with
  | zero =>
    intro i s' hi hK hT
    obtain rfl : i = 576 := by omega
    have h1 : ¬ Int32.ofNat 576 < 576 := by decide
    rw [w19_23]; simp +decide only [w19_24, w19_27, ↓reduceIte]
    exact K s' hK fun u v hu hv => (hT u v hu hv).trans ⟨fun w => w.2, fun w => ⟨by omega, w⟩⟩
  | succ m ih =>
    intro i s' hi hK hT
    obtain ⟨e1, e2⟩ := ofi (i := i) (by omega)
    have h1 : Int32.ofNat i < 576 := by rw [lt32, e1]; simp only [Int32.reduceToInt]; omega
    have hb : 0 ≤ (Int32.ofNat i).toInt ∧ (Int32.ofNat i).toInt < 576 := by omega
    have k7 := hK.2.2.1 7 i (by decide)
    have ei : i / 24 * 24 + i % 24 = i := by omega
    rw [w19_23]
    by_cases q : sA s' 7 i = 0
    · simp +decide only [w19_24, w19_27, w19_30, w19_31, w19_34, w19_35, w19_36, w19_57, w19_60, isO_put, true_and, and_true, or_true, ↓reduceIte, g12, ai7, ain7, ae7, ain7, h1, hb, e2, q, ofs]
      refine ih (i + 1) s' (by omega) hK fun u v hu hv => (hT u v hu hv).trans ⟨fun w => ⟨by omega, w.2⟩, fun w => ⟨?_, w.2⟩⟩
      have : u * 24 + v ≠ i := fun e => w.2 (by rw [e, ← k7]; exact q)
      omega
    · have d1 := d24 (i := i) (by omega)
      have d2 := rm24 (i := i) (by omega)
      obtain ⟨u1, u2⟩ := ofi (i := i / 24) (by omega)
      have r1 : 0 ≤ (Int32.ofNat (i / 24)).toInt ∧ (Int32.ofNat (i / 24)).toInt < 24 := by omega
      simp +decide only [w19_24, w19_27, w19_30, w19_31, w19_34, w19_35, w19_36, w19_39, w19_40, w19_43, w19_44, w19_46, w19_47, w19_48, w19_49, w19_50, w19_51, w19_53, w19_54, w19_55, w19_56, w19_57, w19_60, isO_put, true_and, and_true, or_true, ↓reduceIte, g12, g13, ai7, ain7, ae7, ai8, aw8, ae8, as8, ain7, h1, hb, e2, q, d1, d2, r1, u2, ofs]
      refine ih (i + 1) _ (by omega) ⟨fun k => by rw [sI_uA]; exact hK.1 k, fun k => by rw [sJ_uA]; exact hK.2.1 k, fun t' j ht' => by rw [sA_uA, if_neg (fun w => ht' w.1)]; exact hK.2.2.1 t' j ht', fun t' j => by rw [sB_uA]; exact hK.2.2.2 t' j⟩ fun u v hu hv => ?_
      have ot := hT u v hu hv
      unfold Bm at ot ⊢
      rw [sA_uA]
      by_cases e : u = i / 24
      · rw [if_pos ⟨rfl, e⟩, bt_or, bt_1 (by omega), Bool.or_eq_true, decide_eq_true_eq, ← e, ot]
        constructor
        · rintro (w | w)
          · exact ⟨by omega, w.2⟩
          · refine ⟨by omega, ?_⟩
            unfold gt; rw [w, e, ei, ← k7]; exact q
        · intro w
          by_cases ev : v = i % 24
          · exact Or.inr ev
          · exact Or.inl ⟨by omega, w.2⟩
      · rw [if_neg (fun w => e w.2), ot]
        exact ⟨fun w => ⟨by omega, w.2⟩, fun w => ⟨by omega, w.2⟩⟩
set_option maxRecDepth 100000 in
theorem l19_75 (n0 : sI s 0 = Int32.ofNat n) (hn : n ≤ 24) (hk : k < n) (K : ∀ s', Ka s s' 8 → (∀ u v, u < n → v < 24 → Bm s' u v = stp (Bm s) k u v) → W (pj lw) 19 117 [.val (.ref p), .val (.int (Int32.ofNat k)), .val (.int (Int32.ofNat n))] [] kk nn (ob H p s') Q) (m : Nat) :
    ∀ (i : Nat) (s' : St), i + m = n → Ka s s' 8 → (∀ u v, u < n → v < 24 → Bm s' u v = if u < i then stp (Bm s) k u v else Bm s u v) → W (pj lw) 19 75 [.val (.ref p), .val (.int (Int32.ofNat k)), .val (.int (Int32.ofNat i))] [] kk nn (ob H p s') Q := by
  induction m with
  | zero =>
    intro i s' hi hK hT
    obtain rfl : i = n := by omega
    have m0 : sI s' 0 = Int32.ofNat i := by rw [hK.1]; exact n0
    have h1 : ¬ Int32.ofNat i < Int32.ofNat i := by rw [lt32]; omega
    rw [w19_75]; simp +decide only [w19_76, w19_77, w19_80, isO_put, true_and, ↓reduceIte, g0, m0, h1]
    exact K s' hK fun u v hu hv => by rw [hT u v hu hv, if_pos hu]
  | succ m ih =>
    intro i s' hi hK hT
    have m0 : sI s' 0 = Int32.ofNat n := by rw [hK.1]; exact n0
    obtain ⟨e1, e2⟩ := ofi (i := i) (by omega)
    obtain ⟨f1, f2⟩ := ofi (i := k) (by omega)
    have h1 : Int32.ofNat i < Int32.ofNat n := by rw [lt32, e1, (ofi (by omega)).1]; omega
    have r1 : 0 ≤ (Int32.ofNat i).toInt ∧ (Int32.ofNat i).toInt < 24 := by omega
    have r2 : 0 ≤ (Int32.ofNat k).toInt ∧ (Int32.ofNat k).toInt < 24 := by omega
    have sb := shr_bt (R := sA s' 8 i) (k := k) (by omega)
    have bi : bt (sA s' 8 i) k = Bm s i k := by have := hT i k (by omega) (by omega); rw [if_neg (by omega)] at this; exact this
    have rk' : ∀ v, v < 24 → Bm s' k v = Bm s k v := fun v hv => by
      rw [hT k v hk hv]; unfold stp; split
      · cases Bm s k v <;> simp
      · rfl
    rw [w19_75]
    by_cases q : (sA s' 8 i >>> (Int32.ofNat k &&& 31)) &&& 1 = 0
    · have bf := sb.1 q
      rw [bi] at bf
      simp +decide only [w19_76, w19_77, w19_80, w19_83, w19_84, w19_87, w19_88, w19_89, w19_90, w19_91, w19_92, w19_93, w19_111, w19_114, isO_put, true_and, and_true, ↓reduceIte, g0, g13, ai8, ae8, m0, h1, r1, e2, q, ofs]
      refine ih (i + 1) s' (by omega) hK fun u v hu hv => ?_
      rw [hT u v hu hv]
      by_cases e : u = i
      · subst e; rw [if_neg (by omega), if_pos (by omega)]; unfold stp; rw [bf]; simp
      · by_cases l : u < i
        · rw [if_pos l, if_pos (by omega)]
        · rw [if_neg l, if_neg (by omega)]
    · have bt' : Bm s i k = true := by
        rw [← bi]; cases w : bt (sA s' 8 i) k with
        | true => rfl
        | false => exact absurd (sb.2 w) q
      simp +decide only [w19_76, w19_77, w19_80, w19_83, w19_84, w19_87, w19_88, w19_89, w19_90, w19_91, w19_92, w19_93, w19_96, w19_97, w19_100, w19_101, w19_102, w19_103, w19_104, w19_107, w19_108, w19_109, w19_110, w19_111, w19_114, isO_put, true_and, and_true, ↓reduceIte, g0, g13, ai8, aw8, ae8, as8, m0, h1, r1, r2, e2, f2, q, ofs]
      refine ih (i + 1) _ (by omega) ⟨fun k => by rw [sI_uA]; exact hK.1 k, fun k => by rw [sJ_uA]; exact hK.2.1 k, fun t' j ht' => by rw [sA_uA, if_neg (fun w => ht' w.1)]; exact hK.2.2.1 t' j ht', fun t' j => by rw [sB_uA]; exact hK.2.2.2 t' j⟩ fun u v hu hv => ?_
      have ot := hT u v hu hv
      have rkv := rk' v hv
      unfold Bm at ot rkv ⊢
      rw [sA_uA]
      by_cases e : u = i
      · subst e
        rw [if_pos ⟨rfl, rfl⟩, bt_or, ot, if_neg (by omega), if_pos (by omega), rkv]
        unfold stp
        unfold Bm at bt'
        show (bt (sA s 8 u) v || bt (sA s 8 k) v) = (bt (sA s 8 u) v || (bt (sA s 8 u) k && bt (sA s 8 k) v))
        rw [bt']; simp
      · rw [if_neg (fun w => e w.2), ot]
        by_cases l : u < i
        · rw [if_pos l, if_pos (by omega)]
        · rw [if_neg l, if_neg (by omega)]
def WI (s s' : St) (n k : Nat) : Prop := Ka s s' 8 ∧ Cl2 (Bm s') k n ∧ (∀ u v, u < n → v < n → gt s u v → Bm s' u v = true) ∧ ∀ u v, u < n → v < n → Bm s' u v = true → TR n (gt s) u v
theorem Ka.trans {t : Nat} (h : Ka s s' t) (g : Ka s' s'' t) : Ka s s'' t := ⟨fun k => (g.1 k).trans (h.1 k), fun k => (g.2.1 k).trans (h.2.1 k), fun t' i ht => (g.2.2.1 t' i ht).trans (h.2.2.1 t' i ht), fun t' i => (g.2.2.2 t' i).trans (h.2.2.2 t' i)⟩
theorem Cl2.congr {R R' : Nat → Nat → Bool} (h : Cl2 R k n) (hk : k ≤ n) (e : ∀ u v, u < n → v < n → R' u v = R u v) : Cl2 R' k n := fun m i j hm hi hj h1 h2 => by
  rw [e i m hi (by omega)] at h1
  rw [e m j (by omega) hj] at h2
  rw [e i j hi hj]; exact h m i j hm hi hj h1 h2
theorem WI.next (h : WI s s' n k) (hn : n ≤ 24) (hk : k < n) (hK : Ka s' s'' 8) (hT : ∀ u v, u < n → v < 24 → Bm s'' u v = stp (Bm s') k u v) : WI s s'' n (k + 1) := by
  refine ⟨h.1.trans hK, (h.2.1.next hk).congr (by omega) (fun u v hu hv => hT u v hu (by omega)), fun u v hu hv ht => ?_, fun u v hu hv hb => ?_⟩
  · rw [hT u v hu (by omega)]; unfold stp; rw [h.2.2.1 u v hu hv ht]; rfl
  · rw [hT u v hu (by omega)] at hb; unfold stp at hb
    rw [Bool.or_eq_true, Bool.and_eq_true] at hb
    rcases hb with w | w
    · exact h.2.2.2 u v hu hv w
    · exact (h.2.2.2 u k hu hk w.1).trans (h.2.2.2 k v hk hv w.2)
set_option maxRecDepth 100000 in
theorem l19_65 (n0 : sI s 0 = Int32.ofNat n) (hn : n ≤ 24) (K : ∀ s', Ka s s' 8 → (∀ u v, u < n → v < n → (Bm s' u v = true ↔ TR n (gt s) u v)) → Q none (ob H p s')) (m : Nat) :
    ∀ (k : Nat) (s' : St), k + m = n → WI s s' n k → W (pj lw) 19 65 [.val (.ref p), .val (.int (Int32.ofNat k)), .unset] [] kk nn (ob H p s') Q := by
  induction m with
  | zero =>
    intro k s' hk hW
    obtain rfl : k = n := by omega
    have m0 : sI s' 0 = Int32.ofNat k := by rw [hW.1.1]; exact n0
    have h1 : ¬ Int32.ofNat k < Int32.ofNat k := by rw [lt32]; omega
    rw [w19_65]; simp +decide only [w19_66, w19_67, w19_70, w19_123, isO_put, true_and, ↓reduceIte, g0, m0, h1]
    exact K s' hW.1 fun u v hu hv => ⟨hW.2.2.2 u v hu hv, fun w => hW.2.1.full hW.2.2.1 w⟩
  | succ m ih =>
    intro k s' hk hW
    have m0 : sI s' 0 = Int32.ofNat n := by rw [hW.1.1]; exact n0
    have h1 : Int32.ofNat k < Int32.ofNat n := by rw [lt32, (ofi (by omega)).1, (ofi (by omega)).1]; omega
    have o0 : (0 : Int32) = Int32.ofNat 0 := rfl
    rw [w19_65]; simp +decide only [w19_66, w19_67, w19_70, w19_73, w19_74, isO_put, true_and, ↓reduceIte, g0, m0, h1]
    rw [o0]
    refine l19_75 m0 hn (by omega) (fun σ hK hT => ?_) n 0 s' (by omega) ⟨fun _ => rfl, fun _ => rfl, fun _ _ _ => rfl, fun _ _ => rfl⟩ (fun u v _ _ => by rw [if_neg (by omega)])
    refine W_fa 2 rfl ?_
    show W (pj lw) 19 117 [.val (.ref p), .val (.int (Int32.ofNat k)), .unset] [] kk nn (ob H p σ) Q
    simp +decide only [w19_117, w19_120, ofs]
    exact ih (k + 1) σ (by omega) (hW.next hn (by omega) hK hT)
set_option maxRecDepth 100000 in
theorem v19g (n0 : sI s 0 = Int32.ofNat n) (hn : n ≤ 24) (K : ∀ s', Ka s s' 8 → (∀ u v, u < n → v < n → (Bm s' u v = true ↔ TR n (gt s) u v)) → Q none (ob H p s')) : Cl (pj lw) 19 [.ref p] (ob H p s) Q := by
  have o0 : (0 : Int32) = Int32.ofNat 0 := rfl
  have K0 : Ka s (fA s 8 0 24 0) 8 := ⟨fun _ => sI_fA, fun _ => sJ_fA, fun t j ht => by rw [sA_fA, if_neg (fun w => ht w.1)], fun _ _ => sB_fA⟩
  rw [c19]; simp +decide only [w19_0, w19_1]
  refine (l19_2 24 0 s (by decide) (by decide)).2 ?_
  simp +decide only [w19_21, w19_22i, Int32.reduceToNatClampNeg]
  rw [o0]
  refine l19_23 (s := s) (fun σ hK hT => ?_) 576 0 _ (by omega) K0 (fun u v hu hv => ?_)
  rotate_left
  · unfold Bm; rw [sA_fA, if_pos ⟨rfl, Nat.zero_le _, hu⟩, ← o0, bt_0]
    exact ⟨fun w => absurd w (by decide), fun w => by omega⟩
  simp +decide only [w19_63, w19_64i]
  rw [o0]
  exact l19_65 n0 hn K n 0 σ (by omega) ⟨hK, fun m i j hm => by omega, fun u v hu hv ht => (hT u v (by omega) (by omega)).2 ht, fun u v hu hv hb => TR.arc hu hv ((hT u v (by omega) (by omega)).1 hb)⟩
end Rr

section Ss
variable {lw : LW} {H : AH} {p : Nat} {s s' s'' : St} {Q : Option Value → AH → Prop} {x : Int32} {i j k m n kk nn u v w t h σ y : Nat} {T : Nat → Nat → Prop} {f g qv δ : Nat → Nat}
def vis (qv : Nat → Nat) (t v : Nat) : Prop := ∃ a, a < t ∧ qv a = v
def BI (n : Nat) (T : Nat → Nat → Prop) (σ : Nat) (qv : Nat → Nat) (t h y : Nat) (δ : Nat → Nat) : Prop :=
  (1 ≤ t ∧ h ≤ t ∧ qv 0 = σ ∧ δ σ = 0) ∧ (∀ a, a < t → qv a < n) ∧ (∀ a b, a < b → b < t → qv a ≠ qv b) ∧ (∀ a b, a ≤ b → b < t → δ (qv a) ≤ δ (qv b)) ∧ (∀ b, h < t → b < t → δ (qv b) ≤ δ (qv h) + 1) ∧
  (∀ v, vis qv t v → v ≠ σ → ∃ u, vis qv t u ∧ T v u ∧ δ v = δ u + 1) ∧ (∀ a, a < h → ∀ v, v < n → T v (qv a) → vis qv t v ∧ δ v ≤ δ (qv a) + 1) ∧ (h < t → ∀ v, v < y → v < n → T v (qv h) → vis qv t v ∧ δ v ≤ δ (qv h) + 1)
theorem dist_n : ∀ (n t : Nat) (f : Nat → Nat), (∀ a, a < t → f a < n) → (∀ a b, a < b → b < t → f a ≠ f b) → t ≤ n := fun n t f h1 h2 => by
  by_cases q : t ≤ n
  · exact q
  · obtain ⟨i, j, a1, a2, a3⟩ := phn n f fun i hi => h1 i (by omega)
    exact absurd a3 (h2 i j a1 (by omega))
theorem BI.lt (hB : BI n T σ qv t h y δ) (hv : v < n) (hn : ¬ vis qv t v) : t < n := by
  have := dist_n n (t + 1) (fun a => if a = t then v else qv a) (fun a ha => by
    show (if a = t then v else qv a) < n
    split
    · exact hv
    · exact hB.2.1 a (by omega)) (fun a b hab hb => by
    show (if a = t then v else qv a) ≠ (if b = t then v else qv b)
    rw [if_neg (by omega)]
    split
    · exact fun e => hn ⟨a, by omega, e⟩
    · exact hB.2.2.1 a b hab (by omega))
  omega
def pq (qv : Nat → Nat) (t v : Nat) : Nat → Nat := fun a => if a = t then v else qv a
def pd (δ : Nat → Nat) (v d : Nat) : Nat → Nat := fun a => if a = v then d else δ a
theorem vis_pq : vis (pq qv t w) (t + 1) v ↔ (vis qv t v ∨ v = w) := by
  unfold vis pq
  constructor
  · rintro ⟨a, h1, h2⟩
    by_cases e : a = t
    · rw [if_pos e] at h2; exact Or.inr h2.symm
    · rw [if_neg e] at h2; exact Or.inl ⟨a, by omega, h2⟩
  · rintro (⟨a, h1, h2⟩ | e)
    · exact ⟨a, by omega, by rw [if_neg (by omega)]; exact h2⟩
    · exact ⟨t, by omega, by rw [if_pos rfl]; exact e.symm⟩
theorem BI.push (hB : BI n T σ qv t h y δ) (hy : y < n) (hn : ¬ vis qv t y) (hh : h < t) (ht : T y (qv h)) : BI n T σ (pq qv t y) (t + 1) h (y + 1) (pd δ y (δ (qv h) + 1)) := by
  obtain ⟨⟨b1, b2, b3, b4⟩, b5, b6, b7, b8, b9, b10, b11⟩ := hB
  have pqo : ∀ a, a < t → pq qv t y a = qv a := fun a ha => by unfold pq; rw [if_neg (by omega)]
  have pqt : pq qv t y t = y := by unfold pq; rw [if_pos rfl]
  have pdo : ∀ v, vis qv t v → pd δ y (δ (qv h) + 1) v = δ v := fun v hv => by unfold pd; rw [if_neg (fun (e : v = y) => hn (by rw [← e]; exact hv))]
  have pdy : pd δ y (δ (qv h) + 1) y = δ (qv h) + 1 := by unfold pd; rw [if_pos rfl]
  have vq : ∀ a, a < t → vis qv t (qv a) := fun a ha => ⟨a, ha, rfl⟩
  have v0 : vis qv t σ := ⟨0, by omega, b3⟩
  refine ⟨⟨by omega, by omega, by rw [pqo 0 (by omega)]; exact b3, by rw [pdo σ v0]; exact b4⟩, fun a ha => ?_, fun a b hab hb => ?_, fun a b hab hb => ?_, fun b _ hb => ?_, fun v hv hne => ?_, fun a ha v hv hT => ?_, fun _ v hvy hv hT => ?_⟩
  · by_cases e : a = t
    · subst e; rw [pqt]; exact hy
    · rw [pqo a (by omega)]; exact b5 a (by omega)
  · rw [pqo a (by omega)]
    by_cases e : b = t
    · subst e; rw [pqt]; exact fun w => hn (w ▸ vq a (by omega))
    · rw [pqo b (by omega)]; exact b6 a b hab (by omega)
  · by_cases e : b = t
    · subst e
      rw [pqt, pdy]
      by_cases e2 : a = b
      · subst e2; rw [pqt, pdy]; exact Nat.le_refl _
      · rw [pqo a (by omega), pdo _ (vq a (by omega))]; exact b8 a hh (by omega)
    · rw [pqo a (by omega), pqo b (by omega), pdo _ (vq a (by omega)), pdo _ (vq b (by omega))]; exact b7 a b hab (by omega)
  · rw [pqo h hh, pdo _ (vq h hh)]
    by_cases e : b = t
    · subst e; rw [pqt, pdy]; exact Nat.le_refl _
    · rw [pqo b (by omega), pdo _ (vq b (by omega))]; exact b8 b hh (by omega)
  · rcases vis_pq.1 hv with w | w
    · obtain ⟨u, c1, c2, c3⟩ := b9 v w hne
      exact ⟨u, vis_pq.2 (Or.inl c1), c2, by rw [pdo v w, pdo u c1]; exact c3⟩
    · subst w
      exact ⟨qv h, vis_pq.2 (Or.inl (vq h hh)), ht, by rw [pdy, pdo _ (vq h hh)]⟩
  · rw [pqo a (by omega)] at hT ⊢
    obtain ⟨c1, c2⟩ := b10 a ha v hv hT
    exact ⟨vis_pq.2 (Or.inl c1), by rw [pdo v c1, pdo _ (vq a (by omega))]; exact c2⟩
  · rw [pqo h hh] at hT ⊢
    rw [pdo _ (vq h hh)]
    by_cases e : v = y
    · subst e; exact ⟨vis_pq.2 (Or.inr rfl), by rw [pdy]; exact Nat.le_refl _⟩
    · obtain ⟨c1, c2⟩ := b11 hh v (by omega) hv hT
      exact ⟨vis_pq.2 (Or.inl c1), by rw [pdo v c1]; exact c2⟩
theorem BI.keep (hB : BI n T σ qv t h y δ) (hk : T y (qv h) → vis qv t y) : BI n T σ qv t h (y + 1) δ := by
  obtain ⟨a1, b5, b6, b7, b8, b9, b10, b11⟩ := hB
  refine ⟨a1, b5, b6, b7, b8, b9, b10, fun hh v hvy hv hT => ?_⟩
  by_cases e : v = y
  · subst e
    obtain ⟨a, c1, c2⟩ := hk hT
    refine ⟨⟨a, c1, c2⟩, ?_⟩
    rw [← c2]; exact b8 a hh c1
  · exact b11 hh v (by omega) hv hT
theorem BI.head (hB : BI n T σ qv t h n δ) (hh : h < t) : BI n T σ qv t (h + 1) 0 δ := by
  obtain ⟨⟨b1, b2, b3, b4⟩, b5, b6, b7, b8, b9, b10, b11⟩ := hB
  refine ⟨⟨b1, by omega, b3, b4⟩, b5, b6, b7, fun b w hb => ?_, b9, fun a ha v hv hT => ?_, fun _ v w => by omega⟩
  · have := b8 b hh hb
    have := b7 h (h + 1) (by omega) w
    omega
  · by_cases e : a = h
    · subst e; exact b11 hh v hv hv hT
    · exact b10 a (by omega) v hv hT
def DI (n : Nat) (T : Nat → Nat → Prop) (σ v d : Nat) : Prop := (∃ f, Wf n T f d ∧ f 0 = v ∧ f d = σ) ∧ ∀ f d', Wf n T f d' → f 0 = v → f d' = σ → d ≤ d'
theorem BI.walk (hB : BI n T σ qv t h y δ) : ∀ (d v : Nat), vis qv t v → δ v = d → ∃ f, Wf n T f d ∧ f 0 = v ∧ f d = σ := by
  obtain ⟨⟨b1, b2, b3, b4⟩, b5, b6, b7, b8, b9, b10, b11⟩ := hB
  have vn : ∀ v, vis qv t v → v < n := fun v ⟨a, h1, h2⟩ => h2 ▸ b5 a h1
  intro d
  induction d with
  | zero =>
    intro v hv hd
    have : v = σ := Classical.byContradiction fun e => by
      obtain ⟨u, _, _, c3⟩ := b9 v hv e
      omega
    exact ⟨fun _ => v, ⟨fun _ _ => vn v hv, fun i hi => absurd hi (by omega)⟩, rfl, this⟩
  | succ d ih =>
    intro v hv hd
    have ne : v ≠ σ := fun e => by rw [e] at hd; omega
    obtain ⟨u, c1, c2, c3⟩ := b9 v hv ne
    obtain ⟨f, e1, e2, e3⟩ := ih u c1 (by omega)
    have arc : Wf n T (fun t => if t = 0 then v else u) 1 := ⟨fun t ht => by
      show (if t = 0 then v else u) < n
      split
      · exact vn v hv
      · exact vn u c1, fun t ht => by obtain rfl : t = 0 := by omega
                                      exact c2⟩
    have := arc.cat e1 (by show u = f 0; exact e2.symm)
    rw [Nat.add_comm] at this
    exact ⟨_, this.1, this.2.1, by rw [this.2.2, e3]⟩
theorem BI.least (hB : BI n T σ qv t t y δ) : ∀ (d : Nat) (f : Nat → Nat), Wf n T f d → f d = σ → vis qv t (f 0) ∧ δ (f 0) ≤ d := by
  obtain ⟨⟨b1, b2, b3, b4⟩, b5, b6, b7, b8, b9, b10, b11⟩ := hB
  intro d
  induction d with
  | zero => intro f hw he; rw [he]; exact ⟨⟨0, by omega, b3⟩, by omega⟩
  | succ d ih =>
    intro f hw he
    obtain ⟨⟨a, c1, c2⟩, c3⟩ := ih (fun t => f (1 + t)) (hw.shift (by omega)) (by show f (1 + d) = σ; rw [Nat.add_comm]; exact he)
    have ar := hw.2 0 (by omega)
    have c2' : qv a = f (0 + 1) := c2
    have c3' : δ (f (0 + 1)) ≤ d := c3
    rw [← c2'] at ar c3'
    obtain ⟨e1, e2⟩ := b10 a c1 (f 0) (hw.1 0 (by omega)) ar
    exact ⟨e1, by omega⟩
theorem BI.di (hB : BI n T σ qv t t y δ) (hv : vis qv t v) : DI n T σ v (δ v) := ⟨hB.walk (δ v) v hv rfl, fun f d' hw h0 he => by have := (hB.least d' f hw he).2; rw [h0] at this; exact this⟩
theorem DI.lt {d : Nat} (h : DI n T σ v d) : d < n := by
  by_cases q : d < n
  · exact q
  · obtain ⟨⟨f, a1, a2, a3⟩, a4⟩ := h
    obtain ⟨i, j, c1, c2, c3⟩ := a1.php (by omega)
    obtain ⟨b1, b2, b3, _⟩ := a1.cut (c := fun _ _ => 0) c1 (by omega) c3
    have := a4 _ _ b1 (by rw [b3, a2]) (by rw [b2, a3])
    omega
theorem DI.uniq {d d' : Nat} (h : DI n T σ v d) (g : DI n T σ v d') : d = d' := by
  obtain ⟨⟨f, a1, a2, a3⟩, a4⟩ := h
  obtain ⟨⟨f', b1, b2, b3⟩, b4⟩ := g
  have := a4 _ _ b1 b2 b3
  have := b4 _ _ a1 a2 a3
  omega
def BS (s s' : St) (n σ : Nat) (qv : Nat → Nat) (t h y : Nat) (δ : Nat → Nat) : Prop := ((∀ k, sI s' k = sI s k) ∧ (∀ k, sJ s' k = sJ s k) ∧ (∀ t' j, t' ≠ 9 → t' ≠ 10 → sA s' t' j = sA s t' j) ∧ ∀ t' j, sB s' t' j = sB s t' j) ∧ BI n (gt s) σ qv t h y δ ∧ (∀ a, a < t → sA s' 10 a = Int32.ofNat (qv a)) ∧ (∀ v, v < 24 → vis qv t v → sA s' 9 v = Int32.ofNat (δ v) ∧ δ v < n) ∧ ∀ v, v < 24 → ¬ vis qv t v → sA s' 9 v = -1
theorem ngo {a : Nat} (h : a < 1000) : ¬ Int32.ofNat a < 0 := by rw [lt32, (ofi h).1]; simp only [Int32.reduceToInt]; omega
theorem l20_2 (m : Nat) : ∀ (i : Int32) (s : St), i.toInt = 24 - m → 0 ≤ i.toInt → (W (pj lw) 20 2 [.val (.ref p), .val (.int x), .val (.int i), .unset, .unset, .unset] [] kk nn (ob H p s) Q ↔ W (pj lw) 20 21 [.val (.ref p), .val (.int x), .val (.int 24), .unset, .unset, .unset] [] kk nn (ob H p (fA s 9 i.toNatClampNeg 24 (-1))) Q) := by
  induction m with
  | zero =>
    intro i s hi h0
    have h1 : ¬ i < 24 := by rw [lt32]; simp only [Int32.reduceToInt]; omega
    have e : i = 24 := by rw [eq32]; simp only [Int32.reduceToInt]; omega
    rw [w20_2]; simp +decide only [w20_3, w20_5, ↓reduceIte, h1]
    rw [e, fA_nil (by decide)]
  | succ m ih =>
    intro i s hi h0
    have h1 : i < 24 := by rw [lt32]; simp only [Int32.reduceToInt]; omega
    have h2 : (i + 1).toInt = i.toInt + 1 := ia (by simp only [Int32.reduceToInt]; omega) (by simp only [Int32.reduceToInt]; omega)
    have h4 : (i + 1).toNatClampNeg = i.toNatClampNeg + 1 := by rw [cln, cln]; omega
    have hb : 0 ≤ i.toInt ∧ i.toInt < 24 := by omega
    rw [← fA_step (by rw [cln]; omega), ← h4, ← ih (i + 1) _ (by omega) (by omega), w20_2]
    simp +decide only [w20_3, w20_5, w20_8, w20_9, w20_12, w20_13, w20_14, w20_15, w20_18, isO_put, true_and, and_true, ↓reduceIte, g14, aw9, as9, h1, hb]
set_option maxRecDepth 100000 in
set_option maxHeartbeats 1000000 in
theorem l20_61 (n0 : sI s 0 = Int32.ofNat n) (hn : n ≤ 24) (hg : ∀ u v, gt s u v → u < 24 → v < 24 → u < n ∧ v < n)
    (K : ∀ s' qv t δ, BS s s' n σ qv t h n δ → h < t → W (pj lw) 20 135 [.val (.ref p), .val (.int (Int32.ofNat σ)), .val (.int (Int32.ofNat t)), .val (.int (Int32.ofNat h)), .unset, .unset] [] kk nn (ob H p s') Q) (m : Nat) :
    ∀ (y : Nat) (s' : St) (qv : Nat → Nat) (t : Nat) (δ : Nat → Nat), y + m = n → BS s s' n σ qv t h y δ → h < t → W (pj lw) 20 61 [.val (.ref p), .val (.int (Int32.ofNat σ)), .val (.int (Int32.ofNat t)), .val (.int (Int32.ofNat h)), .val (.int (Int32.ofNat (qv h))), .val (.int (Int32.ofNat y))] [] kk nn (ob H p s') Q := by
  induction m with
  | zero =>
    intro y s' qv t δ hy hB hh
    obtain rfl : y = n := by omega
    have m0 : sI s' 0 = Int32.ofNat y := by rw [hB.1.1]; exact n0
    have h1 : ¬ Int32.ofNat y < Int32.ofNat y := by rw [lt32]; omega
    rw [w20_61]; simp +decide only [w20_63, w20_64, w20_67, isO_put, true_and, ↓reduceIte, g0, m0, h1]
    refine W_fa 4 rfl ?_
    exact K s' qv t δ hB hh
  | succ m ih =>
    intro y s' qv t δ hy hB hh
    obtain ⟨bF, bI, bq, bd, bn⟩ := id hB
    have m0 : sI s' 0 = Int32.ofNat n := by rw [bF.1]; exact n0
    have tn : t ≤ n := dist_n n t qv bI.2.1 bI.2.2.1
    have xn := bI.2.1 h hh
    obtain ⟨e1, e2⟩ := ofi (i := y) (by omega)
    obtain ⟨x1, x2⟩ := ofi (i := qv h) (by omega)
    obtain ⟨t1, t2⟩ := ofi (i := t) (by omega)
    have h1 : Int32.ofNat y < Int32.ofNat n := by rw [lt32, e1, (ofi (by omega)).1]; omega
    have e4 := m24 (u := y) (v := qv h)
    obtain ⟨a1, a2⟩ := ofi (i := y * 24 + qv h) (by omega)
    have r1 : 0 ≤ (Int32.ofNat (y * 24 + qv h)).toInt ∧ (Int32.ofNat (y * 24 + qv h)).toInt < 576 := by omega
    have r2 : 0 ≤ (Int32.ofNat y).toInt ∧ (Int32.ofNat y).toInt < 24 := by omega
    have r3 : 0 ≤ (Int32.ofNat (qv h)).toInt ∧ (Int32.ofNat (qv h)).toInt < 24 := by omega
    have k7 := bF.2.2.1 7 (y * 24 + qv h) (by decide) (by decide)
    have nx : ∀ (s' : St) qv' t' δ', qv' h = qv h → BS s s' n σ qv' t' h (y + 1) δ' → h < t' → W (pj lw) 20 129 [.val (.ref p), .val (.int (Int32.ofNat σ)), .val (.int (Int32.ofNat t')), .val (.int (Int32.ofNat h)), .val (.int (Int32.ofNat (qv h))), .val (.int (Int32.ofNat y))] [] kk nn (ob H p s') Q := fun s' qv' t' δ' he hB' hh' => by
      simp +decide only [w20_129, w20_132, ofs]
      have := ih (y + 1) s' qv' t' δ' (by omega) hB' hh'
      rw [he] at this; exact this
    rw [w20_61]
    by_cases q : sA s' 7 (y * 24 + qv h) = 0
    · simp +decide only [w20_63, w20_64, w20_67, w20_70, w20_71, w20_74, w20_76, w20_78, w20_79, w20_81, w20_82, w20_83, isO_put, true_and, and_true, or_true, ↓reduceIte, g0, g12, ai7, ain7, ae7, ain7, m0, h1, e4, r1, a2, q]
      refine nx s' qv t δ rfl ⟨bF, bI.keep (fun w => absurd (show sA s 7 (y * 24 + qv h) = 0 by rw [← k7]; exact q) w), bq, bd, bn⟩ hh
    · have tT : gt s y (qv h) := by unfold gt; rw [← k7]; exact q
      by_cases vy : vis qv t y
      · obtain ⟨d1, d2⟩ := bd y (by omega) vy
        have ng := ngo (a := δ y) (by omega)
        simp +decide only [w20_63, w20_64, w20_67, w20_70, w20_71, w20_74, w20_76, w20_78, w20_79, w20_81, w20_82, w20_83, w20_86, w20_87, w20_90, w20_92, w20_93, isO_put, true_and, and_true, or_true, ↓reduceIte, g0, g12, g14, ai7, ain7, ae7, ai9, ae9, ain7, m0, h1, e4, r1, r2, a2, e2, q, d1, ng]
        exact nx s' qv t δ rfl ⟨bF, bI.keep (fun _ => vy), bq, bd, bn⟩ hh
      · have d1 := bn y (by omega) vy
        have tl := bI.lt (show y < n by omega) vy
        have h2 : Int32.ofNat t < 24 := by rw [lt32, t1]; simp only [Int32.reduceToInt]; omega
        have r4 : 0 ≤ (Int32.ofNat t).toInt ∧ (Int32.ofNat t).toInt < 24 := by omega
        have neg : (-1 : Int32) < 0 := by decide
        obtain ⟨dx1, dx2⟩ := bd (qv h) (by omega) ⟨h, hh, rfl⟩
        simp +decide only [w20_63, w20_64, w20_67, w20_70, w20_71, w20_74, w20_76, w20_78, w20_79, w20_81, w20_82, w20_83, w20_86, w20_87, w20_90, w20_92, w20_93, w20_96, w20_97, w20_99, w20_102, w20_103, w20_106, w20_108, w20_109, w20_112, w20_114, w20_115, w20_116, w20_117, w20_118, w20_119, w20_122, w20_123, w20_125, w20_126, isO_put, true_and, and_true, or_true, ↓reduceIte, g0, g12, g14, g15, ai7, ain7, ae7, ai9, aw9, ae9, as9, aw10, as10, ain7, m0, h1, e4, r1, r2, r3, r4, a2, e2, x2, t2, q, d1, h2, dx1, ofs]
        have bP := bI.push (show y < n by omega) vy hh tT
        have pqh : pq qv t y h = qv h := by unfold pq; rw [if_neg (by omega)]
        refine nx _ (pq qv t y) (t + 1) (pd δ y (δ (qv h) + 1)) pqh ⟨⟨fun k => by simp only [sI_uA]; exact bF.1 k, fun k => by simp only [sJ_uA]; exact bF.2.1 k, fun t' j h1 h2 => by rw [sA_uA, if_neg (fun w => h2 w.1), sA_uA, if_neg (fun w => h1 w.1)]; exact bF.2.2.1 t' j h1 h2, fun t' j => by simp only [sB_uA]; exact bF.2.2.2 t' j⟩, bP, fun a ha => ?_, fun v hv hvis => ?_, fun v hv hvis => ?_⟩ (by omega)
        · rw [sA_uA]; unfold pq
          by_cases e : a = t
          · rw [if_pos ⟨rfl, e⟩, if_pos e]
          · rw [if_neg (fun w => e w.2), if_neg e, sA_uA, if_neg (by simp)]; exact bq a (by omega)
        · rw [sA_uA, if_neg (by simp), sA_uA]; unfold pd
          by_cases e : v = y
          · rw [if_pos ⟨rfl, e⟩, if_pos e]
            refine ⟨rfl, ?_⟩
            obtain ⟨f, g1, g2, g3⟩ := bP.walk (δ (qv h) + 1) y (vis_pq.2 (Or.inr rfl)) (by unfold pd; rw [if_pos rfl])
            have key : ∀ d, d ≤ δ (qv h) + 1 → ∃ v, v < n ∧ (pd δ y (δ (qv h) + 1)) v = d ∧ vis (pq qv t y) (t + 1) v := fun d => by
              intro hd
              have : ∀ c, c ≤ δ (qv h) + 1 → ∃ v, v < n ∧ (pd δ y (δ (qv h) + 1)) v = δ (qv h) + 1 - c ∧ vis (pq qv t y) (t + 1) v := fun c => by
                induction c with
                | zero => intro _; exact ⟨y, by omega, by unfold pd; rw [if_pos rfl]; omega, vis_pq.2 (Or.inr rfl)⟩
                | succ c ihc =>
                  intro hc
                  obtain ⟨v, v1, v2, v3⟩ := ihc (by omega)
                  have vne : v ≠ σ := fun e => by
                    have := bP.1.2.2.2
                    rw [← e] at this; omega
                  obtain ⟨u, u1, u2, u3⟩ := bP.2.2.2.2.2.1 v v3 vne
                  obtain ⟨a, w1, w2⟩ := id u1
                  exact ⟨u, by rw [← w2]; exact bP.2.1 a w1, by omega, u1⟩
              have := this (δ (qv h) + 1 - d) (by omega)
              rw [show δ (qv h) + 1 - (δ (qv h) + 1 - d) = d by omega] at this
              exact this
            have := dist_n n (δ (qv h) + 1 + 1) (fun d => if hd : d ≤ δ (qv h) + 1 then Classical.choose (key d hd) else 0) (fun d hd => by
              show dite _ _ _ < n
              rw [dif_pos (show d ≤ δ (qv h) + 1 by omega)]; exact (Classical.choose_spec (key d (by omega))).1) (fun d d' hdd hd' => by
              show dite _ _ _ ≠ dite _ _ _
              rw [dif_pos (show d ≤ δ (qv h) + 1 by omega), dif_pos (show d' ≤ δ (qv h) + 1 by omega)]
              intro e'
              have c1 := (Classical.choose_spec (key d (by omega))).2.1
              have c2 := (Classical.choose_spec (key d' (by omega))).2.1
              rw [e', c2] at c1; omega)
            omega
          · rw [if_neg (fun w => e w.2), if_neg e]
            rcases vis_pq.1 hvis with w | w
            · exact bd v hv w
            · exact absurd w e
        · have nv : ¬ vis qv t v ∧ v ≠ y := ⟨fun w => hvis (vis_pq.2 (Or.inl w)), fun w => hvis (vis_pq.2 (Or.inr w))⟩
          rw [sA_uA, if_neg (by simp), sA_uA, if_neg (fun w => nv.2 w.2)]; exact bn v hv nv.1
set_option maxRecDepth 100000 in
theorem l20_39 (n0 : sI s 0 = Int32.ofNat n) (hn : n ≤ 24) (hg : ∀ u v, gt s u v → u < 24 → v < 24 → u < n ∧ v < n)
    (K : ∀ s' qv t δ, BS s s' n σ qv t t 0 δ → Q none (ob H p s')) (m : Nat) :
    ∀ (h : Nat) (s' : St) (qv : Nat → Nat) (t : Nat) (δ : Nat → Nat), n ≤ h + m → BS s s' n σ qv t h 0 δ → W (pj lw) 20 39 [.val (.ref p), .val (.int (Int32.ofNat σ)), .val (.int (Int32.ofNat t)), .val (.int (Int32.ofNat h)), .unset, .unset] [] kk nn (ob H p s') Q := by
  have fin : ∀ (h : Nat) (s' : St) (qv : Nat → Nat) (t : Nat) (δ : Nat → Nat), ¬ h < t → BS s s' n σ qv t h 0 δ → W (pj lw) 20 39 [.val (.ref p), .val (.int (Int32.ofNat σ)), .val (.int (Int32.ofNat t)), .val (.int (Int32.ofNat h)), .unset, .unset] [] kk nn (ob H p s') Q := fun h s' qv t δ hh hB => by
    have tn : t ≤ n := dist_n n t qv hB.2.1.2.1 hB.2.1.2.2.1
    have ht := hB.2.1.1.2.1
    obtain rfl : h = t := by omega
    have h1 : ¬ Int32.ofNat h < Int32.ofNat h := by rw [lt32]; omega
    rw [w20_39]; simp +decide only [w20_40, w20_41, w20_141, ↓reduceIte, h1]
    exact K s' qv h δ hB
  induction m with
  | zero =>
    intro h s' qv t δ hm hB
    have tn : t ≤ n := dist_n n t qv hB.2.1.2.1 hB.2.1.2.2.1
    exact fin h s' qv t δ (by omega) hB
  | succ m ih =>
    intro h s' qv t δ hm hB
    by_cases hh : h < t
    · have tn : t ≤ n := dist_n n t qv hB.2.1.2.1 hB.2.1.2.2.1
      obtain ⟨e1, e2⟩ := ofi (i := h) (by omega)
      have h1 : Int32.ofNat h < Int32.ofNat t := by rw [lt32, e1, (ofi (by omega)).1]; omega
      have h2 : Int32.ofNat h < 24 := by rw [lt32, e1]; simp only [Int32.reduceToInt]; omega
      have r1 : 0 ≤ (Int32.ofNat h).toInt ∧ (Int32.ofNat h).toInt < 24 := by omega
      have qh := hB.2.2.1 h hh
      have o0 : (0 : Int32) = Int32.ofNat 0 := rfl
      rw [w20_39]; simp +decide only [w20_40, w20_41, w20_44, w20_45, w20_47, w20_50, w20_51, w20_54, w20_55, w20_56, w20_58, w20_59, isO_put, true_and, and_true, ↓reduceIte, g15, ai10, ae10, h1, h2, r1, e2, qh]
      rw [o0]
      refine l20_61 n0 hn hg (fun s2 qv2 t2 δ2 hB2 hh2 => ?_) n 0 s' qv t δ (by omega) hB hh
      simp +decide only [w20_135, w20_138, ofs]
      exact ih (h + 1) s2 qv2 t2 δ2 (by omega) ⟨hB2.1, hB2.2.1.head hh2, hB2.2.2⟩
    · exact fin h s' qv t δ hh hB
def DS (s s' : St) (n σ : Nat) : Prop := ((∀ k, sI s' k = sI s k) ∧ (∀ k, sJ s' k = sJ s k) ∧ (∀ t' j, t' ≠ 9 → t' ≠ 10 → sA s' t' j = sA s t' j) ∧ ∀ t' j, sB s' t' j = sB s t' j) ∧ ∀ v, v < n → (sA s' 9 v = -1 ∧ ∀ d, ¬ DI n (gt s) σ v d) ∨ ∃ d, sA s' 9 v = Int32.ofNat d ∧ d < n ∧ DI n (gt s) σ v d
set_option maxRecDepth 100000 in
theorem v20g (n0 : sI s 0 = Int32.ofNat n) (hn : n ≤ 24) (hσ : σ < n) (hg : ∀ u v, gt s u v → u < 24 → v < 24 → u < n ∧ v < n) (K : ∀ s', DS s s' n σ → Q none (ob H p s')) : Cl (pj lw) 20 [.ref p, .int (Int32.ofNat σ)] (ob H p s) Q := by
  obtain ⟨e1, e2⟩ := ofi (i := σ) (by omega)
  have r1 : 0 ≤ (Int32.ofNat σ).toInt ∧ (Int32.ofNat σ).toInt < 24 := by omega
  have o0 : (0 : Int32) = Int32.ofNat 0 := rfl
  have o1 : (1 : Int32) = Int32.ofNat 1 := rfl
  rw [c20]; simp +decide only [w20_0, w20_1]
  refine (l20_2 24 0 s (by decide) (by decide)).2 ?_
  simp +decide only [w20_21, w20_22, w20_25, w20_26, w20_27, w20_28, w20_29, w20_32, w20_33, w20_34, w20_35, w20_36i, w20_37, w20_38, isO_put, true_and, and_true, Int32.reduceToNatClampNeg, g14, g15, aw9, as9, aw10, as10, r1, e2]
  have st : W (pj lw) 20 39 [.val (.ref p), .val (.int (Int32.ofNat σ)), .val (.int (Int32.ofNat 1)), .val (.int (Int32.ofNat 0)), .unset, .unset] [] 0 0 (ob H p (uA (uA (fA s 9 0 24 (-1)) 9 σ 0) 10 0 (Int32.ofNat σ))) Q := by
    refine l20_39 (s := s) n0 hn hg (fun s' qv t δ hB => K s' ⟨hB.1, fun v hv => ?_⟩) n 0 _ (fun _ => σ) 1 (fun _ => 0) (by omega) ⟨⟨fun k => by simp only [sI_uA, sI_fA], fun k => by simp only [sJ_uA, sJ_fA], fun t' j h1 h2 => by rw [sA_uA, if_neg (fun w => h2 w.1), sA_uA, if_neg (fun w => h1 w.1), sA_fA, if_neg (fun w => h1 w.1)], fun t' j => by simp only [sB_uA, sB_fA]⟩, ⟨⟨by omega, by omega, rfl, rfl⟩, fun a _ => hσ, fun a b h1 h2 => by omega, fun a b _ _ => Nat.le_refl _, fun b _ _ => Nat.zero_le _, fun v ⟨a, _, h2⟩ hne => absurd h2.symm hne, fun a ha => by omega, fun _ v hv => by omega⟩, fun a ha => ?_, fun v hv hvis => ?_, fun v hv hvis => ?_⟩
    · by_cases q : vis qv t v
      · obtain ⟨d1, d2⟩ := hB.2.2.2.1 v (by omega) q
        exact Or.inr ⟨δ v, d1, d2, hB.2.1.di q⟩
      · refine Or.inl ⟨hB.2.2.2.2 v (by omega) q, fun d hd => ?_⟩
        obtain ⟨⟨f, a1, a2, a3⟩, _⟩ := hd
        have := (hB.2.1.least d f a1 a3).1
        rw [a2] at this; exact q this
    · obtain rfl : a = 0 := by omega
      rw [sA_uA, if_pos ⟨rfl, rfl⟩]
    · obtain ⟨a, _, h2⟩ := hvis
      have h2' : σ = v := h2
      rw [sA_uA, if_neg (by simp), sA_uA, if_pos ⟨rfl, h2'.symm⟩]
      exact ⟨rfl, by show 0 < n; omega⟩
    · have ne : ¬ v = σ := fun e => hvis ⟨0, by omega, e.symm⟩
      rw [sA_uA, if_neg (by simp), sA_uA, if_neg (fun w => ne w.2), sA_fA, if_pos ⟨rfl, Nat.zero_le _, hv⟩]
  exact st
end Ss

section Tt
variable {lw : LW} {H : AH} {p : Nat} {s s' s'' : St} {Q : Option Value → AH → Prop} {x bst : Int32} {i j k m n kk nn u v w t h σ y L cur need : Nat} {T : Nat → Nat → Prop} {f g q : Nat → Nat}
def dr (s : St) (n σ : Nat) : Prop := ∀ v, v < n → (sA s 9 v = -1 ∧ ∀ d, ¬ DI n (gt s) σ v d) ∨ ∃ d, sA s 9 v = Int32.ofNat d ∧ d < n ∧ DI n (gt s) σ v d
def BL (n : Nat) (T : Nat → Nat → Prop) (σ i : Nat) (bst : Int32) : Prop := (bst = -1 ∧ ∀ y, y < i → T σ y → ∀ d, ¬ DI n T σ y d) ∨ ∃ b, b < n ∧ bst = Int32.ofNat (b + 1) ∧ (∃ y, y < i ∧ T σ y ∧ DI n T σ y b) ∧ ∀ y d, y < i → T σ y → DI n T σ y d → b ≤ d
def LN (n : Nat) (T : Nat → Nat → Prop) (σ L : Nat) : Prop := (1 ≤ L ∧ L ≤ n) ∧ (∃ y, y < n ∧ T σ y ∧ DI n T σ y (L - 1)) ∧ ∀ y d, y < n → T σ y → DI n T σ y d → L ≤ d + 1
theorem low' {P : Nat → Prop} {t : Nat} (h : P t) : ∃ f, f ≤ t ∧ P f ∧ ∀ j, j < f → ¬ P j := by
  induction t using Nat.strongRecOn with
  | ind t ih =>
    by_cases e : ∃ j, j < t ∧ P j
    · obtain ⟨j, h1, h2⟩ := e
      obtain ⟨f, a1, a2, a3⟩ := ih j h1 h2
      exact ⟨f, by omega, a2, a3⟩
    · exact ⟨t, Nat.le_refl _, h, fun j hj hp => e ⟨j, hj, hp⟩⟩
theorem DI_ex (hw : Wf n T f k) (h0 : f 0 = v) (he : f k = σ) : ∃ d, DI n T σ v d := by
  obtain ⟨d, a1, ⟨g, b1, b2, b3⟩, a3⟩ := low' (P := fun d => ∃ f, Wf n T f d ∧ f 0 = v ∧ f d = σ) ⟨f, hw, h0, he⟩
  exact ⟨d, ⟨g, b1, b2, b3⟩, fun f' d' c1 c2 c3 => Classical.byContradiction fun w => a3 d' (by omega) ⟨f', c1, c2, c3⟩⟩
theorem TR.out (h : TR n T σ σ) : ∃ y d, y < n ∧ T σ y ∧ DI n T σ y d := by
  obtain ⟨f, l, a1, a2, a3, a4⟩ := h
  have ar := a2.2 0 (by omega)
  rw [a3] at ar
  obtain ⟨d, hd⟩ := DI_ex (a2.shift (i := 1) (m := l - 1) (by omega)) (v := f (0 + 1)) rfl (by show f (1 + (l - 1)) = σ; rw [show 1 + (l - 1) = l by omega]; exact a4)
  exact ⟨f (0 + 1), d, a2.1 _ (by omega), ar, hd⟩
theorem BL.ln (h : BL n T σ n bst) (hT : TR n T σ σ) : ∃ L, bst = Int32.ofNat L ∧ LN n T σ L := by
  obtain ⟨y, d, a1, a2, a3⟩ := hT.out
  rcases h with ⟨_, w⟩ | ⟨b, b1, b2, ⟨z, c1, c2, c3⟩, b4⟩
  · exact absurd a3 (w y a1 a2 d)
  · exact ⟨b + 1, b2, ⟨by omega, by omega⟩, ⟨z, c1, c2, c3⟩, fun y d h1 h2 h3 => by have := b4 y d h1 h2 h3; omega⟩
theorem DI.step {d : Nat} (h : DI n T σ v (d + 1)) : ∃ y, y < n ∧ T v y ∧ DI n T σ y d := by
  obtain ⟨⟨f, a1, a2, a3⟩, a4⟩ := h
  have ar := a1.2 0 (by omega)
  rw [a2] at ar
  refine ⟨f (0 + 1), a1.1 _ (by omega), ar, ⟨⟨fun t => f (1 + t), a1.shift (by omega), rfl, by show f (1 + d) = σ; rw [Nat.add_comm]; exact a3⟩, fun g d' b1 b2 b3 => ?_⟩⟩
  have arc : Wf n T (fun t => if t = 0 then v else f (0 + 1)) 1 := ⟨fun t ht => by
    show (if t = 0 then v else f (0 + 1)) < n
    split
    · rw [← a2]; exact a1.1 0 (by omega)
    · exact a1.1 _ (by omega), fun t ht => by obtain rfl : t = 0 := by omega
                                              exact ar⟩
  have := arc.cat b1 (by show f (0 + 1) = g 0; exact b2.symm)
  have := a4 _ _ this.1 this.2.1 (by rw [this.2.2, b3])
  omega
theorem DI.zero (h : DI n T σ v 0) : v = σ := by obtain ⟨⟨f, _, a2, a3⟩, _⟩ := h; rw [← a2, ← a3]
def Nx (n : Nat) (T : Nat → Nat → Prop) (σ cur need y : Nat) : Prop := y < n ∧ (T cur y ∧ DI n T σ y need) ∧ ∀ z, z < y → ¬ (T cur z ∧ DI n T σ z need)
theorem Nx.uniq {y y' : Nat} (h : Nx n T σ cur need y) (g : Nx n T σ cur need y') : y = y' := by
  rcases Nat.lt_trichotomy y y' with w | w | w
  · exact absurd h.2.1 (g.2.2 y w)
  · exact w
  · exact absurd g.2.1 (h.2.2 y' w)
def Sq (n : Nat) (T : Nat → Nat → Prop) (σ L i : Nat) (q : Nat → Nat) : Prop := q 0 = σ ∧ ∀ j, 1 ≤ j → j < i → Nx n T σ (q (j - 1)) (L - j) (q j)
theorem Sq.nx (hL : LN n T σ L) (h : Sq n T σ L i q) (h1 : 1 ≤ i) (h2 : i < L) : ∃ y, Nx n T σ (q (i - 1)) (L - i) y := by
  have ex : ∃ y, y < n ∧ (T (q (i - 1)) y ∧ DI n T σ y (L - i)) := by
    by_cases e : i = 1
    · subst e
      obtain ⟨y, a1, a2, a3⟩ := hL.2.1
      exact ⟨y, a1, by rw [show 1 - 1 = 0 from rfl, h.1]; exact a2, a3⟩
    · have := (h.2 (i - 1) (by omega) (by omega)).2.1.2
      rw [show L - (i - 1) = (L - i) + 1 by omega] at this
      obtain ⟨y, a1, a2, a3⟩ := this.step
      exact ⟨y, a1, a2, a3⟩
  obtain ⟨y, a1, a2⟩ := ex
  obtain ⟨z, b1, b2, b3⟩ := low' (P := fun y => T (q (i - 1)) y ∧ DI n T σ y (L - i)) a2
  exact ⟨z, by omega, b2, b3⟩
set_option maxRecDepth 100000 in
theorem l21_4 (n0 : sI s 0 = Int32.ofNat n) (hn : n ≤ 24) (hσ : σ < n) (hd : dr s n σ) (K : ∀ b, BL n (gt s) σ n b → W (pj lw) 21 64 [.val (.ref p), .val (.int (Int32.ofNat σ)), .val (.int b), .val (.int (Int32.ofNat n)), .unset, .unset, .unset, .unset, .unset] [] kk nn (ob H p s) Q) (m : Nat) :
    ∀ (i : Nat) (b : Int32), i + m = n → BL n (gt s) σ i b → W (pj lw) 21 4 [.val (.ref p), .val (.int (Int32.ofNat σ)), .val (.int b), .val (.int (Int32.ofNat i)), .unset, .unset, .unset, .unset, .unset] [] kk nn (ob H p s) Q := by
  induction m with
  | zero =>
    intro i b hi hB
    obtain rfl : i = n := by omega
    have h1 : ¬ Int32.ofNat i < Int32.ofNat i := by rw [lt32]; omega
    rw [w21_4]; simp +decide only [w21_5, w21_6, w21_9, isO_put, true_and, ↓reduceIte, g0, n0, h1]
    exact K b hB
  | succ m ih =>
    intro i b hi hB
    obtain ⟨e1, e2⟩ := ofi (i := i) (by omega)
    have h1 : Int32.ofNat i < Int32.ofNat n := by rw [lt32, e1, (ofi (by omega)).1]; omega
    have e4 := m24 (u := σ) (v := i)
    obtain ⟨a1, a2⟩ := ofi (i := σ * 24 + i) (by omega)
    have r1 : 0 ≤ (Int32.ofNat (σ * 24 + i)).toInt ∧ (Int32.ofNat (σ * 24 + i)).toInt < 576 := by omega
    have r2 : 0 ≤ (Int32.ofNat i).toInt ∧ (Int32.ofNat i).toInt < 24 := by omega
    have nx : ∀ b' : Int32, BL n (gt s) σ (i + 1) b' → ∀ z4, okf 4 [.val (.ref p), .val (.int (Int32.ofNat σ)), .val (.int b'), .val (.int (Int32.ofNat i)), z4, .unset, .unset, .unset, .unset] = true → W (pj lw) 21 58 [.val (.ref p), .val (.int (Int32.ofNat σ)), .val (.int b'), .val (.int (Int32.ofNat i)), z4, .unset, .unset, .unset, .unset] [] kk nn (ob H p s) Q := fun b' hB' z4 hok => by
      refine W_fa 4 hok ?_
      show W (pj lw) 21 58 [.val (.ref p), .val (.int (Int32.ofNat σ)), .val (.int b'), .val (.int (Int32.ofNat i)), .unset, .unset, .unset, .unset, .unset] [] kk nn (ob H p s) Q
      simp +decide only [w21_58, w21_61, ofs]
      exact ih (i + 1) b' (by omega) hB'
    have skip : (∀ d, gt s σ i → ¬ DI n (gt s) σ i d) → BL n (gt s) σ (i + 1) b := fun hs => by
      rcases hB with ⟨w1, w2⟩ | ⟨c, w1, w2, ⟨z, w3, w4⟩, w5⟩
      · refine Or.inl ⟨w1, fun y hy ht d => ?_⟩
        by_cases e : y = i
        · subst e; exact hs d ht
        · exact w2 y (by omega) ht d
      · refine Or.inr ⟨c, w1, w2, ⟨z, by omega, w4⟩, fun y d hy ht hD => ?_⟩
        by_cases e : y = i
        · subst e; exact absurd hD (hs d ht)
        · exact w5 y d (by omega) ht hD
    rw [w21_4]
    by_cases q1 : sA s 7 (σ * 24 + i) = 0
    · simp +decide only [w21_5, w21_6, w21_9, w21_12, w21_13, w21_16, w21_17, w21_19, w21_20, w21_21, w21_22, w21_23, isO_put, true_and, and_true, or_true, ↓reduceIte, g0, g12, ai7, ain7, ae7, ain7, n0, h1, e4, r1, a2, q1]
      exact nx b (skip fun d w => absurd q1 w) _ rfl
    · have tT : gt s σ i := q1
      rcases hd i (by omega) with ⟨d1, d2⟩ | ⟨d, d1, d2, d3⟩
      · have neg : (-1 : Int32) < 0 := by decide
        simp +decide only [w21_5, w21_6, w21_9, w21_12, w21_13, w21_16, w21_17, w21_19, w21_20, w21_21, w21_22, w21_23, w21_26, w21_27, w21_30, w21_31, w21_32, isO_put, true_and, and_true, or_true, ↓reduceIte, g0, g12, g14, ai7, ain7, ae7, ai9, ae9, ain7, n0, h1, e4, r1, r2, a2, e2, q1, d1]
        exact nx b (skip fun d _ => d2 d) _ rfl
      · have ng := ngo (a := d) (by omega)
        have take : BL n (gt s) σ i b → (b < 0 ∨ Int32.ofNat (d + 1) < b) → BL n (gt s) σ (i + 1) (Int32.ofNat (d + 1)) := fun hB' hc => by
          refine Or.inr ⟨d, d2, rfl, ⟨i, by omega, tT, d3⟩, fun y d' hy ht hD => ?_⟩
          by_cases e : y = i
          · subst e; rw [d3.uniq hD]; exact Nat.le_refl _
          · rcases hB' with ⟨w1, w2⟩ | ⟨c, w1, w2, w3, w5⟩
            · exact absurd hD (w2 y (by omega) ht d')
            · have := w5 y d' (by omega) ht hD
              rcases hc with w | w
              · rw [w2] at w; exact absurd w (ngo (by omega))
              · rw [w2, lt32, (ofi (by omega)).1, (ofi (by omega)).1] at w; omega
        have o1 : Int32.ofNat d + 1 = Int32.ofNat (d + 1) := ofs
        by_cases c1 : b < 0
        · simp +decide only [w21_5, w21_6, w21_9, w21_12, w21_13, w21_16, w21_17, w21_19, w21_20, w21_21, w21_22, w21_23, w21_26, w21_27, w21_30, w21_31, w21_32, w21_35, w21_36, w21_39, w21_40, w21_41, w21_42, w21_43, w21_45, w21_46, w21_55, w21_57i, isO_put, true_and, and_true, or_true, ↓reduceIte, g0, g12, g14, ai7, ain7, ae7, ai9, ae9, ain7, n0, h1, e4, r1, r2, a2, e2, q1, d1, ng, o1, c1]
          exact nx _ (take hB (Or.inl c1)) _ rfl
        · by_cases c2 : Int32.ofNat (d + 1) < b
          · simp +decide only [w21_5, w21_6, w21_9, w21_12, w21_13, w21_16, w21_17, w21_19, w21_20, w21_21, w21_22, w21_23, w21_26, w21_27, w21_30, w21_31, w21_32, w21_35, w21_36, w21_39, w21_40, w21_41, w21_42, w21_43, w21_45, w21_46, w21_49, w21_51, w21_52, w21_55, w21_57i, isO_put, true_and, and_true, or_true, ↓reduceIte, g0, g12, g14, ai7, ain7, ae7, ai9, ae9, ain7, n0, h1, e4, r1, r2, a2, e2, q1, d1, ng, o1, c1, c2]
            exact nx _ (take hB (Or.inr c2)) _ rfl
          · simp +decide only [w21_5, w21_6, w21_9, w21_12, w21_13, w21_16, w21_17, w21_19, w21_20, w21_21, w21_22, w21_23, w21_26, w21_27, w21_30, w21_31, w21_32, w21_35, w21_36, w21_39, w21_40, w21_41, w21_42, w21_43, w21_45, w21_46, w21_49, w21_51, w21_52, isO_put, true_and, and_true, or_true, ↓reduceIte, g0, g12, g14, ai7, ain7, ae7, ai9, ae9, ain7, n0, h1, e4, r1, r2, a2, e2, q1, d1, ng, o1, c1, c2]
            refine nx b ?_ _ rfl
            rcases hB with ⟨w1, w2⟩ | ⟨c, w1, w2, ⟨z, w3, w4⟩, w5⟩
            · rw [w1] at c1; exact absurd (by decide) c1
            · refine Or.inr ⟨c, w1, w2, ⟨z, by omega, w4⟩, fun y d' hy ht hD => ?_⟩
              by_cases e : y = i
              · subst e
                rw [← d3.uniq hD]
                rw [w2, lt32, (ofi (by omega)).1, (ofi (by omega)).1] at c2; omega
              · exact w5 y d' (by omega) ht hD
def PK (n : Nat) (T : Nat → Nat → Prop) (σ cur need j : Nat) (pk : Int32) : Prop := (∃ y, j ≤ y ∧ y < n ∧ (T cur y ∧ DI n T σ y need) ∧ pk = Int32.ofNat y ∧ ∀ z, j ≤ z → z < y → ¬ (T cur z ∧ DI n T σ z need)) ∨ ∀ z, j ≤ z → z < n → ¬ (T cur z ∧ DI n T σ z need)
set_option maxRecDepth 100000 in
theorem l21_130 (hn : n ≤ 24) (hd : dr s n σ) (hc : cur < n) (hnd : need < 24) (K : ∀ pk, PK n (gt s) σ cur need 0 pk → W (pj lw) 21 172 [.val (.ref p), .val (.int (Int32.ofNat σ)), .val (.int x), .val (.int (Int32.ofNat cur)), .val (.int (Int32.ofNat i)), .val (.int (Int32.ofNat need)), .val (.int pk), .unset, .unset] [] kk nn (ob H p s) Q) :
    ∀ (j : Nat) (pk : Int32), j ≤ n → PK n (gt s) σ cur need j pk → W (pj lw) 21 130 [.val (.ref p), .val (.int (Int32.ofNat σ)), .val (.int x), .val (.int (Int32.ofNat cur)), .val (.int (Int32.ofNat i)), .val (.int (Int32.ofNat need)), .val (.int pk), .val (.int (Int32.ofNat j - 1)), .unset] [] kk nn (ob H p s) Q
  | 0, pk, hj, hP => by
    have h1 : Int32.ofNat 0 - 1 < 0 := by decide
    rw [w21_130]; simp +decide only [w21_132, ↓reduceIte]
    refine W_fa 7 rfl ?_
    exact K pk hP
  | j + 1, pk, hj, hP => by
    have IH := l21_130 hn hd hc hnd K j
    obtain ⟨e1, e2⟩ := ofi (i := j) (by omega)
    have ng := ngo (a := j) (by omega)
    have e4 := m24 (u := cur) (v := j)
    obtain ⟨a1, a2⟩ := ofi (i := cur * 24 + j) (by omega)
    have r1 : 0 ≤ (Int32.ofNat (cur * 24 + j)).toInt ∧ (Int32.ofNat (cur * 24 + j)).toInt < 576 := by omega
    have r2 : 0 ≤ (Int32.ofNat j).toInt ∧ (Int32.ofNat j).toInt < 24 := by omega
    have em : Int32.ofNat j + -1 = Int32.ofNat j - 1 := (Int32.sub_eq_add_neg _ _).symm
    have keep : ¬ (gt s cur j ∧ DI n (gt s) σ j need) → PK n (gt s) σ cur need j pk := fun hno => by
      rcases hP with ⟨y, w1, w2, w3, w4, w5⟩ | w
      · refine Or.inl ⟨y, by omega, w2, w3, w4, fun z h1 h2 => ?_⟩
        by_cases e : z = j
        · subst e; exact hno
        · exact w5 z (by omega) h2
      · refine Or.inr fun z h1 h2 => ?_
        by_cases e : z = j
        · subst e; exact hno
        · exact w z (by omega) h2
    rw [s1m, w21_130]
    by_cases q1 : sA s 7 (cur * 24 + j) = 0
    · simp +decide only [w21_132, w21_135, w21_136, w21_139, w21_140, w21_142, w21_143, w21_145, w21_146, w21_147, w21_166, w21_169, isO_put, true_and, and_true, or_true, ↓reduceIte, g12, ai7, ain7, ae7, ain7, ng, e4, r1, a2, q1, em]
      exact IH pk (by omega) (keep fun w => w.1 q1)
    · rcases hd j (by omega) with ⟨d1, d2⟩ | ⟨d, d1, d2, d3⟩
      · have ne : ¬ (-1 : Int32) = Int32.ofNat need := by rw [eq32, (ofi (by omega)).1]; simp only [Int32.reduceToInt]; omega
        simp +decide only [w21_132, w21_135, w21_136, w21_139, w21_140, w21_142, w21_143, w21_145, w21_146, w21_147, w21_150, w21_151, w21_154, w21_156, w21_157, w21_159, w21_166, w21_169, isO_put, true_and, and_true, or_true, ↓reduceIte, g12, g14, ai7, ain7, ae7, ai9, ae9, ain7, ng, e4, r1, r2, a2, e2, q1, d1, ne, em]
        exact IH pk (by omega) (keep fun w => d2 _ w.2)
      · by_cases c1 : d = need
        · subst c1
          simp +decide only [w21_132, w21_135, w21_136, w21_139, w21_140, w21_142, w21_143, w21_145, w21_146, w21_147, w21_150, w21_151, w21_154, w21_156, w21_157, w21_159, w21_162, w21_164i, w21_166, w21_169, isO_put, true_and, and_true, or_true, ↓reduceIte, g12, g14, ai7, ain7, ae7, ai9, ae9, ain7, ng, e4, r1, r2, a2, e2, q1, d1, em]
          exact IH _ (by omega) (Or.inl ⟨j, Nat.le_refl _, by omega, ⟨q1, d3⟩, rfl, fun z h1 h2 => by omega⟩)
        · have ne : ¬ Int32.ofNat d = Int32.ofNat need := by rw [eq32, (ofi (by omega)).1, (ofi (by omega)).1]; omega
          simp +decide only [w21_132, w21_135, w21_136, w21_139, w21_140, w21_142, w21_143, w21_145, w21_146, w21_147, w21_150, w21_151, w21_154, w21_156, w21_157, w21_159, w21_166, w21_169, isO_put, true_and, and_true, or_true, ↓reduceIte, g12, g14, ai7, ain7, ae7, ai9, ae9, ain7, ng, e4, r1, r2, a2, e2, q1, d1, ne, em]
          exact IH pk (by omega) (keep fun w => c1 (d3.uniq w.2))
theorem PK.nx {pk : Int32} (h : PK n T σ cur need 0 pk) (hy : Nx n T σ cur need y) : pk = Int32.ofNat y := by
  rcases h with ⟨z, w1, w2, w3, w4, w5⟩ | w
  · have : Nx n T σ cur need z := ⟨w2, w3, fun a ha => w5 a (Nat.zero_le _) ha⟩
    rw [w4, this.uniq hy]
  · exact absurd hy.2.1 (w y (Nat.zero_le _) hy.1)
def Kw (s s' : St) : Prop := (∀ k, k ≠ 6 → sI s' k = sI s k) ∧ (∀ k, k ≠ 7 → sJ s' k = sJ s k) ∧ (∀ t j, t ≠ 3 → sA s' t j = sA s t j) ∧ ∀ t j, sB s' t j = sB s t j
def SQ (s s' : St) (n σ L i : Nat) (q : Nat → Nat) : Prop := Kw s s' ∧ sI s' 6 = Int32.ofNat L ∧ Sq n (gt s) σ L i q ∧ (∀ j, j < i → q j < n ∧ sA s' 3 j = Int32.ofNat (q j)) ∧ ∀ j, i ≤ j → sA s' 3 j = sA s 3 j
theorem dr_of (h : dr s n σ) (h7 : ∀ i, sA s' 7 i = sA s 7 i) (h9 : ∀ i, sA s' 9 i = sA s 9 i) : dr s' n σ := by
  have e : gt s' = gt s := by funext u v; unfold gt; rw [h7]
  intro v hv; rw [e, h9]; exact h v hv
set_option maxRecDepth 100000 in
set_option maxHeartbeats 1000000 in
theorem l21_101 (n0 : sI s 0 = Int32.ofNat n) (hn : n ≤ 24) (hσ : σ < n) (hd : dr s n σ) (hL : LN n (gt s) σ L)
    (K : ∀ s' q, SQ s s' n σ L L q → W (pj lw) 21 190 [.val (.ref p), .val (.int (Int32.ofNat σ)), .val (.int x), .val (.int (Int32.ofNat (q (L - 1)))), .val (.int (Int32.ofNat L)), .unset, .unset, .unset, .unset] [] kk nn (ob H p s') Q) (m : Nat) :
    ∀ (i : Nat) (s' : St) (q : Nat → Nat), i + m = L → 1 ≤ i → SQ s s' n σ L i q → W (pj lw) 21 101 [.val (.ref p), .val (.int (Int32.ofNat σ)), .val (.int x), .val (.int (Int32.ofNat (q (i - 1)))), .val (.int (Int32.ofNat i)), .unset, .unset, .unset, .unset] [] kk nn (ob H p s') Q := by
  have hLn := hL.1
  induction m with
  | zero =>
    intro i s' q hi h1 hS
    obtain rfl : i = L := by omega
    have l6 := hS.2.1
    have h2 : ¬ Int32.ofNat i < Int32.ofNat i := by rw [lt32]; omega
    rw [w21_101]; simp +decide only [w21_103, w21_104, w21_107, isO_put, true_and, ↓reduceIte, g6, l6, h2]
    exact K s' q hS
  | succ m ih =>
    intro i s' q hi h1 hS
    have l6 := hS.2.1
    have m0 : sI s' 0 = Int32.ofNat n := by rw [hS.1.1 0 (by decide)]; exact n0
    have h2 : Int32.ofNat i < Int32.ofNat L := by rw [lt32, (ofi (by omega)).1, (ofi (by omega)).1]; omega
    have en : Int32.ofNat L - Int32.ofNat i = Int32.ofNat (L - i) := by
      rw [eq32, isb (by rw [(ofi (i := L) (by omega)).1, (ofi (i := i) (by omega)).1]; omega) (by rw [(ofi (i := L) (by omega)).1, (ofi (i := i) (by omega)).1]; omega), (ofi (by omega)).1, (ofi (by omega)).1, (ofi (by omega)).1]; omega
    have cn := (hS.2.2.2.1 (i - 1) (by omega)).1
    obtain ⟨y, hy⟩ := hS.2.2.1.nx hL h1 (by omega)
    have e7 : ∀ j, sA s' 7 j = sA s 7 j := fun j => hS.1.2.2.1 7 j (by decide)
    have eg : gt s' = gt s := by funext u v; unfold gt; rw [e7]
    have hd' : dr s' n σ := dr_of hd e7 fun j => hS.1.2.2.1 9 j (by decide)
    rw [w21_101]; simp +decide only [w21_103, w21_104, w21_107, w21_110, w21_111, w21_114, w21_116, w21_117, w21_119, w21_120, w21_122, w21_123, w21_126, w21_127, w21_128, isO_put, true_and, ↓reduceIte, g0, g6, l6, h2, en, m0]
    refine l21_130 hn hd' cn (show L - i < 24 by omega) (fun pk hP => ?_) n _ (Nat.le_refl _) (Or.inr fun z w1 w2 => by omega)
    rw [eg] at hP
    obtain rfl := hP.nx hy
    obtain ⟨e1, e2⟩ := ofi (i := i) (by omega)
    have r1 : 0 ≤ (Int32.ofNat i).toInt ∧ (Int32.ofNat i).toInt < 24 := by omega
    simp +decide only [w21_172, w21_173, w21_176, w21_178, w21_180, w21_181, w21_183i, isO_put, true_and, and_true, g8, aw3, as3, r1, e2]
    refine W_fa 5 rfl ?_
    show W (pj lw) 21 184 [.val (.ref p), .val (.int (Int32.ofNat σ)), .val (.int x), .val (.int (Int32.ofNat y)), .val (.int (Int32.ofNat i)), .unset, .unset, .unset, .unset] [] kk nn (ob H p (uA s' 3 i (Int32.ofNat y))) Q
    simp +decide only [w21_184, w21_187, ofs]
    have qo : ∀ j, j < i → (fun t => if t = i then y else q t) j = q j := fun j hj => by show (if j = i then y else q j) = q j; rw [if_neg (by omega)]
    have qi : (fun t => if t = i then y else q t) i = y := by show (if i = i then y else q i) = y; rw [if_pos rfl]
    have key := ih (i + 1) (uA s' 3 i (Int32.ofNat y)) (fun t => if t = i then y else q t) (by omega) (by omega) ⟨⟨fun k hk => by rw [sI_uA]; exact hS.1.1 k hk, fun k hk => by rw [sJ_uA]; exact hS.1.2.1 k hk, fun t j ht => by rw [sA_uA, if_neg (fun w => ht w.1)]; exact hS.1.2.2.1 t j ht, fun t j => by rw [sB_uA]; exact hS.1.2.2.2 t j⟩, by rw [sI_uA]; exact l6, ⟨by rw [qo 0 (by omega)]; exact hS.2.2.1.1, fun j j1 j2 => ?_⟩, fun j hj => ?_, fun j hj => ?_⟩
    · rw [show i + 1 - 1 = i by omega] at key
      simp only [if_true] at key
      exact key
    · by_cases e : j = i
      · subst e; rw [qi, qo (j - 1) (by omega)]; exact hy
      · rw [qo j (by omega), qo (j - 1) (by omega)]; exact hS.2.2.1.2 j j1 (by omega)
    · by_cases e : j = i
      · subst e; rw [qi, sA_uA, if_pos ⟨rfl, rfl⟩]; exact ⟨hy.1, rfl⟩
      · rw [qo j (by omega), sA_uA, if_neg (fun w => e w.2)]; exact hS.2.2.2.1 j (by omega)
    · rw [sA_uA, if_neg (by omega)]; exact hS.2.2.2.2 j (by omega)
def cyw (w : Nat → Nat → Int) (q : Nat → Nat) (L : Nat) : Nat → Int
  | 0 => 0
  | i + 1 => cyw w q L i + w (q i) (q ((i + 1) % L))
theorem Sq.arcs (hL : LN n T σ L) (h : Sq n T σ L L q) : ∀ i, i < L → T (q i) (q ((i + 1) % L)) := fun i hi => by
  by_cases e : i + 1 = L
  · rw [e, Nat.mod_self, h.1]
    by_cases e1 : L = 1
    · subst e1
      obtain rfl : i = 0 := by omega
      obtain ⟨y, a1, a2, a3⟩ := hL.2.1
      rw [h.1]
      have := a3.zero
      rw [this] at a2; exact a2
    · have := (h.2 i (by omega) hi).2.1.2
      rw [show L - i = 0 + 1 by omega] at this
      obtain ⟨y, a1, a2, a3⟩ := this.step
      rw [a3.zero] at a2; exact a2
  · rw [Nat.mod_eq_of_lt (by omega)]
    have := (h.2 (i + 1) (by omega) (by omega)).2.1.1
    rw [show i + 1 - 1 = i by omega] at this; exact this
set_option maxRecDepth 100000 in
set_option maxHeartbeats 1000000 in
theorem l21_196 (G : GI s n) (hL1 : 1 ≤ L) (hLn : L ≤ 24) (l6 : sI s 6 = Int32.ofNat L) (hq : ∀ i, i < L → q i < n ∧ sA s 3 i = Int32.ofNat (q i)) (ha : ∀ i, i < L → gE s (q i) (q ((i + 1) % L)))
    (K : ∀ s', s' = uJ s 7 (oi (cyw (gw s) q L L)) → Q none (ob H p s')) (m : Nat) :
    ∀ (i : Nat) (l1 l2 : Int32) (z7 z8 : Slot), i + m = L → ((z7 = .unset ∧ z8 = .unset) ∨ ∃ a b, z7 = .val (.int a) ∧ z8 = .val (.int b)) → W (pj lw) 21 196 [.val (.ref p), .val (.int (Int32.ofNat σ)), .val (.int l1), .val (.int l2), .val (.long (oi (cyw (gw s) q L i))), .second, .val (.int (Int32.ofNat i)), z7, z8] [] kk nn (ob H p s) Q := by
  have hn := G.1.2
  induction m with
  | zero =>
    intro i l1 l2 z7 z8 hi hz
    obtain rfl : i = L := by omega
    have h2 : ¬ Int32.ofNat i < Int32.ofNat i := by rw [lt32]; omega
    rw [w21_196]; simp +decide only [w21_198, w21_199, w21_202, w21_255, w21_256, w21_258, w21_261, isO_put, isOw_put, okv_long, true_and, and_true, ↓reduceIte, g6, s7, l6, h2]
    exact K _ rfl
  | succ m ih =>
    intro i l1 l2 z7 z8 hi hz
    obtain ⟨e1, e2⟩ := ofi (i := i) (by omega)
    have h2 : Int32.ofNat i < Int32.ofNat L := by rw [lt32, e1, (ofi (by omega)).1]; omega
    have r1 : 0 ≤ (Int32.ofNat i).toInt ∧ (Int32.ofNat i).toInt < 24 := by omega
    have ml := Nat.mod_lt (i + 1) (show L > 0 by omega)
    have nL : ¬ Int32.ofNat L = 0 := by rw [eq32, (ofi (by omega)).1]; simp only [Int32.reduceToInt]; omega
    have em : Int32.ofNat (i + 1) % Int32.ofNat L = Int32.ofNat ((i + 1) % L) := by
      rw [eq32, Int32.toInt_mod, (ofi (by omega)).1, (ofi (by omega)).1, (ofi (by omega)).1]
      exact (Int.tmod_eq_emod_of_nonneg (by omega)).trans rfl
    obtain ⟨f1, f2⟩ := ofi (i := (i + 1) % L) (by omega)
    have r2 : 0 ≤ (Int32.ofNat ((i + 1) % L)).toInt ∧ (Int32.ofNat ((i + 1) % L)).toInt < 24 := by omega
    obtain ⟨qa, sa⟩ := hq i (by omega)
    obtain ⟨qb', sb'⟩ := hq ((i + 1) % L) ml
    have e4 := m24 (u := q i) (v := q ((i + 1) % L))
    obtain ⟨a1, a2⟩ := ofi (i := q i * 24 + q ((i + 1) % L)) (by omega)
    have r3 : 0 ≤ (Int32.ofNat (q i * 24 + q ((i + 1) % L))).toInt ∧ (Int32.ofNat (q i * 24 + q ((i + 1) % L))).toInt < 576 := by omega
    have ar := ha i (by omega)
    have ew : (sA s 2 (q i * 24 + q ((i + 1) % L))).toInt64 = oi (gw s (q i) (q ((i + 1) % L))) := by
      rw [oi_32]; unfold gw; rw [if_pos ⟨ar, by omega, by omega⟩]
    have o1 : Int32.ofNat i + 1 = Int32.ofNat (i + 1) := ofs
    have key := fun z7 z8 hz => ih (i + 1) l1 l2 z7 z8 (by omega) hz
    rw [w21_196]
    rcases hz with ⟨rfl, rfl⟩ | ⟨a, b, rfl, rfl⟩
    · simp +decide only [w21_198, w21_199, w21_202, w21_205, w21_206, w21_209, w21_211, w21_212, w21_214, w21_215, w21_218, w21_220, w21_221, w21_222, w21_223, w21_226, w21_227, w21_228, w21_230, w21_232, w21_233, w21_236, w21_238, w21_240, w21_241, w21_243, w21_244, w21_245, w21_246, w21_247j, w21_249, w21_252, isO_put, true_and, and_true, not_false_eq_true, ↓reduceIte, g3, g6, g8, ai2, ae2, ai3, ae3, l6, h2, r1, e2, sa, o1, nL, em, r2, f2, sb', e4, r3, a2, ew, oi_add]
      exact key _ _ (Or.inr ⟨_, _, rfl, rfl⟩)
    · simp +decide only [w21_198, w21_199, w21_202, w21_205, w21_206, w21_209, w21_211, w21_212i, w21_214, w21_215, w21_218, w21_220, w21_221, w21_222, w21_223, w21_226, w21_227, w21_228i, w21_230, w21_232, w21_233, w21_236, w21_238, w21_240, w21_241, w21_243, w21_244, w21_245, w21_246, w21_247j, w21_249, w21_252, isO_put, true_and, and_true, not_false_eq_true, ↓reduceIte, g3, g6, g8, ai2, ae2, ai3, ae3, l6, h2, r1, e2, sa, o1, nL, em, r2, f2, sb', e4, r3, a2, ew, oi_add]
      exact key _ _ (Or.inr ⟨_, _, rfl, rfl⟩)
def WN (s s' : St) (n σ L : Nat) (q : Nat → Nat) : Prop := Kw s s' ∧ LN n (gt s) σ L ∧ Sq n (gt s) σ L L q ∧ sI s' 6 = Int32.ofNat L ∧ sJ s' 7 = oi (cyw (gw s) q L L) ∧ (∀ j, j < L → q j < n ∧ sA s' 3 j = Int32.ofNat (q j)) ∧ ∀ j, L ≤ j → sA s' 3 j = sA s 3 j
set_option maxRecDepth 100000 in
set_option maxHeartbeats 1000000 in
theorem v21g (G : GI s n) (hσ : σ < n) (hd : dr s n σ) (hT : TR n (gt s) σ σ) (hg : ∀ u v, u < n → v < n → gt s u v → gE s u v) (K : ∀ s' L q, WN s s' n σ L q → Q none (ob H p s')) : Cl (pj lw) 21 [.ref p, .int (Int32.ofNat σ)] (ob H p s) Q := by
  have hn := G.1.2
  have n0 := G.1.1
  have o0 : (0 : Int32) = Int32.ofNat 0 := rfl
  have o1 : (1 : Int32) = Int32.ofNat 1 := rfl
  rw [c21]; simp +decide only [w21_0, w21_1, w21_2, w21_3]
  have st : W (pj lw) 21 4 [.val (.ref p), .val (.int (Int32.ofNat σ)), .val (.int (-1)), .val (.int (Int32.ofNat 0)), .unset, .unset, .unset, .unset, .unset] [] 0 0 (ob H p s) Q := by
    refine l21_4 n0 hn.2 hσ hd (fun b hB => ?_) n 0 (-1) (by omega) (Or.inl ⟨rfl, fun y hy => by omega⟩)
    obtain ⟨L, rfl, hL⟩ := hB.ln hT
    have hL1 := hL.1
    have c1 : ¬ Int32.ofNat L < 1 := by rw [lt32, (ofi (by omega)).1]; simp only [Int32.reduceToInt]; omega
    have c2 : ¬ Int32.ofNat n < Int32.ofNat L := by rw [lt32, (ofi (by omega)).1, (ofi (by omega)).1]; omega
    simp +decide only [w21_64, w21_65, w21_66, w21_71, w21_72, w21_73, w21_76, w21_84, w21_85, w21_86, w21_89, w21_90, w21_93, w21_94, w21_95, w21_96, w21_97i, w21_98, w21_99, isO_put, isOw_put, okv_int, true_and, and_true, ↓reduceIte, Int32.reduceToNatClampNeg, g0, s6, g8, aw3, as3, c1, c2, n0]
    have K0 : SQ s (uA (uI s 6 (Int32.ofNat L)) 3 0 (Int32.ofNat σ)) n σ L 1 (fun _ => σ) := by
      refine ⟨⟨fun k hk => by rw [sI_uA, sI_uI, if_neg hk], fun k hk => by rw [sJ_uA, sJ_uI], fun t j ht => by rw [sA_uA, if_neg (fun w => ht w.1), sA_uI], fun t j => by rw [sB_uA, sB_uI]⟩, by rw [sI_uA, sI_uI, if_pos rfl], ⟨rfl, fun j j1 j2 => by omega⟩, fun j hj => ?_, fun j hj => ?_⟩
      · obtain rfl : j = 0 := by omega
        exact ⟨hσ, by rw [sA_uA, if_pos ⟨rfl, rfl⟩]⟩
      · rw [sA_uA, if_neg (by omega), sA_uI]
    have go := l21_101 (lw := lw) (H := H) (p := p) (Q := Q) (kk := 0) (nn := 0) (x := Int32.ofNat L) n0 hn.2 hσ hd hL (fun s' q hS => by
      have l6 := hS.2.1
      have G' : GI s' n := G.of (hS.1.1 0 (by decide)) (hS.1.2.1 16 (by decide)) (fun i => hS.1.2.2.1 1 i (by decide)) (fun i => hS.1.2.2.1 2 i (by decide))
      have eE : gE s' = gE s := gE_of fun i => hS.1.2.2.1 1 i (by decide)
      have eW : gw s' = gw s := gw_of (fun i => hS.1.2.2.1 1 i (by decide)) (fun i => hS.1.2.2.1 2 i (by decide))
      have arcs : ∀ i, i < L → gE s' (q i) (q ((i + 1) % L)) := fun i hi => by
        rw [eE]
        exact hg _ _ (hS.2.2.2.1 i hi).1 (hS.2.2.2.1 _ (Nat.mod_lt _ (by omega))).1 (hS.2.2.1.arcs hL i hi)
      simp +decide only [w21_190, w21_191iu, w21_193, w21_194]
      have fin := l21_196 (lw := lw) (H := H) (p := p) (Q := Q) (kk := 0) (nn := 0) (σ := σ) G' (show 1 ≤ L by omega) (show L ≤ 24 by omega) l6 hS.2.2.2.1 arcs (fun s2 e2 => K s2 L q ⟨⟨fun k hk => by rw [e2, sI_uJ]; exact hS.1.1 k hk, fun k hk => by rw [e2, sJ_uJ, if_neg hk]; exact hS.1.2.1 k hk, fun t j ht => by rw [e2, sA_uJ]; exact hS.1.2.2.1 t j ht, fun t j => by rw [e2, sB_uJ]; exact hS.1.2.2.2 t j⟩, hL, hS.2.2.1, by rw [e2, sI_uJ]; exact l6, by rw [e2, sJ_uJ, if_pos rfl, eW], fun j hj => by rw [e2, sA_uJ]; exact hS.2.2.2.1 j hj, fun j hj => by rw [e2, sA_uJ]; exact hS.2.2.2.2 j hj⟩) L 0 (Int32.ofNat L) (Int32.ofNat (q (L - 1))) .unset .unset (by omega) (Or.inl ⟨rfl, rfl⟩)
      exact fin) (L - 1) 1 _ (fun _ => σ) (by omega) (by omega) K0
    exact go
  exact st
end Tt

section Uu
variable {lw : LW} {H : AH} {p : Nat} {s s' s'' : St} {Q : Option Value → AH → Prop} {x : Int32} {i j k m n kk nn u v w t h σ y L : Nat} {T : Nat → Nat → Prop} {f g q : Nat → Nat} {N D : Int} {π φ : Nat → Int}
def f3 (s : St) (lo : Nat) : St := fB (fA (fA s 3 lo 24 (-1)) 4 lo 24 0) 5 lo 24 0
theorem f3_nil {lo : Nat} (h : 24 ≤ lo) : f3 s lo = s := by unfold f3; rw [fA_nil h, fA_nil h, fB_nil h]
theorem f3_step {lo : Nat} (h : lo < 24) : f3 (uB (uA (uA s 3 lo (-1)) 4 lo 0) 5 lo 0) (lo + 1) = f3 s lo := by
  unfold f3
  refine St_ext (fun k => by simp only [sI_fB, sI_fA, sI_uA, sI_uB]) (fun k => by simp only [sJ_fB, sJ_fA, sJ_uA, sJ_uB]) (fun t' i => ?_) (fun t' i => ?_)
  · simp only [sA_fB, sA_fA, sA_uA, sA_uB]
    by_cases g4 : t' = 4
    · subst g4; simp only [true_and, false_and, Nat.reduceEqDiff, if_false]
      by_cases q : lo ≤ i ∧ i < 24
      · rw [if_pos q]; split
        · rfl
        · rw [if_pos (by omega)]
      · rw [if_neg q, if_neg (by omega), if_neg (by omega)]
    · simp only [eq_false g4, false_and, if_false]
      by_cases g3 : t' = 3
      · subst g3; simp only [true_and]
        by_cases q : lo ≤ i ∧ i < 24
        · rw [if_pos q]; split
          · rfl
          · rw [if_pos (by omega)]
        · rw [if_neg q, if_neg (by omega), if_neg (by omega)]
      · simp only [eq_false g3, false_and, if_false]
  · simp only [sB_fB, sB_fA, sB_uA, sB_uB]
    by_cases g5 : t' = 5
    · subst g5; simp only [true_and]
      by_cases q : lo ≤ i ∧ i < 24
      · rw [if_pos q]; split
        · rfl
        · rw [if_pos (by omega)]
      · rw [if_neg q, if_neg (by omega), if_neg (by omega)]
    · simp only [eq_false g5, false_and, if_false]
theorem l13_17 (m : Nat) : ∀ (i : Int32) (s : St), i.toInt = 24 - m → 0 ≤ i.toInt → (W (pj lw) 13 17 [.val (.ref p), .val (.int i)] [] kk nn (ob H p s) Q ↔ W (pj lw) 13 50 [.val (.ref p), .val (.int 24)] [] kk nn (ob H p (f3 s i.toNatClampNeg)) Q) := by
  induction m with
  | zero =>
    intro i s hi h0
    have h1 : ¬ i < 24 := by rw [lt32]; simp only [Int32.reduceToInt]; omega
    have e : i = 24 := by rw [eq32]; simp only [Int32.reduceToInt]; omega
    rw [w13_17]; simp +decide only [w13_18, w13_20, ↓reduceIte, h1]
    rw [e, f3_nil (by decide)]
  | succ m ih =>
    intro i s hi h0
    have h1 : i < 24 := by rw [lt32]; simp only [Int32.reduceToInt]; omega
    have h2 : (i + 1).toInt = i.toInt + 1 := ia (by simp only [Int32.reduceToInt]; omega) (by simp only [Int32.reduceToInt]; omega)
    have h4 : (i + 1).toNatClampNeg = i.toNatClampNeg + 1 := by rw [cln, cln]; omega
    have hb : 0 ≤ i.toInt ∧ i.toInt < 24 := by omega
    rw [← f3_step (by rw [cln]; omega), ← h4, ← ih (i + 1) _ (by omega) (by omega), w13_17]
    simp +decide only [w13_18, w13_20, w13_23, w13_24, w13_27, w13_28, w13_29, w13_30, w13_31, w13_34, w13_35, w13_36, w13_37, w13_38, w13_41, w13_42, w13_43, w13_44, w13_47, isO_put, true_and, and_true, or_true, ↓reduceIte, g8, g9, g10, aw3, as3, aw4, awn4, as4, aw5, as5, awn4, h1, hb]
theorem v13g : Cl (pj lw) 13 [.ref p] (ob H p s) Q ↔ Q none (ob H p (f3 (uJ (uI (uI s 5 0) 6 0) 7 0) 0)) := by
  rw [c13]; simp +decide only [w13_0, w13_1, w13_2, w13_5, w13_6, w13_7, w13_10, w13_11, w13_12, w13_15, w13_16, isOw_put, true_and, and_true, s5, s6, s7]
  rw [l13_17 24 0 _ (by decide) (by decide)]
  simp +decide only [w13_50, Int32.reduceToNatClampNeg, Int32.reduceToNatClampNeg]
def tg (E : Nat → Nat → Prop) (w : Nat → Nat → Int) (D N : Int) (π : Nat → Int) (u v : Nat) : Prop := E u v ∧ π u + (D * w u v - N) = π v
def Fs (n : Nat) (T : Nat → Nat → Prop) (σ : Nat) : Prop := σ < n ∧ TR n T σ σ ∧ ∀ v, v < σ → ¬ TR n T v v
def FA (s s' : St) (n : Nat) (N D : Int) (π φ : Nat → Int) (σ L : Nat) (q : Nat → Nat) : Prop :=
  (0 < D ∧ D ≤ 24) ∧ NC n (gE s) (fun u v => D * gw s u v - N) ∧ (∃ f q, 1 ≤ q ∧ q ≤ n ∧ Wf n (gE s) f q ∧ f 0 = f q ∧ sm (fun u v => D * gw s u v - N) f q = 0) ∧ EX n (gE s) (fun u v => D * gw s u v - N) π ∧
  Fs n (tg (gE s) (gw s) D N π) σ ∧ LN n (tg (gE s) (gw s) D N π) σ L ∧ Sq n (tg (gE s) (gw s) D N π) σ L L q ∧ EX n (gE s) (fun u v => (L : Int) * gw s u v - cyw (gw s) q L L) φ ∧
  (sI s' 6 = Int32.ofNat L ∧ sJ s' 7 = oi (cyw (gw s) q L L)) ∧ (∀ j, j < L → q j < n ∧ sA s' 3 j = Int32.ofNat (q j)) ∧ (∀ j, L ≤ j → j < 24 → sA s' 3 j = -1) ∧ (∀ v, v < n → (sA s' 4 v = 1 ∧ TR n (tg (gE s) (gw s) D N π) v v) ∨ (sA s' 4 v = 0 ∧ ¬ TR n (tg (gE s) (gw s) D N π) v v)) ∧ (∀ v, v < 24 → sB s' 5 v = oi (φ v)) ∧ ∀ v, -72000000 ≤ φ v ∧ φ v ≤ 0
def SV (s s' : St) (n : Nat) (r : Int32) : Prop := ((∀ i, sA s' 1 i = sA s 1 i) ∧ (∀ i, sA s' 2 i = sA s 2 i) ∧ sI s' 0 = sI s 0 ∧ sI s' 1 = sI s 1 ∧ sJ s' 16 = sJ s 16) ∧ sI s' 4 = 1 ∧
  ((r = 0 ∧ sI s' 5 = 0 ∧ ∀ f k, 1 ≤ k → Wf n (gE s) f k → f 0 ≠ f k) ∨ (r = 1 ∧ sI s' 5 = 1 ∧ ∃ N D π φ σ L q, FA s s' n N D π φ σ L q))
theorem TR.congr {T' : Nat → Nat → Prop} (e : ∀ u v, u < n → v < n → (T u v → T' u v)) (h : TR n T u v) : TR n T' u v := by
  obtain ⟨f, l, a1, a2, a3, a4⟩ := h
  exact ⟨f, l, a1, ⟨a2.1, fun i hi => e _ _ (a2.1 i (by omega)) (a2.1 (i + 1) (by omega)) (a2.2 i hi)⟩, a3, a4⟩
theorem Wf.congr {T' : Nat → Nat → Prop} (e : ∀ u v, u < n → v < n → (T u v → T' u v)) (h : Wf n T f k) : Wf n T' f k := ⟨h.1, fun i hi => e _ _ (h.1 i (by omega)) (h.1 (i + 1) (by omega)) (h.2 i hi)⟩
theorem DI.congr {T' : Nat → Nat → Prop} {d : Nat} (e : ∀ u v, u < n → v < n → (T u v ↔ T' u v)) (h : DI n T σ v d) : DI n T' σ v d := by
  obtain ⟨⟨f, a1, a2, a3⟩, a4⟩ := h
  exact ⟨⟨f, a1.congr fun u v hu hv => (e u v hu hv).1, a2, a3⟩, fun f' d' b1 b2 b3 => a4 f' d' (b1.congr fun u v hu hv => (e u v hu hv).2) b2 b3⟩
theorem LN.congr {T' : Nat → Nat → Prop} (e : ∀ u v, u < n → v < n → (T u v ↔ T' u v)) (hσ : σ < n) (h : LN n T σ L) : LN n T' σ L := by
  obtain ⟨a1, ⟨y, b1, b2, b3⟩, a3⟩ := h
  exact ⟨a1, ⟨y, b1, (e σ y hσ b1).1 b2, b3.congr e⟩, fun z d c1 c2 c3 => a3 z d c1 ((e σ z hσ c1).2 c2) (c3.congr fun u v hu hv => (e u v hu hv).symm)⟩
theorem Sq.lt (h : Sq n T σ L i q) (hσ : σ < n) (hj : j < i) : q j < n := by
  by_cases e : j = 0
  · subst e; rw [h.1]; exact hσ
  · exact (h.2 j (by omega) hj).1
theorem Sq.congr {T' : Nat → Nat → Prop} (e : ∀ u v, u < n → v < n → (T u v ↔ T' u v)) (hσ : σ < n) (h : Sq n T σ L i q) : Sq n T' σ L i q := by
  refine ⟨h.1, fun j j1 j2 => ?_⟩
  have c := h.lt hσ (j := j - 1) (by omega)
  obtain ⟨a1, ⟨a2, a3⟩, a4⟩ := h.2 j j1 j2
  exact ⟨a1, ⟨(e _ _ c a1).1 a2, a3.congr e⟩, fun z hz ⟨b1, b2⟩ => a4 z hz ⟨(e _ _ c (by omega)).2 b1, b2.congr fun u v hu hv => (e u v hu hv).symm⟩⟩
theorem cyw_tight (h : ∀ i, i < L → tg (gE s) (gw s) D N π (q i) (q ((i + 1) % L))) (h0 : q (0 % L) = q 0) : ∀ i, i ≤ L → D * cyw (gw s) q L i - N * i = π (q (i % L)) - π (q 0) := fun i => by
  induction i with
  | zero => intro _; rw [h0]; simp [cyw]
  | succ i ih =>
    intro hi
    have a := ih (by omega)
    have b := (h i (by omega)).2
    rw [Nat.mod_eq_of_lt (show i < L by omega)] at a
    rw [cyw, Int.mul_add, Int.natCast_add, Int.mul_add]
    simp only [Int.natCast_one, Int.mul_one]
    omega
end Uu

section Vv
variable {lw : LW} {H : AH} {p : Nat} {s s' s'' : St} {Q : Option Value → AH → Prop} {x sg : Int32} {i j k m n kk nn u v w t h σ y L : Nat} {T : Nat → Nat → Prop} {f g q : Nat → Nat} {N D : Int} {π φ : Nat → Int} {P : Nat → Prop}
def CI (s s' : St) (P : Nat → Prop) (i : Nat) (sg : Int32) : Prop := Ka s s' 4 ∧ (∀ v, v < i → (sA s' 4 v = 1 ∧ P v) ∨ (sA s' 4 v = 0 ∧ ¬ P v)) ∧ ((sg = -1 ∧ ∀ v, v < i → ¬ P v) ∨ ∃ σ, σ < i ∧ sg = Int32.ofNat σ ∧ P σ ∧ ∀ v, v < σ → ¬ P v)
theorem CI.arr (h : CI s s' P i sg) (hz : (x = 1 ∧ P i) ∨ (x = 0 ∧ ¬ P i)) : Ka s (uA s' 4 i x) 4 ∧ ∀ v, v < i + 1 → (sA (uA s' 4 i x) 4 v = 1 ∧ P v) ∨ (sA (uA s' 4 i x) 4 v = 0 ∧ ¬ P v) := by
  refine ⟨⟨fun k => by rw [sI_uA]; exact h.1.1 k, fun k => by rw [sJ_uA]; exact h.1.2.1 k, fun t j ht => by rw [sA_uA, if_neg (fun w => ht w.1)]; exact h.1.2.2.1 t j ht, fun t j => by rw [sB_uA]; exact h.1.2.2.2 t j⟩, fun v hv => ?_⟩
  rw [sA_uA]
  by_cases e : v = i
  · rw [if_pos ⟨rfl, e⟩, e]; exact hz
  · rw [if_neg (fun w => e w.2)]; exact h.2.1 v (by omega)
set_option maxRecDepth 100000 in
theorem l12_50 (n0 : sI s 0 = Int32.ofNat n) (hn : n ≤ 24) (hP : ∀ v, v < n → (Bm s v v = true ↔ P v)) (K : ∀ s' sg, CI s s' P n sg → W (pj lw) 12 103 [.val (.ref p), .val (.int sg), .val (.int (Int32.ofNat n))] [] kk nn (ob H p s') Q) (m : Nat) :
    ∀ (i : Nat) (s' : St) (sg : Int32), i + m = n → CI s s' P i sg → W (pj lw) 12 50 [.val (.ref p), .val (.int sg), .val (.int (Int32.ofNat i))] [] kk nn (ob H p s') Q := by
  induction m with
  | zero =>
    intro i s' sg hi hC
    obtain rfl : i = n := by omega
    have m0 : sI s' 0 = Int32.ofNat i := by rw [hC.1.1]; exact n0
    have h1 : ¬ Int32.ofNat i < Int32.ofNat i := by rw [lt32]; omega
    rw [w12_50]; simp +decide only [w12_51, w12_52, w12_55, isO_put, true_and, ↓reduceIte, g0, m0, h1]
    exact K s' sg hC
  | succ m ih =>
    intro i s' sg hi hC
    have m0 : sI s' 0 = Int32.ofNat n := by rw [hC.1.1]; exact n0
    obtain ⟨e1, e2⟩ := ofi (i := i) (by omega)
    have h1 : Int32.ofNat i < Int32.ofNat n := by rw [lt32, e1, (ofi (by omega)).1]; omega
    have hb : 0 ≤ (Int32.ofNat i).toInt ∧ (Int32.ofNat i).toInt < 24 := by omega
    have eB : bt (sA s' 8 i) i = Bm s i i := by rw [hC.1.2.2.1 8 i (by decide)]; rfl
    have hs := shr_bt (R := sA s' 8 i) (k := i) (by omega)
    rw [eB] at hs
    have hp := hP i (by omega)
    have nn0 : ¬ Int32.ofNat i < 0 := by rw [lt32, e1]; simp only [Int32.reduceToInt]; omega
    rw [w12_50]
    by_cases q : Bm s i i = true
    · have c1 := eq_false (fun w => by rw [hs.1 w] at q; exact Bool.noConfusion q : ¬ (sA s' 8 i >>> (Int32.ofNat i &&& 31)) &&& 1 = 0)
      obtain ⟨a1, a2⟩ := hC.arr (x := 1) (Or.inl ⟨rfl, hp.1 q⟩)
      rcases hC.2.2 with ⟨rfl, w2⟩ | ⟨σ, w1, rfl, w3, w4⟩
      · simp +decide only [w12_51, w12_52, w12_55, w12_58, w12_59, w12_62, w12_63, w12_64, w12_67, w12_68, w12_69, w12_70, w12_71, w12_72, w12_73, w12_76, w12_77, w12_81, w12_82, w12_83, w12_86, w12_87, w12_88, w12_91, w12_92, w12_95, w12_96i, w12_97, w12_100, isO_put, sA_uA, true_and, and_true, or_true, ↓reduceIte, g0, g9, g13, ai4, aw4, ain4, awn4, ae4, as4, ai8, ae8, ain4, awn4, m0, h1, hb, e2, c1, ofs]
        exact ih (i + 1) _ _ (by omega) ⟨a1, a2, Or.inr ⟨i, by omega, rfl, hp.1 q, w2⟩⟩
      · have nn1 : ¬ Int32.ofNat σ < 0 := by rw [lt32, (ofi (i := σ) (by omega)).1]; simp only [Int32.reduceToInt]; omega
        simp +decide only [w12_51, w12_52, w12_55, w12_58, w12_59, w12_62, w12_63, w12_64, w12_67, w12_68, w12_69, w12_70, w12_71, w12_72, w12_73, w12_76, w12_77, w12_81, w12_82, w12_83, w12_86, w12_87, w12_88, w12_91, w12_92, w12_97, w12_100, isO_put, sA_uA, true_and, and_true, or_true, ↓reduceIte, g0, g9, g13, ai4, aw4, ain4, awn4, ae4, as4, ai8, ae8, ain4, awn4, m0, h1, hb, e2, c1, ofs, nn1]
        exact ih (i + 1) _ _ (by omega) ⟨a1, a2, Or.inr ⟨σ, by omega, rfl, w3, w4⟩⟩
    · have c1 := eq_true (hs.2 (by cases h : Bm s i i; rfl; exact absurd h q))
      obtain ⟨a1, a2⟩ := hC.arr (x := 0) (Or.inr ⟨rfl, fun w => q (hp.2 w)⟩)
      simp +decide only [w12_51, w12_52, w12_55, w12_58, w12_59, w12_62, w12_63, w12_64, w12_67, w12_68, w12_69, w12_70, w12_71, w12_72, w12_73, w12_80, w12_81, w12_82, w12_83, w12_86, w12_87, w12_88, w12_97, w12_100, isO_put, sA_uA, true_and, and_true, or_true, ↓reduceIte, g0, g9, g13, ai4, aw4, ain4, awn4, ae4, as4, ai8, ae8, ain4, awn4, m0, h1, hb, e2, c1, ofs]
      refine ih (i + 1) _ _ (by omega) ⟨a1, a2, ?_⟩
      rcases hC.2.2 with ⟨w1, w2⟩ | ⟨σ, w1, w2⟩
      · refine Or.inl ⟨w1, fun v hv => ?_⟩
        by_cases e : v = i
        · rw [e]; exact fun w => q (hp.2 w)
        · exact w2 v (by omega)
      · exact Or.inr ⟨σ, by omega, w2⟩
theorem sm_lin2 {c c' : Nat → Nat → Int} {a b : Int} (h : ∀ u v, a * c' u v = b * c u v) : ∀ k : Nat, a * sm c' f k = b * sm c f k
  | 0 => by simp [sm]
  | k + 1 => by rw [sm, sm, Int.mul_add, Int.mul_add, sm_lin2 h k, h]
theorem NC.scale {E : Nat → Nat → Prop} {c c' : Nat → Nat → Int} {a b : Int} (ha : 0 < a) (hb : 0 ≤ b) (h : ∀ u v, a * c' u v = b * c u v) (hN : NC n E c) : NC n E c' := fun f k h1 hw he => by
  have e := sm_lin2 (f := f) h k
  have g := hN f k h1 hw he
  have g' := Int.mul_nonneg hb g
  rw [← e] at g'
  by_cases z : 0 ≤ sm c' f k
  · exact z
  · have := Int.mul_lt_mul_of_pos_left (show sm c' f k < 0 by omega) ha
    rw [Int.mul_zero] at this; omega
theorem cyw_b {c : Nat → Nat → Int} (h : ∀ u v, -10000 ≤ c u v ∧ c u v ≤ 10000) : ∀ i : Nat, -(10000 * (i : Int)) ≤ cyw c q L i ∧ cyw c q L i ≤ 10000 * i
  | 0 => by simp [cyw]
  | i + 1 => by
    have a := cyw_b h i
    have b := h (q i) (q ((i + 1) % L))
    rw [cyw]; omega
theorem gt_of (h : ∀ i, sA s' 7 i = sA s 7 i) : gt s' = gt s := by funext u v; unfold gt; rw [h]
theorem tight_cl {E : Nat → Nat → Prop} {c : Nat → Nat → Int} (hF : Fe n E c π) (h1 : 1 ≤ k) (hw : Wf n E f k) (he : f 0 = f k) (hz : sm c f k = 0) : TR n (fun u v => E u v ∧ π u + c u v = π v) (f 0) (f 0) := by
  refine ⟨f, k, h1, ⟨hw.1, fun i hi => ⟨hw.2 i hi, ?_⟩⟩, rfl, he.symm⟩
  have a := hF.tight hw he hz i (by omega)
  have b := hF.tight hw he hz (i + 1) (by omega)
  rw [sm] at b; omega
set_option maxRecDepth 100000 in
set_option maxHeartbeats 1000000 in
theorem v12g (G : GI s n) (K : ∀ s' r, SV s s' n r → Q (some (.int r)) (ob H p s')) : Cl (pj lw) 12 [.ref p] (ob H p s) Q := by
  have hn := G.1.2
  rw [c12]; simp +decide only [w12_0, w12_1, isO_put, true_and, and_true]
  refine v13g.2 ?_
  simp +decide only [w12_4, w12_5, w12_6, w12_9, w12_10, isO_put, isOw_put, Option.toList_none, List.nil_append, true_and, and_true, s4]
  generalize e1 : uI (f3 (uJ (uI (uI s 5 0) 6 0) 7 0) 0) 4 1 = st1
  have i1 : ∀ t, t ≠ 4 → t ≠ 5 → t ≠ 6 → sI st1 t = sI s t := fun t h4 h5 h6 => by
    rw [← e1, sI_uI, if_neg h4]; unfold f3; rw [sI_fB, sI_fA, sI_fA, sI_uJ, sI_uI, if_neg h6, sI_uI, if_neg h5]
  have i4 : sI st1 4 = 1 := by rw [← e1, sI_uI, if_pos rfl]
  have i5 : sI st1 5 = 0 := by
    rw [← e1, sI_uI, if_neg (by decide)]; unfold f3; rw [sI_fB, sI_fA, sI_fA, sI_uJ, sI_uI, if_neg (by decide), sI_uI, if_pos rfl]
  have j1 : ∀ t, t ≠ 7 → sJ st1 t = sJ s t := fun t h7 => by
    rw [← e1, sJ_uI]; unfold f3; rw [sJ_fB, sJ_fA, sJ_fA, sJ_uJ, if_neg h7, sJ_uI, sJ_uI]
  have ar : ∀ t j, t ≠ 3 → t ≠ 4 → sA st1 t j = sA s t j := fun t j h3 h4 => by
    rw [← e1, sA_uI]; unfold f3; rw [sA_fB, sA_fA, if_neg (fun w => h4 w.1), sA_fA, if_neg (fun w => h3 w.1), sA_uJ, sA_uI, sA_uI]
  have a3 : ∀ j, j < 24 → sA st1 3 j = -1 := fun j hj => by
    rw [← e1, sA_uI]; unfold f3; rw [sA_fB, sA_fA, if_neg (fun w => by omega), sA_fA, if_pos ⟨rfl, Nat.zero_le _, hj⟩]
  have G1 : GI st1 n := G.of (i1 0 (by decide) (by decide) (by decide)) (j1 16 (by decide)) (fun i => ar 1 i (by decide) (by decide)) (fun i => ar 2 i (by decide) (by decide))
  have E1 : gE st1 = gE s := gE_of fun i => ar 1 i (by decide) (by decide)
  have W1 : gw st1 = gw s := gw_of (fun i => ar 1 i (by decide) (by decide)) (fun i => ar 2 i (by decide) (by decide))
  refine v14g G1 fun st2 r S2 A2 => ?_
  rcases A2 with ⟨rfl, hac⟩ | ⟨rfl, N, D, j17, j18, hD, hB, hNC, f, l, l1, l2, hw, hc, hz⟩
  · simp +decide only [w12_13, w12_16, w12_17, Option.toList_some, List.cons_append, List.nil_append, ↓reduceIte]
    refine K st2 0 ⟨⟨fun i => by rw [S2.2.2.1]; exact ar 1 i (by decide) (by decide), fun i => by rw [S2.2.2.1]; exact ar 2 i (by decide) (by decide), by rw [S2.1]; exact i1 0 (by decide) (by decide) (by decide), by rw [S2.1]; exact i1 1 (by decide) (by decide) (by decide), by rw [S2.2.1 16 (by decide) (by decide) (by decide) (by decide)]; exact j1 16 (by decide)⟩, by rw [S2.1]; exact i4, Or.inl ⟨rfl, by rw [S2.1]; exact i5, ?_⟩⟩
    rw [E1] at hac; exact hac
  · have G2 : GI st2 n := G1.of (S2.1 0) (S2.2.1 16 (by decide) (by decide) (by decide) (by decide)) (S2.2.2.1 1) (S2.2.2.1 2)
    have E2 : gE st2 = gE s := by rw [← E1]; exact gE_of (S2.2.2.1 1)
    have W2 : gw st2 = gw s := by rw [← W1]; exact gw_of (S2.2.2.1 1) (S2.2.2.1 2)
    rw [E1, W1] at hNC
    rw [W1] at hz
    rw [E1] at hw
    simp +decide only [w12_13, w12_18, w12_19, w12_20, w12_23, w12_24, w12_27, isO_put, Option.toList_some, List.cons_append, List.nil_append, true_and, and_true, ↓reduceIte, g17, g18, j17, j18]
    refine v17g G2 ⟨by omega, hD.2⟩ hB (by rw [E2, W2]; exact hNC) fun st3 π P3 X3 => ?_
    rw [E2, W2] at X3
    have G3 := P3.gi G2
    have E3 : gE st3 = gE s := by rw [← E2]; exact gE_of (P3.1.2.2.1 1)
    have W3 : gw st3 = gw s := by rw [← W2]; exact gw_of (P3.1.2.2.1 1) (P3.1.2.2.1 2)
    have cb1 : ∀ u v, u < n → v < n → -3000000 ≤ D * gw s u v - N := fun u v _ _ => by
      have g := G.gb u v
      have h2 : D * (-10000) ≤ D * gw s u v := Int.mul_le_mul_of_nonneg_left g.1 (by omega)
      omega
    have j17' : sJ st3 17 = oi N := by rw [P3.1.2.1]; exact j17
    have j18' : sJ st3 18 = oi D := by rw [P3.1.2.1]; exact j18
    simp +decide only [w12_30, w12_31, w12_32, w12_35, w12_36, w12_39, isO_put, Option.toList_none, List.nil_append, true_and, and_true, g17, g18, j17', j18']
    refine v18g G3 ⟨by omega, hD.2⟩ hB P3.2 (X3.1.b hNC hn.2 cb1) fun st4 K4 T4 => ?_
    have G4 := K4.gi G3 (by decide) (by decide)
    have E4 : gE st4 = gE s := by rw [← E3]; exact gE_of fun i => K4.2.2.1 1 i (by decide)
    have W4 : gw st4 = gw s := by rw [← W3]; exact gw_of (fun i => K4.2.2.1 1 i (by decide)) (fun i => K4.2.2.1 2 i (by decide))
    have tt : ∀ u v, u < 24 → v < 24 → (gt st4 u v ↔ tg (gE s) (gw s) D N π u v) := fun u v hu hv => by
      unfold gt tg tv at *
      have t4 := T4 (u * 24 + v) (by omega)
      rw [show (u * 24 + v) / 24 = u by omega, show (u * 24 + v) % 24 = v by omega, W3] at t4
      have eq : (sA st3 1 (u * 24 + v) ≠ 0) = gE s u v := by rw [← E3]; rfl
      rw [t4, ← eq]
      split
      · rename_i w; exact ⟨fun _ => w, fun _ => by decide⟩
      · rename_i w; exact ⟨fun z => absurd rfl z, fun z => absurd z w⟩
    simp +decide only [w12_42, w12_43, isO_put, Option.toList_none, List.nil_append, true_and, and_true]
    refine v19g G4.1.1 hn.2 fun st5 K5 B5 => ?_
    have G5 := K5.gi G4 (by decide) (by decide)
    have E5 : gE st5 = gE s := by rw [← E4]; exact gE_of fun i => K5.2.2.1 1 i (by decide)
    have W5 : gw st5 = gw s := by rw [← W4]; exact gw_of (fun i => K5.2.2.1 1 i (by decide)) (fun i => K5.2.2.1 2 i (by decide))
    simp +decide only [w12_46, w12_47, w12_48, w12_49, Option.toList_none, List.nil_append]
    have o0 : (0 : Int32) = Int32.ofNat 0 := rfl
    rw [o0]
    refine l12_50 (s := st5) (P := fun v => TR n (tg (gE s) (gw s) D N π) v v) G5.1.1 hn.2 (fun v hv => (B5 v v hv hv).trans ⟨fun w => w.congr fun a b ha hb => (tt a b (by omega) (by omega)).1, fun w => w.congr fun a b ha hb => (tt a b (by omega) (by omega)).2⟩) (fun st6 sg C6 => ?_) n 0 st5 (-1) (by omega) ⟨⟨fun _ => rfl, fun _ => rfl, fun _ _ _ => rfl, fun _ _ => rfl⟩, fun v hv => absurd hv (by omega), Or.inl ⟨rfl, fun v hv => absurd hv (by omega)⟩⟩
    have TRf : TR n (tg (gE s) (gw s) D N π) (f 0) (f 0) := tight_cl X3.fe l1 hw hc hz
    rcases C6.2.2 with ⟨_, w2⟩ | ⟨σ, hσ, rfl, hT, hf⟩
    · exact absurd TRf (w2 _ (hw.1 0 (by omega)))
    have G6 := C6.1.gi G5 (by decide) (by decide)
    have E6 : gE st6 = gE s := by rw [← E5]; exact gE_of fun i => C6.1.2.2.1 1 i (by decide)
    have W6 : gw st6 = gw s := by rw [← W5]; exact gw_of (fun i => C6.1.2.2.1 1 i (by decide)) (fun i => C6.1.2.2.1 2 i (by decide))
    have t6 : gt st6 = gt st4 := (gt_of fun i => C6.1.2.2.1 7 i (by decide)).trans (gt_of fun i => K5.2.2.1 7 i (by decide))
    have c1 : ¬ Int32.ofNat σ < 0 := by rw [lt32, (ofi (i := σ) (by omega)).1]; simp only [Int32.reduceToInt]; omega
    simp +decide only [w12_103, w12_104, w12_109, w12_110, w12_111, isO_put, true_and, and_true, ↓reduceIte, c1]
    have inn : ∀ u v, gt st4 u v → u < 24 → v < 24 → u < n ∧ v < n := fun u v ht hu hv => by
      have := ((tt u v hu hv).1 ht).1
      have g := G.2.2 (u * 24 + v) (by omega) this
      omega
    refine v20g G6.1.1 hn.2 hσ (by rw [t6]; exact inn) fun st7 D7 => ?_
    have G7 : GI st7 n := G6.of (D7.1.1 0) (D7.1.2.1 16) (fun i => D7.1.2.2.1 1 i (by decide) (by decide)) (fun i => D7.1.2.2.1 2 i (by decide) (by decide))
    have E7 : gE st7 = gE s := by rw [← E6]; exact gE_of fun i => D7.1.2.2.1 1 i (by decide) (by decide)
    have W7 : gw st7 = gw s := by rw [← W6]; exact gw_of (fun i => D7.1.2.2.1 1 i (by decide) (by decide)) (fun i => D7.1.2.2.1 2 i (by decide) (by decide))
    have t76 : gt st7 = gt st6 := gt_of fun i => D7.1.2.2.1 7 i (by decide) (by decide)
    have t7 : gt st7 = gt st4 := t76.trans t6
    have tq : ∀ u v, u < n → v < n → (gt st4 u v ↔ tg (gE s) (gw s) D N π u v) := fun u v hu hv => tt u v (by omega) (by omega)
    simp +decide only [w12_114, w12_115, w12_116, isO_put, Option.toList_none, List.nil_append, true_and, and_true]
    refine v21g G7 hσ (by unfold dr; rw [t76]; exact D7.2) (by rw [t7]; exact hT.congr fun a b ha hb => (tq a b ha hb).2) (by rw [t7, E7]; exact fun u v hu hv w => ((tq u v hu hv).1 w).1) fun st8 L q W8 => ?_
    obtain ⟨k8, l8, q8, i8, c8, a8, z8⟩ := W8
    rw [t7] at l8 q8
    rw [W7] at c8
    have l8' := l8.congr tq hσ
    have q8' := q8.congr tq hσ
    have hL := l8.1
    have cyt := cyw_tight (s := s) (D := D) (N := N) (π := π) (q := q) (L := L) (fun i hi => q8'.arcs l8' i hi) (by rw [Nat.zero_mod]) L (Nat.le_refl _)
    rw [Nat.mod_self, Int.sub_self] at cyt
    have cB := cyw_b (q := q) (L := L) (G.gb) L
    have G8 : GI st8 n := G7.of (k8.1 0 (by decide)) (k8.2.1 16 (by decide)) (fun i => k8.2.2.1 1 i (by decide)) (fun i => k8.2.2.1 2 i (by decide))
    have E8 : gE st8 = gE s := by rw [← E7]; exact gE_of fun i => k8.2.2.1 1 i (by decide)
    have W8 : gw st8 = gw s := by rw [← W7]; exact gw_of (fun i => k8.2.2.1 1 i (by decide)) (fun i => k8.2.2.1 2 i (by decide))
    have NC2 : NC n (gE s) (fun u v => (L : Int) * gw s u v - cyw (gw s) q L L) := by
      refine NC.scale (a := D) (b := L) hD.1 (by omega) (fun u v => ?_) hNC
      rw [Int.mul_sub, Int.mul_sub, Int.mul_left_comm, Int.mul_comm (L : Int) N]; omega
    have eL : (Int32.ofNat L).toInt64 = oi (L : Int) := by rw [oi_32, (ofi (i := L) (by omega)).1]
    simp +decide only [w12_119, w12_120, w12_121, w12_124, w12_125, w12_126, w12_129, isO_put, Option.toList_none, List.nil_append, true_and, and_true, g6, g7, i8, c8, eL]
    refine v17g G8 ⟨by omega, by omega⟩ ⟨by omega, by omega⟩ (by rw [E8, W8]; exact NC2) fun st9 φ P9 X9 => ?_
    rw [E8, W8] at X9
    simp +decide only [w12_132, w12_133, w12_134, w12_137, w12_138, isOw_put, Option.toList_none, List.nil_append, true_and, and_true, s5]
    have cb2 : ∀ u v, u < n → v < n → -3000000 ≤ (L : Int) * gw s u v - cyw (gw s) q L L := fun u v _ _ => by
      have g := G.gb u v
      have h2 : (L : Int) * (-10000) ≤ (L : Int) * gw s u v := Int.mul_le_mul_of_nonneg_left g.1 (by omega)
      omega
    have fI : ∀ t, t ≠ 4 → t ≠ 5 → t ≠ 6 → sI (uI st9 5 1) t = sI s t := fun t h4 h5 h6 => by
      rw [sI_uI, if_neg h5, P9.1.1, k8.1 t h6, D7.1.1, C6.1.1, K5.1, K4.1, P3.1.1, S2.1]; exact i1 t h4 h5 h6
    have fA' : ∀ t j, t = 1 ∨ t = 2 → sA (uI st9 5 1) t j = sA s t j := fun t j h => by
      rw [sA_uI, P9.1.2.2.1, k8.2.2.1 t j (by omega), D7.1.2.2.1 t j (by omega) (by omega), C6.1.2.2.1 t j (by omega), K5.2.2.1 t j (by omega), K4.2.2.1 t j (by omega), P3.1.2.2.1, S2.2.2.1]; exact ar t j (by omega) (by omega)
    refine K _ 1 ⟨⟨fun i => fA' 1 i (Or.inl rfl), fun i => fA' 2 i (Or.inr rfl), fI 0 (by decide) (by decide) (by decide), fI 1 (by decide) (by decide) (by decide), ?_⟩, ?_, Or.inr ⟨rfl, by rw [sI_uI, if_pos rfl], N, D, π, φ, σ, L, q, hD, hNC, ⟨f, l, l1, l2, hw, hc, hz⟩, X3, ⟨hσ, hT, hf⟩, l8', q8', X9, ⟨?_, ?_⟩, fun j hj => ⟨(a8 j hj).1, ?_⟩, fun j h1 h2 => ?_, fun v hv => ?_, fun v hv => ?_, X9.1.b NC2 hn.2 cb2⟩⟩
    · rw [sJ_uI, P9.1.2.1, k8.2.1 16 (by decide), D7.1.2.1, C6.1.2.1, K5.2.1, K4.2.1, P3.1.2.1, S2.2.1 16 (by decide) (by decide) (by decide) (by decide)]; exact j1 16 (by decide)
    · rw [sI_uI, if_neg (by decide), P9.1.1, k8.1 4 (by decide), D7.1.1, C6.1.1, K5.1, K4.1, P3.1.1, S2.1]; exact i4
    · rw [sI_uI, if_neg (by decide), P9.1.1]; exact i8
    · rw [sJ_uI, P9.1.2.1]; exact c8
    · rw [sA_uI, P9.1.2.2.1]; exact (a8 j hj).2
    · rw [sA_uI, P9.1.2.2.1, z8 j h1, D7.1.2.2.1 3 j (by decide) (by decide), C6.1.2.2.1 3 j (by decide), K5.2.2.1 3 j (by decide), K4.2.2.1 3 j (by decide), P3.1.2.2.1, S2.2.2.1]; exact a3 j h2
    · rw [sA_uI, P9.1.2.2.1, k8.2.2.1 4 v (by decide), D7.1.2.2.1 4 v (by decide) (by decide)]; exact C6.2.1 v hv
    · rw [sB_uI]; exact P9.2 v hv
end Vv

section Ww
variable {lw : LW} {H : AH} {p : Nat} {s s' s'' : St} {Q : Option Value → AH → Prop} {w : Int32} {i j k m n u v t : Nat}
def hv (s : St) (n u v : Nat) : Int32 := if u < n ∧ v < n ∧ sA s 1 (u * 24 + v) ≠ 0 then 1 else 0
def gv (s : St) (n u v : Nat) : Int32 := if u < n ∧ v < n ∧ sA s 1 (u * 24 + v) ≠ 0 then sA s 2 (u * 24 + v) else 0
def cS (s : St) : Prop := sI s 4 ≠ 0 ∧ sI s 5 ≠ 0
instance : Decidable (cS s) := inferInstanceAs (Decidable (_ ∧ _))
def cV (s : St) (i : Nat) : Int32 := if cS s ∧ Int32.ofNat i < sI s 6 then sA s 3 i else -1
def iC (s : St) (n v : Nat) : Int32 := if cS s ∧ v < n ∧ sA s 4 v ≠ 0 then 1 else 0
def pt (s : St) (n v : Nat) : Int64 := if cS s ∧ v < n then sB s 5 v else 0
def rC (s : St) (n u v : Nat) : Int64 := if cS s ∧ u < n ∧ v < n ∧ sA s 1 (u * 24 + v) ≠ 0 then (sI s 6).toInt64 * (sA s 2 (u * 24 + v)).toInt64 - sJ s 7 + sB s 5 u - sB s 5 v else -1
def adS (s : St) (n u v : Nat) (w : Int32) : Int32 × St := if ¬ (u < n ∧ v < n) then (1, s) else if w < -10000 ∨ 10000 < w then (2, s) else if sA s 1 (u * 24 + v) ≠ 0 then (3, s) else if ¬ sI s 1 < 96 then (5, s) else (0, uI (uI (uI (uA (uA s 1 (u * 24 + v) 1) 2 (u * 24 + v) w) 1 (sI s 1 + 1)) 4 0) 5 0)
def rmS (s : St) (n u v : Nat) : Int32 × St := if ¬ (u < n ∧ v < n) then (1, s) else if sA s 1 (u * 24 + v) = 0 then (4, s) else (0, uI (uI (uI (uA (uA s 1 (u * 24 + v) 0) 2 (u * 24 + v) 0) 1 (sI s 1 - 1)) 4 0) 5 0)
def swS (s : St) (n u v : Nat) (w : Int32) : Int32 × St := if ¬ (u < n ∧ v < n) then (1, s) else if w < -10000 ∨ 10000 < w then (2, s) else if sA s 1 (u * 24 + v) = 0 then (4, s) else (0, uI (uI (uA s 2 (u * 24 + v) w) 4 0) 5 0)
theorem un (hu : u < 900) (hn : n ≤ 24) : ¬ Int32.ofNat u < 0 ∧ (u < n → Int32.ofNat u < Int32.ofNat n) ∧ (¬ u < n → ¬ Int32.ofNat u < Int32.ofNat n) ∧ (u < n → 0 ≤ (Int32.ofNat u).toInt ∧ (Int32.ofNat u).toInt < 24) ∧ (Int32.ofNat u).toNatClampNeg = u := by
  obtain ⟨e1, e2⟩ := ofi (i := u) (by omega)
  simp only [lt32, e1, (ofi (i := n) (by omega)).1, Int32.reduceToInt]
  exact ⟨by omega, fun h => by omega, fun h => by omega, fun h => by omega, e2⟩
theorem uvn (hu : u < 24) (hv : v < 24) : (0 ≤ (Int32.ofNat (u * 24 + v)).toInt ∧ (Int32.ofNat (u * 24 + v)).toInt < 576) ∧ (Int32.ofNat (u * 24 + v)).toNatClampNeg = u * 24 + v := by
  obtain ⟨e1, e2⟩ := ofi (i := u * 24 + v) (by omega)
  exact ⟨by omega, e2⟩
theorem k10 : Cl (pj lw) 10 [.ref p] (ob H p s) Q ↔ Q (some (.int (sI s 1))) (ob H p s) := by rw [c10]; simp +decide only [w10_0, w10_1, w10_4, isO_put, true_and, g1]
theorem k11 : Cl (pj lw) 11 [.ref p] (ob H p s) Q ↔ Q (some (.int (sI s 0))) (ob H p s) := by rw [c11]; simp +decide only [w11_0, w11_1, w11_4, isO_put, true_and, g0]
theorem k22 : Cl (pj lw) 22 [.ref p] (ob H p s) Q ↔ (sI s 4 = 0 ∨ sI s 4 = 1) ∧ Q (some (.int (sI s 4))) (ob H p s) := by rw [c22]; simp +decide only [w22_0, w22_1, w22_4, isO_put, true_and, g4]
theorem k8 (n0 : sI s 0 = Int32.ofNat n) (hn : n ≤ 24) (hu : u < 900) (hw : v < 900) : Cl (pj lw) 8 [.ref p, .int (Int32.ofNat u), .int (Int32.ofNat v)] (ob H p s) Q ↔ Q (some (.int (hv s n u v))) (ob H p s) := by
  obtain ⟨a1, a2, a3, -⟩ := un hu hn
  obtain ⟨b1, b2, b3, -⟩ := un hw hn
  rw [c8]; unfold hv
  by_cases q1 : u < n
  rotate_left
  · rw [if_neg (fun h => q1 h.1)]; have a3 := a3 q1
    simp +decide only [w8_0, w8_1, w8_2, w8_5, w8_34, w8_35, c2, w2_0, w2_1, w2_4, w2_5, w2_6, w2_9, w2_16, w2_17, isO_put, Option.toList_some, List.cons_append, List.nil_append, true_and, and_true, ↓reduceIte, g0, n0, a1, a3]
  have a2 := a2 q1
  by_cases q2 : v < n
  rotate_left
  · rw [if_neg (fun h => q2 h.2.1)]; have b3 := b3 q2
    simp +decide only [w8_0, w8_1, w8_2, w8_5, w8_8, w8_9, w8_10, w8_13, w8_34, w8_35, c2, w2_0, w2_1, w2_4, w2_5, w2_6, w2_9, w2_12, w2_13, w2_16, w2_17, isO_put, Option.toList_some, List.cons_append, List.nil_append, true_and, and_true, ↓reduceIte, g0, n0, a1, a2, b1, b3]
  have b2 := b2 q2
  obtain ⟨d1, d2⟩ := uvn (u := u) (v := v) (by omega) (by omega)
  have e4 := m24 (u := u) (v := v)
  by_cases q3 : sA s 1 (u * 24 + v) = 0
  · rw [if_neg (fun h => h.2.2 q3)]
    simp +decide only [w8_0, w8_1, w8_2, w8_5, w8_8, w8_9, w8_10, w8_13, w8_16, w8_17, w8_20, w8_21, w8_23, w8_24, w8_25, w8_26, w8_27, w8_34, w8_35, c2, w2_0, w2_1, w2_4, w2_5, w2_6, w2_9, w2_12, w2_13, w2_17, isO_put, Option.toList_some, List.cons_append, List.nil_append, true_and, and_true, or_true, ↓reduceIte, g0, g2, ai1, ain1, ae1, ain1, n0, a1, a2, b1, b2, e4, d1, d2, q3]
  · rw [if_pos ⟨q1, q2, q3⟩]
    simp +decide only [w8_0, w8_1, w8_2, w8_5, w8_8, w8_9, w8_10, w8_13, w8_16, w8_17, w8_20, w8_21, w8_23, w8_24, w8_25, w8_26, w8_27, w8_30, w8_31, w8_35, c2, w2_0, w2_1, w2_4, w2_5, w2_6, w2_9, w2_12, w2_13, w2_17, isO_put, Option.toList_some, List.cons_append, List.nil_append, true_and, and_true, or_true, ↓reduceIte, g0, g2, ai1, ain1, ae1, ain1, n0, a1, a2, b1, b2, e4, d1, d2, q3]
theorem k9 (n0 : sI s 0 = Int32.ofNat n) (hn : n ≤ 24) (hu : u < 900) (hw : v < 900) : Cl (pj lw) 9 [.ref p, .int (Int32.ofNat u), .int (Int32.ofNat v)] (ob H p s) Q ↔ Q (some (.int (gv s n u v))) (ob H p s) := by
  have e8 := fun Q => k8 (lw := lw) (H := H) (p := p) (Q := Q) n0 hn hu hw
  rw [c9]; unfold gv
  simp +decide only [w9_0, w9_1, w9_2, w9_3, isO_put, Option.toList_some, List.cons_append, List.nil_append, true_and, and_true, ne_eq, e8]
  unfold hv
  by_cases q3 : u < n ∧ v < n ∧ sA s 1 (u * 24 + v) ≠ 0
  · rw [if_pos q3, if_pos q3]
    obtain ⟨d1, d2⟩ := uvn (u := u) (v := v) (by omega) (by omega)
    have e4 := m24 (u := u) (v := v)
    simp +decide only [w9_6, w9_11, w9_12, w9_15, w9_16, w9_18, w9_19, w9_20, w9_21, w9_22, isO_put, true_and, and_true, ↓reduceIte, g3, ai2, ae2, e4, d1, d2]
  · rw [if_neg q3, if_neg q3]
    simp +decide only [w9_6, w9_9, w9_10, ↓reduceIte]
theorem k23 : Cl (pj lw) 23 [.ref p] (ob H p s) Q ↔ Q (some (.int (if cS s then 1 else 0))) (ob H p s) := by
  rw [c23]
  by_cases q1 : sI s 4 = 0
  · rw [if_neg (fun h : cS s => h.1 q1)]; simp +decide only [w23_0, w23_1, w23_4, w23_18, w23_19, isO_put, true_and, ↓reduceIte, g4, q1]
  · by_cases q2 : sI s 5 = 0
    · rw [if_neg (fun h : cS s => h.2 q2)]; simp +decide only [w23_0, w23_1, w23_4, w23_7, w23_8, w23_11, w23_18, w23_19, isO_put, true_and, ↓reduceIte, g4, g5, q1, q2]
    · rw [if_pos (show cS s from ⟨q1, q2⟩)]; simp +decide only [w23_0, w23_1, w23_4, w23_7, w23_8, w23_11, w23_14, w23_15, w23_19, isO_put, true_and, ↓reduceIte, g4, g5, q1, q2]
theorem k24 : Cl (pj lw) 24 [.ref p] (ob H p s) Q ↔ Q (some (.int (if cS s then sI s 6 else 0))) (ob H p s) := by
  rw [c24]; by_cases q : cS s <;> simp +decide only [w24_0, w24_1, w24_4, w24_7, w24_8, w24_11, w24_14, w24_15, isO_put, Option.toList_some, List.cons_append, List.nil_append, true_and, and_true, ↓reduceIte, g6, k23, q]
theorem k25 : Cl (pj lw) 25 [.ref p] (ob H p s) Q ↔ Q (some (.long (if cS s then sJ s 7 else 0))) (ob H p s) := by
  rw [c25]; by_cases q : cS s <;> simp +decide only [w25_0, w25_1, w25_4, w25_7, w25_8, w25_11, w25_14, w25_15, isO_put, Option.toList_some, List.cons_append, List.nil_append, true_and, and_true, ↓reduceIte, g7, k23, q]
theorem k26 (hi : i < 24) : Cl (pj lw) 26 [.ref p, .int (Int32.ofNat i)] (ob H p s) Q ↔ Q (some (.int (cV s i))) (ob H p s) := by
  obtain ⟨a1, -, -, -, a2⟩ := un (u := i) (n := 0) (by omega) (by omega)
  have a3 : 0 ≤ (Int32.ofNat i).toInt ∧ (Int32.ofNat i).toInt < 24 := by have := (ofi (i := i) (by omega)).1; omega
  rw [c26]; unfold cV; by_cases q : cS s
  · by_cases q2 : Int32.ofNat i < sI s 6 <;> simp +decide only [w26_0, w26_1, w26_4, w26_7, w26_8, w26_11, w26_12, w26_13, w26_16, w26_19, w26_20, w26_21, w26_22, w26_25, w26_26, w26_27, isO_put, Option.toList_some, List.cons_append, List.nil_append, true_and, and_true, and_false, ↓reduceIte, g6, g8, ai3, ae3, k23, q, q2, a1, a2, a3]
  · simp +decide only [w26_0, w26_1, w26_4, w26_19, w26_20, isO_put, Option.toList_some, List.cons_append, List.nil_append, true_and, and_true, false_and, ↓reduceIte, k23, q]
theorem k26m : Cl (pj lw) 26 [.ref p, .int (-1)] (ob H p s) Q ↔ Q (some (.int (-1))) (ob H p s) := by
  rw [c26]; by_cases q : cS s <;> simp +decide only [w26_0, w26_1, w26_4, w26_7, w26_8, w26_19, w26_20, isO_put, Option.toList_some, List.cons_append, List.nil_append, true_and, and_true, ↓reduceIte, k23, q]
theorem k27 (n0 : sI s 0 = Int32.ofNat n) (hn : n ≤ 24) (hu : v < 900) : Cl (pj lw) 27 [.ref p, .int (Int32.ofNat v)] (ob H p s) Q ↔ Q (some (.int (iC s n v))) (ob H p s) := by
  obtain ⟨a1, a2, a3, a4, a5⟩ := un hu hn
  rw [c27]; unfold iC; by_cases q : cS s
  rotate_left
  · simp +decide only [w27_0, w27_1, w27_4, w27_28, w27_29, isO_put, Option.toList_some, List.cons_append, List.nil_append, true_and, and_true, false_and, ↓reduceIte, ne_eq, k23, q]
  by_cases q1 : v < n
  rotate_left
  · have a3 := a3 q1
    simp +decide only [w27_0, w27_1, w27_4, w27_7, w27_8, w27_9, w27_12, w27_28, w27_29, c2, w2_0, w2_1, w2_4, w2_5, w2_6, w2_9, w2_16, w2_17, isO_put, Option.toList_some, List.cons_append, List.nil_append, true_and, and_true, false_and, and_false, ↓reduceIte, ne_eq, g0, k23, q, q1, n0, a1, a3]
  have a2 := a2 q1
  have a4 := a4 q1
  by_cases q2 : sA s 4 v = 0 <;> simp +decide only [w27_0, w27_1, w27_4, w27_7, w27_8, w27_9, w27_12, w27_15, w27_16, w27_19, w27_20, w27_21, w27_24, w27_25, w27_28, w27_29, c2, w2_0, w2_1, w2_4, w2_5, w2_6, w2_9, w2_12, w2_13, w2_17, isO_put, Option.toList_some, List.cons_append, List.nil_append, true_and, and_true, and_false, or_true, not_false_eq_true, ↓reduceIte, ne_eq, g0, g9, ai4, ain4, ae4, ain4, k23, q, q1, n0, a1, a2, a4, a5, q2, ne_eq]
theorem k28 (n0 : sI s 0 = Int32.ofNat n) (hn : n ≤ 24) (hu : v < 900) : Cl (pj lw) 28 [.ref p, .int (Int32.ofNat v)] (ob H p s) Q ↔ Q (some (.long (pt s n v))) (ob H p s) := by
  obtain ⟨a1, a2, a3, a4, a5⟩ := un hu hn
  rw [c28]; unfold pt; by_cases q : cS s
  rotate_left
  · simp +decide only [w28_0, w28_1, w28_4, w28_15, w28_16, isO_put, Option.toList_some, List.cons_append, List.nil_append, true_and, and_true, false_and, ↓reduceIte, k23, q]
  by_cases q1 : v < n
  rotate_left
  · have a3 := a3 q1
    simp +decide only [w28_0, w28_1, w28_4, w28_7, w28_8, w28_9, w28_12, w28_15, w28_16, c2, w2_0, w2_1, w2_4, w2_5, w2_6, w2_9, w2_16, w2_17, isO_put, Option.toList_some, List.cons_append, List.nil_append, true_and, and_true, and_false, ↓reduceIte, g0, k23, q, q1, n0, a1, a3]
  have a2 := a2 q1
  have a4 := a4 q1
  simp +decide only [w28_0, w28_1, w28_4, w28_7, w28_8, w28_9, w28_12, w28_17, w28_18, w28_21, w28_22, w28_23, c2, w2_0, w2_1, w2_4, w2_5, w2_6, w2_9, w2_12, w2_13, w2_17, isO_put, Option.toList_some, List.cons_append, List.nil_append, true_and, and_true, ↓reduceIte, g0, g10, ai5, ae5, k23, q, q1, n0, a1, a2, a4, a5]
theorem k29 (n0 : sI s 0 = Int32.ofNat n) (hn : n ≤ 24) (hu : u < 900) (hw : v < 900) : Cl (pj lw) 29 [.ref p, .int (Int32.ofNat u), .int (Int32.ofNat v)] (ob H p s) Q ↔ Q (some (.long (rC s n u v))) (ob H p s) := by
  have e8 := fun Q => k8 (lw := lw) (H := H) (p := p) (Q := Q) n0 hn hu hw
  rw [c29]; unfold rC; by_cases q : cS s
  rotate_left
  · simp +decide only [w29_0, w29_1, w29_4, w29_16, w29_19, isO_put, Option.toList_some, List.cons_append, List.nil_append, true_and, and_true, false_and, ↓reduceIte, ne_eq, k23, q]
  simp +decide only [w29_0, w29_1, w29_4, w29_7, w29_8, w29_9, w29_10, isO_put, Option.toList_some, List.cons_append, List.nil_append, true_and, and_true, ↓reduceIte, ne_eq, k23, q, e8]
  unfold hv
  by_cases q3 : u < n ∧ v < n ∧ sA s 1 (u * 24 + v) ≠ 0
  · rw [if_pos q3, if_pos q3]
    obtain ⟨d1, d2⟩ := uvn (u := u) (v := v) (by omega) (by omega)
    obtain ⟨-, -, -, a4, a5⟩ := un hu hn
    obtain ⟨-, -, -, b4, b5⟩ := un hw hn
    have a4 := a4 q3.1
    have b4 := b4 q3.2.1
    have e4 := m24 (u := u) (v := v)
    simp +decide only [w29_13, w29_20, w29_21, w29_24, w29_25, w29_26, w29_29, w29_30, w29_32, w29_33, w29_34, w29_35, w29_36, w29_37, w29_38, w29_39, w29_42, w29_43, w29_44, w29_47, w29_48, w29_49, w29_50, w29_51, w29_54, w29_55, w29_56, w29_57, isO_put, true_and, and_true, ↓reduceIte, g3, g6, g7, g10, ai2, ae2, ai5, ae5, e4, d1, d2, a4, a5, b4, b5]
  · rw [if_neg q3, if_neg q3]
    simp +decide only [w29_13, w29_16, w29_19, ↓reduceIte]
theorem k5 (n0 : sI s 0 = Int32.ofNat n) (hn : n ≤ 24) (hu : u < 900) (hw : v < 900) : Cl (pj lw) 5 [.ref p, .int (Int32.ofNat u), .int (Int32.ofNat v), .int w] (ob H p s) Q ↔ Q (some (.int (adS s n u v w).1)) (ob H p (adS s n u v w).2) := by
  obtain ⟨a1, a2, a3, -⟩ := un hu hn
  obtain ⟨b1, b2, b3, -⟩ := un hw hn
  rw [c5]; unfold adS
  by_cases q1 : u < n
  rotate_left
  · have a3 := a3 q1
    simp +decide only [w5_0, w5_1, w5_2, w5_5, w5_16, w5_17, c2, w2_0, w2_1, w2_4, w2_5, w2_6, w2_9, w2_16, w2_17, isO_put, Option.toList_some, List.cons_append, List.nil_append, true_and, and_true, false_and, not_false_eq_true, ↓reduceIte, g0, n0, a1, a3, q1, not_false_eq_true, false_and]
  have a2 := a2 q1
  by_cases q2 : v < n
  rotate_left
  · have b3 := b3 q2
    simp +decide only [w5_0, w5_1, w5_2, w5_5, w5_8, w5_9, w5_10, w5_13, w5_16, w5_17, c2, w2_0, w2_1, w2_4, w2_5, w2_6, w2_9, w2_12, w2_13, w2_16, w2_17, isO_put, Option.toList_some, List.cons_append, List.nil_append, true_and, and_true, and_false, not_false_eq_true, ↓reduceIte, g0, n0, a1, a2, b1, b3, q1, q2, not_false_eq_true, and_false]
  have b2 := b2 q2
  obtain ⟨d1, d2⟩ := uvn (u := u) (v := v) (by omega) (by omega)
  have e4 := m24 (u := u) (v := v)
  rw [if_neg (fun h => h ⟨q1, q2⟩)]
  by_cases w1 : w < -10000
  · rw [if_pos (Or.inl w1)]
    simp +decide only [w5_0, w5_1, w5_2, w5_5, w5_8, w5_9, w5_10, w5_13, w5_18, w5_19, w5_20, w5_23, w5_26, w5_27, c2, w2_0, w2_1, w2_4, w2_5, w2_6, w2_9, w2_12, w2_13, w2_17, c3, w3_0, w3_1, w3_4, w3_18, w3_19, isO_put, Option.toList_some, List.cons_append, List.nil_append, true_and, and_true, ↓reduceIte, g0, n0, a1, a2, b1, b2, w1]
  by_cases w2 : 10000 < w
  · rw [if_pos (Or.inr w2)]
    simp +decide only [w5_0, w5_1, w5_2, w5_5, w5_8, w5_9, w5_10, w5_13, w5_18, w5_19, w5_20, w5_23, w5_26, w5_27, c2, w2_0, w2_1, w2_4, w2_5, w2_6, w2_9, w2_12, w2_13, w2_17, c3, w3_0, w3_1, w3_4, w3_7, w3_8, w3_11, w3_18, w3_19, isO_put, Option.toList_some, List.cons_append, List.nil_append, true_and, and_true, ↓reduceIte, g0, n0, a1, a2, b1, b2, w1, w2]
  rw [if_neg (fun h => h.elim w1 w2)]
  by_cases q3 : sA s 1 (u * 24 + v) = 0
  rotate_left
  · rw [if_pos q3]
    simp +decide only [w5_0, w5_1, w5_2, w5_5, w5_8, w5_9, w5_10, w5_13, w5_18, w5_19, w5_20, w5_23, w5_28, w5_29, w5_31, w5_32, w5_33, w5_34, w5_36, w5_37, w5_40, w5_42, w5_43, w5_46, w5_47, c2, w2_0, w2_1, w2_4, w2_5, w2_6, w2_9, w2_12, w2_13, w2_17, c3, w3_0, w3_1, w3_4, w3_7, w3_8, w3_11, w3_14, w3_15, w3_19, isO_put, Option.toList_some, List.cons_append, List.nil_append, true_and, and_true, or_true, ↓reduceIte, g0, g2, ai1, ain1, ae1, ain1, n0, a1, a2, b1, b2, w1, w2, e4, d1, d2, q3]
  rw [if_neg (fun h => h q3)]
  by_cases q4 : sI s 1 < 96
  rotate_left
  · rw [if_pos q4]
    simp +decide only [w5_0, w5_1, w5_2, w5_5, w5_8, w5_9, w5_10, w5_13, w5_18, w5_19, w5_20, w5_23, w5_28, w5_29, w5_31, w5_32, w5_33, w5_34, w5_36, w5_37, w5_40, w5_42, w5_43, w5_48, w5_49, w5_52, w5_54, w5_57, w5_58, c2, w2_0, w2_1, w2_4, w2_5, w2_6, w2_9, w2_12, w2_13, w2_17, c3, w3_0, w3_1, w3_4, w3_7, w3_8, w3_11, w3_14, w3_15, w3_19, isO_put, Option.toList_some, List.cons_append, List.nil_append, true_and, and_true, or_true, ↓reduceIte, g0, g1, g2, ai1, ain1, ae1, ain1, n0, a1, a2, b1, b2, w1, w2, e4, d1, d2, q3, q4]
  rw [if_neg (fun h => h q4)]
  simp +decide only [w5_0, w5_1, w5_2, w5_5, w5_8, w5_9, w5_10, w5_13, w5_18, w5_19, w5_20, w5_23, w5_28, w5_29, w5_31, w5_32, w5_33, w5_34, w5_36, w5_37, w5_40, w5_42, w5_43, w5_48, w5_49, w5_52, w5_54, w5_59, w5_60, w5_63, w5_65, w5_66, w5_67, w5_68, w5_71, w5_73, w5_74, w5_75, w5_76, w5_77, w5_80, w5_81, w5_82, w5_85, w5_86, w5_89, w5_90, c2, w2_0, w2_1, w2_4, w2_5, w2_6, w2_9, w2_12, w2_13, w2_17, c3, w3_0, w3_1, w3_4, w3_7, w3_8, w3_11, w3_14, w3_15, w3_19, c4, w4_0, w4_1, w4_2, w4_5, w4_6, w4_7, w4_10, isO_put, isOw_put, okv_int, sI_uA, Option.toList_some, List.cons_append, List.nil_append, true_and, and_true, or_true, ↓reduceIte, g0, g1, s1, g2, g3, s4, s5, ai1, aw1, ain1, awn1, ae1, as1, aw2, as2, ain1, awn1, n0, a1, a2, b1, b2, w1, w2, e4, d1, d2, q3, q4]
theorem k6 (n0 : sI s 0 = Int32.ofNat n) (hn : n ≤ 24) (hu : u < 900) (hw : v < 900) : Cl (pj lw) 6 [.ref p, .int (Int32.ofNat u), .int (Int32.ofNat v)] (ob H p s) Q ↔ Q (some (.int (rmS s n u v).1)) (ob H p (rmS s n u v).2) := by
  obtain ⟨a1, a2, a3, -⟩ := un hu hn
  obtain ⟨b1, b2, b3, -⟩ := un hw hn
  rw [c6]; unfold rmS
  by_cases q1 : u < n
  rotate_left
  · have a3 := a3 q1
    simp +decide only [w6_0, w6_1, w6_2, w6_5, w6_16, w6_17, c2, w2_0, w2_1, w2_4, w2_5, w2_6, w2_9, w2_16, w2_17, isO_put, Option.toList_some, List.cons_append, List.nil_append, true_and, and_true, false_and, not_false_eq_true, ↓reduceIte, g0, n0, a1, a3, q1, not_false_eq_true, false_and]
  have a2 := a2 q1
  by_cases q2 : v < n
  rotate_left
  · have b3 := b3 q2
    simp +decide only [w6_0, w6_1, w6_2, w6_5, w6_8, w6_9, w6_10, w6_13, w6_16, w6_17, c2, w2_0, w2_1, w2_4, w2_5, w2_6, w2_9, w2_12, w2_13, w2_16, w2_17, isO_put, Option.toList_some, List.cons_append, List.nil_append, true_and, and_true, and_false, not_false_eq_true, ↓reduceIte, g0, n0, a1, a2, b1, b3, q1, q2, not_false_eq_true, and_false]
  have b2 := b2 q2
  obtain ⟨d1, d2⟩ := uvn (u := u) (v := v) (by omega) (by omega)
  have e4 := m24 (u := u) (v := v)
  rw [if_neg (fun h => h ⟨q1, q2⟩)]
  by_cases q3 : sA s 1 (u * 24 + v) = 0
  · rw [if_pos q3]
    simp +decide only [w6_0, w6_1, w6_2, w6_5, w6_8, w6_9, w6_10, w6_13, w6_18, w6_19, w6_21, w6_22, w6_23, w6_24, w6_25, w6_26, w6_29, w6_30, w6_31, w6_34, w6_35, c2, w2_0, w2_1, w2_4, w2_5, w2_6, w2_9, w2_12, w2_13, w2_17, isO_put, Option.toList_some, List.cons_append, List.nil_append, true_and, and_true, or_true, ↓reduceIte, g0, g2, ai1, ain1, ae1, ain1, n0, a1, a2, b1, b2, e4, d1, d2, q3]
  rw [if_neg q3]
  simp +decide only [w6_0, w6_1, w6_2, w6_5, w6_8, w6_9, w6_10, w6_13, w6_18, w6_19, w6_21, w6_22, w6_23, w6_24, w6_25, w6_26, w6_29, w6_30, w6_31, w6_36, w6_37, w6_40, w6_41, w6_42, w6_43, w6_44, w6_47, w6_48, w6_49, w6_50, w6_51, w6_52, w6_55, w6_56, w6_57, w6_60, w6_61, w6_64, w6_65, c2, w2_0, w2_1, w2_4, w2_5, w2_6, w2_9, w2_12, w2_13, w2_17, c4, w4_0, w4_1, w4_2, w4_5, w4_6, w4_7, w4_10, isO_put, isOw_put, okv_int, sI_uA, Option.toList_some, List.cons_append, List.nil_append, true_and, and_true, or_true, ↓reduceIte, g0, g1, s1, g2, g3, s4, s5, ai1, aw1, ain1, awn1, ae1, as1, aw2, as2, ain1, awn1, n0, a1, a2, b1, b2, e4, d1, d2, q3]
theorem k7 (n0 : sI s 0 = Int32.ofNat n) (hn : n ≤ 24) (hu : u < 900) (hw : v < 900) : Cl (pj lw) 7 [.ref p, .int (Int32.ofNat u), .int (Int32.ofNat v), .int w] (ob H p s) Q ↔ Q (some (.int (swS s n u v w).1)) (ob H p (swS s n u v w).2) := by
  obtain ⟨a1, a2, a3, -⟩ := un hu hn
  obtain ⟨b1, b2, b3, -⟩ := un hw hn
  rw [c7]; unfold swS
  by_cases q1 : u < n
  rotate_left
  · have a3 := a3 q1
    simp +decide only [w7_0, w7_1, w7_2, w7_5, w7_16, w7_17, c2, w2_0, w2_1, w2_4, w2_5, w2_6, w2_9, w2_16, w2_17, isO_put, Option.toList_some, List.cons_append, List.nil_append, true_and, and_true, false_and, not_false_eq_true, ↓reduceIte, g0, n0, a1, a3, q1, not_false_eq_true, false_and]
  have a2 := a2 q1
  by_cases q2 : v < n
  rotate_left
  · have b3 := b3 q2
    simp +decide only [w7_0, w7_1, w7_2, w7_5, w7_8, w7_9, w7_10, w7_13, w7_16, w7_17, c2, w2_0, w2_1, w2_4, w2_5, w2_6, w2_9, w2_12, w2_13, w2_16, w2_17, isO_put, Option.toList_some, List.cons_append, List.nil_append, true_and, and_true, and_false, not_false_eq_true, ↓reduceIte, g0, n0, a1, a2, b1, b3, q1, q2, not_false_eq_true, and_false]
  have b2 := b2 q2
  obtain ⟨d1, d2⟩ := uvn (u := u) (v := v) (by omega) (by omega)
  have e4 := m24 (u := u) (v := v)
  rw [if_neg (fun h => h ⟨q1, q2⟩)]
  by_cases w1 : w < -10000
  · rw [if_pos (Or.inl w1)]
    simp +decide only [w7_0, w7_1, w7_2, w7_5, w7_8, w7_9, w7_10, w7_13, w7_18, w7_19, w7_20, w7_23, w7_26, w7_27, c2, w2_0, w2_1, w2_4, w2_5, w2_6, w2_9, w2_12, w2_13, w2_17, c3, w3_0, w3_1, w3_4, w3_18, w3_19, isO_put, Option.toList_some, List.cons_append, List.nil_append, true_and, and_true, ↓reduceIte, g0, n0, a1, a2, b1, b2, w1]
  by_cases w2 : 10000 < w
  · rw [if_pos (Or.inr w2)]
    simp +decide only [w7_0, w7_1, w7_2, w7_5, w7_8, w7_9, w7_10, w7_13, w7_18, w7_19, w7_20, w7_23, w7_26, w7_27, c2, w2_0, w2_1, w2_4, w2_5, w2_6, w2_9, w2_12, w2_13, w2_17, c3, w3_0, w3_1, w3_4, w3_7, w3_8, w3_11, w3_18, w3_19, isO_put, Option.toList_some, List.cons_append, List.nil_append, true_and, and_true, ↓reduceIte, g0, n0, a1, a2, b1, b2, w1, w2]
  rw [if_neg (fun h => h.elim w1 w2)]
  by_cases q3 : sA s 1 (u * 24 + v) = 0
  · rw [if_pos q3]
    simp +decide only [w7_0, w7_1, w7_2, w7_5, w7_8, w7_9, w7_10, w7_13, w7_18, w7_19, w7_20, w7_23, w7_28, w7_29, w7_31, w7_32, w7_33, w7_34, w7_36, w7_37, w7_40, w7_42, w7_43, w7_46, w7_47, c2, w2_0, w2_1, w2_4, w2_5, w2_6, w2_9, w2_12, w2_13, w2_17, c3, w3_0, w3_1, w3_4, w3_7, w3_8, w3_11, w3_14, w3_15, w3_19, isO_put, Option.toList_some, List.cons_append, List.nil_append, true_and, and_true, or_true, ↓reduceIte, g0, g2, ai1, ain1, ae1, ain1, n0, a1, a2, b1, b2, w1, w2, e4, d1, d2, q3]
  rw [if_neg q3]
  simp +decide only [w7_0, w7_1, w7_2, w7_5, w7_8, w7_9, w7_10, w7_13, w7_18, w7_19, w7_20, w7_23, w7_28, w7_29, w7_31, w7_32, w7_33, w7_34, w7_36, w7_37, w7_40, w7_42, w7_43, w7_48, w7_49, w7_52, w7_54, w7_55, w7_56, w7_57, w7_60, w7_61, c2, w2_0, w2_1, w2_4, w2_5, w2_6, w2_9, w2_12, w2_13, w2_17, c3, w3_0, w3_1, w3_4, w3_7, w3_8, w3_11, w3_14, w3_15, w3_19, c4, w4_0, w4_1, w4_2, w4_5, w4_6, w4_7, w4_10, isO_put, isOw_put, Option.toList_some, List.cons_append, List.nil_append, true_and, and_true, or_true, ↓reduceIte, g0, g2, g3, s4, s5, ai1, ain1, ae1, aw2, as2, ain1, n0, a1, a2, b1, b2, w1, w2, e4, d1, d2, q3]
end Ww

section Xx
variable {lw : LW} {H : AH} {p : Nat} {s s' sa sb sa' sb' : St} {i j k m n u v t σ σ' L L' : Nat} {E T : Nat → Nat → Prop} {c c' : Nat → Nat → Int} {f g q q' : Nat → Nat} {N D N' D' sh : Int} {π φ π' φ' : Nat → Int} {ra rb : Int32}
theorem Wf.smc (e : ∀ u v, u < n → v < n → E u v → c u v = c' u v) : ∀ k : Nat, Wf n E f k → sm c f k = sm c' f k
  | 0, _ => rfl
  | k + 1, h => by rw [sm, sm, Wf.smc e k (h.le (by omega)), e _ _ (h.1 k (by omega)) (h.1 (k + 1) (by omega)) (h.2 k (by omega))]
theorem EX.cong (h : EX n E c π) (e : ∀ u v, u < n → v < n → E u v → c u v = c' u v) : EX n E c' π := by
  refine ⟨fun v => ⟨fun hv => ?_, (h.1 v).2⟩, fun f k hw => by rw [← hw.smc e k]; exact h.2 f k hw⟩
  obtain ⟨f, k, a1, a2, a3⟩ := (h.1 v).1 hv
  exact ⟨f, k, a1, a2, by rw [← a1.smc e k]; exact a3⟩
theorem EX.scale {a : Int} (ha : 0 ≤ a) (h : EX n E c π) : EX n E (fun u v => a * c u v) (fun v => a * π v) := by
  have e : ∀ f k, sm (fun u v => a * c u v) f k = a * sm c f k := fun f k => by
    have := sm_lin2 (a := 1) (b := a) (c' := fun u v => a * c u v) (c := c) (f := f) (fun u v => Int.one_mul _) k
    rw [Int.one_mul] at this; exact this
  refine ⟨fun v => ⟨fun hv => ?_, fun hv => ?_, ?_⟩, fun f k hw => ?_⟩
  · obtain ⟨f, k, a1, a2, a3⟩ := (h.1 v).1 hv
    exact ⟨f, k, a1, a2, by rw [e, a3]⟩
  · show a * π v = 0
    rw [(h.1 v).2.1 hv, Int.mul_zero]
  · have := Int.mul_le_mul_of_nonneg_left (h.1 v).2.2 ha
    rw [Int.mul_zero] at this; exact this
  · rw [e]; exact Int.mul_le_mul_of_nonneg_left (h.2 f k hw) ha
theorem sm_shift2 {a b κ : Int} (e : ∀ u v, u < n → v < n → E u v → a * c' u v = b * c u v + κ) : ∀ k : Nat, Wf n E f k → a * sm c' f k = b * sm c f k + κ * k
  | 0, _ => by simp [sm]
  | k + 1, h => by
    have r := sm_shift2 e k (h.le (by omega))
    have r2 := e _ _ (h.1 k (by omega)) (h.1 (k + 1) (by omega)) (h.2 k (by omega))
    rw [sm, sm, Int.mul_add, Int.mul_add, r, r2, Int.natCast_add, Int.mul_add]
    simp only [Int.natCast_one, Int.mul_one]; omega
theorem Fs.uniq (h : Fs n T σ) (g : Fs n T σ') : σ = σ' := by
  rcases Nat.lt_trichotomy σ σ' with w | w | w
  · exact absurd h.2.1 (g.2.2 _ w)
  · exact w
  · exact absurd g.2.1 (h.2.2 _ w)
theorem LN.uniq (h : LN n T σ L) (g : LN n T σ L') : L = L' := by
  obtain ⟨y, a1, a2, a3⟩ := h.2.1
  obtain ⟨z, b1, b2, b3⟩ := g.2.1
  have r1 := h.2.2 z _ b1 b2 b3
  have r2 := g.2.2 y _ a1 a2 a3
  have := h.1; have := g.1
  omega
theorem Sq.uniq (h : Sq n T σ L i q) (g : Sq n T σ L i q') : ∀ j, j < i → q j = q' j := fun j => by
  induction j with
  | zero => intro _; rw [h.1, g.1]
  | succ j ih =>
    intro hj
    have a := h.2 (j + 1) (by omega) hj
    have b := g.2 (j + 1) (by omega) hj
    rw [show j + 1 - 1 = j by omega] at a b
    rw [ih (by omega)] at a
    exact a.uniq b
theorem cyw_shift {w w' : Nat → Nat → Int} (e : ∀ i, i < L → w' (q' i) (q' ((i + 1) % L)) = w (q i) (q ((i + 1) % L)) + sh) : ∀ i, i ≤ L → cyw w' q' L i = cyw w q L i + i * sh := fun i => by
  induction i with
  | zero => intro _; simp [cyw]
  | succ i ih =>
    intro hi
    rw [cyw, cyw, ih (by omega), e i (by omega), Int.natCast_add, Int.add_mul]
    simp only [Int.natCast_one, Int.one_mul]; omega
theorem FA.shift (hE : gE sb = gE sa) (hw : ∀ u v, u < n → v < n → gE sa u v → gw sb u v = gw sa u v + sh) (A : FA sa sa' n N D π φ σ L q) (B : FA sb sb' n N' D' π' φ' σ' L' q') :
    L' = L ∧ (∀ j, j < L → q' j = q j) ∧ cyw (gw sb) q' L' L' = cyw (gw sa) q L L + L * sh ∧ φ' = φ ∧ ∀ v, TR n (tg (gE sb) (gw sb) D' N' π') v v ↔ TR n (tg (gE sa) (gw sa) D N π) v v := by
  obtain ⟨aD, aN, ⟨f, l, f1, f2, f3, f4, f5⟩, aX, aF, aL, aQ, aP, -⟩ := A
  obtain ⟨bD, bN, ⟨g, m, g1, g2, g3, g4, g5⟩, bX, bF, bL, bQ, bP, -⟩ := B
  rw [hE] at bN g3 bX bF bL bQ bP ⊢
  have key : ∀ u v, u < n → v < n → gE sa u v → D * (D' * gw sb u v - N') = D' * (D * gw sa u v - N) + (D * D' * sh - D * N' + D' * N) := fun u v hu hv he => by
    rw [hw u v hu hv he, Int.mul_add, Int.mul_sub, Int.mul_add, Int.mul_sub, Int.mul_left_comm D D' (gw sa u v), ← Int.mul_assoc D D' sh]; omega
  have κ0 : D * D' * sh - D * N' + D' * N = 0 := by
    generalize D * D' * sh - D * N' + D' * N = κ at key
    have r1 := sm_shift2 key l f3
    rw [f5, Int.mul_zero, Int.zero_add] at r1
    have r1' := Int.mul_nonneg (Int.le_of_lt aD.1) (bN f l f1 f3 f4)
    rw [r1] at r1'
    have r2 := sm_shift2 key m g3
    rw [g5, Int.mul_zero] at r2
    have r2' := Int.mul_nonneg (Int.le_of_lt bD.1) (aN g m g1 g3 g4)
    have c1 : 0 ≤ κ := by
      by_cases z : 0 ≤ κ
      · exact z
      · have := Int.mul_lt_mul_of_pos_right (show κ < 0 by omega) (show (0 : Int) < l by omega)
        rw [Int.zero_mul] at this; omega
    have c2 : κ ≤ 0 := by
      by_cases z : κ ≤ 0
      · exact z
      · have := Int.mul_pos (show 0 < κ by omega) (show (0 : Int) < m by omega)
        omega
    omega
  have key' : ∀ u v, u < n → v < n → gE sa u v → D * (D' * gw sb u v - N') = D' * (D * gw sa u v - N) := fun u v hu hv he => by rw [key u v hu hv he, κ0, Int.add_zero]
  have eπ := (bX.scale (a := D) (by omega)).cong (c' := fun u v => D' * (D * gw sa u v - N)) key'
  have eπ' := eπ.uniq (aX.scale (a := D') (by omega))
  have pv : ∀ v, D * π' v = D' * π v := fun v => congrFun eπ' v
  have tt : ∀ u v, u < n → v < n → (tg (gE sa) (gw sb) D' N' π' u v ↔ tg (gE sa) (gw sa) D N π u v) := fun u v hu hv => by
    unfold tg
    refine and_congr_right fun he => ?_
    have e1 := key' u v hu hv he
    have pu := pv u
    have pw := pv v
    constructor
    · intro h
      have h2 : D * (π' u + (D' * gw sb u v - N')) = D * π' v := by rw [h]
      rw [Int.mul_add, e1, pu, pw, ← Int.mul_add] at h2
      exact Int.eq_of_mul_eq_mul_left (by omega) h2
    · intro h
      have h2 : D' * (π u + (D * gw sa u v - N)) = D' * π v := by rw [h]
      rw [Int.mul_add, ← e1, ← pu, ← pw, ← Int.mul_add] at h2
      exact Int.eq_of_mul_eq_mul_left (by omega) h2
  have tr : ∀ v, TR n (tg (gE sa) (gw sb) D' N' π') v v ↔ TR n (tg (gE sa) (gw sa) D N π) v v := fun v => ⟨fun h => h.congr fun a b ha hb => (tt a b ha hb).1, fun h => h.congr fun a b ha hb => (tt a b ha hb).2⟩
  have bF' : Fs n (tg (gE sa) (gw sa) D N π) σ' := ⟨bF.1, (tr _).1 bF.2.1, fun v hv h => bF.2.2 v hv ((tr v).2 h)⟩
  obtain rfl := aF.uniq bF'
  obtain rfl := aL.uniq (bL.congr tt aF.1)
  have eq := aQ.uniq (bQ.congr tt aF.1)
  have arcs := aQ.arcs aL
  have l1 := aL.1
  have ec : cyw (gw sb) q' L L = cyw (gw sa) q L L + L * sh := cyw_shift (fun i hi => by
    have ml := Nat.mod_lt (i + 1) (show L > 0 by omega)
    rw [← eq i hi, ← eq _ ml]
    exact hw _ _ (aQ.lt aF.1 hi) (aQ.lt aF.1 ml) (arcs i hi).1) L (Nat.le_refl _)
  refine ⟨rfl, fun j hj => (eq j hj).symm, ec, ?_, tr⟩
  rw [ec] at bP
  refine (bP.cong fun u v hu hv he => ?_).uniq aP
  rw [hw u v hu hv he, Int.mul_add]; omega
def Sh (n : Nat) (sh : Int) (sa sb : St) : Prop := (cS sa ↔ cS sb) ∧ (cS sa → (sI sb 6 = sI sa 6 ∧ 1 ≤ (sI sa 6).toInt ∧ (sI sa 6).toInt ≤ n) ∧ (∃ C : Int, (-240000 ≤ C ∧ C ≤ 240000) ∧ sJ sa 7 = oi C ∧ sJ sb 7 = oi (C + (sI sa 6).toInt * sh)) ∧ (∀ j, j < 24 → sA sb 3 j = sA sa 3 j) ∧ (∀ v, v < n → sA sb 4 v = sA sa 4 v) ∧ ∀ v, v < 24 → sB sb 5 v = sB sa 5 v)
theorem SV.shift (G : GI sa n) (hE : gE sb = gE sa) (hw : ∀ u v, u < n → v < n → gE sa u v → gw sb u v = gw sa u v + sh) (A : SV sa sa' n ra) (B : SV sb sb' n rb) : rb = ra ∧ Sh n sh sa' sb' := by
  obtain ⟨-, a4, A⟩ := A
  obtain ⟨-, b4, B⟩ := B
  rcases A with ⟨rfl, a5, a6⟩ | ⟨rfl, a5, N, D, π, φ, σ, L, q, A⟩ <;> rcases B with ⟨rfl, b5, b6⟩ | ⟨rfl, b5, N', D', π', φ', σ', L', q', B⟩
  · have n1 : ¬ cS sa' := fun h => h.2 a5
    have n2 : ¬ cS sb' := fun h => h.2 b5
    exact ⟨rfl, ⟨fun h => absurd h n1, fun h => absurd h n2⟩, fun h => absurd h n1⟩
  · obtain ⟨-, -, ⟨f, l, f1, f2, f3, f4, -⟩, -⟩ := B
    rw [hE] at f3
    exact absurd f4 (a6 f l f1 f3)
  · obtain ⟨-, -, ⟨f, l, f1, f2, f3, f4, -⟩, -⟩ := A
    rw [hE] at b6
    exact absurd f4 (b6 f l f1 f3)
  · obtain ⟨e1, e2, e3, e4, e5⟩ := A.shift hE hw B
    have y1 : cS sa' := ⟨by rw [a4]; decide, by rw [a5]; decide⟩
    have y2 : cS sb' := ⟨by rw [b4]; decide, by rw [b5]; decide⟩
    obtain ⟨-, -, -, -, -, aL, -, -, ⟨a6, a7⟩, a8, a9, a10, a11, -⟩ := A
    obtain ⟨-, -, -, -, -, -, -, -, ⟨b6, b7⟩, b8, b9, b10, b11, -⟩ := B
    have lL := aL.1
    have hn := G.1.2
    have eL := (ofi (i := L) (by omega)).1
    have cB := cyw_b (q := q) (L := L) G.gb L
    refine ⟨rfl, ⟨fun _ => y2, fun _ => y1⟩, fun _ => ⟨⟨by rw [a6, b6, e1], by rw [a6, eL]; omega, by rw [a6, eL]; omega⟩, ⟨_, by omega, a7, by rw [b7, e3, a6, eL]⟩, fun j hj => ?_, fun v hv => ?_, fun v hv => by rw [a11 v hv, b11 v hv, e4]⟩⟩
    · by_cases z : j < L
      · rw [(a8 j z).2, (b8 j (by omega)).2, e2 j z]
      · rw [a9 j (by omega) hj, b9 j (by omega) hj]
    · have := e5 v
      rcases a10 v hv with ⟨x1, x2⟩ | ⟨x1, x2⟩ <;> rcases b10 v hv with ⟨z1, z2⟩ | ⟨z1, z2⟩
      · rw [x1, z1]
      · exact absurd (this.2 x2) z2
      · exact absurd (this.1 z2) x2
      · rw [x1, z1]
end Xx

section Yy
variable {lw : LW} {H : AH} {p q : Nat} {s s' sa sb sa' sb' s1 : St} {Q : Option Value → AH → Prop} {w : Int32} {i j k m n u v t : Nat} {lo hi sh : Int} {r : Int32}
theorem sc1 {a cc len p : Nat} {f : Nat → Int32} {s : St} (ha : a < p) : (isA (ob (H1 cc a len f) p s) a = true) = True ∧ alen (ob (H1 cc a len f) p s) a = len ∧ (∀ i, (inA (ob (H1 cc a len f) p s) a .int i = true) = (0 ≤ i.toInt ∧ i.toInt < len)) ∧ ∀ i, elt (ob (H1 cc a len f) p s) a i = .int (f i.toNatClampNeg) := by
  unfold ob
  refine ⟨?_, ?_, fun i => ?_, fun i => ?_⟩
  · rw [isA_ot (Or.inl ha), isA_H1]; exact eq_self _ ▸ rfl
  · rw [alen_ot (Or.inl ha), alen_H1]
  · rw [inA_ot (Or.inl ha)]; exact propext inA_H1
  · rw [elt_ot (Or.inl ha), elt_H1]
theorem H1_c {c N a len : Nat} {f : Nat → Int32} : (c, (H1 N a len f).2) = H1 c a len f := rfl
theorem cnt_set {f g : Nat → Bool} {x : Nat} : ∀ (k j : Nat), j ≤ x → x < j + k → f x = false → g x = true → (∀ i, i ≠ x → g i = f i) → cnt g j k = cnt f j k + 1
  | 0, j, h1, h2, _, _, _ => by omega
  | k + 1, j, h1, h2, hf, hg, h => by
    simp only [cnt]
    by_cases e : j = x
    · subst e
      rw [hf, hg, cnt_congr k (j + 1) fun i a _ => h i (by omega)]; simp; omega
    · rw [h j e, cnt_set k (j + 1) (by omega) (by omega) hf hg h]; omega
theorem cnt_succ {f : Nat → Bool} : ∀ (k j : Nat), cnt f j (k + 1) = cnt f j k + (if f (j + k) = true then 1 else 0)
  | 0, j => by simp only [cnt, Nat.add_zero]; omega
  | k + 1, j => by
    rw [cnt, cnt_succ k (j + 1), cnt, show j + 1 + k = j + (k + 1) by omega]; omega
def Iw (s : St) (n : Nat) (lo hi : Int) : Prop := ((sI s 0 = Int32.ofNat n ∧ 1 ≤ n ∧ n ≤ 24) ∧ sJ s 16 = 4000000000000000000) ∧ ∀ i, sA s 1 i ≠ 0 → i / 24 < n ∧ i % 24 < n ∧ lo ≤ (sA s 2 i).toInt ∧ (sA s 2 i).toInt ≤ hi
theorem Iw.gi (h : Iw s n lo hi) (h1 : -10000 ≤ lo) (h2 : hi ≤ 10000) : GI s n := ⟨h.1.1, h.1.2, fun i _ ha => by have := h.2 i ha; omega⟩
theorem Iw.of (h : Iw s n lo hi) (h0 : sI s' 0 = sI s 0) (h16 : sJ s' 16 = sJ s 16) (h1 : ∀ i, sA s' 1 i = sA s 1 i) (h2 : ∀ i, sA s' 2 i = sA s 2 i) : Iw s' n lo hi := by
  unfold Iw; rw [h0, h16]; exact ⟨h.1, fun i => by rw [h1, h2]; exact h.2 i⟩
theorem Iw.sv (h : Iw s n lo hi) (g : SV s s' n r) : Iw s' n lo hi := h.of g.1.2.2.1 g.1.2.2.2.2 g.1.1 g.1.2.1
theorem Iw.ad (h : Iw s n lo hi) (hw : (lo ≤ w.toInt ∧ w.toInt ≤ hi) ∨ w.toInt = 10001) : Iw (adS s n u v w).2 n lo hi := by
  have hn := h.1.1.2
  unfold adS
  by_cases q1 : u < n ∧ v < n
  rotate_left
  · rw [if_pos q1]; exact h
  rw [if_neg (fun z => z q1)]
  by_cases q2 : w < -10000 ∨ 10000 < w
  · rw [if_pos q2]; exact h
  rw [if_neg q2]
  split
  · exact h
  split
  · exact h
  have hw' : lo ≤ w.toInt ∧ w.toInt ≤ hi := hw.elim id fun e => absurd (Or.inr (by rw [lt32, e]; decide)) q2
  refine ⟨⟨by simp +decide only [sI_uI, sI_uA, if_false]; exact h.1.1, by simp only [sJ_uI, sJ_uA]; exact h.1.2⟩, fun i => ?_⟩
  simp only [sA_uI, sA_uA, Nat.reduceEqDiff, false_and, if_false, true_and]
  by_cases e : i = u * 24 + v
  · rw [if_pos e, if_pos e]; intro _
    exact ⟨by omega, by omega, hw'⟩
  · rw [if_neg e, if_neg e]; exact h.2 i
theorem Iw.rm (h : Iw s n lo hi) : Iw (rmS s n u v).2 n lo hi := by
  unfold rmS
  split
  · exact h
  split
  · exact h
  refine ⟨⟨by simp +decide only [sI_uI, sI_uA, if_false]; exact h.1.1, by simp only [sJ_uI, sJ_uA]; exact h.1.2⟩, fun i => ?_⟩
  simp only [sA_uI, sA_uA, Nat.reduceEqDiff, false_and, if_false, true_and]
  by_cases e : i = u * 24 + v
  · rw [if_pos e, if_pos e]; intro z; exact absurd rfl z
  · rw [if_neg e, if_neg e]; exact h.2 i
theorem Iw.sw (h : Iw s n lo hi) (hw : (lo ≤ w.toInt ∧ w.toInt ≤ hi) ∨ w.toInt = 10001) : Iw (swS s n u v w).2 n lo hi := by
  unfold swS
  split
  · exact h
  by_cases q2 : w < -10000 ∨ 10000 < w
  · rw [if_pos q2]; exact h
  rw [if_neg q2]
  split
  · exact h
  have hw' : lo ≤ w.toInt ∧ w.toInt ≤ hi := hw.elim id fun e => absurd (Or.inr (by rw [lt32, e]; decide)) q2
  refine ⟨⟨by simp +decide only [sI_uI, sI_uA, if_false]; exact h.1.1, by simp only [sJ_uI, sJ_uA]; exact h.1.2⟩, fun i => ?_⟩
  simp only [sA_uI, sA_uA, Nat.reduceEqDiff, false_and, if_false, true_and]
  by_cases e : i = u * 24 + v
  · rw [if_pos e]; intro z; have := h.2 i z; exact ⟨this.1, this.2.1, hw'⟩
  · rw [if_neg e]; exact h.2 i
def pr4 (s : St) (i : Nat) : Bool := decide (sA s 1 (i / 4 * 24 + i % 4) ≠ 0)
def Ct (s : St) : Prop := sI s 1 = Int32.ofNat (cnt (pr4 s) 0 16)
theorem Ct.of (h : Ct s) (h0 : sI s' 1 = sI s 1) (h1 : ∀ i, sA s' 1 i = sA s 1 i) : Ct s' := by
  have e : pr4 s' = pr4 s := by funext i; unfold pr4; rw [h1]
  unfold Ct; rw [h0, e]; exact h
theorem Ct.sv (h : Ct s) (g : SV s s' n r) : Ct s' := h.of g.1.2.2.2.1 g.1.1
theorem pr4_eq (hu : u < 4) (hv : v < 4) : pr4 s (4 * u + v) = decide (sA s 1 (u * 24 + v) ≠ 0) := by
  unfold pr4; rw [show (4 * u + v) / 4 = u by omega, show (4 * u + v) % 4 = v by omega]
theorem pr4_u {x y z : Int32} {a b c : Nat} : pr4 (uI (uI (uI s a x) b y) c z) = pr4 s := by funext i; unfold pr4; rw [sA_uI, sA_uI, sA_uI]
theorem Ct.ad (h : Ct s) : Ct (adS s 4 u v w).2 := by
  unfold adS
  by_cases q1 : u < 4 ∧ v < 4
  rotate_left
  · rw [if_pos q1]; exact h
  rw [if_neg (fun z => z q1)]
  split
  · exact h
  by_cases q3 : sA s 1 (u * 24 + v) = 0
  rotate_left
  · rw [if_pos q3]; exact h
  rw [if_neg (fun z => z q3)]
  split
  · exact h
  unfold Ct
  rw [pr4_u]
  simp +decide only [sI_uI, sI_uA, if_false, if_true]
  rw [h]
  have e := cnt_set (f := pr4 s) (g := pr4 (uA (uA s 1 (u * 24 + v) 1) 2 (u * 24 + v) w)) (x := 4 * u + v) 16 0 (by omega) (by omega) (by rw [pr4_eq q1.1 q1.2]; exact decide_eq_false (fun z => z q3)) (by rw [pr4_eq q1.1 q1.2]; simp [sA_uA]) (fun i hi => by
    unfold pr4; simp only [sA_uA, Nat.reduceEqDiff, false_and, if_false, true_and]
    rw [if_neg (by omega)])
  rw [e, ofs]
theorem Ct.rm (h : Ct s) : Ct (rmS s 4 u v).2 := by
  unfold rmS
  by_cases q1 : u < 4 ∧ v < 4
  rotate_left
  · rw [if_pos q1]; exact h
  rw [if_neg (fun z => z q1)]
  by_cases q3 : sA s 1 (u * 24 + v) = 0
  · rw [if_pos q3]; exact h
  rw [if_neg q3]
  unfold Ct
  rw [pr4_u]
  simp +decide only [sI_uI, sI_uA, if_false, if_true]
  rw [h]
  have e := cnt_set (g := pr4 s) (f := pr4 (uA (uA s 1 (u * 24 + v) 0) 2 (u * 24 + v) 0)) (x := 4 * u + v) 16 0 (by omega) (by omega) (by rw [pr4_eq q1.1 q1.2]; simp [sA_uA]) (by rw [pr4_eq q1.1 q1.2]; exact decide_eq_true q3) (fun i hi => by
    unfold pr4; simp only [sA_uA, Nat.reduceEqDiff, false_and, if_false, true_and]
    rw [if_neg (by omega)])
  rw [e, s1m]
theorem Ct.sw (h : Ct s) : Ct (swS s 4 u v w).2 := by
  unfold swS
  split
  · exact h
  split
  · exact h
  split
  · exact h
  exact h.of (by simp +decide only [sI_uI, sI_uA, if_false]) (fun i => by simp only [sA_uI, sA_uA, Nat.reduceEqDiff, false_and, if_false])
theorem Iw_ini {a : Int32} (hn : cl 1 24 a = Int32.ofNat n) (h1 : 1 ≤ n) (h2 : n ≤ 24) : Iw (ini0 a) n lo hi := by
  unfold ini0
  refine ⟨⟨⟨by rw [sI_uI, if_pos rfl]; exact hn, h1, h2⟩, by rw [sJ_uI, sJ_uJ, if_pos rfl]⟩, fun i hi => absurd ?_ hi⟩
  rw [sA_uI, sA_uJ]; rfl
theorem Ct_ini {a : Int32} : Ct (ini0 a) := by
  have e : pr4 (ini0 a) = fun _ => false := by
    funext i; unfold pr4 ini0; rw [sA_uI, sA_uJ]; rfl
  unfold Ct; rw [e, cnt_none 16 0 fun _ _ _ => rfl]
  unfold ini0; rw [sI_uI, if_neg (by decide), sI_uJ]; rfl
def Bk (s sb : St) (sh : Int32) (k : Nat) : Prop := (sI sb 0 = 4 ∧ sJ sb 16 = 4000000000000000000) ∧ (∀ i, sA sb 1 i ≠ 0 ↔ (i / 24 < 4 ∧ i % 24 < 4 ∧ i / 24 * 4 + i % 24 < k ∧ sA s 1 i ≠ 0)) ∧ (∀ i, sA sb 1 i ≠ 0 → sA sb 2 i = sA s 2 i + sh) ∧ sI sb 1 = Int32.ofNat (cnt (pr4 s) 0 k)
theorem Bk.skip {sh : Int32} (h : Bk s sb sh (4 * u + v)) (hu : u < 4) (hv : v < 4) (hz : sA s 1 (u * 24 + v) = 0) : Bk s sb sh (4 * u + v + 1) := by
  refine ⟨h.1, fun i => (h.2.1 i).trans ⟨fun g => ⟨g.1, g.2.1, by omega, g.2.2.2⟩, fun g => ⟨g.1, g.2.1, ?_, g.2.2.2⟩⟩, h.2.2.1, ?_⟩
  · have : i ≠ u * 24 + v := fun e => g.2.2.2 (by rw [e]; exact hz)
    omega
  · rw [h.2.2.2, cnt_succ, Nat.zero_add, pr4_eq hu hv, if_neg (by simp [hz])]; rfl
theorem Bk.add {sh : Int32} (h : Bk s sb sh (4 * u + v)) (hu : u < 4) (hv : v < 4) (hz : sA s 1 (u * 24 + v) ≠ 0) (h1 : -8 ≤ (sA s 2 (u * 24 + v)).toInt ∧ (sA s 2 (u * 24 + v)).toInt ≤ 7) (h2 : 0 ≤ sh.toInt ∧ sh.toInt ≤ 15) :
    (adS sb 4 u v (sA s 2 (u * 24 + v) + sh)).1 = 0 ∧ Bk s (adS sb 4 u v (sA s 2 (u * 24 + v) + sh)).2 sh (4 * u + v + 1) := by
  have e : (sA s 2 (u * 24 + v) + sh).toInt = (sA s 2 (u * 24 + v)).toInt + sh.toInt := ia (by omega) (by omega)
  have z : sA sb 1 (u * 24 + v) = 0 := by
    by_cases c : sA sb 1 (u * 24 + v) = 0
    · exact c
    · have := ((h.2.1 _).1 c).2.2.1; omega
  have c1 := cnt_le (f := pr4 s) (4 * u + v) 0
  unfold adS
  rw [if_neg (fun g => g ⟨hu, hv⟩), if_neg (by simp only [lt32, e, Int32.reduceToInt]; omega), if_neg (fun g => g z), if_neg (fun g => g (by rw [h.2.2.2, lt32, (ofi (i := cnt (pr4 s) 0 (4 * u + v)) (by omega)).1]; simp only [Int32.reduceToInt]; omega))]
  refine ⟨rfl, ⟨by simp +decide only [sI_uI, sI_uA, if_false]; exact h.1.1, by simp only [sJ_uI, sJ_uA]; exact h.1.2⟩, fun i => ?_, fun i => ?_, ?_⟩
  · simp only [sA_uI, sA_uA, Nat.reduceEqDiff, false_and, if_false, true_and]
    by_cases q : i = u * 24 + v
    · rw [if_pos q]; exact ⟨fun _ => ⟨by omega, by omega, by omega, by rw [q]; exact hz⟩, fun _ => by decide⟩
    · rw [if_neg q]; exact (h.2.1 i).trans ⟨fun g => ⟨g.1, g.2.1, by omega, g.2.2.2⟩, fun g => ⟨g.1, g.2.1, by omega, g.2.2.2⟩⟩
  · simp only [sA_uI, sA_uA, Nat.reduceEqDiff, false_and, if_false, true_and]
    by_cases q : i = u * 24 + v
    · rw [if_pos q, if_pos q, q]; exact fun _ => rfl
    · rw [if_neg q, if_neg q]; exact h.2.2.1 i
  · simp +decide only [sI_uI, sI_uA, if_false, if_true]
    rw [h.2.2.2, cnt_succ, Nat.zero_add, pr4_eq hu hv, if_pos (by simp [hz]), ofs]
theorem Bk.fin {sh : Int32} (h : Bk s sb sh 16) (hI : Iw s 4 (-8) 7) (h2 : 0 ≤ sh.toInt ∧ sh.toInt ≤ 15) : Iw sb 4 (-8) 22 ∧ gE sb = gE s ∧ (∀ u v, u < 4 → v < 4 → gE s u v → gw sb u v = gw s u v + sh.toInt) ∧ (∀ i, (sA sb 1 i ≠ 0 ↔ sA s 1 i ≠ 0) ∧ (sA s 1 i ≠ 0 → (sA sb 2 i).toInt = (sA s 2 i).toInt + sh.toInt)) := by
  have a : ∀ i, sA sb 1 i ≠ 0 ↔ sA s 1 i ≠ 0 := fun i => (h.2.1 i).trans ⟨fun g => g.2.2.2, fun g => by have := hI.2 i g; exact ⟨this.1, this.2.1, by omega, g⟩⟩
  have b : ∀ i, sA s 1 i ≠ 0 → (sA sb 2 i).toInt = (sA s 2 i).toInt + sh.toInt := fun i hi => by
    have := hI.2 i hi
    rw [h.2.2.1 i ((a i).2 hi)]; exact ia (by omega) (by omega)
  refine ⟨⟨⟨⟨h.1.1, by omega, by omega⟩, h.1.2⟩, fun i hi => ?_⟩, ?_, fun u v hu hv he => ?_, fun i => ⟨a i, b i⟩⟩
  · have g := (a i).1 hi
    have := hI.2 i g
    rw [b i g]; omega
  · funext u v; unfold gE; exact propext (a _)
  · unfold gE at he
    unfold gw; rw [if_pos ⟨(a _).2 he, by omega, by omega⟩, if_pos ⟨he, by omega, by omega⟩]; exact b _ he
theorem Sh.cl (h : Sh n sh sa sb) : (if cS sb then sI sb 6 else 0) = (if cS sa then sI sa 6 else 0) := by
  by_cases q : cS sa
  · rw [if_pos q, if_pos (h.1.1 q), (h.2 q).1.1]
  · rw [if_neg q, if_neg (fun z => q (h.1.2 z))]
theorem Sh.cw {z : Int32} (h : Sh n sh sa sb) (e : z.toInt = sh) : (if cS sb then sJ sb 7 else 0) = (if cS sa then sJ sa 7 else 0) + (if cS sa then sI sa 6 else 0).toInt64 * z.toInt64 := by
  by_cases q : cS sa
  · obtain ⟨C, -, c1, c2⟩ := (h.2 q).2.1
    rw [if_pos q, if_pos (h.1.1 q), if_pos q, c1, c2, oi_32, oi_32, oi_mul, oi_add, e]
  · rw [if_neg q, if_neg (fun z => q (h.1.2 z)), if_neg q]
    rw [show (0 : Int32).toInt64 = 0 from rfl, Int64.zero_mul]; rfl
theorem Sh.cv (h : Sh n sh sa sb) (hi : i < 24) : cV sb i = cV sa i := by
  unfold cV
  by_cases q : cS sa
  · have q' := h.1.1 q
    simp only [q, q', true_and]; rw [(h.2 q).1.1, (h.2 q).2.2.1 i hi]
  · have q' : ¬ cS sb := fun z => q (h.1.2 z)
    simp only [q, q', false_and, if_false]
theorem Sh.ic (h : Sh n sh sa sb) : iC sb n v = iC sa n v := by
  unfold iC
  by_cases q : cS sa
  · have q' := h.1.1 q
    simp only [q, q', true_and]
    by_cases z : v < n
    · rw [(h.2 q).2.2.2.1 v z]
    · simp only [z, false_and, if_false]
  · have q' : ¬ cS sb := fun z => q (h.1.2 z)
    simp only [q, q', false_and, if_false]
theorem Sh.pt (h : Sh n sh sa sb) (hn : n ≤ 24) : Pj.pt sb n v = Pj.pt sa n v := by
  unfold Pj.pt
  by_cases q : cS sa
  · have q' := h.1.1 q
    simp only [q, q', true_and]
    by_cases z : v < n
    · rw [(h.2 q).2.2.2.2 v (by omega)]
    · simp only [z, if_false]
  · have q' : ¬ cS sb := fun z => q (h.1.2 z)
    simp only [q, q', false_and, if_false]
theorem Sh.rc (h : Sh n sh sa sb) (hn : n ≤ 24) (ha : ∀ i, (sA sb 1 i ≠ 0 ↔ sA sa 1 i ≠ 0) ∧ (sA sa 1 i ≠ 0 → (sA sb 2 i).toInt = (sA sa 2 i).toInt + sh)) : rC sb n u v = rC sa n u v := by
  unfold rC
  by_cases q : cS sa
  · have q' := h.1.1 q
    simp only [q, q', true_and]
    by_cases z : u < n ∧ v < n ∧ sA sa 1 (u * 24 + v) ≠ 0
    · have z' : u < n ∧ v < n ∧ sA sb 1 (u * 24 + v) ≠ 0 := ⟨z.1, z.2.1, (ha _).1.2 z.2.2⟩
      obtain ⟨C, -, c1, c2⟩ := (h.2 q).2.1
      rw [if_pos z, if_pos z', c1, c2, (h.2 q).1.1, (h.2 q).2.2.2.2 u (by omega), (h.2 q).2.2.2.2 v (by omega), oi_32, oi_32, oi_32, (ha _).2 z.2.2, oi_mul, oi_mul, oi_sub, oi_sub, Int.mul_add]
      rw [show ∀ a b c : Int, a + b - (c + b) = a - c from fun a b c => by omega]
    · rw [if_neg z, if_neg (fun g => z ⟨g.1, g.2.1, (ha _).1.1 g.2.2⟩)]
  · have q' : ¬ cS sb := fun z => q (h.1.2 z)
    simp only [q, q', false_and, if_false]
end Yy

section Zz
variable {s s' t : St} {R : Int32} {X : Nat} {i j k n u v L σ : Nat} {T E : Nat → Nat → Prop} {q : Nat → Nat} {C : Int} {φ : Nat → Int}
def RS (s s' : St) (n L : Nat) (q : Nat → Nat) (C : Int) (φ : Nat → Int) : Prop :=
  ((1 ≤ L ∧ L ≤ n) ∧ sI s' 6 = Int32.ofNat L ∧ (-240000 ≤ C ∧ C ≤ 240000) ∧ sJ s' 7 = oi C) ∧ (∀ j, j < L → q j < n ∧ sA s' 3 j = Int32.ofNat (q j)) ∧ (∀ i j, i < L → j < L → q i = q j → i = j) ∧ (∀ i, i < L → gE s (q i) (q ((i + 1) % L))) ∧ C = cyw (gw s) q L L ∧
  (∀ i, i < L → sA s' 4 (q i) = 1) ∧ (∀ v, v < q 0 → sA s' 4 v = 0) ∧ (∀ v, v < 24 → sB s' 5 v = oi (φ v)) ∧ (∀ v, -72000000 ≤ φ v ∧ φ v ≤ 0) ∧ (∀ u v, u < n → v < n → gE s u v → 0 ≤ (L : Int) * gw s u v - C + φ u - φ v) ∧ cS s'
theorem Sq.di (hσ : σ < n) (h : Sq n T σ L L q) (hj : j < L) : ∃ d, DI n T σ (q j) d ∧ (d + j = L ∨ (d = 0 ∧ j = 0)) := by
  by_cases e : j = 0
  · subst e
    refine ⟨0, ?_, Or.inr ⟨rfl, rfl⟩⟩
    rw [h.1]
    exact ⟨⟨fun _ => σ, ⟨fun _ _ => hσ, fun i hi => absurd hi (by omega)⟩, rfl, rfl⟩, fun _ _ _ _ _ => Nat.zero_le _⟩
  · exact ⟨L - j, (h.2 j (by omega) hj).2.1.2, Or.inl (by omega)⟩
theorem Sq.inj (hσ : σ < n) (h : Sq n T σ L L q) (hi : i < L) (hj : j < L) (e : q i = q j) : i = j := by
  obtain ⟨d, d1, d2⟩ := h.di hσ hi
  obtain ⟨d', e1, e2⟩ := h.di hσ hj
  rw [e] at d1
  have := d1.uniq e1
  omega
theorem rot (h1 : 1 ≤ L) (hq : ∀ i, i < L → q i < n) (ha : ∀ i, i < L → T (q i) (q ((i + 1) % L))) (hi : i < L) : TR n T (q i) (q i) := by
  have ml : ∀ t, t % L < L := fun t => Nat.mod_lt t (by omega)
  refine ⟨fun t => q ((i + t) % L), L, h1, ⟨fun t _ => hq _ (ml _), fun t _ => ?_⟩, ?_, ?_⟩
  · have := ha ((i + t) % L) (ml _)
    rw [Nat.mod_add_mod, Nat.add_assoc] at this; exact this
  · show q ((i + 0) % L) = q i
    rw [Nat.add_zero, Nat.mod_eq_of_lt hi]
  · show q ((i + L) % L) = q i
    rw [Nat.add_mod_right, Nat.mod_eq_of_lt hi]
theorem SV.cyc (G : GI s n) (h : SV s s' n 1) : ∃ L q C φ, RS s s' n L q C φ := by
  obtain ⟨-, a4, A⟩ := h
  rcases A with ⟨w, -⟩ | ⟨-, a5, N, D, π, φ, σ, L, q, A⟩
  · exact absurd w (by decide)
  obtain ⟨-, -, -, -, aF, aL, aQ, aX, ⟨a6, a7⟩, a8, a9, a10, a11, a12⟩ := A
  have hn := G.1.2
  have hL := aL.1
  have cB := cyw_b (q := q) (L := L) G.gb L
  have arcs := aQ.arcs aL
  refine ⟨L, q, _, φ, ⟨hL, a6, by omega, a7⟩, a8, fun i j hi hj e => aQ.inj aF.1 hi hj e, fun i hi => (arcs i hi).1, rfl, fun i hi => ?_, fun v hv => ?_, a11, a12, fun u v hu hv he => ?_, ⟨by rw [a4]; decide, by rw [a5]; decide⟩⟩
  · rcases a10 (q i) (a8 i hi).1 with w | w
    · exact w.1
    · exact absurd (rot hL.1 (fun i hi => (a8 i hi).1) arcs hi) w.2
  · have hσ : q 0 = σ := aQ.1
    rw [hσ] at hv
    rcases a10 v (by have := aF.1; omega) with w | w
    · exact absurd w.2 (aF.2.2 v hv)
    · exact w.1
  · have := aX.fe u v hu hv he
    omega
theorem SV.ac (h : SV s s' n 0) : sI s' 4 = 1 ∧ ¬ cS s' ∧ ∀ f k, 1 ≤ k → Wf n (gE s) f k → f 0 ≠ f k := by
  obtain ⟨-, a4, A⟩ := h
  rcases A with ⟨-, a5, a6⟩ | ⟨w, -⟩
  · exact ⟨a4, fun z => z.2 a5, a6⟩
  · exact absurd w (by decide)
theorem SV.r {r : Int32} (h : SV s s' n r) : r = 0 ∨ r = 1 := by
  rcases h.2.2 with ⟨w, -⟩ | ⟨w, -⟩
  · exact Or.inl w
  · exact Or.inr w
theorem RS.cl (h : RS s s' n L q C φ) : ∃ f k, 1 ≤ k ∧ Wf n (gE s) f k ∧ f 0 = f k := by
  obtain ⟨f, k, a1, a2, a3, a4⟩ := rot h.1.1.1 (fun i hi => (h.2.1 i hi).1) h.2.2.2.1 (i := 0) (by have := h.1.1.1; omega)
  exact ⟨f, k, a1, a2, by rw [a3, a4]⟩
theorem back {P : Nat → Prop} (hP : ∀ v, P v → v < n) (h : ∀ v, P v → ∃ u, P u ∧ E u v) (hv : P v) : ∃ f k, 1 ≤ k ∧ Wf n E f k ∧ f 0 = f k := by
  have ch : ∃ pd : Nat → Nat, ∀ v, P v → P (pd v) ∧ E (pd v) v := by
    have hx : ∀ v, ∃ u, P v → P u ∧ E u v := fun v => by
      by_cases z : P v
      · obtain ⟨u, hu⟩ := h v z; exact ⟨u, fun _ => hu⟩
      · exact ⟨0, fun w => absurd w z⟩
    exact ⟨fun v => Classical.choose (hx v), fun v => Classical.choose_spec (hx v)⟩
  obtain ⟨pd, hpd⟩ := ch
  let g : Nat → Nat := fun t => Nat.rec v (fun _ x => pd x) t
  have gP : ∀ t, P (g t) := fun t => by
    induction t with
    | zero => exact hv
    | succ t ih => exact (hpd _ ih).1
  have gE : ∀ t, E (g (t + 1)) (g t) := fun t => (hpd _ (gP t)).2
  obtain ⟨i, j, h1, h2, h3⟩ := phn n g fun i _ => hP _ (gP i)
  refine ⟨fun t => g (j - t), j - i, by omega, ⟨fun t _ => hP _ (gP _), fun t ht => ?_⟩, ?_⟩
  · show E (g (j - t)) (g (j - (t + 1)))
    have := gE (j - (t + 1))
    rw [show j - (t + 1) + 1 = j - t by omega] at this; exact this
  · show g (j - 0) = g (j - (j - i))
    rw [Nat.sub_zero, show j - (j - i) = i by omega, h3]
theorem bt_and {R' : Int32} : bt (R &&& R') X = (bt R X && bt R' X) := by unfold bt; rw [Int32.toBitVec_and, BitVec.getLsbD_and]
theorem bt_not (h : X < 32) : bt (R ^^^ (-1)) X = !bt R X := by
  unfold bt; rw [Int32.toBitVec_xor, BitVec.getLsbD_xor]
  have : ((-1 : Int32).toBitVec).getLsbD X = true := by
    have key : ∀ j : Fin 32, ((-1 : Int32).toBitVec).getLsbD j.val = true := by decide +kernel
    exact key ⟨X, h⟩
  rw [this]; simp
theorem bt_hi (h : 32 ≤ X) : bt R X = false := by unfold bt; exact BitVec.getLsbD_of_ge _ _ h
theorem clr (h : k < 32) : bt (R &&& (((1 : Int32) <<< (Int32.ofNat k &&& 31)) ^^^ (-1))) X = (bt R X && !decide (X = k)) := by
  by_cases e : X < 32
  · rw [bt_and, bt_not e, bt_1 h]
  · rw [bt_hi (by omega), bt_hi (R := R) (by omega)]; rfl
theorem RS.cv (h : RS t t n L q C φ) (hi : i < L) (hn : n ≤ 24) : cV t i = Int32.ofNat (q i) := by
  unfold cV; rw [if_pos ⟨h.2.2.2.2.2.2.2.2.2.2, by rw [h.1.2.1, lt32, (ofi (i := i) (by have := h.1.1; omega)).1, (ofi (i := L) (by have := h.1.1; omega)).1]; omega⟩]
  exact (h.2.1 i hi).2
theorem RS.cvL (h : RS t t n L q C φ) : cV t L = -1 := by
  unfold cV; rw [if_neg (fun z => by have := z.2; rw [h.1.2.1, lt32] at this; omega)]
theorem RS.ic (h : RS t t n L q C φ) (hi : i < L) : iC t n (q i) = 1 := by
  unfold iC; rw [if_pos ⟨h.2.2.2.2.2.2.2.2.2.2, (h.2.1 i hi).1, by rw [h.2.2.2.2.2.1 i hi]; decide⟩]
theorem RS.pt (h : RS t t n L q C φ) (hv : v < n) (hn : n ≤ 24) : Pj.pt t n v = oi (φ v) := by
  unfold Pj.pt; rw [if_pos ⟨h.2.2.2.2.2.2.2.2.2.2, hv⟩]; exact h.2.2.2.2.2.2.2.1 v (by omega)
theorem hg1 (hu : u < n) (hv : v < n) (hn : n ≤ 24) (he : gE t u v) : Pj.hv t n u v = 1 ∧ (gv t n u v).toInt64 = oi (gw t u v) := by
  unfold Pj.hv gv gw gE at *
  rw [if_pos ⟨hu, hv, he⟩, if_pos ⟨hu, hv, he⟩, if_pos ⟨he, by omega, by omega⟩]; exact ⟨rfl, oi_32⟩
theorem RS.rc (h : RS t t n L q C φ) (hu : u < n) (hv : v < n) (hn : n ≤ 24) (he : gE t u v) : rC t n u v = oi ((L : Int) * gw t u v - C + φ u - φ v) := by
  have e := (hg1 hu hv hn he).2
  unfold rC; rw [if_pos ⟨h.2.2.2.2.2.2.2.2.2.2, hu, hv, he⟩, h.1.2.1, h.1.2.2.2, h.2.2.2.2.2.2.2.1 u (by omega), h.2.2.2.2.2.2.2.1 v (by omega)]
  unfold gv at e; rw [if_pos ⟨hu, hv, he⟩] at e
  rw [e, oi_32, (ofi (i := L) (by have := h.1.1; omega)).1, oi_mul, oi_sub, oi_add, oi_sub]
theorem RS.self (h : RS s s' n L q C φ) (e1 : gE s' = gE s) (e2 : gw s' = gw s) : RS s' s' n L q C φ := by unfold RS at *; rw [e1, e2]; exact h
end Zz

end Jvm.JX.Pj
namespace Jvm.JX.Lw
open Jvm Jvm.ClassFile Sem Op Lib Jvm.JX Jvm.JX.Pj
def lr0 : List Row := [(0, .new 7, 3, 21), (3, .dup, 1, 0), (4, .iconst 4, 1, 0), (5, .invokespecial 9, 3, 1), (8, .astore_n 1, 1, 0), (9, .aload_n 1, 1, 0), (10, .invokevirtual 12, 3, 11), (13, .iconst 4, 1, 0), (14, .if_icmp .ne 15, 3, 0), (17, .aload_n 1, 1, 0), (18, .iconst 0, 1, 0), (19, .lconst 0, 1, 0), (20, .iconst 0, 1, 0), (21, .iconst 0, 1, 0), (22, .iconst 0, 1, 0), (23, .invokestatic 16, 3, 103), (26, .ifCond .ne 5, 3, 0), (29, .iconst 0, 1, 0), (30, .ireturn, 1, 0), (31, .iconst 0, 1, 0), (32, .istore_n 2, 1, 0), (33, .lconst 0, 1, 0), (34, .lstore_n 3, 1, 0), (35, .iconst 0, 1, 0), (36, .istore 5, 2, 0), (38, .iconst 0, 1, 0), (39, .istore 6, 2, 0), (41, .iconst 0, 1, 0), (42, .istore 7, 2, 0), (44, .iconst 0, 1, 0), (45, .istore 8, 2, 0), (47, .iload 8, 2, 0), (49, .iconst 3, 1, 0), (50, .iadd, 1, 0), (51, .aload_n 0, 1, 0), (52, .arraylength, 1, 0), (53, .if_icmp .ge 421, 3, 0), (56, .aload_n 0, 1, 0), (57, .iload 8, 2, 0), (59, .iaload, 1, 0), (60, .iconst 3, 1, 0), (61, .iand, 1, 0), (62, .istore 9, 2, 0), (64, .aload_n 0, 1, 0), (65, .iload 8, 2, 0), (67, .iconst 1, 1, 0), (68, .iadd, 1, 0), (69, .iaload, 1, 0), (70, .ldc 22, 2, 2147483647), (72, .iand, 1, 0), (73, .iconst 5, 1, 0), (74, .irem, 1, 0), (75, .istore 10, 2, 0), (77, .aload_n 0, 1, 0), (78, .iload 8, 2, 0), (80, .iconst 2, 1, 0), (81, .iadd, 1, 0), (82, .iaload, 1, 0), (83, .ldc 22, 2, 2147483647), (85, .iand, 1, 0), (86, .iconst 5, 1, 0), (87, .irem, 1, 0), (88, .istore 11, 2, 0), (90, .aload_n 0, 1, 0), (91, .iload 8, 2, 0), (93, .iconst 3, 1, 0), (94, .iadd, 1, 0), (95, .iaload, 1, 0), (96, .bipush 15, 2, 0), (98, .iand, 1, 0), (99, .bipush 8, 2, 0), (101, .isub, 1, 0), (102, .istore 12, 2, 0), (104, .aload_n 0, 1, 0), (105, .iload 8, 2, 0), (107, .iconst 3, 1, 0), (108, .iadd, 1, 0), (109, .iaload, 1, 0), (110, .bipush 112, 2, 0), (112, .iand, 1, 0), (113, .bipush 112, 2, 0), (115, .if_icmp .ne 8, 3, 0), (118, .sipush 10001, 3, 0), (121, .istore 12, 2, 0), (123, .iload 10, 2, 0), (125, .iconst 4, 1, 0), (126, .if_icmp .ge 13, 3, 0), (129, .iload 11, 2, 0), (131, .iconst 4, 1, 0), (132, .if_icmp .ge 7, 3, 0), (135, .iconst 1, 1, 0), (136, .goto 4, 3, 0), (139, .iconst 0, 1, 0), (140, .istore 13, 2, 0), (142, .iload 13, 2, 0), (144, .ifCond .eq 13, 3, 0), (147, .iconst 4, 1, 0), (148, .iload 10, 2, 0), (150, .imul, 1, 0), (151, .iload 11, 2, 0), (153, .iadd, 1, 0), (154, .goto 4, 3, 0), (157, .iconst 0, 1, 0), (158, .istore 14, 2, 0), (160, .iload 13, 2, 0), (162, .ifCond .eq 16, 3, 0), (165, .iload_n 2, 1, 0), (166, .iload 14, 2, 0), (168, .ishr, 1, 0), (169, .iconst 1, 1, 0), (170, .iand, 1, 0), (171, .ifCond .eq 7, 3, 0), (174, .iconst 1, 1, 0), (175, .goto 4, 3, 0), (178, .iconst 0, 1, 0), (179, .istore 15, 2, 0), (181, .iload 12, 2, 0), (183, .sipush 10000, 3, 0), (186, .if_icmp .gt 7, 3, 0), (189, .iconst 1, 1, 0), (190, .goto 4, 3, 0), (193, .iconst 0, 1, 0), (194, .istore 16, 2, 0), (196, .iload 9, 2, 0), (198, .ifCond .ne 48, 3, 0), (201, .aload_n 1, 1, 0), (202, .iload 10, 2, 0), (204, .iload 11, 2, 0), (206, .iload 12, 2, 0), (208, .invokevirtual 23, 3, 5), (211, .istore 17, 2, 0), (213, .iload 13, 2, 0), (215, .ifCond .ne 7, 3, 0), (218, .iconst 1, 1, 0), (219, .goto 22, 3, 0), (222, .iload 16, 2, 0), (224, .ifCond .ne 7, 3, 0), (227, .iconst 2, 1, 0), (228, .goto 13, 3, 0), (231, .iload 15, 2, 0), (233, .ifCond .eq 7, 3, 0), (236, .iconst 3, 1, 0), (237, .goto 4, 3, 0), (240, .iconst 0, 1, 0), (241, .istore 18, 2, 0), (243, .goto 130, 3, 0), (246, .iload 9, 2, 0), (248, .iconst 1, 1, 0), (249, .if_icmp .ne 37, 3, 0), (252, .aload_n 1, 1, 0), (253, .iload 10, 2, 0), (255, .iload 11, 2, 0), (257, .invokevirtual 27, 3, 6), (260, .istore 17, 2, 0), (262, .iload 13, 2, 0), (264, .ifCond .ne 7, 3, 0), (267, .iconst 1, 1, 0), (268, .goto 13, 3, 0), (271, .iload 15, 2, 0), (273, .ifCond .ne 7, 3, 0), (276, .iconst 4, 1, 0), (277, .goto 4, 3, 0), (280, .iconst 0, 1, 0), (281, .istore 18, 2, 0), (283, .goto 90, 3, 0), (286, .iload 9, 2, 0), (288, .iconst 2, 1, 0), (289, .if_icmp .ne 48, 3, 0), (292, .aload_n 1, 1, 0), (293, .iload 10, 2, 0), (295, .iload 11, 2, 0), (297, .iload 12, 2, 0), (299, .invokevirtual 31, 3, 7), (302, .istore 17, 2, 0), (304, .iload 13, 2, 0), (306, .ifCond .ne 7, 3, 0), (309, .iconst 1, 1, 0), (310, .goto 22, 3, 0), (313, .iload 16, 2, 0), (315, .ifCond .ne 7, 3, 0), (318, .iconst 2, 1, 0), (319, .goto 13, 3, 0), (322, .iload 15, 2, 0), (324, .ifCond .ne 7, 3, 0), (327, .iconst 4, 1, 0), (328, .goto 4, 3, 0), (331, .iconst 0, 1, 0), (332, .istore 18, 2, 0), (334, .goto 39, 3, 0), (337, .aload_n 1, 1, 0), (338, .invokevirtual 34, 3, 12), (341, .istore 17, 2, 0), (343, .iload_n 2, 1, 0), (344, .invokestatic 37, 3, 108), (347, .ifCond .eq 7, 3, 0), (350, .iconst 1, 1, 0), (351, .goto 4, 3, 0), (354, .iconst 0, 1, 0), (355, .istore 18, 2, 0), (357, .iconst 1, 1, 0), (358, .istore 6, 2, 0), (360, .iload 17, 2, 0), (362, .iconst 1, 1, 0), (363, .if_icmp .ne 7, 3, 0), (366, .iconst 1, 1, 0), (367, .goto 4, 3, 0), (370, .iconst 0, 1, 0), (371, .istore 7, 2, 0), (373, .iload 17, 2, 0), (375, .iload 18, 2, 0), (377, .if_icmp .eq 5, 3, 0), (380, .iconst 0, 1, 0), (381, .ireturn, 1, 0), (382, .iload 9, 2, 0), (384, .iconst 3, 1, 0), (385, .if_icmp .ge 66, 3, 0), (388, .iload 18, 2, 0), (390, .ifCond .ne 61, 3, 0), (393, .iconst 0, 1, 0), (394, .istore 6, 2, 0), (396, .iconst 0, 1, 0), (397, .istore 7, 2, 0), (399, .iload 9, 2, 0), (401, .ifCond .ne 13, 3, 0), (404, .iload_n 2, 1, 0), (405, .iconst 1, 1, 0), (406, .iload 14, 2, 0), (408, .ishl, 1, 0), (409, .ior, 1, 0), (410, .istore_n 2, 1, 0), (411, .iinc 5 1, 3, 0), (414, .iload 9, 2, 0), (416, .iconst 1, 1, 0), (417, .if_icmp .ne 15, 3, 0), (420, .iload_n 2, 1, 0), (421, .iconst 1, 1, 0), (422, .iload 14, 2, 0), (424, .ishl, 1, 0), (425, .iconst (-1), 1, 0), (426, .ixor, 1, 0), (427, .iand, 1, 0), (428, .istore_n 2, 1, 0), (429, .iinc 5 (-1), 3, 0), (432, .lload_n 3, 1, 0), (433, .iload 14, 2, 0), (435, .iload 9, 2, 0), (437, .iconst 1, 1, 0), (438, .if_icmp .ne 7, 3, 0), (441, .iconst 0, 1, 0), (442, .goto 5, 3, 0), (445, .iload 12, 2, 0), (447, .invokestatic 41, 3, 106), (450, .lstore_n 3, 1, 0), (451, .aload_n 1, 1, 0), (452, .iload_n 2, 1, 0), (453, .lload_n 3, 1, 0), (454, .iload 5, 2, 0), (456, .iload 7, 2, 0), (458, .iload 6, 2, 0), (460, .invokestatic 16, 3, 103), (463, .ifCond .ne 5, 3, 0), (466, .iconst 0, 1, 0), (467, .ireturn, 1, 0), (468, .iinc 8 4, 3, 0), (471, .goto (-424), 3, 0), (474, .iconst 1, 1, 0), (475, .ireturn, 1, 0)]
def lr3 : List Row := [(0, .aload_n 0, 1, 0), (1, .invokevirtual 45, 3, 10), (4, .iload 4, 2, 0), (6, .if_icmp .ne 12, 3, 0), (9, .aload_n 0, 1, 0), (10, .invokevirtual 48, 3, 22), (13, .iload 6, 2, 0), (15, .if_icmp .eq 5, 3, 0), (18, .iconst 0, 1, 0), (19, .ireturn, 1, 0), (20, .aload_n 0, 1, 0), (21, .invokevirtual 52, 3, 24), (24, .istore 7, 2, 0), (26, .aload_n 0, 1, 0), (27, .invokevirtual 55, 3, 25), (30, .lstore 8, 2, 0), (32, .iload 5, 2, 0), (34, .ifCond .eq 18, 3, 0), (37, .iload 7, 2, 0), (39, .iconst 1, 1, 0), (40, .if_icmp .lt 33, 3, 0), (43, .iload 7, 2, 0), (45, .iconst 4, 1, 0), (46, .if_icmp .le 29, 3, 0), (49, .goto 24, 3, 0), (52, .iload 7, 2, 0), (54, .ifCond .ne 19, 3, 0), (57, .lload 8, 2, 0), (59, .lconst 0, 1, 0), (60, .lcmp, 1, 0), (61, .ifCond .ne 12, 3, 0), (64, .aload_n 0, 1, 0), (65, .iconst 0, 1, 0), (66, .invokevirtual 59, 3, 26), (69, .iconst (-1), 1, 0), (70, .if_icmp .eq 5, 3, 0), (73, .iconst 0, 1, 0), (74, .ireturn, 1, 0), (75, .iconst 0, 1, 0), (76, .istore 10, 2, 0), (78, .iload 10, 2, 0), (80, .iconst 5, 1, 0), (81, .if_icmp .ge 254, 3, 0), (84, .aload_n 0, 1, 0), (85, .iload 10, 2, 0), (87, .invokevirtual 63, 3, 28), (90, .lstore 11, 2, 0), (92, .lload 11, 2, 0), (94, .lconst 0, 1, 0), (95, .lcmp, 1, 0), (96, .ifCond .gt 30, 3, 0), (99, .iload 10, 2, 0), (101, .iconst 4, 1, 0), (102, .if_icmp .eq 8, 3, 0), (105, .iload 5, 2, 0), (107, .ifCond .ne 21, 3, 0), (110, .lload 11, 2, 0), (112, .lconst 0, 1, 0), (113, .lcmp, 1, 0), (114, .ifCond .ne 12, 3, 0), (117, .aload_n 0, 1, 0), (118, .iload 10, 2, 0), (120, .invokevirtual 67, 3, 27), (123, .ifCond .eq 5, 3, 0), (126, .iconst 0, 1, 0), (127, .ireturn, 1, 0), (128, .iconst 0, 1, 0), (129, .istore 13, 2, 0), (131, .iload 13, 2, 0), (133, .iconst 5, 1, 0), (134, .if_icmp .ge 195, 3, 0), (137, .iload 10, 2, 0), (139, .iconst 4, 1, 0), (140, .if_icmp .ge 27, 3, 0), (143, .iload 13, 2, 0), (145, .iconst 4, 1, 0), (146, .if_icmp .ge 21, 3, 0), (149, .iload_n 1, 1, 0), (150, .iconst 4, 1, 0), (151, .iload 10, 2, 0), (153, .imul, 1, 0), (154, .iload 13, 2, 0), (156, .iadd, 1, 0), (157, .ishr, 1, 0), (158, .iconst 1, 1, 0), (159, .iand, 1, 0), (160, .ifCond .eq 7, 3, 0), (163, .iconst 1, 1, 0), (164, .goto 4, 3, 0), (167, .iconst 0, 1, 0), (168, .istore 14, 2, 0), (170, .iload 14, 2, 0), (172, .ifCond .eq 17, 3, 0), (175, .lload_n 2, 1, 0), (176, .iconst 4, 1, 0), (177, .iload 10, 2, 0), (179, .imul, 1, 0), (180, .iload 13, 2, 0), (182, .iadd, 1, 0), (183, .invokestatic 70, 3, 105), (186, .goto 4, 3, 0), (189, .iconst 0, 1, 0), (190, .istore 15, 2, 0), (192, .aload_n 0, 1, 0), (193, .iload 10, 2, 0), (195, .iload 13, 2, 0), (197, .invokevirtual 74, 3, 8), (200, .iload 14, 2, 0), (202, .if_icmp .ne 16, 3, 0), (205, .aload_n 0, 1, 0), (206, .iload 10, 2, 0), (208, .iload 13, 2, 0), (210, .invokevirtual 78, 3, 9), (213, .iload 15, 2, 0), (215, .if_icmp .eq 5, 3, 0), (218, .iconst 0, 1, 0), (219, .ireturn, 1, 0), (220, .aload_n 0, 1, 0), (221, .iload 10, 2, 0), (223, .iload 13, 2, 0), (225, .invokevirtual 81, 3, 29), (228, .lstore 16, 2, 0), (230, .aload_n 0, 1, 0), (231, .iload 13, 2, 0), (233, .invokevirtual 63, 3, 28), (236, .lstore 18, 2, 0), (238, .iload 5, 2, 0), (240, .ifCond .eq 8, 3, 0), (243, .iload 14, 2, 0), (245, .ifCond .ne 15, 3, 0), (248, .lload 16, 2, 0), (250, .ldc2_w 85, 3, (-1)), (253, .lcmp, 1, 0), (254, .ifCond .eq 37, 3, 0), (257, .goto 32, 3, 0), (260, .lload 16, 2, 0), (262, .lconst 0, 1, 0), (263, .lcmp, 1, 0), (264, .ifCond .lt 25, 3, 0), (267, .lload 16, 2, 0), (269, .iload 7, 2, 0), (271, .i2l, 1, 0), (272, .iload 15, 2, 0), (274, .i2l, 1, 0), (275, .lmul, 1, 0), (276, .lload 8, 2, 0), (278, .lsub, 1, 0), (279, .lload 11, 2, 0), (281, .ladd, 1, 0), (282, .lload 18, 2, 0), (284, .lsub, 1, 0), (285, .lcmp, 1, 0), (286, .ifCond .eq 5, 3, 0), (289, .iconst 0, 1, 0), (290, .ireturn, 1, 0), (291, .iload 5, 2, 0), (293, .ifCond .eq 30, 3, 0), (296, .iload 14, 2, 0), (298, .ifCond .eq 25, 3, 0), (301, .iload 10, 2, 0), (303, .iload 13, 2, 0), (305, .if_icmp .ne 18, 3, 0), (308, .iload 7, 2, 0), (310, .i2l, 1, 0), (311, .iload 15, 2, 0), (313, .i2l, 1, 0), (314, .lmul, 1, 0), (315, .lload 8, 2, 0), (317, .lcmp, 1, 0), (318, .ifCond .ge 5, 3, 0), (321, .iconst 0, 1, 0), (322, .ireturn, 1, 0), (323, .iinc 13 1, 3, 0), (326, .goto (-195), 3, 0), (329, .iinc 10 1, 3, 0), (332, .goto (-254), 3, 0), (335, .iload 5, 2, 0), (337, .ifCond .eq 16, 3, 0), (340, .aload_n 0, 1, 0), (341, .iload_n 1, 1, 0), (342, .lload_n 2, 1, 0), (343, .iload 7, 2, 0), (345, .lload 8, 2, 0), (347, .invokestatic 87, 3, 104), (350, .ifCond .eq 7, 3, 0), (353, .iconst 1, 1, 0), (354, .goto 4, 3, 0), (357, .iconst 0, 1, 0), (358, .ireturn, 1, 0)]
def lr4 : List Row := [(0, .aload_n 0, 1, 0), (1, .iconst 0, 1, 0), (2, .invokevirtual 59, 3, 26), (5, .istore 7, 2, 0), (7, .iconst 0, 1, 0), (8, .istore 8, 2, 0), (10, .lconst 0, 1, 0), (11, .lstore 9, 2, 0), (13, .iconst 0, 1, 0), (14, .istore 11, 2, 0), (16, .iload 11, 2, 0), (18, .iload 7, 2, 0), (20, .if_icmp .ge 20, 3, 0), (23, .aload_n 0, 1, 0), (24, .iload 11, 2, 0), (26, .invokevirtual 67, 3, 27), (29, .ifCond .eq 5, 3, 0), (32, .iconst 0, 1, 0), (33, .ireturn, 1, 0), (34, .iinc 11 1, 3, 0), (37, .goto (-21), 3, 0), (40, .iconst 0, 1, 0), (41, .istore 11, 2, 0), (43, .iload 11, 2, 0), (45, .iload 4, 2, 0), (47, .if_icmp .ge 115, 3, 0), (50, .aload_n 0, 1, 0), (51, .iload 11, 2, 0), (53, .invokevirtual 59, 3, 26), (56, .istore 12, 2, 0), (58, .aload_n 0, 1, 0), (59, .iload 11, 2, 0), (61, .iconst 1, 1, 0), (62, .iadd, 1, 0), (63, .iload 4, 2, 0), (65, .irem, 1, 0), (66, .invokevirtual 59, 3, 26), (69, .istore 13, 2, 0), (71, .iload 12, 2, 0), (73, .ifCond .lt 39, 3, 0), (76, .iload 12, 2, 0), (78, .iconst 3, 1, 0), (79, .if_icmp .gt 33, 3, 0), (82, .iload 13, 2, 0), (84, .ifCond .lt 28, 3, 0), (87, .iload 13, 2, 0), (89, .iconst 3, 1, 0), (90, .if_icmp .gt 22, 3, 0), (93, .iload 8, 2, 0), (95, .iload 12, 2, 0), (97, .ishr, 1, 0), (98, .iconst 1, 1, 0), (99, .iand, 1, 0), (100, .ifCond .ne 12, 3, 0), (103, .aload_n 0, 1, 0), (104, .iload 12, 2, 0), (106, .invokevirtual 67, 3, 27), (109, .ifCond .ne 5, 3, 0), (112, .iconst 0, 1, 0), (113, .ireturn, 1, 0), (114, .iload_n 1, 1, 0), (115, .iconst 4, 1, 0), (116, .iload 12, 2, 0), (118, .imul, 1, 0), (119, .iload 13, 2, 0), (121, .iadd, 1, 0), (122, .ishr, 1, 0), (123, .iconst 1, 1, 0), (124, .iand, 1, 0), (125, .ifCond .ne 5, 3, 0), (128, .iconst 0, 1, 0), (129, .ireturn, 1, 0), (130, .iload 8, 2, 0), (132, .iconst 1, 1, 0), (133, .iload 12, 2, 0), (135, .ishl, 1, 0), (136, .ior, 1, 0), (137, .istore 8, 2, 0), (139, .lload 9, 2, 0), (141, .lload_n 2, 1, 0), (142, .iconst 4, 1, 0), (143, .iload 12, 2, 0), (145, .imul, 1, 0), (146, .iload 13, 2, 0), (148, .iadd, 1, 0), (149, .invokestatic 70, 3, 105), (152, .i2l, 1, 0), (153, .ladd, 1, 0), (154, .lstore 9, 2, 0), (156, .iinc 11 1, 3, 0), (159, .goto (-116), 3, 0), (162, .lload 9, 2, 0), (164, .lload 5, 2, 0), (166, .lcmp, 1, 0), (167, .ifCond .ne 26, 3, 0), (170, .aload_n 0, 1, 0), (171, .iload 4, 2, 0), (173, .invokevirtual 59, 3, 26), (176, .iconst (-1), 1, 0), (177, .if_icmp .ne 16, 3, 0), (180, .aload_n 0, 1, 0), (181, .iconst (-1), 1, 0), (182, .invokevirtual 59, 3, 26), (185, .iconst (-1), 1, 0), (186, .if_icmp .ne 7, 3, 0), (189, .iconst 1, 1, 0), (190, .goto 4, 3, 0), (193, .iconst 0, 1, 0), (194, .ireturn, 1, 0)]
def lr5 : List Row := [(0, .lload_n 0, 1, 0), (1, .iconst 4, 1, 0), (2, .iload_n 2, 1, 0), (3, .imul, 1, 0), (4, .lshr, 1, 0), (5, .ldc2_w 91, 3, 15), (8, .land, 1, 0), (9, .l2i, 1, 0), (10, .bipush 8, 2, 0), (12, .isub, 1, 0), (13, .ireturn, 1, 0)]
def lr6 : List Row := [(0, .ldc2_w 91, 3, 15), (3, .iconst 4, 1, 0), (4, .iload_n 2, 1, 0), (5, .imul, 1, 0), (6, .lshl, 1, 0), (7, .lstore 4, 2, 0), (9, .lload_n 0, 1, 0), (10, .lload 4, 2, 0), (12, .ldc2_w 85, 3, (-1)), (15, .lxor, 1, 0), (16, .land, 1, 0), (17, .iload_n 3, 1, 0), (18, .bipush 8, 2, 0), (20, .iadd, 1, 0), (21, .i2l, 1, 0), (22, .iconst 4, 1, 0), (23, .iload_n 2, 1, 0), (24, .imul, 1, 0), (25, .lshl, 1, 0), (26, .lor, 1, 0), (27, .lreturn, 1, 0)]
def lr7 : List Row := [(0, .iconst 0, 1, 0), (1, .istore_n 2, 1, 0), (2, .iconst 0, 1, 0), (3, .istore_n 3, 1, 0), (4, .iload_n 3, 1, 0), (5, .iconst 4, 1, 0), (6, .if_icmp .ge 53, 3, 0), (9, .iconst 0, 1, 0), (10, .istore 4, 2, 0), (12, .iload 4, 2, 0), (14, .iconst 4, 1, 0), (15, .if_icmp .ge 38, 3, 0), (18, .iload_n 0, 1, 0), (19, .iconst 4, 1, 0), (20, .iload_n 3, 1, 0), (21, .imul, 1, 0), (22, .iload 4, 2, 0), (24, .iadd, 1, 0), (25, .ishr, 1, 0), (26, .iconst 1, 1, 0), (27, .iand, 1, 0), (28, .ifCond .eq 19, 3, 0), (31, .iload_n 2, 1, 0), (32, .iload_n 1, 1, 0), (33, .iconst 4, 1, 0), (34, .iload 4, 2, 0), (36, .imul, 1, 0), (37, .ishr, 1, 0), (38, .bipush 15, 2, 0), (40, .iand, 1, 0), (41, .iconst 4, 1, 0), (42, .iload_n 3, 1, 0), (43, .imul, 1, 0), (44, .ishl, 1, 0), (45, .ior, 1, 0), (46, .istore_n 2, 1, 0), (47, .iinc 4 1, 3, 0), (50, .goto (-38), 3, 0), (53, .iinc 3 1, 3, 0), (56, .goto (-52), 3, 0), (59, .iload_n 2, 1, 0), (60, .ireturn, 1, 0)]
def lr8 : List Row := [(0, .iload_n 0, 1, 0), (1, .istore_n 1, 1, 0), (2, .iconst 0, 1, 0), (3, .istore_n 2, 1, 0), (4, .iload_n 2, 1, 0), (5, .iconst 3, 1, 0), (6, .if_icmp .ge 17, 3, 0), (9, .iload_n 1, 1, 0), (10, .iload_n 1, 1, 0), (11, .iload_n 0, 1, 0), (12, .invokestatic 93, 3, 107), (15, .ior, 1, 0), (16, .istore_n 1, 1, 0), (17, .iinc 2 1, 3, 0), (20, .goto (-16), 3, 0), (23, .iconst 0, 1, 0), (24, .istore_n 2, 1, 0), (25, .iload_n 2, 1, 0), (26, .iconst 4, 1, 0), (27, .if_icmp .ge 21, 3, 0), (30, .iload_n 1, 1, 0), (31, .iconst 5, 1, 0), (32, .iload_n 2, 1, 0), (33, .imul, 1, 0), (34, .ishr, 1, 0), (35, .iconst 1, 1, 0), (36, .iand, 1, 0), (37, .ifCond .eq 5, 3, 0), (40, .iconst 1, 1, 0), (41, .ireturn, 1, 0), (42, .iinc 2 1, 3, 0), (45, .goto (-20), 3, 0), (48, .iconst 0, 1, 0), (49, .ireturn, 1, 0)]
def lrows : List (List Row) := [lr0, [], [], lr3, lr4, lr5, lr6, lr7, lr8]
def linfo : List MInfo := [(1, 19, 9, some .boolean, { frames := 7, cells := 32, slots := 5056, locals := 192 }), (0, 0, 9, none, {}), (0, 0, 9, none, {}), (6, 20, 0, some .boolean, { frames := 3, cells := 0, slots := 0, locals := 51 }), (5, 14, 0, some .boolean, { frames := 2, cells := 0, slots := 0, locals := 26 }), (2, 3, 0, some .int, { frames := 0, cells := 0, slots := 0, locals := 0 }), (3, 6, 0, some .long, { frames := 0, cells := 0, slots := 0, locals := 0 }), (2, 5, 0, some .int, { frames := 0, cells := 0, slots := 0, locals := 0 }), (1, 3, 0, some .boolean, { frames := 1, cells := 0, slots := 0, locals := 17 })]
def lw : LW := (fun j pc => (lrows.getD j []).lookup pc, fun j => linfo.getD j (0, 0, 9, none, {}))
section LPc
variable {L : List Slot} {S : List Value} {k n : Nat} {H : AH} {Q : Option Value → AH → Prop}
theorem c100 {x0 : Nat} : Cl (pj lw) 100 [.ref x0] H Q ↔ W (pj lw) 100 0 [.val (.ref x0), .unset, .unset, .unset, .unset, .unset, .unset, .unset, .unset, .unset, .unset, .unset, .unset, .unset, .unset, .unset, .unset, .unset, .unset] [] 0 0 H Q := cl_unf rfl
theorem w100_0 : W (pj lw) 100 0 L S k n H Q ↔ ((k + 1 ≤ 32 ∧ n + 21 ≤ 5056) ∧ W (pj lw) 100 3 L (.ref H.1 :: S) (k + 1) (n + 21) (mkO (pj lw) H) Q) := W_new' (rfl : (pj lw).1 100 0 = some (.new 7, 3, 21)) (by decide)
theorem w100_3 : W (pj lw) 100 3 L (.ref x :: S) k n H Q ↔ W (pj lw) 100 4 L (.ref x :: .ref x :: S) k n H Q := W_s rfl rfl rfl rfl
theorem w100_4 : W (pj lw) 100 4 L S k n H Q ↔ W (pj lw) 100 5 L (.int 4 :: S) k n H Q := W_s rfl rfl rfl rfl
theorem w100_5 : W (pj lw) 100 5 L (.int x0 :: .ref a :: S) k n H Q ↔ ((isO H a = true ∧ cs S + (3 + 11) + 12 ≤ 192 ∧ k + 10 ≤ 32 ∧ n + 2472 ≤ 5056) ∧ Cl (pj lw) 1 [.ref a, .int x0] H (fun v H => W (pj lw) 100 8 L (v.toList ++ S) (k + 10) (n + 2472) H Q)) := W_init (as := [.int x0]) (rfl : (pj lw).1 100 5 = some (.invokespecial 9, 3, 1)) rfl rfl rfl (Nat.le_of_ble_eq_true rfl) (Nat.le_of_ble_eq_true rfl) (fun h => absurd (show (10 : Nat) = 0 from h.1) (by decide))
theorem w100_8 : W (pj lw) 100 8 (l0 :: .unset :: L) (.ref x :: S) k n H Q ↔ W (pj lw) 100 9 (l0 :: .val (.ref x) :: L) S k n H Q := W_astn (rfl : (pj lw).1 100 8 = some (.astore_n 1, 1, 0)) rfl rfl
theorem w100_9 : W (pj lw) 100 9 (l0 :: .val (.ref x) :: L) S k n H Q ↔ W (pj lw) 100 10 (l0 :: .val (.ref x) :: L) (.ref x :: S) k n H Q := W_s rfl rfl rfl rfl
theorem w100_10 : W (pj lw) 100 10 L (.ref a :: S) k n H Q ↔ ((isO H a = true ∧ cs S + (1 + 11) + 0 ≤ 192) ∧ Cl (pj lw) 11 [.ref a] H (fun v H => W (pj lw) 100 13 L (v.toList ++ S) k n H Q)) := W_inst (as := []) (rfl : (pj lw).1 100 10 = some (.invokevirtual 12, 3, 11)) rfl rfl rfl (Nat.le_of_ble_eq_true rfl) (Nat.le_of_ble_eq_true rfl) ⟨rfl, rfl⟩
theorem w100_13 : W (pj lw) 100 13 L S k n H Q ↔ W (pj lw) 100 14 L (.int 4 :: S) k n H Q := W_s rfl rfl rfl rfl
theorem w100_14 : W (pj lw) 100 14 L (.int y :: .int x :: S) k n H Q ↔ (if x = y then W (pj lw) 100 17 L S k n H Q else W (pj lw) 100 29 L S k n H Q) := W_icmp_ne (rfl : (pj lw).1 100 14 = some (.if_icmp .ne 15, 3, 0)) rfl
theorem w100_17 : W (pj lw) 100 17 (l0 :: .val (.ref x) :: L) S k n H Q ↔ W (pj lw) 100 18 (l0 :: .val (.ref x) :: L) (.ref x :: S) k n H Q := W_s rfl rfl rfl rfl
theorem w100_18 : W (pj lw) 100 18 L S k n H Q ↔ W (pj lw) 100 19 L (.int 0 :: S) k n H Q := W_s rfl rfl rfl rfl
theorem w100_19 : W (pj lw) 100 19 L S k n H Q ↔ W (pj lw) 100 20 L (.long 0 :: S) k n H Q := W_s rfl rfl rfl rfl
theorem w100_20 : W (pj lw) 100 20 L S k n H Q ↔ W (pj lw) 100 21 L (.int 0 :: S) k n H Q := W_s rfl rfl rfl rfl
theorem w100_21 : W (pj lw) 100 21 L S k n H Q ↔ W (pj lw) 100 22 L (.int 0 :: S) k n H Q := W_s rfl rfl rfl rfl
theorem w100_22 : W (pj lw) 100 22 L S k n H Q ↔ W (pj lw) 100 23 L (.int 0 :: S) k n H Q := W_s rfl rfl rfl rfl
theorem w100_23 : W (pj lw) 100 23 L (.int x5 :: .int x4 :: .int x3 :: .long x2 :: .int x1 :: .ref x0 :: S) k n H Q ↔ (cs S + (20 + 11) + 51 ≤ 192 ∧ Cl (pj lw) 103 [.ref x0, .int x1, .long x2, .int x3, .int x4, .int x5] H (fun v H => W (pj lw) 100 26 L (v.toList ++ S) k n H Q)) := W_stat (a := [.ref x0, .int x1, .long x2, .int x3, .int x4, .int x5]) (rfl : (pj lw).1 100 23 = some (.invokestatic 16, 3, 103)) rfl rfl rfl (Nat.le_of_ble_eq_true rfl) (Nat.le_of_ble_eq_true rfl) ⟨rfl, rfl⟩
theorem w100_26 : W (pj lw) 100 26 L (.int x :: S) k n H Q ↔ (if x = 0 then W (pj lw) 100 29 L S k n H Q else W (pj lw) 100 31 L S k n H Q) := W_if_ne (rfl : (pj lw).1 100 26 = some (.ifCond .ne 5, 3, 0)) rfl
theorem w100_31 : W (pj lw) 100 31 L S k n H Q ↔ W (pj lw) 100 32 L (.int 0 :: S) k n H Q := W_s rfl rfl rfl rfl
theorem w100_32 : W (pj lw) 100 32 (l0 :: l1 :: .unset :: L) (.int x :: S) k n H Q ↔ W (pj lw) 100 33 (l0 :: l1 :: .val (.int x) :: L) S k n H Q := W_istn (rfl : (pj lw).1 100 32 = some (.istore_n 2, 1, 0)) rfl rfl
theorem w100_33 : W (pj lw) 100 33 L S k n H Q ↔ W (pj lw) 100 34 L (.long 0 :: S) k n H Q := W_s rfl rfl rfl rfl
theorem w100_34uu : W (pj lw) 100 34 (l0 :: l1 :: l2 :: .unset :: .unset :: L) (.long x :: S) k n H Q ↔ W (pj lw) 100 35 (l0 :: l1 :: l2 :: .val (.long x) :: .second :: L) S k n H Q := W_lstn (rfl : (pj lw).1 100 34 = some (.lstore_n 3, 1, 0)) rfl rfl rfl rfl
theorem w100_35 : W (pj lw) 100 35 L S k n H Q ↔ W (pj lw) 100 36 L (.int 0 :: S) k n H Q := W_s rfl rfl rfl rfl
theorem w100_36 : W (pj lw) 100 36 (l0 :: l1 :: l2 :: l3 :: l4 :: .unset :: L) (.int x :: S) k n H Q ↔ W (pj lw) 100 38 (l0 :: l1 :: l2 :: l3 :: l4 :: .val (.int x) :: L) S k n H Q := W_ist (rfl : (pj lw).1 100 36 = some (.istore 5, 2, 0)) rfl rfl
theorem w100_38 : W (pj lw) 100 38 L S k n H Q ↔ W (pj lw) 100 39 L (.int 0 :: S) k n H Q := W_s rfl rfl rfl rfl
theorem w100_39 : W (pj lw) 100 39 (l0 :: l1 :: l2 :: l3 :: l4 :: l5 :: .unset :: L) (.int x :: S) k n H Q ↔ W (pj lw) 100 41 (l0 :: l1 :: l2 :: l3 :: l4 :: l5 :: .val (.int x) :: L) S k n H Q := W_ist (rfl : (pj lw).1 100 39 = some (.istore 6, 2, 0)) rfl rfl
theorem w100_41 : W (pj lw) 100 41 L S k n H Q ↔ W (pj lw) 100 42 L (.int 0 :: S) k n H Q := W_s rfl rfl rfl rfl
theorem w100_42 : W (pj lw) 100 42 (l0 :: l1 :: l2 :: l3 :: l4 :: l5 :: l6 :: .unset :: L) (.int x :: S) k n H Q ↔ W (pj lw) 100 44 (l0 :: l1 :: l2 :: l3 :: l4 :: l5 :: l6 :: .val (.int x) :: L) S k n H Q := W_ist (rfl : (pj lw).1 100 42 = some (.istore 7, 2, 0)) rfl rfl
theorem w100_44 : W (pj lw) 100 44 L S k n H Q ↔ W (pj lw) 100 45 L (.int 0 :: S) k n H Q := W_s rfl rfl rfl rfl
theorem w100_45 : W (pj lw) 100 45 (l0 :: l1 :: l2 :: l3 :: l4 :: l5 :: l6 :: l7 :: .unset :: L) (.int x :: S) k n H Q ↔ W (pj lw) 100 47 (l0 :: l1 :: l2 :: l3 :: l4 :: l5 :: l6 :: l7 :: .val (.int x) :: L) S k n H Q := W_ist (rfl : (pj lw).1 100 45 = some (.istore 8, 2, 0)) rfl rfl
theorem w100_47 : W (pj lw) 100 47 (l0 :: l1 :: l2 :: l3 :: l4 :: l5 :: l6 :: l7 :: .val (.int x) :: L) S k n H Q ↔ W (pj lw) 100 49 (l0 :: l1 :: l2 :: l3 :: l4 :: l5 :: l6 :: l7 :: .val (.int x) :: L) (.int x :: S) k n H Q := W_s rfl rfl rfl rfl
theorem w100_49 : W (pj lw) 100 49 L S k n H Q ↔ W (pj lw) 100 50 L (.int 3 :: S) k n H Q := W_s rfl rfl rfl rfl
theorem w100_50 : W (pj lw) 100 50 L (.int y :: .int x :: S) k n H Q ↔ W (pj lw) 100 51 L (.int (x + y) :: S) k n H Q := W_s rfl rfl rfl rfl
theorem w100_51 : W (pj lw) 100 51 (.val (.ref x) :: L) S k n H Q ↔ W (pj lw) 100 52 (.val (.ref x) :: L) (.ref x :: S) k n H Q := W_s rfl rfl rfl rfl
theorem w100_52 : W (pj lw) 100 52 L (.ref a :: S) k n H Q ↔ (isA H a = true ∧ W (pj lw) 100 53 L (.int (alen H a).toInt32 :: S) k n H Q) := W_alen (rfl : (pj lw).1 100 52 = some (.arraylength, 1, 0))
theorem w100_53 : W (pj lw) 100 53 L (.int y :: .int x :: S) k n H Q ↔ (if x < y then W (pj lw) 100 56 L S k n H Q else W (pj lw) 100 474 L S k n H Q) := W_icmp_ge (rfl : (pj lw).1 100 53 = some (.if_icmp .ge 421, 3, 0)) rfl
theorem w100_56 : W (pj lw) 100 56 (.val (.ref x) :: L) S k n H Q ↔ W (pj lw) 100 57 (.val (.ref x) :: L) (.ref x :: S) k n H Q := W_s rfl rfl rfl rfl
theorem w100_57 : W (pj lw) 100 57 (l0 :: l1 :: l2 :: l3 :: l4 :: l5 :: l6 :: l7 :: .val (.int x) :: L) S k n H Q ↔ W (pj lw) 100 59 (l0 :: l1 :: l2 :: l3 :: l4 :: l5 :: l6 :: l7 :: .val (.int x) :: L) (.int x :: S) k n H Q := W_s rfl rfl rfl rfl
theorem w100_59 : W (pj lw) 100 59 L (.int i :: .ref a :: S) k n H Q ↔ (inA H a .int i = true ∧ W (pj lw) 100 60 L (elt H a i :: S) k n H Q) := W_iaload (rfl : (pj lw).1 100 59 = some (.iaload, 1, 0))
theorem w100_60 : W (pj lw) 100 60 L S k n H Q ↔ W (pj lw) 100 61 L (.int 3 :: S) k n H Q := W_s rfl rfl rfl rfl
theorem w100_61 : W (pj lw) 100 61 L (.int y :: .int x :: S) k n H Q ↔ W (pj lw) 100 62 L (.int (x &&& y) :: S) k n H Q := W_s rfl rfl rfl rfl
theorem w100_62 : W (pj lw) 100 62 (l0 :: l1 :: l2 :: l3 :: l4 :: l5 :: l6 :: l7 :: l8 :: .unset :: L) (.int x :: S) k n H Q ↔ W (pj lw) 100 64 (l0 :: l1 :: l2 :: l3 :: l4 :: l5 :: l6 :: l7 :: l8 :: .val (.int x) :: L) S k n H Q := W_ist (rfl : (pj lw).1 100 62 = some (.istore 9, 2, 0)) rfl rfl
theorem w100_64 : W (pj lw) 100 64 (.val (.ref x) :: L) S k n H Q ↔ W (pj lw) 100 65 (.val (.ref x) :: L) (.ref x :: S) k n H Q := W_s rfl rfl rfl rfl
theorem w100_65 : W (pj lw) 100 65 (l0 :: l1 :: l2 :: l3 :: l4 :: l5 :: l6 :: l7 :: .val (.int x) :: L) S k n H Q ↔ W (pj lw) 100 67 (l0 :: l1 :: l2 :: l3 :: l4 :: l5 :: l6 :: l7 :: .val (.int x) :: L) (.int x :: S) k n H Q := W_s rfl rfl rfl rfl
theorem w100_67 : W (pj lw) 100 67 L S k n H Q ↔ W (pj lw) 100 68 L (.int 1 :: S) k n H Q := W_s rfl rfl rfl rfl
theorem w100_68 : W (pj lw) 100 68 L (.int y :: .int x :: S) k n H Q ↔ W (pj lw) 100 69 L (.int (x + y) :: S) k n H Q := W_s rfl rfl rfl rfl
theorem w100_69 : W (pj lw) 100 69 L (.int i :: .ref a :: S) k n H Q ↔ (inA H a .int i = true ∧ W (pj lw) 100 70 L (elt H a i :: S) k n H Q) := W_iaload (rfl : (pj lw).1 100 69 = some (.iaload, 1, 0))
theorem w100_70 : W (pj lw) 100 70 L S k n H Q ↔ W (pj lw) 100 72 L (.int 2147483647 :: S) k n H Q := W_s rfl rfl rfl rfl
theorem w100_72 : W (pj lw) 100 72 L (.int y :: .int x :: S) k n H Q ↔ W (pj lw) 100 73 L (.int (x &&& y) :: S) k n H Q := W_s rfl rfl rfl rfl
theorem w100_73 : W (pj lw) 100 73 L S k n H Q ↔ W (pj lw) 100 74 L (.int 5 :: S) k n H Q := W_s rfl rfl rfl rfl
theorem w100_74 : W (pj lw) 100 74 L (.int y :: .int x :: S) k n H Q ↔ (¬ y = 0 ∧ W (pj lw) 100 75 L (.int (x % y) :: S) k n H Q) := W_irem (rfl : (pj lw).1 100 74 = some (.irem, 1, 0))
theorem w100_75 : W (pj lw) 100 75 (l0 :: l1 :: l2 :: l3 :: l4 :: l5 :: l6 :: l7 :: l8 :: l9 :: .unset :: L) (.int x :: S) k n H Q ↔ W (pj lw) 100 77 (l0 :: l1 :: l2 :: l3 :: l4 :: l5 :: l6 :: l7 :: l8 :: l9 :: .val (.int x) :: L) S k n H Q := W_ist (rfl : (pj lw).1 100 75 = some (.istore 10, 2, 0)) rfl rfl
theorem w100_77 : W (pj lw) 100 77 (.val (.ref x) :: L) S k n H Q ↔ W (pj lw) 100 78 (.val (.ref x) :: L) (.ref x :: S) k n H Q := W_s rfl rfl rfl rfl
theorem w100_78 : W (pj lw) 100 78 (l0 :: l1 :: l2 :: l3 :: l4 :: l5 :: l6 :: l7 :: .val (.int x) :: L) S k n H Q ↔ W (pj lw) 100 80 (l0 :: l1 :: l2 :: l3 :: l4 :: l5 :: l6 :: l7 :: .val (.int x) :: L) (.int x :: S) k n H Q := W_s rfl rfl rfl rfl
theorem w100_80 : W (pj lw) 100 80 L S k n H Q ↔ W (pj lw) 100 81 L (.int 2 :: S) k n H Q := W_s rfl rfl rfl rfl
theorem w100_81 : W (pj lw) 100 81 L (.int y :: .int x :: S) k n H Q ↔ W (pj lw) 100 82 L (.int (x + y) :: S) k n H Q := W_s rfl rfl rfl rfl
theorem w100_82 : W (pj lw) 100 82 L (.int i :: .ref a :: S) k n H Q ↔ (inA H a .int i = true ∧ W (pj lw) 100 83 L (elt H a i :: S) k n H Q) := W_iaload (rfl : (pj lw).1 100 82 = some (.iaload, 1, 0))
theorem w100_83 : W (pj lw) 100 83 L S k n H Q ↔ W (pj lw) 100 85 L (.int 2147483647 :: S) k n H Q := W_s rfl rfl rfl rfl
theorem w100_85 : W (pj lw) 100 85 L (.int y :: .int x :: S) k n H Q ↔ W (pj lw) 100 86 L (.int (x &&& y) :: S) k n H Q := W_s rfl rfl rfl rfl
theorem w100_86 : W (pj lw) 100 86 L S k n H Q ↔ W (pj lw) 100 87 L (.int 5 :: S) k n H Q := W_s rfl rfl rfl rfl
theorem w100_87 : W (pj lw) 100 87 L (.int y :: .int x :: S) k n H Q ↔ (¬ y = 0 ∧ W (pj lw) 100 88 L (.int (x % y) :: S) k n H Q) := W_irem (rfl : (pj lw).1 100 87 = some (.irem, 1, 0))
theorem w100_88 : W (pj lw) 100 88 (l0 :: l1 :: l2 :: l3 :: l4 :: l5 :: l6 :: l7 :: l8 :: l9 :: l10 :: .unset :: L) (.int x :: S) k n H Q ↔ W (pj lw) 100 90 (l0 :: l1 :: l2 :: l3 :: l4 :: l5 :: l6 :: l7 :: l8 :: l9 :: l10 :: .val (.int x) :: L) S k n H Q := W_ist (rfl : (pj lw).1 100 88 = some (.istore 11, 2, 0)) rfl rfl
theorem w100_90 : W (pj lw) 100 90 (.val (.ref x) :: L) S k n H Q ↔ W (pj lw) 100 91 (.val (.ref x) :: L) (.ref x :: S) k n H Q := W_s rfl rfl rfl rfl
theorem w100_91 : W (pj lw) 100 91 (l0 :: l1 :: l2 :: l3 :: l4 :: l5 :: l6 :: l7 :: .val (.int x) :: L) S k n H Q ↔ W (pj lw) 100 93 (l0 :: l1 :: l2 :: l3 :: l4 :: l5 :: l6 :: l7 :: .val (.int x) :: L) (.int x :: S) k n H Q := W_s rfl rfl rfl rfl
theorem w100_93 : W (pj lw) 100 93 L S k n H Q ↔ W (pj lw) 100 94 L (.int 3 :: S) k n H Q := W_s rfl rfl rfl rfl
theorem w100_94 : W (pj lw) 100 94 L (.int y :: .int x :: S) k n H Q ↔ W (pj lw) 100 95 L (.int (x + y) :: S) k n H Q := W_s rfl rfl rfl rfl
theorem w100_95 : W (pj lw) 100 95 L (.int i :: .ref a :: S) k n H Q ↔ (inA H a .int i = true ∧ W (pj lw) 100 96 L (elt H a i :: S) k n H Q) := W_iaload (rfl : (pj lw).1 100 95 = some (.iaload, 1, 0))
theorem w100_96 : W (pj lw) 100 96 L S k n H Q ↔ W (pj lw) 100 98 L (.int 15 :: S) k n H Q := W_s rfl rfl rfl rfl
theorem w100_98 : W (pj lw) 100 98 L (.int y :: .int x :: S) k n H Q ↔ W (pj lw) 100 99 L (.int (x &&& y) :: S) k n H Q := W_s rfl rfl rfl rfl
theorem w100_99 : W (pj lw) 100 99 L S k n H Q ↔ W (pj lw) 100 101 L (.int 8 :: S) k n H Q := W_s rfl rfl rfl rfl
theorem w100_101 : W (pj lw) 100 101 L (.int y :: .int x :: S) k n H Q ↔ W (pj lw) 100 102 L (.int (x - y) :: S) k n H Q := W_s rfl rfl rfl rfl
theorem w100_102 : W (pj lw) 100 102 (l0 :: l1 :: l2 :: l3 :: l4 :: l5 :: l6 :: l7 :: l8 :: l9 :: l10 :: l11 :: .unset :: L) (.int x :: S) k n H Q ↔ W (pj lw) 100 104 (l0 :: l1 :: l2 :: l3 :: l4 :: l5 :: l6 :: l7 :: l8 :: l9 :: l10 :: l11 :: .val (.int x) :: L) S k n H Q := W_ist (rfl : (pj lw).1 100 102 = some (.istore 12, 2, 0)) rfl rfl
theorem w100_104 : W (pj lw) 100 104 (.val (.ref x) :: L) S k n H Q ↔ W (pj lw) 100 105 (.val (.ref x) :: L) (.ref x :: S) k n H Q := W_s rfl rfl rfl rfl
theorem w100_105 : W (pj lw) 100 105 (l0 :: l1 :: l2 :: l3 :: l4 :: l5 :: l6 :: l7 :: .val (.int x) :: L) S k n H Q ↔ W (pj lw) 100 107 (l0 :: l1 :: l2 :: l3 :: l4 :: l5 :: l6 :: l7 :: .val (.int x) :: L) (.int x :: S) k n H Q := W_s rfl rfl rfl rfl
theorem w100_107 : W (pj lw) 100 107 L S k n H Q ↔ W (pj lw) 100 108 L (.int 3 :: S) k n H Q := W_s rfl rfl rfl rfl
theorem w100_108 : W (pj lw) 100 108 L (.int y :: .int x :: S) k n H Q ↔ W (pj lw) 100 109 L (.int (x + y) :: S) k n H Q := W_s rfl rfl rfl rfl
theorem w100_109 : W (pj lw) 100 109 L (.int i :: .ref a :: S) k n H Q ↔ (inA H a .int i = true ∧ W (pj lw) 100 110 L (elt H a i :: S) k n H Q) := W_iaload (rfl : (pj lw).1 100 109 = some (.iaload, 1, 0))
theorem w100_110 : W (pj lw) 100 110 L S k n H Q ↔ W (pj lw) 100 112 L (.int 112 :: S) k n H Q := W_s rfl rfl rfl rfl
theorem w100_112 : W (pj lw) 100 112 L (.int y :: .int x :: S) k n H Q ↔ W (pj lw) 100 113 L (.int (x &&& y) :: S) k n H Q := W_s rfl rfl rfl rfl
theorem w100_113 : W (pj lw) 100 113 L S k n H Q ↔ W (pj lw) 100 115 L (.int 112 :: S) k n H Q := W_s rfl rfl rfl rfl
theorem w100_115 : W (pj lw) 100 115 L (.int y :: .int x :: S) k n H Q ↔ (if x = y then W (pj lw) 100 118 L S k n H Q else W (pj lw) 100 123 L S k n H Q) := W_icmp_ne (rfl : (pj lw).1 100 115 = some (.if_icmp .ne 8, 3, 0)) rfl
theorem w100_118 : W (pj lw) 100 118 L S k n H Q ↔ W (pj lw) 100 121 L (.int 10001 :: S) k n H Q := W_s rfl rfl rfl rfl
theorem w100_121i : W (pj lw) 100 121 (l0 :: l1 :: l2 :: l3 :: l4 :: l5 :: l6 :: l7 :: l8 :: l9 :: l10 :: l11 :: .val (.int y) :: L) (.int x :: S) k n H Q ↔ W (pj lw) 100 123 (l0 :: l1 :: l2 :: l3 :: l4 :: l5 :: l6 :: l7 :: l8 :: l9 :: l10 :: l11 :: .val (.int x) :: L) S k n H Q := W_ist (rfl : (pj lw).1 100 121 = some (.istore 12, 2, 0)) rfl rfl
theorem w100_123 : W (pj lw) 100 123 (l0 :: l1 :: l2 :: l3 :: l4 :: l5 :: l6 :: l7 :: l8 :: l9 :: .val (.int x) :: L) S k n H Q ↔ W (pj lw) 100 125 (l0 :: l1 :: l2 :: l3 :: l4 :: l5 :: l6 :: l7 :: l8 :: l9 :: .val (.int x) :: L) (.int x :: S) k n H Q := W_s rfl rfl rfl rfl
theorem w100_125 : W (pj lw) 100 125 L S k n H Q ↔ W (pj lw) 100 126 L (.int 4 :: S) k n H Q := W_s rfl rfl rfl rfl
theorem w100_126 : W (pj lw) 100 126 L (.int y :: .int x :: S) k n H Q ↔ (if x < y then W (pj lw) 100 129 L S k n H Q else W (pj lw) 100 139 L S k n H Q) := W_icmp_ge (rfl : (pj lw).1 100 126 = some (.if_icmp .ge 13, 3, 0)) rfl
theorem w100_129 : W (pj lw) 100 129 (l0 :: l1 :: l2 :: l3 :: l4 :: l5 :: l6 :: l7 :: l8 :: l9 :: l10 :: .val (.int x) :: L) S k n H Q ↔ W (pj lw) 100 131 (l0 :: l1 :: l2 :: l3 :: l4 :: l5 :: l6 :: l7 :: l8 :: l9 :: l10 :: .val (.int x) :: L) (.int x :: S) k n H Q := W_s rfl rfl rfl rfl
theorem w100_131 : W (pj lw) 100 131 L S k n H Q ↔ W (pj lw) 100 132 L (.int 4 :: S) k n H Q := W_s rfl rfl rfl rfl
theorem w100_132 : W (pj lw) 100 132 L (.int y :: .int x :: S) k n H Q ↔ (if x < y then W (pj lw) 100 135 L S k n H Q else W (pj lw) 100 139 L S k n H Q) := W_icmp_ge (rfl : (pj lw).1 100 132 = some (.if_icmp .ge 7, 3, 0)) rfl
theorem w100_135 : W (pj lw) 100 135 L S k n H Q ↔ W (pj lw) 100 136 L (.int 1 :: S) k n H Q := W_s rfl rfl rfl rfl
theorem w100_136 : W (pj lw) 100 136 L S k n H Q ↔ W (pj lw) 100 140 L S k n H Q := W_goto rfl rfl
theorem w100_139 : W (pj lw) 100 139 L S k n H Q ↔ W (pj lw) 100 140 L (.int 0 :: S) k n H Q := W_s rfl rfl rfl rfl
theorem w100_140 : W (pj lw) 100 140 (l0 :: l1 :: l2 :: l3 :: l4 :: l5 :: l6 :: l7 :: l8 :: l9 :: l10 :: l11 :: l12 :: .unset :: L) (.int x :: S) k n H Q ↔ W (pj lw) 100 142 (l0 :: l1 :: l2 :: l3 :: l4 :: l5 :: l6 :: l7 :: l8 :: l9 :: l10 :: l11 :: l12 :: .val (.int x) :: L) S k n H Q := W_ist (rfl : (pj lw).1 100 140 = some (.istore 13, 2, 0)) rfl rfl
theorem w100_142 : W (pj lw) 100 142 (l0 :: l1 :: l2 :: l3 :: l4 :: l5 :: l6 :: l7 :: l8 :: l9 :: l10 :: l11 :: l12 :: .val (.int x) :: L) S k n H Q ↔ W (pj lw) 100 144 (l0 :: l1 :: l2 :: l3 :: l4 :: l5 :: l6 :: l7 :: l8 :: l9 :: l10 :: l11 :: l12 :: .val (.int x) :: L) (.int x :: S) k n H Q := W_s rfl rfl rfl rfl
theorem w100_144 : W (pj lw) 100 144 L (.int x :: S) k n H Q ↔ (if x = 0 then W (pj lw) 100 157 L S k n H Q else W (pj lw) 100 147 L S k n H Q) := W_if_eq (rfl : (pj lw).1 100 144 = some (.ifCond .eq 13, 3, 0)) rfl
theorem w100_147 : W (pj lw) 100 147 L S k n H Q ↔ W (pj lw) 100 148 L (.int 4 :: S) k n H Q := W_s rfl rfl rfl rfl
theorem w100_148 : W (pj lw) 100 148 (l0 :: l1 :: l2 :: l3 :: l4 :: l5 :: l6 :: l7 :: l8 :: l9 :: .val (.int x) :: L) S k n H Q ↔ W (pj lw) 100 150 (l0 :: l1 :: l2 :: l3 :: l4 :: l5 :: l6 :: l7 :: l8 :: l9 :: .val (.int x) :: L) (.int x :: S) k n H Q := W_s rfl rfl rfl rfl
theorem w100_150 : W (pj lw) 100 150 L (.int y :: .int x :: S) k n H Q ↔ W (pj lw) 100 151 L (.int (x * y) :: S) k n H Q := W_s rfl rfl rfl rfl
theorem w100_151 : W (pj lw) 100 151 (l0 :: l1 :: l2 :: l3 :: l4 :: l5 :: l6 :: l7 :: l8 :: l9 :: l10 :: .val (.int x) :: L) S k n H Q ↔ W (pj lw) 100 153 (l0 :: l1 :: l2 :: l3 :: l4 :: l5 :: l6 :: l7 :: l8 :: l9 :: l10 :: .val (.int x) :: L) (.int x :: S) k n H Q := W_s rfl rfl rfl rfl
theorem w100_153 : W (pj lw) 100 153 L (.int y :: .int x :: S) k n H Q ↔ W (pj lw) 100 154 L (.int (x + y) :: S) k n H Q := W_s rfl rfl rfl rfl
theorem w100_154 : W (pj lw) 100 154 L S k n H Q ↔ W (pj lw) 100 158 L S k n H Q := W_goto rfl rfl
theorem w100_157 : W (pj lw) 100 157 L S k n H Q ↔ W (pj lw) 100 158 L (.int 0 :: S) k n H Q := W_s rfl rfl rfl rfl
theorem w100_158 : W (pj lw) 100 158 (l0 :: l1 :: l2 :: l3 :: l4 :: l5 :: l6 :: l7 :: l8 :: l9 :: l10 :: l11 :: l12 :: l13 :: .unset :: L) (.int x :: S) k n H Q ↔ W (pj lw) 100 160 (l0 :: l1 :: l2 :: l3 :: l4 :: l5 :: l6 :: l7 :: l8 :: l9 :: l10 :: l11 :: l12 :: l13 :: .val (.int x) :: L) S k n H Q := W_ist (rfl : (pj lw).1 100 158 = some (.istore 14, 2, 0)) rfl rfl
theorem w100_160 : W (pj lw) 100 160 (l0 :: l1 :: l2 :: l3 :: l4 :: l5 :: l6 :: l7 :: l8 :: l9 :: l10 :: l11 :: l12 :: .val (.int x) :: L) S k n H Q ↔ W (pj lw) 100 162 (l0 :: l1 :: l2 :: l3 :: l4 :: l5 :: l6 :: l7 :: l8 :: l9 :: l10 :: l11 :: l12 :: .val (.int x) :: L) (.int x :: S) k n H Q := W_s rfl rfl rfl rfl
theorem w100_162 : W (pj lw) 100 162 L (.int x :: S) k n H Q ↔ (if x = 0 then W (pj lw) 100 178 L S k n H Q else W (pj lw) 100 165 L S k n H Q) := W_if_eq (rfl : (pj lw).1 100 162 = some (.ifCond .eq 16, 3, 0)) rfl
theorem w100_165 : W (pj lw) 100 165 (l0 :: l1 :: .val (.int x) :: L) S k n H Q ↔ W (pj lw) 100 166 (l0 :: l1 :: .val (.int x) :: L) (.int x :: S) k n H Q := W_s rfl rfl rfl rfl
theorem w100_166 : W (pj lw) 100 166 (l0 :: l1 :: l2 :: l3 :: l4 :: l5 :: l6 :: l7 :: l8 :: l9 :: l10 :: l11 :: l12 :: l13 :: .val (.int x) :: L) S k n H Q ↔ W (pj lw) 100 168 (l0 :: l1 :: l2 :: l3 :: l4 :: l5 :: l6 :: l7 :: l8 :: l9 :: l10 :: l11 :: l12 :: l13 :: .val (.int x) :: L) (.int x :: S) k n H Q := W_s rfl rfl rfl rfl
theorem w100_168 : W (pj lw) 100 168 L (.int y :: .int x :: S) k n H Q ↔ W (pj lw) 100 169 L (.int (x >>> (y &&& 31)) :: S) k n H Q := W_s rfl rfl rfl rfl
theorem w100_169 : W (pj lw) 100 169 L S k n H Q ↔ W (pj lw) 100 170 L (.int 1 :: S) k n H Q := W_s rfl rfl rfl rfl
theorem w100_170 : W (pj lw) 100 170 L (.int y :: .int x :: S) k n H Q ↔ W (pj lw) 100 171 L (.int (x &&& y) :: S) k n H Q := W_s rfl rfl rfl rfl
theorem w100_171 : W (pj lw) 100 171 L (.int x :: S) k n H Q ↔ (if x = 0 then W (pj lw) 100 178 L S k n H Q else W (pj lw) 100 174 L S k n H Q) := W_if_eq (rfl : (pj lw).1 100 171 = some (.ifCond .eq 7, 3, 0)) rfl
theorem w100_174 : W (pj lw) 100 174 L S k n H Q ↔ W (pj lw) 100 175 L (.int 1 :: S) k n H Q := W_s rfl rfl rfl rfl
theorem w100_175 : W (pj lw) 100 175 L S k n H Q ↔ W (pj lw) 100 179 L S k n H Q := W_goto rfl rfl
theorem w100_178 : W (pj lw) 100 178 L S k n H Q ↔ W (pj lw) 100 179 L (.int 0 :: S) k n H Q := W_s rfl rfl rfl rfl
theorem w100_179 : W (pj lw) 100 179 (l0 :: l1 :: l2 :: l3 :: l4 :: l5 :: l6 :: l7 :: l8 :: l9 :: l10 :: l11 :: l12 :: l13 :: l14 :: .unset :: L) (.int x :: S) k n H Q ↔ W (pj lw) 100 181 (l0 :: l1 :: l2 :: l3 :: l4 :: l5 :: l6 :: l7 :: l8 :: l9 :: l10 :: l11 :: l12 :: l13 :: l14 :: .val (.int x) :: L) S k n H Q := W_ist (rfl : (pj lw).1 100 179 = some (.istore 15, 2, 0)) rfl rfl
theorem w100_181 : W (pj lw) 100 181 (l0 :: l1 :: l2 :: l3 :: l4 :: l5 :: l6 :: l7 :: l8 :: l9 :: l10 :: l11 :: .val (.int x) :: L) S k n H Q ↔ W (pj lw) 100 183 (l0 :: l1 :: l2 :: l3 :: l4 :: l5 :: l6 :: l7 :: l8 :: l9 :: l10 :: l11 :: .val (.int x) :: L) (.int x :: S) k n H Q := W_s rfl rfl rfl rfl
theorem w100_183 : W (pj lw) 100 183 L S k n H Q ↔ W (pj lw) 100 186 L (.int 10000 :: S) k n H Q := W_s rfl rfl rfl rfl
theorem w100_186 : W (pj lw) 100 186 L (.int y :: .int x :: S) k n H Q ↔ (if y < x then W (pj lw) 100 193 L S k n H Q else W (pj lw) 100 189 L S k n H Q) := W_icmp_gt (rfl : (pj lw).1 100 186 = some (.if_icmp .gt 7, 3, 0)) rfl
theorem w100_189 : W (pj lw) 100 189 L S k n H Q ↔ W (pj lw) 100 190 L (.int 1 :: S) k n H Q := W_s rfl rfl rfl rfl
theorem w100_190 : W (pj lw) 100 190 L S k n H Q ↔ W (pj lw) 100 194 L S k n H Q := W_goto rfl rfl
theorem w100_193 : W (pj lw) 100 193 L S k n H Q ↔ W (pj lw) 100 194 L (.int 0 :: S) k n H Q := W_s rfl rfl rfl rfl
theorem w100_194 : W (pj lw) 100 194 (l0 :: l1 :: l2 :: l3 :: l4 :: l5 :: l6 :: l7 :: l8 :: l9 :: l10 :: l11 :: l12 :: l13 :: l14 :: l15 :: .unset :: L) (.int x :: S) k n H Q ↔ W (pj lw) 100 196 (l0 :: l1 :: l2 :: l3 :: l4 :: l5 :: l6 :: l7 :: l8 :: l9 :: l10 :: l11 :: l12 :: l13 :: l14 :: l15 :: .val (.int x) :: L) S k n H Q := W_ist (rfl : (pj lw).1 100 194 = some (.istore 16, 2, 0)) rfl rfl
theorem w100_196 : W (pj lw) 100 196 (l0 :: l1 :: l2 :: l3 :: l4 :: l5 :: l6 :: l7 :: l8 :: .val (.int x) :: L) S k n H Q ↔ W (pj lw) 100 198 (l0 :: l1 :: l2 :: l3 :: l4 :: l5 :: l6 :: l7 :: l8 :: .val (.int x) :: L) (.int x :: S) k n H Q := W_s rfl rfl rfl rfl
theorem w100_198 : W (pj lw) 100 198 L (.int x :: S) k n H Q ↔ (if x = 0 then W (pj lw) 100 201 L S k n H Q else W (pj lw) 100 246 L S k n H Q) := W_if_ne (rfl : (pj lw).1 100 198 = some (.ifCond .ne 48, 3, 0)) rfl
theorem w100_201 : W (pj lw) 100 201 (l0 :: .val (.ref x) :: L) S k n H Q ↔ W (pj lw) 100 202 (l0 :: .val (.ref x) :: L) (.ref x :: S) k n H Q := W_s rfl rfl rfl rfl
theorem w100_202 : W (pj lw) 100 202 (l0 :: l1 :: l2 :: l3 :: l4 :: l5 :: l6 :: l7 :: l8 :: l9 :: .val (.int x) :: L) S k n H Q ↔ W (pj lw) 100 204 (l0 :: l1 :: l2 :: l3 :: l4 :: l5 :: l6 :: l7 :: l8 :: l9 :: .val (.int x) :: L) (.int x :: S) k n H Q := W_s rfl rfl rfl rfl
theorem w100_204 : W (pj lw) 100 204 (l0 :: l1 :: l2 :: l3 :: l4 :: l5 :: l6 :: l7 :: l8 :: l9 :: l10 :: .val (.int x) :: L) S k n H Q ↔ W (pj lw) 100 206 (l0 :: l1 :: l2 :: l3 :: l4 :: l5 :: l6 :: l7 :: l8 :: l9 :: l10 :: .val (.int x) :: L) (.int x :: S) k n H Q := W_s rfl rfl rfl rfl
theorem w100_206 : W (pj lw) 100 206 (l0 :: l1 :: l2 :: l3 :: l4 :: l5 :: l6 :: l7 :: l8 :: l9 :: l10 :: l11 :: .val (.int x) :: L) S k n H Q ↔ W (pj lw) 100 208 (l0 :: l1 :: l2 :: l3 :: l4 :: l5 :: l6 :: l7 :: l8 :: l9 :: l10 :: l11 :: .val (.int x) :: L) (.int x :: S) k n H Q := W_s rfl rfl rfl rfl
theorem w100_208 : W (pj lw) 100 208 L (.int x2 :: .int x1 :: .int x0 :: .ref a :: S) k n H Q ↔ ((isO H a = true ∧ cs S + (5 + 11) + 13 ≤ 192) ∧ Cl (pj lw) 5 [.ref a, .int x0, .int x1, .int x2] H (fun v H => W (pj lw) 100 211 L (v.toList ++ S) k n H Q)) := W_inst (as := [.int x0, .int x1, .int x2]) (rfl : (pj lw).1 100 208 = some (.invokevirtual 23, 3, 5)) rfl rfl rfl (Nat.le_of_ble_eq_true rfl) (Nat.le_of_ble_eq_true rfl) ⟨rfl, rfl⟩
theorem w100_211 : W (pj lw) 100 211 (l0 :: l1 :: l2 :: l3 :: l4 :: l5 :: l6 :: l7 :: l8 :: l9 :: l10 :: l11 :: l12 :: l13 :: l14 :: l15 :: l16 :: .unset :: L) (.int x :: S) k n H Q ↔ W (pj lw) 100 213 (l0 :: l1 :: l2 :: l3 :: l4 :: l5 :: l6 :: l7 :: l8 :: l9 :: l10 :: l11 :: l12 :: l13 :: l14 :: l15 :: l16 :: .val (.int x) :: L) S k n H Q := W_ist (rfl : (pj lw).1 100 211 = some (.istore 17, 2, 0)) rfl rfl
theorem w100_213 : W (pj lw) 100 213 (l0 :: l1 :: l2 :: l3 :: l4 :: l5 :: l6 :: l7 :: l8 :: l9 :: l10 :: l11 :: l12 :: .val (.int x) :: L) S k n H Q ↔ W (pj lw) 100 215 (l0 :: l1 :: l2 :: l3 :: l4 :: l5 :: l6 :: l7 :: l8 :: l9 :: l10 :: l11 :: l12 :: .val (.int x) :: L) (.int x :: S) k n H Q := W_s rfl rfl rfl rfl
theorem w100_215 : W (pj lw) 100 215 L (.int x :: S) k n H Q ↔ (if x = 0 then W (pj lw) 100 218 L S k n H Q else W (pj lw) 100 222 L S k n H Q) := W_if_ne (rfl : (pj lw).1 100 215 = some (.ifCond .ne 7, 3, 0)) rfl
theorem w100_218 : W (pj lw) 100 218 L S k n H Q ↔ W (pj lw) 100 219 L (.int 1 :: S) k n H Q := W_s rfl rfl rfl rfl
theorem w100_219 : W (pj lw) 100 219 L S k n H Q ↔ W (pj lw) 100 241 L S k n H Q := W_goto rfl rfl
theorem w100_222 : W (pj lw) 100 222 (l0 :: l1 :: l2 :: l3 :: l4 :: l5 :: l6 :: l7 :: l8 :: l9 :: l10 :: l11 :: l12 :: l13 :: l14 :: l15 :: .val (.int x) :: L) S k n H Q ↔ W (pj lw) 100 224 (l0 :: l1 :: l2 :: l3 :: l4 :: l5 :: l6 :: l7 :: l8 :: l9 :: l10 :: l11 :: l12 :: l13 :: l14 :: l15 :: .val (.int x) :: L) (.int x :: S) k n H Q := W_s rfl rfl rfl rfl
theorem w100_224 : W (pj lw) 100 224 L (.int x :: S) k n H Q ↔ (if x = 0 then W (pj lw) 100 227 L S k n H Q else W (pj lw) 100 231 L S k n H Q) := W_if_ne (rfl : (pj lw).1 100 224 = some (.ifCond .ne 7, 3, 0)) rfl
theorem w100_227 : W (pj lw) 100 227 L S k n H Q ↔ W (pj lw) 100 228 L (.int 2 :: S) k n H Q := W_s rfl rfl rfl rfl
theorem w100_228 : W (pj lw) 100 228 L S k n H Q ↔ W (pj lw) 100 241 L S k n H Q := W_goto rfl rfl
theorem w100_231 : W (pj lw) 100 231 (l0 :: l1 :: l2 :: l3 :: l4 :: l5 :: l6 :: l7 :: l8 :: l9 :: l10 :: l11 :: l12 :: l13 :: l14 :: .val (.int x) :: L) S k n H Q ↔ W (pj lw) 100 233 (l0 :: l1 :: l2 :: l3 :: l4 :: l5 :: l6 :: l7 :: l8 :: l9 :: l10 :: l11 :: l12 :: l13 :: l14 :: .val (.int x) :: L) (.int x :: S) k n H Q := W_s rfl rfl rfl rfl
theorem w100_233 : W (pj lw) 100 233 L (.int x :: S) k n H Q ↔ (if x = 0 then W (pj lw) 100 240 L S k n H Q else W (pj lw) 100 236 L S k n H Q) := W_if_eq (rfl : (pj lw).1 100 233 = some (.ifCond .eq 7, 3, 0)) rfl
theorem w100_236 : W (pj lw) 100 236 L S k n H Q ↔ W (pj lw) 100 237 L (.int 3 :: S) k n H Q := W_s rfl rfl rfl rfl
theorem w100_237 : W (pj lw) 100 237 L S k n H Q ↔ W (pj lw) 100 241 L S k n H Q := W_goto rfl rfl
theorem w100_240 : W (pj lw) 100 240 L S k n H Q ↔ W (pj lw) 100 241 L (.int 0 :: S) k n H Q := W_s rfl rfl rfl rfl
theorem w100_241 : W (pj lw) 100 241 (l0 :: l1 :: l2 :: l3 :: l4 :: l5 :: l6 :: l7 :: l8 :: l9 :: l10 :: l11 :: l12 :: l13 :: l14 :: l15 :: l16 :: l17 :: .unset :: L) (.int x :: S) k n H Q ↔ W (pj lw) 100 243 (l0 :: l1 :: l2 :: l3 :: l4 :: l5 :: l6 :: l7 :: l8 :: l9 :: l10 :: l11 :: l12 :: l13 :: l14 :: l15 :: l16 :: l17 :: .val (.int x) :: L) S k n H Q := W_ist (rfl : (pj lw).1 100 241 = some (.istore 18, 2, 0)) rfl rfl
theorem w100_243 : W (pj lw) 100 243 L S k n H Q ↔ W (pj lw) 100 373 L S k n H Q := W_goto rfl rfl
theorem w100_246 : W (pj lw) 100 246 (l0 :: l1 :: l2 :: l3 :: l4 :: l5 :: l6 :: l7 :: l8 :: .val (.int x) :: L) S k n H Q ↔ W (pj lw) 100 248 (l0 :: l1 :: l2 :: l3 :: l4 :: l5 :: l6 :: l7 :: l8 :: .val (.int x) :: L) (.int x :: S) k n H Q := W_s rfl rfl rfl rfl
theorem w100_248 : W (pj lw) 100 248 L S k n H Q ↔ W (pj lw) 100 249 L (.int 1 :: S) k n H Q := W_s rfl rfl rfl rfl
theorem w100_249 : W (pj lw) 100 249 L (.int y :: .int x :: S) k n H Q ↔ (if x = y then W (pj lw) 100 252 L S k n H Q else W (pj lw) 100 286 L S k n H Q) := W_icmp_ne (rfl : (pj lw).1 100 249 = some (.if_icmp .ne 37, 3, 0)) rfl
theorem w100_252 : W (pj lw) 100 252 (l0 :: .val (.ref x) :: L) S k n H Q ↔ W (pj lw) 100 253 (l0 :: .val (.ref x) :: L) (.ref x :: S) k n H Q := W_s rfl rfl rfl rfl
theorem w100_253 : W (pj lw) 100 253 (l0 :: l1 :: l2 :: l3 :: l4 :: l5 :: l6 :: l7 :: l8 :: l9 :: .val (.int x) :: L) S k n H Q ↔ W (pj lw) 100 255 (l0 :: l1 :: l2 :: l3 :: l4 :: l5 :: l6 :: l7 :: l8 :: l9 :: .val (.int x) :: L) (.int x :: S) k n H Q := W_s rfl rfl rfl rfl
theorem w100_255 : W (pj lw) 100 255 (l0 :: l1 :: l2 :: l3 :: l4 :: l5 :: l6 :: l7 :: l8 :: l9 :: l10 :: .val (.int x) :: L) S k n H Q ↔ W (pj lw) 100 257 (l0 :: l1 :: l2 :: l3 :: l4 :: l5 :: l6 :: l7 :: l8 :: l9 :: l10 :: .val (.int x) :: L) (.int x :: S) k n H Q := W_s rfl rfl rfl rfl
theorem w100_257 : W (pj lw) 100 257 L (.int x1 :: .int x0 :: .ref a :: S) k n H Q ↔ ((isO H a = true ∧ cs S + (4 + 11) + 13 ≤ 192) ∧ Cl (pj lw) 6 [.ref a, .int x0, .int x1] H (fun v H => W (pj lw) 100 260 L (v.toList ++ S) k n H Q)) := W_inst (as := [.int x0, .int x1]) (rfl : (pj lw).1 100 257 = some (.invokevirtual 27, 3, 6)) rfl rfl rfl (Nat.le_of_ble_eq_true rfl) (Nat.le_of_ble_eq_true rfl) ⟨rfl, rfl⟩
theorem w100_260 : W (pj lw) 100 260 (l0 :: l1 :: l2 :: l3 :: l4 :: l5 :: l6 :: l7 :: l8 :: l9 :: l10 :: l11 :: l12 :: l13 :: l14 :: l15 :: l16 :: .unset :: L) (.int x :: S) k n H Q ↔ W (pj lw) 100 262 (l0 :: l1 :: l2 :: l3 :: l4 :: l5 :: l6 :: l7 :: l8 :: l9 :: l10 :: l11 :: l12 :: l13 :: l14 :: l15 :: l16 :: .val (.int x) :: L) S k n H Q := W_ist (rfl : (pj lw).1 100 260 = some (.istore 17, 2, 0)) rfl rfl
theorem w100_262 : W (pj lw) 100 262 (l0 :: l1 :: l2 :: l3 :: l4 :: l5 :: l6 :: l7 :: l8 :: l9 :: l10 :: l11 :: l12 :: .val (.int x) :: L) S k n H Q ↔ W (pj lw) 100 264 (l0 :: l1 :: l2 :: l3 :: l4 :: l5 :: l6 :: l7 :: l8 :: l9 :: l10 :: l11 :: l12 :: .val (.int x) :: L) (.int x :: S) k n H Q := W_s rfl rfl rfl rfl
theorem w100_264 : W (pj lw) 100 264 L (.int x :: S) k n H Q ↔ (if x = 0 then W (pj lw) 100 267 L S k n H Q else W (pj lw) 100 271 L S k n H Q) := W_if_ne (rfl : (pj lw).1 100 264 = some (.ifCond .ne 7, 3, 0)) rfl
theorem w100_267 : W (pj lw) 100 267 L S k n H Q ↔ W (pj lw) 100 268 L (.int 1 :: S) k n H Q := W_s rfl rfl rfl rfl
theorem w100_268 : W (pj lw) 100 268 L S k n H Q ↔ W (pj lw) 100 281 L S k n H Q := W_goto rfl rfl
theorem w100_271 : W (pj lw) 100 271 (l0 :: l1 :: l2 :: l3 :: l4 :: l5 :: l6 :: l7 :: l8 :: l9 :: l10 :: l11 :: l12 :: l13 :: l14 :: .val (.int x) :: L) S k n H Q ↔ W (pj lw) 100 273 (l0 :: l1 :: l2 :: l3 :: l4 :: l5 :: l6 :: l7 :: l8 :: l9 :: l10 :: l11 :: l12 :: l13 :: l14 :: .val (.int x) :: L) (.int x :: S) k n H Q := W_s rfl rfl rfl rfl
theorem w100_273 : W (pj lw) 100 273 L (.int x :: S) k n H Q ↔ (if x = 0 then W (pj lw) 100 276 L S k n H Q else W (pj lw) 100 280 L S k n H Q) := W_if_ne (rfl : (pj lw).1 100 273 = some (.ifCond .ne 7, 3, 0)) rfl
theorem w100_276 : W (pj lw) 100 276 L S k n H Q ↔ W (pj lw) 100 277 L (.int 4 :: S) k n H Q := W_s rfl rfl rfl rfl
theorem w100_277 : W (pj lw) 100 277 L S k n H Q ↔ W (pj lw) 100 281 L S k n H Q := W_goto rfl rfl
theorem w100_280 : W (pj lw) 100 280 L S k n H Q ↔ W (pj lw) 100 281 L (.int 0 :: S) k n H Q := W_s rfl rfl rfl rfl
theorem w100_281 : W (pj lw) 100 281 (l0 :: l1 :: l2 :: l3 :: l4 :: l5 :: l6 :: l7 :: l8 :: l9 :: l10 :: l11 :: l12 :: l13 :: l14 :: l15 :: l16 :: l17 :: .unset :: L) (.int x :: S) k n H Q ↔ W (pj lw) 100 283 (l0 :: l1 :: l2 :: l3 :: l4 :: l5 :: l6 :: l7 :: l8 :: l9 :: l10 :: l11 :: l12 :: l13 :: l14 :: l15 :: l16 :: l17 :: .val (.int x) :: L) S k n H Q := W_ist (rfl : (pj lw).1 100 281 = some (.istore 18, 2, 0)) rfl rfl
theorem w100_283 : W (pj lw) 100 283 L S k n H Q ↔ W (pj lw) 100 373 L S k n H Q := W_goto rfl rfl
theorem w100_286 : W (pj lw) 100 286 (l0 :: l1 :: l2 :: l3 :: l4 :: l5 :: l6 :: l7 :: l8 :: .val (.int x) :: L) S k n H Q ↔ W (pj lw) 100 288 (l0 :: l1 :: l2 :: l3 :: l4 :: l5 :: l6 :: l7 :: l8 :: .val (.int x) :: L) (.int x :: S) k n H Q := W_s rfl rfl rfl rfl
theorem w100_288 : W (pj lw) 100 288 L S k n H Q ↔ W (pj lw) 100 289 L (.int 2 :: S) k n H Q := W_s rfl rfl rfl rfl
theorem w100_289 : W (pj lw) 100 289 L (.int y :: .int x :: S) k n H Q ↔ (if x = y then W (pj lw) 100 292 L S k n H Q else W (pj lw) 100 337 L S k n H Q) := W_icmp_ne (rfl : (pj lw).1 100 289 = some (.if_icmp .ne 48, 3, 0)) rfl
theorem w100_292 : W (pj lw) 100 292 (l0 :: .val (.ref x) :: L) S k n H Q ↔ W (pj lw) 100 293 (l0 :: .val (.ref x) :: L) (.ref x :: S) k n H Q := W_s rfl rfl rfl rfl
theorem w100_293 : W (pj lw) 100 293 (l0 :: l1 :: l2 :: l3 :: l4 :: l5 :: l6 :: l7 :: l8 :: l9 :: .val (.int x) :: L) S k n H Q ↔ W (pj lw) 100 295 (l0 :: l1 :: l2 :: l3 :: l4 :: l5 :: l6 :: l7 :: l8 :: l9 :: .val (.int x) :: L) (.int x :: S) k n H Q := W_s rfl rfl rfl rfl
theorem w100_295 : W (pj lw) 100 295 (l0 :: l1 :: l2 :: l3 :: l4 :: l5 :: l6 :: l7 :: l8 :: l9 :: l10 :: .val (.int x) :: L) S k n H Q ↔ W (pj lw) 100 297 (l0 :: l1 :: l2 :: l3 :: l4 :: l5 :: l6 :: l7 :: l8 :: l9 :: l10 :: .val (.int x) :: L) (.int x :: S) k n H Q := W_s rfl rfl rfl rfl
theorem w100_297 : W (pj lw) 100 297 (l0 :: l1 :: l2 :: l3 :: l4 :: l5 :: l6 :: l7 :: l8 :: l9 :: l10 :: l11 :: .val (.int x) :: L) S k n H Q ↔ W (pj lw) 100 299 (l0 :: l1 :: l2 :: l3 :: l4 :: l5 :: l6 :: l7 :: l8 :: l9 :: l10 :: l11 :: .val (.int x) :: L) (.int x :: S) k n H Q := W_s rfl rfl rfl rfl
theorem w100_299 : W (pj lw) 100 299 L (.int x2 :: .int x1 :: .int x0 :: .ref a :: S) k n H Q ↔ ((isO H a = true ∧ cs S + (5 + 11) + 13 ≤ 192) ∧ Cl (pj lw) 7 [.ref a, .int x0, .int x1, .int x2] H (fun v H => W (pj lw) 100 302 L (v.toList ++ S) k n H Q)) := W_inst (as := [.int x0, .int x1, .int x2]) (rfl : (pj lw).1 100 299 = some (.invokevirtual 31, 3, 7)) rfl rfl rfl (Nat.le_of_ble_eq_true rfl) (Nat.le_of_ble_eq_true rfl) ⟨rfl, rfl⟩
theorem w100_302 : W (pj lw) 100 302 (l0 :: l1 :: l2 :: l3 :: l4 :: l5 :: l6 :: l7 :: l8 :: l9 :: l10 :: l11 :: l12 :: l13 :: l14 :: l15 :: l16 :: .unset :: L) (.int x :: S) k n H Q ↔ W (pj lw) 100 304 (l0 :: l1 :: l2 :: l3 :: l4 :: l5 :: l6 :: l7 :: l8 :: l9 :: l10 :: l11 :: l12 :: l13 :: l14 :: l15 :: l16 :: .val (.int x) :: L) S k n H Q := W_ist (rfl : (pj lw).1 100 302 = some (.istore 17, 2, 0)) rfl rfl
theorem w100_304 : W (pj lw) 100 304 (l0 :: l1 :: l2 :: l3 :: l4 :: l5 :: l6 :: l7 :: l8 :: l9 :: l10 :: l11 :: l12 :: .val (.int x) :: L) S k n H Q ↔ W (pj lw) 100 306 (l0 :: l1 :: l2 :: l3 :: l4 :: l5 :: l6 :: l7 :: l8 :: l9 :: l10 :: l11 :: l12 :: .val (.int x) :: L) (.int x :: S) k n H Q := W_s rfl rfl rfl rfl
theorem w100_306 : W (pj lw) 100 306 L (.int x :: S) k n H Q ↔ (if x = 0 then W (pj lw) 100 309 L S k n H Q else W (pj lw) 100 313 L S k n H Q) := W_if_ne (rfl : (pj lw).1 100 306 = some (.ifCond .ne 7, 3, 0)) rfl
theorem w100_309 : W (pj lw) 100 309 L S k n H Q ↔ W (pj lw) 100 310 L (.int 1 :: S) k n H Q := W_s rfl rfl rfl rfl
theorem w100_310 : W (pj lw) 100 310 L S k n H Q ↔ W (pj lw) 100 332 L S k n H Q := W_goto rfl rfl
theorem w100_313 : W (pj lw) 100 313 (l0 :: l1 :: l2 :: l3 :: l4 :: l5 :: l6 :: l7 :: l8 :: l9 :: l10 :: l11 :: l12 :: l13 :: l14 :: l15 :: .val (.int x) :: L) S k n H Q ↔ W (pj lw) 100 315 (l0 :: l1 :: l2 :: l3 :: l4 :: l5 :: l6 :: l7 :: l8 :: l9 :: l10 :: l11 :: l12 :: l13 :: l14 :: l15 :: .val (.int x) :: L) (.int x :: S) k n H Q := W_s rfl rfl rfl rfl
theorem w100_315 : W (pj lw) 100 315 L (.int x :: S) k n H Q ↔ (if x = 0 then W (pj lw) 100 318 L S k n H Q else W (pj lw) 100 322 L S k n H Q) := W_if_ne (rfl : (pj lw).1 100 315 = some (.ifCond .ne 7, 3, 0)) rfl
theorem w100_318 : W (pj lw) 100 318 L S k n H Q ↔ W (pj lw) 100 319 L (.int 2 :: S) k n H Q := W_s rfl rfl rfl rfl
theorem w100_319 : W (pj lw) 100 319 L S k n H Q ↔ W (pj lw) 100 332 L S k n H Q := W_goto rfl rfl
theorem w100_322 : W (pj lw) 100 322 (l0 :: l1 :: l2 :: l3 :: l4 :: l5 :: l6 :: l7 :: l8 :: l9 :: l10 :: l11 :: l12 :: l13 :: l14 :: .val (.int x) :: L) S k n H Q ↔ W (pj lw) 100 324 (l0 :: l1 :: l2 :: l3 :: l4 :: l5 :: l6 :: l7 :: l8 :: l9 :: l10 :: l11 :: l12 :: l13 :: l14 :: .val (.int x) :: L) (.int x :: S) k n H Q := W_s rfl rfl rfl rfl
theorem w100_324 : W (pj lw) 100 324 L (.int x :: S) k n H Q ↔ (if x = 0 then W (pj lw) 100 327 L S k n H Q else W (pj lw) 100 331 L S k n H Q) := W_if_ne (rfl : (pj lw).1 100 324 = some (.ifCond .ne 7, 3, 0)) rfl
theorem w100_327 : W (pj lw) 100 327 L S k n H Q ↔ W (pj lw) 100 328 L (.int 4 :: S) k n H Q := W_s rfl rfl rfl rfl
theorem w100_328 : W (pj lw) 100 328 L S k n H Q ↔ W (pj lw) 100 332 L S k n H Q := W_goto rfl rfl
theorem w100_331 : W (pj lw) 100 331 L S k n H Q ↔ W (pj lw) 100 332 L (.int 0 :: S) k n H Q := W_s rfl rfl rfl rfl
theorem w100_332 : W (pj lw) 100 332 (l0 :: l1 :: l2 :: l3 :: l4 :: l5 :: l6 :: l7 :: l8 :: l9 :: l10 :: l11 :: l12 :: l13 :: l14 :: l15 :: l16 :: l17 :: .unset :: L) (.int x :: S) k n H Q ↔ W (pj lw) 100 334 (l0 :: l1 :: l2 :: l3 :: l4 :: l5 :: l6 :: l7 :: l8 :: l9 :: l10 :: l11 :: l12 :: l13 :: l14 :: l15 :: l16 :: l17 :: .val (.int x) :: L) S k n H Q := W_ist (rfl : (pj lw).1 100 332 = some (.istore 18, 2, 0)) rfl rfl
theorem w100_334 : W (pj lw) 100 334 L S k n H Q ↔ W (pj lw) 100 373 L S k n H Q := W_goto rfl rfl
theorem w100_337 : W (pj lw) 100 337 (l0 :: .val (.ref x) :: L) S k n H Q ↔ W (pj lw) 100 338 (l0 :: .val (.ref x) :: L) (.ref x :: S) k n H Q := W_s rfl rfl rfl rfl
theorem w100_338 : W (pj lw) 100 338 L (.ref a :: S) k n H Q ↔ ((isO H a = true ∧ cs S + (3 + 11) + 37 ≤ 192) ∧ Cl (pj lw) 12 [.ref a] H (fun v H => W (pj lw) 100 341 L (v.toList ++ S) k n H Q)) := W_inst (as := []) (rfl : (pj lw).1 100 338 = some (.invokevirtual 34, 3, 12)) rfl rfl rfl (Nat.le_of_ble_eq_true rfl) (Nat.le_of_ble_eq_true rfl) ⟨rfl, rfl⟩
theorem w100_341 : W (pj lw) 100 341 (l0 :: l1 :: l2 :: l3 :: l4 :: l5 :: l6 :: l7 :: l8 :: l9 :: l10 :: l11 :: l12 :: l13 :: l14 :: l15 :: l16 :: .unset :: L) (.int x :: S) k n H Q ↔ W (pj lw) 100 343 (l0 :: l1 :: l2 :: l3 :: l4 :: l5 :: l6 :: l7 :: l8 :: l9 :: l10 :: l11 :: l12 :: l13 :: l14 :: l15 :: l16 :: .val (.int x) :: L) S k n H Q := W_ist (rfl : (pj lw).1 100 341 = some (.istore 17, 2, 0)) rfl rfl
theorem w100_343 : W (pj lw) 100 343 (l0 :: l1 :: .val (.int x) :: L) S k n H Q ↔ W (pj lw) 100 344 (l0 :: l1 :: .val (.int x) :: L) (.int x :: S) k n H Q := W_s rfl rfl rfl rfl
theorem w100_344 : W (pj lw) 100 344 L (.int x0 :: S) k n H Q ↔ (cs S + (3 + 11) + 17 ≤ 192 ∧ Cl (pj lw) 108 [.int x0] H (fun v H => W (pj lw) 100 347 L (v.toList ++ S) k n H Q)) := W_stat (a := [.int x0]) (rfl : (pj lw).1 100 344 = some (.invokestatic 37, 3, 108)) rfl rfl rfl (Nat.le_of_ble_eq_true rfl) (Nat.le_of_ble_eq_true rfl) ⟨rfl, rfl⟩
theorem w100_347 : W (pj lw) 100 347 L (.int x :: S) k n H Q ↔ (if x = 0 then W (pj lw) 100 354 L S k n H Q else W (pj lw) 100 350 L S k n H Q) := W_if_eq (rfl : (pj lw).1 100 347 = some (.ifCond .eq 7, 3, 0)) rfl
theorem w100_350 : W (pj lw) 100 350 L S k n H Q ↔ W (pj lw) 100 351 L (.int 1 :: S) k n H Q := W_s rfl rfl rfl rfl
theorem w100_351 : W (pj lw) 100 351 L S k n H Q ↔ W (pj lw) 100 355 L S k n H Q := W_goto rfl rfl
theorem w100_354 : W (pj lw) 100 354 L S k n H Q ↔ W (pj lw) 100 355 L (.int 0 :: S) k n H Q := W_s rfl rfl rfl rfl
theorem w100_355 : W (pj lw) 100 355 (l0 :: l1 :: l2 :: l3 :: l4 :: l5 :: l6 :: l7 :: l8 :: l9 :: l10 :: l11 :: l12 :: l13 :: l14 :: l15 :: l16 :: l17 :: .unset :: L) (.int x :: S) k n H Q ↔ W (pj lw) 100 357 (l0 :: l1 :: l2 :: l3 :: l4 :: l5 :: l6 :: l7 :: l8 :: l9 :: l10 :: l11 :: l12 :: l13 :: l14 :: l15 :: l16 :: l17 :: .val (.int x) :: L) S k n H Q := W_ist (rfl : (pj lw).1 100 355 = some (.istore 18, 2, 0)) rfl rfl
theorem w100_357 : W (pj lw) 100 357 L S k n H Q ↔ W (pj lw) 100 358 L (.int 1 :: S) k n H Q := W_s rfl rfl rfl rfl
theorem w100_358i : W (pj lw) 100 358 (l0 :: l1 :: l2 :: l3 :: l4 :: l5 :: .val (.int y) :: L) (.int x :: S) k n H Q ↔ W (pj lw) 100 360 (l0 :: l1 :: l2 :: l3 :: l4 :: l5 :: .val (.int x) :: L) S k n H Q := W_ist (rfl : (pj lw).1 100 358 = some (.istore 6, 2, 0)) rfl rfl
theorem w100_360 : W (pj lw) 100 360 (l0 :: l1 :: l2 :: l3 :: l4 :: l5 :: l6 :: l7 :: l8 :: l9 :: l10 :: l11 :: l12 :: l13 :: l14 :: l15 :: l16 :: .val (.int x) :: L) S k n H Q ↔ W (pj lw) 100 362 (l0 :: l1 :: l2 :: l3 :: l4 :: l5 :: l6 :: l7 :: l8 :: l9 :: l10 :: l11 :: l12 :: l13 :: l14 :: l15 :: l16 :: .val (.int x) :: L) (.int x :: S) k n H Q := W_s rfl rfl rfl rfl
theorem w100_362 : W (pj lw) 100 362 L S k n H Q ↔ W (pj lw) 100 363 L (.int 1 :: S) k n H Q := W_s rfl rfl rfl rfl
theorem w100_363 : W (pj lw) 100 363 L (.int y :: .int x :: S) k n H Q ↔ (if x = y then W (pj lw) 100 366 L S k n H Q else W (pj lw) 100 370 L S k n H Q) := W_icmp_ne (rfl : (pj lw).1 100 363 = some (.if_icmp .ne 7, 3, 0)) rfl
theorem w100_366 : W (pj lw) 100 366 L S k n H Q ↔ W (pj lw) 100 367 L (.int 1 :: S) k n H Q := W_s rfl rfl rfl rfl
theorem w100_367 : W (pj lw) 100 367 L S k n H Q ↔ W (pj lw) 100 371 L S k n H Q := W_goto rfl rfl
theorem w100_370 : W (pj lw) 100 370 L S k n H Q ↔ W (pj lw) 100 371 L (.int 0 :: S) k n H Q := W_s rfl rfl rfl rfl
theorem w100_371i : W (pj lw) 100 371 (l0 :: l1 :: l2 :: l3 :: l4 :: l5 :: l6 :: .val (.int y) :: L) (.int x :: S) k n H Q ↔ W (pj lw) 100 373 (l0 :: l1 :: l2 :: l3 :: l4 :: l5 :: l6 :: .val (.int x) :: L) S k n H Q := W_ist (rfl : (pj lw).1 100 371 = some (.istore 7, 2, 0)) rfl rfl
theorem w100_373 : W (pj lw) 100 373 (l0 :: l1 :: l2 :: l3 :: l4 :: l5 :: l6 :: l7 :: l8 :: l9 :: l10 :: l11 :: l12 :: l13 :: l14 :: l15 :: l16 :: .val (.int x) :: L) S k n H Q ↔ W (pj lw) 100 375 (l0 :: l1 :: l2 :: l3 :: l4 :: l5 :: l6 :: l7 :: l8 :: l9 :: l10 :: l11 :: l12 :: l13 :: l14 :: l15 :: l16 :: .val (.int x) :: L) (.int x :: S) k n H Q := W_s rfl rfl rfl rfl
theorem w100_375 : W (pj lw) 100 375 (l0 :: l1 :: l2 :: l3 :: l4 :: l5 :: l6 :: l7 :: l8 :: l9 :: l10 :: l11 :: l12 :: l13 :: l14 :: l15 :: l16 :: l17 :: .val (.int x) :: L) S k n H Q ↔ W (pj lw) 100 377 (l0 :: l1 :: l2 :: l3 :: l4 :: l5 :: l6 :: l7 :: l8 :: l9 :: l10 :: l11 :: l12 :: l13 :: l14 :: l15 :: l16 :: l17 :: .val (.int x) :: L) (.int x :: S) k n H Q := W_s rfl rfl rfl rfl
theorem w100_377 : W (pj lw) 100 377 L (.int y :: .int x :: S) k n H Q ↔ (if x = y then W (pj lw) 100 382 L S k n H Q else W (pj lw) 100 380 L S k n H Q) := W_icmp_eq (rfl : (pj lw).1 100 377 = some (.if_icmp .eq 5, 3, 0)) rfl
theorem w100_382 : W (pj lw) 100 382 (l0 :: l1 :: l2 :: l3 :: l4 :: l5 :: l6 :: l7 :: l8 :: .val (.int x) :: L) S k n H Q ↔ W (pj lw) 100 384 (l0 :: l1 :: l2 :: l3 :: l4 :: l5 :: l6 :: l7 :: l8 :: .val (.int x) :: L) (.int x :: S) k n H Q := W_s rfl rfl rfl rfl
theorem w100_384 : W (pj lw) 100 384 L S k n H Q ↔ W (pj lw) 100 385 L (.int 3 :: S) k n H Q := W_s rfl rfl rfl rfl
theorem w100_385 : W (pj lw) 100 385 L (.int y :: .int x :: S) k n H Q ↔ (if x < y then W (pj lw) 100 388 L S k n H Q else W (pj lw) 100 451 L S k n H Q) := W_icmp_ge (rfl : (pj lw).1 100 385 = some (.if_icmp .ge 66, 3, 0)) rfl
theorem w100_388 : W (pj lw) 100 388 (l0 :: l1 :: l2 :: l3 :: l4 :: l5 :: l6 :: l7 :: l8 :: l9 :: l10 :: l11 :: l12 :: l13 :: l14 :: l15 :: l16 :: l17 :: .val (.int x) :: L) S k n H Q ↔ W (pj lw) 100 390 (l0 :: l1 :: l2 :: l3 :: l4 :: l5 :: l6 :: l7 :: l8 :: l9 :: l10 :: l11 :: l12 :: l13 :: l14 :: l15 :: l16 :: l17 :: .val (.int x) :: L) (.int x :: S) k n H Q := W_s rfl rfl rfl rfl
theorem w100_390 : W (pj lw) 100 390 L (.int x :: S) k n H Q ↔ (if x = 0 then W (pj lw) 100 393 L S k n H Q else W (pj lw) 100 451 L S k n H Q) := W_if_ne (rfl : (pj lw).1 100 390 = some (.ifCond .ne 61, 3, 0)) rfl
theorem w100_393 : W (pj lw) 100 393 L S k n H Q ↔ W (pj lw) 100 394 L (.int 0 :: S) k n H Q := W_s rfl rfl rfl rfl
theorem w100_394i : W (pj lw) 100 394 (l0 :: l1 :: l2 :: l3 :: l4 :: l5 :: .val (.int y) :: L) (.int x :: S) k n H Q ↔ W (pj lw) 100 396 (l0 :: l1 :: l2 :: l3 :: l4 :: l5 :: .val (.int x) :: L) S k n H Q := W_ist (rfl : (pj lw).1 100 394 = some (.istore 6, 2, 0)) rfl rfl
theorem w100_396 : W (pj lw) 100 396 L S k n H Q ↔ W (pj lw) 100 397 L (.int 0 :: S) k n H Q := W_s rfl rfl rfl rfl
theorem w100_397i : W (pj lw) 100 397 (l0 :: l1 :: l2 :: l3 :: l4 :: l5 :: l6 :: .val (.int y) :: L) (.int x :: S) k n H Q ↔ W (pj lw) 100 399 (l0 :: l1 :: l2 :: l3 :: l4 :: l5 :: l6 :: .val (.int x) :: L) S k n H Q := W_ist (rfl : (pj lw).1 100 397 = some (.istore 7, 2, 0)) rfl rfl
theorem w100_399 : W (pj lw) 100 399 (l0 :: l1 :: l2 :: l3 :: l4 :: l5 :: l6 :: l7 :: l8 :: .val (.int x) :: L) S k n H Q ↔ W (pj lw) 100 401 (l0 :: l1 :: l2 :: l3 :: l4 :: l5 :: l6 :: l7 :: l8 :: .val (.int x) :: L) (.int x :: S) k n H Q := W_s rfl rfl rfl rfl
theorem w100_401 : W (pj lw) 100 401 L (.int x :: S) k n H Q ↔ (if x = 0 then W (pj lw) 100 404 L S k n H Q else W (pj lw) 100 414 L S k n H Q) := W_if_ne (rfl : (pj lw).1 100 401 = some (.ifCond .ne 13, 3, 0)) rfl
theorem w100_404 : W (pj lw) 100 404 (l0 :: l1 :: .val (.int x) :: L) S k n H Q ↔ W (pj lw) 100 405 (l0 :: l1 :: .val (.int x) :: L) (.int x :: S) k n H Q := W_s rfl rfl rfl rfl
theorem w100_405 : W (pj lw) 100 405 L S k n H Q ↔ W (pj lw) 100 406 L (.int 1 :: S) k n H Q := W_s rfl rfl rfl rfl
theorem w100_406 : W (pj lw) 100 406 (l0 :: l1 :: l2 :: l3 :: l4 :: l5 :: l6 :: l7 :: l8 :: l9 :: l10 :: l11 :: l12 :: l13 :: .val (.int x) :: L) S k n H Q ↔ W (pj lw) 100 408 (l0 :: l1 :: l2 :: l3 :: l4 :: l5 :: l6 :: l7 :: l8 :: l9 :: l10 :: l11 :: l12 :: l13 :: .val (.int x) :: L) (.int x :: S) k n H Q := W_s rfl rfl rfl rfl
theorem w100_408 : W (pj lw) 100 408 L (.int y :: .int x :: S) k n H Q ↔ W (pj lw) 100 409 L (.int (x <<< (y &&& 31)) :: S) k n H Q := W_s rfl rfl rfl rfl
theorem w100_409 : W (pj lw) 100 409 L (.int y :: .int x :: S) k n H Q ↔ W (pj lw) 100 410 L (.int (x ||| y) :: S) k n H Q := W_s rfl rfl rfl rfl
theorem w100_410i : W (pj lw) 100 410 (l0 :: l1 :: .val (.int y) :: L) (.int x :: S) k n H Q ↔ W (pj lw) 100 411 (l0 :: l1 :: .val (.int x) :: L) S k n H Q := W_istn (rfl : (pj lw).1 100 410 = some (.istore_n 2, 1, 0)) rfl rfl
theorem w100_411 : W (pj lw) 100 411 (l0 :: l1 :: l2 :: l3 :: l4 :: .val (.int x) :: L) S k n H Q ↔ W (pj lw) 100 414 (l0 :: l1 :: l2 :: l3 :: l4 :: .val (.int (x + 1)) :: L) S k n H Q := W_s rfl rfl rfl rfl
theorem w100_414 : W (pj lw) 100 414 (l0 :: l1 :: l2 :: l3 :: l4 :: l5 :: l6 :: l7 :: l8 :: .val (.int x) :: L) S k n H Q ↔ W (pj lw) 100 416 (l0 :: l1 :: l2 :: l3 :: l4 :: l5 :: l6 :: l7 :: l8 :: .val (.int x) :: L) (.int x :: S) k n H Q := W_s rfl rfl rfl rfl
theorem w100_416 : W (pj lw) 100 416 L S k n H Q ↔ W (pj lw) 100 417 L (.int 1 :: S) k n H Q := W_s rfl rfl rfl rfl
theorem w100_417 : W (pj lw) 100 417 L (.int y :: .int x :: S) k n H Q ↔ (if x = y then W (pj lw) 100 420 L S k n H Q else W (pj lw) 100 432 L S k n H Q) := W_icmp_ne (rfl : (pj lw).1 100 417 = some (.if_icmp .ne 15, 3, 0)) rfl
theorem w100_420 : W (pj lw) 100 420 (l0 :: l1 :: .val (.int x) :: L) S k n H Q ↔ W (pj lw) 100 421 (l0 :: l1 :: .val (.int x) :: L) (.int x :: S) k n H Q := W_s rfl rfl rfl rfl
theorem w100_421 : W (pj lw) 100 421 L S k n H Q ↔ W (pj lw) 100 422 L (.int 1 :: S) k n H Q := W_s rfl rfl rfl rfl
theorem w100_422 : W (pj lw) 100 422 (l0 :: l1 :: l2 :: l3 :: l4 :: l5 :: l6 :: l7 :: l8 :: l9 :: l10 :: l11 :: l12 :: l13 :: .val (.int x) :: L) S k n H Q ↔ W (pj lw) 100 424 (l0 :: l1 :: l2 :: l3 :: l4 :: l5 :: l6 :: l7 :: l8 :: l9 :: l10 :: l11 :: l12 :: l13 :: .val (.int x) :: L) (.int x :: S) k n H Q := W_s rfl rfl rfl rfl
theorem w100_424 : W (pj lw) 100 424 L (.int y :: .int x :: S) k n H Q ↔ W (pj lw) 100 425 L (.int (x <<< (y &&& 31)) :: S) k n H Q := W_s rfl rfl rfl rfl
theorem w100_425 : W (pj lw) 100 425 L S k n H Q ↔ W (pj lw) 100 426 L (.int (-1) :: S) k n H Q := W_s rfl rfl rfl rfl
theorem w100_426 : W (pj lw) 100 426 L (.int y :: .int x :: S) k n H Q ↔ W (pj lw) 100 427 L (.int (x ^^^ y) :: S) k n H Q := W_s rfl rfl rfl rfl
theorem w100_427 : W (pj lw) 100 427 L (.int y :: .int x :: S) k n H Q ↔ W (pj lw) 100 428 L (.int (x &&& y) :: S) k n H Q := W_s rfl rfl rfl rfl
theorem w100_428i : W (pj lw) 100 428 (l0 :: l1 :: .val (.int y) :: L) (.int x :: S) k n H Q ↔ W (pj lw) 100 429 (l0 :: l1 :: .val (.int x) :: L) S k n H Q := W_istn (rfl : (pj lw).1 100 428 = some (.istore_n 2, 1, 0)) rfl rfl
theorem w100_429 : W (pj lw) 100 429 (l0 :: l1 :: l2 :: l3 :: l4 :: .val (.int x) :: L) S k n H Q ↔ W (pj lw) 100 432 (l0 :: l1 :: l2 :: l3 :: l4 :: .val (.int (x + (-1))) :: L) S k n H Q := W_s rfl rfl rfl rfl
theorem w100_432 : W (pj lw) 100 432 (l0 :: l1 :: l2 :: .val (.long x) :: L) S k n H Q ↔ W (pj lw) 100 433 (l0 :: l1 :: l2 :: .val (.long x) :: L) (.long x :: S) k n H Q := W_s rfl rfl rfl rfl
theorem w100_433 : W (pj lw) 100 433 (l0 :: l1 :: l2 :: l3 :: l4 :: l5 :: l6 :: l7 :: l8 :: l9 :: l10 :: l11 :: l12 :: l13 :: .val (.int x) :: L) S k n H Q ↔ W (pj lw) 100 435 (l0 :: l1 :: l2 :: l3 :: l4 :: l5 :: l6 :: l7 :: l8 :: l9 :: l10 :: l11 :: l12 :: l13 :: .val (.int x) :: L) (.int x :: S) k n H Q := W_s rfl rfl rfl rfl
theorem w100_435 : W (pj lw) 100 435 (l0 :: l1 :: l2 :: l3 :: l4 :: l5 :: l6 :: l7 :: l8 :: .val (.int x) :: L) S k n H Q ↔ W (pj lw) 100 437 (l0 :: l1 :: l2 :: l3 :: l4 :: l5 :: l6 :: l7 :: l8 :: .val (.int x) :: L) (.int x :: S) k n H Q := W_s rfl rfl rfl rfl
theorem w100_437 : W (pj lw) 100 437 L S k n H Q ↔ W (pj lw) 100 438 L (.int 1 :: S) k n H Q := W_s rfl rfl rfl rfl
theorem w100_438 : W (pj lw) 100 438 L (.int y :: .int x :: S) k n H Q ↔ (if x = y then W (pj lw) 100 441 L S k n H Q else W (pj lw) 100 445 L S k n H Q) := W_icmp_ne (rfl : (pj lw).1 100 438 = some (.if_icmp .ne 7, 3, 0)) rfl
theorem w100_441 : W (pj lw) 100 441 L S k n H Q ↔ W (pj lw) 100 442 L (.int 0 :: S) k n H Q := W_s rfl rfl rfl rfl
theorem w100_442 : W (pj lw) 100 442 L S k n H Q ↔ W (pj lw) 100 447 L S k n H Q := W_goto rfl rfl
theorem w100_445 : W (pj lw) 100 445 (l0 :: l1 :: l2 :: l3 :: l4 :: l5 :: l6 :: l7 :: l8 :: l9 :: l10 :: l11 :: .val (.int x) :: L) S k n H Q ↔ W (pj lw) 100 447 (l0 :: l1 :: l2 :: l3 :: l4 :: l5 :: l6 :: l7 :: l8 :: l9 :: l10 :: l11 :: .val (.int x) :: L) (.int x :: S) k n H Q := W_s rfl rfl rfl rfl
theorem w100_447 : W (pj lw) 100 447 L (.int x2 :: .int x1 :: .long x0 :: S) k n H Q ↔ (cs S + (6 + 11) + 0 ≤ 192 ∧ Cl (pj lw) 106 [.long x0, .int x1, .int x2] H (fun v H => W (pj lw) 100 450 L (v.toList ++ S) k n H Q)) := W_stat (a := [.long x0, .int x1, .int x2]) (rfl : (pj lw).1 100 447 = some (.invokestatic 41, 3, 106)) rfl rfl rfl (Nat.le_of_ble_eq_true rfl) (Nat.le_of_ble_eq_true rfl) ⟨rfl, rfl⟩
theorem w100_450j : W (pj lw) 100 450 (l0 :: l1 :: l2 :: .val (.long y) :: .second :: L) (.long x :: S) k n H Q ↔ W (pj lw) 100 451 (l0 :: l1 :: l2 :: .val (.long x) :: .second :: L) S k n H Q := W_lstn' (rfl : (pj lw).1 100 450 = some (.lstore_n 3, 1, 0)) rfl rfl
theorem w100_451 : W (pj lw) 100 451 (l0 :: .val (.ref x) :: L) S k n H Q ↔ W (pj lw) 100 452 (l0 :: .val (.ref x) :: L) (.ref x :: S) k n H Q := W_s rfl rfl rfl rfl
theorem w100_452 : W (pj lw) 100 452 (l0 :: l1 :: .val (.int x) :: L) S k n H Q ↔ W (pj lw) 100 453 (l0 :: l1 :: .val (.int x) :: L) (.int x :: S) k n H Q := W_s rfl rfl rfl rfl
theorem w100_453 : W (pj lw) 100 453 (l0 :: l1 :: l2 :: .val (.long x) :: L) S k n H Q ↔ W (pj lw) 100 454 (l0 :: l1 :: l2 :: .val (.long x) :: L) (.long x :: S) k n H Q := W_s rfl rfl rfl rfl
theorem w100_454 : W (pj lw) 100 454 (l0 :: l1 :: l2 :: l3 :: l4 :: .val (.int x) :: L) S k n H Q ↔ W (pj lw) 100 456 (l0 :: l1 :: l2 :: l3 :: l4 :: .val (.int x) :: L) (.int x :: S) k n H Q := W_s rfl rfl rfl rfl
theorem w100_456 : W (pj lw) 100 456 (l0 :: l1 :: l2 :: l3 :: l4 :: l5 :: l6 :: .val (.int x) :: L) S k n H Q ↔ W (pj lw) 100 458 (l0 :: l1 :: l2 :: l3 :: l4 :: l5 :: l6 :: .val (.int x) :: L) (.int x :: S) k n H Q := W_s rfl rfl rfl rfl
theorem w100_458 : W (pj lw) 100 458 (l0 :: l1 :: l2 :: l3 :: l4 :: l5 :: .val (.int x) :: L) S k n H Q ↔ W (pj lw) 100 460 (l0 :: l1 :: l2 :: l3 :: l4 :: l5 :: .val (.int x) :: L) (.int x :: S) k n H Q := W_s rfl rfl rfl rfl
theorem w100_460 : W (pj lw) 100 460 L (.int x5 :: .int x4 :: .int x3 :: .long x2 :: .int x1 :: .ref x0 :: S) k n H Q ↔ (cs S + (20 + 11) + 51 ≤ 192 ∧ Cl (pj lw) 103 [.ref x0, .int x1, .long x2, .int x3, .int x4, .int x5] H (fun v H => W (pj lw) 100 463 L (v.toList ++ S) k n H Q)) := W_stat (a := [.ref x0, .int x1, .long x2, .int x3, .int x4, .int x5]) (rfl : (pj lw).1 100 460 = some (.invokestatic 16, 3, 103)) rfl rfl rfl (Nat.le_of_ble_eq_true rfl) (Nat.le_of_ble_eq_true rfl) ⟨rfl, rfl⟩
theorem w100_463 : W (pj lw) 100 463 L (.int x :: S) k n H Q ↔ (if x = 0 then W (pj lw) 100 466 L S k n H Q else W (pj lw) 100 468 L S k n H Q) := W_if_ne (rfl : (pj lw).1 100 463 = some (.ifCond .ne 5, 3, 0)) rfl
theorem w100_468 : W (pj lw) 100 468 (l0 :: l1 :: l2 :: l3 :: l4 :: l5 :: l6 :: l7 :: .val (.int x) :: L) S k n H Q ↔ W (pj lw) 100 471 (l0 :: l1 :: l2 :: l3 :: l4 :: l5 :: l6 :: l7 :: .val (.int (x + 4)) :: L) S k n H Q := W_s rfl rfl rfl rfl
theorem w100_471 : W (pj lw) 100 471 L S k n H Q ↔ W (pj lw) 100 47 L S k n H Q := W_goto rfl rfl
theorem w100_474 : W (pj lw) 100 474 L S k n H Q ↔ W (pj lw) 100 475 L (.int 1 :: S) k n H Q := W_s rfl rfl rfl rfl
theorem w100_475 : W (pj lw) 100 475 L (.int x :: S) k n H Q ↔ ((x = 0 ∨ x = 1) ∧ Q (some (.int x)) H) := W_rz rfl rfl
theorem c103 {x0 : Nat} {x1 : Int32} {x2 : Int64} {x3 : Int32} {x4 : Int32} {x5 : Int32} : Cl (pj lw) 103 [.ref x0, .int x1, .long x2, .int x3, .int x4, .int x5] H Q ↔ W (pj lw) 103 0 [.val (.ref x0), .val (.int x1), .val (.long x2), .second, .val (.int x3), .val (.int x4), .val (.int x5), .unset, .unset, .unset, .unset, .unset, .unset, .unset, .unset, .unset, .unset, .unset, .unset, .unset] [] 0 0 H Q := cl_unf rfl
theorem w103_0 : W (pj lw) 103 0 (.val (.ref x) :: L) S k n H Q ↔ W (pj lw) 103 1 (.val (.ref x) :: L) (.ref x :: S) k n H Q := W_s rfl rfl rfl rfl
theorem w103_1 : W (pj lw) 103 1 L (.ref a :: S) k n H Q ↔ ((isO H a = true ∧ cs S + (1 + 11) + 0 ≤ 51) ∧ Cl (pj lw) 10 [.ref a] H (fun v H => W (pj lw) 103 4 L (v.toList ++ S) k n H Q)) := W_inst (as := []) (rfl : (pj lw).1 103 1 = some (.invokevirtual 45, 3, 10)) rfl rfl rfl (Nat.le_of_ble_eq_true rfl) (Nat.le_of_ble_eq_true rfl) ⟨rfl, rfl⟩
theorem w103_4 : W (pj lw) 103 4 (l0 :: l1 :: l2 :: l3 :: .val (.int x) :: L) S k n H Q ↔ W (pj lw) 103 6 (l0 :: l1 :: l2 :: l3 :: .val (.int x) :: L) (.int x :: S) k n H Q := W_s rfl rfl rfl rfl
theorem w103_6 : W (pj lw) 103 6 L (.int y :: .int x :: S) k n H Q ↔ (if x = y then W (pj lw) 103 9 L S k n H Q else W (pj lw) 103 18 L S k n H Q) := W_icmp_ne (rfl : (pj lw).1 103 6 = some (.if_icmp .ne 12, 3, 0)) rfl
theorem w103_9 : W (pj lw) 103 9 (.val (.ref x) :: L) S k n H Q ↔ W (pj lw) 103 10 (.val (.ref x) :: L) (.ref x :: S) k n H Q := W_s rfl rfl rfl rfl
theorem w103_10 : W (pj lw) 103 10 L (.ref a :: S) k n H Q ↔ ((isO H a = true ∧ cs S + (1 + 11) + 0 ≤ 51) ∧ Cl (pj lw) 22 [.ref a] H (fun v H => W (pj lw) 103 13 L (v.toList ++ S) k n H Q)) := W_inst (as := []) (rfl : (pj lw).1 103 10 = some (.invokevirtual 48, 3, 22)) rfl rfl rfl (Nat.le_of_ble_eq_true rfl) (Nat.le_of_ble_eq_true rfl) ⟨rfl, rfl⟩
theorem w103_13 : W (pj lw) 103 13 (l0 :: l1 :: l2 :: l3 :: l4 :: l5 :: .val (.int x) :: L) S k n H Q ↔ W (pj lw) 103 15 (l0 :: l1 :: l2 :: l3 :: l4 :: l5 :: .val (.int x) :: L) (.int x :: S) k n H Q := W_s rfl rfl rfl rfl
theorem w103_15 : W (pj lw) 103 15 L (.int y :: .int x :: S) k n H Q ↔ (if x = y then W (pj lw) 103 20 L S k n H Q else W (pj lw) 103 18 L S k n H Q) := W_icmp_eq (rfl : (pj lw).1 103 15 = some (.if_icmp .eq 5, 3, 0)) rfl
theorem w103_20 : W (pj lw) 103 20 (.val (.ref x) :: L) S k n H Q ↔ W (pj lw) 103 21 (.val (.ref x) :: L) (.ref x :: S) k n H Q := W_s rfl rfl rfl rfl
theorem w103_21 : W (pj lw) 103 21 L (.ref a :: S) k n H Q ↔ ((isO H a = true ∧ cs S + (1 + 11) + 12 ≤ 51) ∧ Cl (pj lw) 24 [.ref a] H (fun v H => W (pj lw) 103 24 L (v.toList ++ S) k n H Q)) := W_inst (as := []) (rfl : (pj lw).1 103 21 = some (.invokevirtual 52, 3, 24)) rfl rfl rfl (Nat.le_of_ble_eq_true rfl) (Nat.le_of_ble_eq_true rfl) ⟨rfl, rfl⟩
theorem w103_24 : W (pj lw) 103 24 (l0 :: l1 :: l2 :: l3 :: l4 :: l5 :: l6 :: .unset :: L) (.int x :: S) k n H Q ↔ W (pj lw) 103 26 (l0 :: l1 :: l2 :: l3 :: l4 :: l5 :: l6 :: .val (.int x) :: L) S k n H Q := W_ist (rfl : (pj lw).1 103 24 = some (.istore 7, 2, 0)) rfl rfl
theorem w103_26 : W (pj lw) 103 26 (.val (.ref x) :: L) S k n H Q ↔ W (pj lw) 103 27 (.val (.ref x) :: L) (.ref x :: S) k n H Q := W_s rfl rfl rfl rfl
theorem w103_27 : W (pj lw) 103 27 L (.ref a :: S) k n H Q ↔ ((isO H a = true ∧ cs S + (1 + 11) + 12 ≤ 51) ∧ Cl (pj lw) 25 [.ref a] H (fun v H => W (pj lw) 103 30 L (v.toList ++ S) k n H Q)) := W_inst (as := []) (rfl : (pj lw).1 103 27 = some (.invokevirtual 55, 3, 25)) rfl rfl rfl (Nat.le_of_ble_eq_true rfl) (Nat.le_of_ble_eq_true rfl) ⟨rfl, rfl⟩
theorem w103_30uu : W (pj lw) 103 30 (l0 :: l1 :: l2 :: l3 :: l4 :: l5 :: l6 :: l7 :: .unset :: .unset :: L) (.long x :: S) k n H Q ↔ W (pj lw) 103 32 (l0 :: l1 :: l2 :: l3 :: l4 :: l5 :: l6 :: l7 :: .val (.long x) :: .second :: L) S k n H Q := W_lst (rfl : (pj lw).1 103 30 = some (.lstore 8, 2, 0)) rfl rfl rfl rfl
theorem w103_32 : W (pj lw) 103 32 (l0 :: l1 :: l2 :: l3 :: l4 :: .val (.int x) :: L) S k n H Q ↔ W (pj lw) 103 34 (l0 :: l1 :: l2 :: l3 :: l4 :: .val (.int x) :: L) (.int x :: S) k n H Q := W_s rfl rfl rfl rfl
theorem w103_34 : W (pj lw) 103 34 L (.int x :: S) k n H Q ↔ (if x = 0 then W (pj lw) 103 52 L S k n H Q else W (pj lw) 103 37 L S k n H Q) := W_if_eq (rfl : (pj lw).1 103 34 = some (.ifCond .eq 18, 3, 0)) rfl
theorem w103_37 : W (pj lw) 103 37 (l0 :: l1 :: l2 :: l3 :: l4 :: l5 :: l6 :: .val (.int x) :: L) S k n H Q ↔ W (pj lw) 103 39 (l0 :: l1 :: l2 :: l3 :: l4 :: l5 :: l6 :: .val (.int x) :: L) (.int x :: S) k n H Q := W_s rfl rfl rfl rfl
theorem w103_39 : W (pj lw) 103 39 L S k n H Q ↔ W (pj lw) 103 40 L (.int 1 :: S) k n H Q := W_s rfl rfl rfl rfl
theorem w103_40 : W (pj lw) 103 40 L (.int y :: .int x :: S) k n H Q ↔ (if x < y then W (pj lw) 103 73 L S k n H Q else W (pj lw) 103 43 L S k n H Q) := W_icmp_lt (rfl : (pj lw).1 103 40 = some (.if_icmp .lt 33, 3, 0)) rfl
theorem w103_43 : W (pj lw) 103 43 (l0 :: l1 :: l2 :: l3 :: l4 :: l5 :: l6 :: .val (.int x) :: L) S k n H Q ↔ W (pj lw) 103 45 (l0 :: l1 :: l2 :: l3 :: l4 :: l5 :: l6 :: .val (.int x) :: L) (.int x :: S) k n H Q := W_s rfl rfl rfl rfl
theorem w103_45 : W (pj lw) 103 45 L S k n H Q ↔ W (pj lw) 103 46 L (.int 4 :: S) k n H Q := W_s rfl rfl rfl rfl
theorem w103_46 : W (pj lw) 103 46 L (.int y :: .int x :: S) k n H Q ↔ (if y < x then W (pj lw) 103 49 L S k n H Q else W (pj lw) 103 75 L S k n H Q) := W_icmp_le (rfl : (pj lw).1 103 46 = some (.if_icmp .le 29, 3, 0)) rfl
theorem w103_52 : W (pj lw) 103 52 (l0 :: l1 :: l2 :: l3 :: l4 :: l5 :: l6 :: .val (.int x) :: L) S k n H Q ↔ W (pj lw) 103 54 (l0 :: l1 :: l2 :: l3 :: l4 :: l5 :: l6 :: .val (.int x) :: L) (.int x :: S) k n H Q := W_s rfl rfl rfl rfl
theorem w103_54 : W (pj lw) 103 54 L (.int x :: S) k n H Q ↔ (if x = 0 then W (pj lw) 103 57 L S k n H Q else W (pj lw) 103 73 L S k n H Q) := W_if_ne (rfl : (pj lw).1 103 54 = some (.ifCond .ne 19, 3, 0)) rfl
theorem w103_57 : W (pj lw) 103 57 (l0 :: l1 :: l2 :: l3 :: l4 :: l5 :: l6 :: l7 :: .val (.long x) :: L) S k n H Q ↔ W (pj lw) 103 59 (l0 :: l1 :: l2 :: l3 :: l4 :: l5 :: l6 :: l7 :: .val (.long x) :: L) (.long x :: S) k n H Q := W_s rfl rfl rfl rfl
theorem w103_59 : W (pj lw) 103 59 L S k n H Q ↔ W (pj lw) 103 60 L (.long 0 :: S) k n H Q := W_s rfl rfl rfl rfl
theorem w103_60 : W (pj lw) 103 60 L (.long y :: .long x :: S) k n H Q ↔ W (pj lw) 103 61 L (.int (Jvm.Free.XT.cmpL x y) :: S) k n H Q := W_s rfl rfl rfl rfl
theorem w103_61 : W (pj lw) 103 61 L (.int x :: S) k n H Q ↔ (if x = 0 then W (pj lw) 103 64 L S k n H Q else W (pj lw) 103 73 L S k n H Q) := W_if_ne (rfl : (pj lw).1 103 61 = some (.ifCond .ne 12, 3, 0)) rfl
theorem w103_64 : W (pj lw) 103 64 (.val (.ref x) :: L) S k n H Q ↔ W (pj lw) 103 65 (.val (.ref x) :: L) (.ref x :: S) k n H Q := W_s rfl rfl rfl rfl
theorem w103_65 : W (pj lw) 103 65 L S k n H Q ↔ W (pj lw) 103 66 L (.int 0 :: S) k n H Q := W_s rfl rfl rfl rfl
theorem w103_66 : W (pj lw) 103 66 L (.int x0 :: .ref a :: S) k n H Q ↔ ((isO H a = true ∧ cs S + (2 + 11) + 12 ≤ 51) ∧ Cl (pj lw) 26 [.ref a, .int x0] H (fun v H => W (pj lw) 103 69 L (v.toList ++ S) k n H Q)) := W_inst (as := [.int x0]) (rfl : (pj lw).1 103 66 = some (.invokevirtual 59, 3, 26)) rfl rfl rfl (Nat.le_of_ble_eq_true rfl) (Nat.le_of_ble_eq_true rfl) ⟨rfl, rfl⟩
theorem w103_69 : W (pj lw) 103 69 L S k n H Q ↔ W (pj lw) 103 70 L (.int (-1) :: S) k n H Q := W_s rfl rfl rfl rfl
theorem w103_70 : W (pj lw) 103 70 L (.int y :: .int x :: S) k n H Q ↔ (if x = y then W (pj lw) 103 75 L S k n H Q else W (pj lw) 103 73 L S k n H Q) := W_icmp_eq (rfl : (pj lw).1 103 70 = some (.if_icmp .eq 5, 3, 0)) rfl
theorem w103_75 : W (pj lw) 103 75 L S k n H Q ↔ W (pj lw) 103 76 L (.int 0 :: S) k n H Q := W_s rfl rfl rfl rfl
theorem w103_76 : W (pj lw) 103 76 (l0 :: l1 :: l2 :: l3 :: l4 :: l5 :: l6 :: l7 :: l8 :: l9 :: .unset :: L) (.int x :: S) k n H Q ↔ W (pj lw) 103 78 (l0 :: l1 :: l2 :: l3 :: l4 :: l5 :: l6 :: l7 :: l8 :: l9 :: .val (.int x) :: L) S k n H Q := W_ist (rfl : (pj lw).1 103 76 = some (.istore 10, 2, 0)) rfl rfl
theorem w103_78 : W (pj lw) 103 78 (l0 :: l1 :: l2 :: l3 :: l4 :: l5 :: l6 :: l7 :: l8 :: l9 :: .val (.int x) :: L) S k n H Q ↔ W (pj lw) 103 80 (l0 :: l1 :: l2 :: l3 :: l4 :: l5 :: l6 :: l7 :: l8 :: l9 :: .val (.int x) :: L) (.int x :: S) k n H Q := W_s rfl rfl rfl rfl
theorem w103_80 : W (pj lw) 103 80 L S k n H Q ↔ W (pj lw) 103 81 L (.int 5 :: S) k n H Q := W_s rfl rfl rfl rfl
theorem w103_81 : W (pj lw) 103 81 L (.int y :: .int x :: S) k n H Q ↔ (if x < y then W (pj lw) 103 84 L S k n H Q else W (pj lw) 103 335 L S k n H Q) := W_icmp_ge (rfl : (pj lw).1 103 81 = some (.if_icmp .ge 254, 3, 0)) rfl
theorem w103_84 : W (pj lw) 103 84 (.val (.ref x) :: L) S k n H Q ↔ W (pj lw) 103 85 (.val (.ref x) :: L) (.ref x :: S) k n H Q := W_s rfl rfl rfl rfl
theorem w103_85 : W (pj lw) 103 85 (l0 :: l1 :: l2 :: l3 :: l4 :: l5 :: l6 :: l7 :: l8 :: l9 :: .val (.int x) :: L) S k n H Q ↔ W (pj lw) 103 87 (l0 :: l1 :: l2 :: l3 :: l4 :: l5 :: l6 :: l7 :: l8 :: l9 :: .val (.int x) :: L) (.int x :: S) k n H Q := W_s rfl rfl rfl rfl
theorem w103_87 : W (pj lw) 103 87 L (.int x0 :: .ref a :: S) k n H Q ↔ ((isO H a = true ∧ cs S + (2 + 11) + 13 ≤ 51) ∧ Cl (pj lw) 28 [.ref a, .int x0] H (fun v H => W (pj lw) 103 90 L (v.toList ++ S) k n H Q)) := W_inst (as := [.int x0]) (rfl : (pj lw).1 103 87 = some (.invokevirtual 63, 3, 28)) rfl rfl rfl (Nat.le_of_ble_eq_true rfl) (Nat.le_of_ble_eq_true rfl) ⟨rfl, rfl⟩
theorem w103_90uu : W (pj lw) 103 90 (l0 :: l1 :: l2 :: l3 :: l4 :: l5 :: l6 :: l7 :: l8 :: l9 :: l10 :: .unset :: .unset :: L) (.long x :: S) k n H Q ↔ W (pj lw) 103 92 (l0 :: l1 :: l2 :: l3 :: l4 :: l5 :: l6 :: l7 :: l8 :: l9 :: l10 :: .val (.long x) :: .second :: L) S k n H Q := W_lst (rfl : (pj lw).1 103 90 = some (.lstore 11, 2, 0)) rfl rfl rfl rfl
theorem w103_92 : W (pj lw) 103 92 (l0 :: l1 :: l2 :: l3 :: l4 :: l5 :: l6 :: l7 :: l8 :: l9 :: l10 :: .val (.long x) :: L) S k n H Q ↔ W (pj lw) 103 94 (l0 :: l1 :: l2 :: l3 :: l4 :: l5 :: l6 :: l7 :: l8 :: l9 :: l10 :: .val (.long x) :: L) (.long x :: S) k n H Q := W_s rfl rfl rfl rfl
theorem w103_94 : W (pj lw) 103 94 L S k n H Q ↔ W (pj lw) 103 95 L (.long 0 :: S) k n H Q := W_s rfl rfl rfl rfl
theorem w103_95 : W (pj lw) 103 95 L (.long y :: .long x :: S) k n H Q ↔ W (pj lw) 103 96 L (.int (Jvm.Free.XT.cmpL x y) :: S) k n H Q := W_s rfl rfl rfl rfl
theorem w103_96 : W (pj lw) 103 96 L (.int x :: S) k n H Q ↔ (if 0 < x then W (pj lw) 103 126 L S k n H Q else W (pj lw) 103 99 L S k n H Q) := W_if_gt (rfl : (pj lw).1 103 96 = some (.ifCond .gt 30, 3, 0)) rfl
theorem w103_99 : W (pj lw) 103 99 (l0 :: l1 :: l2 :: l3 :: l4 :: l5 :: l6 :: l7 :: l8 :: l9 :: .val (.int x) :: L) S k n H Q ↔ W (pj lw) 103 101 (l0 :: l1 :: l2 :: l3 :: l4 :: l5 :: l6 :: l7 :: l8 :: l9 :: .val (.int x) :: L) (.int x :: S) k n H Q := W_s rfl rfl rfl rfl
theorem w103_101 : W (pj lw) 103 101 L S k n H Q ↔ W (pj lw) 103 102 L (.int 4 :: S) k n H Q := W_s rfl rfl rfl rfl
theorem w103_102 : W (pj lw) 103 102 L (.int y :: .int x :: S) k n H Q ↔ (if x = y then W (pj lw) 103 110 L S k n H Q else W (pj lw) 103 105 L S k n H Q) := W_icmp_eq (rfl : (pj lw).1 103 102 = some (.if_icmp .eq 8, 3, 0)) rfl
theorem w103_105 : W (pj lw) 103 105 (l0 :: l1 :: l2 :: l3 :: l4 :: .val (.int x) :: L) S k n H Q ↔ W (pj lw) 103 107 (l0 :: l1 :: l2 :: l3 :: l4 :: .val (.int x) :: L) (.int x :: S) k n H Q := W_s rfl rfl rfl rfl
theorem w103_107 : W (pj lw) 103 107 L (.int x :: S) k n H Q ↔ (if x = 0 then W (pj lw) 103 110 L S k n H Q else W (pj lw) 103 128 L S k n H Q) := W_if_ne (rfl : (pj lw).1 103 107 = some (.ifCond .ne 21, 3, 0)) rfl
theorem w103_110 : W (pj lw) 103 110 (l0 :: l1 :: l2 :: l3 :: l4 :: l5 :: l6 :: l7 :: l8 :: l9 :: l10 :: .val (.long x) :: L) S k n H Q ↔ W (pj lw) 103 112 (l0 :: l1 :: l2 :: l3 :: l4 :: l5 :: l6 :: l7 :: l8 :: l9 :: l10 :: .val (.long x) :: L) (.long x :: S) k n H Q := W_s rfl rfl rfl rfl
theorem w103_112 : W (pj lw) 103 112 L S k n H Q ↔ W (pj lw) 103 113 L (.long 0 :: S) k n H Q := W_s rfl rfl rfl rfl
theorem w103_113 : W (pj lw) 103 113 L (.long y :: .long x :: S) k n H Q ↔ W (pj lw) 103 114 L (.int (Jvm.Free.XT.cmpL x y) :: S) k n H Q := W_s rfl rfl rfl rfl
theorem w103_114 : W (pj lw) 103 114 L (.int x :: S) k n H Q ↔ (if x = 0 then W (pj lw) 103 117 L S k n H Q else W (pj lw) 103 126 L S k n H Q) := W_if_ne (rfl : (pj lw).1 103 114 = some (.ifCond .ne 12, 3, 0)) rfl
theorem w103_117 : W (pj lw) 103 117 (.val (.ref x) :: L) S k n H Q ↔ W (pj lw) 103 118 (.val (.ref x) :: L) (.ref x :: S) k n H Q := W_s rfl rfl rfl rfl
theorem w103_118 : W (pj lw) 103 118 (l0 :: l1 :: l2 :: l3 :: l4 :: l5 :: l6 :: l7 :: l8 :: l9 :: .val (.int x) :: L) S k n H Q ↔ W (pj lw) 103 120 (l0 :: l1 :: l2 :: l3 :: l4 :: l5 :: l6 :: l7 :: l8 :: l9 :: .val (.int x) :: L) (.int x :: S) k n H Q := W_s rfl rfl rfl rfl
theorem w103_120 : W (pj lw) 103 120 L (.int x0 :: .ref a :: S) k n H Q ↔ ((isO H a = true ∧ cs S + (2 + 11) + 13 ≤ 51) ∧ Cl (pj lw) 27 [.ref a, .int x0] H (fun v H => W (pj lw) 103 123 L (v.toList ++ S) k n H Q)) := W_inst (as := [.int x0]) (rfl : (pj lw).1 103 120 = some (.invokevirtual 67, 3, 27)) rfl rfl rfl (Nat.le_of_ble_eq_true rfl) (Nat.le_of_ble_eq_true rfl) ⟨rfl, rfl⟩
theorem w103_123 : W (pj lw) 103 123 L (.int x :: S) k n H Q ↔ (if x = 0 then W (pj lw) 103 128 L S k n H Q else W (pj lw) 103 126 L S k n H Q) := W_if_eq (rfl : (pj lw).1 103 123 = some (.ifCond .eq 5, 3, 0)) rfl
theorem w103_128 : W (pj lw) 103 128 L S k n H Q ↔ W (pj lw) 103 129 L (.int 0 :: S) k n H Q := W_s rfl rfl rfl rfl
theorem w103_129 : W (pj lw) 103 129 (l0 :: l1 :: l2 :: l3 :: l4 :: l5 :: l6 :: l7 :: l8 :: l9 :: l10 :: l11 :: l12 :: .unset :: L) (.int x :: S) k n H Q ↔ W (pj lw) 103 131 (l0 :: l1 :: l2 :: l3 :: l4 :: l5 :: l6 :: l7 :: l8 :: l9 :: l10 :: l11 :: l12 :: .val (.int x) :: L) S k n H Q := W_ist (rfl : (pj lw).1 103 129 = some (.istore 13, 2, 0)) rfl rfl
theorem w103_131 : W (pj lw) 103 131 (l0 :: l1 :: l2 :: l3 :: l4 :: l5 :: l6 :: l7 :: l8 :: l9 :: l10 :: l11 :: l12 :: .val (.int x) :: L) S k n H Q ↔ W (pj lw) 103 133 (l0 :: l1 :: l2 :: l3 :: l4 :: l5 :: l6 :: l7 :: l8 :: l9 :: l10 :: l11 :: l12 :: .val (.int x) :: L) (.int x :: S) k n H Q := W_s rfl rfl rfl rfl
theorem w103_133 : W (pj lw) 103 133 L S k n H Q ↔ W (pj lw) 103 134 L (.int 5 :: S) k n H Q := W_s rfl rfl rfl rfl
theorem w103_134 : W (pj lw) 103 134 L (.int y :: .int x :: S) k n H Q ↔ (if x < y then W (pj lw) 103 137 L S k n H Q else W (pj lw) 103 329 L S k n H Q) := W_icmp_ge (rfl : (pj lw).1 103 134 = some (.if_icmp .ge 195, 3, 0)) rfl
theorem w103_137 : W (pj lw) 103 137 (l0 :: l1 :: l2 :: l3 :: l4 :: l5 :: l6 :: l7 :: l8 :: l9 :: .val (.int x) :: L) S k n H Q ↔ W (pj lw) 103 139 (l0 :: l1 :: l2 :: l3 :: l4 :: l5 :: l6 :: l7 :: l8 :: l9 :: .val (.int x) :: L) (.int x :: S) k n H Q := W_s rfl rfl rfl rfl
theorem w103_139 : W (pj lw) 103 139 L S k n H Q ↔ W (pj lw) 103 140 L (.int 4 :: S) k n H Q := W_s rfl rfl rfl rfl
theorem w103_140 : W (pj lw) 103 140 L (.int y :: .int x :: S) k n H Q ↔ (if x < y then W (pj lw) 103 143 L S k n H Q else W (pj lw) 103 167 L S k n H Q) := W_icmp_ge (rfl : (pj lw).1 103 140 = some (.if_icmp .ge 27, 3, 0)) rfl
theorem w103_143 : W (pj lw) 103 143 (l0 :: l1 :: l2 :: l3 :: l4 :: l5 :: l6 :: l7 :: l8 :: l9 :: l10 :: l11 :: l12 :: .val (.int x) :: L) S k n H Q ↔ W (pj lw) 103 145 (l0 :: l1 :: l2 :: l3 :: l4 :: l5 :: l6 :: l7 :: l8 :: l9 :: l10 :: l11 :: l12 :: .val (.int x) :: L) (.int x :: S) k n H Q := W_s rfl rfl rfl rfl
theorem w103_145 : W (pj lw) 103 145 L S k n H Q ↔ W (pj lw) 103 146 L (.int 4 :: S) k n H Q := W_s rfl rfl rfl rfl
theorem w103_146 : W (pj lw) 103 146 L (.int y :: .int x :: S) k n H Q ↔ (if x < y then W (pj lw) 103 149 L S k n H Q else W (pj lw) 103 167 L S k n H Q) := W_icmp_ge (rfl : (pj lw).1 103 146 = some (.if_icmp .ge 21, 3, 0)) rfl
theorem w103_149 : W (pj lw) 103 149 (l0 :: .val (.int x) :: L) S k n H Q ↔ W (pj lw) 103 150 (l0 :: .val (.int x) :: L) (.int x :: S) k n H Q := W_s rfl rfl rfl rfl
theorem w103_150 : W (pj lw) 103 150 L S k n H Q ↔ W (pj lw) 103 151 L (.int 4 :: S) k n H Q := W_s rfl rfl rfl rfl
theorem w103_151 : W (pj lw) 103 151 (l0 :: l1 :: l2 :: l3 :: l4 :: l5 :: l6 :: l7 :: l8 :: l9 :: .val (.int x) :: L) S k n H Q ↔ W (pj lw) 103 153 (l0 :: l1 :: l2 :: l3 :: l4 :: l5 :: l6 :: l7 :: l8 :: l9 :: .val (.int x) :: L) (.int x :: S) k n H Q := W_s rfl rfl rfl rfl
theorem w103_153 : W (pj lw) 103 153 L (.int y :: .int x :: S) k n H Q ↔ W (pj lw) 103 154 L (.int (x * y) :: S) k n H Q := W_s rfl rfl rfl rfl
theorem w103_154 : W (pj lw) 103 154 (l0 :: l1 :: l2 :: l3 :: l4 :: l5 :: l6 :: l7 :: l8 :: l9 :: l10 :: l11 :: l12 :: .val (.int x) :: L) S k n H Q ↔ W (pj lw) 103 156 (l0 :: l1 :: l2 :: l3 :: l4 :: l5 :: l6 :: l7 :: l8 :: l9 :: l10 :: l11 :: l12 :: .val (.int x) :: L) (.int x :: S) k n H Q := W_s rfl rfl rfl rfl
theorem w103_156 : W (pj lw) 103 156 L (.int y :: .int x :: S) k n H Q ↔ W (pj lw) 103 157 L (.int (x + y) :: S) k n H Q := W_s rfl rfl rfl rfl
theorem w103_157 : W (pj lw) 103 157 L (.int y :: .int x :: S) k n H Q ↔ W (pj lw) 103 158 L (.int (x >>> (y &&& 31)) :: S) k n H Q := W_s rfl rfl rfl rfl
theorem w103_158 : W (pj lw) 103 158 L S k n H Q ↔ W (pj lw) 103 159 L (.int 1 :: S) k n H Q := W_s rfl rfl rfl rfl
theorem w103_159 : W (pj lw) 103 159 L (.int y :: .int x :: S) k n H Q ↔ W (pj lw) 103 160 L (.int (x &&& y) :: S) k n H Q := W_s rfl rfl rfl rfl
theorem w103_160 : W (pj lw) 103 160 L (.int x :: S) k n H Q ↔ (if x = 0 then W (pj lw) 103 167 L S k n H Q else W (pj lw) 103 163 L S k n H Q) := W_if_eq (rfl : (pj lw).1 103 160 = some (.ifCond .eq 7, 3, 0)) rfl
theorem w103_163 : W (pj lw) 103 163 L S k n H Q ↔ W (pj lw) 103 164 L (.int 1 :: S) k n H Q := W_s rfl rfl rfl rfl
theorem w103_164 : W (pj lw) 103 164 L S k n H Q ↔ W (pj lw) 103 168 L S k n H Q := W_goto rfl rfl
theorem w103_167 : W (pj lw) 103 167 L S k n H Q ↔ W (pj lw) 103 168 L (.int 0 :: S) k n H Q := W_s rfl rfl rfl rfl
theorem w103_168 : W (pj lw) 103 168 (l0 :: l1 :: l2 :: l3 :: l4 :: l5 :: l6 :: l7 :: l8 :: l9 :: l10 :: l11 :: l12 :: l13 :: .unset :: L) (.int x :: S) k n H Q ↔ W (pj lw) 103 170 (l0 :: l1 :: l2 :: l3 :: l4 :: l5 :: l6 :: l7 :: l8 :: l9 :: l10 :: l11 :: l12 :: l13 :: .val (.int x) :: L) S k n H Q := W_ist (rfl : (pj lw).1 103 168 = some (.istore 14, 2, 0)) rfl rfl
theorem w103_170 : W (pj lw) 103 170 (l0 :: l1 :: l2 :: l3 :: l4 :: l5 :: l6 :: l7 :: l8 :: l9 :: l10 :: l11 :: l12 :: l13 :: .val (.int x) :: L) S k n H Q ↔ W (pj lw) 103 172 (l0 :: l1 :: l2 :: l3 :: l4 :: l5 :: l6 :: l7 :: l8 :: l9 :: l10 :: l11 :: l12 :: l13 :: .val (.int x) :: L) (.int x :: S) k n H Q := W_s rfl rfl rfl rfl
theorem w103_172 : W (pj lw) 103 172 L (.int x :: S) k n H Q ↔ (if x = 0 then W (pj lw) 103 189 L S k n H Q else W (pj lw) 103 175 L S k n H Q) := W_if_eq (rfl : (pj lw).1 103 172 = some (.ifCond .eq 17, 3, 0)) rfl
theorem w103_175 : W (pj lw) 103 175 (l0 :: l1 :: .val (.long x) :: L) S k n H Q ↔ W (pj lw) 103 176 (l0 :: l1 :: .val (.long x) :: L) (.long x :: S) k n H Q := W_s rfl rfl rfl rfl
theorem w103_176 : W (pj lw) 103 176 L S k n H Q ↔ W (pj lw) 103 177 L (.int 4 :: S) k n H Q := W_s rfl rfl rfl rfl
theorem w103_177 : W (pj lw) 103 177 (l0 :: l1 :: l2 :: l3 :: l4 :: l5 :: l6 :: l7 :: l8 :: l9 :: .val (.int x) :: L) S k n H Q ↔ W (pj lw) 103 179 (l0 :: l1 :: l2 :: l3 :: l4 :: l5 :: l6 :: l7 :: l8 :: l9 :: .val (.int x) :: L) (.int x :: S) k n H Q := W_s rfl rfl rfl rfl
theorem w103_179 : W (pj lw) 103 179 L (.int y :: .int x :: S) k n H Q ↔ W (pj lw) 103 180 L (.int (x * y) :: S) k n H Q := W_s rfl rfl rfl rfl
theorem w103_180 : W (pj lw) 103 180 (l0 :: l1 :: l2 :: l3 :: l4 :: l5 :: l6 :: l7 :: l8 :: l9 :: l10 :: l11 :: l12 :: .val (.int x) :: L) S k n H Q ↔ W (pj lw) 103 182 (l0 :: l1 :: l2 :: l3 :: l4 :: l5 :: l6 :: l7 :: l8 :: l9 :: l10 :: l11 :: l12 :: .val (.int x) :: L) (.int x :: S) k n H Q := W_s rfl rfl rfl rfl
theorem w103_182 : W (pj lw) 103 182 L (.int y :: .int x :: S) k n H Q ↔ W (pj lw) 103 183 L (.int (x + y) :: S) k n H Q := W_s rfl rfl rfl rfl
theorem w103_183 : W (pj lw) 103 183 L (.int x1 :: .long x0 :: S) k n H Q ↔ (cs S + (3 + 11) + 0 ≤ 51 ∧ Cl (pj lw) 105 [.long x0, .int x1] H (fun v H => W (pj lw) 103 186 L (v.toList ++ S) k n H Q)) := W_stat (a := [.long x0, .int x1]) (rfl : (pj lw).1 103 183 = some (.invokestatic 70, 3, 105)) rfl rfl rfl (Nat.le_of_ble_eq_true rfl) (Nat.le_of_ble_eq_true rfl) ⟨rfl, rfl⟩
theorem w103_186 : W (pj lw) 103 186 L S k n H Q ↔ W (pj lw) 103 190 L S k n H Q := W_goto rfl rfl
theorem w103_189 : W (pj lw) 103 189 L S k n H Q ↔ W (pj lw) 103 190 L (.int 0 :: S) k n H Q := W_s rfl rfl rfl rfl
theorem w103_190 : W (pj lw) 103 190 (l0 :: l1 :: l2 :: l3 :: l4 :: l5 :: l6 :: l7 :: l8 :: l9 :: l10 :: l11 :: l12 :: l13 :: l14 :: .unset :: L) (.int x :: S) k n H Q ↔ W (pj lw) 103 192 (l0 :: l1 :: l2 :: l3 :: l4 :: l5 :: l6 :: l7 :: l8 :: l9 :: l10 :: l11 :: l12 :: l13 :: l14 :: .val (.int x) :: L) S k n H Q := W_ist (rfl : (pj lw).1 103 190 = some (.istore 15, 2, 0)) rfl rfl
theorem w103_192 : W (pj lw) 103 192 (.val (.ref x) :: L) S k n H Q ↔ W (pj lw) 103 193 (.val (.ref x) :: L) (.ref x :: S) k n H Q := W_s rfl rfl rfl rfl
theorem w103_193 : W (pj lw) 103 193 (l0 :: l1 :: l2 :: l3 :: l4 :: l5 :: l6 :: l7 :: l8 :: l9 :: .val (.int x) :: L) S k n H Q ↔ W (pj lw) 103 195 (l0 :: l1 :: l2 :: l3 :: l4 :: l5 :: l6 :: l7 :: l8 :: l9 :: .val (.int x) :: L) (.int x :: S) k n H Q := W_s rfl rfl rfl rfl
theorem w103_195 : W (pj lw) 103 195 (l0 :: l1 :: l2 :: l3 :: l4 :: l5 :: l6 :: l7 :: l8 :: l9 :: l10 :: l11 :: l12 :: .val (.int x) :: L) S k n H Q ↔ W (pj lw) 103 197 (l0 :: l1 :: l2 :: l3 :: l4 :: l5 :: l6 :: l7 :: l8 :: l9 :: l10 :: l11 :: l12 :: .val (.int x) :: L) (.int x :: S) k n H Q := W_s rfl rfl rfl rfl
theorem w103_197 : W (pj lw) 103 197 L (.int x1 :: .int x0 :: .ref a :: S) k n H Q ↔ ((isO H a = true ∧ cs S + (3 + 11) + 13 ≤ 51) ∧ Cl (pj lw) 8 [.ref a, .int x0, .int x1] H (fun v H => W (pj lw) 103 200 L (v.toList ++ S) k n H Q)) := W_inst (as := [.int x0, .int x1]) (rfl : (pj lw).1 103 197 = some (.invokevirtual 74, 3, 8)) rfl rfl rfl (Nat.le_of_ble_eq_true rfl) (Nat.le_of_ble_eq_true rfl) ⟨rfl, rfl⟩
theorem w103_200 : W (pj lw) 103 200 (l0 :: l1 :: l2 :: l3 :: l4 :: l5 :: l6 :: l7 :: l8 :: l9 :: l10 :: l11 :: l12 :: l13 :: .val (.int x) :: L) S k n H Q ↔ W (pj lw) 103 202 (l0 :: l1 :: l2 :: l3 :: l4 :: l5 :: l6 :: l7 :: l8 :: l9 :: l10 :: l11 :: l12 :: l13 :: .val (.int x) :: L) (.int x :: S) k n H Q := W_s rfl rfl rfl rfl
theorem w103_202 : W (pj lw) 103 202 L (.int y :: .int x :: S) k n H Q ↔ (if x = y then W (pj lw) 103 205 L S k n H Q else W (pj lw) 103 218 L S k n H Q) := W_icmp_ne (rfl : (pj lw).1 103 202 = some (.if_icmp .ne 16, 3, 0)) rfl
theorem w103_205 : W (pj lw) 103 205 (.val (.ref x) :: L) S k n H Q ↔ W (pj lw) 103 206 (.val (.ref x) :: L) (.ref x :: S) k n H Q := W_s rfl rfl rfl rfl
theorem w103_206 : W (pj lw) 103 206 (l0 :: l1 :: l2 :: l3 :: l4 :: l5 :: l6 :: l7 :: l8 :: l9 :: .val (.int x) :: L) S k n H Q ↔ W (pj lw) 103 208 (l0 :: l1 :: l2 :: l3 :: l4 :: l5 :: l6 :: l7 :: l8 :: l9 :: .val (.int x) :: L) (.int x :: S) k n H Q := W_s rfl rfl rfl rfl
theorem w103_208 : W (pj lw) 103 208 (l0 :: l1 :: l2 :: l3 :: l4 :: l5 :: l6 :: l7 :: l8 :: l9 :: l10 :: l11 :: l12 :: .val (.int x) :: L) S k n H Q ↔ W (pj lw) 103 210 (l0 :: l1 :: l2 :: l3 :: l4 :: l5 :: l6 :: l7 :: l8 :: l9 :: l10 :: l11 :: l12 :: .val (.int x) :: L) (.int x :: S) k n H Q := W_s rfl rfl rfl rfl
theorem w103_210 : W (pj lw) 103 210 L (.int x1 :: .int x0 :: .ref a :: S) k n H Q ↔ ((isO H a = true ∧ cs S + (3 + 11) + 27 ≤ 51) ∧ Cl (pj lw) 9 [.ref a, .int x0, .int x1] H (fun v H => W (pj lw) 103 213 L (v.toList ++ S) k n H Q)) := W_inst (as := [.int x0, .int x1]) (rfl : (pj lw).1 103 210 = some (.invokevirtual 78, 3, 9)) rfl rfl rfl (Nat.le_of_ble_eq_true rfl) (Nat.le_of_ble_eq_true rfl) ⟨rfl, rfl⟩
theorem w103_213 : W (pj lw) 103 213 (l0 :: l1 :: l2 :: l3 :: l4 :: l5 :: l6 :: l7 :: l8 :: l9 :: l10 :: l11 :: l12 :: l13 :: l14 :: .val (.int x) :: L) S k n H Q ↔ W (pj lw) 103 215 (l0 :: l1 :: l2 :: l3 :: l4 :: l5 :: l6 :: l7 :: l8 :: l9 :: l10 :: l11 :: l12 :: l13 :: l14 :: .val (.int x) :: L) (.int x :: S) k n H Q := W_s rfl rfl rfl rfl
theorem w103_215 : W (pj lw) 103 215 L (.int y :: .int x :: S) k n H Q ↔ (if x = y then W (pj lw) 103 220 L S k n H Q else W (pj lw) 103 218 L S k n H Q) := W_icmp_eq (rfl : (pj lw).1 103 215 = some (.if_icmp .eq 5, 3, 0)) rfl
theorem w103_220 : W (pj lw) 103 220 (.val (.ref x) :: L) S k n H Q ↔ W (pj lw) 103 221 (.val (.ref x) :: L) (.ref x :: S) k n H Q := W_s rfl rfl rfl rfl
theorem w103_221 : W (pj lw) 103 221 (l0 :: l1 :: l2 :: l3 :: l4 :: l5 :: l6 :: l7 :: l8 :: l9 :: .val (.int x) :: L) S k n H Q ↔ W (pj lw) 103 223 (l0 :: l1 :: l2 :: l3 :: l4 :: l5 :: l6 :: l7 :: l8 :: l9 :: .val (.int x) :: L) (.int x :: S) k n H Q := W_s rfl rfl rfl rfl
theorem w103_223 : W (pj lw) 103 223 (l0 :: l1 :: l2 :: l3 :: l4 :: l5 :: l6 :: l7 :: l8 :: l9 :: l10 :: l11 :: l12 :: .val (.int x) :: L) S k n H Q ↔ W (pj lw) 103 225 (l0 :: l1 :: l2 :: l3 :: l4 :: l5 :: l6 :: l7 :: l8 :: l9 :: l10 :: l11 :: l12 :: .val (.int x) :: L) (.int x :: S) k n H Q := W_s rfl rfl rfl rfl
theorem w103_225 : W (pj lw) 103 225 L (.int x1 :: .int x0 :: .ref a :: S) k n H Q ↔ ((isO H a = true ∧ cs S + (3 + 11) + 27 ≤ 51) ∧ Cl (pj lw) 29 [.ref a, .int x0, .int x1] H (fun v H => W (pj lw) 103 228 L (v.toList ++ S) k n H Q)) := W_inst (as := [.int x0, .int x1]) (rfl : (pj lw).1 103 225 = some (.invokevirtual 81, 3, 29)) rfl rfl rfl (Nat.le_of_ble_eq_true rfl) (Nat.le_of_ble_eq_true rfl) ⟨rfl, rfl⟩
theorem w103_228uu : W (pj lw) 103 228 (l0 :: l1 :: l2 :: l3 :: l4 :: l5 :: l6 :: l7 :: l8 :: l9 :: l10 :: l11 :: l12 :: l13 :: l14 :: l15 :: .unset :: .unset :: L) (.long x :: S) k n H Q ↔ W (pj lw) 103 230 (l0 :: l1 :: l2 :: l3 :: l4 :: l5 :: l6 :: l7 :: l8 :: l9 :: l10 :: l11 :: l12 :: l13 :: l14 :: l15 :: .val (.long x) :: .second :: L) S k n H Q := W_lst (rfl : (pj lw).1 103 228 = some (.lstore 16, 2, 0)) rfl rfl rfl rfl
theorem w103_230 : W (pj lw) 103 230 (.val (.ref x) :: L) S k n H Q ↔ W (pj lw) 103 231 (.val (.ref x) :: L) (.ref x :: S) k n H Q := W_s rfl rfl rfl rfl
theorem w103_231 : W (pj lw) 103 231 (l0 :: l1 :: l2 :: l3 :: l4 :: l5 :: l6 :: l7 :: l8 :: l9 :: l10 :: l11 :: l12 :: .val (.int x) :: L) S k n H Q ↔ W (pj lw) 103 233 (l0 :: l1 :: l2 :: l3 :: l4 :: l5 :: l6 :: l7 :: l8 :: l9 :: l10 :: l11 :: l12 :: .val (.int x) :: L) (.int x :: S) k n H Q := W_s rfl rfl rfl rfl
theorem w103_233 : W (pj lw) 103 233 L (.int x0 :: .ref a :: S) k n H Q ↔ ((isO H a = true ∧ cs S + (2 + 11) + 13 ≤ 51) ∧ Cl (pj lw) 28 [.ref a, .int x0] H (fun v H => W (pj lw) 103 236 L (v.toList ++ S) k n H Q)) := W_inst (as := [.int x0]) (rfl : (pj lw).1 103 233 = some (.invokevirtual 63, 3, 28)) rfl rfl rfl (Nat.le_of_ble_eq_true rfl) (Nat.le_of_ble_eq_true rfl) ⟨rfl, rfl⟩
theorem w103_236uu : W (pj lw) 103 236 (l0 :: l1 :: l2 :: l3 :: l4 :: l5 :: l6 :: l7 :: l8 :: l9 :: l10 :: l11 :: l12 :: l13 :: l14 :: l15 :: l16 :: l17 :: .unset :: .unset :: L) (.long x :: S) k n H Q ↔ W (pj lw) 103 238 (l0 :: l1 :: l2 :: l3 :: l4 :: l5 :: l6 :: l7 :: l8 :: l9 :: l10 :: l11 :: l12 :: l13 :: l14 :: l15 :: l16 :: l17 :: .val (.long x) :: .second :: L) S k n H Q := W_lst (rfl : (pj lw).1 103 236 = some (.lstore 18, 2, 0)) rfl rfl rfl rfl
theorem w103_238 : W (pj lw) 103 238 (l0 :: l1 :: l2 :: l3 :: l4 :: .val (.int x) :: L) S k n H Q ↔ W (pj lw) 103 240 (l0 :: l1 :: l2 :: l3 :: l4 :: .val (.int x) :: L) (.int x :: S) k n H Q := W_s rfl rfl rfl rfl
theorem w103_240 : W (pj lw) 103 240 L (.int x :: S) k n H Q ↔ (if x = 0 then W (pj lw) 103 248 L S k n H Q else W (pj lw) 103 243 L S k n H Q) := W_if_eq (rfl : (pj lw).1 103 240 = some (.ifCond .eq 8, 3, 0)) rfl
theorem w103_243 : W (pj lw) 103 243 (l0 :: l1 :: l2 :: l3 :: l4 :: l5 :: l6 :: l7 :: l8 :: l9 :: l10 :: l11 :: l12 :: l13 :: .val (.int x) :: L) S k n H Q ↔ W (pj lw) 103 245 (l0 :: l1 :: l2 :: l3 :: l4 :: l5 :: l6 :: l7 :: l8 :: l9 :: l10 :: l11 :: l12 :: l13 :: .val (.int x) :: L) (.int x :: S) k n H Q := W_s rfl rfl rfl rfl
theorem w103_245 : W (pj lw) 103 245 L (.int x :: S) k n H Q ↔ (if x = 0 then W (pj lw) 103 248 L S k n H Q else W (pj lw) 103 260 L S k n H Q) := W_if_ne (rfl : (pj lw).1 103 245 = some (.ifCond .ne 15, 3, 0)) rfl
theorem w103_248 : W (pj lw) 103 248 (l0 :: l1 :: l2 :: l3 :: l4 :: l5 :: l6 :: l7 :: l8 :: l9 :: l10 :: l11 :: l12 :: l13 :: l14 :: l15 :: .val (.long x) :: L) S k n H Q ↔ W (pj lw) 103 250 (l0 :: l1 :: l2 :: l3 :: l4 :: l5 :: l6 :: l7 :: l8 :: l9 :: l10 :: l11 :: l12 :: l13 :: l14 :: l15 :: .val (.long x) :: L) (.long x :: S) k n H Q := W_s rfl rfl rfl rfl
theorem w103_250 : W (pj lw) 103 250 L S k n H Q ↔ W (pj lw) 103 253 L (.long (-1) :: S) k n H Q := W_s rfl rfl rfl rfl
theorem w103_253 : W (pj lw) 103 253 L (.long y :: .long x :: S) k n H Q ↔ W (pj lw) 103 254 L (.int (Jvm.Free.XT.cmpL x y) :: S) k n H Q := W_s rfl rfl rfl rfl
theorem w103_254 : W (pj lw) 103 254 L (.int x :: S) k n H Q ↔ (if x = 0 then W (pj lw) 103 291 L S k n H Q else W (pj lw) 103 257 L S k n H Q) := W_if_eq (rfl : (pj lw).1 103 254 = some (.ifCond .eq 37, 3, 0)) rfl
theorem w103_260 : W (pj lw) 103 260 (l0 :: l1 :: l2 :: l3 :: l4 :: l5 :: l6 :: l7 :: l8 :: l9 :: l10 :: l11 :: l12 :: l13 :: l14 :: l15 :: .val (.long x) :: L) S k n H Q ↔ W (pj lw) 103 262 (l0 :: l1 :: l2 :: l3 :: l4 :: l5 :: l6 :: l7 :: l8 :: l9 :: l10 :: l11 :: l12 :: l13 :: l14 :: l15 :: .val (.long x) :: L) (.long x :: S) k n H Q := W_s rfl rfl rfl rfl
theorem w103_262 : W (pj lw) 103 262 L S k n H Q ↔ W (pj lw) 103 263 L (.long 0 :: S) k n H Q := W_s rfl rfl rfl rfl
theorem w103_263 : W (pj lw) 103 263 L (.long y :: .long x :: S) k n H Q ↔ W (pj lw) 103 264 L (.int (Jvm.Free.XT.cmpL x y) :: S) k n H Q := W_s rfl rfl rfl rfl
theorem w103_264 : W (pj lw) 103 264 L (.int x :: S) k n H Q ↔ (if x < 0 then W (pj lw) 103 289 L S k n H Q else W (pj lw) 103 267 L S k n H Q) := W_if_lt (rfl : (pj lw).1 103 264 = some (.ifCond .lt 25, 3, 0)) rfl
theorem w103_267 : W (pj lw) 103 267 (l0 :: l1 :: l2 :: l3 :: l4 :: l5 :: l6 :: l7 :: l8 :: l9 :: l10 :: l11 :: l12 :: l13 :: l14 :: l15 :: .val (.long x) :: L) S k n H Q ↔ W (pj lw) 103 269 (l0 :: l1 :: l2 :: l3 :: l4 :: l5 :: l6 :: l7 :: l8 :: l9 :: l10 :: l11 :: l12 :: l13 :: l14 :: l15 :: .val (.long x) :: L) (.long x :: S) k n H Q := W_s rfl rfl rfl rfl
theorem w103_269 : W (pj lw) 103 269 (l0 :: l1 :: l2 :: l3 :: l4 :: l5 :: l6 :: .val (.int x) :: L) S k n H Q ↔ W (pj lw) 103 271 (l0 :: l1 :: l2 :: l3 :: l4 :: l5 :: l6 :: .val (.int x) :: L) (.int x :: S) k n H Q := W_s rfl rfl rfl rfl
theorem w103_271 : W (pj lw) 103 271 L (.int x :: S) k n H Q ↔ W (pj lw) 103 272 L (.long x.toInt64 :: S) k n H Q := W_s rfl rfl rfl rfl
theorem w103_272 : W (pj lw) 103 272 (l0 :: l1 :: l2 :: l3 :: l4 :: l5 :: l6 :: l7 :: l8 :: l9 :: l10 :: l11 :: l12 :: l13 :: l14 :: .val (.int x) :: L) S k n H Q ↔ W (pj lw) 103 274 (l0 :: l1 :: l2 :: l3 :: l4 :: l5 :: l6 :: l7 :: l8 :: l9 :: l10 :: l11 :: l12 :: l13 :: l14 :: .val (.int x) :: L) (.int x :: S) k n H Q := W_s rfl rfl rfl rfl
theorem w103_274 : W (pj lw) 103 274 L (.int x :: S) k n H Q ↔ W (pj lw) 103 275 L (.long x.toInt64 :: S) k n H Q := W_s rfl rfl rfl rfl
theorem w103_275 : W (pj lw) 103 275 L (.long y :: .long x :: S) k n H Q ↔ W (pj lw) 103 276 L (.long (x * y) :: S) k n H Q := W_s rfl rfl rfl rfl
theorem w103_276 : W (pj lw) 103 276 (l0 :: l1 :: l2 :: l3 :: l4 :: l5 :: l6 :: l7 :: .val (.long x) :: L) S k n H Q ↔ W (pj lw) 103 278 (l0 :: l1 :: l2 :: l3 :: l4 :: l5 :: l6 :: l7 :: .val (.long x) :: L) (.long x :: S) k n H Q := W_s rfl rfl rfl rfl
theorem w103_278 : W (pj lw) 103 278 L (.long y :: .long x :: S) k n H Q ↔ W (pj lw) 103 279 L (.long (x - y) :: S) k n H Q := W_s rfl rfl rfl rfl
theorem w103_279 : W (pj lw) 103 279 (l0 :: l1 :: l2 :: l3 :: l4 :: l5 :: l6 :: l7 :: l8 :: l9 :: l10 :: .val (.long x) :: L) S k n H Q ↔ W (pj lw) 103 281 (l0 :: l1 :: l2 :: l3 :: l4 :: l5 :: l6 :: l7 :: l8 :: l9 :: l10 :: .val (.long x) :: L) (.long x :: S) k n H Q := W_s rfl rfl rfl rfl
theorem w103_281 : W (pj lw) 103 281 L (.long y :: .long x :: S) k n H Q ↔ W (pj lw) 103 282 L (.long (x + y) :: S) k n H Q := W_s rfl rfl rfl rfl
theorem w103_282 : W (pj lw) 103 282 (l0 :: l1 :: l2 :: l3 :: l4 :: l5 :: l6 :: l7 :: l8 :: l9 :: l10 :: l11 :: l12 :: l13 :: l14 :: l15 :: l16 :: l17 :: .val (.long x) :: L) S k n H Q ↔ W (pj lw) 103 284 (l0 :: l1 :: l2 :: l3 :: l4 :: l5 :: l6 :: l7 :: l8 :: l9 :: l10 :: l11 :: l12 :: l13 :: l14 :: l15 :: l16 :: l17 :: .val (.long x) :: L) (.long x :: S) k n H Q := W_s rfl rfl rfl rfl
theorem w103_284 : W (pj lw) 103 284 L (.long y :: .long x :: S) k n H Q ↔ W (pj lw) 103 285 L (.long (x - y) :: S) k n H Q := W_s rfl rfl rfl rfl
theorem w103_285 : W (pj lw) 103 285 L (.long y :: .long x :: S) k n H Q ↔ W (pj lw) 103 286 L (.int (Jvm.Free.XT.cmpL x y) :: S) k n H Q := W_s rfl rfl rfl rfl
theorem w103_286 : W (pj lw) 103 286 L (.int x :: S) k n H Q ↔ (if x = 0 then W (pj lw) 103 291 L S k n H Q else W (pj lw) 103 289 L S k n H Q) := W_if_eq (rfl : (pj lw).1 103 286 = some (.ifCond .eq 5, 3, 0)) rfl
theorem w103_291 : W (pj lw) 103 291 (l0 :: l1 :: l2 :: l3 :: l4 :: .val (.int x) :: L) S k n H Q ↔ W (pj lw) 103 293 (l0 :: l1 :: l2 :: l3 :: l4 :: .val (.int x) :: L) (.int x :: S) k n H Q := W_s rfl rfl rfl rfl
theorem w103_293 : W (pj lw) 103 293 L (.int x :: S) k n H Q ↔ (if x = 0 then W (pj lw) 103 323 L S k n H Q else W (pj lw) 103 296 L S k n H Q) := W_if_eq (rfl : (pj lw).1 103 293 = some (.ifCond .eq 30, 3, 0)) rfl
theorem w103_296 : W (pj lw) 103 296 (l0 :: l1 :: l2 :: l3 :: l4 :: l5 :: l6 :: l7 :: l8 :: l9 :: l10 :: l11 :: l12 :: l13 :: .val (.int x) :: L) S k n H Q ↔ W (pj lw) 103 298 (l0 :: l1 :: l2 :: l3 :: l4 :: l5 :: l6 :: l7 :: l8 :: l9 :: l10 :: l11 :: l12 :: l13 :: .val (.int x) :: L) (.int x :: S) k n H Q := W_s rfl rfl rfl rfl
theorem w103_298 : W (pj lw) 103 298 L (.int x :: S) k n H Q ↔ (if x = 0 then W (pj lw) 103 323 L S k n H Q else W (pj lw) 103 301 L S k n H Q) := W_if_eq (rfl : (pj lw).1 103 298 = some (.ifCond .eq 25, 3, 0)) rfl
theorem w103_301 : W (pj lw) 103 301 (l0 :: l1 :: l2 :: l3 :: l4 :: l5 :: l6 :: l7 :: l8 :: l9 :: .val (.int x) :: L) S k n H Q ↔ W (pj lw) 103 303 (l0 :: l1 :: l2 :: l3 :: l4 :: l5 :: l6 :: l7 :: l8 :: l9 :: .val (.int x) :: L) (.int x :: S) k n H Q := W_s rfl rfl rfl rfl
theorem w103_303 : W (pj lw) 103 303 (l0 :: l1 :: l2 :: l3 :: l4 :: l5 :: l6 :: l7 :: l8 :: l9 :: l10 :: l11 :: l12 :: .val (.int x) :: L) S k n H Q ↔ W (pj lw) 103 305 (l0 :: l1 :: l2 :: l3 :: l4 :: l5 :: l6 :: l7 :: l8 :: l9 :: l10 :: l11 :: l12 :: .val (.int x) :: L) (.int x :: S) k n H Q := W_s rfl rfl rfl rfl
theorem w103_305 : W (pj lw) 103 305 L (.int y :: .int x :: S) k n H Q ↔ (if x = y then W (pj lw) 103 308 L S k n H Q else W (pj lw) 103 323 L S k n H Q) := W_icmp_ne (rfl : (pj lw).1 103 305 = some (.if_icmp .ne 18, 3, 0)) rfl
theorem w103_308 : W (pj lw) 103 308 (l0 :: l1 :: l2 :: l3 :: l4 :: l5 :: l6 :: .val (.int x) :: L) S k n H Q ↔ W (pj lw) 103 310 (l0 :: l1 :: l2 :: l3 :: l4 :: l5 :: l6 :: .val (.int x) :: L) (.int x :: S) k n H Q := W_s rfl rfl rfl rfl
theorem w103_310 : W (pj lw) 103 310 L (.int x :: S) k n H Q ↔ W (pj lw) 103 311 L (.long x.toInt64 :: S) k n H Q := W_s rfl rfl rfl rfl
theorem w103_311 : W (pj lw) 103 311 (l0 :: l1 :: l2 :: l3 :: l4 :: l5 :: l6 :: l7 :: l8 :: l9 :: l10 :: l11 :: l12 :: l13 :: l14 :: .val (.int x) :: L) S k n H Q ↔ W (pj lw) 103 313 (l0 :: l1 :: l2 :: l3 :: l4 :: l5 :: l6 :: l7 :: l8 :: l9 :: l10 :: l11 :: l12 :: l13 :: l14 :: .val (.int x) :: L) (.int x :: S) k n H Q := W_s rfl rfl rfl rfl
theorem w103_313 : W (pj lw) 103 313 L (.int x :: S) k n H Q ↔ W (pj lw) 103 314 L (.long x.toInt64 :: S) k n H Q := W_s rfl rfl rfl rfl
theorem w103_314 : W (pj lw) 103 314 L (.long y :: .long x :: S) k n H Q ↔ W (pj lw) 103 315 L (.long (x * y) :: S) k n H Q := W_s rfl rfl rfl rfl
theorem w103_315 : W (pj lw) 103 315 (l0 :: l1 :: l2 :: l3 :: l4 :: l5 :: l6 :: l7 :: .val (.long x) :: L) S k n H Q ↔ W (pj lw) 103 317 (l0 :: l1 :: l2 :: l3 :: l4 :: l5 :: l6 :: l7 :: .val (.long x) :: L) (.long x :: S) k n H Q := W_s rfl rfl rfl rfl
theorem w103_317 : W (pj lw) 103 317 L (.long y :: .long x :: S) k n H Q ↔ W (pj lw) 103 318 L (.int (Jvm.Free.XT.cmpL x y) :: S) k n H Q := W_s rfl rfl rfl rfl
theorem w103_318 : W (pj lw) 103 318 L (.int x :: S) k n H Q ↔ (if x < 0 then W (pj lw) 103 321 L S k n H Q else W (pj lw) 103 323 L S k n H Q) := W_if_ge (rfl : (pj lw).1 103 318 = some (.ifCond .ge 5, 3, 0)) rfl
theorem w103_323 : W (pj lw) 103 323 (l0 :: l1 :: l2 :: l3 :: l4 :: l5 :: l6 :: l7 :: l8 :: l9 :: l10 :: l11 :: l12 :: .val (.int x) :: L) S k n H Q ↔ W (pj lw) 103 326 (l0 :: l1 :: l2 :: l3 :: l4 :: l5 :: l6 :: l7 :: l8 :: l9 :: l10 :: l11 :: l12 :: .val (.int (x + 1)) :: L) S k n H Q := W_s rfl rfl rfl rfl
theorem w103_326 : W (pj lw) 103 326 L S k n H Q ↔ W (pj lw) 103 131 L S k n H Q := W_goto rfl rfl
theorem w103_329 : W (pj lw) 103 329 (l0 :: l1 :: l2 :: l3 :: l4 :: l5 :: l6 :: l7 :: l8 :: l9 :: .val (.int x) :: L) S k n H Q ↔ W (pj lw) 103 332 (l0 :: l1 :: l2 :: l3 :: l4 :: l5 :: l6 :: l7 :: l8 :: l9 :: .val (.int (x + 1)) :: L) S k n H Q := W_s rfl rfl rfl rfl
theorem w103_332 : W (pj lw) 103 332 L S k n H Q ↔ W (pj lw) 103 78 L S k n H Q := W_goto rfl rfl
theorem w103_335 : W (pj lw) 103 335 (l0 :: l1 :: l2 :: l3 :: l4 :: .val (.int x) :: L) S k n H Q ↔ W (pj lw) 103 337 (l0 :: l1 :: l2 :: l3 :: l4 :: .val (.int x) :: L) (.int x :: S) k n H Q := W_s rfl rfl rfl rfl
theorem w103_337 : W (pj lw) 103 337 L (.int x :: S) k n H Q ↔ (if x = 0 then W (pj lw) 103 353 L S k n H Q else W (pj lw) 103 340 L S k n H Q) := W_if_eq (rfl : (pj lw).1 103 337 = some (.ifCond .eq 16, 3, 0)) rfl
theorem w103_340 : W (pj lw) 103 340 (.val (.ref x) :: L) S k n H Q ↔ W (pj lw) 103 341 (.val (.ref x) :: L) (.ref x :: S) k n H Q := W_s rfl rfl rfl rfl
theorem w103_341 : W (pj lw) 103 341 (l0 :: .val (.int x) :: L) S k n H Q ↔ W (pj lw) 103 342 (l0 :: .val (.int x) :: L) (.int x :: S) k n H Q := W_s rfl rfl rfl rfl
theorem w103_342 : W (pj lw) 103 342 (l0 :: l1 :: .val (.long x) :: L) S k n H Q ↔ W (pj lw) 103 343 (l0 :: l1 :: .val (.long x) :: L) (.long x :: S) k n H Q := W_s rfl rfl rfl rfl
theorem w103_343 : W (pj lw) 103 343 (l0 :: l1 :: l2 :: l3 :: l4 :: l5 :: l6 :: .val (.int x) :: L) S k n H Q ↔ W (pj lw) 103 345 (l0 :: l1 :: l2 :: l3 :: l4 :: l5 :: l6 :: .val (.int x) :: L) (.int x :: S) k n H Q := W_s rfl rfl rfl rfl
theorem w103_345 : W (pj lw) 103 345 (l0 :: l1 :: l2 :: l3 :: l4 :: l5 :: l6 :: l7 :: .val (.long x) :: L) S k n H Q ↔ W (pj lw) 103 347 (l0 :: l1 :: l2 :: l3 :: l4 :: l5 :: l6 :: l7 :: .val (.long x) :: L) (.long x :: S) k n H Q := W_s rfl rfl rfl rfl
theorem w103_347 : W (pj lw) 103 347 L (.long x4 :: .int x3 :: .long x2 :: .int x1 :: .ref x0 :: S) k n H Q ↔ (cs S + (14 + 11) + 26 ≤ 51 ∧ Cl (pj lw) 104 [.ref x0, .int x1, .long x2, .int x3, .long x4] H (fun v H => W (pj lw) 103 350 L (v.toList ++ S) k n H Q)) := W_stat (a := [.ref x0, .int x1, .long x2, .int x3, .long x4]) (rfl : (pj lw).1 103 347 = some (.invokestatic 87, 3, 104)) rfl rfl rfl (Nat.le_of_ble_eq_true rfl) (Nat.le_of_ble_eq_true rfl) ⟨rfl, rfl⟩
theorem w103_350 : W (pj lw) 103 350 L (.int x :: S) k n H Q ↔ (if x = 0 then W (pj lw) 103 357 L S k n H Q else W (pj lw) 103 353 L S k n H Q) := W_if_eq (rfl : (pj lw).1 103 350 = some (.ifCond .eq 7, 3, 0)) rfl
theorem w103_353 : W (pj lw) 103 353 L S k n H Q ↔ W (pj lw) 103 354 L (.int 1 :: S) k n H Q := W_s rfl rfl rfl rfl
theorem w103_354 : W (pj lw) 103 354 L S k n H Q ↔ W (pj lw) 103 358 L S k n H Q := W_goto rfl rfl
theorem w103_358 : W (pj lw) 103 358 L (.int x :: S) k n H Q ↔ ((x = 0 ∨ x = 1) ∧ Q (some (.int x)) H) := W_rz rfl rfl
theorem c104 {x0 : Nat} {x1 : Int32} {x2 : Int64} {x3 : Int32} {x4 : Int64} : Cl (pj lw) 104 [.ref x0, .int x1, .long x2, .int x3, .long x4] H Q ↔ W (pj lw) 104 0 [.val (.ref x0), .val (.int x1), .val (.long x2), .second, .val (.int x3), .val (.long x4), .second, .unset, .unset, .unset, .unset, .unset, .unset, .unset] [] 0 0 H Q := cl_unf rfl
theorem w104_0 : W (pj lw) 104 0 (.val (.ref x) :: L) S k n H Q ↔ W (pj lw) 104 1 (.val (.ref x) :: L) (.ref x :: S) k n H Q := W_s rfl rfl rfl rfl
theorem w104_1 : W (pj lw) 104 1 L S k n H Q ↔ W (pj lw) 104 2 L (.int 0 :: S) k n H Q := W_s rfl rfl rfl rfl
theorem w104_2 : W (pj lw) 104 2 L (.int x0 :: .ref a :: S) k n H Q ↔ ((isO H a = true ∧ cs S + (2 + 11) + 12 ≤ 26) ∧ Cl (pj lw) 26 [.ref a, .int x0] H (fun v H => W (pj lw) 104 5 L (v.toList ++ S) k n H Q)) := W_inst (as := [.int x0]) (rfl : (pj lw).1 104 2 = some (.invokevirtual 59, 3, 26)) rfl rfl rfl (Nat.le_of_ble_eq_true rfl) (Nat.le_of_ble_eq_true rfl) ⟨rfl, rfl⟩
theorem w104_5 : W (pj lw) 104 5 (l0 :: l1 :: l2 :: l3 :: l4 :: l5 :: l6 :: .unset :: L) (.int x :: S) k n H Q ↔ W (pj lw) 104 7 (l0 :: l1 :: l2 :: l3 :: l4 :: l5 :: l6 :: .val (.int x) :: L) S k n H Q := W_ist (rfl : (pj lw).1 104 5 = some (.istore 7, 2, 0)) rfl rfl
theorem w104_7 : W (pj lw) 104 7 L S k n H Q ↔ W (pj lw) 104 8 L (.int 0 :: S) k n H Q := W_s rfl rfl rfl rfl
theorem w104_8 : W (pj lw) 104 8 (l0 :: l1 :: l2 :: l3 :: l4 :: l5 :: l6 :: l7 :: .unset :: L) (.int x :: S) k n H Q ↔ W (pj lw) 104 10 (l0 :: l1 :: l2 :: l3 :: l4 :: l5 :: l6 :: l7 :: .val (.int x) :: L) S k n H Q := W_ist (rfl : (pj lw).1 104 8 = some (.istore 8, 2, 0)) rfl rfl
theorem w104_10 : W (pj lw) 104 10 L S k n H Q ↔ W (pj lw) 104 11 L (.long 0 :: S) k n H Q := W_s rfl rfl rfl rfl
theorem w104_11uu : W (pj lw) 104 11 (l0 :: l1 :: l2 :: l3 :: l4 :: l5 :: l6 :: l7 :: l8 :: .unset :: .unset :: L) (.long x :: S) k n H Q ↔ W (pj lw) 104 13 (l0 :: l1 :: l2 :: l3 :: l4 :: l5 :: l6 :: l7 :: l8 :: .val (.long x) :: .second :: L) S k n H Q := W_lst (rfl : (pj lw).1 104 11 = some (.lstore 9, 2, 0)) rfl rfl rfl rfl
theorem w104_13 : W (pj lw) 104 13 L S k n H Q ↔ W (pj lw) 104 14 L (.int 0 :: S) k n H Q := W_s rfl rfl rfl rfl
theorem w104_14 : W (pj lw) 104 14 (l0 :: l1 :: l2 :: l3 :: l4 :: l5 :: l6 :: l7 :: l8 :: l9 :: l10 :: .unset :: L) (.int x :: S) k n H Q ↔ W (pj lw) 104 16 (l0 :: l1 :: l2 :: l3 :: l4 :: l5 :: l6 :: l7 :: l8 :: l9 :: l10 :: .val (.int x) :: L) S k n H Q := W_ist (rfl : (pj lw).1 104 14 = some (.istore 11, 2, 0)) rfl rfl
theorem w104_16 : W (pj lw) 104 16 (l0 :: l1 :: l2 :: l3 :: l4 :: l5 :: l6 :: l7 :: l8 :: l9 :: l10 :: .val (.int x) :: L) S k n H Q ↔ W (pj lw) 104 18 (l0 :: l1 :: l2 :: l3 :: l4 :: l5 :: l6 :: l7 :: l8 :: l9 :: l10 :: .val (.int x) :: L) (.int x :: S) k n H Q := W_s rfl rfl rfl rfl
theorem w104_18 : W (pj lw) 104 18 (l0 :: l1 :: l2 :: l3 :: l4 :: l5 :: l6 :: .val (.int x) :: L) S k n H Q ↔ W (pj lw) 104 20 (l0 :: l1 :: l2 :: l3 :: l4 :: l5 :: l6 :: .val (.int x) :: L) (.int x :: S) k n H Q := W_s rfl rfl rfl rfl
theorem w104_20 : W (pj lw) 104 20 L (.int y :: .int x :: S) k n H Q ↔ (if x < y then W (pj lw) 104 23 L S k n H Q else W (pj lw) 104 40 L S k n H Q) := W_icmp_ge (rfl : (pj lw).1 104 20 = some (.if_icmp .ge 20, 3, 0)) rfl
theorem w104_23 : W (pj lw) 104 23 (.val (.ref x) :: L) S k n H Q ↔ W (pj lw) 104 24 (.val (.ref x) :: L) (.ref x :: S) k n H Q := W_s rfl rfl rfl rfl
theorem w104_24 : W (pj lw) 104 24 (l0 :: l1 :: l2 :: l3 :: l4 :: l5 :: l6 :: l7 :: l8 :: l9 :: l10 :: .val (.int x) :: L) S k n H Q ↔ W (pj lw) 104 26 (l0 :: l1 :: l2 :: l3 :: l4 :: l5 :: l6 :: l7 :: l8 :: l9 :: l10 :: .val (.int x) :: L) (.int x :: S) k n H Q := W_s rfl rfl rfl rfl
theorem w104_26 : W (pj lw) 104 26 L (.int x0 :: .ref a :: S) k n H Q ↔ ((isO H a = true ∧ cs S + (2 + 11) + 13 ≤ 26) ∧ Cl (pj lw) 27 [.ref a, .int x0] H (fun v H => W (pj lw) 104 29 L (v.toList ++ S) k n H Q)) := W_inst (as := [.int x0]) (rfl : (pj lw).1 104 26 = some (.invokevirtual 67, 3, 27)) rfl rfl rfl (Nat.le_of_ble_eq_true rfl) (Nat.le_of_ble_eq_true rfl) ⟨rfl, rfl⟩
theorem w104_29 : W (pj lw) 104 29 L (.int x :: S) k n H Q ↔ (if x = 0 then W (pj lw) 104 34 L S k n H Q else W (pj lw) 104 32 L S k n H Q) := W_if_eq (rfl : (pj lw).1 104 29 = some (.ifCond .eq 5, 3, 0)) rfl
theorem w104_34 : W (pj lw) 104 34 (l0 :: l1 :: l2 :: l3 :: l4 :: l5 :: l6 :: l7 :: l8 :: l9 :: l10 :: .val (.int x) :: L) S k n H Q ↔ W (pj lw) 104 37 (l0 :: l1 :: l2 :: l3 :: l4 :: l5 :: l6 :: l7 :: l8 :: l9 :: l10 :: .val (.int (x + 1)) :: L) S k n H Q := W_s rfl rfl rfl rfl
theorem w104_37 : W (pj lw) 104 37 L S k n H Q ↔ W (pj lw) 104 16 L S k n H Q := W_goto rfl rfl
theorem w104_40 : W (pj lw) 104 40 L S k n H Q ↔ W (pj lw) 104 41 L (.int 0 :: S) k n H Q := W_s rfl rfl rfl rfl
theorem w104_41i : W (pj lw) 104 41 (l0 :: l1 :: l2 :: l3 :: l4 :: l5 :: l6 :: l7 :: l8 :: l9 :: l10 :: .val (.int y) :: L) (.int x :: S) k n H Q ↔ W (pj lw) 104 43 (l0 :: l1 :: l2 :: l3 :: l4 :: l5 :: l6 :: l7 :: l8 :: l9 :: l10 :: .val (.int x) :: L) S k n H Q := W_ist (rfl : (pj lw).1 104 41 = some (.istore 11, 2, 0)) rfl rfl
theorem w104_43 : W (pj lw) 104 43 (l0 :: l1 :: l2 :: l3 :: l4 :: l5 :: l6 :: l7 :: l8 :: l9 :: l10 :: .val (.int x) :: L) S k n H Q ↔ W (pj lw) 104 45 (l0 :: l1 :: l2 :: l3 :: l4 :: l5 :: l6 :: l7 :: l8 :: l9 :: l10 :: .val (.int x) :: L) (.int x :: S) k n H Q := W_s rfl rfl rfl rfl
theorem w104_45 : W (pj lw) 104 45 (l0 :: l1 :: l2 :: l3 :: .val (.int x) :: L) S k n H Q ↔ W (pj lw) 104 47 (l0 :: l1 :: l2 :: l3 :: .val (.int x) :: L) (.int x :: S) k n H Q := W_s rfl rfl rfl rfl
theorem w104_47 : W (pj lw) 104 47 L (.int y :: .int x :: S) k n H Q ↔ (if x < y then W (pj lw) 104 50 L S k n H Q else W (pj lw) 104 162 L S k n H Q) := W_icmp_ge (rfl : (pj lw).1 104 47 = some (.if_icmp .ge 115, 3, 0)) rfl
theorem w104_50 : W (pj lw) 104 50 (.val (.ref x) :: L) S k n H Q ↔ W (pj lw) 104 51 (.val (.ref x) :: L) (.ref x :: S) k n H Q := W_s rfl rfl rfl rfl
theorem w104_51 : W (pj lw) 104 51 (l0 :: l1 :: l2 :: l3 :: l4 :: l5 :: l6 :: l7 :: l8 :: l9 :: l10 :: .val (.int x) :: L) S k n H Q ↔ W (pj lw) 104 53 (l0 :: l1 :: l2 :: l3 :: l4 :: l5 :: l6 :: l7 :: l8 :: l9 :: l10 :: .val (.int x) :: L) (.int x :: S) k n H Q := W_s rfl rfl rfl rfl
theorem w104_53 : W (pj lw) 104 53 L (.int x0 :: .ref a :: S) k n H Q ↔ ((isO H a = true ∧ cs S + (2 + 11) + 12 ≤ 26) ∧ Cl (pj lw) 26 [.ref a, .int x0] H (fun v H => W (pj lw) 104 56 L (v.toList ++ S) k n H Q)) := W_inst (as := [.int x0]) (rfl : (pj lw).1 104 53 = some (.invokevirtual 59, 3, 26)) rfl rfl rfl (Nat.le_of_ble_eq_true rfl) (Nat.le_of_ble_eq_true rfl) ⟨rfl, rfl⟩
theorem w104_56 : W (pj lw) 104 56 (l0 :: l1 :: l2 :: l3 :: l4 :: l5 :: l6 :: l7 :: l8 :: l9 :: l10 :: l11 :: .unset :: L) (.int x :: S) k n H Q ↔ W (pj lw) 104 58 (l0 :: l1 :: l2 :: l3 :: l4 :: l5 :: l6 :: l7 :: l8 :: l9 :: l10 :: l11 :: .val (.int x) :: L) S k n H Q := W_ist (rfl : (pj lw).1 104 56 = some (.istore 12, 2, 0)) rfl rfl
theorem w104_58 : W (pj lw) 104 58 (.val (.ref x) :: L) S k n H Q ↔ W (pj lw) 104 59 (.val (.ref x) :: L) (.ref x :: S) k n H Q := W_s rfl rfl rfl rfl
theorem w104_59 : W (pj lw) 104 59 (l0 :: l1 :: l2 :: l3 :: l4 :: l5 :: l6 :: l7 :: l8 :: l9 :: l10 :: .val (.int x) :: L) S k n H Q ↔ W (pj lw) 104 61 (l0 :: l1 :: l2 :: l3 :: l4 :: l5 :: l6 :: l7 :: l8 :: l9 :: l10 :: .val (.int x) :: L) (.int x :: S) k n H Q := W_s rfl rfl rfl rfl
theorem w104_61 : W (pj lw) 104 61 L S k n H Q ↔ W (pj lw) 104 62 L (.int 1 :: S) k n H Q := W_s rfl rfl rfl rfl
theorem w104_62 : W (pj lw) 104 62 L (.int y :: .int x :: S) k n H Q ↔ W (pj lw) 104 63 L (.int (x + y) :: S) k n H Q := W_s rfl rfl rfl rfl
theorem w104_63 : W (pj lw) 104 63 (l0 :: l1 :: l2 :: l3 :: .val (.int x) :: L) S k n H Q ↔ W (pj lw) 104 65 (l0 :: l1 :: l2 :: l3 :: .val (.int x) :: L) (.int x :: S) k n H Q := W_s rfl rfl rfl rfl
theorem w104_65 : W (pj lw) 104 65 L (.int y :: .int x :: S) k n H Q ↔ (¬ y = 0 ∧ W (pj lw) 104 66 L (.int (x % y) :: S) k n H Q) := W_irem (rfl : (pj lw).1 104 65 = some (.irem, 1, 0))
theorem w104_66 : W (pj lw) 104 66 L (.int x0 :: .ref a :: S) k n H Q ↔ ((isO H a = true ∧ cs S + (2 + 11) + 12 ≤ 26) ∧ Cl (pj lw) 26 [.ref a, .int x0] H (fun v H => W (pj lw) 104 69 L (v.toList ++ S) k n H Q)) := W_inst (as := [.int x0]) (rfl : (pj lw).1 104 66 = some (.invokevirtual 59, 3, 26)) rfl rfl rfl (Nat.le_of_ble_eq_true rfl) (Nat.le_of_ble_eq_true rfl) ⟨rfl, rfl⟩
theorem w104_69 : W (pj lw) 104 69 (l0 :: l1 :: l2 :: l3 :: l4 :: l5 :: l6 :: l7 :: l8 :: l9 :: l10 :: l11 :: l12 :: .unset :: L) (.int x :: S) k n H Q ↔ W (pj lw) 104 71 (l0 :: l1 :: l2 :: l3 :: l4 :: l5 :: l6 :: l7 :: l8 :: l9 :: l10 :: l11 :: l12 :: .val (.int x) :: L) S k n H Q := W_ist (rfl : (pj lw).1 104 69 = some (.istore 13, 2, 0)) rfl rfl
theorem w104_71 : W (pj lw) 104 71 (l0 :: l1 :: l2 :: l3 :: l4 :: l5 :: l6 :: l7 :: l8 :: l9 :: l10 :: l11 :: .val (.int x) :: L) S k n H Q ↔ W (pj lw) 104 73 (l0 :: l1 :: l2 :: l3 :: l4 :: l5 :: l6 :: l7 :: l8 :: l9 :: l10 :: l11 :: .val (.int x) :: L) (.int x :: S) k n H Q := W_s rfl rfl rfl rfl
theorem w104_73 : W (pj lw) 104 73 L (.int x :: S) k n H Q ↔ (if x < 0 then W (pj lw) 104 112 L S k n H Q else W (pj lw) 104 76 L S k n H Q) := W_if_lt (rfl : (pj lw).1 104 73 = some (.ifCond .lt 39, 3, 0)) rfl
theorem w104_76 : W (pj lw) 104 76 (l0 :: l1 :: l2 :: l3 :: l4 :: l5 :: l6 :: l7 :: l8 :: l9 :: l10 :: l11 :: .val (.int x) :: L) S k n H Q ↔ W (pj lw) 104 78 (l0 :: l1 :: l2 :: l3 :: l4 :: l5 :: l6 :: l7 :: l8 :: l9 :: l10 :: l11 :: .val (.int x) :: L) (.int x :: S) k n H Q := W_s rfl rfl rfl rfl
theorem w104_78 : W (pj lw) 104 78 L S k n H Q ↔ W (pj lw) 104 79 L (.int 3 :: S) k n H Q := W_s rfl rfl rfl rfl
theorem w104_79 : W (pj lw) 104 79 L (.int y :: .int x :: S) k n H Q ↔ (if y < x then W (pj lw) 104 112 L S k n H Q else W (pj lw) 104 82 L S k n H Q) := W_icmp_gt (rfl : (pj lw).1 104 79 = some (.if_icmp .gt 33, 3, 0)) rfl
theorem w104_82 : W (pj lw) 104 82 (l0 :: l1 :: l2 :: l3 :: l4 :: l5 :: l6 :: l7 :: l8 :: l9 :: l10 :: l11 :: l12 :: .val (.int x) :: L) S k n H Q ↔ W (pj lw) 104 84 (l0 :: l1 :: l2 :: l3 :: l4 :: l5 :: l6 :: l7 :: l8 :: l9 :: l10 :: l11 :: l12 :: .val (.int x) :: L) (.int x :: S) k n H Q := W_s rfl rfl rfl rfl
theorem w104_84 : W (pj lw) 104 84 L (.int x :: S) k n H Q ↔ (if x < 0 then W (pj lw) 104 112 L S k n H Q else W (pj lw) 104 87 L S k n H Q) := W_if_lt (rfl : (pj lw).1 104 84 = some (.ifCond .lt 28, 3, 0)) rfl
theorem w104_87 : W (pj lw) 104 87 (l0 :: l1 :: l2 :: l3 :: l4 :: l5 :: l6 :: l7 :: l8 :: l9 :: l10 :: l11 :: l12 :: .val (.int x) :: L) S k n H Q ↔ W (pj lw) 104 89 (l0 :: l1 :: l2 :: l3 :: l4 :: l5 :: l6 :: l7 :: l8 :: l9 :: l10 :: l11 :: l12 :: .val (.int x) :: L) (.int x :: S) k n H Q := W_s rfl rfl rfl rfl
theorem w104_89 : W (pj lw) 104 89 L S k n H Q ↔ W (pj lw) 104 90 L (.int 3 :: S) k n H Q := W_s rfl rfl rfl rfl
theorem w104_90 : W (pj lw) 104 90 L (.int y :: .int x :: S) k n H Q ↔ (if y < x then W (pj lw) 104 112 L S k n H Q else W (pj lw) 104 93 L S k n H Q) := W_icmp_gt (rfl : (pj lw).1 104 90 = some (.if_icmp .gt 22, 3, 0)) rfl
theorem w104_93 : W (pj lw) 104 93 (l0 :: l1 :: l2 :: l3 :: l4 :: l5 :: l6 :: l7 :: .val (.int x) :: L) S k n H Q ↔ W (pj lw) 104 95 (l0 :: l1 :: l2 :: l3 :: l4 :: l5 :: l6 :: l7 :: .val (.int x) :: L) (.int x :: S) k n H Q := W_s rfl rfl rfl rfl
theorem w104_95 : W (pj lw) 104 95 (l0 :: l1 :: l2 :: l3 :: l4 :: l5 :: l6 :: l7 :: l8 :: l9 :: l10 :: l11 :: .val (.int x) :: L) S k n H Q ↔ W (pj lw) 104 97 (l0 :: l1 :: l2 :: l3 :: l4 :: l5 :: l6 :: l7 :: l8 :: l9 :: l10 :: l11 :: .val (.int x) :: L) (.int x :: S) k n H Q := W_s rfl rfl rfl rfl
theorem w104_97 : W (pj lw) 104 97 L (.int y :: .int x :: S) k n H Q ↔ W (pj lw) 104 98 L (.int (x >>> (y &&& 31)) :: S) k n H Q := W_s rfl rfl rfl rfl
theorem w104_98 : W (pj lw) 104 98 L S k n H Q ↔ W (pj lw) 104 99 L (.int 1 :: S) k n H Q := W_s rfl rfl rfl rfl
theorem w104_99 : W (pj lw) 104 99 L (.int y :: .int x :: S) k n H Q ↔ W (pj lw) 104 100 L (.int (x &&& y) :: S) k n H Q := W_s rfl rfl rfl rfl
theorem w104_100 : W (pj lw) 104 100 L (.int x :: S) k n H Q ↔ (if x = 0 then W (pj lw) 104 103 L S k n H Q else W (pj lw) 104 112 L S k n H Q) := W_if_ne (rfl : (pj lw).1 104 100 = some (.ifCond .ne 12, 3, 0)) rfl
theorem w104_103 : W (pj lw) 104 103 (.val (.ref x) :: L) S k n H Q ↔ W (pj lw) 104 104 (.val (.ref x) :: L) (.ref x :: S) k n H Q := W_s rfl rfl rfl rfl
theorem w104_104 : W (pj lw) 104 104 (l0 :: l1 :: l2 :: l3 :: l4 :: l5 :: l6 :: l7 :: l8 :: l9 :: l10 :: l11 :: .val (.int x) :: L) S k n H Q ↔ W (pj lw) 104 106 (l0 :: l1 :: l2 :: l3 :: l4 :: l5 :: l6 :: l7 :: l8 :: l9 :: l10 :: l11 :: .val (.int x) :: L) (.int x :: S) k n H Q := W_s rfl rfl rfl rfl
theorem w104_106 : W (pj lw) 104 106 L (.int x0 :: .ref a :: S) k n H Q ↔ ((isO H a = true ∧ cs S + (2 + 11) + 13 ≤ 26) ∧ Cl (pj lw) 27 [.ref a, .int x0] H (fun v H => W (pj lw) 104 109 L (v.toList ++ S) k n H Q)) := W_inst (as := [.int x0]) (rfl : (pj lw).1 104 106 = some (.invokevirtual 67, 3, 27)) rfl rfl rfl (Nat.le_of_ble_eq_true rfl) (Nat.le_of_ble_eq_true rfl) ⟨rfl, rfl⟩
theorem w104_109 : W (pj lw) 104 109 L (.int x :: S) k n H Q ↔ (if x = 0 then W (pj lw) 104 112 L S k n H Q else W (pj lw) 104 114 L S k n H Q) := W_if_ne (rfl : (pj lw).1 104 109 = some (.ifCond .ne 5, 3, 0)) rfl
theorem w104_114 : W (pj lw) 104 114 (l0 :: .val (.int x) :: L) S k n H Q ↔ W (pj lw) 104 115 (l0 :: .val (.int x) :: L) (.int x :: S) k n H Q := W_s rfl rfl rfl rfl
theorem w104_115 : W (pj lw) 104 115 L S k n H Q ↔ W (pj lw) 104 116 L (.int 4 :: S) k n H Q := W_s rfl rfl rfl rfl
theorem w104_116 : W (pj lw) 104 116 (l0 :: l1 :: l2 :: l3 :: l4 :: l5 :: l6 :: l7 :: l8 :: l9 :: l10 :: l11 :: .val (.int x) :: L) S k n H Q ↔ W (pj lw) 104 118 (l0 :: l1 :: l2 :: l3 :: l4 :: l5 :: l6 :: l7 :: l8 :: l9 :: l10 :: l11 :: .val (.int x) :: L) (.int x :: S) k n H Q := W_s rfl rfl rfl rfl
theorem w104_118 : W (pj lw) 104 118 L (.int y :: .int x :: S) k n H Q ↔ W (pj lw) 104 119 L (.int (x * y) :: S) k n H Q := W_s rfl rfl rfl rfl
theorem w104_119 : W (pj lw) 104 119 (l0 :: l1 :: l2 :: l3 :: l4 :: l5 :: l6 :: l7 :: l8 :: l9 :: l10 :: l11 :: l12 :: .val (.int x) :: L) S k n H Q ↔ W (pj lw) 104 121 (l0 :: l1 :: l2 :: l3 :: l4 :: l5 :: l6 :: l7 :: l8 :: l9 :: l10 :: l11 :: l12 :: .val (.int x) :: L) (.int x :: S) k n H Q := W_s rfl rfl rfl rfl
theorem w104_121 : W (pj lw) 104 121 L (.int y :: .int x :: S) k n H Q ↔ W (pj lw) 104 122 L (.int (x + y) :: S) k n H Q := W_s rfl rfl rfl rfl
theorem w104_122 : W (pj lw) 104 122 L (.int y :: .int x :: S) k n H Q ↔ W (pj lw) 104 123 L (.int (x >>> (y &&& 31)) :: S) k n H Q := W_s rfl rfl rfl rfl
theorem w104_123 : W (pj lw) 104 123 L S k n H Q ↔ W (pj lw) 104 124 L (.int 1 :: S) k n H Q := W_s rfl rfl rfl rfl
theorem w104_124 : W (pj lw) 104 124 L (.int y :: .int x :: S) k n H Q ↔ W (pj lw) 104 125 L (.int (x &&& y) :: S) k n H Q := W_s rfl rfl rfl rfl
theorem w104_125 : W (pj lw) 104 125 L (.int x :: S) k n H Q ↔ (if x = 0 then W (pj lw) 104 128 L S k n H Q else W (pj lw) 104 130 L S k n H Q) := W_if_ne (rfl : (pj lw).1 104 125 = some (.ifCond .ne 5, 3, 0)) rfl
theorem w104_130 : W (pj lw) 104 130 (l0 :: l1 :: l2 :: l3 :: l4 :: l5 :: l6 :: l7 :: .val (.int x) :: L) S k n H Q ↔ W (pj lw) 104 132 (l0 :: l1 :: l2 :: l3 :: l4 :: l5 :: l6 :: l7 :: .val (.int x) :: L) (.int x :: S) k n H Q := W_s rfl rfl rfl rfl
theorem w104_132 : W (pj lw) 104 132 L S k n H Q ↔ W (pj lw) 104 133 L (.int 1 :: S) k n H Q := W_s rfl rfl rfl rfl
theorem w104_133 : W (pj lw) 104 133 (l0 :: l1 :: l2 :: l3 :: l4 :: l5 :: l6 :: l7 :: l8 :: l9 :: l10 :: l11 :: .val (.int x) :: L) S k n H Q ↔ W (pj lw) 104 135 (l0 :: l1 :: l2 :: l3 :: l4 :: l5 :: l6 :: l7 :: l8 :: l9 :: l10 :: l11 :: .val (.int x) :: L) (.int x :: S) k n H Q := W_s rfl rfl rfl rfl
theorem w104_135 : W (pj lw) 104 135 L (.int y :: .int x :: S) k n H Q ↔ W (pj lw) 104 136 L (.int (x <<< (y &&& 31)) :: S) k n H Q := W_s rfl rfl rfl rfl
theorem w104_136 : W (pj lw) 104 136 L (.int y :: .int x :: S) k n H Q ↔ W (pj lw) 104 137 L (.int (x ||| y) :: S) k n H Q := W_s rfl rfl rfl rfl
theorem w104_137i : W (pj lw) 104 137 (l0 :: l1 :: l2 :: l3 :: l4 :: l5 :: l6 :: l7 :: .val (.int y) :: L) (.int x :: S) k n H Q ↔ W (pj lw) 104 139 (l0 :: l1 :: l2 :: l3 :: l4 :: l5 :: l6 :: l7 :: .val (.int x) :: L) S k n H Q := W_ist (rfl : (pj lw).1 104 137 = some (.istore 8, 2, 0)) rfl rfl
theorem w104_139 : W (pj lw) 104 139 (l0 :: l1 :: l2 :: l3 :: l4 :: l5 :: l6 :: l7 :: l8 :: .val (.long x) :: L) S k n H Q ↔ W (pj lw) 104 141 (l0 :: l1 :: l2 :: l3 :: l4 :: l5 :: l6 :: l7 :: l8 :: .val (.long x) :: L) (.long x :: S) k n H Q := W_s rfl rfl rfl rfl
theorem w104_141 : W (pj lw) 104 141 (l0 :: l1 :: .val (.long x) :: L) S k n H Q ↔ W (pj lw) 104 142 (l0 :: l1 :: .val (.long x) :: L) (.long x :: S) k n H Q := W_s rfl rfl rfl rfl
theorem w104_142 : W (pj lw) 104 142 L S k n H Q ↔ W (pj lw) 104 143 L (.int 4 :: S) k n H Q := W_s rfl rfl rfl rfl
theorem w104_143 : W (pj lw) 104 143 (l0 :: l1 :: l2 :: l3 :: l4 :: l5 :: l6 :: l7 :: l8 :: l9 :: l10 :: l11 :: .val (.int x) :: L) S k n H Q ↔ W (pj lw) 104 145 (l0 :: l1 :: l2 :: l3 :: l4 :: l5 :: l6 :: l7 :: l8 :: l9 :: l10 :: l11 :: .val (.int x) :: L) (.int x :: S) k n H Q := W_s rfl rfl rfl rfl
theorem w104_145 : W (pj lw) 104 145 L (.int y :: .int x :: S) k n H Q ↔ W (pj lw) 104 146 L (.int (x * y) :: S) k n H Q := W_s rfl rfl rfl rfl
theorem w104_146 : W (pj lw) 104 146 (l0 :: l1 :: l2 :: l3 :: l4 :: l5 :: l6 :: l7 :: l8 :: l9 :: l10 :: l11 :: l12 :: .val (.int x) :: L) S k n H Q ↔ W (pj lw) 104 148 (l0 :: l1 :: l2 :: l3 :: l4 :: l5 :: l6 :: l7 :: l8 :: l9 :: l10 :: l11 :: l12 :: .val (.int x) :: L) (.int x :: S) k n H Q := W_s rfl rfl rfl rfl
theorem w104_148 : W (pj lw) 104 148 L (.int y :: .int x :: S) k n H Q ↔ W (pj lw) 104 149 L (.int (x + y) :: S) k n H Q := W_s rfl rfl rfl rfl
theorem w104_149 : W (pj lw) 104 149 L (.int x1 :: .long x0 :: S) k n H Q ↔ (cs S + (3 + 11) + 0 ≤ 26 ∧ Cl (pj lw) 105 [.long x0, .int x1] H (fun v H => W (pj lw) 104 152 L (v.toList ++ S) k n H Q)) := W_stat (a := [.long x0, .int x1]) (rfl : (pj lw).1 104 149 = some (.invokestatic 70, 3, 105)) rfl rfl rfl (Nat.le_of_ble_eq_true rfl) (Nat.le_of_ble_eq_true rfl) ⟨rfl, rfl⟩
theorem w104_152 : W (pj lw) 104 152 L (.int x :: S) k n H Q ↔ W (pj lw) 104 153 L (.long x.toInt64 :: S) k n H Q := W_s rfl rfl rfl rfl
theorem w104_153 : W (pj lw) 104 153 L (.long y :: .long x :: S) k n H Q ↔ W (pj lw) 104 154 L (.long (x + y) :: S) k n H Q := W_s rfl rfl rfl rfl
theorem w104_154j : W (pj lw) 104 154 (l0 :: l1 :: l2 :: l3 :: l4 :: l5 :: l6 :: l7 :: l8 :: .val (.long y) :: .second :: L) (.long x :: S) k n H Q ↔ W (pj lw) 104 156 (l0 :: l1 :: l2 :: l3 :: l4 :: l5 :: l6 :: l7 :: l8 :: .val (.long x) :: .second :: L) S k n H Q := W_lst' (rfl : (pj lw).1 104 154 = some (.lstore 9, 2, 0)) rfl rfl
theorem w104_156 : W (pj lw) 104 156 (l0 :: l1 :: l2 :: l3 :: l4 :: l5 :: l6 :: l7 :: l8 :: l9 :: l10 :: .val (.int x) :: L) S k n H Q ↔ W (pj lw) 104 159 (l0 :: l1 :: l2 :: l3 :: l4 :: l5 :: l6 :: l7 :: l8 :: l9 :: l10 :: .val (.int (x + 1)) :: L) S k n H Q := W_s rfl rfl rfl rfl
theorem w104_159 : W (pj lw) 104 159 L S k n H Q ↔ W (pj lw) 104 43 L S k n H Q := W_goto rfl rfl
theorem w104_162 : W (pj lw) 104 162 (l0 :: l1 :: l2 :: l3 :: l4 :: l5 :: l6 :: l7 :: l8 :: .val (.long x) :: L) S k n H Q ↔ W (pj lw) 104 164 (l0 :: l1 :: l2 :: l3 :: l4 :: l5 :: l6 :: l7 :: l8 :: .val (.long x) :: L) (.long x :: S) k n H Q := W_s rfl rfl rfl rfl
theorem w104_164 : W (pj lw) 104 164 (l0 :: l1 :: l2 :: l3 :: l4 :: .val (.long x) :: L) S k n H Q ↔ W (pj lw) 104 166 (l0 :: l1 :: l2 :: l3 :: l4 :: .val (.long x) :: L) (.long x :: S) k n H Q := W_s rfl rfl rfl rfl
theorem w104_166 : W (pj lw) 104 166 L (.long y :: .long x :: S) k n H Q ↔ W (pj lw) 104 167 L (.int (Jvm.Free.XT.cmpL x y) :: S) k n H Q := W_s rfl rfl rfl rfl
theorem w104_167 : W (pj lw) 104 167 L (.int x :: S) k n H Q ↔ (if x = 0 then W (pj lw) 104 170 L S k n H Q else W (pj lw) 104 193 L S k n H Q) := W_if_ne (rfl : (pj lw).1 104 167 = some (.ifCond .ne 26, 3, 0)) rfl
theorem w104_170 : W (pj lw) 104 170 (.val (.ref x) :: L) S k n H Q ↔ W (pj lw) 104 171 (.val (.ref x) :: L) (.ref x :: S) k n H Q := W_s rfl rfl rfl rfl
theorem w104_171 : W (pj lw) 104 171 (l0 :: l1 :: l2 :: l3 :: .val (.int x) :: L) S k n H Q ↔ W (pj lw) 104 173 (l0 :: l1 :: l2 :: l3 :: .val (.int x) :: L) (.int x :: S) k n H Q := W_s rfl rfl rfl rfl
theorem w104_173 : W (pj lw) 104 173 L (.int x0 :: .ref a :: S) k n H Q ↔ ((isO H a = true ∧ cs S + (2 + 11) + 12 ≤ 26) ∧ Cl (pj lw) 26 [.ref a, .int x0] H (fun v H => W (pj lw) 104 176 L (v.toList ++ S) k n H Q)) := W_inst (as := [.int x0]) (rfl : (pj lw).1 104 173 = some (.invokevirtual 59, 3, 26)) rfl rfl rfl (Nat.le_of_ble_eq_true rfl) (Nat.le_of_ble_eq_true rfl) ⟨rfl, rfl⟩
theorem w104_176 : W (pj lw) 104 176 L S k n H Q ↔ W (pj lw) 104 177 L (.int (-1) :: S) k n H Q := W_s rfl rfl rfl rfl
theorem w104_177 : W (pj lw) 104 177 L (.int y :: .int x :: S) k n H Q ↔ (if x = y then W (pj lw) 104 180 L S k n H Q else W (pj lw) 104 193 L S k n H Q) := W_icmp_ne (rfl : (pj lw).1 104 177 = some (.if_icmp .ne 16, 3, 0)) rfl
theorem w104_180 : W (pj lw) 104 180 (.val (.ref x) :: L) S k n H Q ↔ W (pj lw) 104 181 (.val (.ref x) :: L) (.ref x :: S) k n H Q := W_s rfl rfl rfl rfl
theorem w104_181 : W (pj lw) 104 181 L S k n H Q ↔ W (pj lw) 104 182 L (.int (-1) :: S) k n H Q := W_s rfl rfl rfl rfl
theorem w104_182 : W (pj lw) 104 182 L (.int x0 :: .ref a :: S) k n H Q ↔ ((isO H a = true ∧ cs S + (2 + 11) + 12 ≤ 26) ∧ Cl (pj lw) 26 [.ref a, .int x0] H (fun v H => W (pj lw) 104 185 L (v.toList ++ S) k n H Q)) := W_inst (as := [.int x0]) (rfl : (pj lw).1 104 182 = some (.invokevirtual 59, 3, 26)) rfl rfl rfl (Nat.le_of_ble_eq_true rfl) (Nat.le_of_ble_eq_true rfl) ⟨rfl, rfl⟩
theorem w104_185 : W (pj lw) 104 185 L S k n H Q ↔ W (pj lw) 104 186 L (.int (-1) :: S) k n H Q := W_s rfl rfl rfl rfl
theorem w104_186 : W (pj lw) 104 186 L (.int y :: .int x :: S) k n H Q ↔ (if x = y then W (pj lw) 104 189 L S k n H Q else W (pj lw) 104 193 L S k n H Q) := W_icmp_ne (rfl : (pj lw).1 104 186 = some (.if_icmp .ne 7, 3, 0)) rfl
theorem w104_189 : W (pj lw) 104 189 L S k n H Q ↔ W (pj lw) 104 190 L (.int 1 :: S) k n H Q := W_s rfl rfl rfl rfl
theorem w104_190 : W (pj lw) 104 190 L S k n H Q ↔ W (pj lw) 104 194 L S k n H Q := W_goto rfl rfl
theorem w104_194 : W (pj lw) 104 194 L (.int x :: S) k n H Q ↔ ((x = 0 ∨ x = 1) ∧ Q (some (.int x)) H) := W_rz rfl rfl
theorem c105 {x0 : Int64} {x1 : Int32} : Cl (pj lw) 105 [.long x0, .int x1] H Q ↔ W (pj lw) 105 0 [.val (.long x0), .second, .val (.int x1)] [] 0 0 H Q := cl_unf rfl
theorem w105_0 : W (pj lw) 105 0 (.val (.long x) :: L) S k n H Q ↔ W (pj lw) 105 1 (.val (.long x) :: L) (.long x :: S) k n H Q := W_s rfl rfl rfl rfl
theorem w105_1 : W (pj lw) 105 1 L S k n H Q ↔ W (pj lw) 105 2 L (.int 4 :: S) k n H Q := W_s rfl rfl rfl rfl
theorem w105_2 : W (pj lw) 105 2 (l0 :: l1 :: .val (.int x) :: L) S k n H Q ↔ W (pj lw) 105 3 (l0 :: l1 :: .val (.int x) :: L) (.int x :: S) k n H Q := W_s rfl rfl rfl rfl
theorem w105_3 : W (pj lw) 105 3 L (.int y :: .int x :: S) k n H Q ↔ W (pj lw) 105 4 L (.int (x * y) :: S) k n H Q := W_s rfl rfl rfl rfl
theorem w105_4 : W (pj lw) 105 4 L (.int y :: .long x :: S) k n H Q ↔ W (pj lw) 105 5 L (.long (x >>> (y.toInt64 &&& 63)) :: S) k n H Q := W_s rfl rfl rfl rfl
theorem w105_5 : W (pj lw) 105 5 L S k n H Q ↔ W (pj lw) 105 8 L (.long 15 :: S) k n H Q := W_s rfl rfl rfl rfl
theorem w105_8 : W (pj lw) 105 8 L (.long y :: .long x :: S) k n H Q ↔ W (pj lw) 105 9 L (.long (x &&& y) :: S) k n H Q := W_s rfl rfl rfl rfl
theorem w105_9 : W (pj lw) 105 9 L (.long x :: S) k n H Q ↔ W (pj lw) 105 10 L (.int x.toInt32 :: S) k n H Q := W_s rfl rfl rfl rfl
theorem w105_10 : W (pj lw) 105 10 L S k n H Q ↔ W (pj lw) 105 12 L (.int 8 :: S) k n H Q := W_s rfl rfl rfl rfl
theorem w105_12 : W (pj lw) 105 12 L (.int y :: .int x :: S) k n H Q ↔ W (pj lw) 105 13 L (.int (x - y) :: S) k n H Q := W_s rfl rfl rfl rfl
theorem w105_13 : W (pj lw) 105 13 L (.int x :: S) k n H Q ↔ Q (some (.int x)) H := W_r rfl rfl
theorem c106 {x0 : Int64} {x1 : Int32} {x2 : Int32} : Cl (pj lw) 106 [.long x0, .int x1, .int x2] H Q ↔ W (pj lw) 106 0 [.val (.long x0), .second, .val (.int x1), .val (.int x2), .unset, .unset] [] 0 0 H Q := cl_unf rfl
theorem w106_0 : W (pj lw) 106 0 L S k n H Q ↔ W (pj lw) 106 3 L (.long 15 :: S) k n H Q := W_s rfl rfl rfl rfl
theorem w106_3 : W (pj lw) 106 3 L S k n H Q ↔ W (pj lw) 106 4 L (.int 4 :: S) k n H Q := W_s rfl rfl rfl rfl
theorem w106_4 : W (pj lw) 106 4 (l0 :: l1 :: .val (.int x) :: L) S k n H Q ↔ W (pj lw) 106 5 (l0 :: l1 :: .val (.int x) :: L) (.int x :: S) k n H Q := W_s rfl rfl rfl rfl
theorem w106_5 : W (pj lw) 106 5 L (.int y :: .int x :: S) k n H Q ↔ W (pj lw) 106 6 L (.int (x * y) :: S) k n H Q := W_s rfl rfl rfl rfl
theorem w106_6 : W (pj lw) 106 6 L (.int y :: .long x :: S) k n H Q ↔ W (pj lw) 106 7 L (.long (x <<< (y.toInt64 &&& 63)) :: S) k n H Q := W_s rfl rfl rfl rfl
theorem w106_7uu : W (pj lw) 106 7 (l0 :: l1 :: l2 :: l3 :: .unset :: .unset :: L) (.long x :: S) k n H Q ↔ W (pj lw) 106 9 (l0 :: l1 :: l2 :: l3 :: .val (.long x) :: .second :: L) S k n H Q := W_lst (rfl : (pj lw).1 106 7 = some (.lstore 4, 2, 0)) rfl rfl rfl rfl
theorem w106_9 : W (pj lw) 106 9 (.val (.long x) :: L) S k n H Q ↔ W (pj lw) 106 10 (.val (.long x) :: L) (.long x :: S) k n H Q := W_s rfl rfl rfl rfl
theorem w106_10 : W (pj lw) 106 10 (l0 :: l1 :: l2 :: l3 :: .val (.long x) :: L) S k n H Q ↔ W (pj lw) 106 12 (l0 :: l1 :: l2 :: l3 :: .val (.long x) :: L) (.long x :: S) k n H Q := W_s rfl rfl rfl rfl
theorem w106_12 : W (pj lw) 106 12 L S k n H Q ↔ W (pj lw) 106 15 L (.long (-1) :: S) k n H Q := W_s rfl rfl rfl rfl
theorem w106_15 : W (pj lw) 106 15 L (.long y :: .long x :: S) k n H Q ↔ W (pj lw) 106 16 L (.long (x ^^^ y) :: S) k n H Q := W_s rfl rfl rfl rfl
theorem w106_16 : W (pj lw) 106 16 L (.long y :: .long x :: S) k n H Q ↔ W (pj lw) 106 17 L (.long (x &&& y) :: S) k n H Q := W_s rfl rfl rfl rfl
theorem w106_17 : W (pj lw) 106 17 (l0 :: l1 :: l2 :: .val (.int x) :: L) S k n H Q ↔ W (pj lw) 106 18 (l0 :: l1 :: l2 :: .val (.int x) :: L) (.int x :: S) k n H Q := W_s rfl rfl rfl rfl
theorem w106_18 : W (pj lw) 106 18 L S k n H Q ↔ W (pj lw) 106 20 L (.int 8 :: S) k n H Q := W_s rfl rfl rfl rfl
theorem w106_20 : W (pj lw) 106 20 L (.int y :: .int x :: S) k n H Q ↔ W (pj lw) 106 21 L (.int (x + y) :: S) k n H Q := W_s rfl rfl rfl rfl
theorem w106_21 : W (pj lw) 106 21 L (.int x :: S) k n H Q ↔ W (pj lw) 106 22 L (.long x.toInt64 :: S) k n H Q := W_s rfl rfl rfl rfl
theorem w106_22 : W (pj lw) 106 22 L S k n H Q ↔ W (pj lw) 106 23 L (.int 4 :: S) k n H Q := W_s rfl rfl rfl rfl
theorem w106_23 : W (pj lw) 106 23 (l0 :: l1 :: .val (.int x) :: L) S k n H Q ↔ W (pj lw) 106 24 (l0 :: l1 :: .val (.int x) :: L) (.int x :: S) k n H Q := W_s rfl rfl rfl rfl
theorem w106_24 : W (pj lw) 106 24 L (.int y :: .int x :: S) k n H Q ↔ W (pj lw) 106 25 L (.int (x * y) :: S) k n H Q := W_s rfl rfl rfl rfl
theorem w106_25 : W (pj lw) 106 25 L (.int y :: .long x :: S) k n H Q ↔ W (pj lw) 106 26 L (.long (x <<< (y.toInt64 &&& 63)) :: S) k n H Q := W_s rfl rfl rfl rfl
theorem w106_26 : W (pj lw) 106 26 L (.long y :: .long x :: S) k n H Q ↔ W (pj lw) 106 27 L (.long (x ||| y) :: S) k n H Q := W_s rfl rfl rfl rfl
theorem w106_27 : W (pj lw) 106 27 L (.long x :: S) k n H Q ↔ Q (some (.long x)) H := W_r rfl rfl
theorem c107 {x0 : Int32} {x1 : Int32} : Cl (pj lw) 107 [.int x0, .int x1] H Q ↔ W (pj lw) 107 0 [.val (.int x0), .val (.int x1), .unset, .unset, .unset] [] 0 0 H Q := cl_unf rfl
theorem w107_0 : W (pj lw) 107 0 L S k n H Q ↔ W (pj lw) 107 1 L (.int 0 :: S) k n H Q := W_s rfl rfl rfl rfl
theorem w107_1 : W (pj lw) 107 1 (l0 :: l1 :: .unset :: L) (.int x :: S) k n H Q ↔ W (pj lw) 107 2 (l0 :: l1 :: .val (.int x) :: L) S k n H Q := W_istn (rfl : (pj lw).1 107 1 = some (.istore_n 2, 1, 0)) rfl rfl
theorem w107_2 : W (pj lw) 107 2 L S k n H Q ↔ W (pj lw) 107 3 L (.int 0 :: S) k n H Q := W_s rfl rfl rfl rfl
theorem w107_3 : W (pj lw) 107 3 (l0 :: l1 :: l2 :: .unset :: L) (.int x :: S) k n H Q ↔ W (pj lw) 107 4 (l0 :: l1 :: l2 :: .val (.int x) :: L) S k n H Q := W_istn (rfl : (pj lw).1 107 3 = some (.istore_n 3, 1, 0)) rfl rfl
theorem w107_4 : W (pj lw) 107 4 (l0 :: l1 :: l2 :: .val (.int x) :: L) S k n H Q ↔ W (pj lw) 107 5 (l0 :: l1 :: l2 :: .val (.int x) :: L) (.int x :: S) k n H Q := W_s rfl rfl rfl rfl
theorem w107_5 : W (pj lw) 107 5 L S k n H Q ↔ W (pj lw) 107 6 L (.int 4 :: S) k n H Q := W_s rfl rfl rfl rfl
theorem w107_6 : W (pj lw) 107 6 L (.int y :: .int x :: S) k n H Q ↔ (if x < y then W (pj lw) 107 9 L S k n H Q else W (pj lw) 107 59 L S k n H Q) := W_icmp_ge (rfl : (pj lw).1 107 6 = some (.if_icmp .ge 53, 3, 0)) rfl
theorem w107_9 : W (pj lw) 107 9 L S k n H Q ↔ W (pj lw) 107 10 L (.int 0 :: S) k n H Q := W_s rfl rfl rfl rfl
theorem w107_10 : W (pj lw) 107 10 (l0 :: l1 :: l2 :: l3 :: .unset :: L) (.int x :: S) k n H Q ↔ W (pj lw) 107 12 (l0 :: l1 :: l2 :: l3 :: .val (.int x) :: L) S k n H Q := W_ist (rfl : (pj lw).1 107 10 = some (.istore 4, 2, 0)) rfl rfl
theorem w107_12 : W (pj lw) 107 12 (l0 :: l1 :: l2 :: l3 :: .val (.int x) :: L) S k n H Q ↔ W (pj lw) 107 14 (l0 :: l1 :: l2 :: l3 :: .val (.int x) :: L) (.int x :: S) k n H Q := W_s rfl rfl rfl rfl
theorem w107_14 : W (pj lw) 107 14 L S k n H Q ↔ W (pj lw) 107 15 L (.int 4 :: S) k n H Q := W_s rfl rfl rfl rfl
theorem w107_15 : W (pj lw) 107 15 L (.int y :: .int x :: S) k n H Q ↔ (if x < y then W (pj lw) 107 18 L S k n H Q else W (pj lw) 107 53 L S k n H Q) := W_icmp_ge (rfl : (pj lw).1 107 15 = some (.if_icmp .ge 38, 3, 0)) rfl
theorem w107_18 : W (pj lw) 107 18 (.val (.int x) :: L) S k n H Q ↔ W (pj lw) 107 19 (.val (.int x) :: L) (.int x :: S) k n H Q := W_s rfl rfl rfl rfl
theorem w107_19 : W (pj lw) 107 19 L S k n H Q ↔ W (pj lw) 107 20 L (.int 4 :: S) k n H Q := W_s rfl rfl rfl rfl
theorem w107_20 : W (pj lw) 107 20 (l0 :: l1 :: l2 :: .val (.int x) :: L) S k n H Q ↔ W (pj lw) 107 21 (l0 :: l1 :: l2 :: .val (.int x) :: L) (.int x :: S) k n H Q := W_s rfl rfl rfl rfl
theorem w107_21 : W (pj lw) 107 21 L (.int y :: .int x :: S) k n H Q ↔ W (pj lw) 107 22 L (.int (x * y) :: S) k n H Q := W_s rfl rfl rfl rfl
theorem w107_22 : W (pj lw) 107 22 (l0 :: l1 :: l2 :: l3 :: .val (.int x) :: L) S k n H Q ↔ W (pj lw) 107 24 (l0 :: l1 :: l2 :: l3 :: .val (.int x) :: L) (.int x :: S) k n H Q := W_s rfl rfl rfl rfl
theorem w107_24 : W (pj lw) 107 24 L (.int y :: .int x :: S) k n H Q ↔ W (pj lw) 107 25 L (.int (x + y) :: S) k n H Q := W_s rfl rfl rfl rfl
theorem w107_25 : W (pj lw) 107 25 L (.int y :: .int x :: S) k n H Q ↔ W (pj lw) 107 26 L (.int (x >>> (y &&& 31)) :: S) k n H Q := W_s rfl rfl rfl rfl
theorem w107_26 : W (pj lw) 107 26 L S k n H Q ↔ W (pj lw) 107 27 L (.int 1 :: S) k n H Q := W_s rfl rfl rfl rfl
theorem w107_27 : W (pj lw) 107 27 L (.int y :: .int x :: S) k n H Q ↔ W (pj lw) 107 28 L (.int (x &&& y) :: S) k n H Q := W_s rfl rfl rfl rfl
theorem w107_28 : W (pj lw) 107 28 L (.int x :: S) k n H Q ↔ (if x = 0 then W (pj lw) 107 47 L S k n H Q else W (pj lw) 107 31 L S k n H Q) := W_if_eq (rfl : (pj lw).1 107 28 = some (.ifCond .eq 19, 3, 0)) rfl
theorem w107_31 : W (pj lw) 107 31 (l0 :: l1 :: .val (.int x) :: L) S k n H Q ↔ W (pj lw) 107 32 (l0 :: l1 :: .val (.int x) :: L) (.int x :: S) k n H Q := W_s rfl rfl rfl rfl
theorem w107_32 : W (pj lw) 107 32 (l0 :: .val (.int x) :: L) S k n H Q ↔ W (pj lw) 107 33 (l0 :: .val (.int x) :: L) (.int x :: S) k n H Q := W_s rfl rfl rfl rfl
theorem w107_33 : W (pj lw) 107 33 L S k n H Q ↔ W (pj lw) 107 34 L (.int 4 :: S) k n H Q := W_s rfl rfl rfl rfl
theorem w107_34 : W (pj lw) 107 34 (l0 :: l1 :: l2 :: l3 :: .val (.int x) :: L) S k n H Q ↔ W (pj lw) 107 36 (l0 :: l1 :: l2 :: l3 :: .val (.int x) :: L) (.int x :: S) k n H Q := W_s rfl rfl rfl rfl
theorem w107_36 : W (pj lw) 107 36 L (.int y :: .int x :: S) k n H Q ↔ W (pj lw) 107 37 L (.int (x * y) :: S) k n H Q := W_s rfl rfl rfl rfl
theorem w107_37 : W (pj lw) 107 37 L (.int y :: .int x :: S) k n H Q ↔ W (pj lw) 107 38 L (.int (x >>> (y &&& 31)) :: S) k n H Q := W_s rfl rfl rfl rfl
theorem w107_38 : W (pj lw) 107 38 L S k n H Q ↔ W (pj lw) 107 40 L (.int 15 :: S) k n H Q := W_s rfl rfl rfl rfl
theorem w107_40 : W (pj lw) 107 40 L (.int y :: .int x :: S) k n H Q ↔ W (pj lw) 107 41 L (.int (x &&& y) :: S) k n H Q := W_s rfl rfl rfl rfl
theorem w107_41 : W (pj lw) 107 41 L S k n H Q ↔ W (pj lw) 107 42 L (.int 4 :: S) k n H Q := W_s rfl rfl rfl rfl
theorem w107_42 : W (pj lw) 107 42 (l0 :: l1 :: l2 :: .val (.int x) :: L) S k n H Q ↔ W (pj lw) 107 43 (l0 :: l1 :: l2 :: .val (.int x) :: L) (.int x :: S) k n H Q := W_s rfl rfl rfl rfl
theorem w107_43 : W (pj lw) 107 43 L (.int y :: .int x :: S) k n H Q ↔ W (pj lw) 107 44 L (.int (x * y) :: S) k n H Q := W_s rfl rfl rfl rfl
theorem w107_44 : W (pj lw) 107 44 L (.int y :: .int x :: S) k n H Q ↔ W (pj lw) 107 45 L (.int (x <<< (y &&& 31)) :: S) k n H Q := W_s rfl rfl rfl rfl
theorem w107_45 : W (pj lw) 107 45 L (.int y :: .int x :: S) k n H Q ↔ W (pj lw) 107 46 L (.int (x ||| y) :: S) k n H Q := W_s rfl rfl rfl rfl
theorem w107_46i : W (pj lw) 107 46 (l0 :: l1 :: .val (.int y) :: L) (.int x :: S) k n H Q ↔ W (pj lw) 107 47 (l0 :: l1 :: .val (.int x) :: L) S k n H Q := W_istn (rfl : (pj lw).1 107 46 = some (.istore_n 2, 1, 0)) rfl rfl
theorem w107_47 : W (pj lw) 107 47 (l0 :: l1 :: l2 :: l3 :: .val (.int x) :: L) S k n H Q ↔ W (pj lw) 107 50 (l0 :: l1 :: l2 :: l3 :: .val (.int (x + 1)) :: L) S k n H Q := W_s rfl rfl rfl rfl
theorem w107_50 : W (pj lw) 107 50 L S k n H Q ↔ W (pj lw) 107 12 L S k n H Q := W_goto rfl rfl
theorem w107_53 : W (pj lw) 107 53 (l0 :: l1 :: l2 :: .val (.int x) :: L) S k n H Q ↔ W (pj lw) 107 56 (l0 :: l1 :: l2 :: .val (.int (x + 1)) :: L) S k n H Q := W_s rfl rfl rfl rfl
theorem w107_56 : W (pj lw) 107 56 L S k n H Q ↔ W (pj lw) 107 4 L S k n H Q := W_goto rfl rfl
theorem w107_59 : W (pj lw) 107 59 (l0 :: l1 :: .val (.int x) :: L) S k n H Q ↔ W (pj lw) 107 60 (l0 :: l1 :: .val (.int x) :: L) (.int x :: S) k n H Q := W_s rfl rfl rfl rfl
theorem w107_60 : W (pj lw) 107 60 L (.int x :: S) k n H Q ↔ Q (some (.int x)) H := W_r rfl rfl
theorem c108 {x0 : Int32} : Cl (pj lw) 108 [.int x0] H Q ↔ W (pj lw) 108 0 [.val (.int x0), .unset, .unset] [] 0 0 H Q := cl_unf rfl
theorem w108_0 : W (pj lw) 108 0 (.val (.int x) :: L) S k n H Q ↔ W (pj lw) 108 1 (.val (.int x) :: L) (.int x :: S) k n H Q := W_s rfl rfl rfl rfl
theorem w108_1 : W (pj lw) 108 1 (l0 :: .unset :: L) (.int x :: S) k n H Q ↔ W (pj lw) 108 2 (l0 :: .val (.int x) :: L) S k n H Q := W_istn (rfl : (pj lw).1 108 1 = some (.istore_n 1, 1, 0)) rfl rfl
theorem w108_2 : W (pj lw) 108 2 L S k n H Q ↔ W (pj lw) 108 3 L (.int 0 :: S) k n H Q := W_s rfl rfl rfl rfl
theorem w108_3 : W (pj lw) 108 3 (l0 :: l1 :: .unset :: L) (.int x :: S) k n H Q ↔ W (pj lw) 108 4 (l0 :: l1 :: .val (.int x) :: L) S k n H Q := W_istn (rfl : (pj lw).1 108 3 = some (.istore_n 2, 1, 0)) rfl rfl
theorem w108_4 : W (pj lw) 108 4 (l0 :: l1 :: .val (.int x) :: L) S k n H Q ↔ W (pj lw) 108 5 (l0 :: l1 :: .val (.int x) :: L) (.int x :: S) k n H Q := W_s rfl rfl rfl rfl
theorem w108_5 : W (pj lw) 108 5 L S k n H Q ↔ W (pj lw) 108 6 L (.int 3 :: S) k n H Q := W_s rfl rfl rfl rfl
theorem w108_6 : W (pj lw) 108 6 L (.int y :: .int x :: S) k n H Q ↔ (if x < y then W (pj lw) 108 9 L S k n H Q else W (pj lw) 108 23 L S k n H Q) := W_icmp_ge (rfl : (pj lw).1 108 6 = some (.if_icmp .ge 17, 3, 0)) rfl
theorem w108_9 : W (pj lw) 108 9 (l0 :: .val (.int x) :: L) S k n H Q ↔ W (pj lw) 108 10 (l0 :: .val (.int x) :: L) (.int x :: S) k n H Q := W_s rfl rfl rfl rfl
theorem w108_10 : W (pj lw) 108 10 (l0 :: .val (.int x) :: L) S k n H Q ↔ W (pj lw) 108 11 (l0 :: .val (.int x) :: L) (.int x :: S) k n H Q := W_s rfl rfl rfl rfl
theorem w108_11 : W (pj lw) 108 11 (.val (.int x) :: L) S k n H Q ↔ W (pj lw) 108 12 (.val (.int x) :: L) (.int x :: S) k n H Q := W_s rfl rfl rfl rfl
theorem w108_12 : W (pj lw) 108 12 L (.int x1 :: .int x0 :: S) k n H Q ↔ (cs S + (5 + 11) + 0 ≤ 17 ∧ Cl (pj lw) 107 [.int x0, .int x1] H (fun v H => W (pj lw) 108 15 L (v.toList ++ S) k n H Q)) := W_stat (a := [.int x0, .int x1]) (rfl : (pj lw).1 108 12 = some (.invokestatic 93, 3, 107)) rfl rfl rfl (Nat.le_of_ble_eq_true rfl) (Nat.le_of_ble_eq_true rfl) ⟨rfl, rfl⟩
theorem w108_15 : W (pj lw) 108 15 L (.int y :: .int x :: S) k n H Q ↔ W (pj lw) 108 16 L (.int (x ||| y) :: S) k n H Q := W_s rfl rfl rfl rfl
theorem w108_16i : W (pj lw) 108 16 (l0 :: .val (.int y) :: L) (.int x :: S) k n H Q ↔ W (pj lw) 108 17 (l0 :: .val (.int x) :: L) S k n H Q := W_istn (rfl : (pj lw).1 108 16 = some (.istore_n 1, 1, 0)) rfl rfl
theorem w108_17 : W (pj lw) 108 17 (l0 :: l1 :: .val (.int x) :: L) S k n H Q ↔ W (pj lw) 108 20 (l0 :: l1 :: .val (.int (x + 1)) :: L) S k n H Q := W_s rfl rfl rfl rfl
theorem w108_20 : W (pj lw) 108 20 L S k n H Q ↔ W (pj lw) 108 4 L S k n H Q := W_goto rfl rfl
theorem w108_23 : W (pj lw) 108 23 L S k n H Q ↔ W (pj lw) 108 24 L (.int 0 :: S) k n H Q := W_s rfl rfl rfl rfl
theorem w108_24i : W (pj lw) 108 24 (l0 :: l1 :: .val (.int y) :: L) (.int x :: S) k n H Q ↔ W (pj lw) 108 25 (l0 :: l1 :: .val (.int x) :: L) S k n H Q := W_istn (rfl : (pj lw).1 108 24 = some (.istore_n 2, 1, 0)) rfl rfl
theorem w108_25 : W (pj lw) 108 25 (l0 :: l1 :: .val (.int x) :: L) S k n H Q ↔ W (pj lw) 108 26 (l0 :: l1 :: .val (.int x) :: L) (.int x :: S) k n H Q := W_s rfl rfl rfl rfl
theorem w108_26 : W (pj lw) 108 26 L S k n H Q ↔ W (pj lw) 108 27 L (.int 4 :: S) k n H Q := W_s rfl rfl rfl rfl
theorem w108_27 : W (pj lw) 108 27 L (.int y :: .int x :: S) k n H Q ↔ (if x < y then W (pj lw) 108 30 L S k n H Q else W (pj lw) 108 48 L S k n H Q) := W_icmp_ge (rfl : (pj lw).1 108 27 = some (.if_icmp .ge 21, 3, 0)) rfl
theorem w108_30 : W (pj lw) 108 30 (l0 :: .val (.int x) :: L) S k n H Q ↔ W (pj lw) 108 31 (l0 :: .val (.int x) :: L) (.int x :: S) k n H Q := W_s rfl rfl rfl rfl
theorem w108_31 : W (pj lw) 108 31 L S k n H Q ↔ W (pj lw) 108 32 L (.int 5 :: S) k n H Q := W_s rfl rfl rfl rfl
theorem w108_32 : W (pj lw) 108 32 (l0 :: l1 :: .val (.int x) :: L) S k n H Q ↔ W (pj lw) 108 33 (l0 :: l1 :: .val (.int x) :: L) (.int x :: S) k n H Q := W_s rfl rfl rfl rfl
theorem w108_33 : W (pj lw) 108 33 L (.int y :: .int x :: S) k n H Q ↔ W (pj lw) 108 34 L (.int (x * y) :: S) k n H Q := W_s rfl rfl rfl rfl
theorem w108_34 : W (pj lw) 108 34 L (.int y :: .int x :: S) k n H Q ↔ W (pj lw) 108 35 L (.int (x >>> (y &&& 31)) :: S) k n H Q := W_s rfl rfl rfl rfl
theorem w108_35 : W (pj lw) 108 35 L S k n H Q ↔ W (pj lw) 108 36 L (.int 1 :: S) k n H Q := W_s rfl rfl rfl rfl
theorem w108_36 : W (pj lw) 108 36 L (.int y :: .int x :: S) k n H Q ↔ W (pj lw) 108 37 L (.int (x &&& y) :: S) k n H Q := W_s rfl rfl rfl rfl
theorem w108_37 : W (pj lw) 108 37 L (.int x :: S) k n H Q ↔ (if x = 0 then W (pj lw) 108 42 L S k n H Q else W (pj lw) 108 40 L S k n H Q) := W_if_eq (rfl : (pj lw).1 108 37 = some (.ifCond .eq 5, 3, 0)) rfl
theorem w108_40 : W (pj lw) 108 40 L S k n H Q ↔ W (pj lw) 108 41 L (.int 1 :: S) k n H Q := W_s rfl rfl rfl rfl
theorem w108_41 : W (pj lw) 108 41 L (.int x :: S) k n H Q ↔ ((x = 0 ∨ x = 1) ∧ Q (some (.int x)) H) := W_rz rfl rfl
theorem w108_42 : W (pj lw) 108 42 (l0 :: l1 :: .val (.int x) :: L) S k n H Q ↔ W (pj lw) 108 45 (l0 :: l1 :: .val (.int (x + 1)) :: L) S k n H Q := W_s rfl rfl rfl rfl
theorem w108_45 : W (pj lw) 108 45 L S k n H Q ↔ W (pj lw) 108 25 L S k n H Q := W_goto rfl rfl
theorem w108_48 : W (pj lw) 108 48 L S k n H Q ↔ W (pj lw) 108 49 L (.int 0 :: S) k n H Q := W_s rfl rfl rfl rfl
theorem w108_49 : W (pj lw) 108 49 L (.int x :: S) k n H Q ↔ ((x = 0 ∨ x = 1) ∧ Q (some (.int x)) H) := W_rz rfl rfl
end LPc
section X8
variable {H G : AH} {p a : Nat} {s t : St} {x R K0 w b r : Int32} {k n u v i j X L : Nat} {Q : Option Value → AH → Prop} {q : Nat → Nat} {C : Int} {φ : Nat → Int} {z z' : Int64}
theorem put_c {c : Nat} : (c, (ob H p s).2) = ob (c, H.2) p s := rfl
theorem ofN (h0 : 0 ≤ x.toInt) {B : Nat} (h1 : x.toInt < B) : ∃ U, U < B ∧ x = Int32.ofNat U := by
  refine ⟨x.toNatClampNeg, by rw [cln]; omega, ?_⟩
  have e : Int32.ofNat x.toInt.toNat = x := by rw [← Int32.toNatClampNeg.eq_1, Int32.ofNat_toNatClampNeg x (by rw [Int32.le_iff_toInt_le]; simpa using h0)]
  rw [cln]; exact e.symm
def bl (z : Int64) (X : Nat) : Bool := z.toBitVec.getLsbD X
def nb (z : Int64) (i : Nat) : Int64 := (z >>> ((4 * Int32.ofNat i).toInt64 &&& 63)) &&& 15
def gW (z : Int64) (i : Nat) : Int32 := (nb z i).toInt32 - 8
def sW (z : Int64) (i : Nat) (w : Int32) : Int64 := (z &&& (((15 : Int64) <<< ((4 * Int32.ofNat i).toInt64 &&& 63)) ^^^ (-1))) ||| ((w + 8).toInt64 <<< ((4 * Int32.ofNat i).toInt64 &&& 63))
theorem ksh (h : i < 16) : ((4 * Int32.ofNat i).toInt64 &&& 63).toBitVec.smod 64 = BitVec.ofNat 64 (4 * i) := by
  have key : ∀ j : Fin 16, ((4 * Int32.ofNat j.val).toInt64 &&& 63).toBitVec.smod 64 = BitVec.ofNat 64 (4 * j.val) := by decide +kernel
  exact key ⟨i, h⟩
theorem c15 (X : Nat) : (15 : Int64).toBitVec.getLsbD X = decide (X < 4) := by
  by_cases e : X < 64
  · have key : ∀ j : Fin 64, (15 : Int64).toBitVec.getLsbD j.val = decide (j.val < 4) := by decide +kernel
    exact key ⟨X, e⟩
  · rw [BitVec.getLsbD_of_ge _ _ (by omega), decide_eq_false (by omega)]
theorem cm1 (h : X < 64) : (-1 : Int64).toBitVec.getLsbD X = true := by
  have key : ∀ j : Fin 64, (-1 : Int64).toBitVec.getLsbD j.val = true := by decide +kernel
  exact key ⟨X, h⟩
theorem bl_nb (h : i < 16) : bl (nb z i) X = (decide (X < 4) && bl z (4 * i + X)) := by
  have e : (z >>> ((4 * Int32.ofNat i).toInt64 &&& 63)).toBitVec = z.toBitVec.sshiftRight (4 * i) := by
    show z.toBitVec.sshiftRight' (((4 * Int32.ofNat i).toInt64 &&& 63).toBitVec.smod 64) = _
    rw [ksh h, BitVec.sshiftRight_eq', BitVec.toNat_ofNat, Nat.mod_eq_of_lt (by omega)]
  unfold bl nb
  rw [Int64.toBitVec_and, BitVec.getLsbD_and, e, c15, BitVec.getLsbD_sshiftRight]
  by_cases g : X < 4
  · rw [decide_eq_true g, if_pos (by omega), decide_eq_false (show ¬ 64 ≤ X by omega)]; simp
  · rw [decide_eq_false g]; simp
theorem bl_ext (h : ∀ X, X < 64 → bl z X = bl z' X) : z = z' := by
  rw [← Int64.toBitVec_inj]; exact BitVec.eq_of_getLsbD_eq fun i hi => h i hi
theorem bl_shl (h : i < 16) (hX : X < 64) : bl (z <<< ((4 * Int32.ofNat i).toInt64 &&& 63)) X = (decide (4 * i ≤ X) && bl z (X - 4 * i)) := by
  have e : (z <<< ((4 * Int32.ofNat i).toInt64 &&& 63)).toBitVec = z.toBitVec <<< (4 * i) := by
    show z.toBitVec <<< (((4 * Int32.ofNat i).toInt64 &&& 63).toBitVec.smod 64) = _
    rw [ksh h, BitVec.shiftLeft_eq', BitVec.toNat_ofNat, Nat.mod_eq_of_lt (by omega)]
  unfold bl
  rw [e, BitVec.getLsbD_shiftLeft, decide_eq_true hX]
  by_cases g : 4 * i ≤ X
  · rw [decide_eq_true g, decide_eq_false (by omega)]; rfl
  · rw [decide_eq_false g, decide_eq_true (by omega)]; rfl
theorem bl_sW (h : i < 16) (hX : X < 64) : bl (sW z i w) X = ((bl z X && !(decide (4 * i ≤ X) && decide (X - 4 * i < 4))) || (decide (4 * i ≤ X) && bl (w + 8).toInt64 (X - 4 * i))) := by
  have e1 := bl_shl (z := 15) h hX
  have e2 := bl_shl (z := (w + 8).toInt64) h hX
  unfold bl at e1 e2
  unfold bl sW
  rw [Int64.toBitVec_or, BitVec.getLsbD_or, Int64.toBitVec_and, BitVec.getLsbD_and, Int64.toBitVec_xor, BitVec.getLsbD_xor, cm1 hX, e1, e2, c15]
  simp
theorem w8 (hw : -8 ≤ w.toInt ∧ w.toInt ≤ 7) : 4 ≤ X → bl (w + 8).toInt64 X = false := fun hX => by
  have e : (w + 8).toInt = w.toInt + 8 := ia (by simp only [Int32.reduceToInt]; omega) (by simp only [Int32.reduceToInt]; omega)
  obtain ⟨k, hk, ek⟩ := ofN (x := w + 8) (by omega) (B := 16) (by omega)
  rw [ek]
  by_cases g : X < 64
  · have key : ∀ (k : Fin 16) (X : Fin 64), 4 ≤ X.val → bl (Int32.ofNat k.val).toInt64 X.val = false := by decide +kernel
    exact key ⟨k, hk⟩ ⟨X, g⟩ hX
  · unfold bl; exact BitVec.getLsbD_of_ge _ _ (by omega)
theorem gW_ne (h : i < 16) (h' : j < 16) (hne : j ≠ i) (hw : -8 ≤ w.toInt ∧ w.toInt ≤ 7) : gW (sW z i w) j = gW z j := by
  have : nb (sW z i w) j = nb z j := bl_ext fun X hX => by
    rw [bl_nb h', bl_nb h']
    by_cases g : X < 4
    · rw [bl_sW h (by omega)]
      by_cases l : 4 * i ≤ 4 * j + X
      · rw [w8 hw (by omega), decide_eq_false (show ¬ 4 * j + X - 4 * i < 4 by omega)]; simp
      · rw [decide_eq_false l]; simp
    · rw [decide_eq_false g]; rfl
  unfold gW; rw [this]
theorem gW_eq (h : i < 16) (hw : -8 ≤ w.toInt ∧ w.toInt ≤ 7) : gW (sW z i w) i = w := by
  have : nb (sW z i w) i = (w + 8).toInt64 := bl_ext fun X hX => by
    rw [bl_nb h]
    by_cases g : X < 4
    · rw [bl_sW h (by omega), decide_eq_true (show 4 * i ≤ 4 * i + X by omega), show 4 * i + X - 4 * i = X by omega, decide_eq_true g]; simp
    · rw [decide_eq_false g, w8 hw (by omega)]; rfl
  unfold gW; rw [this, Int32.toInt32_toInt64, Int32.add_sub_cancel]
theorem m4 : 4 * Int32.ofNat u + Int32.ofNat v = Int32.ofNat (4 * u + v) := by rw [Int32.ofNat_add, Int32.ofNat_mul]; rfl
theorem m5 : 5 * Int32.ofNat u = Int32.ofNat (4 * u + u) := by rw [show 4 * u + u = 5 * u by omega, Int32.ofNat_mul]; rfl
theorem s105 : Cl (pj lw) 105 [.long z, .int (Int32.ofNat i)] G Q ↔ Q (some (.int (gW z i))) G := by
  rw [c105]; simp +decide only [w105_0, w105_1, w105_2, w105_3, w105_4, w105_5, w105_8, w105_9, w105_10, w105_12, w105_13]; unfold gW nb; rfl
theorem s106 : Cl (pj lw) 106 [.long z, .int (Int32.ofNat i), .int w] G Q ↔ Q (some (.long (sW z i w))) G := by
  rw [c106]; simp +decide only [w106_0, w106_3, w106_4, w106_5, w106_6, w106_7uu, w106_9, w106_10, w106_12, w106_15, w106_16, w106_17, w106_18, w106_20, w106_21, w106_22, w106_23, w106_24, w106_25, w106_26, w106_27]; unfold sW; rfl
theorem nib (hi : i < 4) (hk : k < 4) (hX : X < 32) : bt (((R >>> ((4 * Int32.ofNat k) &&& 31)) &&& 15) <<< ((4 * Int32.ofNat i) &&& 31)) X = (decide (4 * i ≤ X) && (decide (X - 4 * i < 4) && bt R (4 * k + (X - 4 * i)))) := by
  have key : ∀ j : Fin 4, (4 * Int32.ofNat j.val &&& 31).toBitVec.smod 32 = BitVec.ofNat 32 (4 * j.val) := by decide +kernel
  have c15 : ∀ X, (15 : Int32).toBitVec.getLsbD X = decide (X < 4) := fun X => by
    by_cases e : X < 32
    · have key : ∀ j : Fin 32, (15 : Int32).toBitVec.getLsbD j.val = decide (j.val < 4) := by decide +kernel
      exact key ⟨X, e⟩
    · rw [BitVec.getLsbD_of_ge _ _ (by omega), decide_eq_false (by omega)]
  have ki := key ⟨i, hi⟩
  have kk := key ⟨k, hk⟩
  simp only at ki kk
  have e1 : ∀ Y : Int32, (Y <<< ((4 * Int32.ofNat i) &&& 31)).toBitVec = Y.toBitVec <<< (4 * i) := fun Y => by
    show Y.toBitVec <<< ((4 * Int32.ofNat i &&& 31).toBitVec.smod 32) = _
    rw [ki, BitVec.shiftLeft_eq', BitVec.toNat_ofNat, Nat.mod_eq_of_lt (by omega)]
  have e2 : (R >>> ((4 * Int32.ofNat k) &&& 31)).toBitVec = R.toBitVec.sshiftRight (4 * k) := by
    show R.toBitVec.sshiftRight' ((4 * Int32.ofNat k &&& 31).toBitVec.smod 32) = _
    rw [kk, BitVec.sshiftRight_eq', BitVec.toNat_ofNat, Nat.mod_eq_of_lt (by omega)]
  unfold bt
  rw [e1, BitVec.getLsbD_shiftLeft, decide_eq_true hX, Int32.toBitVec_and, BitVec.getLsbD_and, e2, c15, BitVec.getLsbD_sshiftRight]
  by_cases g : 4 * i ≤ X
  · rw [decide_eq_true g, decide_eq_false (show ¬ X < 4 * i by omega)]
    by_cases l : X - 4 * i < 4
    · rw [decide_eq_true l, if_pos (by omega), decide_eq_false (show ¬ 32 ≤ X - 4 * i by omega)]; simp
    · rw [decide_eq_false l]; simp
  · rw [decide_eq_false g, decide_eq_true (show X < 4 * i by omega)]; simp
def CO (r a : Int32) (i k : Nat) (o : Int32) : Prop := ∀ x y, x < 4 → y < 4 → (bt o (4 * x + y) = true ↔ ∃ k', k' < 4 ∧ (x < i ∨ (x = i ∧ k' < k)) ∧ bt r (4 * x + k') = true ∧ bt a (4 * k' + y) = true)
theorem CO.skip {r a o : Int32} (h : CO r a i k o) (hb : bt r (4 * i + k) = false) : CO r a i (k + 1) o := fun x y hx hy => by
  rw [h x y hx hy]
  constructor
  · rintro ⟨k', a1, a2, a3, a4⟩; exact ⟨k', a1, by omega, a3, a4⟩
  · rintro ⟨k', a1, a2, a3, a4⟩
    refine ⟨k', a1, ?_, a3, a4⟩
    by_cases e : x = i ∧ k' = k
    · rw [e.1, e.2, hb] at a3; exact absurd a3 (by decide)
    · omega
theorem CO.add {r a o : Int32} (h : CO r a i k o) (hi : i < 4) (hk : k < 4) (hb : bt r (4 * i + k) = true) : CO r a i (k + 1) (o ||| (((a >>> ((4 * Int32.ofNat k) &&& 31)) &&& 15) <<< ((4 * Int32.ofNat i) &&& 31))) := fun x y hx hy => by
  rw [bt_or, nib hi hk (by omega), Bool.or_eq_true, h x y hx hy]
  constructor
  · rintro (⟨k', a1, a2, a3, a4⟩ | g)
    · exact ⟨k', a1, by omega, a3, a4⟩
    · simp only [Bool.and_eq_true, decide_eq_true_eq] at g
      have e : x = i := by omega
      subst e
      rw [show 4 * x + y - 4 * x = y by omega] at g
      exact ⟨k, hk, Or.inr ⟨rfl, by omega⟩, hb, g.2.2⟩
  · rintro ⟨k', a1, a2, a3, a4⟩
    by_cases e : x = i ∧ k' = k
    · right
      obtain ⟨e1, e2⟩ := e
      subst e1; subst e2
      simp only [Bool.and_eq_true, decide_eq_true_eq]
      rw [show 4 * x + y - 4 * x = y by omega]
      exact ⟨by omega, by omega, a4⟩
    · left; exact ⟨k', a1, by omega, a3, a4⟩
set_option maxRecDepth 100000 in
theorem o12 {r a : Int32} {a1 a2 : Nat} (hi : i < 4) (K : ∀ o, CO r a i 4 o → W (pj lw) 107 53 [.val (.int r), .val (.int a), .val (.int o), .val (.int (Int32.ofNat i)), .unset] [] a1 a2 G Q) (m : Nat) :
    ∀ (k : Nat) (o : Int32), k + m = 4 → CO r a i k o → W (pj lw) 107 12 [.val (.int r), .val (.int a), .val (.int o), .val (.int (Int32.ofNat i)), .val (.int (Int32.ofNat k))] [] a1 a2 G Q := by
  induction m with
  | zero =>
    intro k o hk h
    obtain rfl : k = 4 := by omega
    have h1 : ¬ Int32.ofNat 4 < 4 := by decide
    rw [w107_12]; simp +decide only [w107_14, w107_15, ↓reduceIte]
    refine W_fa 4 rfl ?_
    exact K o h
  | succ m ih =>
    intro k o hk h
    have h1 : Int32.ofNat k < 4 := by rw [lt32, (ofi (i := k) (by omega)).1]; simp only [Int32.reduceToInt]; omega
    have ts := shr_bt (R := r) (k := 4 * i + k) (by omega)
    rw [w107_12]
    by_cases e : bt r (4 * i + k) = true
    · have c : ¬ (r >>> (Int32.ofNat (4 * i + k) &&& 31)) &&& 1 = 0 := fun z => by rw [ts.1 z] at e; exact absurd e (by decide)
      simp +decide only [w107_14, w107_15, w107_18, w107_19, w107_20, w107_21, w107_22, w107_24, w107_25, w107_26, w107_27, w107_28, w107_31, w107_32, w107_33, w107_34, w107_36, w107_37, w107_38, w107_40, w107_41, w107_42, w107_43, w107_44, w107_45, w107_46i, w107_47, w107_50, ↓reduceIte, h1, m4, c, ofs]
      exact ih (k + 1) _ (by omega) (h.add hi (by omega) e)
    · have e' : bt r (4 * i + k) = false := by simpa using e
      have c := eq_true (ts.2 e')
      simp +decide only [w107_14, w107_15, w107_18, w107_19, w107_20, w107_21, w107_22, w107_24, w107_25, w107_26, w107_27, w107_28, w107_47, w107_50, ↓reduceIte, h1, m4, c, ofs]
      exact ih (k + 1) o (by omega) (h.skip e')
set_option maxRecDepth 100000 in
theorem o4 {r a : Int32} {a1 a2 : Nat} (K : ∀ o, CO r a 4 0 o → Q (some (.int o)) G) (m : Nat) :
    ∀ (i : Nat) (o : Int32), i + m = 4 → CO r a i 0 o → W (pj lw) 107 4 [.val (.int r), .val (.int a), .val (.int o), .val (.int (Int32.ofNat i)), .unset] [] a1 a2 G Q := by
  induction m with
  | zero =>
    intro i o hi h
    obtain rfl : i = 4 := by omega
    have h1 : ¬ Int32.ofNat 4 < 4 := by decide
    rw [w107_4]; simp +decide only [w107_5, w107_6, w107_59, w107_60, ↓reduceIte]
    exact K o h
  | succ m ih =>
    intro i o hi h
    have h1 : Int32.ofNat i < 4 := by rw [lt32, (ofi (i := i) (by omega)).1]; simp only [Int32.reduceToInt]; omega
    rw [w107_4]; simp +decide only [w107_5, w107_6, w107_9, w107_10, ↓reduceIte, h1]
    have st := o12 (G := G) (Q := Q) (r := r) (a := a) (a1 := a1) (a2 := a2) (show i < 4 by omega) (fun o ho => by
      simp +decide only [w107_53, w107_56, ofs]
      refine ih (i + 1) o (by omega) fun x y hx hy => (ho x y hx hy).trans ?_
      constructor
      · rintro ⟨k', z1, z2, z3⟩; exact ⟨k', z1, by omega, z3⟩
      · rintro ⟨k', z1, z2, z3⟩; exact ⟨k', z1, by omega, z3⟩) 4 0 o (by omega) h
    exact st
theorem s107 {r a : Int32} (K : ∀ o, (∀ x y, x < 4 → y < 4 → (bt o (4 * x + y) = true ↔ ∃ k', k' < 4 ∧ bt r (4 * x + k') = true ∧ bt a (4 * k' + y) = true)) → Q (some (.int o)) G) : Cl (pj lw) 107 [.int r, .int a] G Q := by
  rw [c107]; simp +decide only [w107_0, w107_1, w107_2, w107_3]
  have st := o4 (G := G) (Q := Q) (r := r) (a := a) (a1 := 0) (a2 := 0) (fun o ho => K o fun x y hx hy => (ho x y hx hy).trans ⟨fun ⟨k', z1, _, z3⟩ => ⟨k', z1, z3⟩, fun ⟨k', z1, z3⟩ => ⟨k', z1, Or.inl hx, z3⟩⟩) 4 0 0 (by omega) (fun x y _ _ => by
    rw [bt_0]; exact ⟨fun z => absurd z (by decide), fun ⟨k', _, z, _⟩ => by omega⟩)
  exact st
def bE (b : Int32) (x y : Nat) : Prop := bt b (4 * x + y) = true
def WR (b : Int32) (k : Nat) (r : Int32) : Prop := ∀ x y, x < 4 → y < 4 → (bt r (4 * x + y) = true ↔ ∃ f l, 1 ≤ l ∧ l ≤ k + 1 ∧ Wf 4 (bE b) f l ∧ f 0 = x ∧ f l = y)
theorem WR0 : WR b 0 b := fun x y hx hy => by
  constructor
  · intro h
    obtain ⟨f, l, a1, a2, a3, a4⟩ := TR.arc (T := bE b) hx hy h
    refine ⟨fun t => if t = 0 then x else y, 1, by omega, by omega, ⟨fun t _ => ?_, fun t ht => ?_⟩, rfl, rfl⟩
    · show (if t = 0 then x else y) < 4
      split <;> assumption
    · obtain rfl : t = 0 := by omega
      exact h
  · rintro ⟨f, l, a1, a2, a3, a4, a5⟩
    obtain rfl : l = 1 := by omega
    have := a3.2 0 (by omega)
    rw [a4, a5] at this; exact this
theorem WR.step {o : Int32} (h : WR b k r) (ho : ∀ x y, x < 4 → y < 4 → (bt o (4 * x + y) = true ↔ ∃ k', k' < 4 ∧ bt r (4 * x + k') = true ∧ bt b (4 * k' + y) = true)) : WR b (k + 1) (r ||| o) := fun x y hx hy => by
  rw [bt_or, Bool.or_eq_true, h x y hx hy, ho x y hx hy]
  constructor
  · rintro (⟨f, l, a1, a2, a3⟩ | ⟨z, z1, z2, z3⟩)
    · exact ⟨f, l, a1, by omega, a3⟩
    · obtain ⟨f, l, a1, a2, a3, a4, a5⟩ := (h x z hx z1).1 z2
      have g := a3.ext (c := fun _ _ => 0) (v := y) hy (by rw [a5]; exact z3)
      refine ⟨_, l + 1, by omega, by omega, g.1, ?_, g.2.1⟩
      show ext f l y 0 = x
      unfold ext; rw [if_pos (Nat.zero_le _)]; exact a4
  · rintro ⟨f, l, a1, a2, a3, a4, a5⟩
    by_cases e : l = 1
    · left; exact ⟨f, l, a1, by omega, a3, a4, a5⟩
    · right
      have lt := a3.1 (l - 1) (by omega)
      refine ⟨f (l - 1), lt, (h x _ hx lt).2 ⟨f, l - 1, by omega, by omega, a3.le (by omega), a4, rfl⟩, ?_⟩
      have := a3.2 (l - 1) (by omega)
      rw [show l - 1 + 1 = l by omega, a5] at this; exact this
theorem short {E : Nat → Nat → Prop} {f : Nat → Nat} (h1 : 1 ≤ k) (hw : Wf n E f k) (he : f 0 = f k) : ∃ f k, 1 ≤ k ∧ k ≤ n ∧ Wf n E f k ∧ f 0 = f k := by
  by_cases g : k ≤ n
  · exact ⟨f, k, h1, g, hw, he⟩
  · obtain ⟨i, j, a1, a2, a3⟩ := hw.php (by omega)
    refine ⟨fun t => f (i + t), j - i, by omega, by omega, hw.shift (by omega), ?_⟩
    show f (i + 0) = f (i + (j - i))
    rw [Nat.add_zero, show i + (j - i) = j by omega, a3]
def Cy (b : Int32) : Prop := ∃ f k, 1 ≤ k ∧ Wf 4 (bE b) f k ∧ f 0 = f k
set_option maxRecDepth 100000 in
theorem o25 {a1 a2 : Nat} (h : WR b 3 r) (K : ∀ c : Int32, (c = 0 ∧ ¬ Cy b) ∨ (c = 1 ∧ Cy b) → Q (some (.int c)) G) (m : Nat) :
    ∀ (i : Nat), i + m = 4 → (∀ j, j < i → bt r (4 * j + j) = false) → W (pj lw) 108 25 [.val (.int b), .val (.int r), .val (.int (Int32.ofNat i))] [] a1 a2 G Q := by
  induction m with
  | zero =>
    intro i hi h0
    obtain rfl : i = 4 := by omega
    have h1 : ¬ Int32.ofNat 4 < 4 := by decide
    rw [w108_25]; simp +decide only [w108_26, w108_27, w108_48, w108_49, true_and, ↓reduceIte]
    refine K 0 (Or.inl ⟨rfl, fun ⟨f, k, c1, c2, c3⟩ => ?_⟩)
    obtain ⟨f, k, b1, b2, b3, b4⟩ := short c1 c2 c3
    have lt := b3.1 0 (by omega)
    have := (h (f 0) (f 0) lt lt).2 ⟨f, k, b1, by omega, b3, rfl, b4.symm⟩
    rw [h0 _ lt] at this; exact absurd this (by decide)
  | succ m ih =>
    intro i hi h0
    have h1 : Int32.ofNat i < 4 := by rw [lt32, (ofi (i := i) (by omega)).1]; simp only [Int32.reduceToInt]; omega
    have ts := shr_bt (R := r) (k := 4 * i + i) (by omega)
    rw [w108_25]
    by_cases e : bt r (4 * i + i) = true
    · have c : ¬ (r >>> (Int32.ofNat (4 * i + i) &&& 31)) &&& 1 = 0 := fun z => by rw [ts.1 z] at e; exact absurd e (by decide)
      simp +decide only [w108_26, w108_27, w108_30, w108_31, w108_32, w108_33, w108_34, w108_35, w108_36, w108_37, w108_40, w108_41, true_and, ↓reduceIte, h1, m5, c]
      obtain ⟨f, l, b1, b2, b3, b4, b5⟩ := (h i i (by omega) (by omega)).1 e
      exact K 1 (Or.inr ⟨rfl, f, l, b1, b3, by rw [b4, b5]⟩)
    · have e' : bt r (4 * i + i) = false := by simpa using e
      have c := eq_true (ts.2 e')
      simp +decide only [w108_26, w108_27, w108_30, w108_31, w108_32, w108_33, w108_34, w108_35, w108_36, w108_37, w108_42, w108_45, ↓reduceIte, h1, m5, c, ofs]
      refine ih (i + 1) (by omega) fun j hj => ?_
      by_cases g : j = i
      · rw [g]; exact e'
      · exact h0 j (by omega)
set_option maxRecDepth 100000 in
theorem s108 (K : ∀ c : Int32, (c = 0 ∧ ¬ Cy b) ∨ (c = 1 ∧ Cy b) → Q (some (.int c)) G) : Cl (pj lw) 108 [.int b] G Q := by
  rw [c108]; simp +decide only [w108_0, w108_1, w108_2, w108_3]
  rw [w108_4]; simp +decide only [w108_5, w108_6, w108_9, w108_10, w108_11, w108_12, cs_nil, cs_int, true_and, ↓reduceIte, Nat.reduceAdd, Int32.reduceAdd, Int64.reduceAdd, Nat.add_zero, Nat.le_refl]
  refine s107 fun o1 h1 => ?_
  have g1 := WR0.step h1
  simp +decide only [w108_15, w108_16i, w108_17, w108_20, Option.toList_some, List.cons_append, List.nil_append, Nat.reduceAdd, Int32.reduceAdd, Int64.reduceAdd, Int32.reduceAdd]
  rw [w108_4]; simp +decide only [w108_5, w108_6, w108_9, w108_10, w108_11, w108_12, cs_nil, cs_int, true_and, ↓reduceIte, Nat.reduceAdd, Int32.reduceAdd, Int64.reduceAdd, Nat.add_zero, Nat.le_refl]
  refine s107 fun o2 h2 => ?_
  have g2 := g1.step h2
  simp +decide only [w108_15, w108_16i, w108_17, w108_20, Option.toList_some, List.cons_append, List.nil_append, Nat.reduceAdd, Int32.reduceAdd, Int64.reduceAdd, Int32.reduceAdd]
  rw [w108_4]; simp +decide only [w108_5, w108_6, w108_9, w108_10, w108_11, w108_12, cs_nil, cs_int, true_and, ↓reduceIte, Nat.reduceAdd, Int32.reduceAdd, Int64.reduceAdd, Nat.add_zero, Nat.le_refl]
  refine s107 fun o3 h3 => ?_
  have g3 := g2.step h3
  simp +decide only [w108_15, w108_16i, w108_17, w108_20, Option.toList_some, List.cons_append, List.nil_append, Nat.reduceAdd, Int32.reduceAdd, Int64.reduceAdd, Int32.reduceAdd]
  rw [w108_4]; simp +decide only [w108_5, w108_6, w108_23, w108_24i, ↓reduceIte]
  exact o25 g3 K 4 0 (by omega) (fun j hj => absurd hj (by omega))
def RB (s : St) (b : Int32) (z : Int64) : Prop := ∀ u v, u < 4 → v < 4 → (bt b (4 * u + v) = true ↔ sA s 1 (u * 24 + v) ≠ 0) ∧ (sA s 1 (u * 24 + v) ≠ 0 → gW z (4 * u + v) = sA s 2 (u * 24 + v))
def PK (s : St) (cy Lv : Int32) (Wv : Int64) : Prop := (cy = 0 ∨ cy = 1) ∧ (∀ u, u < 5 → ¬ (0 : Int64) < pt s 4 u ∧ ((u = 4 ∨ cy = 0) → pt s 4 u = 0 ∧ iC s 4 u = 0)) ∧ ∀ u v, u < 5 → v < 5 → (¬ (cy = 1 ∧ hv s 4 u v = 1) → rC s 4 u v = -1) ∧ (cy = 1 → hv s 4 u v = 1 → ¬ rC s 4 u v < 0 ∧ rC s 4 u v = Lv.toInt64 * (gv s 4 u v).toInt64 - Wv + pt s 4 u - pt s 4 v ∧ (u = v → ¬ Lv.toInt64 * (gv s 4 u v).toInt64 < Wv))
theorem PK0 (h : ¬ cS s) : PK s 0 0 0 := by
  have hp : ∀ u, pt s 4 u = 0 := fun u => by unfold pt; rw [if_neg (fun z => h z.1)]
  refine ⟨Or.inl rfl, fun u _ => ⟨by rw [hp]; decide, fun _ => ⟨hp u, by unfold iC; rw [if_neg (fun z => h z.1)]⟩⟩, fun u v _ _ => ⟨fun _ => by unfold rC; rw [if_neg (fun z => h z.1)], fun z => absurd z (by decide)⟩⟩
theorem PK1 (h : RS s s 4 L q C φ) (hb : ∀ u v, -10000 ≤ gw s u v ∧ gw s u v ≤ 10000) : PK s 1 (Int32.ofNat L) (oi C) := by
  have y := h.2.2.2.2.2.2.2.2.2.2
  have hL := h.1.1
  have p4 : pt s 4 4 = 0 := by unfold pt; rw [if_neg (fun z => absurd z.2 (by omega))]
  refine ⟨Or.inr rfl, fun u hu => ⟨?_, fun g => ?_⟩, fun u v hu hv => ⟨fun g => ?_, fun _ g => ?_⟩⟩
  · by_cases e : u = 4
    · rw [e, p4]; decide
    · rw [h.pt (v := u) (by omega) (by omega)]
      have fb := h.2.2.2.2.2.2.2.2.1 u
      rw [oi0, oi_lt (by omega) (by omega)]; omega
  · obtain rfl : u = 4 := g.elim id fun w => absurd w (by decide)
    exact ⟨p4, by unfold iC; rw [if_neg (fun z => absurd z.2.1 (by omega))]⟩
  · unfold rC; rw [if_neg (fun z => g ⟨rfl, by unfold Pj.hv; rw [if_pos z.2]⟩)]
  · have ga : u < 4 ∧ v < 4 ∧ sA s 1 (u * 24 + v) ≠ 0 := by
      by_cases c : u < 4 ∧ v < 4 ∧ sA s 1 (u * 24 + v) ≠ 0
      · exact c
      · unfold Pj.hv at g; rw [if_neg c] at g; exact absurd g (by decide)
    have he : gE s u v := ga.2.2
    have e29 := h.rc ga.1 ga.2.1 (by omega) he
    have e9 := (hg1 (t := s) (n := 4) ga.1 ga.2.1 (by omega) he).2
    have eL : (Int32.ofNat L).toInt64 = oi (L : Int) := by rw [oi_32, (ofi (i := L) (by omega)).1]
    have nn := h.2.2.2.2.2.2.2.2.2.1 u v ga.1 ga.2.1 he
    have fu := h.2.2.2.2.2.2.2.2.1 u
    have fv := h.2.2.2.2.2.2.2.2.1 v
    have cb := h.1.2.2.1
    have gb := hb u v
    have g2 : (L : Int) * gw s u v ≤ (L : Int) * 10000 := Int.mul_le_mul_of_nonneg_left gb.2 (by omega)
    have g3 : (L : Int) * (-10000) ≤ (L : Int) * gw s u v := Int.mul_le_mul_of_nonneg_left gb.1 (by omega)
    refine ⟨?_, ?_, fun e => ?_⟩
    · rw [e29, oi0, oi_lt (by omega) (by omega)]; omega
    · rw [e29, e9, eL, h.pt (v := u) ga.1 (by omega), h.pt (v := v) ga.2.1 (by omega), oi_mul, oi_sub, oi_add, oi_sub]
    · rw [e9, eL, oi_mul, oi_lt (by omega) (by omega)]
      rw [e] at nn; rw [e]; omega
theorem hv01 : hv s n u v = 0 ∨ hv s n u v = 1 := by unfold hv; split; exact Or.inr rfl; exact Or.inl rfl
set_option maxRecDepth 100000 in
set_option maxHeartbeats 1000000 in
theorem f192 {ct cy rs Lv : Int32} {Wv : Int64} {a1 a2 : Nat} (n0 : sI s 0 = Int32.ofNat 4) (hP : PK s cy Lv Wv) (hu : u < 5) (hw : v < 5)
    (K : W (pj lw) 103 323 [.val (.ref p), .val (.int b), .val (.long z), .second, .val (.int ct), .val (.int cy), .val (.int rs), .val (.int Lv), .val (.long Wv), .second, .val (.int (Int32.ofNat u)), .val (.long (pt s 4 u)), .second, .val (.int (Int32.ofNat v)), .unset, .unset, .unset, .unset, .unset, .unset] [] a1 a2 (ob H p s) Q) :
    W (pj lw) 103 192 [.val (.ref p), .val (.int b), .val (.long z), .second, .val (.int ct), .val (.int cy), .val (.int rs), .val (.int Lv), .val (.long Wv), .second, .val (.int (Int32.ofNat u)), .val (.long (pt s 4 u)), .second, .val (.int (Int32.ofNat v)), .val (.int (hv s 4 u v)), .val (.int (gv s 4 u v)), .unset, .unset, .unset, .unset] [] a1 a2 (ob H p s) Q := by
  have A8 := fun (Q : Option Value → AH → Prop) => k8 (lw := lw) (H := H) (p := p) (s := s) (Q := Q) (n := 4) (u := u) (v := v) n0 (by omega) (by omega) (by omega)
  have A9 := fun (Q : Option Value → AH → Prop) => k9 (lw := lw) (H := H) (p := p) (s := s) (Q := Q) (n := 4) (u := u) (v := v) n0 (by omega) (by omega) (by omega)
  have A28 := fun (Q : Option Value → AH → Prop) => k28 (lw := lw) (H := H) (p := p) (s := s) (Q := Q) (n := 4) (v := v) n0 (by omega) (by omega)
  have A29 := fun (Q : Option Value → AH → Prop) => k29 (lw := lw) (H := H) (p := p) (s := s) (Q := Q) (n := 4) (u := u) (v := v) n0 (by omega) (by omega) (by omega)
  obtain ⟨r0, r1⟩ := hP.2.2 u v hu hw
  have fin : ∀ (l14 l15 : Int32) (l16 l18 : Int64), W (pj lw) 103 323 [.val (.ref p), .val (.int b), .val (.long z), .second, .val (.int ct), .val (.int cy), .val (.int rs), .val (.int Lv), .val (.long Wv), .second, .val (.int (Int32.ofNat u)), .val (.long (pt s 4 u)), .second, .val (.int (Int32.ofNat v)), .val (.int l14), .val (.int l15), .val (.long l16), .second, .val (.long l18), .second] [] a1 a2 (ob H p s) Q := fun l14 l15 l16 l18 => by
    refine W_fa 14 rfl ?_
    exact K
  rcases hP.1 with rfl | rfl
  · have e := r0 (fun z => absurd z.1 (by decide))
    simp +decide only [w103_192, w103_193, w103_195, w103_197, w103_200, w103_202, w103_205, w103_206, w103_208, w103_210, w103_213, w103_215, w103_220, w103_221, w103_223, w103_225, w103_228uu, w103_230, w103_231, w103_233, w103_236uu, w103_238, w103_240, w103_248, w103_250, w103_253, w103_254, w103_291, w103_293, isO_put, Option.toList_some, List.cons_append, List.nil_append, true_and, and_true, ↓reduceIte, A8, A9, A28, A29, e]
    exact fin _ _ _ _
  · rcases hv01 (s := s) (n := 4) (u := u) (v := v) with e8 | e8
    · have e := r0 (fun z => by rw [e8] at z; exact absurd z.2 (by decide))
      simp +decide only [w103_192, w103_193, w103_195, w103_197, w103_200, w103_202, w103_205, w103_206, w103_208, w103_210, w103_213, w103_215, w103_220, w103_221, w103_223, w103_225, w103_228uu, w103_230, w103_231, w103_233, w103_236uu, w103_238, w103_240, w103_243, w103_245, w103_248, w103_250, w103_253, w103_254, w103_291, w103_293, w103_296, w103_298, isO_put, Option.toList_some, List.cons_append, List.nil_append, true_and, and_true, ↓reduceIte, A8, A9, A28, A29, e, e8]
      exact fin _ _ _ _
    · obtain ⟨t1, t2, t3⟩ := r1 rfl e8
      by_cases euv : u = v
      · subst euv
        have t3 := t3 rfl
        rw [t2] at t1
        simp +decide only [w103_192, w103_193, w103_195, w103_197, w103_200, w103_202, w103_205, w103_206, w103_208, w103_210, w103_213, w103_215, w103_220, w103_221, w103_223, w103_225, w103_228uu, w103_230, w103_231, w103_233, w103_236uu, w103_238, w103_240, w103_243, w103_245, w103_260, w103_262, w103_263, w103_264, w103_267, w103_269, w103_271, w103_272, w103_274, w103_275, w103_276, w103_278, w103_279, w103_281, w103_282, w103_284, w103_285, w103_286, w103_291, w103_293, w103_296, w103_298, w103_301, w103_303, w103_305, w103_308, w103_310, w103_311, w103_313, w103_314, w103_315, w103_317, w103_318, isO_put, cmpL_lt, cmpL_eq, Option.toList_some, List.cons_append, List.nil_append, true_and, and_true, ↓reduceIte, A8, A9, A28, A29, t1, t2, t3, e8]
        exact fin _ _ _ _
      · have ne : ¬ Int32.ofNat u = Int32.ofNat v := by rw [eq32, (ofi (i := u) (by omega)).1, (ofi (i := v) (by omega)).1]; omega
        rw [t2] at t1
        simp +decide only [w103_192, w103_193, w103_195, w103_197, w103_200, w103_202, w103_205, w103_206, w103_208, w103_210, w103_213, w103_215, w103_220, w103_221, w103_223, w103_225, w103_228uu, w103_230, w103_231, w103_233, w103_236uu, w103_238, w103_240, w103_243, w103_245, w103_260, w103_262, w103_263, w103_264, w103_267, w103_269, w103_271, w103_272, w103_274, w103_275, w103_276, w103_278, w103_279, w103_281, w103_282, w103_284, w103_285, w103_286, w103_291, w103_293, w103_296, w103_298, w103_301, w103_303, w103_305, isO_put, cmpL_lt, cmpL_eq, Option.toList_some, List.cons_append, List.nil_append, true_and, and_true, ↓reduceIte, A8, A9, A28, A29, t1, t2, e8, ne]
        exact fin _ _ _ _
set_option maxRecDepth 100000 in
set_option maxHeartbeats 1000000 in
theorem f131 {ct cy rs Lv : Int32} {Wv : Int64} {a1 a2 : Nat} (n0 : sI s 0 = Int32.ofNat 4) (hR : RB s b z) (hP : PK s cy Lv Wv) (hu : u < 5)
    (K : W (pj lw) 103 329 [.val (.ref p), .val (.int b), .val (.long z), .second, .val (.int ct), .val (.int cy), .val (.int rs), .val (.int Lv), .val (.long Wv), .second, .val (.int (Int32.ofNat u)), .unset, .unset, .unset, .unset, .unset, .unset, .unset, .unset, .unset] [] a1 a2 (ob H p s) Q) (m : Nat) :
    ∀ v : Nat, v + m = 5 → W (pj lw) 103 131 [.val (.ref p), .val (.int b), .val (.long z), .second, .val (.int ct), .val (.int cy), .val (.int rs), .val (.int Lv), .val (.long Wv), .second, .val (.int (Int32.ofNat u)), .val (.long (pt s 4 u)), .second, .val (.int (Int32.ofNat v)), .unset, .unset, .unset, .unset, .unset, .unset] [] a1 a2 (ob H p s) Q := by
  induction m with
  | zero =>
    intro v hV
    obtain rfl : v = 5 := by omega
    have h1 : ¬ Int32.ofNat 5 < 5 := by decide
    rw [w103_131]; simp +decide only [w103_133, w103_134, ↓reduceIte]
    refine W_fa 11 rfl ?_
    exact K
  | succ m ih =>
    intro v hV
    have h1 : Int32.ofNat v < 5 := by rw [lt32, (ofi (i := v) (by omega)).1]; simp only [Int32.reduceToInt]; omega
    have nx := f192 (H := H) (p := p) (Q := Q) (b := b) (z := z) (ct := ct) (rs := rs) (a1 := a1) (a2 := a2) n0 hP hu (show v < 5 by omega) (by
      simp +decide only [w103_323, w103_326, ofs]
      exact ih (v + 1) (by omega))
    rw [w103_131]
    by_cases q1 : u < 4
    rotate_left
    · have c1 : ¬ Int32.ofNat u < 4 := by rw [lt32, (ofi (i := u) (by omega)).1]; simp only [Int32.reduceToInt]; omega
      have e8 : hv s 4 u v = 0 := by unfold hv; rw [if_neg (fun z => q1 z.1)]
      have e9 : gv s 4 u v = 0 := by unfold gv; rw [if_neg (fun z => q1 z.1)]
      rw [e8, e9] at nx
      simp +decide only [w103_133, w103_134, w103_137, w103_139, w103_140, w103_167, w103_168, w103_170, w103_172, w103_189, w103_190, ↓reduceIte, h1, c1]
      exact nx
    have c1 : Int32.ofNat u < 4 := by rw [lt32, (ofi (i := u) (by omega)).1]; simp only [Int32.reduceToInt]; omega
    by_cases q2 : v < 4
    rotate_left
    · have c2 : ¬ Int32.ofNat v < 4 := by rw [lt32, (ofi (i := v) (by omega)).1]; simp only [Int32.reduceToInt]; omega
      have e8 : hv s 4 u v = 0 := by unfold hv; rw [if_neg (fun z => q2 z.2.1)]
      have e9 : gv s 4 u v = 0 := by unfold gv; rw [if_neg (fun z => q2 z.2.1)]
      rw [e8, e9] at nx
      simp +decide only [w103_133, w103_134, w103_137, w103_139, w103_140, w103_143, w103_145, w103_146, w103_167, w103_168, w103_170, w103_172, w103_189, w103_190, ↓reduceIte, h1, c1, c2]
      exact nx
    have c2 : Int32.ofNat v < 4 := by rw [lt32, (ofi (i := v) (by omega)).1]; simp only [Int32.reduceToInt]; omega
    obtain ⟨g1, g2⟩ := hR u v q1 q2
    have ts := shr_bt (R := b) (k := 4 * u + v) (by omega)
    by_cases q3 : sA s 1 (u * 24 + v) = 0
    · have c3 := eq_true (ts.2 (by cases y : bt b (4 * u + v); rfl; exact absurd q3 (g1.1 y)))
      have e8 : hv s 4 u v = 0 := by unfold hv; rw [if_neg (fun z => z.2.2 q3)]
      have e9 : gv s 4 u v = 0 := by unfold gv; rw [if_neg (fun z => z.2.2 q3)]
      rw [e8, e9] at nx
      simp +decide only [w103_133, w103_134, w103_137, w103_139, w103_140, w103_143, w103_145, w103_146, w103_149, w103_150, w103_151, w103_153, w103_154, w103_156, w103_157, w103_158, w103_159, w103_160, w103_167, w103_168, w103_170, w103_172, w103_189, w103_190, ↓reduceIte, h1, c1, c2, m4, c3]
      exact nx
    · have c3 : ¬ (b >>> (Int32.ofNat (4 * u + v) &&& 31)) &&& 1 = 0 := fun y => by have := g1.2 q3; rw [ts.1 y] at this; exact absurd this (by decide)
      have e8 : hv s 4 u v = 1 := by unfold hv; rw [if_pos ⟨q1, q2, q3⟩]
      have e9 : gv s 4 u v = gW z (4 * u + v) := by unfold gv; rw [if_pos ⟨q1, q2, q3⟩, g2 q3]
      rw [e8, e9] at nx
      simp +decide only [w103_133, w103_134, w103_137, w103_139, w103_140, w103_143, w103_145, w103_146, w103_149, w103_150, w103_151, w103_153, w103_154, w103_156, w103_157, w103_158, w103_159, w103_160, w103_163, w103_164, w103_168, w103_170, w103_172, w103_175, w103_176, w103_177, w103_179, w103_180, w103_182, w103_183, w103_186, w103_190, Option.toList_some, List.cons_append, List.nil_append, true_and, ↓reduceIte, h1, c1, c2, m4, c3, s105]
      exact nx
set_option maxRecDepth 100000 in
set_option maxHeartbeats 1000000 in
theorem f78 {ct cy rs Lv : Int32} {Wv : Int64} {a1 a2 : Nat} (n0 : sI s 0 = Int32.ofNat 4) (hR : RB s b z) (hP : PK s cy Lv Wv)
    (K : W (pj lw) 103 335 [.val (.ref p), .val (.int b), .val (.long z), .second, .val (.int ct), .val (.int cy), .val (.int rs), .val (.int Lv), .val (.long Wv), .second, .unset, .unset, .unset, .unset, .unset, .unset, .unset, .unset, .unset, .unset] [] a1 a2 (ob H p s) Q) (m : Nat) :
    ∀ u : Nat, u + m = 5 → W (pj lw) 103 78 [.val (.ref p), .val (.int b), .val (.long z), .second, .val (.int ct), .val (.int cy), .val (.int rs), .val (.int Lv), .val (.long Wv), .second, .val (.int (Int32.ofNat u)), .unset, .unset, .unset, .unset, .unset, .unset, .unset, .unset, .unset] [] a1 a2 (ob H p s) Q := by
  induction m with
  | zero =>
    intro u hu
    obtain rfl : u = 5 := by omega
    have h1 : ¬ Int32.ofNat 5 < 5 := by decide
    rw [w103_78]; simp +decide only [w103_80, w103_81, ↓reduceIte]
    refine W_fa 10 rfl ?_
    exact K
  | succ m ih =>
    intro u hu
    have h1 : Int32.ofNat u < 5 := by rw [lt32, (ofi (i := u) (by omega)).1]; simp only [Int32.reduceToInt]; omega
    have A28 := fun (Q : Option Value → AH → Prop) => k28 (lw := lw) (H := H) (p := p) (s := s) (Q := Q) (n := 4) (v := u) n0 (by omega) (by omega)
    have A27 := fun (Q : Option Value → AH → Prop) => k27 (lw := lw) (H := H) (p := p) (s := s) (Q := Q) (n := 4) (v := u) n0 (by omega) (by omega)
    obtain ⟨t1, t2⟩ := hP.2.1 u (by omega)
    have nx := f131 (H := H) (p := p) (Q := Q) (b := b) (z := z) (ct := ct) (rs := rs) (a1 := a1) (a2 := a2) n0 hR hP (show u < 5 by omega) (by
      simp +decide only [w103_329, w103_332, ofs]
      exact ih (u + 1) (by omega)) 5 0 (by omega)
    rw [w103_78]
    by_cases e : u = 4
    · have e' : Int32.ofNat u = 4 := by rw [e]; rfl
      obtain ⟨t3, t4⟩ := t2 (Or.inl e)
      have e'' := eq_true e'
      rw [t3] at nx
      simp +decide only [w103_80, w103_81, w103_84, w103_85, w103_87, w103_90uu, w103_92, w103_94, w103_95, w103_96, w103_99, w103_101, w103_102, w103_110, w103_112, w103_113, w103_114, w103_117, w103_118, w103_120, w103_123, w103_128, w103_129, isO_put, Option.toList_some, List.cons_append, List.nil_append, true_and, and_true, ↓reduceIte, h1, A28, A27, t3, t4, e'']
      exact nx
    · have e' : ¬ Int32.ofNat u = 4 := by rw [eq32, (ofi (i := u) (by omega)).1]; simp only [Int32.reduceToInt]; omega
      rcases id hP.1 with c | c
      · obtain ⟨t3, t4⟩ := t2 (Or.inr c)
        rw [t3] at nx
        have c' := eq_true c
        simp +decide only [w103_80, w103_81, w103_84, w103_85, w103_87, w103_90uu, w103_92, w103_94, w103_95, w103_96, w103_99, w103_101, w103_102, w103_105, w103_107, w103_110, w103_112, w103_113, w103_114, w103_117, w103_118, w103_120, w103_123, w103_128, w103_129, isO_put, Option.toList_some, List.cons_append, List.nil_append, true_and, and_true, ↓reduceIte, h1, A28, A27, t3, t4, e', c']
        exact nx
      · have c' : ¬ cy = 0 := by rw [c]; decide
        simp +decide only [w103_80, w103_81, w103_84, w103_85, w103_87, w103_90uu, w103_92, w103_94, w103_95, w103_96, w103_99, w103_101, w103_102, w103_105, w103_107, w103_128, w103_129, isO_put, cmpL_gt, Option.toList_some, List.cons_append, List.nil_append, true_and, and_true, ↓reduceIte, h1, A28, t1, e', c']
        exact nx
def IS (q : Nat → Nat) (i : Nat) (S : Int32) : Prop := ∀ X, bt S X = true ↔ ∃ j, j < i ∧ q j = X
set_option maxRecDepth 100000 in
set_option maxHeartbeats 1000000 in
theorem g43 {a1 a2 : Nat} (h : RS s s 4 L q C φ) (n0 : sI s 0 = Int32.ofNat 4) (hR : RB s b z)
    (K : Q (some (.int 1)) (ob H p s)) (m : Nat) :
    ∀ (i : Nat) (S : Int32), i + m = L → IS q i S → W (pj lw) 104 43 [.val (.ref p), .val (.int b), .val (.long z), .second, .val (.int (Int32.ofNat L)), .val (.long (oi C)), .second, .val (.int (Int32.ofNat (q 0))), .val (.int S), .val (.long (oi (cyw (gw s) q L i))), .second, .val (.int (Int32.ofNat i)), .unset, .unset] [] a1 a2 (ob H p s) Q := by
  have hL := h.1.1
  induction m with
  | zero =>
    intro i S hi hS
    obtain rfl : i = L := by omega
    have h1 : ¬ Int32.ofNat i < Int32.ofNat i := by rw [lt32]; omega
    have A26 := fun (Q : Option Value → AH → Prop) => k26 (lw := lw) (H := H) (p := p) (s := s) (Q := Q) (i := i) (by omega)
    have e26 := h.cvL
    have eC := h.2.2.2.2.1
    rw [w104_43, ← eC]; simp +decide only [w104_45, w104_47, w104_162, w104_164, w104_166, w104_167, w104_170, w104_171, w104_173, w104_176, w104_177, w104_180, w104_181, w104_182, w104_185, w104_186, w104_189, w104_190, w104_194, isO_put, cmpL_eq, Option.toList_some, List.cons_append, List.nil_append, true_and, and_true, ↓reduceIte, h1, A26, e26, k26m]
    exact K
  | succ m ih =>
    intro i S hi hS
    have h1 : Int32.ofNat i < Int32.ofNat L := by rw [lt32, (ofi (i := i) (by omega)).1, (ofi (i := L) (by omega)).1]; omega
    have ml := Nat.mod_lt (i + 1) (show L > 0 by omega)
    have nL : ¬ Int32.ofNat L = 0 := by rw [eq32, (ofi (by omega)).1]; simp only [Int32.reduceToInt]; omega
    have em : Int32.ofNat (i + 1) % Int32.ofNat L = Int32.ofNat ((i + 1) % L) := by
      rw [eq32, Int32.toInt_mod, (ofi (by omega)).1, (ofi (by omega)).1, (ofi (by omega)).1]
      exact (Int.tmod_eq_emod_of_nonneg (by omega)).trans rfl
    have o1 : Int32.ofNat i + 1 = Int32.ofNat (i + 1) := ofs
    obtain ⟨q1, -⟩ := h.2.1 i (by omega)
    obtain ⟨q2, -⟩ := h.2.1 _ ml
    have e26 := h.cv (i := i) (by omega) (by omega)
    have f26 := h.cv (i := (i + 1) % L) ml (by omega)
    have e27 := h.ic (i := i) (by omega)
    have A26 := fun (Q : Option Value → AH → Prop) => k26 (lw := lw) (H := H) (p := p) (s := s) (Q := Q) (i := i) (by omega)
    have B26 := fun (Q : Option Value → AH → Prop) => k26 (lw := lw) (H := H) (p := p) (s := s) (Q := Q) (i := (i + 1) % L) (by omega)
    have A27 := fun (Q : Option Value → AH → Prop) => k27 (lw := lw) (H := H) (p := p) (s := s) (Q := Q) (n := 4) (v := q i) n0 (by omega) (by omega)
    have he := h.2.2.2.1 i (by omega)
    obtain ⟨e8, e9⟩ := hg1 (t := s) (n := 4) q1 q2 (by omega) he
    obtain ⟨g1, g2⟩ := hR _ _ q1 q2
    have eg : (gW z (4 * q i + q ((i + 1) % L))).toInt64 = oi (gw s (q i) (q ((i + 1) % L))) := by
      rw [g2 he, ← e9]; unfold gv; rw [if_pos ⟨q1, q2, he⟩]
    have b1 : ¬ Int32.ofNat (q i) < 0 ∧ ¬ 3 < Int32.ofNat (q i) := by simp only [lt32, (ofi (i := q i) (by omega)).1, Int32.reduceToInt]; omega
    have b2 : ¬ Int32.ofNat (q ((i + 1) % L)) < 0 ∧ ¬ 3 < Int32.ofNat (q ((i + 1) % L)) := by simp only [lt32, (ofi (i := q ((i + 1) % L)) (by omega)).1, Int32.reduceToInt]; omega
    have ts := (shr_bt (R := S) (k := q i) (by omega)).2 (by
      cases y : bt S (q i)
      · rfl
      · obtain ⟨j, z1, z2⟩ := (hS _).1 y
        have := h.2.2.1 j i (by omega) (by omega) z2
        omega)
    have ts := eq_true ts
    have tb : ¬ (b >>> (Int32.ofNat (4 * q i + q ((i + 1) % L)) &&& 31)) &&& 1 = 0 := fun y => by
      have := g1.2 he
      rw [(shr_bt (R := b) (k := 4 * q i + q ((i + 1) % L)) (by omega)).1 y] at this; exact absurd this (by decide)
    rw [w104_43]; simp +decide only [w104_45, w104_47, w104_50, w104_51, w104_53, w104_56, w104_58, w104_59, w104_61, w104_62, w104_63, w104_65, w104_66, w104_69, w104_71, w104_73, w104_76, w104_78, w104_79, w104_82, w104_84, w104_87, w104_89, w104_90, w104_93, w104_95, w104_97, w104_98, w104_99, w104_100, w104_103, w104_104, w104_106, w104_109, w104_114, w104_115, w104_116, w104_118, w104_119, w104_121, w104_122, w104_123, w104_124, w104_125, w104_130, w104_132, w104_133, w104_135, w104_136, w104_137i, w104_139, w104_141, w104_142, w104_143, w104_145, w104_146, w104_148, w104_149, w104_152, w104_153, w104_154j, w104_156, w104_159, isO_put, cs_nil, cs_long, Option.toList_some, List.cons_append, List.nil_append, true_and, and_true, not_false_eq_true, ↓reduceIte, Nat.reduceAdd, Nat.reduceLeDiff, Int32.reduceAdd, Int64.reduceAdd, Nat.add_zero, h1, A26, e26, o1, nL, em, B26, f26, b1, b2, ts, A27, e27, m4, tb, s105, eg, oi_add]
    refine W_fa 12 rfl ?_
    refine ih (i + 1) _ (by omega) fun X => ?_
    rw [bt_or, bt_1 (by omega), Bool.or_eq_true, hS X, decide_eq_true_eq]
    constructor
    · rintro (⟨j, z1, z2⟩ | y)
      · exact ⟨j, by omega, z2⟩
      · exact ⟨i, by omega, y.symm⟩
    · rintro ⟨j, z1, z2⟩
      by_cases e : j = i
      · right; rw [← z2, e]
      · left; exact ⟨j, by omega, z2⟩
set_option maxRecDepth 100000 in
theorem g16 {a1 a2 : Nat} (h : RS s s 4 L q C φ) (n0 : sI s 0 = Int32.ofNat 4) (hR : RB s b z)
    (K : Q (some (.int 1)) (ob H p s)) (m : Nat) :
    ∀ (v : Nat), v + m = q 0 → W (pj lw) 104 16 [.val (.ref p), .val (.int b), .val (.long z), .second, .val (.int (Int32.ofNat L)), .val (.long (oi C)), .second, .val (.int (Int32.ofNat (q 0))), .val (.int 0), .val (.long 0), .second, .val (.int (Int32.ofNat v)), .unset, .unset] [] a1 a2 (ob H p s) Q := by
  have hL := h.1.1
  have q0 := (h.2.1 0 (by omega)).1
  induction m with
  | zero =>
    intro v hV
    obtain rfl : v = q 0 := by omega
    have h1 : ¬ Int32.ofNat (q 0) < Int32.ofNat (q 0) := by rw [lt32]; omega
    rw [w104_16]; simp +decide only [w104_18, w104_20, w104_40, w104_41i, ↓reduceIte, h1]
    exact g43 h n0 hR K L 0 0 (by omega) (fun X => ⟨fun y => by rw [bt_0] at y; exact absurd y (by decide), fun ⟨j, y, _⟩ => absurd y (by omega)⟩)
  | succ m ih =>
    intro v hV
    have h1 : Int32.ofNat v < Int32.ofNat (q 0) := by rw [lt32, (ofi (i := v) (by omega)).1, (ofi (i := q 0) (by omega)).1]; omega
    have A27 := fun (Q : Option Value → AH → Prop) => k27 (lw := lw) (H := H) (p := p) (s := s) (Q := Q) (n := 4) (v := v) n0 (by omega) (by omega)
    have e27 : iC s 4 v = 0 := by unfold iC; rw [if_neg (fun y => y.2.2 (h.2.2.2.2.2.2.1 v (by omega)))]
    rw [w104_16]; simp +decide only [w104_18, w104_20, w104_23, w104_24, w104_26, w104_29, w104_34, w104_37, isO_put, Option.toList_some, List.cons_append, List.nil_append, true_and, and_true, ↓reduceIte, h1, A27, e27, ofs]
    exact ih (v + 1) (by omega)
set_option maxRecDepth 100000 in
theorem s104 (h : RS s s 4 L q C φ) (n0 : sI s 0 = Int32.ofNat 4) (hR : RB s b z) (K : Q (some (.int 1)) (ob H p s)) : Cl (pj lw) 104 [.ref p, .int b, .long z, .int (Int32.ofNat L), .long (oi C)] (ob H p s) Q := by
  have hL := h.1.1
  have A26 := fun (Q : Option Value → AH → Prop) => k26 (lw := lw) (H := H) (p := p) (s := s) (Q := Q) (i := 0) (by omega)
  have o0 : (0 : Int32) = Int32.ofNat 0 := rfl
  rw [← o0] at A26
  have e26 := h.cv (i := 0) (by omega) (by omega)
  rw [c104]; simp +decide only [w104_0, w104_1, w104_2, w104_5, w104_7, w104_8, w104_10, w104_11uu, w104_13, w104_14, isO_put, Option.toList_some, List.cons_append, List.nil_append, true_and, and_true, A26, e26]
  exact g16 h n0 hR K (q 0) 0 (by omega)
def KI (s : St) (b : Int32) (z : Int64) (ct cy rs : Int32) : Prop := (Iw s 4 (-8) 7 ∧ Ct s) ∧ RB s b z ∧ sI s 1 = ct ∧ sI s 4 = rs ∧ (rs = 0 ∨ rs = 1) ∧ ((cy = 0 ∧ ¬ cS s) ∨ (cy = 1 ∧ ∃ L q C φ, RS s s 4 L q C φ))
set_option maxRecDepth 100000 in
set_option maxHeartbeats 1000000 in
theorem s103 {ct cy rs : Int32} (h : KI s b z ct cy rs) (K : Q (some (.int 1)) (ob H p s)) : Cl (pj lw) 103 [.ref p, .int b, .long z, .int ct, .int cy, .int rs] (ob H p s) Q := by
  obtain ⟨⟨hI, -⟩, hR, i1, i4, r01, hc⟩ := h
  have n0 := hI.1.1.1
  have A26 := fun (Q : Option Value → AH → Prop) => k26 (lw := lw) (H := H) (p := p) (s := s) (Q := Q) (i := 0) (by omega)
  have o0 : (0 : Int32) = Int32.ofNat 0 := rfl
  rw [← o0] at A26
  rw [c103]; simp +decide only [w103_0, w103_1, w103_4, w103_6, w103_9, w103_10, w103_13, isO_put, Option.toList_some, List.cons_append, List.nil_append, true_and, and_true, ↓reduceIte, k10, k22, i1, i4, r01]
  rcases hc with ⟨rfl, hc⟩ | ⟨rfl, L, q, C, φ, hc⟩
  · have e26 : cV s 0 = -1 := by unfold cV; rw [if_neg (fun y => hc y.1)]
    simp +decide only [w103_15, w103_20, w103_21, w103_24, w103_26, w103_27, w103_30uu, w103_32, w103_34, w103_52, w103_54, w103_57, w103_59, w103_60, w103_61, w103_64, w103_65, w103_66, w103_69, w103_70, w103_75, w103_76, isO_put, Option.toList_some, List.cons_append, List.nil_append, true_and, and_true, ↓reduceIte, k24, k25, hc, A26, e26]
    refine f78 n0 hR (PK0 hc) ?_ 5 0 (by omega)
    simp +decide only [w103_335, w103_337, w103_353, w103_354, w103_358, true_and, ↓reduceIte]
    exact K
  · have y := hc.2.2.2.2.2.2.2.2.2.2
    have hL := hc.1.1
    have y6 := hc.1.2.1
    have y7 := hc.1.2.2.2
    have l1 : ¬ Int32.ofNat L < 1 := by rw [lt32, (ofi (i := L) (by omega)).1]; simp only [Int32.reduceToInt]; omega
    have l2 : ¬ 4 < Int32.ofNat L := by rw [lt32, (ofi (i := L) (by omega)).1]; simp only [Int32.reduceToInt]; omega
    simp +decide only [w103_15, w103_20, w103_21, w103_24, w103_26, w103_27, w103_30uu, w103_32, w103_34, w103_37, w103_39, w103_40, w103_43, w103_45, w103_46, w103_75, w103_76, isO_put, Option.toList_some, List.cons_append, List.nil_append, true_and, and_true, ↓reduceIte, k24, k25, y, y6, y7, l1, l2]
    refine f78 n0 hR (PK1 hc (hI.gi (by omega) (by omega)).gb) ?_ 5 0 (by omega)
    simp +decide only [w103_335, w103_337, w103_340, w103_341, w103_342, w103_343, w103_345, w103_347, true_and, ↓reduceIte]
    refine s104 hc n0 hR ?_
    simp +decide only [w103_350, w103_353, w103_354, w103_358, Option.toList_some, List.cons_append, List.nil_append, true_and, ↓reduceIte]
    exact K
theorem KI.ini : KI (ini0 4) 0 0 0 0 0 := by
  have z1 : ∀ i, sA (ini0 4) 1 i = 0 := fun i => by unfold ini0; rw [sA_uI, sA_uJ]; rfl
  have e4 : sI (ini0 4) 4 = 0 := by unfold ini0; rw [sI_uI, if_neg (by decide), sI_uJ]; rfl
  refine ⟨⟨Iw_ini (by decide) (by omega) (by omega), Ct_ini⟩, fun u v _ _ => ⟨⟨fun y => by rw [bt_0] at y; exact absurd y (by decide), fun y => absurd (z1 _) y⟩, fun y => absurd (z1 _) y⟩, by unfold ini0; rw [sI_uI, if_neg (by decide), sI_uJ]; rfl, e4, Or.inl rfl, Or.inl ⟨rfl, fun y => y.1 e4⟩⟩
theorem bits_set (hR : RB s b z) (hu : u < 4) (hv : v < 4) (hw : -8 ≤ w.toInt ∧ w.toInt ≤ 7) (h1 : ∀ i, sA t 1 i = if i = u * 24 + v then 1 else sA s 1 i) (h2 : ∀ i, sA t 2 i = if i = u * 24 + v then w else sA s 2 i) {b' : Int32} (hb : ∀ X, X < 16 → bt b' X = (bt b X || decide (X = 4 * u + v))) : RB t b' (sW z (4 * u + v) w) := fun x y hx hy => by
  obtain ⟨g1, g2⟩ := hR x y hx hy
  rw [hb _ (by omega), h1, h2]
  by_cases e : x = u ∧ y = v
  · obtain ⟨rfl, rfl⟩ := e
    rw [if_pos rfl, if_pos rfl]
    exact ⟨⟨fun _ => by decide, fun _ => by simp⟩, fun _ => gW_eq (by omega) hw⟩
  · rw [if_neg (by omega), if_neg (by omega), decide_eq_false (show ¬ 4 * x + y = 4 * u + v by omega), Bool.or_false]
    exact ⟨g1, fun q => by rw [gW_ne (by omega) (by omega) (by omega) hw]; exact g2 q⟩
theorem KI.ad {ct cy rs : Int32} (h : KI s b z ct cy rs) (hu : u < 4) (hv : v < 4) (ha : sA s 1 (u * 24 + v) = 0) (hw : -8 ≤ w.toInt ∧ w.toInt ≤ 7) : (adS s 4 u v w).1 = 0 ∧ KI (adS s 4 u v w).2 (b ||| ((1 : Int32) <<< (Int32.ofNat (4 * u + v) &&& 31))) (sW z (4 * u + v) w) (ct + 1) 0 0 := by
  obtain ⟨⟨hI, hC⟩, hR, i1, i4, r01, hc⟩ := h
  have c1 := cnt_le (f := pr4 s) 16 0
  have i1' := hC
  unfold Ct at i1'
  have l96 : sI s 1 < 96 := by rw [i1', lt32, (ofi (i := cnt (pr4 s) 0 16) (by omega)).1]; simp only [Int32.reduceToInt]; omega
  have I' := hI.ad (w := w) (u := u) (v := v) (Or.inl hw)
  have C' := hC.ad (w := w) (u := u) (v := v)
  have ev : adS s 4 u v w = (0, uI (uI (uI (uA (uA s 1 (u * 24 + v) 1) 2 (u * 24 + v) w) 1 (sI s 1 + 1)) 4 0) 5 0) := by
    unfold adS; rw [if_neg (fun y => y ⟨hu, hv⟩), if_neg (by simp only [lt32, Int32.reduceToInt]; omega), if_neg (fun y => y ha), if_neg (fun y => y l96)]
  rw [ev] at I' C' ⊢
  refine ⟨rfl, ⟨I', C'⟩, bits_set hR hu hv hw (fun i => by simp only [sA_uI, sA_uA, Nat.reduceEqDiff, false_and, if_false, true_and]) (fun i => by simp only [sA_uI, sA_uA, Nat.reduceEqDiff, false_and, if_false, true_and]) (fun X _ => by rw [bt_or, bt_1 (by omega)]), by simp +decide only [sI_uI, sI_uA, if_false, if_true, i1], by simp +decide only [sI_uI, if_false, if_true], Or.inl rfl, Or.inl ⟨rfl, fun y => y.2 (by rw [sI_uI, if_pos rfl])⟩⟩
theorem KI.sw {ct cy rs : Int32} (h : KI s b z ct cy rs) (hu : u < 4) (hv : v < 4) (ha : sA s 1 (u * 24 + v) ≠ 0) (hw : -8 ≤ w.toInt ∧ w.toInt ≤ 7) : (swS s 4 u v w).1 = 0 ∧ KI (swS s 4 u v w).2 b (sW z (4 * u + v) w) ct 0 0 := by
  obtain ⟨⟨hI, hC⟩, hR, i1, i4, r01, hc⟩ := h
  have I' := hI.sw (w := w) (u := u) (v := v) (Or.inl hw)
  have C' := hC.sw (w := w) (u := u) (v := v)
  have ev : swS s 4 u v w = (0, uI (uI (uA s 2 (u * 24 + v) w) 4 0) 5 0) := by
    unfold swS; rw [if_neg (fun y => y ⟨hu, hv⟩), if_neg (by simp only [lt32, Int32.reduceToInt]; omega), if_neg ha]
  rw [ev] at I' C' ⊢
  refine ⟨rfl, ⟨I', C'⟩, fun x y hx hy => ?_, by simp +decide only [sI_uI, sI_uA, if_false, i1], by simp +decide only [sI_uI, if_false, if_true], Or.inl rfl, Or.inl ⟨rfl, fun y => y.2 (by rw [sI_uI, if_pos rfl])⟩⟩
  obtain ⟨g1, g2⟩ := hR x y hx hy
  simp only [sA_uI, sA_uA, Nat.reduceEqDiff, false_and, if_false, true_and]
  refine ⟨g1, fun q => ?_⟩
  by_cases e : x = u ∧ y = v
  · obtain ⟨rfl, rfl⟩ := e
    rw [if_pos rfl]; exact gW_eq (by omega) hw
  · rw [if_neg (by omega), gW_ne (by omega) (by omega) (by omega) hw]; exact g2 q
theorem KI.rm {ct cy rs : Int32} (h : KI s b z ct cy rs) (hu : u < 4) (hv : v < 4) (ha : sA s 1 (u * 24 + v) ≠ 0) : (rmS s 4 u v).1 = 0 ∧ KI (rmS s 4 u v).2 (b &&& (((1 : Int32) <<< (Int32.ofNat (4 * u + v) &&& 31)) ^^^ (-1))) (sW z (4 * u + v) 0) (ct + (-1)) 0 0 := by
  obtain ⟨⟨hI, hC⟩, hR, i1, i4, r01, hc⟩ := h
  have I' := hI.rm (u := u) (v := v)
  have C' := hC.rm (u := u) (v := v)
  have ev : rmS s 4 u v = (0, uI (uI (uI (uA (uA s 1 (u * 24 + v) 0) 2 (u * 24 + v) 0) 1 (sI s 1 - 1)) 4 0) 5 0) := by
    unfold rmS; rw [if_neg (fun y => y ⟨hu, hv⟩), if_neg ha]
  rw [ev] at I' C' ⊢
  refine ⟨rfl, ⟨I', C'⟩, fun x y hx hy => ?_, by simp +decide only [sI_uI, sI_uA, if_false, if_true, i1]; rw [Int32.sub_eq_add_neg], by simp +decide only [sI_uI, if_false, if_true], Or.inl rfl, Or.inl ⟨rfl, fun y => y.2 (by rw [sI_uI, if_pos rfl])⟩⟩
  obtain ⟨g1, g2⟩ := hR x y hx hy
  rw [clr (by omega)]
  simp only [sA_uI, sA_uA, Nat.reduceEqDiff, false_and, if_false, true_and]
  by_cases e : x = u ∧ y = v
  · obtain ⟨rfl, rfl⟩ := e
    rw [if_pos rfl]; simp
  · rw [if_neg (by omega), if_neg (by omega), decide_eq_false (show ¬ 4 * x + y = 4 * u + v by omega), Bool.not_false, Bool.and_true]
    exact ⟨g1, fun q => by rw [gW_ne (by omega) (by omega) (by omega) (by decide)]; exact g2 q⟩
theorem bE_gE (hR : RB s b z) : Cy b ↔ ∃ f k, 1 ≤ k ∧ Wf 4 (gE s) f k ∧ f 0 = f k :=
  ⟨fun ⟨f, k, a1, a2, a3⟩ => ⟨f, k, a1, a2.congr fun u v hu hv y => (hR u v hu hv).1.1 y, a3⟩, fun ⟨f, k, a1, a2, a3⟩ => ⟨f, k, a1, a2.congr fun u v hu hv y => (hR u v hu hv).1.2 y, a3⟩⟩
theorem KI.sv {ct cy rs : Int32} (h : KI s b z ct cy rs) (A : SV s t 4 r) : ((r = 0 ∧ ¬ Cy b) ∨ (r = 1 ∧ Cy b)) ∧ KI t b z ct r 1 := by
  obtain ⟨⟨hI, hC⟩, hR, i1, i4, r01, hc⟩ := h
  have G := hI.gi (by omega) (by omega)
  have eE : gE t = gE s := gE_of A.1.1
  have eW : gw t = gw s := gw_of A.1.1 A.1.2.1
  have R' : RB t b z := fun x y hx hy => by rw [A.1.1, A.1.2.1]; exact hR x y hx hy
  have base : (Iw t 4 (-8) 7 ∧ Ct t) ∧ RB t b z ∧ sI t 1 = ct ∧ sI t 4 = 1 ∧ ((1 : Int32) = 0 ∨ (1 : Int32) = 1) := ⟨⟨hI.sv A, hC.sv A⟩, R', by rw [A.1.2.2.2.1]; exact i1, A.2.1, Or.inr rfl⟩
  rcases A.r with e | e
  · subst e
    refine ⟨Or.inl ⟨rfl, fun y => ?_⟩, base.1, base.2.1, base.2.2.1, base.2.2.2.1, base.2.2.2.2, Or.inl ⟨rfl, A.ac.2.1⟩⟩
    obtain ⟨f, k, a1, a2, a3⟩ := (bE_gE hR).1 y
    exact A.ac.2.2 f k a1 a2 a3
  · subst e
    obtain ⟨L, q, C, φ, B⟩ := SV.cyc G A
    exact ⟨Or.inr ⟨rfl, (bE_gE hR).2 B.cl⟩, base.1, base.2.1, base.2.2.1, base.2.2.2.1, base.2.2.2.2, Or.inr ⟨rfl, L, q, C, φ, B.self eE eW⟩⟩
set_option maxRecDepth 100000 in
set_option maxHeartbeats 4000000 in
theorem h196 {ct cy rs i8 op iv ix pr ok : Int32} {a1 a2 : Nat} (hK : KI s b z ct cy rs) (hop : op = 0 ∨ op = 1 ∨ op = 2 ∨ op = 3) (hU : u < 5) (hV : v < 5)
    (hw : (ok = 1 ∧ -8 ≤ w.toInt ∧ w.toInt ≤ 7) ∨ (ok = 0 ∧ w.toInt = 10001))
    (hin : (iv = 1 ∧ u < 4 ∧ v < 4 ∧ ix = Int32.ofNat (4 * u + v) ∧ ((pr = 1 ∧ sA s 1 (u * 24 + v) ≠ 0) ∨ (pr = 0 ∧ sA s 1 (u * 24 + v) = 0))) ∨ (iv = 0 ∧ pr = 0 ∧ ¬ (u < 4 ∧ v < 4)))
    (F : ∀ (s : St) (b : Int32) (z : Int64) (ct rs cy l9 l10 l11 l12 l13 l14 l15 l16 l17 l18 : Int32), KI s b z ct cy rs → W (pj lw) 100 451 [.val (.ref a), .val (.ref p), .val (.int b), .val (.long z), .second, .val (.int ct), .val (.int rs), .val (.int cy), .val (.int i8), .val (.int l9), .val (.int l10), .val (.int l11), .val (.int l12), .val (.int l13), .val (.int l14), .val (.int l15), .val (.int l16), .val (.int l17), .val (.int l18)] [] a1 a2 (ob H p s) (fun v _ => v = some (.int 1))) :
    W (pj lw) 100 196 [.val (.ref a), .val (.ref p), .val (.int b), .val (.long z), .second, .val (.int ct), .val (.int rs), .val (.int cy), .val (.int i8), .val (.int op), .val (.int (Int32.ofNat u)), .val (.int (Int32.ofNat v)), .val (.int w), .val (.int iv), .val (.int ix), .val (.int pr), .val (.int ok), .unset, .unset] [] a1 a2 (ob H p s) (fun v _ => v = some (.int 1)) := by
  have n0 := hK.1.1.1.1.1
  have B5 := fun (Q : Option Value → AH → Prop) => k5 (lw := lw) (H := H) (p := p) (s := s) (Q := Q) (n := 4) (u := u) (v := v) (w := w) n0 (by omega) (by omega) (by omega)
  have B6 := fun (Q : Option Value → AH → Prop) => k6 (lw := lw) (H := H) (p := p) (s := s) (Q := Q) (n := 4) (u := u) (v := v) n0 (by omega) (by omega) (by omega)
  have B7 := fun (Q : Option Value → AH → Prop) => k7 (lw := lw) (H := H) (p := p) (s := s) (Q := Q) (n := 4) (u := u) (v := v) (w := w) n0 (by omega) (by omega) (by omega)
  rcases hop with rfl | rfl | rfl | rfl
  · rcases hin with ⟨rfl, u4, v4, rfl, hp⟩ | ⟨rfl, rfl, ho⟩
    · rcases hw with ⟨rfl, hw⟩ | ⟨rfl, hw⟩
      · rcases hp with ⟨rfl, hp⟩ | ⟨rfl, hp⟩
        · have e : adS s 4 u v w = (3, s) := by
            unfold adS; rw [if_neg (fun y => y ⟨u4, v4⟩), if_neg (by simp only [lt32, Int32.reduceToInt]; omega), if_pos hp]
          simp +decide only [w100_196, w100_198, w100_201, w100_202, w100_204, w100_206, w100_208, w100_211, w100_213, w100_215, w100_222, w100_224, w100_231, w100_233, w100_236, w100_237, w100_241, w100_243, w100_373, w100_375, w100_377, w100_382, w100_384, w100_385, w100_388, w100_390, isO_put, Option.toList_some, List.cons_append, List.nil_append, true_and, and_true, ↓reduceIte, B5, e]
          exact F _ _ _ _ _ _ _ _ _ _ _ _ _ _ _ _ hK
        · obtain ⟨e, K'⟩ := hK.ad u4 v4 hp hw
          simp +decide only [w100_196, w100_198, w100_201, w100_202, w100_204, w100_206, w100_208, w100_211, w100_213, w100_215, w100_222, w100_224, w100_231, w100_233, w100_240, w100_241, w100_243, w100_373, w100_375, w100_377, w100_382, w100_384, w100_385, w100_388, w100_390, w100_393, w100_394i, w100_396, w100_397i, w100_399, w100_401, w100_404, w100_405, w100_406, w100_408, w100_409, w100_410i, w100_411, w100_414, w100_416, w100_417, w100_432, w100_433, w100_435, w100_437, w100_438, w100_445, w100_447, w100_450j, isO_put, Option.toList_some, List.cons_append, List.nil_append, true_and, and_true, ↓reduceIte, B5, e, s106]
          exact F _ _ _ _ _ _ _ _ _ _ _ _ _ _ _ _ K'
      · have e : adS s 4 u v w = (2, s) := by
          unfold adS; rw [if_neg (fun y => y ⟨u4, v4⟩), if_pos (Or.inr (by rw [lt32, hw]; decide))]
        rcases hp with ⟨rfl, hp⟩ | ⟨rfl, hp⟩ <;>
        · simp +decide only [w100_196, w100_198, w100_201, w100_202, w100_204, w100_206, w100_208, w100_211, w100_213, w100_215, w100_222, w100_224, w100_227, w100_228, w100_241, w100_243, w100_373, w100_375, w100_377, w100_382, w100_384, w100_385, w100_388, w100_390, isO_put, Option.toList_some, List.cons_append, List.nil_append, true_and, and_true, ↓reduceIte, B5, e]
          exact F _ _ _ _ _ _ _ _ _ _ _ _ _ _ _ _ hK
    · have e : adS s 4 u v w = (1, s) := by unfold adS; rw [if_pos ho]
      simp +decide only [w100_196, w100_198, w100_201, w100_202, w100_204, w100_206, w100_208, w100_211, w100_213, w100_215, w100_218, w100_219, w100_241, w100_243, w100_373, w100_375, w100_377, w100_382, w100_384, w100_385, w100_388, w100_390, isO_put, Option.toList_some, List.cons_append, List.nil_append, true_and, and_true, ↓reduceIte, B5, e]
      exact F _ _ _ _ _ _ _ _ _ _ _ _ _ _ _ _ hK
  · rcases hin with ⟨rfl, u4, v4, rfl, hp⟩ | ⟨rfl, rfl, ho⟩
    · rcases hp with ⟨rfl, hp⟩ | ⟨rfl, hp⟩
      · obtain ⟨e, K'⟩ := hK.rm u4 v4 hp
        simp +decide only [w100_196, w100_198, w100_246, w100_248, w100_249, w100_252, w100_253, w100_255, w100_257, w100_260, w100_262, w100_264, w100_271, w100_273, w100_280, w100_281, w100_283, w100_373, w100_375, w100_377, w100_382, w100_384, w100_385, w100_388, w100_390, w100_393, w100_394i, w100_396, w100_397i, w100_399, w100_401, w100_414, w100_416, w100_417, w100_420, w100_421, w100_422, w100_424, w100_425, w100_426, w100_427, w100_428i, w100_429, w100_432, w100_433, w100_435, w100_437, w100_438, w100_441, w100_442, w100_447, w100_450j, isO_put, Option.toList_some, List.cons_append, List.nil_append, true_and, and_true, ↓reduceIte, B6, e, s106]
        exact F _ _ _ _ _ _ _ _ _ _ _ _ _ _ _ _ K'
      · have e : rmS s 4 u v = (4, s) := by unfold rmS; rw [if_neg (fun y => y ⟨u4, v4⟩), if_pos hp]
        simp +decide only [w100_196, w100_198, w100_246, w100_248, w100_249, w100_252, w100_253, w100_255, w100_257, w100_260, w100_262, w100_264, w100_271, w100_273, w100_276, w100_277, w100_281, w100_283, w100_373, w100_375, w100_377, w100_382, w100_384, w100_385, w100_388, w100_390, isO_put, Option.toList_some, List.cons_append, List.nil_append, true_and, and_true, ↓reduceIte, B6, e]
        exact F _ _ _ _ _ _ _ _ _ _ _ _ _ _ _ _ hK
    · have e : rmS s 4 u v = (1, s) := by unfold rmS; rw [if_pos ho]
      simp +decide only [w100_196, w100_198, w100_246, w100_248, w100_249, w100_252, w100_253, w100_255, w100_257, w100_260, w100_262, w100_264, w100_267, w100_268, w100_281, w100_283, w100_373, w100_375, w100_377, w100_382, w100_384, w100_385, w100_388, w100_390, isO_put, Option.toList_some, List.cons_append, List.nil_append, true_and, and_true, ↓reduceIte, B6, e]
      exact F _ _ _ _ _ _ _ _ _ _ _ _ _ _ _ _ hK
  · rcases hin with ⟨rfl, u4, v4, rfl, hp⟩ | ⟨rfl, rfl, ho⟩
    · rcases hw with ⟨rfl, hw⟩ | ⟨rfl, hw⟩
      · rcases hp with ⟨rfl, hp⟩ | ⟨rfl, hp⟩
        · obtain ⟨e, K'⟩ := hK.sw u4 v4 hp hw
          simp +decide only [w100_196, w100_198, w100_246, w100_248, w100_249, w100_286, w100_288, w100_289, w100_292, w100_293, w100_295, w100_297, w100_299, w100_302, w100_304, w100_306, w100_313, w100_315, w100_322, w100_324, w100_331, w100_332, w100_334, w100_373, w100_375, w100_377, w100_382, w100_384, w100_385, w100_388, w100_390, w100_393, w100_394i, w100_396, w100_397i, w100_399, w100_401, w100_414, w100_416, w100_417, w100_432, w100_433, w100_435, w100_437, w100_438, w100_445, w100_447, w100_450j, isO_put, Option.toList_some, List.cons_append, List.nil_append, true_and, and_true, ↓reduceIte, B7, e, s106]
          exact F _ _ _ _ _ _ _ _ _ _ _ _ _ _ _ _ K'
        · have e : swS s 4 u v w = (4, s) := by
            unfold swS; rw [if_neg (fun y => y ⟨u4, v4⟩), if_neg (by simp only [lt32, Int32.reduceToInt]; omega), if_pos hp]
          simp +decide only [w100_196, w100_198, w100_246, w100_248, w100_249, w100_286, w100_288, w100_289, w100_292, w100_293, w100_295, w100_297, w100_299, w100_302, w100_304, w100_306, w100_313, w100_315, w100_322, w100_324, w100_327, w100_328, w100_332, w100_334, w100_373, w100_375, w100_377, w100_382, w100_384, w100_385, w100_388, w100_390, isO_put, Option.toList_some, List.cons_append, List.nil_append, true_and, and_true, ↓reduceIte, B7, e]
          exact F _ _ _ _ _ _ _ _ _ _ _ _ _ _ _ _ hK
      · have e : swS s 4 u v w = (2, s) := by
          unfold swS; rw [if_neg (fun y => y ⟨u4, v4⟩), if_pos (Or.inr (by rw [lt32, hw]; decide))]
        simp +decide only [w100_196, w100_198, w100_246, w100_248, w100_249, w100_286, w100_288, w100_289, w100_292, w100_293, w100_295, w100_297, w100_299, w100_302, w100_304, w100_306, w100_313, w100_315, w100_318, w100_319, w100_332, w100_334, w100_373, w100_375, w100_377, w100_382, w100_384, w100_385, w100_388, w100_390, isO_put, Option.toList_some, List.cons_append, List.nil_append, true_and, and_true, ↓reduceIte, B7, e]
        exact F _ _ _ _ _ _ _ _ _ _ _ _ _ _ _ _ hK
    · have e : swS s 4 u v w = (1, s) := by unfold swS; rw [if_pos ho]
      simp +decide only [w100_196, w100_198, w100_246, w100_248, w100_249, w100_286, w100_288, w100_289, w100_292, w100_293, w100_295, w100_297, w100_299, w100_302, w100_304, w100_306, w100_309, w100_310, w100_332, w100_334, w100_373, w100_375, w100_377, w100_382, w100_384, w100_385, w100_388, w100_390, isO_put, Option.toList_some, List.cons_append, List.nil_append, true_and, and_true, ↓reduceIte, B7, e]
      exact F _ _ _ _ _ _ _ _ _ _ _ _ _ _ _ _ hK
  · simp +decide only [w100_196, w100_198, w100_246, w100_248, w100_249, w100_286, w100_288, w100_289, w100_337, w100_338, isO_put, true_and, and_true, ↓reduceIte]
    refine v12g (hK.1.1.gi (by omega) (by omega)) fun t r A => ?_
    obtain ⟨hr, K'⟩ := hK.sv A
    simp +decide only [w100_341, w100_343, w100_344, Option.toList_some, List.cons_append, List.nil_append, true_and]
    refine s108 fun c hc => ?_
    rcases hr with ⟨rfl, hr⟩ | ⟨rfl, hr⟩
    · rcases hc with ⟨rfl, hc⟩ | ⟨rfl, hc⟩
      · simp +decide only [w100_347, w100_354, w100_355, w100_357, w100_358i, w100_360, w100_362, w100_363, w100_370, w100_371i, w100_373, w100_375, w100_377, w100_382, w100_384, w100_385, Option.toList_some, List.cons_append, List.nil_append, ↓reduceIte]
        exact F _ _ _ _ _ _ _ _ _ _ _ _ _ _ _ _ K'
      · exact absurd hc hr
    · rcases hc with ⟨rfl, hc⟩ | ⟨rfl, hc⟩
      · exact absurd hr hc
      · simp +decide only [w100_347, w100_350, w100_351, w100_355, w100_357, w100_358i, w100_360, w100_362, w100_363, w100_366, w100_367, w100_371i, w100_373, w100_375, w100_377, w100_382, w100_384, w100_385, Option.toList_some, List.cons_append, List.nil_append, ↓reduceIte]
        exact F _ _ _ _ _ _ _ _ _ _ _ _ _ _ _ _ K'
theorem w_rg : (-8 ≤ ((x &&& 15) - 8).toInt ∧ ((x &&& 15) - 8).toInt ≤ 7) := by
  have h := and_rg (x := x) (m := 15) (by decide)
  simp only [Int32.reduceToInt] at h
  have e : ((x &&& 15) - 8).toInt = (x &&& 15).toInt - 8 := isb (by simp only [Int32.reduceToInt]; omega) (by simp only [Int32.reduceToInt]; omega)
  rw [e]; omega
theorem u_rg : ∃ U, U < 5 ∧ (x &&& 2147483647) % 5 = Int32.ofNat U := by
  have h := and_rg (x := x) (m := 2147483647) (by decide)
  have g := rem_rg (x := x &&& 2147483647) (m := 5) h.1 (by decide)
  simp only [Int32.reduceToInt] at g
  exact ofN g.1 (B := 5) (by omega)
theorem op_rg : x &&& 3 = 0 ∨ x &&& 3 = 1 ∨ x &&& 3 = 2 ∨ x &&& 3 = 3 := by
  have h := and_rg (x := x) (m := 3) (by decide)
  simp only [Int32.reduceToInt] at h
  simp only [eq32, Int32.reduceToInt]; omega
set_option maxRecDepth 100000 in
set_option maxHeartbeats 1000000 in
theorem h123 {ct cy rs i8 op : Int32} {a1 a2 : Nat} (hK : KI s b z ct cy rs) (hop : op = 0 ∨ op = 1 ∨ op = 2 ∨ op = 3) (hU : u < 5) (hV : v < 5) (hw : (-8 ≤ w.toInt ∧ w.toInt ≤ 7) ∨ w.toInt = 10001)
    (F : ∀ (s : St) (b : Int32) (z : Int64) (ct rs cy l9 l10 l11 l12 l13 l14 l15 l16 l17 l18 : Int32), KI s b z ct cy rs → W (pj lw) 100 451 [.val (.ref a), .val (.ref p), .val (.int b), .val (.long z), .second, .val (.int ct), .val (.int rs), .val (.int cy), .val (.int i8), .val (.int l9), .val (.int l10), .val (.int l11), .val (.int l12), .val (.int l13), .val (.int l14), .val (.int l15), .val (.int l16), .val (.int l17), .val (.int l18)] [] a1 a2 (ob H p s) (fun v _ => v = some (.int 1))) :
    W (pj lw) 100 123 [.val (.ref a), .val (.ref p), .val (.int b), .val (.long z), .second, .val (.int ct), .val (.int rs), .val (.int cy), .val (.int i8), .val (.int op), .val (.int (Int32.ofNat u)), .val (.int (Int32.ofNat v)), .val (.int w), .unset, .unset, .unset, .unset, .unset, .unset] [] a1 a2 (ob H p s) (fun v _ => v = some (.int 1)) := by
  have go := fun ok iv ix pr hw hin => h196 (H := H) (p := p) (a := a) (w := w) (i8 := i8) (a1 := a1) (a2 := a2) (ok := ok) (iv := iv) (ix := ix) (pr := pr) hK hop hU hV hw hin F
  have r181 : ∀ iv ix pr : Int32, ((iv = 1 ∧ u < 4 ∧ v < 4 ∧ ix = Int32.ofNat (4 * u + v) ∧ ((pr = 1 ∧ sA s 1 (u * 24 + v) ≠ 0) ∨ (pr = 0 ∧ sA s 1 (u * 24 + v) = 0))) ∨ (iv = 0 ∧ pr = 0 ∧ ¬ (u < 4 ∧ v < 4))) → W (pj lw) 100 181 [.val (.ref a), .val (.ref p), .val (.int b), .val (.long z), .second, .val (.int ct), .val (.int rs), .val (.int cy), .val (.int i8), .val (.int op), .val (.int (Int32.ofNat u)), .val (.int (Int32.ofNat v)), .val (.int w), .val (.int iv), .val (.int ix), .val (.int pr), .unset, .unset, .unset] [] a1 a2 (ob H p s) (fun v _ => v = some (.int 1)) := fun iv ix pr hin => by
    rcases hw with hw | hw
    · have c : ¬ 10000 < w := by simp only [lt32, Int32.reduceToInt]; omega
      simp +decide only [w100_181, w100_183, w100_186, w100_189, w100_190, w100_194, ↓reduceIte, c]
      exact go 1 iv ix pr (Or.inl ⟨rfl, hw⟩) hin
    · have c : 10000 < w := by simp only [lt32, Int32.reduceToInt]; omega
      simp +decide only [w100_181, w100_183, w100_186, w100_193, w100_194, ↓reduceIte, c]
      exact go 0 iv ix pr (Or.inr ⟨rfl, hw⟩) hin
  by_cases q1 : u < 4
  rotate_left
  · have c1 : ¬ Int32.ofNat u < 4 := by rw [lt32, (ofi (i := u) (by omega)).1]; simp only [Int32.reduceToInt]; omega
    simp +decide only [w100_123, w100_125, w100_126, w100_139, w100_140, w100_142, w100_144, w100_157, w100_158, w100_160, w100_162, w100_178, w100_179, ↓reduceIte, c1]
    exact r181 0 0 0 (Or.inr ⟨rfl, rfl, fun y => q1 y.1⟩)
  have c1 : Int32.ofNat u < 4 := by rw [lt32, (ofi (i := u) (by omega)).1]; simp only [Int32.reduceToInt]; omega
  by_cases q2 : v < 4
  rotate_left
  · have c2 : ¬ Int32.ofNat v < 4 := by rw [lt32, (ofi (i := v) (by omega)).1]; simp only [Int32.reduceToInt]; omega
    simp +decide only [w100_123, w100_125, w100_126, w100_129, w100_131, w100_132, w100_139, w100_140, w100_142, w100_144, w100_157, w100_158, w100_160, w100_162, w100_178, w100_179, ↓reduceIte, c1, c2]
    exact r181 0 0 0 (Or.inr ⟨rfl, rfl, fun y => q2 y.2⟩)
  have c2 : Int32.ofNat v < 4 := by rw [lt32, (ofi (i := v) (by omega)).1]; simp only [Int32.reduceToInt]; omega
  obtain ⟨g1, -⟩ := hK.2.1 u v q1 q2
  have ts := shr_bt (R := b) (k := 4 * u + v) (by omega)
  by_cases q3 : sA s 1 (u * 24 + v) = 0
  · have c3 := eq_true (ts.2 (by cases y : bt b (4 * u + v); rfl; exact absurd q3 (g1.1 y)))
    simp +decide only [w100_123, w100_125, w100_126, w100_129, w100_131, w100_132, w100_135, w100_136, w100_140, w100_142, w100_144, w100_147, w100_148, w100_150, w100_151, w100_153, w100_154, w100_158, w100_160, w100_162, w100_165, w100_166, w100_168, w100_169, w100_170, w100_171, w100_178, w100_179, ↓reduceIte, c1, c2, m4, c3]
    exact r181 1 _ 0 (Or.inl ⟨rfl, q1, q2, rfl, Or.inr ⟨rfl, q3⟩⟩)
  · have c3 : ¬ (b >>> (Int32.ofNat (4 * u + v) &&& 31)) &&& 1 = 0 := fun y => by have := g1.2 q3; rw [ts.1 y] at this; exact absurd this (by decide)
    simp +decide only [w100_123, w100_125, w100_126, w100_129, w100_131, w100_132, w100_135, w100_136, w100_140, w100_142, w100_144, w100_147, w100_148, w100_150, w100_151, w100_153, w100_154, w100_158, w100_160, w100_162, w100_165, w100_166, w100_168, w100_169, w100_170, w100_171, w100_174, w100_175, w100_179, ↓reduceIte, c1, c2, m4, c3]
    exact r181 1 _ 1 (Or.inl ⟨rfl, q1, q2, rfl, Or.inl ⟨rfl, q3⟩⟩)
set_option maxRecDepth 100000 in
set_option maxHeartbeats 1000000 in
theorem lp {len a1 a2 : Nat} {f : Nat → Int32} (hl : len ≤ 260) (y1 : ∀ s, (isA (ob H p s) a = true) = True) (y2 : ∀ s, alen (ob H p s) a = len) (y3 : ∀ s i, (inA (ob H p s) a .int i = true) = (0 ≤ i.toInt ∧ i.toInt < len)) (y4 : ∀ s i, elt (ob H p s) a i = .int (f i.toNatClampNeg)) (m : Nat) :
    ∀ (i8 : Int32) (s : St) (b : Int32) (z : Int64) (ct rs cy : Int32), KI s b z ct cy rs → 0 ≤ i8.toInt → i8.toInt ≤ 300 → (len : Int) ≤ i8.toInt + 4 * m →
    W (pj lw) 100 47 [.val (.ref a), .val (.ref p), .val (.int b), .val (.long z), .second, .val (.int ct), .val (.int rs), .val (.int cy), .val (.int i8), .unset, .unset, .unset, .unset, .unset, .unset, .unset, .unset, .unset, .unset] [] a1 a2 (ob H p s) (fun v _ => v = some (.int 1)) := by
  have hlen : (len.toInt32).toInt = len := len32 (by omega)
  induction m with
  | zero =>
    intro i8 s b z ct rs cy hK h0 h3 hm
    have h1 : (i8 + 3).toInt = i8.toInt + 3 := ia (by simp only [Int32.reduceToInt]; omega) (by simp only [Int32.reduceToInt]; omega)
    have c1 : ¬ i8 + 3 < len.toInt32 := by rw [lt32, h1, hlen]; omega
    rw [w100_47]; simp +decide only [w100_49, w100_50, w100_51, w100_52, w100_53, w100_474, w100_475, and_true, ↓reduceIte, y1, y2, c1]
  | succ m ih =>
    intro i8 s b z ct rs cy hK h0 h3 hm
    have h1 : (i8 + 3).toInt = i8.toInt + 3 := ia (by simp only [Int32.reduceToInt]; omega) (by simp only [Int32.reduceToInt]; omega)
    by_cases c1 : i8 + 3 < len.toInt32
    rotate_left
    · rw [w100_47]; simp +decide only [w100_49, w100_50, w100_51, w100_52, w100_53, w100_474, w100_475, and_true, ↓reduceIte, y1, y2, c1]
    have c1' := c1
    rw [lt32, h1, hlen] at c1'
    have e1 : (i8 + 1).toInt = i8.toInt + 1 := ia (by simp only [Int32.reduceToInt]; omega) (by simp only [Int32.reduceToInt]; omega)
    have e2 : (i8 + 2).toInt = i8.toInt + 2 := ia (by simp only [Int32.reduceToInt]; omega) (by simp only [Int32.reduceToInt]; omega)
    have e4 : (i8 + 4).toInt = i8.toInt + 4 := ia (by simp only [Int32.reduceToInt]; omega) (by simp only [Int32.reduceToInt]; omega)
    have b0 : 0 ≤ i8.toInt ∧ i8.toInt < (len : Int) := by omega
    have b1 : 0 ≤ (i8 + 1).toInt ∧ (i8 + 1).toInt < (len : Int) := by omega
    have b2 : 0 ≤ (i8 + 2).toInt ∧ (i8 + 2).toInt < (len : Int) := by omega
    have b3 : 0 ≤ (i8 + 3).toInt ∧ (i8 + 3).toInt < (len : Int) := by omega
    have F : ∀ (s : St) (b : Int32) (z : Int64) (ct rs cy l9 l10 l11 l12 l13 l14 l15 l16 l17 l18 : Int32), KI s b z ct cy rs → W (pj lw) 100 451 [.val (.ref a), .val (.ref p), .val (.int b), .val (.long z), .second, .val (.int ct), .val (.int rs), .val (.int cy), .val (.int i8), .val (.int l9), .val (.int l10), .val (.int l11), .val (.int l12), .val (.int l13), .val (.int l14), .val (.int l15), .val (.int l16), .val (.int l17), .val (.int l18)] [] a1 a2 (ob H p s) (fun v _ => v = some (.int 1)) := fun s b z ct rs cy l9 l10 l11 l12 l13 l14 l15 l16 l17 l18 hK => by
      refine W_fa 9 rfl ?_
      show W (pj lw) 100 451 [.val (.ref a), .val (.ref p), .val (.int b), .val (.long z), .second, .val (.int ct), .val (.int rs), .val (.int cy), .val (.int i8), .unset, .unset, .unset, .unset, .unset, .unset, .unset, .unset, .unset, .unset] [] a1 a2 (ob H p s) (fun v _ => v = some (.int 1))
      simp +decide only [w100_451, w100_452, w100_453, w100_454, w100_456, w100_458, w100_460, true_and]
      refine s103 hK ?_
      simp +decide only [w100_463, w100_468, w100_471, Option.toList_some, List.cons_append, List.nil_append, ↓reduceIte]
      exact ih (i8 + 4) s b z ct rs cy hK (by omega) (by omega) (by omega)
    rw [w100_47]; simp +decide only [w100_49, w100_50, w100_51, w100_52, w100_53, w100_56, w100_57, w100_59, w100_60, w100_61, w100_62, w100_64, w100_65, w100_67, w100_68, w100_69, w100_70, w100_72, w100_73, w100_74, w100_75, w100_77, w100_78, w100_80, w100_81, w100_82, w100_83, w100_85, w100_86, w100_87, w100_88, w100_90, w100_91, w100_93, w100_94, w100_95, w100_96, w100_98, w100_99, w100_101, w100_102, true_and, and_true, ↓reduceIte, y1, y2, y3, y4, c1, b0, b1, b2, b3]
    obtain ⟨U, hU, eU⟩ := u_rg (x := f (i8 + 1).toNatClampNeg)
    obtain ⟨V, hV, eV⟩ := u_rg (x := f (i8 + 2).toNatClampNeg)
    have hw := w_rg (x := f (i8 + 3).toNatClampNeg)
    have hop := op_rg (x := f i8.toNatClampNeg)
    rw [eU, eV]
    generalize f i8.toNatClampNeg &&& 3 = op at *
    by_cases c2 : f (i8 + 3).toNatClampNeg &&& 112 = 112
    · simp +decide only [w100_104, w100_105, w100_107, w100_108, w100_109, w100_110, w100_112, w100_113, w100_115, w100_118, w100_121i, true_and, and_true, ↓reduceIte, y3, y4, b3, c2]
      exact h123 (w := 10001) hK hop hU hV (Or.inr (by decide)) F
    · simp +decide only [w100_104, w100_105, w100_107, w100_108, w100_109, w100_110, w100_112, w100_113, w100_115, true_and, and_true, ↓reduceIte, y3, y4, b3, c2]
      exact h123 hK hop hU hV (Or.inl hw) F
set_option maxRecDepth 100000 in
theorem law_ok (N a len : Nat) (f : Nat → Int32) (ha : a < N) (hl : len ≤ 260) : Cl (pj lw) 100 [.ref a] (H1 N a len f) (fun v _ => v = some (.int 1)) := by
  have e1 : (H1 N a len f).1 = N := rfl
  have y1 : ∀ s, (isA (ob (H1 (N + 11) a len f) N s) a = true) = True := fun s => (sc1 ha).1
  have y2 : ∀ s, alen (ob (H1 (N + 11) a len f) N s) a = len := fun s => (sc1 ha).2.1
  have y3 : ∀ s i, (inA (ob (H1 (N + 11) a len f) N s) a .int i = true) = (0 ≤ i.toInt ∧ i.toInt < len) := fun s => (sc1 ha).2.2.1
  have y4 : ∀ s i, elt (ob (H1 (N + 11) a len f) N s) a i = .int (f i.toNatClampNeg) := fun s => (sc1 ha).2.2.2
  have K0 := KI.ini
  have n0 : sI (ini0 4) 0 = 4 := K0.1.1.1.1.1
  rw [c100]
  simp +decide only [w100_0, w100_3, w100_4, w100_5, w100_8, isO_put, cs_nil, cs_ref, Option.toList_none, List.nil_append, true_and, and_true, Nat.reduceAdd, Nat.reduceLeDiff, Int32.reduceAdd, Int64.reduceAdd, Nat.add_zero, Nat.zero_add, mkO_ob, e1, t1]
  simp only [put_c, H1_c]
  simp +decide only [w100_9, w100_10, w100_13, w100_14, w100_17, w100_18, w100_19, w100_20, w100_21, w100_22, w100_23, isO_put, Option.toList_some, List.cons_append, List.nil_append, true_and, and_true, ↓reduceIte, k11, n0]
  refine s103 K0 ?_
  simp +decide only [w100_26, w100_31, w100_32, w100_33, w100_34uu, w100_35, w100_36, w100_38, w100_39, w100_41, w100_42, w100_44, w100_45, Option.toList_some, List.cons_append, List.nil_append, ↓reduceIte]
  exact lp hl y1 y2 y3 y4 (len + 1) 0 (ini0 4) 0 0 0 0 0 K0 (by decide) (by decide) (by simp only [Int32.reduceToInt]; omega)
end X8

end Jvm.JX.Lw
namespace Jvm.Pilot.@@N@@
open Jvm Jvm.ClassFile Sem Op Lib Jvm.Free Jvm.Stand Jvm.LawKit Jvm.RoadKit Bundle Jvm.Pilot.@@N@@.Jvm.D Jvm.JX Jvm.JX.Pj Jvm.JX.Lw
def nmL : List (Nat × MethodName) := [(1, ⟨"MeanCycleCert", "<init>", "(I)V"⟩), (2, ⟨"MeanCycleCert", "inRange", "(I)Z"⟩), (3, ⟨"MeanCycleCert", "weightOk", "(I)Z"⟩), (4, ⟨"MeanCycleCert", "discard", "()V"⟩), (5, ⟨"MeanCycleCert", "addArc", "(III)I"⟩), (6, ⟨"MeanCycleCert", "removeArc", "(II)I"⟩), (7, ⟨"MeanCycleCert", "setWeight", "(III)I"⟩), (8, ⟨"MeanCycleCert", "hasArc", "(II)Z"⟩), (9, ⟨"MeanCycleCert", "getWeight", "(II)I"⟩), (10, ⟨"MeanCycleCert", "arcCount", "()I"⟩), (11, ⟨"MeanCycleCert", "vertexCount", "()I"⟩), (12, ⟨"MeanCycleCert", "solve", "()I"⟩), (13, ⟨"MeanCycleCert", "clearResult", "()V"⟩), (14, ⟨"MeanCycleCert", "runKarp", "()Z"⟩), (15, ⟨"MeanCycleCert", "relaxKarp", "(II)V"⟩), (16, ⟨"MeanCycleCert", "vertexMax", "(I)V"⟩), (17, ⟨"MeanCycleCert", "relax", "(JJ)V"⟩), (18, ⟨"MeanCycleCert", "markTight", "(JJ)V"⟩), (19, ⟨"MeanCycleCert", "closure", "()V"⟩), (20, ⟨"MeanCycleCert", "bfsTo", "(I)V"⟩), (21, ⟨"MeanCycleCert", "buildWitness", "(I)V"⟩), (22, ⟨"MeanCycleCert", "hasResult", "()Z"⟩), (23, ⟨"MeanCycleCert", "cyclicStored", "()Z"⟩), (24, ⟨"MeanCycleCert", "cycleLength", "()I"⟩), (25, ⟨"MeanCycleCert", "cycleWeight", "()J"⟩), (26, ⟨"MeanCycleCert", "cycleVertex", "(I)I"⟩), (27, ⟨"MeanCycleCert", "isCritical", "(I)Z"⟩), (28, ⟨"MeanCycleCert", "potential", "(I)J"⟩), (29, ⟨"MeanCycleCert", "reducedCost", "(II)J"⟩), (100, ⟨"MeanCycleCertL6", "law", "([I)Z"⟩), (103, ⟨"MeanCycleCertL6", "check", "(LMeanCycleCert;IJIZZ)Z"⟩), (104, ⟨"MeanCycleCertL6", "witness", "(LMeanCycleCert;IJIJ)Z"⟩), (105, ⟨"MeanCycleCertL6", "getW", "(JI)I"⟩), (106, ⟨"MeanCycleCertL6", "setW", "(JII)J"⟩), (107, ⟨"MeanCycleCertL6", "compose", "(II)I"⟩), (108, ⟨"MeanCycleCertL6", "cyclic", "(I)Z"⟩)]
def nm (m : Nat) : MethodName := (nmL.lookup m).getD ⟨"", "", ""⟩
def btL : List (Nat × ByteArray) := [(1, prog_1_method_1_code), (2, prog_1_method_2_code), (3, prog_1_method_3_code), (4, prog_1_method_4_code), (5, prog_1_method_5_code), (6, prog_1_method_6_code), (7, prog_1_method_7_code), (8, prog_1_method_8_code), (9, prog_1_method_9_code), (10, prog_1_method_10_code), (11, prog_1_method_11_code), (12, prog_1_method_12_code), (13, prog_1_method_13_code), (14, prog_1_method_14_code), (15, prog_1_method_15_code), (16, prog_1_method_16_code), (17, prog_1_method_17_code), (18, prog_1_method_18_code), (19, prog_1_method_19_code), (20, prog_1_method_20_code), (21, prog_1_method_21_code), (22, prog_1_method_22_code), (23, prog_1_method_23_code), (24, prog_1_method_24_code), (25, prog_1_method_25_code), (26, prog_1_method_26_code), (27, prog_1_method_27_code), (28, prog_1_method_28_code), (29, prog_1_method_29_code), (100, code), (103, method_3_code), (104, method_4_code), (105, method_5_code), (106, method_6_code), (107, method_7_code), (108, method_8_code)]
def bt (m : Nat) : ByteArray := (btL.lookup m).getD ⟨#[]⟩
def fnL : List (String × String) := [("n", "I"), ("arcs", "I"), ("has", "[Z"), ("wt", "[I"), ("res", "Z"), ("cyc", "Z"), ("len", "I"), ("cw", "J"), ("seq", "[I"), ("crit", "[Z"), ("pot", "[J"), ("karp", "[J"), ("tight", "[Z"), ("reach", "[I"), ("dist", "[I"), ("queue", "[I"), ("inf", "J"), ("muNum", "J"), ("muDen", "J"), ("vNum", "J"), ("vDen", "J")]
def fn (k : Nat) : String × String := fnL.getD k ("", "")
def RL : List Nat := [1, 2, 3, 4, 5, 6, 7, 8, 9, 10, 11, 12, 13, 14, 15, 16, 17, 18, 19, 20, 21, 22, 23, 24, 25, 26, 27, 28, 29, 100, 103, 104, 105, 106, 107, 108]
def FS : List Nat := [0, 1, 2, 3, 4, 5, 6, 7, 8, 9, 10, 11, 12, 13, 14, 15, 16, 17, 18, 19, 20]
def WF : List Nat := [0, 1, 2, 3, 4, 5, 6, 7, 8, 9, 10, 11, 12, 13, 14, 15, 16, 17, 18, 19, 20]
def FL : List (Nat × Nat × Nat) := [(0, 7, 2), (0, 13, 3), (0, 17, 8), (0, 20, 9), (0, 23, 10), (0, 27, 11), (0, 30, 12), (0, 33, 13), (0, 36, 14), (0, 39, 15), (0, 44, 16), (0, 48, 0), (0, 52, 4), (0, 56, 5), (0, 66, 1), (0, 83, 18), (0, 86, 17), (0, 106, 6), (0, 109, 7), (0, 119, 19), (0, 122, 20)]
def ML : List (Nat × Nat × Nat) := [(0, 59, 2), (0, 63, 3), (0, 69, 4), (0, 72, 8), (0, 76, 13), (0, 79, 14), (0, 89, 17), (0, 93, 18), (0, 96, 19), (0, 99, 20), (0, 103, 21), (0, 112, 15), (0, 116, 16), (0, 125, 23), (1, 9, 1), (1, 12, 11), (1, 16, 103), (1, 23, 5), (1, 27, 6), (1, 31, 7), (1, 34, 12), (1, 37, 108), (1, 41, 106), (1, 45, 10), (1, 48, 22), (1, 52, 24), (1, 55, 25), (1, 59, 26), (1, 63, 28), (1, 67, 27), (1, 70, 105), (1, 74, 8), (1, 78, 9), (1, 81, 29), (1, 87, 104), (1, 93, 107)]
def KI : List (Nat × Nat × Int) := [(1, 22, 2147483647)]
def KJ : List (Nat × Nat × Int) := [(0, 42, 4000000000000000000), (0, 128, -1), (1, 85, -1), (1, 91, 15)]
def ATL : List FieldType := [.boolean, .int, .long]
def cn (j : Nat) : String := if j = 0 then "MeanCycleCert" else "MeanCycleCertL6"
def own (m : Nat) : Nat := if m < 100 then 0 else 1
def ini (m : Nat) : Bool := m == 1
def rowsOf (m : Nat) : List Jvm.JX.Row := if m < 100 then prows.getD m [] else lrows.getD (m - 100) []
theorem hFL : ∀ t ∈ FL, t.2.2 ∈ FS ∧ Jvm.Cond.fieldLink (cn t.1) t.2.1 "MeanCycleCert" (fn t.2.2).1 (fn t.2.2).2 ∈ tables_1 := (faS ⟨by decide, (List.mem_of_getElem? (i := 10) rfl)⟩ (faS ⟨by decide, (List.mem_of_getElem? (i := 13) rfl)⟩ (faS ⟨by decide, (List.mem_of_getElem? (i := 15) rfl)⟩ (faS ⟨by decide, (List.mem_of_getElem? (i := 17) rfl)⟩ (faS ⟨by decide, (List.mem_of_getElem? (i := 20) rfl)⟩ (faS ⟨by decide, (List.mem_of_getElem? (i := 22) rfl)⟩ (faS ⟨by decide, (List.mem_of_getElem? (i := 24) rfl)⟩ (faS ⟨by decide, (List.mem_of_getElem? (i := 26) rfl)⟩ (faS ⟨by decide, (List.mem_of_getElem? (i := 28) rfl)⟩ (faS ⟨by decide, (List.mem_of_getElem? (i := 30) rfl)⟩ (faS ⟨by decide, (List.mem_of_getElem? (i := 33) rfl)⟩ (faS ⟨by decide, (List.mem_of_getElem? (i := 35) rfl)⟩ (faS ⟨by decide, (List.mem_of_getElem? (i := 58) rfl)⟩ (faS ⟨by decide, (List.mem_of_getElem? (i := 121) rfl)⟩ (faS ⟨by decide, (List.mem_of_getElem? (i := 51) rfl)⟩ (faS ⟨by decide, (List.mem_of_getElem? (i := 176) rfl)⟩ (faS ⟨by decide, (List.mem_of_getElem? (i := 174) rfl)⟩ (faS ⟨by decide, (List.mem_of_getElem? (i := 123) rfl)⟩ (faS ⟨by decide, (List.mem_of_getElem? (i := 125) rfl)⟩ (faS ⟨by decide, (List.mem_of_getElem? (i := 170) rfl)⟩ (faS ⟨by decide, (List.mem_of_getElem? (i := 172) rfl)⟩ fa0)))))))))))))))))))))
theorem hWF : ∀ k ∈ WF, Jvm.Cond.lays "MeanCycleCert" "MeanCycleCert" (fn k).1 (fn k).2 ∈ tables_1 := (faS (List.mem_of_getElem? (i := 36) rfl) (faS (List.mem_of_getElem? (i := 52) rfl) (faS (List.mem_of_getElem? (i := 11) rfl) (faS (List.mem_of_getElem? (i := 14) rfl) (faS (List.mem_of_getElem? (i := 59) rfl) (faS (List.mem_of_getElem? (i := 122) rfl) (faS (List.mem_of_getElem? (i := 124) rfl) (faS (List.mem_of_getElem? (i := 126) rfl) (faS (List.mem_of_getElem? (i := 16) rfl) (faS (List.mem_of_getElem? (i := 18) rfl) (faS (List.mem_of_getElem? (i := 21) rfl) (faS (List.mem_of_getElem? (i := 23) rfl) (faS (List.mem_of_getElem? (i := 25) rfl) (faS (List.mem_of_getElem? (i := 27) rfl) (faS (List.mem_of_getElem? (i := 29) rfl) (faS (List.mem_of_getElem? (i := 31) rfl) (faS (List.mem_of_getElem? (i := 34) rfl) (faS (List.mem_of_getElem? (i := 175) rfl) (faS (List.mem_of_getElem? (i := 177) rfl) (faS (List.mem_of_getElem? (i := 171) rfl) (faS (List.mem_of_getElem? (i := 173) rfl) fa0)))))))))))))))))))))
theorem hML : ∀ t ∈ ML, t.2.2 ∈ RL ∧ Jvm.Cond.methodLink (cn t.1) t.2.1 (nm t.2.2) ∈ tables_1 := (faS ⟨by decide, (List.mem_of_getElem? (i := 94) rfl)⟩ (faS ⟨by decide, (List.mem_of_getElem? (i := 147) rfl)⟩ (faS ⟨by decide, (List.mem_of_getElem? (i := 151) rfl)⟩ (faS ⟨by decide, (List.mem_of_getElem? (i := 103) rfl)⟩ (faS ⟨by decide, (List.mem_of_getElem? (i := 117) rfl)⟩ (faS ⟨by decide, (List.mem_of_getElem? (i := 127) rfl)⟩ (faS ⟨by decide, (List.mem_of_getElem? (i := 178) rfl)⟩ (faS ⟨by decide, (List.mem_of_getElem? (i := 182) rfl)⟩ (faS ⟨by decide, (List.mem_of_getElem? (i := 186) rfl)⟩ (faS ⟨by decide, (List.mem_of_getElem? (i := 190) rfl)⟩ (faS ⟨by decide, (List.mem_of_getElem? (i := 194) rfl)⟩ (faS ⟨by decide, (List.mem_of_getElem? (i := 162) rfl)⟩ (faS ⟨by decide, (List.mem_of_getElem? (i := 166) rfl)⟩ (faS ⟨by decide, (List.mem_of_getElem? (i := 65) rfl)⟩ (faS ⟨by decide, (List.mem_of_getElem? (i := 3) rfl)⟩ (faS ⟨by decide, (List.mem_of_getElem? (i := 37) rfl)⟩ (faS ⟨by decide, (List.mem_of_getElem? (i := 42) rfl)⟩ (faS ⟨by decide, (List.mem_of_getElem? (i := 142) rfl)⟩ (faS ⟨by decide, (List.mem_of_getElem? (i := 137) rfl)⟩ (faS ⟨by decide, (List.mem_of_getElem? (i := 201) rfl)⟩ (faS ⟨by decide, (List.mem_of_getElem? (i := 112) rfl)⟩ (faS ⟨by decide, (List.mem_of_getElem? (i := 131) rfl)⟩ (faS ⟨by decide, (List.mem_of_getElem? (i := 155) rfl)⟩ (faS ⟨by decide, (List.mem_of_getElem? (i := 46) rfl)⟩ (faS ⟨by decide, (List.mem_of_getElem? (i := 53) rfl)⟩ (faS ⟨by decide, (List.mem_of_getElem? (i := 60) rfl)⟩ (faS ⟨by decide, (List.mem_of_getElem? (i := 69) rfl)⟩ (faS ⟨by decide, (List.mem_of_getElem? (i := 74) rfl)⟩ (faS ⟨by decide, (List.mem_of_getElem? (i := 79) rfl)⟩ (faS ⟨by decide, (List.mem_of_getElem? (i := 84) rfl)⟩ (faS ⟨by decide, (List.mem_of_getElem? (i := 159) rfl)⟩ (faS ⟨by decide, (List.mem_of_getElem? (i := 89) rfl)⟩ (faS ⟨by decide, (List.mem_of_getElem? (i := 98) rfl)⟩ (faS ⟨by decide, (List.mem_of_getElem? (i := 104) rfl)⟩ (faS ⟨by decide, (List.mem_of_getElem? (i := 198) rfl)⟩ (faS ⟨by decide, (List.mem_of_getElem? (i := 134) rfl)⟩ fa0))))))))))))))))))))))))))))))))))))
theorem hKI : ∀ t ∈ KI, Jvm.Cond.constant (cn t.1) t.2.1 (Int32.ofInt t.2.2) ∈ tables_1 := (faS (List.mem_of_getElem? (i := 111) rfl) fa0)
theorem hKJ : ∀ t ∈ KJ, Jvm.Cond.constantLong (cn t.1) t.2.1 (Int64.ofInt t.2.2) ∈ tables_1 := (faS (List.mem_of_getElem? (i := 32) rfl) (faS (List.mem_of_getElem? (i := 109) rfl) (faS (List.mem_of_getElem? (i := 110) rfl) (faS (List.mem_of_getElem? (i := 158) rfl) fa0))))
theorem hAT : ∀ t ∈ ATL, Jvm.Cond.arrayClass t ∈ tables_1 := (faS (List.mem_of_getElem? (i := 9) rfl) (faS (List.mem_of_getElem? (i := 12) rfl) (faS (List.mem_of_getElem? (i := 19) rfl) fa0)))
theorem hr1x0 : ((rowsOf 1).take 40).all (rowOne FL ML KI KJ ATL WF 21 7 bt own ini 1) = true := by decide +kernel
theorem hr1x1 : ((rowsOf 1).drop 40).all (rowOne FL ML KI KJ ATL WF 21 7 bt own ini 1) = true := by decide +kernel
theorem hr1 : (rowsOf 1).all (rowOne FL ML KI KJ ATL WF 21 7 bt own ini 1) = true := (all_td 40 hr1x0 hr1x1)
theorem hr2 : (rowsOf 2).all (rowOne FL ML KI KJ ATL WF 21 7 bt own ini 2) = true := by decide +kernel
theorem hr3 : (rowsOf 3).all (rowOne FL ML KI KJ ATL WF 21 7 bt own ini 3) = true := by decide +kernel
theorem hr4 : (rowsOf 4).all (rowOne FL ML KI KJ ATL WF 21 7 bt own ini 4) = true := by decide +kernel
theorem hr5 : (rowsOf 5).all (rowOne FL ML KI KJ ATL WF 21 7 bt own ini 5) = true := by decide +kernel
theorem hr6 : (rowsOf 6).all (rowOne FL ML KI KJ ATL WF 21 7 bt own ini 6) = true := by decide +kernel
theorem hr7 : (rowsOf 7).all (rowOne FL ML KI KJ ATL WF 21 7 bt own ini 7) = true := by decide +kernel
theorem hr8 : (rowsOf 8).all (rowOne FL ML KI KJ ATL WF 21 7 bt own ini 8) = true := by decide +kernel
theorem hr9 : (rowsOf 9).all (rowOne FL ML KI KJ ATL WF 21 7 bt own ini 9) = true := by decide +kernel
theorem hr10 : (rowsOf 10).all (rowOne FL ML KI KJ ATL WF 21 7 bt own ini 10) = true := by decide +kernel
theorem hr11 : (rowsOf 11).all (rowOne FL ML KI KJ ATL WF 21 7 bt own ini 11) = true := by decide +kernel
theorem hr12x0 : ((rowsOf 12).take 40).all (rowOne FL ML KI KJ ATL WF 21 7 bt own ini 12) = true := by decide +kernel
theorem hr12x1 : (((rowsOf 12).drop 40).take 40).all (rowOne FL ML KI KJ ATL WF 21 7 bt own ini 12) = true := by decide +kernel
theorem hr12x2 : (((rowsOf 12).drop 40).drop 40).all (rowOne FL ML KI KJ ATL WF 21 7 bt own ini 12) = true := by decide +kernel
theorem hr12 : (rowsOf 12).all (rowOne FL ML KI KJ ATL WF 21 7 bt own ini 12) = true := (all_td 40 hr12x0 (all_td 40 hr12x1 hr12x2))
theorem hr13 : (rowsOf 13).all (rowOne FL ML KI KJ ATL WF 21 7 bt own ini 13) = true := by decide +kernel
theorem hr14x0 : ((rowsOf 14).take 40).all (rowOne FL ML KI KJ ATL WF 21 7 bt own ini 14) = true := by decide +kernel
theorem hr14x1 : (((rowsOf 14).drop 40).take 40).all (rowOne FL ML KI KJ ATL WF 21 7 bt own ini 14) = true := by decide +kernel
theorem hr14x2 : (((rowsOf 14).drop 40).drop 40).all (rowOne FL ML KI KJ ATL WF 21 7 bt own ini 14) = true := by decide +kernel
theorem hr14 : (rowsOf 14).all (rowOne FL ML KI KJ ATL WF 21 7 bt own ini 14) = true := (all_td 40 hr14x0 (all_td 40 hr14x1 hr14x2))
theorem hr15 : (rowsOf 15).all (rowOne FL ML KI KJ ATL WF 21 7 bt own ini 15) = true := by decide +kernel
theorem hr16x0 : ((rowsOf 16).take 40).all (rowOne FL ML KI KJ ATL WF 21 7 bt own ini 16) = true := by decide +kernel
theorem hr16x1 : ((rowsOf 16).drop 40).all (rowOne FL ML KI KJ ATL WF 21 7 bt own ini 16) = true := by decide +kernel
theorem hr16 : (rowsOf 16).all (rowOne FL ML KI KJ ATL WF 21 7 bt own ini 16) = true := (all_td 40 hr16x0 hr16x1)
theorem hr17x0 : ((rowsOf 17).take 40).all (rowOne FL ML KI KJ ATL WF 21 7 bt own ini 17) = true := by decide +kernel
theorem hr17x1 : ((rowsOf 17).drop 40).all (rowOne FL ML KI KJ ATL WF 21 7 bt own ini 17) = true := by decide +kernel
theorem hr17 : (rowsOf 17).all (rowOne FL ML KI KJ ATL WF 21 7 bt own ini 17) = true := (all_td 40 hr17x0 hr17x1)
theorem hr18 : (rowsOf 18).all (rowOne FL ML KI KJ ATL WF 21 7 bt own ini 18) = true := by decide +kernel
theorem hr19x0 : ((rowsOf 19).take 40).all (rowOne FL ML KI KJ ATL WF 21 7 bt own ini 19) = true := by decide +kernel
theorem hr19x1 : ((rowsOf 19).drop 40).all (rowOne FL ML KI KJ ATL WF 21 7 bt own ini 19) = true := by decide +kernel
theorem hr19 : (rowsOf 19).all (rowOne FL ML KI KJ ATL WF 21 7 bt own ini 19) = true := (all_td 40 hr19x0 hr19x1)
theorem hr20x0 : ((rowsOf 20).take 40).all (rowOne FL ML KI KJ ATL WF 21 7 bt own ini 20) = true := by decide +kernel
theorem hr20x1 : (((rowsOf 20).drop 40).take 40).all (rowOne FL ML KI KJ ATL WF 21 7 bt own ini 20) = true := by decide +kernel
theorem hr20x2 : (((rowsOf 20).drop 40).drop 40).all (rowOne FL ML KI KJ ATL WF 21 7 bt own ini 20) = true := by decide +kernel
theorem hr20 : (rowsOf 20).all (rowOne FL ML KI KJ ATL WF 21 7 bt own ini 20) = true := (all_td 40 hr20x0 (all_td 40 hr20x1 hr20x2))
theorem hr21x0 : ((rowsOf 21).take 40).all (rowOne FL ML KI KJ ATL WF 21 7 bt own ini 21) = true := by decide +kernel
theorem hr21x1 : (((rowsOf 21).drop 40).take 40).all (rowOne FL ML KI KJ ATL WF 21 7 bt own ini 21) = true := by decide +kernel
theorem hr21x2 : ((((rowsOf 21).drop 40).drop 40).take 40).all (rowOne FL ML KI KJ ATL WF 21 7 bt own ini 21) = true := by decide +kernel
theorem hr21x3 : ((((rowsOf 21).drop 40).drop 40).drop 40).all (rowOne FL ML KI KJ ATL WF 21 7 bt own ini 21) = true := by decide +kernel
theorem hr21 : (rowsOf 21).all (rowOne FL ML KI KJ ATL WF 21 7 bt own ini 21) = true := (all_td 40 hr21x0 (all_td 40 hr21x1 (all_td 40 hr21x2 hr21x3)))
theorem hr22 : (rowsOf 22).all (rowOne FL ML KI KJ ATL WF 21 7 bt own ini 22) = true := by decide +kernel
theorem hr23 : (rowsOf 23).all (rowOne FL ML KI KJ ATL WF 21 7 bt own ini 23) = true := by decide +kernel
theorem hr24 : (rowsOf 24).all (rowOne FL ML KI KJ ATL WF 21 7 bt own ini 24) = true := by decide +kernel
theorem hr25 : (rowsOf 25).all (rowOne FL ML KI KJ ATL WF 21 7 bt own ini 25) = true := by decide +kernel
theorem hr26 : (rowsOf 26).all (rowOne FL ML KI KJ ATL WF 21 7 bt own ini 26) = true := by decide +kernel
theorem hr27 : (rowsOf 27).all (rowOne FL ML KI KJ ATL WF 21 7 bt own ini 27) = true := by decide +kernel
theorem hr28 : (rowsOf 28).all (rowOne FL ML KI KJ ATL WF 21 7 bt own ini 28) = true := by decide +kernel
theorem hr29 : (rowsOf 29).all (rowOne FL ML KI KJ ATL WF 21 7 bt own ini 29) = true := by decide +kernel
theorem hr100x0 : ((rowsOf 100).take 40).all (rowOne FL ML KI KJ ATL WF 21 7 bt own ini 100) = true := by decide +kernel
theorem hr100x1 : (((rowsOf 100).drop 40).take 40).all (rowOne FL ML KI KJ ATL WF 21 7 bt own ini 100) = true := by decide +kernel
theorem hr100x2 : ((((rowsOf 100).drop 40).drop 40).take 40).all (rowOne FL ML KI KJ ATL WF 21 7 bt own ini 100) = true := by decide +kernel
theorem hr100x3 : (((((rowsOf 100).drop 40).drop 40).drop 40).take 40).all (rowOne FL ML KI KJ ATL WF 21 7 bt own ini 100) = true := by decide +kernel
theorem hr100x4 : ((((((rowsOf 100).drop 40).drop 40).drop 40).drop 40).take 40).all (rowOne FL ML KI KJ ATL WF 21 7 bt own ini 100) = true := by decide +kernel
theorem hr100x5 : (((((((rowsOf 100).drop 40).drop 40).drop 40).drop 40).drop 40).take 40).all (rowOne FL ML KI KJ ATL WF 21 7 bt own ini 100) = true := by decide +kernel
theorem hr100x6 : (((((((rowsOf 100).drop 40).drop 40).drop 40).drop 40).drop 40).drop 40).all (rowOne FL ML KI KJ ATL WF 21 7 bt own ini 100) = true := by decide +kernel
theorem hr100 : (rowsOf 100).all (rowOne FL ML KI KJ ATL WF 21 7 bt own ini 100) = true := (all_td 40 hr100x0 (all_td 40 hr100x1 (all_td 40 hr100x2 (all_td 40 hr100x3 (all_td 40 hr100x4 (all_td 40 hr100x5 hr100x6))))))
theorem hr103x0 : ((rowsOf 103).take 40).all (rowOne FL ML KI KJ ATL WF 21 7 bt own ini 103) = true := by decide +kernel
theorem hr103x1 : (((rowsOf 103).drop 40).take 40).all (rowOne FL ML KI KJ ATL WF 21 7 bt own ini 103) = true := by decide +kernel
theorem hr103x2 : ((((rowsOf 103).drop 40).drop 40).take 40).all (rowOne FL ML KI KJ ATL WF 21 7 bt own ini 103) = true := by decide +kernel
theorem hr103x3 : (((((rowsOf 103).drop 40).drop 40).drop 40).take 40).all (rowOne FL ML KI KJ ATL WF 21 7 bt own ini 103) = true := by decide +kernel
theorem hr103x4 : (((((rowsOf 103).drop 40).drop 40).drop 40).drop 40).all (rowOne FL ML KI KJ ATL WF 21 7 bt own ini 103) = true := by decide +kernel
theorem hr103 : (rowsOf 103).all (rowOne FL ML KI KJ ATL WF 21 7 bt own ini 103) = true := (all_td 40 hr103x0 (all_td 40 hr103x1 (all_td 40 hr103x2 (all_td 40 hr103x3 hr103x4))))
theorem hr104x0 : ((rowsOf 104).take 40).all (rowOne FL ML KI KJ ATL WF 21 7 bt own ini 104) = true := by decide +kernel
theorem hr104x1 : (((rowsOf 104).drop 40).take 40).all (rowOne FL ML KI KJ ATL WF 21 7 bt own ini 104) = true := by decide +kernel
theorem hr104x2 : (((rowsOf 104).drop 40).drop 40).all (rowOne FL ML KI KJ ATL WF 21 7 bt own ini 104) = true := by decide +kernel
theorem hr104 : (rowsOf 104).all (rowOne FL ML KI KJ ATL WF 21 7 bt own ini 104) = true := (all_td 40 hr104x0 (all_td 40 hr104x1 hr104x2))
theorem hr105 : (rowsOf 105).all (rowOne FL ML KI KJ ATL WF 21 7 bt own ini 105) = true := by decide +kernel
theorem hr106 : (rowsOf 106).all (rowOne FL ML KI KJ ATL WF 21 7 bt own ini 106) = true := by decide +kernel
theorem hr107 : (rowsOf 107).all (rowOne FL ML KI KJ ATL WF 21 7 bt own ini 107) = true := by decide +kernel
theorem hr108 : (rowsOf 108).all (rowOne FL ML KI KJ ATL WF 21 7 bt own ini 108) = true := by decide +kernel
theorem hrows : RL.all (fun m => (rowsOf m).all (rowOne FL ML KI KJ ATL WF 21 7 bt own ini m)) = true := (all_c hr1 (all_c hr2 (all_c hr3 (all_c hr4 (all_c hr5 (all_c hr6 (all_c hr7 (all_c hr8 (all_c hr9 (all_c hr10 (all_c hr11 (all_c hr12 (all_c hr13 (all_c hr14 (all_c hr15 (all_c hr16 (all_c hr17 (all_c hr18 (all_c hr19 (all_c hr20 (all_c hr21 (all_c hr22 (all_c hr23 (all_c hr24 (all_c hr25 (all_c hr26 (all_c hr27 (all_c hr28 (all_c hr29 (all_c hr100 (all_c hr103 (all_c hr104 (all_c hr105 (all_c hr106 (all_c hr107 (all_c hr108 all_n))))))))))))))))))))))))))))))))))))
theorem cal1 : CalOk (pj lw) tables_1 "MeanCycleCert" nm bt 1 := ⟨(List.mem_of_getElem? (i := 5) rfl), (List.mem_of_getElem? (i := 2) rfl), ⟨[.int], none, by decide +kernel, rfl⟩, fun h => absurd h (by decide), fun _ => ⟨rfl, (List.mem_of_getElem? (i := 4) rfl)⟩, fun h => absurd h (by decide), fun h => absurd h (by decide), fun _ => ⟨rfl, rfl⟩⟩
theorem cal2 : CalOk (pj lw) tables_1 "MeanCycleCert" nm bt 2 := ⟨(List.mem_of_getElem? (i := 97) rfl), (List.mem_of_getElem? (i := 2) rfl), ⟨[.int], some .boolean, by decide +kernel, rfl⟩, fun h => absurd h (by decide), fun _ => ⟨rfl, (List.mem_of_getElem? (i := 95) rfl)⟩, fun h => absurd h (by decide), fun _ => (List.mem_of_getElem? (i := 96) rfl), fun h => absurd h (by decide)⟩
theorem cal3 : CalOk (pj lw) tables_1 "MeanCycleCert" nm bt 3 := ⟨(List.mem_of_getElem? (i := 150) rfl), (List.mem_of_getElem? (i := 2) rfl), ⟨[.int], some .boolean, by decide +kernel, rfl⟩, fun h => absurd h (by decide), fun _ => ⟨rfl, (List.mem_of_getElem? (i := 148) rfl)⟩, fun h => absurd h (by decide), fun _ => (List.mem_of_getElem? (i := 149) rfl), fun h => absurd h (by decide)⟩
theorem cal4 : CalOk (pj lw) tables_1 "MeanCycleCert" nm bt 4 := ⟨(List.mem_of_getElem? (i := 154) rfl), (List.mem_of_getElem? (i := 2) rfl), ⟨[], none, by decide +kernel, rfl⟩, fun h => absurd h (by decide), fun _ => ⟨rfl, (List.mem_of_getElem? (i := 152) rfl)⟩, fun h => absurd h (by decide), fun _ => (List.mem_of_getElem? (i := 153) rfl), fun h => absurd h (by decide)⟩
theorem cal5 : CalOk (pj lw) tables_1 "MeanCycleCert" nm bt 5 := ⟨(List.mem_of_getElem? (i := 146) rfl), (List.mem_of_getElem? (i := 2) rfl), ⟨[.int, .int, .int], some .int, by decide +kernel, rfl⟩, fun h => absurd h (by decide), fun _ => ⟨rfl, (List.mem_of_getElem? (i := 144) rfl)⟩, fun _ => ⟨(List.mem_of_getElem? (i := 143) rfl), (List.mem_of_getElem? (i := 145) rfl)⟩, fun h => absurd h (by decide), fun h => absurd h (by decide)⟩
theorem cal6 : CalOk (pj lw) tables_1 "MeanCycleCert" nm bt 6 := ⟨(List.mem_of_getElem? (i := 141) rfl), (List.mem_of_getElem? (i := 2) rfl), ⟨[.int, .int], some .int, by decide +kernel, rfl⟩, fun h => absurd h (by decide), fun _ => ⟨rfl, (List.mem_of_getElem? (i := 139) rfl)⟩, fun _ => ⟨(List.mem_of_getElem? (i := 138) rfl), (List.mem_of_getElem? (i := 140) rfl)⟩, fun h => absurd h (by decide), fun h => absurd h (by decide)⟩
theorem cal7 : CalOk (pj lw) tables_1 "MeanCycleCert" nm bt 7 := ⟨(List.mem_of_getElem? (i := 205) rfl), (List.mem_of_getElem? (i := 2) rfl), ⟨[.int, .int, .int], some .int, by decide +kernel, rfl⟩, fun h => absurd h (by decide), fun _ => ⟨rfl, (List.mem_of_getElem? (i := 203) rfl)⟩, fun _ => ⟨(List.mem_of_getElem? (i := 202) rfl), (List.mem_of_getElem? (i := 204) rfl)⟩, fun h => absurd h (by decide), fun h => absurd h (by decide)⟩
theorem cal8 : CalOk (pj lw) tables_1 "MeanCycleCert" nm bt 8 := ⟨(List.mem_of_getElem? (i := 93) rfl), (List.mem_of_getElem? (i := 2) rfl), ⟨[.int, .int], some .boolean, by decide +kernel, rfl⟩, fun h => absurd h (by decide), fun _ => ⟨rfl, (List.mem_of_getElem? (i := 91) rfl)⟩, fun _ => ⟨(List.mem_of_getElem? (i := 90) rfl), (List.mem_of_getElem? (i := 92) rfl)⟩, fun h => absurd h (by decide), fun h => absurd h (by decide)⟩
theorem cal9 : CalOk (pj lw) tables_1 "MeanCycleCert" nm bt 9 := ⟨(List.mem_of_getElem? (i := 102) rfl), (List.mem_of_getElem? (i := 2) rfl), ⟨[.int, .int], some .int, by decide +kernel, rfl⟩, fun h => absurd h (by decide), fun _ => ⟨rfl, (List.mem_of_getElem? (i := 100) rfl)⟩, fun _ => ⟨(List.mem_of_getElem? (i := 99) rfl), (List.mem_of_getElem? (i := 101) rfl)⟩, fun h => absurd h (by decide), fun h => absurd h (by decide)⟩
theorem cal10 : CalOk (pj lw) tables_1 "MeanCycleCert" nm bt 10 := ⟨(List.mem_of_getElem? (i := 50) rfl), (List.mem_of_getElem? (i := 2) rfl), ⟨[], some .int, by decide +kernel, rfl⟩, fun h => absurd h (by decide), fun _ => ⟨rfl, (List.mem_of_getElem? (i := 48) rfl)⟩, fun _ => ⟨(List.mem_of_getElem? (i := 47) rfl), (List.mem_of_getElem? (i := 49) rfl)⟩, fun h => absurd h (by decide), fun h => absurd h (by decide)⟩
theorem cal11 : CalOk (pj lw) tables_1 "MeanCycleCert" nm bt 11 := ⟨(List.mem_of_getElem? (i := 41) rfl), (List.mem_of_getElem? (i := 2) rfl), ⟨[], some .int, by decide +kernel, rfl⟩, fun h => absurd h (by decide), fun _ => ⟨rfl, (List.mem_of_getElem? (i := 39) rfl)⟩, fun _ => ⟨(List.mem_of_getElem? (i := 38) rfl), (List.mem_of_getElem? (i := 40) rfl)⟩, fun h => absurd h (by decide), fun h => absurd h (by decide)⟩
theorem cal12 : CalOk (pj lw) tables_1 "MeanCycleCert" nm bt 12 := ⟨(List.mem_of_getElem? (i := 116) rfl), (List.mem_of_getElem? (i := 2) rfl), ⟨[], some .int, by decide +kernel, rfl⟩, fun h => absurd h (by decide), fun _ => ⟨rfl, (List.mem_of_getElem? (i := 114) rfl)⟩, fun _ => ⟨(List.mem_of_getElem? (i := 113) rfl), (List.mem_of_getElem? (i := 115) rfl)⟩, fun h => absurd h (by decide), fun h => absurd h (by decide)⟩
theorem cal13 : CalOk (pj lw) tables_1 "MeanCycleCert" nm bt 13 := ⟨(List.mem_of_getElem? (i := 120) rfl), (List.mem_of_getElem? (i := 2) rfl), ⟨[], none, by decide +kernel, rfl⟩, fun h => absurd h (by decide), fun _ => ⟨rfl, (List.mem_of_getElem? (i := 118) rfl)⟩, fun h => absurd h (by decide), fun _ => (List.mem_of_getElem? (i := 119) rfl), fun h => absurd h (by decide)⟩
theorem cal14 : CalOk (pj lw) tables_1 "MeanCycleCert" nm bt 14 := ⟨(List.mem_of_getElem? (i := 130) rfl), (List.mem_of_getElem? (i := 2) rfl), ⟨[], some .boolean, by decide +kernel, rfl⟩, fun h => absurd h (by decide), fun _ => ⟨rfl, (List.mem_of_getElem? (i := 128) rfl)⟩, fun h => absurd h (by decide), fun _ => (List.mem_of_getElem? (i := 129) rfl), fun h => absurd h (by decide)⟩
theorem cal15 : CalOk (pj lw) tables_1 "MeanCycleCert" nm bt 15 := ⟨(List.mem_of_getElem? (i := 165) rfl), (List.mem_of_getElem? (i := 2) rfl), ⟨[.int, .int], none, by decide +kernel, rfl⟩, fun h => absurd h (by decide), fun _ => ⟨rfl, (List.mem_of_getElem? (i := 163) rfl)⟩, fun h => absurd h (by decide), fun _ => (List.mem_of_getElem? (i := 164) rfl), fun h => absurd h (by decide)⟩
theorem cal16 : CalOk (pj lw) tables_1 "MeanCycleCert" nm bt 16 := ⟨(List.mem_of_getElem? (i := 169) rfl), (List.mem_of_getElem? (i := 2) rfl), ⟨[.int], none, by decide +kernel, rfl⟩, fun h => absurd h (by decide), fun _ => ⟨rfl, (List.mem_of_getElem? (i := 167) rfl)⟩, fun h => absurd h (by decide), fun _ => (List.mem_of_getElem? (i := 168) rfl), fun h => absurd h (by decide)⟩
theorem cal17 : CalOk (pj lw) tables_1 "MeanCycleCert" nm bt 17 := ⟨(List.mem_of_getElem? (i := 181) rfl), (List.mem_of_getElem? (i := 2) rfl), ⟨[.long, .long], none, by decide +kernel, rfl⟩, fun h => absurd h (by decide), fun _ => ⟨rfl, (List.mem_of_getElem? (i := 179) rfl)⟩, fun h => absurd h (by decide), fun _ => (List.mem_of_getElem? (i := 180) rfl), fun h => absurd h (by decide)⟩
theorem cal18 : CalOk (pj lw) tables_1 "MeanCycleCert" nm bt 18 := ⟨(List.mem_of_getElem? (i := 185) rfl), (List.mem_of_getElem? (i := 2) rfl), ⟨[.long, .long], none, by decide +kernel, rfl⟩, fun h => absurd h (by decide), fun _ => ⟨rfl, (List.mem_of_getElem? (i := 183) rfl)⟩, fun h => absurd h (by decide), fun _ => (List.mem_of_getElem? (i := 184) rfl), fun h => absurd h (by decide)⟩
theorem cal19 : CalOk (pj lw) tables_1 "MeanCycleCert" nm bt 19 := ⟨(List.mem_of_getElem? (i := 189) rfl), (List.mem_of_getElem? (i := 2) rfl), ⟨[], none, by decide +kernel, rfl⟩, fun h => absurd h (by decide), fun _ => ⟨rfl, (List.mem_of_getElem? (i := 187) rfl)⟩, fun h => absurd h (by decide), fun _ => (List.mem_of_getElem? (i := 188) rfl), fun h => absurd h (by decide)⟩
theorem cal20 : CalOk (pj lw) tables_1 "MeanCycleCert" nm bt 20 := ⟨(List.mem_of_getElem? (i := 193) rfl), (List.mem_of_getElem? (i := 2) rfl), ⟨[.int], none, by decide +kernel, rfl⟩, fun h => absurd h (by decide), fun _ => ⟨rfl, (List.mem_of_getElem? (i := 191) rfl)⟩, fun h => absurd h (by decide), fun _ => (List.mem_of_getElem? (i := 192) rfl), fun h => absurd h (by decide)⟩
theorem cal21 : CalOk (pj lw) tables_1 "MeanCycleCert" nm bt 21 := ⟨(List.mem_of_getElem? (i := 197) rfl), (List.mem_of_getElem? (i := 2) rfl), ⟨[.int], none, by decide +kernel, rfl⟩, fun h => absurd h (by decide), fun _ => ⟨rfl, (List.mem_of_getElem? (i := 195) rfl)⟩, fun h => absurd h (by decide), fun _ => (List.mem_of_getElem? (i := 196) rfl), fun h => absurd h (by decide)⟩
theorem cal22 : CalOk (pj lw) tables_1 "MeanCycleCert" nm bt 22 := ⟨(List.mem_of_getElem? (i := 57) rfl), (List.mem_of_getElem? (i := 2) rfl), ⟨[], some .boolean, by decide +kernel, rfl⟩, fun h => absurd h (by decide), fun _ => ⟨rfl, (List.mem_of_getElem? (i := 55) rfl)⟩, fun _ => ⟨(List.mem_of_getElem? (i := 54) rfl), (List.mem_of_getElem? (i := 56) rfl)⟩, fun h => absurd h (by decide), fun h => absurd h (by decide)⟩
theorem cal23 : CalOk (pj lw) tables_1 "MeanCycleCert" nm bt 23 := ⟨(List.mem_of_getElem? (i := 68) rfl), (List.mem_of_getElem? (i := 2) rfl), ⟨[], some .boolean, by decide +kernel, rfl⟩, fun h => absurd h (by decide), fun _ => ⟨rfl, (List.mem_of_getElem? (i := 66) rfl)⟩, fun h => absurd h (by decide), fun _ => (List.mem_of_getElem? (i := 67) rfl), fun h => absurd h (by decide)⟩
theorem cal24 : CalOk (pj lw) tables_1 "MeanCycleCert" nm bt 24 := ⟨(List.mem_of_getElem? (i := 64) rfl), (List.mem_of_getElem? (i := 2) rfl), ⟨[], some .int, by decide +kernel, rfl⟩, fun h => absurd h (by decide), fun _ => ⟨rfl, (List.mem_of_getElem? (i := 62) rfl)⟩, fun _ => ⟨(List.mem_of_getElem? (i := 61) rfl), (List.mem_of_getElem? (i := 63) rfl)⟩, fun h => absurd h (by decide), fun h => absurd h (by decide)⟩
theorem cal25 : CalOk (pj lw) tables_1 "MeanCycleCert" nm bt 25 := ⟨(List.mem_of_getElem? (i := 73) rfl), (List.mem_of_getElem? (i := 2) rfl), ⟨[], some .long, by decide +kernel, rfl⟩, fun h => absurd h (by decide), fun _ => ⟨rfl, (List.mem_of_getElem? (i := 71) rfl)⟩, fun _ => ⟨(List.mem_of_getElem? (i := 70) rfl), (List.mem_of_getElem? (i := 72) rfl)⟩, fun h => absurd h (by decide), fun h => absurd h (by decide)⟩
theorem cal26 : CalOk (pj lw) tables_1 "MeanCycleCert" nm bt 26 := ⟨(List.mem_of_getElem? (i := 78) rfl), (List.mem_of_getElem? (i := 2) rfl), ⟨[.int], some .int, by decide +kernel, rfl⟩, fun h => absurd h (by decide), fun _ => ⟨rfl, (List.mem_of_getElem? (i := 76) rfl)⟩, fun _ => ⟨(List.mem_of_getElem? (i := 75) rfl), (List.mem_of_getElem? (i := 77) rfl)⟩, fun h => absurd h (by decide), fun h => absurd h (by decide)⟩
theorem cal27 : CalOk (pj lw) tables_1 "MeanCycleCert" nm bt 27 := ⟨(List.mem_of_getElem? (i := 88) rfl), (List.mem_of_getElem? (i := 2) rfl), ⟨[.int], some .boolean, by decide +kernel, rfl⟩, fun h => absurd h (by decide), fun _ => ⟨rfl, (List.mem_of_getElem? (i := 86) rfl)⟩, fun _ => ⟨(List.mem_of_getElem? (i := 85) rfl), (List.mem_of_getElem? (i := 87) rfl)⟩, fun h => absurd h (by decide), fun h => absurd h (by decide)⟩
theorem cal28 : CalOk (pj lw) tables_1 "MeanCycleCert" nm bt 28 := ⟨(List.mem_of_getElem? (i := 83) rfl), (List.mem_of_getElem? (i := 2) rfl), ⟨[.int], some .long, by decide +kernel, rfl⟩, fun h => absurd h (by decide), fun _ => ⟨rfl, (List.mem_of_getElem? (i := 81) rfl)⟩, fun _ => ⟨(List.mem_of_getElem? (i := 80) rfl), (List.mem_of_getElem? (i := 82) rfl)⟩, fun h => absurd h (by decide), fun h => absurd h (by decide)⟩
theorem cal29 : CalOk (pj lw) tables_1 "MeanCycleCert" nm bt 29 := ⟨(List.mem_of_getElem? (i := 108) rfl), (List.mem_of_getElem? (i := 2) rfl), ⟨[.int, .int], some .long, by decide +kernel, rfl⟩, fun h => absurd h (by decide), fun _ => ⟨rfl, (List.mem_of_getElem? (i := 106) rfl)⟩, fun _ => ⟨(List.mem_of_getElem? (i := 105) rfl), (List.mem_of_getElem? (i := 107) rfl)⟩, fun h => absurd h (by decide), fun h => absurd h (by decide)⟩
theorem cal103 : CalOk (pj lw) tables_1 "MeanCycleCert" nm bt 103 := ⟨(List.mem_of_getElem? (i := 45) rfl), (List.mem_of_getElem? (i := 44) rfl), ⟨[.object "MeanCycleCert", .int, .long, .int, .boolean, .boolean], some .boolean, by decide +kernel, rfl⟩, fun _ => (List.mem_of_getElem? (i := 43) rfl), fun h => absurd rfl h, fun h => absurd h (by decide), fun h => absurd h (by decide), fun h => absurd h (by decide)⟩
theorem cal104 : CalOk (pj lw) tables_1 "MeanCycleCert" nm bt 104 := ⟨(List.mem_of_getElem? (i := 200) rfl), (List.mem_of_getElem? (i := 44) rfl), ⟨[.object "MeanCycleCert", .int, .long, .int, .long], some .boolean, by decide +kernel, rfl⟩, fun _ => (List.mem_of_getElem? (i := 199) rfl), fun h => absurd rfl h, fun h => absurd h (by decide), fun h => absurd h (by decide), fun h => absurd h (by decide)⟩
theorem cal105 : CalOk (pj lw) tables_1 "MeanCycleCert" nm bt 105 := ⟨(List.mem_of_getElem? (i := 161) rfl), (List.mem_of_getElem? (i := 44) rfl), ⟨[.long, .int], some .int, by decide +kernel, rfl⟩, fun _ => (List.mem_of_getElem? (i := 160) rfl), fun h => absurd rfl h, fun h => absurd h (by decide), fun h => absurd h (by decide), fun h => absurd h (by decide)⟩
theorem cal106 : CalOk (pj lw) tables_1 "MeanCycleCert" nm bt 106 := ⟨(List.mem_of_getElem? (i := 157) rfl), (List.mem_of_getElem? (i := 44) rfl), ⟨[.long, .int, .int], some .long, by decide +kernel, rfl⟩, fun _ => (List.mem_of_getElem? (i := 156) rfl), fun h => absurd rfl h, fun h => absurd h (by decide), fun h => absurd h (by decide), fun h => absurd h (by decide)⟩
theorem cal107 : CalOk (pj lw) tables_1 "MeanCycleCert" nm bt 107 := ⟨(List.mem_of_getElem? (i := 136) rfl), (List.mem_of_getElem? (i := 44) rfl), ⟨[.int, .int], some .int, by decide +kernel, rfl⟩, fun _ => (List.mem_of_getElem? (i := 135) rfl), fun h => absurd rfl h, fun h => absurd h (by decide), fun h => absurd h (by decide), fun h => absurd h (by decide)⟩
theorem cal108 : CalOk (pj lw) tables_1 "MeanCycleCert" nm bt 108 := ⟨(List.mem_of_getElem? (i := 133) rfl), (List.mem_of_getElem? (i := 44) rfl), ⟨[.int], some .boolean, by decide +kernel, rfl⟩, fun _ => (List.mem_of_getElem? (i := 132) rfl), fun h => absurd rfl h, fun h => absurd h (by decide), fun h => absurd h (by decide), fun h => absurd h (by decide)⟩
theorem hcal : ∀ m ∈ RL, m ≠ 100 → CalOk (pj lw) tables_1 "MeanCycleCert" nm bt m := (faS (fun _ => cal1) (faS (fun _ => cal2) (faS (fun _ => cal3) (faS (fun _ => cal4) (faS (fun _ => cal5) (faS (fun _ => cal6) (faS (fun _ => cal7) (faS (fun _ => cal8) (faS (fun _ => cal9) (faS (fun _ => cal10) (faS (fun _ => cal11) (faS (fun _ => cal12) (faS (fun _ => cal13) (faS (fun _ => cal14) (faS (fun _ => cal15) (faS (fun _ => cal16) (faS (fun _ => cal17) (faS (fun _ => cal18) (faS (fun _ => cal19) (faS (fun _ => cal20) (faS (fun _ => cal21) (faS (fun _ => cal22) (faS (fun _ => cal23) (faS (fun _ => cal24) (faS (fun _ => cal25) (faS (fun _ => cal26) (faS (fun _ => cal27) (faS (fun _ => cal28) (faS (fun _ => cal29) (faS (fun h => absurd rfl h) (faS (fun _ => cal103) (faS (fun _ => cal104) (faS (fun _ => cal105) (faS (fun _ => cal106) (faS (fun _ => cal107) (faS (fun _ => cal108) fa0))))))))))))))))))))))))))))))))))))
theorem hfld : ∀ k ∈ FS, parseFieldDescriptor (fn k).2 = some ((pj lw).2.2.1 k) ∧ (Jvm.Cond.lays "MeanCycleCert" "MeanCycleCert" (fn k).1 (fn k).2 ∈ tables_1 ∨ Jvm.Cond.laysFinal "MeanCycleCert" "MeanCycleCert" (fn k).1 (fn k).2 ∈ tables_1) := (faS ⟨by decide +kernel, Or.inl (List.mem_of_getElem? (i := 36) rfl)⟩ (faS ⟨by decide +kernel, Or.inl (List.mem_of_getElem? (i := 52) rfl)⟩ (faS ⟨by decide +kernel, Or.inl (List.mem_of_getElem? (i := 11) rfl)⟩ (faS ⟨by decide +kernel, Or.inl (List.mem_of_getElem? (i := 14) rfl)⟩ (faS ⟨by decide +kernel, Or.inl (List.mem_of_getElem? (i := 59) rfl)⟩ (faS ⟨by decide +kernel, Or.inl (List.mem_of_getElem? (i := 122) rfl)⟩ (faS ⟨by decide +kernel, Or.inl (List.mem_of_getElem? (i := 124) rfl)⟩ (faS ⟨by decide +kernel, Or.inl (List.mem_of_getElem? (i := 126) rfl)⟩ (faS ⟨by decide +kernel, Or.inl (List.mem_of_getElem? (i := 16) rfl)⟩ (faS ⟨by decide +kernel, Or.inl (List.mem_of_getElem? (i := 18) rfl)⟩ (faS ⟨by decide +kernel, Or.inl (List.mem_of_getElem? (i := 21) rfl)⟩ (faS ⟨by decide +kernel, Or.inl (List.mem_of_getElem? (i := 23) rfl)⟩ (faS ⟨by decide +kernel, Or.inl (List.mem_of_getElem? (i := 25) rfl)⟩ (faS ⟨by decide +kernel, Or.inl (List.mem_of_getElem? (i := 27) rfl)⟩ (faS ⟨by decide +kernel, Or.inl (List.mem_of_getElem? (i := 29) rfl)⟩ (faS ⟨by decide +kernel, Or.inl (List.mem_of_getElem? (i := 31) rfl)⟩ (faS ⟨by decide +kernel, Or.inl (List.mem_of_getElem? (i := 34) rfl)⟩ (faS ⟨by decide +kernel, Or.inl (List.mem_of_getElem? (i := 175) rfl)⟩ (faS ⟨by decide +kernel, Or.inl (List.mem_of_getElem? (i := 177) rfl)⟩ (faS ⟨by decide +kernel, Or.inl (List.mem_of_getElem? (i := 171) rfl)⟩ (faS ⟨by decide +kernel, Or.inl (List.mem_of_getElem? (i := 173) rfl)⟩ fa0)))))))))))))))))))))
theorem good : Good (pj lw) tables_1 "MeanCycleCert" fn FS 21 nm bt RL 100 := by
  refine ⟨(List.mem_of_getElem? (i := 1) rfl), (List.mem_of_getElem? (i := 2) rfl), hfld, by decide +kernel, fun m hm => ?_, hcal, fun m _ pc ins len aux _ _ => by cases ins <;> rfl⟩
  have hpl : plainName "MeanCycleCert" = true ∧ plainName "MeanCycleCertL6" = true := ⟨by first | (simp [plainName, overriddenIn]; done) | decide +kernel, by first | (simp [plainName, overriddenIn]; done) | decide +kernel⟩
  have hcn : ∀ m ∈ RL, (nm m).cls = cn (own m) := by decide +kernel
  have hin : ∀ m ∈ RL, ini m = true → (nm m).cls = "MeanCycleCert" ∧ (nm m).name = "<init>" := by decide +kernel
  have hor : (nm m).cls = "MeanCycleCert" ∨ (nm m).cls = "MeanCycleCertL6" := by rw [hcn m hm]; unfold cn; split <;> simp
  refine ⟨by rcases hor with h | h <;> rw [h] <;> simp [hpl], by rcases hor with h | h <;> rw [h] <;> decide, fun pc ins len aux h => ?_⟩
  have hmem : (pc, ins, len, aux) ∈ rowsOf m := by
    unfold rowsOf
    by_cases g : m < 100
    · rw [if_pos g]; exact lookup_mem (by simpa [pj, g] using h)
    · rw [if_neg g]; exact lookup_mem (by simpa [pj, lw, g] using h)
  have hrow := List.all_eq_true.mp (List.all_eq_true.mp hrows m hm) _ hmem
  simp only [rowOne, Bool.and_eq_true, decide_eq_true_eq] at hrow
  exact ⟨hrow.1.1, hrow.1.2, row_ok (hcn m hm) (hin m hm) hFL hWF hML hKI hKJ hAT (List.mem_of_getElem? (i := 0) rfl) ⟨(List.mem_of_getElem? (i := 6) rfl), (List.mem_of_getElem? (i := 7) rfl), (List.mem_of_getElem? (i := 8) rfl)⟩ hrow.2⟩
set_option maxRecDepth 65536 in
set_option maxHeartbeats 40000000 in
theorem comes_1 {Post : Tables → Env → Array Value → State → Outcome → State → Prop} (hpost : ∀ tb e args s v u, (limb_1_1.after args s (.returned v) u = true ∧ limb_1_2.after args s (.returned v) u = true ∧ True) → FrameEnd s (.returned v) u (Jvm.fieldLocs frame_1_writes args s ++ Jvm.arrayLocs frame_1_arrays args s ++ Jvm.staticLocs frame_1_statics s) 32 5056 → Post tb e args s (.returned v) u) :
    ArmFor flags0 classFile x code maxLocals ret World_1 tables_1 room_1 Calls_1 rest_1 Pre_1 Post := by
  intro l hfl _ _ p e ha hc hk s m args below hf hA hF happ hP
  obtain ⟨hcalls, hrest, hpre⟩ := hP
  obtain ⟨-, -, -, hnamed, -, -, -, hat⟩ := (Spec.applies_iff hf).mp happ
  obtain ⟨hg, hn⟩ := and_e (Cond.before_iff.mp (show (Jvm.Cond.and given_1 narrow_1).before args s = true from hpre))
  have hw := fun d (hd : d ∈ tables_1) => atoms_spec (ws := Jvm.Cond.code x code maxLocals ret :: tables_1) hat d (List.mem_cons_of_mem _ hd)
  obtain ⟨g0, r0⟩ := and_e hg
  obtain ⟨w0, rfl⟩ : ∃ w0 : Value, args = #[w0] := by
    have hs : args.size = 1 := by simpa [Cond.value, given_1] using g0
    obtain ⟨L⟩ := args
    match L, hs with
    | [w0], _ => exact ⟨w0, rfl⟩
  have hfit : Fit s := fun {y c} hc i hi => by
    obtain ⟨ha, rfl⟩ := Array.getElem?_eq_some_iff.mp hc
    have q := List.all_eq_true.mp ((Array.all_eq_true_iff_forall_mem.mp hF) _ (Array.getElem_mem ha)) i (List.mem_range.mpr hi)
    simpa [Array.getElem?_eq_getElem hi] using q
  obtain ⟨n1, n2⟩ := and_e (show (Jvm.Cond.and (Jvm.Cond.arrayOf (Jvm.Term.arg 0) .int) (Jvm.Cond.le (Jvm.Term.length (Jvm.Term.arg 0)) (Jvm.Term.int 260))).value #[w0] s none s [] = some true from hn)
  obtain ⟨a, ea⟩ := arr_v n1
  obtain rfl : w0 = .ref a := Option.some.inj ea
  obtain ⟨cl, A⟩ := Arr.start ea n1
  have hlen : cl.slots.size < 2 ^ 31 ∧ cl.slots.size ≤ 260 := by
    obtain ⟨x, y, h1, h2, -, -⟩ := cmp_v (Or.inr (Or.inr n2))
    have hA0 := A.fin (Vm.Alike.refl _)
    by_cases hs : cl.slots.size < 2 ^ 31
    · refine ⟨hs, ?_⟩
      have e1 := len_f (args := #[.ref a]) (first := s) (o := none) (idx := []) ea hA0 hs
      have e2 : (Term.int (260 : Int32)).eval #[.ref a] s none [] s = some (.int 260) := rfl
      simp only [Cond.value, e1, e2] at n2
      have n3 : cl.slots.size.toInt32 ≤ (260 : Int32) := by simpa using n2
      rw [Int32.le_iff_toInt_le, len_toInt hs] at n3
      have : ((260 : Int32)).toInt = 260 := by decide
      omega
    · exfalso; simp [Term.eval, hA0, hs, ea] at h1
  obtain ⟨f, hR⟩ := rel_H1 (C := "MeanCycleCert") (fn := fn) (F := FS) hfit A hlen.1
  obtain ⟨n, o, h1, h2, h3, _, L, rfl, ⟨N, H2, rfl⟩, hq⟩ := law_met (l := l) (Z := s) (a0 := _) (n0 := s.heap.size) good hw (as := [.ref a]) (h := s.heap) tables_1 (by decide) (by simp [Sym.laidSlots, Value.category]; decide) hR (law_ok s.heap.size a cl.slots.size f A.lt hlen.2) p e ha hc hk s m _ below hf ((Spec.applies_iff_loose hf).mp happ).1 ⟨rfl, State.Warmed39.refl s, rfl⟩ trivial
  exact ⟨n, _, h1, h2, h3, hpost _ _ _ _ _ _ ⟨Cond.after_iff.mpr rfl, Cond.after_iff.mpr (eq_i res_at (Term.int_eval (1)) rfl), trivial⟩ ⟨hq.1, hq.2.1, (hq.2.2.sift fun y hy => Or.inr (N y hy)).mono (by decide) (by decide)⟩⟩
theorem main_1_1 : Claimed_1_1 := comes_1 fun _ _ _ _ _ _ h hF => ⟨h.1, hF⟩
theorem main_1_2 : Claimed_1_2 := comes_1 fun _ _ _ _ _ _ h hF => ⟨h.2.1, hF⟩
end Jvm.Pilot.@@N@@
namespace Jvm.Pilot.@@N@@
open Jvm Jvm.ClassFile Sem Op Lib Jvm.Free Jvm.Stand Jvm.Pilot.@@N@@.Jvm.D
/-! MADE BY PROGRAM (witnessworld.py) out of the Statement's table words and the real class files: 13 classes; the members and pool entries that the words name. The judged class is class 1, her method 1. -/
namespace start1
open Jvm.ClassFile
def u (s : String) : CpInfo := .utf8 (stringToUtf16 s)
/-- a pool by its gaps: so many unusable entries, then the entry; so many at the end -/
def gap : Nat → List CpInfo → List CpInfo
  | 0, r => r
  | n + 1, r => .unusable :: gap n r
def poolList (es : List (Nat × CpInfo)) (last : Nat) : List CpInfo := es.foldr (fun e r => gap e.1 (e.2 :: r)) (gap last [])
def pool (es : List (Nat × CpInfo)) (last : Nat) : Array CpInfo := ⟨poolList es last⟩
def fileOf (pool : Array CpInfo) (this : Nat) (attrs : Array Attribute := #[]) (ms : Array MethodInfo := #[]) (fl : Nat := 33) (sup : Nat := 0) (ifs : Array Nat := #[]) (fds : Array FieldInfo := #[]) : ClassFile where
  minorVersion := 0
  majorVersion := 65
  constantPool := pool
  accessFlags := fl
  thisClass := this
  superClass := sup
  interfaces := ifs
  fields := fds
  methods := ms
  attributes := attrs
def plain (name : String) (sup : Option ClassId) : Class where
  name := name
  kind := .ordinary
  loader := none
  accessFlags := 33
  super := sup
  interfaces := #[]
  cf := none
  fields := #[]
  methods := #[]
  instanceTypes := #[]
  staticTypes := #[]
  resolved := #[]
  callSites := []
  init := .initialized
  statics := none
  mirror := none

def pool0 : Array CpInfo := pool [(5, u "<init>"), (0, u "()V"), (1, .class_ 10), (1, u "java/lang/Object")] 113

def k0c0 : Code := { maxStack := 0, maxLocals := 1, code := object_method_1_code, exceptionTable := #[], attributes := #[] }
def k0m0 : Method := { name := "<init>", desc := "()V", sig := { parameters := [], returnType := none }, accessFlags := 1, code := some k0c0 }
/-- java/lang/Object -/
def k0 : Class := { plain "java/lang/Object" none with
  accessFlags := 33
  interfaces := #[]
  cf := some (fileOf pool0 8 #[] #[{ accessFlags := 1, nameIndex := 5, descriptorIndex := 6, attributes := #[] }] 33 0 #[] #[])
  fields := #[]
  methods := #[k0m0]
  instanceTypes := #[]
  staticTypes := #[]
  resolved := Array.replicate 124 none
  statics := none }

def pool1 : Array CpInfo := pool [(2, .class_ 4), (1, u "java/lang/Object"), (0, u "<init>"), (0, u "()V"), (0, .class_ 8), (0, u "MeanCycleCert"), (0, .methodref 7 10), (0, .nameAndType 5 11), (0, u "(I)V"), (0, .methodref 7 13), (0, .nameAndType 14 15), (0, u "vertexCount"), (0, u "()I"), (0, .methodref 17 18), (0, .class_ 19), (0, .nameAndType 20 21), (0, u "MeanCycleCertL6"), (0, u "check"), (0, u "(LMeanCycleCert;IJIZZ)Z"), (0, .integer 2147483647), (0, .methodref 7 24), (0, .nameAndType 25 26), (0, u "addArc"), (0, u "(III)I"), (0, .methodref 7 28), (0, .nameAndType 29 30), (0, u "removeArc"), (0, u "(II)I"), (0, .methodref 7 32), (0, .nameAndType 33 26), (0, u "setWeight"), (0, .methodref 7 35), (0, .nameAndType 36 15), (0, u "solve"), (0, .methodref 17 38), (0, .nameAndType 39 40), (0, u "cyclic"), (0, u "(I)Z"), (0, .methodref 17 42), (0, .nameAndType 43 44), (0, u "setW"), (0, u "(JII)J"), (0, .methodref 7 46), (0, .nameAndType 47 15), (0, u "arcCount"), (0, .methodref 7 49), (0, .nameAndType 50 51), (0, u "hasResult"), (0, u "()Z"), (0, .methodref 7 53), (0, .nameAndType 54 15), (0, u "cycleLength"), (0, .methodref 7 56), (0, .nameAndType 57 58), (0, u "cycleWeight"), (0, u "()J"), (0, .methodref 7 60), (0, .nameAndType 61 62), (0, u "cycleVertex"), (0, u "(I)I"), (0, .methodref 7 64), (0, .nameAndType 65 66), (0, u "potential"), (0, u "(I)J"), (0, .methodref 7 68), (0, .nameAndType 69 40), (0, u "isCritical"), (0, .methodref 17 71), (0, .nameAndType 72 73), (0, u "getW"), (0, u "(JI)I"), (0, .methodref 7 75), (0, .nameAndType 76 77), (0, u "hasArc"), (0, u "(II)Z"), (0, .methodref 7 79), (0, .nameAndType 80 30), (0, u "getWeight"), (0, .methodref 7 82), (0, .nameAndType 83 84), (0, u "reducedCost"), (0, u "(II)J"), (0, .long 18446744073709551615), (1, .methodref 17 88), (0, .nameAndType 89 90), (0, u "witness"), (0, u "(LMeanCycleCert;IJIJ)Z"), (0, .long 15), (1, .methodref 17 94), (0, .nameAndType 95 30), (0, u "compose"), (2, u "law"), (0, u "([I)Z")] 5

def k1m0 : Method := { name := "<init>", desc := "()V", sig := { parameters := [], returnType := none }, accessFlags := 1, code := none }
def k1c1 : Code := { maxStack := 7, maxLocals := 19, code := code, exceptionTable := #[], attributes := #[] }
def k1m1 : Method := { name := "law", desc := "([I)Z", sig := { parameters := [(.array .int)], returnType := some .boolean }, accessFlags := 9, code := some k1c1 }
def k1c2 : Code := { maxStack := 7, maxLocals := 20, code := method_3_code, exceptionTable := #[], attributes := #[] }
def k1m2 : Method := { name := "check", desc := "(LMeanCycleCert;IJIZZ)Z", sig := { parameters := [(.object "MeanCycleCert"), .int, .long, .int, .boolean, .boolean], returnType := some .boolean }, accessFlags := 10, code := some k1c2 }
def k1c3 : Code := { maxStack := 6, maxLocals := 14, code := method_4_code, exceptionTable := #[], attributes := #[] }
def k1m3 : Method := { name := "witness", desc := "(LMeanCycleCert;IJIJ)Z", sig := { parameters := [(.object "MeanCycleCert"), .int, .long, .int, .long], returnType := some .boolean }, accessFlags := 10, code := some k1c3 }
def k1c4 : Code := { maxStack := 4, maxLocals := 3, code := method_5_code, exceptionTable := #[], attributes := #[] }
def k1m4 : Method := { name := "getW", desc := "(JI)I", sig := { parameters := [.long, .int], returnType := some .int }, accessFlags := 10, code := some k1c4 }
def k1c5 : Code := { maxStack := 6, maxLocals := 6, code := method_6_code, exceptionTable := #[], attributes := #[] }
def k1m5 : Method := { name := "setW", desc := "(JII)J", sig := { parameters := [.long, .int, .int], returnType := some .long }, accessFlags := 10, code := some k1c5 }
def k1c6 : Code := { maxStack := 4, maxLocals := 5, code := method_7_code, exceptionTable := #[], attributes := #[] }
def k1m6 : Method := { name := "compose", desc := "(II)I", sig := { parameters := [.int, .int], returnType := some .int }, accessFlags := 10, code := some k1c6 }
def k1c7 : Code := { maxStack := 3, maxLocals := 3, code := method_8_code, exceptionTable := #[], attributes := #[] }
def k1m7 : Method := { name := "cyclic", desc := "(I)Z", sig := { parameters := [.int], returnType := some .boolean }, accessFlags := 10, code := some k1c7 }
/-- MeanCycleCertL6 -/
def k1 : Class := { plain "MeanCycleCertL6" (some 0) with
  accessFlags := 33
  interfaces := #[]
  cf := some (fileOf pool1 17 #[] #[{ accessFlags := 1, nameIndex := 5, descriptorIndex := 6, attributes := #[] }, { accessFlags := 9, nameIndex := 98, descriptorIndex := 99, attributes := #[] }, { accessFlags := 10, nameIndex := 20, descriptorIndex := 21, attributes := #[] }, { accessFlags := 10, nameIndex := 89, descriptorIndex := 90, attributes := #[] }, { accessFlags := 10, nameIndex := 72, descriptorIndex := 73, attributes := #[] }, { accessFlags := 10, nameIndex := 43, descriptorIndex := 44, attributes := #[] }, { accessFlags := 10, nameIndex := 95, descriptorIndex := 30, attributes := #[] }, { accessFlags := 10, nameIndex := 39, descriptorIndex := 40, attributes := #[] }] 33 2 #[] #[])
  fields := #[]
  methods := #[k1m0, k1m1, k1m2, k1m3, k1m4, k1m5, k1m6, k1m7]
  instanceTypes := #[]
  staticTypes := #[]
  resolved := Array.replicate 105 none
  statics := none }

def pool2 : Array CpInfo := pool [(1, .methodref 2 3), (0, .class_ 4), (0, .nameAndType 5 6), (0, u "java/lang/Object"), (0, u "<init>"), (0, u "()V"), (0, .fieldref 8 9), (0, .class_ 10), (0, .nameAndType 11 12), (0, u "MeanCycleCert"), (0, u "has"), (0, u "[Z"), (0, .fieldref 8 14), (0, .nameAndType 15 16), (0, u "wt"), (0, u "[I"), (0, .fieldref 8 18), (0, .nameAndType 19 16), (0, u "seq"), (0, .fieldref 8 21), (0, .nameAndType 22 12), (0, u "crit"), (0, .fieldref 8 24), (0, .nameAndType 25 26), (0, u "pot"), (0, u "[J"), (0, .fieldref 8 28), (0, .nameAndType 29 26), (0, u "karp"), (0, .fieldref 8 31), (0, .nameAndType 32 12), (0, u "tight"), (0, .fieldref 8 34), (0, .nameAndType 35 16), (0, u "reach"), (0, .fieldref 8 37), (0, .nameAndType 38 16), (0, u "dist"), (0, .fieldref 8 40), (0, .nameAndType 41 16), (0, u "queue"), (0, .long 4000000000000000000), (1, .fieldref 8 45), (0, .nameAndType 46 47), (0, u "inf"), (0, u "J"), (0, .fieldref 8 49), (0, .nameAndType 50 51), (0, u "n"), (0, u "I"), (0, .fieldref 8 53), (0, .nameAndType 54 55), (0, u "res"), (0, u "Z"), (0, .fieldref 8 57), (0, .nameAndType 58 55), (0, u "cyc"), (0, .methodref 8 60), (0, .nameAndType 61 62), (0, u "inRange"), (0, u "(I)Z"), (0, .methodref 8 64), (0, .nameAndType 65 62), (0, u "weightOk"), (0, .fieldref 8 67), (0, .nameAndType 68 51), (0, u "arcs"), (0, .methodref 8 70), (0, .nameAndType 71 6), (0, u "discard"), (0, .methodref 8 73), (0, .nameAndType 74 75), (0, u "hasArc"), (0, u "(II)Z"), (0, .methodref 8 77), (0, .nameAndType 78 6), (0, u "clearResult"), (0, .methodref 8 80), (0, .nameAndType 81 82), (0, u "runKarp"), (0, u "()Z"), (0, .fieldref 8 84), (0, .nameAndType 85 47), (0, u "muDen"), (0, .fieldref 8 87), (0, .nameAndType 88 47), (0, u "muNum"), (0, .methodref 8 90), (0, .nameAndType 91 92), (0, u "relax"), (0, u "(JJ)V"), (0, .methodref 8 94), (0, .nameAndType 95 92), (0, u "markTight"), (0, .methodref 8 97), (0, .nameAndType 98 6), (0, u "closure"), (0, .methodref 8 100), (0, .nameAndType 101 102), (0, u "bfsTo"), (0, u "(I)V"), (0, .methodref 8 104), (0, .nameAndType 105 102), (0, u "buildWitness"), (0, .fieldref 8 107), (0, .nameAndType 108 51), (0, u "len"), (0, .fieldref 8 110), (0, .nameAndType 111 47), (0, u "cw"), (0, .methodref 8 113), (0, .nameAndType 114 115), (0, u "relaxKarp"), (0, u "(II)V"), (0, .methodref 8 117), (0, .nameAndType 118 102), (0, u "vertexMax"), (0, .fieldref 8 120), (0, .nameAndType 121 47), (0, u "vNum"), (0, .fieldref 8 123), (0, .nameAndType 124 47), (0, u "vDen"), (0, .methodref 8 126), (0, .nameAndType 127 82), (0, u "cyclicStored"), (0, .long 18446744073709551615), (1, u "MAX_VERTICES"), (2, u "MAX_ARCS"), (1, u "MIN_WEIGHT"), (1, u "MAX_WEIGHT"), (1, u "OK"), (1, u "ERR_VERTEX"), (1, u "ERR_WEIGHT"), (1, u "ERR_EXISTS"), (1, u "ERR_MISSING"), (1, u "ERR_FULL"), (1, u "ACYCLIC"), (0, u "CYCLIC"), (3, u "addArc"), (0, u "(III)I"), (0, u "removeArc"), (0, u "(II)I"), (0, u "setWeight"), (0, u "getWeight"), (0, u "arcCount"), (0, u "()I"), (0, u "vertexCount"), (0, u "solve"), (1, u "hasResult"), (0, u "cycleLength"), (0, u "cycleWeight"), (0, u "()J"), (0, u "cycleVertex"), (0, u "(I)I"), (0, u "isCritical"), (0, u "potential"), (0, u "(I)J"), (0, u "reducedCost"), (0, u "(II)J")] 2

def k2c0 : Code := { maxStack := 3, maxLocals := 3, code := prog_1_method_1_code, exceptionTable := #[], attributes := #[] }
def k2m0 : Method := { name := "<init>", desc := "(I)V", sig := { parameters := [.int], returnType := none }, accessFlags := 1, code := some k2c0 }
def k2c1 : Code := { maxStack := 2, maxLocals := 2, code := prog_1_method_2_code, exceptionTable := #[], attributes := #[] }
def k2m1 : Method := { name := "inRange", desc := "(I)Z", sig := { parameters := [.int], returnType := some .boolean }, accessFlags := 2, code := some k2c1 }
def k2c2 : Code := { maxStack := 2, maxLocals := 2, code := prog_1_method_3_code, exceptionTable := #[], attributes := #[] }
def k2m2 : Method := { name := "weightOk", desc := "(I)Z", sig := { parameters := [.int], returnType := some .boolean }, accessFlags := 2, code := some k2c2 }
def k2c3 : Code := { maxStack := 2, maxLocals := 1, code := prog_1_method_4_code, exceptionTable := #[], attributes := #[] }
def k2m3 : Method := { name := "discard", desc := "()V", sig := { parameters := [], returnType := none }, accessFlags := 2, code := some k2c3 }
def k2c4 : Code := { maxStack := 3, maxLocals := 5, code := prog_1_method_5_code, exceptionTable := #[], attributes := #[] }
def k2m4 : Method := { name := "addArc", desc := "(III)I", sig := { parameters := [.int, .int, .int], returnType := some .int }, accessFlags := 1, code := some k2c4 }
def k2c5 : Code := { maxStack := 3, maxLocals := 4, code := prog_1_method_6_code, exceptionTable := #[], attributes := #[] }
def k2m5 : Method := { name := "removeArc", desc := "(II)I", sig := { parameters := [.int, .int], returnType := some .int }, accessFlags := 1, code := some k2c5 }
def k2c6 : Code := { maxStack := 3, maxLocals := 5, code := prog_1_method_7_code, exceptionTable := #[], attributes := #[] }
def k2m6 : Method := { name := "setWeight", desc := "(III)I", sig := { parameters := [.int, .int, .int], returnType := some .int }, accessFlags := 1, code := some k2c6 }
def k2c7 : Code := { maxStack := 3, maxLocals := 3, code := prog_1_method_8_code, exceptionTable := #[], attributes := #[] }
def k2m7 : Method := { name := "hasArc", desc := "(II)Z", sig := { parameters := [.int, .int], returnType := some .boolean }, accessFlags := 1, code := some k2c7 }
def k2c8 : Code := { maxStack := 3, maxLocals := 3, code := prog_1_method_9_code, exceptionTable := #[], attributes := #[] }
def k2m8 : Method := { name := "getWeight", desc := "(II)I", sig := { parameters := [.int, .int], returnType := some .int }, accessFlags := 1, code := some k2c8 }
def k2c9 : Code := { maxStack := 1, maxLocals := 1, code := prog_1_method_10_code, exceptionTable := #[], attributes := #[] }
def k2m9 : Method := { name := "arcCount", desc := "()I", sig := { parameters := [], returnType := some .int }, accessFlags := 1, code := some k2c9 }
def k2c10 : Code := { maxStack := 1, maxLocals := 1, code := prog_1_method_11_code, exceptionTable := #[], attributes := #[] }
def k2m10 : Method := { name := "vertexCount", desc := "()I", sig := { parameters := [], returnType := some .int }, accessFlags := 1, code := some k2c10 }
def k2c11 : Code := { maxStack := 5, maxLocals := 3, code := prog_1_method_12_code, exceptionTable := #[], attributes := #[] }
def k2m11 : Method := { name := "solve", desc := "()I", sig := { parameters := [], returnType := some .int }, accessFlags := 1, code := some k2c11 }
def k2c12 : Code := { maxStack := 4, maxLocals := 2, code := prog_1_method_13_code, exceptionTable := #[], attributes := #[] }
def k2m12 : Method := { name := "clearResult", desc := "()V", sig := { parameters := [], returnType := none }, accessFlags := 2, code := some k2c12 }
def k2c13 : Code := { maxStack := 6, maxLocals := 3, code := prog_1_method_14_code, exceptionTable := #[], attributes := #[] }
def k2m13 : Method := { name := "runKarp", desc := "()Z", sig := { parameters := [], returnType := some .boolean }, accessFlags := 2, code := some k2c13 }
def k2c14 : Code := { maxStack := 5, maxLocals := 9, code := prog_1_method_15_code, exceptionTable := #[], attributes := #[] }
def k2m14 : Method := { name := "relaxKarp", desc := "(II)V", sig := { parameters := [.int, .int], returnType := none }, accessFlags := 2, code := some k2c14 }
def k2c15 : Code := { maxStack := 6, maxLocals := 12, code := prog_1_method_16_code, exceptionTable := #[], attributes := #[] }
def k2m15 : Method := { name := "vertexMax", desc := "(I)V", sig := { parameters := [.int], returnType := none }, accessFlags := 2, code := some k2c15 }
def k2c16 : Code := { maxStack := 6, maxLocals := 12, code := prog_1_method_17_code, exceptionTable := #[], attributes := #[] }
def k2m16 : Method := { name := "relax", desc := "(JJ)V", sig := { parameters := [.long, .long], returnType := none }, accessFlags := 2, code := some k2c16 }
def k2c17 : Code := { maxStack := 8, maxLocals := 8, code := prog_1_method_18_code, exceptionTable := #[], attributes := #[] }
def k2m17 : Method := { name := "markTight", desc := "(JJ)V", sig := { parameters := [.long, .long], returnType := none }, accessFlags := 2, code := some k2c17 }
def k2c18 : Code := { maxStack := 6, maxLocals := 3, code := prog_1_method_19_code, exceptionTable := #[], attributes := #[] }
def k2m18 : Method := { name := "closure", desc := "()V", sig := { parameters := [], returnType := none }, accessFlags := 2, code := some k2c18 }
def k2c19 : Code := { maxStack := 4, maxLocals := 6, code := prog_1_method_20_code, exceptionTable := #[], attributes := #[] }
def k2m19 : Method := { name := "bfsTo", desc := "(I)V", sig := { parameters := [.int], returnType := none }, accessFlags := 2, code := some k2c19 }
def k2c20 : Code := { maxStack := 5, maxLocals := 9, code := prog_1_method_21_code, exceptionTable := #[], attributes := #[] }
def k2m20 : Method := { name := "buildWitness", desc := "(I)V", sig := { parameters := [.int], returnType := none }, accessFlags := 2, code := some k2c20 }
def k2c21 : Code := { maxStack := 1, maxLocals := 1, code := prog_1_method_22_code, exceptionTable := #[], attributes := #[] }
def k2m21 : Method := { name := "hasResult", desc := "()Z", sig := { parameters := [], returnType := some .boolean }, accessFlags := 1, code := some k2c21 }
def k2c22 : Code := { maxStack := 1, maxLocals := 1, code := prog_1_method_23_code, exceptionTable := #[], attributes := #[] }
def k2m22 : Method := { name := "cyclicStored", desc := "()Z", sig := { parameters := [], returnType := some .boolean }, accessFlags := 2, code := some k2c22 }
def k2c23 : Code := { maxStack := 1, maxLocals := 1, code := prog_1_method_24_code, exceptionTable := #[], attributes := #[] }
def k2m23 : Method := { name := "cycleLength", desc := "()I", sig := { parameters := [], returnType := some .int }, accessFlags := 1, code := some k2c23 }
def k2c24 : Code := { maxStack := 2, maxLocals := 1, code := prog_1_method_25_code, exceptionTable := #[], attributes := #[] }
def k2m24 : Method := { name := "cycleWeight", desc := "()J", sig := { parameters := [], returnType := some .long }, accessFlags := 1, code := some k2c24 }
def k2c25 : Code := { maxStack := 2, maxLocals := 2, code := prog_1_method_26_code, exceptionTable := #[], attributes := #[] }
def k2m25 : Method := { name := "cycleVertex", desc := "(I)I", sig := { parameters := [.int], returnType := some .int }, accessFlags := 1, code := some k2c25 }
def k2c26 : Code := { maxStack := 2, maxLocals := 2, code := prog_1_method_27_code, exceptionTable := #[], attributes := #[] }
def k2m26 : Method := { name := "isCritical", desc := "(I)Z", sig := { parameters := [.int], returnType := some .boolean }, accessFlags := 1, code := some k2c26 }
def k2c27 : Code := { maxStack := 2, maxLocals := 2, code := prog_1_method_28_code, exceptionTable := #[], attributes := #[] }
def k2m27 : Method := { name := "potential", desc := "(I)J", sig := { parameters := [.int], returnType := some .long }, accessFlags := 1, code := some k2c27 }
def k2c28 : Code := { maxStack := 5, maxLocals := 3, code := prog_1_method_29_code, exceptionTable := #[], attributes := #[] }
def k2m28 : Method := { name := "reducedCost", desc := "(II)J", sig := { parameters := [.int, .int], returnType := some .long }, accessFlags := 1, code := some k2c28 }
/-- MeanCycleCert -/
def k2 : Class := { plain "MeanCycleCert" (some 0) with
  accessFlags := 49
  interfaces := #[]
  cf := some (fileOf pool2 8 #[] #[{ accessFlags := 1, nameIndex := 5, descriptorIndex := 102, attributes := #[] }, { accessFlags := 2, nameIndex := 61, descriptorIndex := 62, attributes := #[] }, { accessFlags := 2, nameIndex := 65, descriptorIndex := 62, attributes := #[] }, { accessFlags := 2, nameIndex := 71, descriptorIndex := 6, attributes := #[] }, { accessFlags := 1, nameIndex := 156, descriptorIndex := 157, attributes := #[] }, { accessFlags := 1, nameIndex := 158, descriptorIndex := 159, attributes := #[] }, { accessFlags := 1, nameIndex := 160, descriptorIndex := 157, attributes := #[] }, { accessFlags := 1, nameIndex := 74, descriptorIndex := 75, attributes := #[] }, { accessFlags := 1, nameIndex := 161, descriptorIndex := 159, attributes := #[] }, { accessFlags := 1, nameIndex := 162, descriptorIndex := 163, attributes := #[] }, { accessFlags := 1, nameIndex := 164, descriptorIndex := 163, attributes := #[] }, { accessFlags := 1, nameIndex := 165, descriptorIndex := 163, attributes := #[] }, { accessFlags := 2, nameIndex := 78, descriptorIndex := 6, attributes := #[] }, { accessFlags := 2, nameIndex := 81, descriptorIndex := 82, attributes := #[] }, { accessFlags := 2, nameIndex := 114, descriptorIndex := 115, attributes := #[] }, { accessFlags := 2, nameIndex := 118, descriptorIndex := 102, attributes := #[] }, { accessFlags := 2, nameIndex := 91, descriptorIndex := 92, attributes := #[] }, { accessFlags := 2, nameIndex := 95, descriptorIndex := 92, attributes := #[] }, { accessFlags := 2, nameIndex := 98, descriptorIndex := 6, attributes := #[] }, { accessFlags := 2, nameIndex := 101, descriptorIndex := 102, attributes := #[] }, { accessFlags := 2, nameIndex := 105, descriptorIndex := 102, attributes := #[] }, { accessFlags := 1, nameIndex := 167, descriptorIndex := 82, attributes := #[] }, { accessFlags := 2, nameIndex := 127, descriptorIndex := 82, attributes := #[] }, { accessFlags := 1, nameIndex := 168, descriptorIndex := 163, attributes := #[] }, { accessFlags := 1, nameIndex := 169, descriptorIndex := 170, attributes := #[] }, { accessFlags := 1, nameIndex := 171, descriptorIndex := 172, attributes := #[] }, { accessFlags := 1, nameIndex := 173, descriptorIndex := 62, attributes := #[] }, { accessFlags := 1, nameIndex := 174, descriptorIndex := 175, attributes := #[] }, { accessFlags := 1, nameIndex := 176, descriptorIndex := 177, attributes := #[] }] 49 2 #[] #[{ accessFlags := 25, nameIndex := 130, descriptorIndex := 51, attributes := #[] }, { accessFlags := 25, nameIndex := 133, descriptorIndex := 51, attributes := #[] }, { accessFlags := 25, nameIndex := 135, descriptorIndex := 51, attributes := #[] }, { accessFlags := 25, nameIndex := 137, descriptorIndex := 51, attributes := #[] }, { accessFlags := 25, nameIndex := 139, descriptorIndex := 51, attributes := #[] }, { accessFlags := 25, nameIndex := 141, descriptorIndex := 51, attributes := #[] }, { accessFlags := 25, nameIndex := 143, descriptorIndex := 51, attributes := #[] }, { accessFlags := 25, nameIndex := 145, descriptorIndex := 51, attributes := #[] }, { accessFlags := 25, nameIndex := 147, descriptorIndex := 51, attributes := #[] }, { accessFlags := 25, nameIndex := 149, descriptorIndex := 51, attributes := #[] }, { accessFlags := 25, nameIndex := 151, descriptorIndex := 51, attributes := #[] }, { accessFlags := 25, nameIndex := 152, descriptorIndex := 51, attributes := #[] }, { accessFlags := 2, nameIndex := 50, descriptorIndex := 51, attributes := #[] }, { accessFlags := 2, nameIndex := 68, descriptorIndex := 51, attributes := #[] }, { accessFlags := 2, nameIndex := 11, descriptorIndex := 12, attributes := #[] }, { accessFlags := 2, nameIndex := 15, descriptorIndex := 16, attributes := #[] }, { accessFlags := 2, nameIndex := 54, descriptorIndex := 55, attributes := #[] }, { accessFlags := 2, nameIndex := 58, descriptorIndex := 55, attributes := #[] }, { accessFlags := 2, nameIndex := 108, descriptorIndex := 51, attributes := #[] }, { accessFlags := 2, nameIndex := 111, descriptorIndex := 47, attributes := #[] }, { accessFlags := 2, nameIndex := 19, descriptorIndex := 16, attributes := #[] }, { accessFlags := 2, nameIndex := 22, descriptorIndex := 12, attributes := #[] }, { accessFlags := 2, nameIndex := 25, descriptorIndex := 26, attributes := #[] }, { accessFlags := 2, nameIndex := 29, descriptorIndex := 26, attributes := #[] }, { accessFlags := 2, nameIndex := 32, descriptorIndex := 12, attributes := #[] }, { accessFlags := 2, nameIndex := 35, descriptorIndex := 16, attributes := #[] }, { accessFlags := 2, nameIndex := 38, descriptorIndex := 16, attributes := #[] }, { accessFlags := 2, nameIndex := 41, descriptorIndex := 16, attributes := #[] }, { accessFlags := 2, nameIndex := 46, descriptorIndex := 47, attributes := #[] }, { accessFlags := 2, nameIndex := 88, descriptorIndex := 47, attributes := #[] }, { accessFlags := 2, nameIndex := 85, descriptorIndex := 47, attributes := #[] }, { accessFlags := 2, nameIndex := 121, descriptorIndex := 47, attributes := #[] }, { accessFlags := 2, nameIndex := 124, descriptorIndex := 47, attributes := #[] }])
  fields := #[{ name := "MAX_VERTICES", type := .int, accessFlags := 25, slot := 0, constantValue := 0 }, { name := "MAX_ARCS", type := .int, accessFlags := 25, slot := 1, constantValue := 0 }, { name := "MIN_WEIGHT", type := .int, accessFlags := 25, slot := 2, constantValue := 0 }, { name := "MAX_WEIGHT", type := .int, accessFlags := 25, slot := 3, constantValue := 0 }, { name := "OK", type := .int, accessFlags := 25, slot := 4, constantValue := 0 }, { name := "ERR_VERTEX", type := .int, accessFlags := 25, slot := 5, constantValue := 0 }, { name := "ERR_WEIGHT", type := .int, accessFlags := 25, slot := 6, constantValue := 0 }, { name := "ERR_EXISTS", type := .int, accessFlags := 25, slot := 7, constantValue := 0 }, { name := "ERR_MISSING", type := .int, accessFlags := 25, slot := 8, constantValue := 0 }, { name := "ERR_FULL", type := .int, accessFlags := 25, slot := 9, constantValue := 0 }, { name := "ACYCLIC", type := .int, accessFlags := 25, slot := 10, constantValue := 0 }, { name := "CYCLIC", type := .int, accessFlags := 25, slot := 11, constantValue := 0 }, { name := "n", type := .int, accessFlags := 2, slot := 0, constantValue := 0 }, { name := "arcs", type := .int, accessFlags := 2, slot := 1, constantValue := 0 }, { name := "has", type := (.array .boolean), accessFlags := 2, slot := 2, constantValue := 0 }, { name := "wt", type := (.array .int), accessFlags := 2, slot := 3, constantValue := 0 }, { name := "res", type := .boolean, accessFlags := 2, slot := 4, constantValue := 0 }, { name := "cyc", type := .boolean, accessFlags := 2, slot := 5, constantValue := 0 }, { name := "len", type := .int, accessFlags := 2, slot := 6, constantValue := 0 }, { name := "cw", type := .long, accessFlags := 2, slot := 7, constantValue := 0 }, { name := "seq", type := (.array .int), accessFlags := 2, slot := 8, constantValue := 0 }, { name := "crit", type := (.array .boolean), accessFlags := 2, slot := 9, constantValue := 0 }, { name := "pot", type := (.array .long), accessFlags := 2, slot := 10, constantValue := 0 }, { name := "karp", type := (.array .long), accessFlags := 2, slot := 11, constantValue := 0 }, { name := "tight", type := (.array .boolean), accessFlags := 2, slot := 12, constantValue := 0 }, { name := "reach", type := (.array .int), accessFlags := 2, slot := 13, constantValue := 0 }, { name := "dist", type := (.array .int), accessFlags := 2, slot := 14, constantValue := 0 }, { name := "queue", type := (.array .int), accessFlags := 2, slot := 15, constantValue := 0 }, { name := "inf", type := .long, accessFlags := 2, slot := 16, constantValue := 0 }, { name := "muNum", type := .long, accessFlags := 2, slot := 17, constantValue := 0 }, { name := "muDen", type := .long, accessFlags := 2, slot := 18, constantValue := 0 }, { name := "vNum", type := .long, accessFlags := 2, slot := 19, constantValue := 0 }, { name := "vDen", type := .long, accessFlags := 2, slot := 20, constantValue := 0 }]
  methods := #[k2m0, k2m1, k2m2, k2m3, k2m4, k2m5, k2m6, k2m7, k2m8, k2m9, k2m10, k2m11, k2m12, k2m13, k2m14, k2m15, k2m16, k2m17, k2m18, k2m19, k2m20, k2m21, k2m22, k2m23, k2m24, k2m25, k2m26, k2m27, k2m28]
  instanceTypes := #[.int, .int, (.array .boolean), (.array .int), .boolean, .boolean, .int, .long, (.array .int), (.array .boolean), (.array .long), (.array .long), (.array .boolean), (.array .int), (.array .int), (.array .int), .long, .long, .long, .long, .long]
  staticTypes := #[.int, .int, .int, .int, .int, .int, .int, .int, .int, .int, .int, .int]
  resolved := Array.replicate 180 none
  statics := none }

def pool3 : Array CpInfo := pool [(1, u "java/lang/Cloneable"), (0, .class_ 1), (0, u "java/lang/Object"), (0, .class_ 3)] 3

/-- java/lang/Cloneable -/
def k3 : Class := { plain "java/lang/Cloneable" (some 0) with
  accessFlags := 1537
  interfaces := #[]
  cf := some (fileOf pool3 2 #[] #[] 1537 4 #[] #[])
  fields := #[]
  methods := #[]
  instanceTypes := #[]
  staticTypes := #[]
  resolved := Array.replicate 8 none
  statics := none }

def pool4 : Array CpInfo := pool [(1, u "java/io/Serializable"), (0, .class_ 1), (0, u "java/lang/Object"), (0, .class_ 3)] 3

/-- java/io/Serializable -/
def k4 : Class := { plain "java/io/Serializable" (some 0) with
  accessFlags := 1537
  interfaces := #[]
  cf := some (fileOf pool4 2 #[] #[] 1537 4 #[] #[])
  fields := #[]
  methods := #[]
  instanceTypes := #[]
  staticTypes := #[]
  resolved := Array.replicate 8 none
  statics := none }

/-- the primitive boolean -/
def k5 : Class := { plain "boolean" none with kind := .primitive 'Z', accessFlags := 0x411 }
/-- [Z -/
def k6 : Class := { plain "[Z" (some 0) with kind := .array 5 .boolean, interfaces := #[3, 4], accessFlags := 1041 }

/-- the primitive byte -/
def k7 : Class := { plain "byte" none with kind := .primitive 'B', accessFlags := 0x411 }
/-- [B -/
def k8 : Class := { plain "[B" (some 0) with kind := .array 7 .byte, interfaces := #[3, 4], accessFlags := 1041 }

/-- the primitive int -/
def k9 : Class := { plain "int" none with kind := .primitive 'I', accessFlags := 0x411 }
/-- [I -/
def k10 : Class := { plain "[I" (some 0) with kind := .array 9 .int, interfaces := #[3, 4], accessFlags := 1041 }

/-- the primitive long -/
def k11 : Class := { plain "long" none with kind := .primitive 'J', accessFlags := 0x411 }
/-- [J -/
def k12 : Class := { plain "[J" (some 0) with kind := .array 11 .long, interfaces := #[3, 4], accessFlags := 1041 }

def heap : Heap := #[{ cls := 10, slots := #[.int 0, .int 3, .int 5, .int 1], vm := .none }]
def classes : Array Class := #[k0, k1, k2, k3, k4, k5, k6, k7, k8, k9, k10, k11, k12]
def interned : List (Array UInt16 × Addr) := []
def slotsUsed : Nat := 4
def theMethod : MethodId := ⟨1, 1⟩
def args0 : Array Value := #[.ref 0]
def aboutOver (below : List Frame) : State where
  vm := { classes := classes, interned := interned.toArray }
  heap := heap
  slotsUsed := slotsUsed
  threads := #[{ frames := .invoking theMethod args0 :: below }]
def below0 : List Frame := [.native { method := ⟨0, 0⟩, args := #[] }]
def about1 : State := aboutOver below0
def p0 : Program := .bare "" "" ""
def e0 : Env := launch0.env 0 0 0
theorem w_frames : about1.frames = Frame.invoking theMethod args0 :: below0 := rfl
set_option maxRecDepth 65536 in
theorem w_args : argsFit about1.vm theMethod args0 = true := by decide +kernel
set_option maxRecDepth 65536 in
theorem w_heap : heapFits about1 = true := by decide +kernel
set_option maxRecDepth 65536 in
theorem w_runnable : about1.curStatus? = some .runnable := by decide +kernel
set_option maxRecDepth 65536 in
theorem w_alone : about1.alone = true := by decide +kernel
set_option maxRecDepth 65536 in
theorem w_named : about1.methodNamed? x = some theMethod := by decide +kernel
set_option maxRecDepth 65536 in
theorem w_hears : about1.hears theMethod below0 = true := by decide +kernel
set_option maxRecDepth 65536 in
theorem w_ripe : about1.ripe theMethod args0 below0 = true := by decide +kernel
theorem w_running : about1.status = .running := rfl
set_option maxRecDepth 65536 in
theorem w_room : about1.hasRoom e0.platform room_1 = true :=
  launch0.hasRoom_least _ room_1 (by decide +kernel) (by decide +kernel) (by decide +kernel) (by decide +kernel) (by decide +kernel) (by decide +kernel)
theorem allAtoms_all (ts : List Jvm.Cond) (a : Array Jvm.Value) (st : Jvm.State) : (allAtoms ts).before a st = ts.all (fun c => c.before a st) := by
  induction ts with
  | nil => rfl
  | cons c t ih =>
    show (Jvm.Cond.and c (allAtoms t)).before a st = _
    rw [Jvm.Cond.before_and, ih, List.all_cons]
def words1 : List Jvm.Cond := Jvm.Cond.code x code maxLocals ret :: tables_1
/-- a 'code' word, met by the world's own term for the bytes: nothing is compared byte by byte -/
theorem code_word {y : MethodName} {bytes : ByteArray} {mx : Nat} {rt : Option FieldType} {a : Array Value} {s : State} {m : MethodId} {meth : Method} {c : Code} (h1 : s.methodNamed? y = some m) (h2 : s.vm.method? m = some meth) (h3 : meth.code = some c) (h4 : c.code = bytes)
    (h5 : (c.maxLocals == mx && c.exceptionTable.isEmpty && decide (c.maxStack ≤ mostOperands) && decide (meth.sig.returnType = rt) && !meth.locks && decide (parseMethodDescriptor y.desc = some meth.sig)) = true) : (Jvm.Cond.code y bytes mx rt).before a s = true := by
  simp only [Bool.and_eq_true, beq_iff_eq, Bool.not_eq_true', decide_eq_true_eq] at h5
  obtain ⟨⟨⟨⟨⟨g1, g2⟩, g3⟩, g4⟩, g5⟩, g6⟩ := h5
  simp [Cond.before, Cond.holds, Cond.value, h1, h2, h3, h4, g1, g2, g3, g4, g5, g6]
def isCode : Jvm.Cond → Bool
  | .code _ _ _ _ => true
  | _ => false
theorem all_split {L : List Jvm.Cond} {P : Jvm.Cond → Bool} (h1 : L.all (fun c => isCode c || P c) = true) (h2 : ∀ c ∈ L.filter isCode, P c = true) : L.all P = true := by
  refine List.all_eq_true.mpr fun c hc => ?_
  have h := List.all_eq_true.mp h1 c hc
  rcases Bool.eq_false_or_eq_true (isCode c) with hi | hi
  · exact h2 c (List.mem_filter.mpr ⟨hc, hi⟩)
  · simpa [hi] using h
set_option maxRecDepth 65536 in
theorem w_c0 : (Jvm.Cond.code x code maxLocals ret).before args0 about1 = true := code_word (m := ⟨1, 1⟩) (meth := k1m1) (c := k1c1) (by decide +kernel) rfl rfl rfl (by decide +kernel)
set_option maxRecDepth 65536 in
theorem w_c1 : (Jvm.Cond.code ({ cls := "MeanCycleCert", name := "<init>", desc := "(I)V" } : Jvm.MethodName) prog_1_method_1_code (3 : Nat) (Option.none : Option Jvm.ClassFile.FieldType)).before args0 about1 = true := code_word (m := ⟨2, 0⟩) (meth := k2m0) (c := k2c0) (by decide +kernel) rfl rfl rfl (by decide +kernel)
set_option maxRecDepth 65536 in
theorem w_c2 : (Jvm.Cond.code ({ cls := "java/lang/Object", name := "<init>", desc := "()V" } : Jvm.MethodName) object_method_1_code (1 : Nat) (Option.none : Option Jvm.ClassFile.FieldType)).before args0 about1 = true := code_word (m := ⟨0, 0⟩) (meth := k0m0) (c := k0c0) (by decide +kernel) rfl rfl rfl (by decide +kernel)
set_option maxRecDepth 65536 in
theorem w_c3 : (Jvm.Cond.code ({ cls := "MeanCycleCert", name := "vertexCount", desc := "()I" } : Jvm.MethodName) prog_1_method_11_code (1 : Nat) (Option.some Jvm.ClassFile.FieldType.int)).before args0 about1 = true := code_word (m := ⟨2, 10⟩) (meth := k2m10) (c := k2c10) (by decide +kernel) rfl rfl rfl (by decide +kernel)
set_option maxRecDepth 65536 in
theorem w_c4 : (Jvm.Cond.code ({ cls := "MeanCycleCertL6", name := "check", desc := "(LMeanCycleCert;IJIZZ)Z" } : Jvm.MethodName) method_3_code (20 : Nat) (Option.some Jvm.ClassFile.FieldType.boolean)).before args0 about1 = true := code_word (m := ⟨1, 2⟩) (meth := k1m2) (c := k1c2) (by decide +kernel) rfl rfl rfl (by decide +kernel)
set_option maxRecDepth 65536 in
theorem w_c5 : (Jvm.Cond.code ({ cls := "MeanCycleCert", name := "arcCount", desc := "()I" } : Jvm.MethodName) prog_1_method_10_code (1 : Nat) (Option.some Jvm.ClassFile.FieldType.int)).before args0 about1 = true := code_word (m := ⟨2, 9⟩) (meth := k2m9) (c := k2c9) (by decide +kernel) rfl rfl rfl (by decide +kernel)
set_option maxRecDepth 65536 in
theorem w_c6 : (Jvm.Cond.code ({ cls := "MeanCycleCert", name := "hasResult", desc := "()Z" } : Jvm.MethodName) prog_1_method_22_code (1 : Nat) (Option.some Jvm.ClassFile.FieldType.boolean)).before args0 about1 = true := code_word (m := ⟨2, 21⟩) (meth := k2m21) (c := k2c21) (by decide +kernel) rfl rfl rfl (by decide +kernel)
set_option maxRecDepth 65536 in
theorem w_c7 : (Jvm.Cond.code ({ cls := "MeanCycleCert", name := "cycleLength", desc := "()I" } : Jvm.MethodName) prog_1_method_24_code (1 : Nat) (Option.some Jvm.ClassFile.FieldType.int)).before args0 about1 = true := code_word (m := ⟨2, 23⟩) (meth := k2m23) (c := k2c23) (by decide +kernel) rfl rfl rfl (by decide +kernel)
set_option maxRecDepth 65536 in
theorem w_c8 : (Jvm.Cond.code ({ cls := "MeanCycleCert", name := "cyclicStored", desc := "()Z" } : Jvm.MethodName) prog_1_method_23_code (1 : Nat) (Option.some Jvm.ClassFile.FieldType.boolean)).before args0 about1 = true := code_word (m := ⟨2, 22⟩) (meth := k2m22) (c := k2c22) (by decide +kernel) rfl rfl rfl (by decide +kernel)
set_option maxRecDepth 65536 in
theorem w_c9 : (Jvm.Cond.code ({ cls := "MeanCycleCert", name := "cycleWeight", desc := "()J" } : Jvm.MethodName) prog_1_method_25_code (1 : Nat) (Option.some Jvm.ClassFile.FieldType.long)).before args0 about1 = true := code_word (m := ⟨2, 24⟩) (meth := k2m24) (c := k2c24) (by decide +kernel) rfl rfl rfl (by decide +kernel)
set_option maxRecDepth 65536 in
theorem w_c10 : (Jvm.Cond.code ({ cls := "MeanCycleCert", name := "cycleVertex", desc := "(I)I" } : Jvm.MethodName) prog_1_method_26_code (2 : Nat) (Option.some Jvm.ClassFile.FieldType.int)).before args0 about1 = true := code_word (m := ⟨2, 25⟩) (meth := k2m25) (c := k2c25) (by decide +kernel) rfl rfl rfl (by decide +kernel)
set_option maxRecDepth 65536 in
theorem w_c11 : (Jvm.Cond.code ({ cls := "MeanCycleCert", name := "potential", desc := "(I)J" } : Jvm.MethodName) prog_1_method_28_code (2 : Nat) (Option.some Jvm.ClassFile.FieldType.long)).before args0 about1 = true := code_word (m := ⟨2, 27⟩) (meth := k2m27) (c := k2c27) (by decide +kernel) rfl rfl rfl (by decide +kernel)
set_option maxRecDepth 65536 in
theorem w_c12 : (Jvm.Cond.code ({ cls := "MeanCycleCert", name := "isCritical", desc := "(I)Z" } : Jvm.MethodName) prog_1_method_27_code (2 : Nat) (Option.some Jvm.ClassFile.FieldType.boolean)).before args0 about1 = true := code_word (m := ⟨2, 26⟩) (meth := k2m26) (c := k2c26) (by decide +kernel) rfl rfl rfl (by decide +kernel)
set_option maxRecDepth 65536 in
theorem w_c13 : (Jvm.Cond.code ({ cls := "MeanCycleCert", name := "hasArc", desc := "(II)Z" } : Jvm.MethodName) prog_1_method_8_code (3 : Nat) (Option.some Jvm.ClassFile.FieldType.boolean)).before args0 about1 = true := code_word (m := ⟨2, 7⟩) (meth := k2m7) (c := k2c7) (by decide +kernel) rfl rfl rfl (by decide +kernel)
set_option maxRecDepth 65536 in
theorem w_c14 : (Jvm.Cond.code ({ cls := "MeanCycleCert", name := "inRange", desc := "(I)Z" } : Jvm.MethodName) prog_1_method_2_code (2 : Nat) (Option.some Jvm.ClassFile.FieldType.boolean)).before args0 about1 = true := code_word (m := ⟨2, 1⟩) (meth := k2m1) (c := k2c1) (by decide +kernel) rfl rfl rfl (by decide +kernel)
set_option maxRecDepth 65536 in
theorem w_c15 : (Jvm.Cond.code ({ cls := "MeanCycleCert", name := "getWeight", desc := "(II)I" } : Jvm.MethodName) prog_1_method_9_code (3 : Nat) (Option.some Jvm.ClassFile.FieldType.int)).before args0 about1 = true := code_word (m := ⟨2, 8⟩) (meth := k2m8) (c := k2c8) (by decide +kernel) rfl rfl rfl (by decide +kernel)
set_option maxRecDepth 65536 in
theorem w_c16 : (Jvm.Cond.code ({ cls := "MeanCycleCert", name := "reducedCost", desc := "(II)J" } : Jvm.MethodName) prog_1_method_29_code (3 : Nat) (Option.some Jvm.ClassFile.FieldType.long)).before args0 about1 = true := code_word (m := ⟨2, 28⟩) (meth := k2m28) (c := k2c28) (by decide +kernel) rfl rfl rfl (by decide +kernel)
set_option maxRecDepth 65536 in
theorem w_c17 : (Jvm.Cond.code ({ cls := "MeanCycleCert", name := "solve", desc := "()I" } : Jvm.MethodName) prog_1_method_12_code (3 : Nat) (Option.some Jvm.ClassFile.FieldType.int)).before args0 about1 = true := code_word (m := ⟨2, 11⟩) (meth := k2m11) (c := k2c11) (by decide +kernel) rfl rfl rfl (by decide +kernel)
set_option maxRecDepth 65536 in
theorem w_c18 : (Jvm.Cond.code ({ cls := "MeanCycleCert", name := "clearResult", desc := "()V" } : Jvm.MethodName) prog_1_method_13_code (2 : Nat) (Option.none : Option Jvm.ClassFile.FieldType)).before args0 about1 = true := code_word (m := ⟨2, 12⟩) (meth := k2m12) (c := k2c12) (by decide +kernel) rfl rfl rfl (by decide +kernel)
set_option maxRecDepth 65536 in
theorem w_c19 : (Jvm.Cond.code ({ cls := "MeanCycleCert", name := "runKarp", desc := "()Z" } : Jvm.MethodName) prog_1_method_14_code (3 : Nat) (Option.some Jvm.ClassFile.FieldType.boolean)).before args0 about1 = true := code_word (m := ⟨2, 13⟩) (meth := k2m13) (c := k2c13) (by decide +kernel) rfl rfl rfl (by decide +kernel)
set_option maxRecDepth 65536 in
theorem w_c20 : (Jvm.Cond.code ({ cls := "MeanCycleCertL6", name := "cyclic", desc := "(I)Z" } : Jvm.MethodName) method_8_code (3 : Nat) (Option.some Jvm.ClassFile.FieldType.boolean)).before args0 about1 = true := code_word (m := ⟨1, 7⟩) (meth := k1m7) (c := k1c7) (by decide +kernel) rfl rfl rfl (by decide +kernel)
set_option maxRecDepth 65536 in
theorem w_c21 : (Jvm.Cond.code ({ cls := "MeanCycleCertL6", name := "compose", desc := "(II)I" } : Jvm.MethodName) method_7_code (5 : Nat) (Option.some Jvm.ClassFile.FieldType.int)).before args0 about1 = true := code_word (m := ⟨1, 6⟩) (meth := k1m6) (c := k1c6) (by decide +kernel) rfl rfl rfl (by decide +kernel)
set_option maxRecDepth 65536 in
theorem w_c22 : (Jvm.Cond.code ({ cls := "MeanCycleCert", name := "removeArc", desc := "(II)I" } : Jvm.MethodName) prog_1_method_6_code (4 : Nat) (Option.some Jvm.ClassFile.FieldType.int)).before args0 about1 = true := code_word (m := ⟨2, 5⟩) (meth := k2m5) (c := k2c5) (by decide +kernel) rfl rfl rfl (by decide +kernel)
set_option maxRecDepth 65536 in
theorem w_c23 : (Jvm.Cond.code ({ cls := "MeanCycleCert", name := "addArc", desc := "(III)I" } : Jvm.MethodName) prog_1_method_5_code (5 : Nat) (Option.some Jvm.ClassFile.FieldType.int)).before args0 about1 = true := code_word (m := ⟨2, 4⟩) (meth := k2m4) (c := k2c4) (by decide +kernel) rfl rfl rfl (by decide +kernel)
set_option maxRecDepth 65536 in
theorem w_c24 : (Jvm.Cond.code ({ cls := "MeanCycleCert", name := "weightOk", desc := "(I)Z" } : Jvm.MethodName) prog_1_method_3_code (2 : Nat) (Option.some Jvm.ClassFile.FieldType.boolean)).before args0 about1 = true := code_word (m := ⟨2, 2⟩) (meth := k2m2) (c := k2c2) (by decide +kernel) rfl rfl rfl (by decide +kernel)
set_option maxRecDepth 65536 in
theorem w_c25 : (Jvm.Cond.code ({ cls := "MeanCycleCert", name := "discard", desc := "()V" } : Jvm.MethodName) prog_1_method_4_code (1 : Nat) (Option.none : Option Jvm.ClassFile.FieldType)).before args0 about1 = true := code_word (m := ⟨2, 3⟩) (meth := k2m3) (c := k2c3) (by decide +kernel) rfl rfl rfl (by decide +kernel)
set_option maxRecDepth 65536 in
theorem w_c26 : (Jvm.Cond.code ({ cls := "MeanCycleCertL6", name := "setW", desc := "(JII)J" } : Jvm.MethodName) method_6_code (6 : Nat) (Option.some Jvm.ClassFile.FieldType.long)).before args0 about1 = true := code_word (m := ⟨1, 5⟩) (meth := k1m5) (c := k1c5) (by decide +kernel) rfl rfl rfl (by decide +kernel)
set_option maxRecDepth 65536 in
theorem w_c27 : (Jvm.Cond.code ({ cls := "MeanCycleCertL6", name := "getW", desc := "(JI)I" } : Jvm.MethodName) method_5_code (3 : Nat) (Option.some Jvm.ClassFile.FieldType.int)).before args0 about1 = true := code_word (m := ⟨1, 4⟩) (meth := k1m4) (c := k1c4) (by decide +kernel) rfl rfl rfl (by decide +kernel)
set_option maxRecDepth 65536 in
theorem w_c28 : (Jvm.Cond.code ({ cls := "MeanCycleCert", name := "relaxKarp", desc := "(II)V" } : Jvm.MethodName) prog_1_method_15_code (9 : Nat) (Option.none : Option Jvm.ClassFile.FieldType)).before args0 about1 = true := code_word (m := ⟨2, 14⟩) (meth := k2m14) (c := k2c14) (by decide +kernel) rfl rfl rfl (by decide +kernel)
set_option maxRecDepth 65536 in
theorem w_c29 : (Jvm.Cond.code ({ cls := "MeanCycleCert", name := "vertexMax", desc := "(I)V" } : Jvm.MethodName) prog_1_method_16_code (12 : Nat) (Option.none : Option Jvm.ClassFile.FieldType)).before args0 about1 = true := code_word (m := ⟨2, 15⟩) (meth := k2m15) (c := k2c15) (by decide +kernel) rfl rfl rfl (by decide +kernel)
set_option maxRecDepth 65536 in
theorem w_c30 : (Jvm.Cond.code ({ cls := "MeanCycleCert", name := "relax", desc := "(JJ)V" } : Jvm.MethodName) prog_1_method_17_code (12 : Nat) (Option.none : Option Jvm.ClassFile.FieldType)).before args0 about1 = true := code_word (m := ⟨2, 16⟩) (meth := k2m16) (c := k2c16) (by decide +kernel) rfl rfl rfl (by decide +kernel)
set_option maxRecDepth 65536 in
theorem w_c31 : (Jvm.Cond.code ({ cls := "MeanCycleCert", name := "markTight", desc := "(JJ)V" } : Jvm.MethodName) prog_1_method_18_code (8 : Nat) (Option.none : Option Jvm.ClassFile.FieldType)).before args0 about1 = true := code_word (m := ⟨2, 17⟩) (meth := k2m17) (c := k2c17) (by decide +kernel) rfl rfl rfl (by decide +kernel)
set_option maxRecDepth 65536 in
theorem w_c32 : (Jvm.Cond.code ({ cls := "MeanCycleCert", name := "closure", desc := "()V" } : Jvm.MethodName) prog_1_method_19_code (3 : Nat) (Option.none : Option Jvm.ClassFile.FieldType)).before args0 about1 = true := code_word (m := ⟨2, 18⟩) (meth := k2m18) (c := k2c18) (by decide +kernel) rfl rfl rfl (by decide +kernel)
set_option maxRecDepth 65536 in
theorem w_c33 : (Jvm.Cond.code ({ cls := "MeanCycleCert", name := "bfsTo", desc := "(I)V" } : Jvm.MethodName) prog_1_method_20_code (6 : Nat) (Option.none : Option Jvm.ClassFile.FieldType)).before args0 about1 = true := code_word (m := ⟨2, 19⟩) (meth := k2m19) (c := k2c19) (by decide +kernel) rfl rfl rfl (by decide +kernel)
set_option maxRecDepth 65536 in
theorem w_c34 : (Jvm.Cond.code ({ cls := "MeanCycleCert", name := "buildWitness", desc := "(I)V" } : Jvm.MethodName) prog_1_method_21_code (9 : Nat) (Option.none : Option Jvm.ClassFile.FieldType)).before args0 about1 = true := code_word (m := ⟨2, 20⟩) (meth := k2m20) (c := k2c20) (by decide +kernel) rfl rfl rfl (by decide +kernel)
set_option maxRecDepth 65536 in
theorem w_c35 : (Jvm.Cond.code ({ cls := "MeanCycleCertL6", name := "witness", desc := "(LMeanCycleCert;IJIJ)Z" } : Jvm.MethodName) method_4_code (14 : Nat) (Option.some Jvm.ClassFile.FieldType.boolean)).before args0 about1 = true := code_word (m := ⟨1, 3⟩) (meth := k1m3) (c := k1c3) (by decide +kernel) rfl rfl rfl (by decide +kernel)
set_option maxRecDepth 65536 in
theorem w_c36 : (Jvm.Cond.code ({ cls := "MeanCycleCert", name := "setWeight", desc := "(III)I" } : Jvm.MethodName) prog_1_method_7_code (5 : Nat) (Option.some Jvm.ClassFile.FieldType.int)).before args0 about1 = true := code_word (m := ⟨2, 6⟩) (meth := k2m6) (c := k2c6) (by decide +kernel) rfl rfl rfl (by decide +kernel)
def codes1 : List Jvm.Cond := [Jvm.Cond.code x code maxLocals ret, Jvm.Cond.code ({ cls := "MeanCycleCert", name := "<init>", desc := "(I)V" } : Jvm.MethodName) prog_1_method_1_code (3 : Nat) (Option.none : Option Jvm.ClassFile.FieldType), Jvm.Cond.code ({ cls := "java/lang/Object", name := "<init>", desc := "()V" } : Jvm.MethodName) object_method_1_code (1 : Nat) (Option.none : Option Jvm.ClassFile.FieldType), Jvm.Cond.code ({ cls := "MeanCycleCert", name := "vertexCount", desc := "()I" } : Jvm.MethodName) prog_1_method_11_code (1 : Nat) (Option.some Jvm.ClassFile.FieldType.int), Jvm.Cond.code ({ cls := "MeanCycleCertL6", name := "check", desc := "(LMeanCycleCert;IJIZZ)Z" } : Jvm.MethodName) method_3_code (20 : Nat) (Option.some Jvm.ClassFile.FieldType.boolean), Jvm.Cond.code ({ cls := "MeanCycleCert", name := "arcCount", desc := "()I" } : Jvm.MethodName) prog_1_method_10_code (1 : Nat) (Option.some Jvm.ClassFile.FieldType.int), Jvm.Cond.code ({ cls := "MeanCycleCert", name := "hasResult", desc := "()Z" } : Jvm.MethodName) prog_1_method_22_code (1 : Nat) (Option.some Jvm.ClassFile.FieldType.boolean), Jvm.Cond.code ({ cls := "MeanCycleCert", name := "cycleLength", desc := "()I" } : Jvm.MethodName) prog_1_method_24_code (1 : Nat) (Option.some Jvm.ClassFile.FieldType.int), Jvm.Cond.code ({ cls := "MeanCycleCert", name := "cyclicStored", desc := "()Z" } : Jvm.MethodName) prog_1_method_23_code (1 : Nat) (Option.some Jvm.ClassFile.FieldType.boolean), Jvm.Cond.code ({ cls := "MeanCycleCert", name := "cycleWeight", desc := "()J" } : Jvm.MethodName) prog_1_method_25_code (1 : Nat) (Option.some Jvm.ClassFile.FieldType.long), Jvm.Cond.code ({ cls := "MeanCycleCert", name := "cycleVertex", desc := "(I)I" } : Jvm.MethodName) prog_1_method_26_code (2 : Nat) (Option.some Jvm.ClassFile.FieldType.int), Jvm.Cond.code ({ cls := "MeanCycleCert", name := "potential", desc := "(I)J" } : Jvm.MethodName) prog_1_method_28_code (2 : Nat) (Option.some Jvm.ClassFile.FieldType.long), Jvm.Cond.code ({ cls := "MeanCycleCert", name := "isCritical", desc := "(I)Z" } : Jvm.MethodName) prog_1_method_27_code (2 : Nat) (Option.some Jvm.ClassFile.FieldType.boolean), Jvm.Cond.code ({ cls := "MeanCycleCert", name := "hasArc", desc := "(II)Z" } : Jvm.MethodName) prog_1_method_8_code (3 : Nat) (Option.some Jvm.ClassFile.FieldType.boolean), Jvm.Cond.code ({ cls := "MeanCycleCert", name := "inRange", desc := "(I)Z" } : Jvm.MethodName) prog_1_method_2_code (2 : Nat) (Option.some Jvm.ClassFile.FieldType.boolean), Jvm.Cond.code ({ cls := "MeanCycleCert", name := "getWeight", desc := "(II)I" } : Jvm.MethodName) prog_1_method_9_code (3 : Nat) (Option.some Jvm.ClassFile.FieldType.int), Jvm.Cond.code ({ cls := "MeanCycleCert", name := "reducedCost", desc := "(II)J" } : Jvm.MethodName) prog_1_method_29_code (3 : Nat) (Option.some Jvm.ClassFile.FieldType.long), Jvm.Cond.code ({ cls := "MeanCycleCert", name := "solve", desc := "()I" } : Jvm.MethodName) prog_1_method_12_code (3 : Nat) (Option.some Jvm.ClassFile.FieldType.int), Jvm.Cond.code ({ cls := "MeanCycleCert", name := "clearResult", desc := "()V" } : Jvm.MethodName) prog_1_method_13_code (2 : Nat) (Option.none : Option Jvm.ClassFile.FieldType), Jvm.Cond.code ({ cls := "MeanCycleCert", name := "runKarp", desc := "()Z" } : Jvm.MethodName) prog_1_method_14_code (3 : Nat) (Option.some Jvm.ClassFile.FieldType.boolean), Jvm.Cond.code ({ cls := "MeanCycleCertL6", name := "cyclic", desc := "(I)Z" } : Jvm.MethodName) method_8_code (3 : Nat) (Option.some Jvm.ClassFile.FieldType.boolean), Jvm.Cond.code ({ cls := "MeanCycleCertL6", name := "compose", desc := "(II)I" } : Jvm.MethodName) method_7_code (5 : Nat) (Option.some Jvm.ClassFile.FieldType.int), Jvm.Cond.code ({ cls := "MeanCycleCert", name := "removeArc", desc := "(II)I" } : Jvm.MethodName) prog_1_method_6_code (4 : Nat) (Option.some Jvm.ClassFile.FieldType.int), Jvm.Cond.code ({ cls := "MeanCycleCert", name := "addArc", desc := "(III)I" } : Jvm.MethodName) prog_1_method_5_code (5 : Nat) (Option.some Jvm.ClassFile.FieldType.int), Jvm.Cond.code ({ cls := "MeanCycleCert", name := "weightOk", desc := "(I)Z" } : Jvm.MethodName) prog_1_method_3_code (2 : Nat) (Option.some Jvm.ClassFile.FieldType.boolean), Jvm.Cond.code ({ cls := "MeanCycleCert", name := "discard", desc := "()V" } : Jvm.MethodName) prog_1_method_4_code (1 : Nat) (Option.none : Option Jvm.ClassFile.FieldType), Jvm.Cond.code ({ cls := "MeanCycleCertL6", name := "setW", desc := "(JII)J" } : Jvm.MethodName) method_6_code (6 : Nat) (Option.some Jvm.ClassFile.FieldType.long), Jvm.Cond.code ({ cls := "MeanCycleCertL6", name := "getW", desc := "(JI)I" } : Jvm.MethodName) method_5_code (3 : Nat) (Option.some Jvm.ClassFile.FieldType.int), Jvm.Cond.code ({ cls := "MeanCycleCert", name := "relaxKarp", desc := "(II)V" } : Jvm.MethodName) prog_1_method_15_code (9 : Nat) (Option.none : Option Jvm.ClassFile.FieldType), Jvm.Cond.code ({ cls := "MeanCycleCert", name := "vertexMax", desc := "(I)V" } : Jvm.MethodName) prog_1_method_16_code (12 : Nat) (Option.none : Option Jvm.ClassFile.FieldType), Jvm.Cond.code ({ cls := "MeanCycleCert", name := "relax", desc := "(JJ)V" } : Jvm.MethodName) prog_1_method_17_code (12 : Nat) (Option.none : Option Jvm.ClassFile.FieldType), Jvm.Cond.code ({ cls := "MeanCycleCert", name := "markTight", desc := "(JJ)V" } : Jvm.MethodName) prog_1_method_18_code (8 : Nat) (Option.none : Option Jvm.ClassFile.FieldType), Jvm.Cond.code ({ cls := "MeanCycleCert", name := "closure", desc := "()V" } : Jvm.MethodName) prog_1_method_19_code (3 : Nat) (Option.none : Option Jvm.ClassFile.FieldType), Jvm.Cond.code ({ cls := "MeanCycleCert", name := "bfsTo", desc := "(I)V" } : Jvm.MethodName) prog_1_method_20_code (6 : Nat) (Option.none : Option Jvm.ClassFile.FieldType), Jvm.Cond.code ({ cls := "MeanCycleCert", name := "buildWitness", desc := "(I)V" } : Jvm.MethodName) prog_1_method_21_code (9 : Nat) (Option.none : Option Jvm.ClassFile.FieldType), Jvm.Cond.code ({ cls := "MeanCycleCertL6", name := "witness", desc := "(LMeanCycleCert;IJIJ)Z" } : Jvm.MethodName) method_4_code (14 : Nat) (Option.some Jvm.ClassFile.FieldType.boolean), Jvm.Cond.code ({ cls := "MeanCycleCert", name := "setWeight", desc := "(III)I" } : Jvm.MethodName) prog_1_method_7_code (5 : Nat) (Option.some Jvm.ClassFile.FieldType.int)]
set_option maxRecDepth 65536 in
theorem codes_eq : words1.filter isCode = codes1 := rfl
theorem w_codes : ∀ c ∈ words1.filter isCode, c.before args0 about1 = true := by
  rw [codes_eq]
  intro c hc
  simp only [codes1, List.mem_cons, List.not_mem_nil, or_false] at hc
  rcases hc with rfl | rfl | rfl | rfl | rfl | rfl | rfl | rfl | rfl | rfl | rfl | rfl | rfl | rfl | rfl | rfl | rfl | rfl | rfl | rfl | rfl | rfl | rfl | rfl | rfl | rfl | rfl | rfl | rfl | rfl | rfl | rfl | rfl | rfl | rfl | rfl | rfl
  · exact w_c0
  · exact w_c1
  · exact w_c2
  · exact w_c3
  · exact w_c4
  · exact w_c5
  · exact w_c6
  · exact w_c7
  · exact w_c8
  · exact w_c9
  · exact w_c10
  · exact w_c11
  · exact w_c12
  · exact w_c13
  · exact w_c14
  · exact w_c15
  · exact w_c16
  · exact w_c17
  · exact w_c18
  · exact w_c19
  · exact w_c20
  · exact w_c21
  · exact w_c22
  · exact w_c23
  · exact w_c24
  · exact w_c25
  · exact w_c26
  · exact w_c27
  · exact w_c28
  · exact w_c29
  · exact w_c30
  · exact w_c31
  · exact w_c32
  · exact w_c33
  · exact w_c34
  · exact w_c35
  · exact w_c36
set_option maxRecDepth 65536 in
theorem w_t1 : (words1.take 24).all (fun c => isCode c || c.before args0 about1) = true := by decide +kernel
set_option maxRecDepth 65536 in
theorem w_t2 : ((words1.drop 24).take 24).all (fun c => isCode c || c.before args0 about1) = true := by decide +kernel
set_option maxRecDepth 65536 in
theorem w_t3 : (((words1.drop 24).drop 24).take 24).all (fun c => isCode c || c.before args0 about1) = true := by decide +kernel
set_option maxRecDepth 65536 in
theorem w_t4 : ((((words1.drop 24).drop 24).drop 24).take 24).all (fun c => isCode c || c.before args0 about1) = true := by decide +kernel
set_option maxRecDepth 65536 in
theorem w_t5 : (((((words1.drop 24).drop 24).drop 24).drop 24).take 24).all (fun c => isCode c || c.before args0 about1) = true := by decide +kernel
set_option maxRecDepth 65536 in
theorem w_t6 : ((((((words1.drop 24).drop 24).drop 24).drop 24).drop 24).take 24).all (fun c => isCode c || c.before args0 about1) = true := by decide +kernel
set_option maxRecDepth 65536 in
theorem w_t7 : (((((((words1.drop 24).drop 24).drop 24).drop 24).drop 24).drop 24).take 24).all (fun c => isCode c || c.before args0 about1) = true := by decide +kernel
set_option maxRecDepth 65536 in
theorem w_t8 : ((((((((words1.drop 24).drop 24).drop 24).drop 24).drop 24).drop 24).drop 24).take 24).all (fun c => isCode c || c.before args0 about1) = true := by decide +kernel
set_option maxRecDepth 65536 in
theorem w_t9 : ((((((((words1.drop 24).drop 24).drop 24).drop 24).drop 24).drop 24).drop 24).drop 24).all (fun c => isCode c || c.before args0 about1) = true := by decide +kernel
theorem w_tables : (allAtoms (Jvm.Cond.code x code maxLocals ret :: tables_1)).before args0 about1 = true := by
  rw [allAtoms_all]
  show words1.all (fun c => c.before args0 about1) = true
  refine all_split ?_ w_codes
  rw [← List.take_append_drop 24 words1, List.all_append, w_t1, ← List.take_append_drop 24 (words1.drop 24), List.all_append, w_t2, ← List.take_append_drop 24 ((words1.drop 24).drop 24), List.all_append, w_t3, ← List.take_append_drop 24 (((words1.drop 24).drop 24).drop 24), List.all_append, w_t4, ← List.take_append_drop 24 ((((words1.drop 24).drop 24).drop 24).drop 24), List.all_append, w_t5, ← List.take_append_drop 24 (((((words1.drop 24).drop 24).drop 24).drop 24).drop 24), List.all_append, w_t6, ← List.take_append_drop 24 ((((((words1.drop 24).drop 24).drop 24).drop 24).drop 24).drop 24), List.all_append, w_t7, ← List.take_append_drop 24 (((((((words1.drop 24).drop 24).drop 24).drop 24).drop 24).drop 24).drop 24), List.all_append, w_t8, w_t9]
  rfl
set_option maxRecDepth 65536 in
theorem w_rest : rest_1_c.before args0 about1 = true := by decide +kernel
set_option maxRecDepth 65536 in
theorem w_case : (Jvm.Cond.and given_1 narrow_1).before args0 about1 = true := by decide +kernel
theorem w_applies : (headSpec (Jvm.Cond.code x code maxLocals ret :: tables_1) room_1).applies x e0.platform about1 = true :=
  (Spec.applies_iff w_frames).mpr ⟨w_running, w_runnable, w_alone, w_named, w_hears, w_ripe, w_room, w_tables⟩
theorem atStart : AtStart classFile x code maxLocals ret World_1 tables_1 room_1 Calls_1 rest_1 Pre_1 launch0 p0 e0 about1 theMethod args0 below0 :=
  ⟨lists_1, trivial, launch0.admits_env _ _ _, launch0.least_env, fairChoices_fair.cas, fairChoices_fair.clock, w_frames, w_args, w_heap, w_applies, trivial, w_rest, w_case⟩
end start1
theorem witness_1 : WitnessClaimed_1 := ⟨start1.p0, start1.e0, start1.about1, start1.theMethod, start1.args0, start1.below0, start1.atStart⟩
end Jvm.Pilot.@@N@@
