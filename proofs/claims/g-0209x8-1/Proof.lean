import JvmDerived
import JvmDerived.Pilot.@@N@@Statement
import JvmDerived.Pilot.@@N@@Code
set_option linter.unusedVariables false
set_option linter.unusedSimpArgs false
set_option maxRecDepth 20000
namespace Jvm.JX
open Sem ClassFile Op Lib
abbrev Cel : Type := FieldType × Nat × Bool × (Nat → Value)
abbrev AH : Type := Nat × (Nat → Cel)
abbrev MInfo : Type := Nat × Nat × Nat × Option FieldType × Jvm.Room
abbrev Prog : Type := (Nat → Nat → Option (Instr × Nat × Int)) × (Nat → MInfo) × (Nat → FieldType) × Nat
abbrev Fm : Type := Nat × List Slot × List Value × Nat × Nat × AH
def na (P : Prog) (m : Nat) : Nat := (P.2.1 m).1
def ml (P : Prog) (m : Nat) : Nat := (P.2.1 m).2.1
def kd (P : Prog) (m : Nat) : Nat := (P.2.1 m).2.2.1
def rt (P : Prog) (m : Nat) : Option FieldType := (P.2.1 m).2.2.2.1
def rm (P : Prog) (m : Nat) : Jvm.Room := (P.2.1 m).2.2.2.2
def isO (H : AH) (a : Nat) : Bool := match (H.2 a).1 with | .object _ => true | _ => false
def isOw (H : AH) (a : Nat) : Bool := isO H a && (H.2 a).2.2.1
def inA (H : AH) (a : Nat) (t : FieldType) (i : Int32) : Bool := decide ((H.2 a).1 = .array t) && !decide (i < 0) && decide (i.toNatClampNeg < (H.2 a).2.1)
def inAw (H : AH) (a : Nat) (t : FieldType) (i : Int32) : Bool := inA H a t i && (H.2 a).2.2.1
def isA (H : AH) (a : Nat) : Bool := match (H.2 a).1 with | .array _ => true | _ => false
def elt (H : AH) (a : Nat) (i : Int32) : Value := (H.2 a).2.2.2 i.toNatClampNeg
def fld (H : AH) (a k : Nat) : Value := (H.2 a).2.2.2 k
def alen (H : AH) (a : Nat) : Nat := (H.2 a).2.1
def wr (H : AH) (a j : Nat) (v : Value) : AH := (H.1, fun b => if b = a then ((H.2 a).1, (H.2 a).2.1, (H.2 a).2.2.1, fun i => if i = j then v else (H.2 a).2.2.2 i) else H.2 b)
def okv : FieldType → Value → Bool
  | .int, .int _ => true
  | .boolean, .int z => z == 0 || z == 1
  | .byte, .int z => z.toInt8.toInt32 == z
  | .long, .long _ => true
  | .array _, .ref _ => true
  | _, _ => false
def mkO (P : Prog) (H : AH) : AH := (H.1 + 1, fun b => if b = H.1 then (.object "", P.2.2.2, true, fun k => defaultValue (P.2.2.1 k)) else H.2 b)
def mkA (t : FieldType) (n : Nat) (H : AH) : AH := (H.1 + 1, fun b => if b = H.1 then (.array t, n, true, fun _ => defaultValue t) else H.2 b)
def cat1 : Slot → Bool | .unset => true | .val v => v.category == 1 | .second => false
def cs (S : List Value) : Nat := (S.map fun v => v.category).sum
def stl (L : List Slot) (i : Nat) (v : Value) : Option (List Slot) :=
  match L[i]? with
  | some .unset => some (L.set i (.val v))
  | some (.val w) => if w.category = 1 then some (L.set i (.val v)) else if i + 1 < L.length then some ((L.set (i + 1) .unset).set i (.val v)) else none
  | some .second => if 1 ≤ i then some ((L.set (i - 1) .unset).set i (.val v)) else none
  | none => none
def lng : Slot → Bool | .val v => v.category == 2 | _ => false
def stL (L : List Slot) (i : Nat) (v : Value) : Option (List Slot) :=
  match L[i]?, L[i + 1]? with
  | some (.val w), some o2 => if w.category = 2 then some ((L.set i (.val v)).set (i + 1) .second) else if cat1 o2 = true then some ((L.set i (.val v)).set (i + 1) .second) else if lng o2 = true ∧ i + 2 < L.length then some (((L.set i (.val v)).set (i + 2) .unset).set (i + 1) .second) else none
  | some .unset, some o2 => if cat1 o2 = true then some ((L.set i (.val v)).set (i + 1) .second) else if lng o2 = true ∧ i + 2 < L.length then some (((L.set i (.val v)).set (i + 2) .unset).set (i + 1) .second) else none
  | some .second, some o2 => if 1 ≤ i then (if cat1 o2 = true then some (((L.set (i - 1) .unset).set i (.val v)).set (i + 1) .second) else if lng o2 = true ∧ i + 2 < L.length then some ((((L.set (i - 1) .unset).set i (.val v)).set (i + 2) .unset).set (i + 1) .second) else none) else none
  | _, _ => none
def ent (P : Prog) (m : Nat) (a : List Value) : List Slot := Sym.laidSlots a ++ List.replicate (ml P m - (Sym.laidSlots a).length) .unset
def ilen : Instr → Nat
  | .bipush _ | .iload _ | .istore _ | .aload _ | .astore _ | .lload _ | .lstore _ | .newarray _ | .ldc _ => 2
  | .sipush _ | .getfield _ | .putfield _ | .new _ | .invokevirtual _ | .invokestatic _ | .invokespecial _ | .ldc2_w _ | .goto _ | .ifCond _ _ | .if_icmp _ _ | .iinc _ _ => 3
  | _ => 1
def ldI (L : List Slot) (i : Nat) : Option Value := match L[i]? with | some (.val (.int x)) => some (.int x) | _ => none
def ldJ (L : List Slot) (i : Nat) : Option Value := match L[i]? with | some (.val (.long x)) => some (.long x) | _ => none
def ldR (L : List Slot) (i : Nat) : Option Value := match L[i]? with | some (.val (.ref x)) => some (.ref x) | _ => none
def jmp (pc : Nat) (o : Int) : Option Nat := if 0 ≤ (pc : Int) + o then some ((pc : Int) + o).toNat else none
def ret (P : Prog) (m : Nat) (ins : Instr) (S : List Value) : Option (Option Value) :=
  match ins with
  | .return_ => if rt P m = none ∧ S = [] then some none else none
  | .ireturn => match S, rt P m with
    | .int z :: _, some .int => some (some (.int z))
    | .int z :: _, some .boolean => if z = 0 ∨ z = 1 then some (some (.int z)) else none
    | _, _ => none
  | .lreturn => match S, rt P m with
    | .long z :: _, some .long => some (some (.long z))
    | _, _ => none
  | _ => none
def rcv (H : AH) : List Value → Bool | .ref a :: _ => isO H a | _ => false
def may (P : Prog) (m m' : Nat) (a r : List Value) (k n : Nat) (H : AH) : Bool :=
  decide ((Sym.laidSlots a).length ≤ ml P m') && decide (a.length = na P m') && decide ((rm P m').frames + 1 ≤ (rm P m).frames) && decide (cs r + (ml P m' + 11) + (rm P m').locals ≤ (rm P m).locals)
    && (decide ((rm P m').cells = 0 ∧ (rm P m').slots = 0) || decide (k + (rm P m').cells ≤ (rm P m).cells ∧ n + (rm P m').slots ≤ (rm P m).slots))
    && (decide (kd P m' = 0) || rcv H a)
def kindOk : Instr → Nat → Bool
  | .invokevirtual _, k => k == 1 || k == 2
  | .invokestatic _, k => k == 0
  | .invokespecial _, k => k == 3
  | _, _ => false
def cal1 (P : Prog) (m : Nat) (ins : Instr) (aux : Int) (S : List Value) (k n : Nat) (H : AH) : Option (Nat × List Value × List Value) :=
  if 0 ≤ aux ∧ kindOk ins (kd P aux.toNat) = true ∧ may P m aux.toNat (S.take (na P aux.toNat)).reverse (S.drop (na P aux.toNat)) k n H = true
  then some (aux.toNat, (S.take (na P aux.toNat)).reverse, S.drop (na P aux.toNat)) else none
def cal (P : Prog) (m : Nat) (ins : Instr) (aux : Int) (S : List Value) (k n : Nat) (H : AH) : Option (Nat × List Value × List Value) :=
  match ins with
  | .invokevirtual _ | .invokestatic _ | .invokespecial _ => cal1 P m ins aux S k n H
  | _ => none
def opI : Instr → Option (Int32 → Int32 → Int32)
  | .iadd => some fun x y => x + y
  | .isub => some fun x y => x - y
  | .imul => some fun x y => x * y
  | .iand => some fun x y => x &&& y
  | .ior => some fun x y => x ||| y
  | .ixor => some fun x y => x ^^^ y
  | .ishl => some fun x y => x <<< (y &&& 31)
  | .ishr => some fun x y => x >>> (y &&& 31)
  | .iushr => some Jvm.Free.XT.ushr
  | _ => none
def opJ : Instr → Option (Int64 → Int64 → Int64)
  | .ladd => some fun x y => x + y
  | .lsub => some fun x y => x - y
  | .lmul => some fun x y => x * y
  | .land => some fun x y => x &&& y
  | .lor => some fun x y => x ||| y
  | .lxor => some fun x y => x ^^^ y
  | _ => none
def opS : Instr → Option (Int64 → Int32 → Int64)
  | .lshl => some fun x y => x <<< (y.toInt64 &&& 63)
  | .lshr => some fun x y => x >>> (y.toInt64 &&& 63)
  | .lushr => some Jvm.Free.XT.ushrL
  | _ => none
def stp (P : Prog) (m : Nat) (ins : Instr) (len : Nat) (aux : Int) (pc : Nat) (L : List Slot) (S : List Value) (k n : Nat) (H : AH) : Option Fm :=
  match ins with
  | .iconst i => some (pc + len, L, .int (Int32.ofInt i) :: S, k, n, H)
  | .bipush i => some (pc + len, L, .int (Int8.ofInt i).toInt32 :: S, k, n, H)
  | .sipush i => some (pc + len, L, .int (Int16.ofInt i).toInt32 :: S, k, n, H)
  | .lconst i => some (pc + len, L, .long (Int64.ofNat i) :: S, k, n, H)
  | .ldc _ => some (pc + len, L, .int (Int32.ofInt aux) :: S, k, n, H)
  | .ldc2_w _ => some (pc + len, L, .long (Int64.ofInt aux) :: S, k, n, H)
  | .iload i => (ldI L i).map fun v => (pc + len, L, v :: S, k, n, H)
  | .iload_n i => (ldI L i.val).map fun v => (pc + len, L, v :: S, k, n, H)
  | .lload i => (ldJ L i).map fun v => (pc + len, L, v :: S, k, n, H)
  | .lload_n i => (ldJ L i.val).map fun v => (pc + len, L, v :: S, k, n, H)
  | .aload i => (ldR L i).map fun v => (pc + len, L, v :: S, k, n, H)
  | .aload_n i => (ldR L i.val).map fun v => (pc + len, L, v :: S, k, n, H)
  | .istore i => match S with | .int x :: S => (stl L i (.int x)).map fun L => (pc + len, L, S, k, n, H) | _ => none
  | .istore_n i => match S with | .int x :: S => (stl L i.val (.int x)).map fun L => (pc + len, L, S, k, n, H) | _ => none
  | .astore i => match S with | .ref x :: S => (stl L i (.ref x)).map fun L => (pc + len, L, S, k, n, H) | _ => none
  | .astore_n i => match S with | .ref x :: S => (stl L i.val (.ref x)).map fun L => (pc + len, L, S, k, n, H) | _ => none
  | .lstore i => match S with | .long x :: S => (stL L i (.long x)).map fun L => (pc + len, L, S, k, n, H) | _ => none
  | .lstore_n i => match S with | .long x :: S => (stL L i.val (.long x)).map fun L => (pc + len, L, S, k, n, H) | _ => none
  | .iinc i c => match L[i]? with | some (.val (.int x)) => some (pc + len, L.set i (.val (.int (x + Int32.ofInt c))), S, k, n, H) | _ => none
  | .iadd | .isub | .imul | .iand | .ior | .ixor | .ishl | .ishr | .iushr => match S with | .int y :: .int x :: S => (opI ins).map fun f => (pc + len, L, .int (f x y) :: S, k, n, H) | _ => none
  | .ladd | .lsub | .lmul | .land | .lor | .lxor => match S with | .long y :: .long x :: S => (opJ ins).map fun f => (pc + len, L, .long (f x y) :: S, k, n, H) | _ => none
  | .lshl | .lshr | .lushr => match S with | .int y :: .long x :: S => (opS ins).map fun f => (pc + len, L, .long (f x y) :: S, k, n, H) | _ => none
  | .idiv => match S with | .int y :: .int x :: S => if y = 0 then none else some (pc + len, L, .int (x / y) :: S, k, n, H) | _ => none
  | .irem => match S with | .int y :: .int x :: S => if y = 0 then none else some (pc + len, L, .int (x % y) :: S, k, n, H) | _ => none
  | .ldiv => match S with | .long y :: .long x :: S => if y = 0 then none else some (pc + len, L, .long (x / y) :: S, k, n, H) | _ => none
  | .lrem => match S with | .long y :: .long x :: S => if y = 0 then none else some (pc + len, L, .long (x % y) :: S, k, n, H) | _ => none
  | .ineg => match S with | .int x :: S => some (pc + len, L, .int (-x) :: S, k, n, H) | _ => none
  | .lneg => match S with | .long x :: S => some (pc + len, L, .long (-x) :: S, k, n, H) | _ => none
  | .i2l => match S with | .int x :: S => some (pc + len, L, .long x.toInt64 :: S, k, n, H) | _ => none
  | .l2i => match S with | .long x :: S => some (pc + len, L, .int x.toInt32 :: S, k, n, H) | _ => none
  | .i2b => match S with | .int x :: S => some (pc + len, L, .int x.toInt8.toInt32 :: S, k, n, H) | _ => none
  | .lcmp => match S with | .long y :: .long x :: S => some (pc + len, L, .int (Jvm.Free.XT.cmpL x y) :: S, k, n, H) | _ => none
  | .dup => match S with | v :: S => if v.category = 1 then some (pc + len, L, v :: v :: S, k, n, H) else none | _ => none
  | .dup2 => match S with
    | .long x :: S => some (pc + len, L, .long x :: .long x :: S, k, n, H)
    | v :: w :: S => if v.category = 1 ∧ w.category = 1 then some (pc + len, L, v :: w :: v :: w :: S, k, n, H) else none
    | _ => none
  | .pop => match S with | v :: S => if v.category = 1 then some (pc + len, L, S, k, n, H) else none | _ => none
  | .goto o => (jmp pc o).map fun q => (q, L, S, k, n, H)
  | .ifCond c o => match S with | .int x :: S => if ifCond.holds c x = true then (jmp pc o).map fun q => (q, L, S, k, n, H) else some (pc + len, L, S, k, n, H) | _ => none
  | .if_icmp c o => match S with | .int y :: .int x :: S => if if_icmp.holds c x y = true then (jmp pc o).map fun q => (q, L, S, k, n, H) else some (pc + len, L, S, k, n, H) | _ => none
  | .tableswitch d lo hi os => match S with
    | .int x :: S => if x.toInt < lo ∨ x.toInt > hi then (jmp pc d).map fun q => (q, L, S, k, n, H) else (os[(x.toInt - lo).toNat]?).bind fun o => (jmp pc o).map fun q => (q, L, S, k, n, H)
    | _ => none
  | .getfield _ => match S with | .ref a :: S => if isO H a = true then some (pc + len, L, fld H a aux.toNat :: S, k, n, H) else none | _ => none
  | .putfield _ => match S with | v :: .ref a :: S => if isOw H a = true ∧ okv (P.2.2.1 aux.toNat) v = true then some (pc + len, L, S, k, n, wr H a aux.toNat v) else none | _ => none
  | .iaload => match S with | .int i :: .ref a :: S => if inA H a .int i = true then some (pc + len, L, elt H a i :: S, k, n, H) else none | _ => none
  | .laload => match S with | .int i :: .ref a :: S => if inA H a .long i = true then some (pc + len, L, elt H a i :: S, k, n, H) else none | _ => none
  | .baload => match S with | .int i :: .ref a :: S => if inA H a .byte i = true ∨ inA H a .boolean i = true then some (pc + len, L, elt H a i :: S, k, n, H) else none | _ => none
  | .iastore => match S with | .int x :: .int i :: .ref a :: S => if inAw H a .int i = true then some (pc + len, L, S, k, n, wr H a i.toNatClampNeg (.int x)) else none | _ => none
  | .lastore => match S with | .long x :: .int i :: .ref a :: S => if inAw H a .long i = true then some (pc + len, L, S, k, n, wr H a i.toNatClampNeg (.long x)) else none | _ => none
  | .bastore => match S with
    | .int x :: .int i :: .ref a :: S => if (inAw H a .byte i = true ∧ okv .byte (.int x) = true) ∨ (inAw H a .boolean i = true ∧ okv .boolean (.int x) = true) then some (pc + len, L, S, k, n, wr H a i.toNatClampNeg (.int x)) else none
    | _ => none
  | .arraylength => match S with | .ref a :: S => if isA H a = true then some (pc + len, L, .int (alen H a).toInt32 :: S, k, n, H) else none | _ => none
  | .newarray t => match S with | .int c :: S => if ¬ c < 0 ∧ c.toNatClampNeg * 8 ≤ 536870912 ∧ k + 1 ≤ (rm P m).cells ∧ n + c.toNatClampNeg ≤ (rm P m).slots then some (pc + len, L, .ref H.1 :: S, k + 1, n + c.toNatClampNeg, mkA (newarray.typeOf t) c.toNatClampNeg H) else none | _ => none
  | .new _ => if 0 ≤ aux ∧ k + 1 ≤ (rm P m).cells ∧ n + aux.toNat ≤ (rm P m).slots then some (pc + len, L, .ref H.1 :: S, k + 1, n + aux.toNat, mkO P H) else none
  | .invokespecial _ => match S with | .ref a :: S => if aux = -1 ∧ 1 ≤ (rm P m).frames ∧ cs S + 12 ≤ (rm P m).locals then some (pc + len, L, S, k, n, H) else none | _ => none
  | _ => none
def run (P : Prog) : Nat → Nat → Nat → List Slot → List Value → Nat → Nat → AH → Option (Option Value × AH)
  | 0, _, _, _, _, _, _, _ => none
  | f + 1, m, pc, L, S, k, n, H =>
    match P.1 m pc with
    | none => none
    | some d =>
      match ret P m d.1 S with
      | some v => some (v, H)
      | none => match cal P m d.1 d.2.2 S k n H with
        | some c => match run P f c.1 0 (ent P c.1 c.2.1) [] 0 0 H with
          | none => none
          | some r => run P f m (pc + d.2.1) L (r.1.toList ++ c.2.2) (k + (rm P c.1).cells) (n + (rm P c.1).slots) r.2
        | none => match stp P m d.1 d.2.1 d.2.2 pc L S k n H with
          | none => none
          | some q => run P f m q.1 q.2.1 q.2.2.1 q.2.2.2.1 q.2.2.2.2.1 q.2.2.2.2.2
end Jvm.JX

namespace Jvm.JX
open Sem ClassFile Op Lib
section
variable {P : Prog}
theorem run_succ (f m pc : Nat) (L : List Slot) (S : List Value) (k n : Nat) (H : AH) : run P (f + 1) m pc L S k n H =
    match P.1 m pc with
    | none => none
    | some d =>
      match ret P m d.1 S with
      | some v => some (v, H)
      | none => match cal P m d.1 d.2.2 S k n H with
        | some c => match run P f c.1 0 (ent P c.1 c.2.1) [] 0 0 H with
          | none => none
          | some r => run P f m (pc + d.2.1) L (r.1.toList ++ c.2.2) (k + (rm P c.1).cells) (n + (rm P c.1).slots) r.2
        | none => match stp P m d.1 d.2.1 d.2.2 pc L S k n H with
          | none => none
          | some q => run P f m q.1 q.2.1 q.2.2.1 q.2.2.2.1 q.2.2.2.2.1 q.2.2.2.2.2 := rfl
theorem run_mono : ∀ (f m pc : Nat) (L : List Slot) (S : List Value) (k n : Nat) (H : AH) (r : Option Value × AH), run P f m pc L S k n H = some r → run P (f + 1) m pc L S k n H = some r := by
  intro f
  induction f with
  | zero => intro m pc L S k n H r h; cases h
  | succ f ih =>
    intro m pc L S k n H r h
    rw [run_succ] at h ⊢
    cases hd : P.1 m pc with
    | none => rw [hd] at h; cases h
    | some d =>
      rw [hd] at h
      simp only at h ⊢
      cases hr : ret P m d.1 S with
      | some v => rw [hr] at h; exact h
      | none =>
        rw [hr] at h
        simp only at h ⊢
        cases hc : cal P m d.1 d.2.2 S k n H with
        | some c =>
          rw [hc] at h
          simp only at h ⊢
          cases hq : run P f c.1 0 (ent P c.1 c.2.1) [] 0 0 H with
          | none => rw [hq] at h; cases h
          | some q =>
            rw [hq] at h
            rw [ih _ _ _ _ _ _ _ _ hq]
            exact ih _ _ _ _ _ _ _ _ h
        | none =>
          rw [hc] at h
          simp only at h ⊢
          cases hs : stp P m d.1 d.2.1 d.2.2 pc L S k n H with
          | none => rw [hs] at h; cases h
          | some q => rw [hs] at h; exact ih _ _ _ _ _ _ _ _ h
theorem run_le {f g : Nat} (hfg : f ≤ g) {m pc : Nat} {L : List Slot} {S : List Value} {k n : Nat} {H : AH} {r : Option Value × AH} (h : run P f m pc L S k n H = some r) : run P g m pc L S k n H = some r := by
  induction hfg with
  | refl => exact h
  | step _ ih => exact run_mono _ _ _ _ _ _ _ _ _ ih
end
def W (P : Prog) (m pc : Nat) (L : List Slot) (S : List Value) (k n : Nat) (H : AH) (Q : Option Value → AH → Prop) : Prop := ∃ f v H', run P f m pc L S k n H = some (v, H') ∧ Q v H'
def Cl (P : Prog) (m : Nat) (a : List Value) (H : AH) (Q : Option Value → AH → Prop) : Prop := W P m 0 (ent P m a) [] 0 0 H Q
section Rules
variable {P : Prog} {m pc : Nat} {L : List Slot} {S : List Value} {k n : Nat} {H : AH} {Q : Option Value → AH → Prop} {ins : Instr} {len : Nat} {aux : Int}
theorem W_r {v : Option Value} (hd : P.1 m pc = some (ins, len, aux)) (hr : ret P m ins S = some v) : W P m pc L S k n H Q ↔ Q v H := by
  constructor
  · rintro ⟨f, v', H', h1, h2⟩
    cases f with
    | zero => cases h1
    | succ f => rw [run_succ, hd] at h1; simp only [hr] at h1; cases h1; exact h2
  · intro h
    refine ⟨1, v, H, ?_, h⟩
    rw [run_succ, hd]; simp only [hr]
theorem W_c {m' : Nat} {a r : List Value} (hd : P.1 m pc = some (ins, len, aux)) (hr : ret P m ins S = none) (hc : cal P m ins aux S k n H = some (m', a, r)) :
    W P m pc L S k n H Q ↔ Cl P m' a H (fun v H' => W P m (pc + len) L (v.toList ++ r) (k + (rm P m').cells) (n + (rm P m').slots) H' Q) := by
  constructor
  · rintro ⟨f, v', H', h1, h2⟩
    cases f with
    | zero => cases h1
    | succ f =>
      rw [run_succ, hd] at h1; simp only [hr, hc] at h1
      cases hq : run P f m' 0 (ent P m' a) [] 0 0 H with
      | none => rw [hq] at h1; cases h1
      | some q => rw [hq] at h1; exact ⟨f, q.1, q.2, hq, f, v', H', h1, h2⟩
  · rintro ⟨f, v, H', h1, g, v', H'', h2, h3⟩
    refine ⟨max f g + 1, v', H'', ?_, h3⟩
    rw [run_succ, hd]; simp only [hr, hc]
    rw [run_le (Nat.le_max_left f g) h1]
    exact run_le (Nat.le_max_right f g) h2
theorem W_q (hd : P.1 m pc = some (ins, len, aux)) (hr : ret P m ins S = none) (hc : cal P m ins aux S k n H = none) :
    W P m pc L S k n H Q ↔ ∃ q, stp P m ins len aux pc L S k n H = some q ∧ W P m q.1 q.2.1 q.2.2.1 q.2.2.2.1 q.2.2.2.2.1 q.2.2.2.2.2 Q := by
  constructor
  · rintro ⟨f, v', H', h1, h2⟩
    cases f with
    | zero => cases h1
    | succ f =>
      rw [run_succ, hd] at h1; simp only [hr, hc] at h1
      cases hq : stp P m ins len aux pc L S k n H with
      | none => rw [hq] at h1; cases h1
      | some q => rw [hq] at h1; exact ⟨q, rfl, f, v', H', h1, h2⟩
  · rintro ⟨q, hq, f, v', H', h1, h2⟩
    refine ⟨f + 1, v', H', ?_, h2⟩
    rw [run_succ, hd]; simp only [hr, hc, hq]; exact h1
theorem W_s {pc' : Nat} {L' : List Slot} {S' : List Value} {k' n' : Nat} {H' : AH} (hd : P.1 m pc = some (ins, len, aux)) (hr : ret P m ins S = none) (hc : cal P m ins aux S k n H = none)
    (hs : stp P m ins len aux pc L S k n H = some (pc', L', S', k', n', H')) : W P m pc L S k n H Q ↔ W P m pc' L' S' k' n' H' Q := by
  rw [W_q hd hr hc, hs]
  exact ⟨fun ⟨q, e, h⟩ => by cases e; exact h, fun h => ⟨_, rfl, h⟩⟩
theorem W_g {G : Prop} [Decidable G] {pc' : Nat} {L' : List Slot} {S' : List Value} {k' n' : Nat} {H' : AH} (hd : P.1 m pc = some (ins, len, aux)) (hr : ret P m ins S = none) (hc : cal P m ins aux S k n H = none)
    (hs : stp P m ins len aux pc L S k n H = if G then some (pc', L', S', k', n', H') else none) : W P m pc L S k n H Q ↔ (G ∧ W P m pc' L' S' k' n' H' Q) := by
  rw [W_q hd hr hc, hs]
  by_cases g : G
  · rw [if_pos g]; exact ⟨fun ⟨q, e, h⟩ => by cases e; exact ⟨g, h⟩, fun h => ⟨_, rfl, h.2⟩⟩
  · rw [if_neg g]; exact ⟨fun ⟨q, e, h⟩ => (by cases e), fun h => absurd h.1 g⟩
theorem W_n {G : Prop} [Decidable G] {pc' : Nat} {L' : List Slot} {S' : List Value} {k' n' : Nat} {H' : AH} (hd : P.1 m pc = some (ins, len, aux)) (hr : ret P m ins S = none) (hc : cal P m ins aux S k n H = none)
    (hs : stp P m ins len aux pc L S k n H = if G then none else some (pc', L', S', k', n', H')) : W P m pc L S k n H Q ↔ (¬ G ∧ W P m pc' L' S' k' n' H' Q) := by
  rw [W_q hd hr hc, hs]
  by_cases g : G
  · rw [if_pos g]; exact ⟨fun ⟨q, e, h⟩ => (by cases e), fun h => absurd g h.1⟩
  · rw [if_neg g]; exact ⟨fun ⟨q, e, h⟩ => by cases e; exact ⟨g, h⟩, fun h => ⟨_, rfl, h.2⟩⟩
theorem W_f {G : Prop} [Decidable G] {q1 q2 : Fm} (hd : P.1 m pc = some (ins, len, aux)) (hr : ret P m ins S = none) (hc : cal P m ins aux S k n H = none)
    (hs : stp P m ins len aux pc L S k n H = if G then some q1 else some q2) : W P m pc L S k n H Q ↔ (if G then W P m q1.1 q1.2.1 q1.2.2.1 q1.2.2.2.1 q1.2.2.2.2.1 q1.2.2.2.2.2 Q else W P m q2.1 q2.2.1 q2.2.2.1 q2.2.2.2.1 q2.2.2.2.2.1 q2.2.2.2.2.2 Q) := by
  rw [W_q hd hr hc, hs]
  by_cases g : G
  · rw [if_pos g, if_pos g]; exact ⟨fun ⟨q, e, h⟩ => by cases e; exact h, fun h => ⟨_, rfl, h⟩⟩
  · rw [if_neg g, if_neg g]; exact ⟨fun ⟨q, e, h⟩ => by cases e; exact h, fun h => ⟨_, rfl, h⟩⟩
section Cmp
variable {x y : Int32} {o : Int} {q : Nat}
theorem W_icmp_eq (hd : P.1 m pc = some (.if_icmp .eq o, len, aux)) (hj : jmp pc o = some q) : W P m pc L (.int y :: .int x :: S) k n H Q ↔ (if x = y then W P m q L S k n H Q else W P m (pc + len) L S k n H Q) :=
  W_f (G := x = y) (q1 := (q, L, S, k, n, H)) (q2 := (pc + len, L, S, k, n, H)) hd rfl rfl (by simp only [stp, hj, if_icmp.holds]; by_cases h : x = y <;> simp [h])
theorem W_icmp_ne (hd : P.1 m pc = some (.if_icmp .ne o, len, aux)) (hj : jmp pc o = some q) : W P m pc L (.int y :: .int x :: S) k n H Q ↔ (if x = y then W P m (pc + len) L S k n H Q else W P m q L S k n H Q) :=
  W_f (G := x = y) (q1 := (pc + len, L, S, k, n, H)) (q2 := (q, L, S, k, n, H)) hd rfl rfl (by simp only [stp, hj, if_icmp.holds]; by_cases h : x = y <;> simp [h])
theorem W_icmp_lt (hd : P.1 m pc = some (.if_icmp .lt o, len, aux)) (hj : jmp pc o = some q) : W P m pc L (.int y :: .int x :: S) k n H Q ↔ (if x < y then W P m q L S k n H Q else W P m (pc + len) L S k n H Q) :=
  W_f (G := x < y) (q1 := (q, L, S, k, n, H)) (q2 := (pc + len, L, S, k, n, H)) hd rfl rfl (by
    by_cases h : x < y
    · simp [stp, hj, Jvm.Free.XT.ii_lt_t h, h]
    · simp [stp, hj, Jvm.Free.XT.ii_lt_f h, h])
theorem W_icmp_ge (hd : P.1 m pc = some (.if_icmp .ge o, len, aux)) (hj : jmp pc o = some q) : W P m pc L (.int y :: .int x :: S) k n H Q ↔ (if x < y then W P m (pc + len) L S k n H Q else W P m q L S k n H Q) :=
  W_f (G := x < y) (q1 := (pc + len, L, S, k, n, H)) (q2 := (q, L, S, k, n, H)) hd rfl rfl (by
    by_cases h : x < y
    · simp [stp, hj, Jvm.Free.XT.ii_ge_f h, h]
    · simp [stp, hj, Jvm.Free.XT.ii_ge_t h, h])
theorem W_icmp_gt (hd : P.1 m pc = some (.if_icmp .gt o, len, aux)) (hj : jmp pc o = some q) : W P m pc L (.int y :: .int x :: S) k n H Q ↔ (if y < x then W P m q L S k n H Q else W P m (pc + len) L S k n H Q) :=
  W_f (G := y < x) (q1 := (q, L, S, k, n, H)) (q2 := (pc + len, L, S, k, n, H)) hd rfl rfl (by
    by_cases h : y < x
    · simp [stp, hj, Jvm.Free.XT.ii_gt_t h, h]
    · simp [stp, hj, Jvm.Free.XT.ii_gt_f h, h])
theorem W_icmp_le (hd : P.1 m pc = some (.if_icmp .le o, len, aux)) (hj : jmp pc o = some q) : W P m pc L (.int y :: .int x :: S) k n H Q ↔ (if y < x then W P m (pc + len) L S k n H Q else W P m q L S k n H Q) :=
  W_f (G := y < x) (q1 := (pc + len, L, S, k, n, H)) (q2 := (q, L, S, k, n, H)) hd rfl rfl (by
    by_cases h : y < x
    · simp [stp, hj, Jvm.Free.XT.ii_le_f h, h]
    · simp [stp, hj, Jvm.Free.XT.ii_le_t h, h])
theorem W_if_eq (hd : P.1 m pc = some (.ifCond .eq o, len, aux)) (hj : jmp pc o = some q) : W P m pc L (.int x :: S) k n H Q ↔ (if x = 0 then W P m q L S k n H Q else W P m (pc + len) L S k n H Q) :=
  W_f (G := x = 0) (q1 := (q, L, S, k, n, H)) (q2 := (pc + len, L, S, k, n, H)) hd rfl rfl (by
    by_cases h : x = 0
    · have e := Jvm.Free.XT.i0_eq_t h; simp only [stp, hj, e, if_pos h, if_true, Option.map_some]
    · simp [stp, hj, Jvm.Free.XT.i0_eq_f h, h])
theorem W_if_ne (hd : P.1 m pc = some (.ifCond .ne o, len, aux)) (hj : jmp pc o = some q) : W P m pc L (.int x :: S) k n H Q ↔ (if x = 0 then W P m (pc + len) L S k n H Q else W P m q L S k n H Q) :=
  W_f (G := x = 0) (q1 := (pc + len, L, S, k, n, H)) (q2 := (q, L, S, k, n, H)) hd rfl rfl (by
    by_cases h : x = 0
    · have e := Jvm.Free.XT.i0_ne_f h; simp only [stp, hj, e, if_pos h, Bool.false_eq_true, if_false]
    · simp [stp, hj, Jvm.Free.XT.i0_ne_t h, h])
theorem W_if_lt (hd : P.1 m pc = some (.ifCond .lt o, len, aux)) (hj : jmp pc o = some q) : W P m pc L (.int x :: S) k n H Q ↔ (if x < 0 then W P m q L S k n H Q else W P m (pc + len) L S k n H Q) :=
  W_f (G := x < 0) (q1 := (q, L, S, k, n, H)) (q2 := (pc + len, L, S, k, n, H)) hd rfl rfl (by
    by_cases h : x < 0
    · simp [stp, hj, Jvm.Free.XT.i0_lt_t h, h]
    · simp [stp, hj, Jvm.Free.XT.i0_lt_f h, h])
theorem W_if_le (hd : P.1 m pc = some (.ifCond .le o, len, aux)) (hj : jmp pc o = some q) : W P m pc L (.int x :: S) k n H Q ↔ (if 0 < x then W P m (pc + len) L S k n H Q else W P m q L S k n H Q) :=
  W_f (G := 0 < x) (q1 := (pc + len, L, S, k, n, H)) (q2 := (q, L, S, k, n, H)) hd rfl rfl (by
    by_cases h : 0 < x
    · simp [stp, hj, Jvm.Free.XT.i0_le_f h, h]
    · simp [stp, hj, Jvm.Free.XT.i0_le_t h, h])
theorem W_goto (hd : P.1 m pc = some (.goto o, len, aux)) (hj : jmp pc o = some q) : W P m pc L S k n H Q ↔ W P m q L S k n H Q := W_s hd rfl rfl (by simp [stp, hj])
end Cmp
section Sto
variable {i : Nat} {o o2 : Slot} {x y : Int32} {v : Value} {l : Int64} {a : Nat}
theorem stl_plain (h : L[i]? = some o) (ho : cat1 o = true) : stl L i v = some (L.set i (.val v)) := by
  unfold stl
  rw [h]
  cases o with
  | unset => rfl
  | second => cases ho
  | val w => simp only [cat1, beq_iff_eq] at ho; simp [ho]
theorem W_ist (hd : P.1 m pc = some (.istore i, len, aux)) (h : L[i]? = some o) (ho : cat1 o = true) : W P m pc L (.int x :: S) k n H Q ↔ W P m (pc + len) (L.set i (.val (.int x))) S k n H Q := W_s hd rfl rfl (by simp [stp, stl_plain h ho])
theorem W_istn {i : Fin 4} (hd : P.1 m pc = some (.istore_n i, len, aux)) (h : L[i.val]? = some o) (ho : cat1 o = true) : W P m pc L (.int x :: S) k n H Q ↔ W P m (pc + len) (L.set i.val (.val (.int x))) S k n H Q := W_s hd rfl rfl (by simp [stp, stl_plain h ho])
theorem W_ast (hd : P.1 m pc = some (.astore i, len, aux)) (h : L[i]? = some o) (ho : cat1 o = true) : W P m pc L (.ref a :: S) k n H Q ↔ W P m (pc + len) (L.set i (.val (.ref a))) S k n H Q := W_s hd rfl rfl (by simp [stp, stl_plain h ho])
theorem cs_nil : cs [] = 0 := by simp [cs]
theorem cs_int : cs (.int x :: S) = 1 + cs S := by simp [cs, Value.category]
theorem cs_ref : cs (.ref a :: S) = 1 + cs S := by simp [cs, Value.category]
end Sto
section Heap
variable {a j : Nat} {i x c : Int32} {v : Value} {l : Int64}
theorem W_getf {ix : Nat} (hd : P.1 m pc = some (.getfield ix, len, aux)) : W P m pc L (.ref a :: S) k n H Q ↔ (isO H a = true ∧ W P m (pc + len) L (fld H a aux.toNat :: S) k n H Q) := W_g hd rfl rfl rfl
theorem W_putf {ix : Nat} (hd : P.1 m pc = some (.putfield ix, len, aux)) : W P m pc L (v :: .ref a :: S) k n H Q ↔ ((isOw H a = true ∧ okv (P.2.2.1 aux.toNat) v = true) ∧ W P m (pc + len) L S k n (wr H a aux.toNat v) Q) := W_g hd rfl rfl rfl
theorem W_iaload (hd : P.1 m pc = some (.iaload, len, aux)) : W P m pc L (.int i :: .ref a :: S) k n H Q ↔ (inA H a .int i = true ∧ W P m (pc + len) L (elt H a i :: S) k n H Q) := W_g hd rfl rfl rfl
theorem W_iastore (hd : P.1 m pc = some (.iastore, len, aux)) : W P m pc L (.int x :: .int i :: .ref a :: S) k n H Q ↔ (inAw H a .int i = true ∧ W P m (pc + len) L S k n (wr H a i.toNatClampNeg (.int x)) Q) := W_g hd rfl rfl rfl
theorem W_alen (hd : P.1 m pc = some (.arraylength, len, aux)) : W P m pc L (.ref a :: S) k n H Q ↔ (isA H a = true ∧ W P m (pc + len) L (.int (alen H a).toInt32 :: S) k n H Q) := W_g hd rfl rfl rfl
theorem W_newarr {t : ArrayType} (hd : P.1 m pc = some (.newarray t, len, aux)) : W P m pc L (.int c :: S) k n H Q ↔ ((¬ c < 0 ∧ c.toNatClampNeg * 8 ≤ 536870912 ∧ k + 1 ≤ (rm P m).cells ∧ n + c.toNatClampNeg ≤ (rm P m).slots) ∧ W P m (pc + len) L (.ref H.1 :: S) (k + 1) (n + c.toNatClampNeg) (mkA (newarray.typeOf t) c.toNatClampNeg H) Q) := W_g hd rfl rfl rfl
theorem W_new {ix : Nat} (hd : P.1 m pc = some (.new ix, len, aux)) : W P m pc L S k n H Q ↔ ((0 ≤ aux ∧ k + 1 ≤ (rm P m).cells ∧ n + aux.toNat ≤ (rm P m).slots) ∧ W P m (pc + len) L (.ref H.1 :: S) (k + 1) (n + aux.toNat) (mkO P H) Q) := W_g hd rfl rfl rfl
theorem W_oinit {ix : Nat} (hd : P.1 m pc = some (.invokespecial ix, len, -1)) : W P m pc L (.ref a :: S) k n H Q ↔ ((1 ≤ (rm P m).frames ∧ cs S + 12 ≤ (rm P m).locals) ∧ W P m (pc + len) L S k n H Q) :=
  W_g (G := 1 ≤ (rm P m).frames ∧ cs S + 12 ≤ (rm P m).locals) hd rfl (by simp [cal, cal1]) (by simp [stp])
theorem W_idiv {y : Int32} (hd : P.1 m pc = some (.idiv, len, aux)) : W P m pc L (.int y :: .int x :: S) k n H Q ↔ (¬ y = 0 ∧ W P m (pc + len) L (.int (x / y) :: S) k n H Q) := W_n hd rfl rfl rfl
theorem W_irem {y : Int32} (hd : P.1 m pc = some (.irem, len, aux)) : W P m pc L (.int y :: .int x :: S) k n H Q ↔ (¬ y = 0 ∧ W P m (pc + len) L (.int (x % y) :: S) k n H Q) := W_n hd rfl rfl rfl
end Heap
section Call
variable {m' : Nat} {a r : List Value} {b : Nat}
theorem cal_eq (hk : kindOk ins (kd P m') = true) (hl : a.length = na P m') : cal P m ins (m' : Int) (a.reverse ++ r) k n H = if may P m m' a r k n H = true then some (m', a, r) else none := by
  have e1 : (a.reverse ++ r).take (na P m') = a.reverse := by rw [← hl, ← List.length_reverse (as := a)]; exact List.take_left ..
  have e2 : (a.reverse ++ r).drop (na P m') = r := by rw [← hl, ← List.length_reverse (as := a)]; exact List.drop_left ..
  have key : cal1 P m ins (m' : Int) (a.reverse ++ r) k n H = if may P m m' a r k n H = true then some (m', a, r) else none := by
    unfold cal1
    rw [Int.toNat_natCast, e1, e2, List.reverse_reverse]
    simp [hk]
  cases ins <;> first | exact key | (cases hk)
theorem W_call (hd : P.1 m pc = some (ins, len, (m' : Int))) (hr : ret P m ins S = none) (hk : kindOk ins (kd P m') = true) (hl : a.length = na P m') (hS : S = a.reverse ++ r) (hns : stp P m ins len (m' : Int) pc L S k n H = none) :
    W P m pc L S k n H Q ↔ (may P m m' a r k n H = true ∧ Cl P m' a H (fun v H' => W P m (pc + len) L (v.toList ++ r) (k + (rm P m').cells) (n + (rm P m').slots) H' Q)) := by
  have hc : cal P m ins (m' : Int) S k n H = if may P m m' a r k n H = true then some (m', a, r) else none := by rw [hS]; exact cal_eq hk hl
  by_cases g : may P m m' a r k n H = true
  · rw [if_pos g] at hc
    rw [W_c hd hr hc]; simp [g]
  · rw [if_neg g] at hc
    rw [W_q hd hr hc, hns]
    exact ⟨fun ⟨q, e, h⟩ => (by cases e), fun h => absurd h.1 g⟩
theorem W_inst {ix : Nat} {as : List Value} (hd : P.1 m pc = some (.invokevirtual ix, len, (m' : Int))) (hk : kindOk (.invokevirtual ix) (kd P m') = true) (hl : as.length + 1 = na P m') (hS : S = as.reverse ++ .ref b :: r)
    (h1 : (Sym.laidSlots (.ref b :: as)).length ≤ ml P m') (h2 : (rm P m').frames + 1 ≤ (rm P m).frames) (h3 : (rm P m').cells = 0 ∧ (rm P m').slots = 0) :
    W P m pc L S k n H Q ↔ ((isO H b = true ∧ cs r + (ml P m' + 11) + (rm P m').locals ≤ (rm P m).locals) ∧ Cl P m' (.ref b :: as) H (fun v H' => W P m (pc + len) L (v.toList ++ r) k n H' Q)) := by
  rw [W_call (a := .ref b :: as) (r := r) hd rfl hk hl (by rw [hS]; simp) rfl]
  have e : may P m m' (.ref b :: as) r k n H = true ↔ (isO H b = true ∧ cs r + (ml P m' + 11) + (rm P m').locals ≤ (rm P m).locals) := by
    have hk0 : kd P m' ≠ 0 := by intro h; rw [h] at hk; cases hk
    simp [may, rcv, h1, h2, h3, ← hl, hk0]; exact And.comm
  rw [e, h3.1, h3.2]; rfl
theorem W_init {ix : Nat} {as : List Value} (hd : P.1 m pc = some (.invokespecial ix, len, (m' : Int))) (hk : kindOk (.invokespecial ix) (kd P m') = true) (hl : as.length + 1 = na P m') (hS : S = as.reverse ++ .ref b :: r)
    (h1 : (Sym.laidSlots (.ref b :: as)).length ≤ ml P m') (h2 : (rm P m').frames + 1 ≤ (rm P m).frames) (h3 : ¬ ((rm P m').cells = 0 ∧ (rm P m').slots = 0)) :
    W P m pc L S k n H Q ↔ ((isO H b = true ∧ cs r + (ml P m' + 11) + (rm P m').locals ≤ (rm P m).locals ∧ k + (rm P m').cells ≤ (rm P m).cells ∧ n + (rm P m').slots ≤ (rm P m).slots) ∧ Cl P m' (.ref b :: as) H (fun v H' => W P m (pc + len) L (v.toList ++ r) (k + (rm P m').cells) (n + (rm P m').slots) H' Q)) := by
  have hns : stp P m (.invokespecial ix) len (m' : Int) pc L S k n H = none := by
    dsimp only [stp]
    split
    · rw [if_neg]; omega
    · rfl
  rw [W_call (a := .ref b :: as) (r := r) hd rfl hk hl (by rw [hS]; simp) hns]
  have e : may P m m' (.ref b :: as) r k n H = true ↔ (isO H b = true ∧ cs r + (ml P m' + 11) + (rm P m').locals ≤ (rm P m).locals ∧ k + (rm P m').cells ≤ (rm P m).cells ∧ n + (rm P m').slots ≤ (rm P m).slots) := by
    have hk0 : kd P m' ≠ 0 := by intro h; rw [h] at hk; cases hk
    simp only [may, rcv, h1, h2, h3, ← hl, hk0, List.length_cons, decide_true, decide_false, Bool.true_and, Bool.false_or, Bool.and_eq_true, decide_eq_true_eq]
    constructor
    · rintro ⟨⟨q1, q2⟩, q3⟩; exact ⟨q3, q1, q2⟩
    · rintro ⟨q3, q1, q2⟩; exact ⟨⟨q1, q2⟩, q3⟩
  rw [e]
end Call
section Last
theorem W_rz {x : Int32} (hd : P.1 m pc = some (.ireturn, len, aux)) (hr : rt P m = some .boolean) : W P m pc L (.int x :: S) k n H Q ↔ ((x = 0 ∨ x = 1) ∧ Q (some (.int x)) H) := by
  by_cases g : x = 0 ∨ x = 1
  · rw [W_r hd (by simp only [ret, hr]; rw [if_pos g])]; simp [g]
  · rw [W_q hd (by simp only [ret, hr]; rw [if_neg g]) rfl]
    constructor
    · rintro ⟨q, e, -⟩; cases e
    · intro h; exact absurd h.1 g
theorem W_newarr' {t : ArrayType} {c : Int32} {N : Nat} (hd : P.1 m pc = some (.newarray t, len, aux)) (hN : c.toNatClampNeg = N) (h1 : ¬ c < 0) (h2 : N * 8 ≤ 536870912) :
    W P m pc L (.int c :: S) k n H Q ↔ ((k + 1 ≤ (rm P m).cells ∧ n + N ≤ (rm P m).slots) ∧ W P m (pc + len) L (.ref H.1 :: S) (k + 1) (n + N) (mkA (newarray.typeOf t) N H) Q) := by
  rw [W_newarr hd, hN]; simp [h1, h2]
theorem W_new' {ix : Nat} (hd : P.1 m pc = some (.new ix, len, aux)) (h0 : 0 ≤ aux) : W P m pc L S k n H Q ↔ ((k + 1 ≤ (rm P m).cells ∧ n + aux.toNat ≤ (rm P m).slots) ∧ W P m (pc + len) L (.ref H.1 :: S) (k + 1) (n + aux.toNat) (mkO P H) Q) := by
  rw [W_new hd]; simp [h0]
end Last
end Rules
abbrev LW : Type := (Nat → Nat → Option (Instr × Nat × Int)) × (Nat → MInfo)
abbrev Row : Type := Nat × Instr × Nat × Int
end Jvm.JX

namespace Jvm.JX
open Sem ClassFile Op Lib
abbrev St : Type := (Nat → Int32) × (Nat → Int64) × (Nat → Nat → Int32) × (Nat → Nat → Int64)
abbrev Lay : Type := List (FieldType × Nat) × List (FieldType × Nat)
def sI (s : St) (k : Nat) : Int32 := s.1 k
def sJ (s : St) (k : Nat) : Int64 := s.2.1 k
def sA (s : St) (t i : Nat) : Int32 := s.2.2.1 t i
def sB (s : St) (t i : Nat) : Int64 := s.2.2.2 t i
def uI (s : St) (k : Nat) (v : Int32) : St := (fun j => if j = k then v else s.1 j, s.2.1, s.2.2.1, s.2.2.2)
def uJ (s : St) (k : Nat) (v : Int64) : St := (s.1, fun j => if j = k then v else s.2.1 j, s.2.2.1, s.2.2.2)
def uA (s : St) (t i : Nat) (v : Int32) : St := (s.1, s.2.1, fun t' i' => if t' = t ∧ i' = i then v else s.2.2.1 t' i', s.2.2.2)
def uB (s : St) (t i : Nat) (v : Int64) : St := (s.1, s.2.1, s.2.2.1, fun t' i' => if t' = t ∧ i' = i then v else s.2.2.2 t' i')
def z0 : St := (fun _ => 0, fun _ => 0, fun _ _ => 0, fun _ _ => 0)
section St
variable {s : St} {k j t i t' i' : Nat} {v : Int32} {w : Int64}
theorem sI_uI : sI (uI s k v) j = if j = k then v else sI s j := by simp [sI, sJ, sA, sB, uI, uJ, uA, uB, z0]
theorem sI_uA : sI (uA s t i v) j = sI s j := by simp [sI, sJ, sA, sB, uI, uJ, uA, uB, z0]
theorem sJ_uI : sJ (uI s k v) j = sJ s j := by simp [sI, sJ, sA, sB, uI, uJ, uA, uB, z0]
theorem sJ_uA : sJ (uA s t i v) j = sJ s j := by simp [sI, sJ, sA, sB, uI, uJ, uA, uB, z0]
theorem sA_uI : sA (uI s k v) t' i' = sA s t' i' := by simp [sI, sJ, sA, sB, uI, uJ, uA, uB, z0]
theorem sA_uA : sA (uA s t i v) t' i' = if t' = t ∧ i' = i then v else sA s t' i' := by simp [sI, sJ, sA, sB, uI, uJ, uA, uB, z0]
theorem sB_uI : sB (uI s k v) t' i' = sB s t' i' := by simp [sI, sJ, sA, sB, uI, uJ, uA, uB, z0]
theorem sB_uA : sB (uA s t i v) t' i' = sB s t' i' := by simp [sI, sJ, sA, sB, uI, uJ, uA, uB, z0]
theorem sA_z0 : sA z0 t i = 0 := by simp [sI, sJ, sA, sB, uI, uJ, uA, uB, z0]
theorem sB_z0 : sB z0 t i = 0 := by simp [sI, sJ, sA, sB, uI, uJ, uA, uB, z0]
theorem St_ext {s s' : St} (h1 : ∀ k, sI s k = sI s' k) (h2 : ∀ k, sJ s k = sJ s' k) (h3 : ∀ t i, sA s t i = sA s' t i) (h4 : ∀ t i, sB s t i = sB s' t i) : s = s' :=
  Prod.ext (funext h1) (Prod.ext (funext h2) (Prod.ext (funext fun t => funext (h3 t)) (funext fun t => funext (h4 t))))
end St
def zr (s : St) (t : Nat) : Prop := (∀ i, sA s t i = 0) ∧ ∀ i, sB s t i = 0
theorem zr_z0 {t : Nat} : zr z0 t = True := by simp [zr, sA_z0, sB_z0]
def fvl (y : Lay) (j p : Nat) (s : St) (k : Nat) : Value := match y.1[k]? with
  | some (.long, _) => .long (sJ s k)
  | some (.array _, t) => if t ≤ j then .ref (p + t) else .null
  | _ => .int (sI s k)
def blk (y : Lay) (j p : Nat) (s : St) : Nat → Cel
  | 0 => (.object "", y.1.length, true, fvl y j p s)
  | t + 1 => match y.2[t]? with
    | some (.long, n) => (.array .long, n, true, fun i => .long (sB s (t + 1) i))
    | some (ty, n) => (.array ty, n, true, fun i => .int (sA s (t + 1) i))
    | none => (.char, 0, false, fun _ => .null)
def put (y : Lay) (j : Nat) (H : AH) (p : Nat) (s : St) : AH := (H.1, fun a => if p ≤ a ∧ a ≤ p + j then blk y j p s (a - p) else H.2 a)
section Put
variable {y : Lay} {j : Nat} {H : AH} {p : Nat} {s : St} {k t n : Nat} {ty : FieldType} {i : Int32}
theorem put_0 : (put y j H p s).2 p = (.object "", y.1.length, true, fvl y j p s) := by simp [put, blk]
theorem put_t (ht : t ≤ j) : (put y j H p s).2 (p + t) = blk y j p s t := by simp [put, ht]
theorem put_ot {a : Nat} (h : a < p ∨ p + j < a) : (put y j H p s).2 a = H.2 a := by
  have : ¬ (p ≤ a ∧ a ≤ p + j) := by omega
  simp [put, this]
theorem isO_put : isO (put y j H p s) p = true := by simp [isO, put_0]
theorem isOw_put : isOw (put y j H p s) p = true := by simp [isOw, isO_put, put_0]
theorem fld_I (h : y.1[k]? = some (ty, t)) (hl : ty ≠ .long) (ha : ∀ e, ty ≠ .array e) : fld (put y j H p s) p k = .int (sI s k) := by
  simp only [fld, put_0, fvl, h]; cases ty <;> first | rfl | exact absurd rfl hl | exact absurd rfl (ha _)
theorem fld_R (h : y.1[k]? = some (.array ty, t)) (ht : t ≤ j) : fld (put y j H p s) p k = .ref (p + t) := by simp only [fld, put_0, fvl, h, ht, if_true]
theorem blk_I (h : y.2[t]? = some (ty, n)) (hl : ty ≠ .long) : blk y j p s (t + 1) = (.array ty, n, true, fun i => .int (sA s (t + 1) i)) := by
  simp only [blk, h]
theorem clamp_lt {i : Int32} {n : Nat} : (¬ i < 0 ∧ i.toNatClampNeg < n) ↔ (0 ≤ i.toInt ∧ i.toInt < n) := by
  simp only [Int32.lt_iff_toInt_lt, Int32.toNatClampNeg, Int32.reduceToInt]; omega
theorem inA_I (h : y.2[t]? = some (ty, n)) (hl : ty ≠ .long) (ht : t + 1 ≤ j) : inA (put y j H p s) (p + (t + 1)) ty i = true ↔ (0 ≤ i.toInt ∧ i.toInt < n) := by
  rw [← clamp_lt]; simp [inA, put_t ht, blk_I h hl]
theorem inAw_I (h : y.2[t]? = some (ty, n)) (hl : ty ≠ .long) (ht : t + 1 ≤ j) : inAw (put y j H p s) (p + (t + 1)) ty i = true ↔ (0 ≤ i.toInt ∧ i.toInt < n) := by
  rw [← inA_I (H := H) (p := p) (s := s) h hl ht]; simp [inAw, put_t ht, blk_I h hl]
theorem elt_I (h : y.2[t]? = some (ty, n)) (hl : ty ≠ .long) (ht : t + 1 ≤ j) : elt (put y j H p s) (p + (t + 1)) i = .int (sA s (t + 1) i.toNatClampNeg) := by
  simp only [elt, put_t ht, blk_I h hl]
theorem put_wr {s' : St} {t q : Nat} {v : Value} (ht : t ≤ j) (hb : ∀ t', blk y j p s' t' = if t' = t then ((blk y j p s t).1, (blk y j p s t).2.1, (blk y j p s t).2.2.1, fun i => if i = q then v else (blk y j p s t).2.2.2 i) else blk y j p s t') :
    wr (put y j H p s) (p + t) q v = put y j H p s' := by
  refine Prod.ext rfl (funext fun a => ?_)
  simp only [wr, put_t ht]
  by_cases e : a = p + t
  · subst e; simp [put, ht, hb]
  · simp only [e, if_false, put]
    by_cases g : p ≤ a ∧ a ≤ p + j
    · have : a - p ≠ t := by omega
      simp [g, hb, this]
    · simp [g]
theorem fvl_uI {v : Int32} (h : y.1[k]? = some (ty, t)) (hl : ty ≠ .long) (ha : ∀ e, ty ≠ .array e) (i : Nat) : fvl y j p (uI s k v) i = if i = k then .int v else fvl y j p s i := by
  by_cases e : i = k
  · subst e; simp only [fvl, h, if_true]; cases ty <;> first | (simp [sI_uI]; done) | exact absurd rfl hl | exact absurd rfl (ha _)
  · simp only [fvl, e, if_false, sI_uI, sJ_uI]
theorem wr_I {v : Int32} (h : y.1[k]? = some (ty, t)) (hl : ty ≠ .long) (ha : ∀ e, ty ≠ .array e) : wr (put y j H p s) p k (.int v) = put y j H p (uI s k v) := by
  refine put_wr (t := 0) (Nat.zero_le _) fun t' => ?_
  cases t' with
  | zero => simp only [blk, if_true]; exact congrArg (fun f => (_, _, _, f)) (funext fun i => fvl_uI h hl ha i)
  | succ t' => simp [blk, sA_uI, sB_uI]
theorem wr_A {v : Int32} {q : Nat} (h : y.2[t]? = some (ty, n)) (hl : ty ≠ .long) (ht : t + 1 ≤ j) : wr (put y j H p s) (p + (t + 1)) q (.int v) = put y j H p (uA s (t + 1) q v) := by
  refine put_wr ht fun t' => ?_
  by_cases e : t' = t + 1
  · subst e
    simp only [blk_I h hl, if_true, sA_uA, true_and]
    exact congrArg (fun f => (_, _, _, f)) (funext fun i => by split <;> rfl)
  · simp only [e, if_false]
    cases t' with
    | zero => rfl
    | succ t' => have : ¬ t' = t := fun q => e (by rw [q]); simp [blk, sA_uA, sB_uA, this]
theorem mkO_put {P : Prog} (hn : P.2.2.2 = y.1.length) (hf : ∀ k, defaultValue (P.2.2.1 k) = fvl y 0 H.1 z0 k) : mkO P H = put y 0 (H.1 + 1, H.2) H.1 z0 := by
  refine Prod.ext rfl (funext fun a => ?_)
  by_cases e : a = H.1
  · subst e; simp only [mkO, if_true, put_0, hn]; exact congrArg (fun f => (_, _, _, f)) (funext fun k => hf k)
  · have : ¬ (H.1 ≤ a ∧ a ≤ H.1 + 0) := by omega
    simp only [mkO, put, e, if_false, if_neg this]
theorem mkA_put {h : Nat → Cel} (h1 : y.1[k]? = some (.array ty, j + 1)) (h2 : y.2[j]? = some (ty, n)) (hu : (List.range y.1.length).all (fun k' => decide (k' = k) || ((y.1.getD k' (.int, 0)).2 != j + 1)) = true) (hz : ∀ i, sA s (j + 1) i = 0) (hz' : ∀ i, sB s (j + 1) i = 0) (hty : ty = .int ∨ ty = .long ∨ ty = .byte ∨ ty = .boolean) :
    wr (mkA ty n (put y j (p + (j + 1), h) p s)) p k (.ref (p + (j + 1))) = put y (j + 1) (p + (j + 1) + 1, h) p s := by
  refine Prod.ext rfl (funext fun a => ?_)
  have hp : ¬ p = p + (j + 1) := by omega
  have hN : (put y j (p + (j + 1), h) p s).1 = p + (j + 1) := rfl
  by_cases e : a = p
  · subst e
    simp only [wr, mkA, hN, if_true, hp, if_false, put_0]
    refine congrArg (fun f => (_, _, _, f)) (funext fun i => ?_)
    by_cases e2 : i = k
    · subst e2; simp [fvl, h1]
    · simp only [e2, if_false, fvl]
      cases hq : y.1[i]? with
      | none => rfl
      | some x =>
        obtain ⟨x1, x2⟩ := x
        cases x1 <;> try rfl
        rename_i el
        have : x2 ≠ j + 1 := fun q => by
          have hlt : i < y.1.length := (List.getElem?_eq_some_iff.mp hq).1
          have u := List.all_eq_true.mp hu i (List.mem_range.mpr hlt)
          simp [e2, hq, q] at u
        have : (x2 ≤ j + 1) = (x2 ≤ j) := propext ⟨fun _ => by omega, fun _ => by omega⟩
        simp [this]
  · simp only [wr, mkA, hN, e, if_false]
    by_cases e2 : a = p + (j + 1)
    · subst e2
      simp only [if_true, put_t (Nat.le_refl (j + 1))]
      rcases hty with rfl | rfl | rfl | rfl
      · simp only [blk, h2, hz]; rfl
      · simp only [blk, h2, hz']; rfl
      · simp only [blk, h2, hz]; rfl
      · simp only [blk, h2, hz]; rfl
    · simp only [e2, if_false, put]
      by_cases g : p ≤ a ∧ a ≤ p + j
      · have g2 : p ≤ a ∧ a ≤ p + (j + 1) := by omega
        simp only [g, g2, and_self, if_true]
        obtain ⟨t, ht⟩ : ∃ t, a - p = t + 1 := ⟨a - p - 1, by omega⟩
        rw [ht]; rfl
      · have g2 : ¬ (p ≤ a ∧ a ≤ p + (j + 1)) := by omega
        simp only [g, g2, if_false]
theorem isOw_mk {h : Nat → Cel} {c : Nat} : isOw (mkA ty n (put y j (p + (c + 1), h) p s)) p = true := by
  have : ¬ p = p + (c + 1) := by omega
  have hN : (put y j (p + (c + 1), h) p s).1 = p + (c + 1) := rfl
  simp [isOw, isO, mkA, hN, this, put_0]
theorem put_fst : (put y j H p s).1 = H.1 := by simp [put]
theorem cl_unf {P : Prog} {m : Nat} {a : List Value} {L : List Slot} {Q : Option Value → AH → Prop} (h : ent P m a = L) : Cl P m a H Q ↔ W P m 0 L [] 0 0 H Q := by unfold Cl; rw [h]
theorem inA_ot {a : Nat} (h : a < p ∨ p + j < a) : inA (put y j H p s) a ty i = inA H a ty i := by simp only [inA, put_ot h]
theorem isA_ot {a : Nat} (h : a < p ∨ p + j < a) : isA (put y j H p s) a = isA H a := by simp only [isA, put_ot h]
theorem elt_ot {a : Nat} (h : a < p ∨ p + j < a) : elt (put y j H p s) a i = elt H a i := by simp only [elt, put_ot h]
theorem alen_ot {a : Nat} (h : a < p ∨ p + j < a) : alen (put y j H p s) a = alen H a := by simp only [alen, put_ot h]
end Put
def noc : Cel := (.char, 0, false, fun _ => .null)
def H1 (n a len : Nat) (f : Nat → Int32) : AH := (n, fun b => if b = a then (.array .int, len, false, fun i => .int (f i)) else noc)
theorem isA_H1 {n a len : Nat} {f : Nat → Int32} : isA (H1 n a len f) a = true := by simp [isA, H1]
theorem alen_H1 {n a len : Nat} {f : Nat → Int32} : alen (H1 n a len f) a = len := by simp [alen, H1]
theorem inA_H1 {n a len : Nat} {f : Nat → Int32} {i : Int32} : inA (H1 n a len f) a .int i = true ↔ (0 ≤ i.toInt ∧ i.toInt < len) := by rw [← clamp_lt]; simp [inA, H1]
theorem elt_H1 {n a len : Nat} {f : Nat → Int32} {i : Int32} : elt (H1 n a len f) a i = .int (f i.toNatClampNeg) := by simp [elt, H1]
def cl (lo hi v : Int32) : Int32 := if v < lo then lo else if hi < v then hi else v
theorem cl3 {lo hi : Int32} (v : Int32) (h : ¬ hi < lo) : (v < lo ∧ ¬ hi < v) ∨ (¬ v < lo ∧ hi < v) ∨ (¬ v < lo ∧ ¬ hi < v) := by
  by_cases h1 : v < lo
  · exact Or.inl ⟨h1, fun h2 => h (by rw [Int32.lt_iff_toInt_lt] at *; omega)⟩
  · by_cases h2 : hi < v
    · exact Or.inr (Or.inl ⟨h1, h2⟩)
    · exact Or.inr (Or.inr ⟨h1, h2⟩)
section Okv
variable {x : Int32} {l : Int64} {a : Nat} {t : FieldType}
theorem okv_int : (okv .int (.int x) = true) = True := by simp [okv]
theorem okv_ref : (okv (.array t) (.ref a) = true) = True := by simp [okv]
end Okv
end Jvm.JX

namespace Jvm.JX
open Sem ClassFile Op Lib
section Num
theorem ia {x y : Int32} (h1 : -2147483648 ≤ x.toInt + y.toInt) (h2 : x.toInt + y.toInt ≤ 2147483647) : (x + y).toInt = x.toInt + y.toInt := by
  rw [Int32.toInt_add]; exact Int.bmod_eq_of_le (by omega) (by omega)
theorem isb {x y : Int32} (h1 : -2147483648 ≤ x.toInt - y.toInt) (h2 : x.toInt - y.toInt ≤ 2147483647) : (x - y).toInt = x.toInt - y.toInt := by
  rw [Int32.toInt_sub]; exact Int.bmod_eq_of_le (by omega) (by omega)
theorem im {x y : Int32} (h1 : -2147483648 ≤ x.toInt * y.toInt) (h2 : x.toInt * y.toInt ≤ 2147483647) : (x * y).toInt = x.toInt * y.toInt := by
  rw [Int32.toInt_mul]; exact Int.bmod_eq_of_le (by omega) (by omega)
theorem lt32 {x y : Int32} : x < y ↔ x.toInt < y.toInt := Int32.lt_iff_toInt_lt
theorem eq32 {x y : Int32} : x = y ↔ x.toInt = y.toInt := Int32.toInt_inj.symm
theorem rg32 (x : Int32) : -2147483648 ≤ x.toInt ∧ x.toInt ≤ 2147483647 := ⟨Int32.le_toInt x, by have := Int32.toInt_lt x; omega⟩
theorem cln {i : Int32} : i.toNatClampNeg = i.toInt.toNat := rfl
theorem idx2 {u v : Int32} {a b : Int} (c : Int32) (hc : 0 ≤ c.toInt ∧ c.toInt ≤ 1000) (hu : 0 ≤ u.toInt ∧ u.toInt < a) (hv : 0 ≤ v.toInt ∧ v.toInt < b) (ha : a ≤ 1000) (hb : b ≤ 1000) : (u * c + v).toInt = u.toInt * c.toInt + v.toInt := by
  have h1 : u.toInt * c.toInt ≤ 1000 * 1000 := Int.mul_le_mul (by omega) (by omega) (by omega) (by omega)
  have h0 : 0 ≤ u.toInt * c.toInt := Int.mul_nonneg (by omega) (by omega)
  have e : (u * c).toInt = u.toInt * c.toInt := im (by omega) (by omega)
  rw [ia (by rw [e]; omega) (by rw [e]; omega), e]
theorem cl_rg {lo hi : Int32} (v : Int32) (h : lo.toInt ≤ hi.toInt) : lo.toInt ≤ (cl lo hi v).toInt ∧ (cl lo hi v).toInt ≤ hi.toInt := by
  unfold cl
  by_cases h1 : v < lo
  · rw [if_pos h1]; omega
  · rw [if_neg h1]
    by_cases h2 : hi < v
    · rw [if_pos h2]; omega
    · rw [if_neg h2]; rw [lt32] at h1 h2; omega
end Num
section Fill
variable {s : St} {t lo hi k i t' : Nat} {v : Int32}
end Fill
section Cnt
def cnt (f : Nat → Bool) : Nat → Nat → Nat
  | _, 0 => 0
  | j, k + 1 => (if f j = true then 1 else 0) + cnt f (j + 1) k
theorem cnt_none {f : Nat → Bool} : ∀ (k j : Nat), (∀ i, j ≤ i → i < j + k → f i = false) → cnt f j k = 0
  | 0, _, _ => rfl
  | k + 1, j, h => by
    have h1 := h j (Nat.le_refl _) (by omega)
    simp only [cnt, h1]
    rw [cnt_none k (j + 1) fun i a b => h i (by omega) (by omega)]; rfl
theorem cnt_one {f : Nat → Bool} {x : Nat} : ∀ (k j : Nat), j ≤ x → x < j + k → f x = true → (∀ i, j ≤ i → i < j + k → i ≠ x → f i = false) → cnt f j k = 1
  | 0, j, h1, h2, _, _ => by omega
  | k + 1, j, h1, h2, hx, h => by
    simp only [cnt]
    by_cases e : j = x
    · subst e
      rw [hx, cnt_none k (j + 1) fun i a b => h i (by omega) (by omega) (by omega)]; rfl
    · rw [h j (Nat.le_refl _) (by omega) e, cnt_one k (j + 1) (by omega) (by omega) hx fun i a b c => h i (by omega) (by omega) c]; rfl
theorem cnt_le {f : Nat → Bool} : ∀ (k j : Nat), cnt f j k ≤ k
  | 0, _ => Nat.le_refl _
  | k + 1, j => by have := cnt_le (f := f) k (j + 1); simp only [cnt]; split <;> omega
theorem ofNat_one_add (c : Int32) (x : Nat) : c + 1 + Int32.ofNat x = c + Int32.ofNat (1 + x) := by
  rw [Int32.ofNat_add, Int32.add_assoc]; rfl
theorem add_ofNat_zero (c : Int32) : c + Int32.ofNat 0 = c := Int32.add_zero c
end Cnt
section Ite
variable {P : Prog} {m pc : Nat} {L : List Slot} {S : List Value} {k n : Nat} {H : AH} {Q : Option Value → AH → Prop} {c : Prop} [Decidable c]
theorem W_ite {x y : Int32} : (if c then W P m pc L (.int x :: S) k n H Q else W P m pc L (.int y :: S) k n H Q) ↔ W P m pc L (.int (if c then x else y) :: S) k n H Q := by
  by_cases h : c <;> simp [h]
end Ite
end Jvm.JX

namespace Jvm.JX
open Sem ClassFile Op Lib
section Forget
variable {P : Prog} {m pc len k n i : Nat} {aux : Int} {ins : Instr} {L L' M : List Slot} {S : List Value} {H : AH} {v : Value} {Q : Option Value → AH → Prop}
def lel (L L' : List Slot) : Prop := ∀ i : Nat, L[i]? = L'[i]? ∨ (L[i]? = some .unset ∧ ∃ o, L'[i]? = some o ∧ cat1 o = true)
theorem lel_refl : lel L L := fun _ => Or.inl rfl
theorem lel_cons {a : Slot} (h : lel L L') : lel (a :: L) (a :: L') := fun i => by cases i with
  | zero => exact Or.inl rfl
  | succ i => simpa using h i
theorem lel_un {o : Slot} (ho : cat1 o = true) (h : lel L L') : lel (.unset :: L) (o :: L') := fun i => by cases i with
  | zero => exact Or.inr ⟨rfl, o, rfl, ho⟩
  | succ i => simpa using h i
theorem lel_len (h : lel L L') : L.length = L'.length := by
  rcases Nat.lt_trichotomy L.length L'.length with g | g | g
  · have h1 : L[L.length]? = none := List.getElem?_eq_none (Nat.le_refl _)
    rcases h L.length with e | ⟨e, -⟩
    · rw [h1] at e; have := List.getElem?_eq_none_iff.mp e.symm; omega
    · rw [h1] at e; cases e
  · exact g
  · have h1 : L'[L'.length]? = none := List.getElem?_eq_none (Nat.le_refl _)
    rcases h L'.length with e | ⟨-, o, e, -⟩
    · rw [h1] at e; have := List.getElem?_eq_none_iff.mp e; omega
    · rw [h1] at e; cases e
theorem lel_set {a : Slot} (h : lel L L') : lel (L.set i a) (L'.set i a) := fun j => by
  rw [List.getElem?_set, List.getElem?_set, lel_len h]
  by_cases e : i = j
  · rw [if_pos e, if_pos e]; exact Or.inl rfl
  · rw [if_neg e, if_neg e]; exact h j
theorem ldI_le (h : lel L L') (e : ldI L i = some v) : ldI L' i = some v := by
  unfold ldI at *; rcases h i with g | ⟨g, -⟩
  · rw [← g]; exact e
  · rw [g] at e; cases e
theorem ldJ_le (h : lel L L') (e : ldJ L i = some v) : ldJ L' i = some v := by
  unfold ldJ at *; rcases h i with g | ⟨g, -⟩
  · rw [← g]; exact e
  · rw [g] at e; cases e
theorem ldR_le (h : lel L L') (e : ldR L i = some v) : ldR L' i = some v := by
  unfold ldR at *; rcases h i with g | ⟨g, -⟩
  · rw [← g]; exact e
  · rw [g] at e; cases e
theorem stl_le (h : lel L L') (e : stl L i v = some M) : ∃ M', stl L' i v = some M' ∧ lel M M' := by
  unfold stl at *
  rcases h i with g | ⟨g, o, g', ho⟩
  · rw [← g, ← lel_len h]
    revert e; generalize L[i]? = x; intro e
    match x, e with
    | some .unset, e => cases e; exact ⟨_, rfl, lel_set h⟩
    | some (.val w), e =>
      simp only at e ⊢
      by_cases c : w.category = 1
      · simp only [c, if_true] at e ⊢; cases e; exact ⟨_, rfl, lel_set h⟩
      · simp only [c, if_false] at e ⊢
        by_cases d : i + 1 < L.length
        · simp only [d, if_true] at e ⊢; cases e; exact ⟨_, rfl, lel_set (lel_set h)⟩
        · simp only [d, if_false] at e; cases e
    | some .second, e =>
      simp only at e ⊢
      by_cases d : 1 ≤ i
      · simp only [d, if_true] at e ⊢; cases e; exact ⟨_, rfl, lel_set (lel_set h)⟩
      · simp only [d, if_false] at e; cases e
    | none, e => cases e
  · rw [g] at e; cases e; rw [g']
    match o, ho with
    | .unset, _ => exact ⟨_, rfl, lel_set h⟩
    | .val w, ho =>
      have c : w.category = 1 := by simpa [cat1] using ho
      simp only [c, if_true]; exact ⟨_, rfl, lel_set h⟩
theorem stL_le (h : lel L L') (e : stL L i v = some M) : ∃ M', stL L' i v = some M' ∧ lel M M' := by
  have key : ∀ o2, L[i + 1]? = some o2 → ∃ o3, L'[i + 1]? = some o3 ∧ (cat1 o2 = true → cat1 o3 = true) ∧ (cat1 o2 = false → o3 = o2) := by
    intro o2 e2
    rcases h (i + 1) with g | ⟨g, o, g', ho⟩
    · exact ⟨o2, by rw [← g]; exact e2, id, fun _ => rfl⟩
    · exact ⟨o, g', fun _ => ho, fun z => by rw [e2] at g; cases g; cases z⟩
  unfold stL at *
  have hs : lel ((L.set i (.val v)).set (i + 1) .second) ((L'.set i (.val v)).set (i + 1) .second) := lel_set (lel_set h)
  have hs3 : lel (((L.set i (.val v)).set (i + 2) .unset).set (i + 1) .second) (((L'.set i (.val v)).set (i + 2) .unset).set (i + 1) .second) := lel_set (lel_set (lel_set h))
  cases e2 : L[i + 1]? with
  | none => rw [e2] at e; revert e; cases L[i]? with
    | none => intro e; cases e
    | some o => intro e; cases o <;> cases e
  | some o2 =>
    obtain ⟨o3, g3, c3, c4⟩ := key o2 e2
    rw [e2] at e; rw [g3, ← lel_len h]
    rcases h i with g | ⟨g, o, g', ho⟩
    · rw [← g]
      revert e; generalize L[i]? = x; intro e
      match x, e with
      | some .unset, e =>
        simp only at e ⊢
        by_cases c : cat1 o2 = true
        · simp only [c, if_true] at e; cases e; simp only [c3 c, if_true]; exact ⟨_, rfl, hs⟩
        · rw [if_neg c] at e
          have c' : cat1 o2 = false := by simpa using c
          rw [c4 c', if_neg c]
          by_cases l3 : lng o2 = true ∧ i + 2 < L.length
          · rw [if_pos l3] at e; cases e; rw [if_pos l3]; exact ⟨_, rfl, hs3⟩
          · rw [if_neg l3] at e; cases e
      | some (.val w), e =>
        simp only at e ⊢
        by_cases d : w.category = 2
        · simp only [d, if_true] at e ⊢; cases e; exact ⟨_, rfl, hs⟩
        · rw [if_neg d] at e ⊢
          by_cases c : cat1 o2 = true
          · simp only [c, if_true] at e; cases e; simp only [c3 c, if_true]; exact ⟨_, rfl, hs⟩
          · rw [if_neg c] at e
            have c' : cat1 o2 = false := by simpa using c
            rw [c4 c', if_neg c]
            by_cases l3 : lng o2 = true ∧ i + 2 < L.length
            · rw [if_pos l3] at e; cases e; rw [if_pos l3]; exact ⟨_, rfl, hs3⟩
            · rw [if_neg l3] at e; cases e
      | some .second, e =>
        simp only at e ⊢
        by_cases d : 1 ≤ i
        · rw [if_pos d] at e ⊢
          by_cases c : cat1 o2 = true
          · rw [if_pos c] at e; cases e; rw [if_pos (c3 c)]; exact ⟨_, rfl, lel_set (lel_set (lel_set h))⟩
          · rw [if_neg c] at e
            have c' : cat1 o2 = false := by simpa using c
            rw [c4 c', if_neg c]
            by_cases l3 : lng o2 = true ∧ i + 2 < L.length
            · rw [if_pos l3] at e; cases e; rw [if_pos l3]; exact ⟨_, rfl, lel_set (lel_set (lel_set (lel_set h)))⟩
            · rw [if_neg l3] at e; cases e
        · rw [if_neg d] at e; cases e
      | none, e => cases e
    · rw [g] at e; rw [g']
      simp only at e
      by_cases c : cat1 o2 = true
      · simp only [c, if_true] at e; cases e
        match o, ho with
        | .unset, _ => simp only [c3 c, if_true]; exact ⟨_, rfl, hs⟩
        | .val w, ho =>
          by_cases d : w.category = 2
          · simp only [d, if_true]; exact ⟨_, rfl, hs⟩
          · simp only [d, if_false, c3 c, if_true]; exact ⟨_, rfl, hs⟩
      · rw [if_neg c] at e
        have c' : cat1 o2 = false := by simpa using c
        rw [c4 c']
        by_cases l3 : lng o2 = true ∧ i + 2 < L.length
        · rw [if_pos l3] at e; cases e
          match o, ho with
          | .unset, _ => simp only [if_neg c, if_pos l3]; exact ⟨_, rfl, hs3⟩
          | .val w, ho =>
            have d : ¬ w.category = 2 := by simp only [cat1, beq_iff_eq] at ho; omega
            simp only [if_neg d, if_neg c, if_pos l3]; exact ⟨_, rfl, hs3⟩
        · rw [if_neg l3] at e; cases e
def loc : Instr → Bool
  | .iload _ | .iload_n _ | .lload _ | .lload_n _ | .aload _ | .aload_n _ | .istore _ | .istore_n _ | .astore _ | .astore_n _ | .lstore _ | .lstore_n _ | .iinc _ _ => true
  | _ => false
theorem stp_fr {q : Fm} (hl : loc ins = false) (e : stp P m ins len aux pc L S k n H = some q) : q.2.1 = L ∧ stp P m ins len aux pc L' S k n H = some (q.1, L', q.2.2) := by
  cases ins <;> first
    | (cases hl; done)
    | (simp only [stp] at e ⊢; cases e; done)
    | (simp only [stp] at e ⊢; cases e; exact ⟨rfl, rfl⟩)
    | (simp only [stp, Option.map_eq_some_iff] at e ⊢; (repeat' split at e) <;> first
        | (cases e; done)
        | (cases e; exact ⟨rfl, rfl⟩)
        | (obtain ⟨w, h1, h2⟩ := e; subst h2; exact ⟨rfl, w, h1, rfl⟩)
        | (simp_all; done)
        | (simp_all; subst e; simp; done)
        | (simp_all; obtain ⟨e1, e2, e3⟩ := e; subst e3; simp_all; done)
        | (simp only [Option.bind_eq_some_iff, Option.map_eq_some_iff] at e; obtain ⟨w, h1, u, h2, h3⟩ := e; subst h3; simp_all; done)
        | (simp only [Option.bind_eq_some_iff, Option.map_eq_some_iff] at e; obtain ⟨w, h1, u, h2, h3⟩ := e; subst h3; simp_all; omega))
theorem stp_le {q : Fm} (h : lel L L') (e : stp P m ins len aux pc L S k n H = some q) : ∃ M, stp P m ins len aux pc L' S k n H = some (q.1, M, q.2.2) ∧ lel q.2.1 M := by
  cases hl : loc ins with
  | false =>
    obtain ⟨h1, h2⟩ := stp_fr (L' := L') hl e
    exact ⟨L', h2, by rw [h1]; exact h⟩
  | true =>
    cases ins <;> first
      | (cases hl; done)
      | (simp only [stp, Option.map_eq_some_iff] at e ⊢; obtain ⟨w, h1, h2⟩ := e; subst h2; first
          | exact ⟨L', ⟨w, ldI_le h h1, rfl⟩, h⟩
          | exact ⟨L', ⟨w, ldJ_le h h1, rfl⟩, h⟩
          | exact ⟨L', ⟨w, ldR_le h h1, rfl⟩, h⟩)
      | (simp only [stp] at e ⊢; split at e
         · simp only [Option.map_eq_some_iff] at e ⊢
           obtain ⟨w, h1, h2⟩ := e; subst h2
           first
            | (obtain ⟨M, g1, g2⟩ := stl_le h h1; exact ⟨M, ⟨M, g1, rfl⟩, g2⟩)
            | (obtain ⟨M, g1, g2⟩ := stL_le h h1; exact ⟨M, ⟨M, g1, rfl⟩, g2⟩)
         · cases e)
      | (simp only [stp] at e ⊢; rename_i i c; rcases h i with g | ⟨g, -⟩
         · rw [← g]; revert e; generalize L[i]? = x; intro e
           split at e
           · cases e; exact ⟨_, rfl, lel_set h⟩
           · cases e
         · rw [g] at e; cases e)
theorem run_fg : ∀ (f m pc : Nat) (L L' : List Slot) (S : List Value) (k n : Nat) (H : AH) (r : Option Value × AH), lel L L' → run P f m pc L S k n H = some r → run P f m pc L' S k n H = some r
  | 0, _, _, _, _, _, _, _, _, _, _, e => by cases e
  | f + 1, m, pc, L, L', S, k, n, H, r, h, e => by
    unfold run at e ⊢
    cases hd : P.1 m pc with
    | none => rw [hd] at e; cases e
    | some d =>
      rw [hd] at e; simp only at e ⊢
      cases hr : ret P m d.1 S with
      | some v => rw [hr] at e; exact e
      | none =>
        rw [hr] at e; simp only at e ⊢
        cases hc : cal P m d.1 d.2.2 S k n H with
        | some c =>
          rw [hc] at e; simp only at e ⊢
          cases hx : run P f c.1 0 (ent P c.1 c.2.1) [] 0 0 H with
          | none => rw [hx] at e; cases e
          | some y => rw [hx] at e; simp only at e ⊢; exact run_fg f _ _ _ _ _ _ _ _ _ h e
        | none =>
          rw [hc] at e; simp only at e ⊢
          cases hs : stp P m d.1 d.2.1 d.2.2 pc L S k n H with
          | none => rw [hs] at e; cases e
          | some q =>
            rw [hs] at e; simp only at e
            obtain ⟨M, g1, g2⟩ := stp_le h hs
            rw [g1]; exact run_fg f _ _ _ _ _ _ _ _ _ g2 e
theorem W_fg (h : lel L L') (w : W P m pc L S k n H Q) : W P m pc L' S k n H Q := by
  obtain ⟨f, v, H', e, q⟩ := w
  exact ⟨f, v, H', run_fg f m pc L L' S k n H _ h e, q⟩
end Forget
section ForgetL
variable {P : Prog} {m pc len k n i j : Nat} {aux : Int} {ins : Instr} {L M N : List Slot} {S : List Value} {H : AH} {v : Value} {a : Slot} {Q : Option Value → AH → Prop}
def ff (j : Nat) (M : List Slot) : List Slot := (M.set j .unset).set (j + 1) .unset
def Gl (j : Nat) (M : List Slot) : Prop := (∃ w : Value, M[j]? = some (.val w) ∧ w.category = 2) ∧ M[j + 1]? = some .second ∧ (∀ i o, i + 1 = j → M[i]? = some o → lng o = false) ∧ M[j + 2]? ≠ some .second
def lfr (j : Nat) (L M : List Slot) : Prop := L = M ∨ (L = ff j M ∧ Gl j M)
theorem ff_set (h1 : i ≠ j) (h2 : i ≠ j + 1) : (ff j M).set i a = ff j (M.set i a) := by
  unfold ff; rw [List.set_comm _ _ (Ne.symm h2), List.set_comm _ _ (Ne.symm h1)]
theorem ff_get (h1 : i ≠ j) (h2 : i ≠ j + 1) : (ff j M)[i]? = M[i]? := by
  unfold ff; rw [List.getElem?_set_ne (Ne.symm h2), List.getElem?_set_ne (Ne.symm h1)]
theorem ff_len : (ff j M).length = M.length := by simp [ff]
theorem Gl_set (h : Gl j M) (h1 : i ≠ j) (h2 : i ≠ j + 1) (h3 : i + 1 = j → lng a = false) (h4 : i = j + 2 → a ≠ .second) : Gl j (M.set i a) := by
  obtain ⟨⟨w, g1, g2⟩, g3, g4, g5⟩ := h
  refine ⟨⟨w, ?_, g2⟩, ?_, ?_, ?_⟩
  · rw [List.getElem?_set_ne h1]; exact g1
  · rw [List.getElem?_set_ne h2]; exact g3
  · intro i' o e h
    by_cases c : i = i'
    · subst c
      rw [List.getElem?_set] at h
      simp only [if_true] at h
      split at h
      · cases h; exact h3 e
      · cases h
    · rw [List.getElem?_set_ne c] at h; exact g4 i' o e h
  · by_cases c : i = j + 2
    · rw [List.getElem?_set]; simp only [c, if_true]
      split
      · intro e; cases e; exact h4 c rfl
      · intro e; cases e
    · rw [List.getElem?_set_ne c]; exact g5
theorem Gl_lt (h : Gl j M) : j + 1 < M.length := (List.getElem?_eq_some_iff.mp h.2.1).1
theorem ff_j (h : Gl j M) : (ff j M)[j]? = some .unset ∧ (ff j M)[j + 1]? = some .unset := by
  have := Gl_lt h
  unfold ff; constructor
  · rw [List.getElem?_set_ne (by omega), List.getElem?_set]; simp only [if_true]; rw [if_pos (by omega)]
  · rw [List.getElem?_set]; simp only [if_true, List.length_set]; rw [if_pos (by omega)]
theorem ff_0 {b : Slot} : (ff j M).set j b = (M.set (j + 1) .unset).set j b := by
  unfold ff; rw [List.set_comm _ _ (by omega : j ≠ j + 1), List.set_set]
theorem ff_1 {b : Slot} : (ff j M).set (j + 1) b = (M.set j .unset).set (j + 1) b := by
  unfold ff; rw [List.set_set]
theorem stl_fr (hv : v.category = 1) (h : lfr j L M) (e : stl L i v = some N) : ∃ N', stl M i v = some N' ∧ lfr j N N' := by
  rcases h with rfl | ⟨rfl, h⟩
  · exact ⟨N, e, Or.inl rfl⟩
  have lv : lng (.val v) = false := by simp [lng, hv]
  obtain ⟨⟨w, g1, g2⟩, g3, g4, g5⟩ := id h
  have hl := Gl_lt h
  unfold stl at e ⊢
  by_cases c1 : i = j
  · subst c1
    rw [(ff_j h).1] at e; cases e
    rw [g1]; simp only [g2, hl, if_true]
    exact ⟨_, rfl, Or.inl ff_0⟩
  by_cases c2 : i = j + 1
  · subst c2
    rw [(ff_j h).2] at e; cases e
    rw [g3]; simp only [Nat.le_add_left, if_true]
    exact ⟨_, rfl, Or.inl ff_1⟩
  rw [ff_get c1 c2, ff_len] at e
  revert e; cases hx : M[i]? with
  | none => intro e; cases e
  | some o =>
    intro e
    have s1 : ∀ {M}, Gl j M → Gl j (M.set i (.val v)) := fun h => Gl_set h c1 c2 (fun _ => lv) (fun _ => by intro z; cases z)
    cases o with
    | unset => cases e; exact ⟨_, rfl, Or.inr ⟨ff_set c1 c2, s1 h⟩⟩
    | second =>
      simp only at e ⊢
      by_cases d : 1 ≤ i
      · rw [if_pos d] at e ⊢; cases e
        have c3 : i - 1 ≠ j := by omega
        have c4 : i - 1 ≠ j + 1 := by intro z; exact g5 (by rw [← hx]; congr 1; omega)
        exact ⟨_, rfl, Or.inr ⟨by rw [ff_set c3 c4, ff_set c1 c2], s1 (Gl_set h c3 c4 (fun _ => rfl) (fun _ => by intro z; cases z))⟩⟩
      · rw [if_neg d] at e; cases e
    | val x =>
      simp only at e ⊢
      by_cases d : x.category = 1
      · rw [if_pos d] at e ⊢; cases e; exact ⟨_, rfl, Or.inr ⟨ff_set c1 c2, s1 h⟩⟩
      · rw [if_neg d] at e ⊢
        by_cases d2 : i + 1 < M.length
        · rw [if_pos d2] at e ⊢; cases e
          have d3 : x.category = 2 := by cases x <;> simp [Value.category] at d ⊢
          have c3 : i + 1 ≠ j := by intro z; have := g4 i _ z hx; simp [lng, d3] at this
          exact ⟨_, rfl, Or.inr ⟨by rw [ff_set c3 (by omega), ff_set c1 c2], s1 (Gl_set h c3 (by omega) (fun _ => rfl) (fun _ => by intro z; cases z))⟩⟩
        · rw [if_neg d2] at e; cases e
theorem stL_fr (h : lfr j L M) (e : stL L i v = some N) : ∃ N', stL M i v = some N' ∧ lfr j N N' := by
  rcases h with rfl | ⟨rfl, h⟩
  · exact ⟨N, e, Or.inl rfl⟩
  obtain ⟨⟨w, g1, g2⟩, g3, g4, g5⟩ := id h
  have hl := Gl_lt h
  unfold stL at e ⊢
  by_cases c1 : i = j
  · subst c1
    rw [(ff_j h).1, (ff_j h).2] at e; simp only [cat1, if_true] at e; cases e
    rw [g1, g3]; simp only [g2, if_true]
    exact ⟨_, rfl, Or.inl (by rw [ff_0, List.set_comm _ _ (by omega : i + 1 ≠ i), List.set_set])⟩
  by_cases c2 : i = j + 1
  · subst c2
    rw [(ff_j h).2, ff_get (i := j + 1 + 1) (by omega) (by omega), ff_len, ff_1] at e
    rw [g3]
    revert e; cases hy : M[j + 1 + 1]? with
    | none => intro e; cases e
    | some o2 =>
      intro e; simp only [Nat.le_add_left, if_true, Nat.add_sub_cancel] at e ⊢
      exact ⟨N, e, Or.inl rfl⟩
  by_cases c3 : i + 1 = j
  · subst c3
    rw [ff_get c1 c2, (ff_j h).1] at e
    rw [g1]
    have w1 : ¬ cat1 (.val w) = true := by simp [cat1, g2]
    have w2 : lng (.val w) = true ∧ i + 2 < M.length := ⟨by simp [lng, g2], hl⟩
    have en : ∀ b : Slot, ((ff (i + 1) M).set i b).set (i + 1) .second = ((M.set i b).set (i + 2) .unset).set (i + 1) .second := fun b => by
      rw [ff_set (by omega) (by omega), ff_0]
    revert e; cases hx : M[i]? with
    | none => intro e; cases e
    | some o =>
      intro e
      have lo := g4 i o rfl hx
      cases o with
      | unset => simp only [cat1, if_true] at e; cases e; simp only [if_neg w1, if_pos w2]; exact ⟨_, rfl, Or.inl (en _)⟩
      | val x =>
        have x2 : ¬ x.category = 2 := by simpa [lng] using lo
        simp only [cat1, if_true, if_neg x2] at e; cases e; simp only [if_neg w1, if_pos w2, if_neg x2]; exact ⟨_, rfl, Or.inl (en _)⟩
      | second =>
        simp only [cat1, if_true] at e
        by_cases d : 1 ≤ i
        · simp only [if_pos d, if_neg w1, if_pos w2] at e ⊢; cases e
          exact ⟨_, rfl, Or.inl (by rw [ff_set (by omega) (by omega), ff_set (by omega) (by omega), ff_0])⟩
        · rw [if_neg d] at e; cases e
  rw [ff_get c1 c2, ff_get (i := i + 1) c3 (by omega), ff_len] at e
  revert e; cases hx : M[i]? with
  | none => intro e; cases e
  | some o =>
    cases hy : M[i + 1]? with
    | none => intro e; cases o <;> cases e
    | some o2 =>
      intro e
      have s1 : ∀ {M}, Gl j M → Gl j (M.set i (.val v)) := fun h => Gl_set h c1 c2 (fun z => absurd z c3) (fun _ => by intro z; cases z)
      have s2 : ∀ {M}, Gl j M → Gl j (M.set (i + 1) .second) := fun h => Gl_set h c3 (by omega) (fun _ => rfl) (fun z => absurd z (by omega))
      have f1 : ∀ {M : List Slot}, (ff j M).set i (.val v) = ff j (M.set i (.val v)) := ff_set c1 c2
      have f2 : ∀ {M : List Slot}, (ff j M).set (i + 1) .second = ff j (M.set (i + 1) .second) := ff_set c3 (by omega)
      have t3 : lng o2 = true → i + 2 ≠ j := fun l z => by have := g4 (i + 1) o2 (by omega) hy; rw [l] at this; cases this
      have s3 : lng o2 = true → ∀ {M}, Gl j M → Gl j (M.set (i + 2) .unset) := fun l _ h => Gl_set h (t3 l) (by omega) (fun _ => rfl) (fun _ => by intro z; cases z)
      have f3 : lng o2 = true → ∀ {M : List Slot}, (ff j M).set (i + 2) .unset = ff j (M.set (i + 2) .unset) := fun l _ => ff_set (t3 l) (by omega)
      cases o with
      | unset =>
        simp only at e ⊢
        by_cases c : cat1 o2 = true
        · rw [if_pos c] at e ⊢; cases e; exact ⟨_, rfl, Or.inr ⟨by rw [f1, f2], s2 (s1 h)⟩⟩
        · rw [if_neg c] at e ⊢
          by_cases l : lng o2 = true ∧ i + 2 < M.length
          · rw [if_pos l] at e ⊢; cases e; exact ⟨_, rfl, Or.inr ⟨by rw [f1, f3 l.1, f2], s2 (s3 l.1 (s1 h))⟩⟩
          · rw [if_neg l] at e; cases e
      | val x =>
        simp only at e ⊢
        by_cases d : x.category = 2
        · rw [if_pos d] at e ⊢; cases e; exact ⟨_, rfl, Or.inr ⟨by rw [f1, f2], s2 (s1 h)⟩⟩
        rw [if_neg d] at e ⊢
        by_cases c : cat1 o2 = true
        · rw [if_pos c] at e ⊢; cases e; exact ⟨_, rfl, Or.inr ⟨by rw [f1, f2], s2 (s1 h)⟩⟩
        · rw [if_neg c] at e ⊢
          by_cases l : lng o2 = true ∧ i + 2 < M.length
          · rw [if_pos l] at e ⊢; cases e; exact ⟨_, rfl, Or.inr ⟨by rw [f1, f3 l.1, f2], s2 (s3 l.1 (s1 h))⟩⟩
          · rw [if_neg l] at e; cases e
      | second =>
        simp only at e ⊢
        by_cases d : 1 ≤ i
        · rw [if_pos d] at e ⊢
          have t0 : i - 1 ≠ j := by omega
          have t1 : i - 1 ≠ j + 1 := by intro z; exact g5 (by rw [← hx]; congr 1; omega)
          have f0 : (ff j M).set (i - 1) .unset = ff j (M.set (i - 1) .unset) := ff_set t0 t1
          have s0 : Gl j (M.set (i - 1) .unset) := Gl_set h t0 t1 (fun _ => rfl) (fun _ => by intro z; cases z)
          by_cases c : cat1 o2 = true
          · rw [if_pos c] at e ⊢; cases e; exact ⟨_, rfl, Or.inr ⟨by rw [f0, f1, f2], s2 (s1 s0)⟩⟩
          · rw [if_neg c] at e ⊢
            by_cases l : lng o2 = true ∧ i + 2 < M.length
            · rw [if_pos l] at e ⊢; cases e; exact ⟨_, rfl, Or.inr ⟨by rw [f0, f1, f3 l.1, f2], s2 (s3 l.1 (s1 s0))⟩⟩
            · rw [if_neg l] at e; cases e
        · rw [if_neg d] at e; cases e
theorem get_fr {o : Slot} (h : lfr j L M) (e : L[i]? = some o) (ho : o ≠ .unset) : M[i]? = some o := by
  rcases h with rfl | ⟨rfl, h⟩
  · exact e
  by_cases c1 : i = j
  · subst c1; rw [(ff_j h).1] at e; cases e; exact absurd rfl ho
  by_cases c2 : i = j + 1
  · subst c2; rw [(ff_j h).2] at e; cases e; exact absurd rfl ho
  rw [ff_get c1 c2] at e; exact e
theorem ldI_fr (h : lfr j L M) (e : ldI L i = some v) : ldI M i = some v := by
  unfold ldI at *
  split at e
  · rename_i g; rw [get_fr h g (by intro z; cases z)]; exact e
  · cases e
theorem ldJ_fr (h : lfr j L M) (e : ldJ L i = some v) : ldJ M i = some v := by
  unfold ldJ at *
  split at e
  · rename_i g; rw [get_fr h g (by intro z; cases z)]; exact e
  · cases e
theorem ldR_fr (h : lfr j L M) (e : ldR L i = some v) : ldR M i = some v := by
  unfold ldR at *
  split at e
  · rename_i g; rw [get_fr h g (by intro z; cases z)]; exact e
  · cases e
theorem inc_fr {x : Int32} {b : Value} (hb : b.category = 1) (h : lfr j L M) (e : L[i]? = some (.val (.int x))) : lfr j (L.set i (.val b)) (M.set i (.val b)) := by
  have e' := get_fr h e (by intro z; cases z)
  rcases h with rfl | ⟨rfl, h⟩
  · exact Or.inl rfl
  have c1 : i ≠ j := by intro z; subst z; rw [(ff_j h).1] at e; cases e
  have c2 : i ≠ j + 1 := by intro z; subst z; rw [(ff_j h).2] at e; cases e
  exact Or.inr ⟨ff_set c1 c2, Gl_set h c1 c2 (fun _ => by simp [lng, hb]) (fun _ => by intro z; cases z)⟩
theorem stp_fl {q : Fm} (h : lfr j L M) (e : stp P m ins len aux pc L S k n H = some q) : ∃ M', stp P m ins len aux pc M S k n H = some (q.1, M', q.2.2) ∧ lfr j q.2.1 M' := by
  cases hl : loc ins with
  | false =>
    obtain ⟨h1, h2⟩ := stp_fr (L' := M) hl e
    exact ⟨M, h2, by rw [h1]; exact h⟩
  | true =>
    cases ins <;> first
      | (cases hl; done)
      | (simp only [stp, Option.map_eq_some_iff] at e ⊢; obtain ⟨w, h1, h2⟩ := e; subst h2; first
          | exact ⟨M, ⟨w, ldI_fr h h1, rfl⟩, h⟩
          | exact ⟨M, ⟨w, ldJ_fr h h1, rfl⟩, h⟩
          | exact ⟨M, ⟨w, ldR_fr h h1, rfl⟩, h⟩)
      | (simp only [stp] at e ⊢; split at e
         · simp only [Option.map_eq_some_iff] at e ⊢
           obtain ⟨w, h1, h2⟩ := e; subst h2
           first
            | (obtain ⟨M, g1, g2⟩ := stl_fr rfl h h1; exact ⟨M, ⟨M, g1, rfl⟩, g2⟩)
            | (obtain ⟨M, g1, g2⟩ := stL_fr h h1; exact ⟨M, ⟨M, g1, rfl⟩, g2⟩)
         · cases e)
      | (simp only [stp] at e ⊢; rename_i i c
         revert e; cases hx : L[i]? with
         | none => intro e; cases e
         | some o =>
           intro e
           split at e
           · rename_i x g; cases g
             rw [get_fr h hx (by intro z; cases z)]
             cases e; exact ⟨_, rfl, inc_fr rfl h hx⟩
           · cases e)
theorem run_fl : ∀ (f m pc : Nat) (L L' : List Slot) (S : List Value) (k n : Nat) (H : AH) (r : Option Value × AH), lfr j L L' → run P f m pc L S k n H = some r → run P f m pc L' S k n H = some r
  | 0, _, _, _, _, _, _, _, _, _, _, e => by cases e
  | f + 1, m, pc, L, L', S, k, n, H, r, h, e => by
    unfold run at e ⊢
    cases hd : P.1 m pc with
    | none => rw [hd] at e; cases e
    | some d =>
      rw [hd] at e; simp only at e ⊢
      cases hr : ret P m d.1 S with
      | some v => rw [hr] at e; exact e
      | none =>
        rw [hr] at e; simp only at e ⊢
        cases hc : cal P m d.1 d.2.2 S k n H with
        | some c =>
          rw [hc] at e; simp only at e ⊢
          cases hx : run P f c.1 0 (ent P c.1 c.2.1) [] 0 0 H with
          | none => rw [hx] at e; cases e
          | some y => rw [hx] at e; simp only at e ⊢; exact run_fl f _ _ _ _ _ _ _ _ _ h e
        | none =>
          rw [hc] at e; simp only at e ⊢
          cases hs : stp P m d.1 d.2.1 d.2.2 pc L S k n H with
          | none => rw [hs] at e; cases e
          | some q =>
            rw [hs] at e; simp only at e
            obtain ⟨M, g1, g2⟩ := stp_fl h hs
            rw [g1]; exact run_fl f _ _ _ _ _ _ _ _ _ g2 e
theorem W_fl (j : Nat) (h : Gl j L) (w : W P m pc (ff j L) S k n H Q) : W P m pc L S k n H Q := by
  obtain ⟨f, v, H', e, q⟩ := w
  exact ⟨f, v, H', run_fl f m pc _ L S k n H _ (Or.inr ⟨rfl, h⟩) e, q⟩
def wfb : List Slot → Bool
  | [] => true
  | .second :: _ => false
  | .unset :: L => wfb L
  | .val v :: L => if v.category = 2 then (match L with | .second :: L => wfb L | _ => false) else if v.category = 1 then wfb L else false
theorem lel_app : ∀ (A : List Slot) {C D : List Slot}, lel C D → lel (A ++ C) (A ++ D)
  | [], _, _, h => h
  | a :: A, _, _, h => lel_cons (lel_app A h)
theorem ff_app {A B : List Slot} {x y : Slot} : ff A.length (A ++ x :: y :: B) = A ++ .unset :: .unset :: B := by
  unfold ff
  rw [List.set_append_right _ _ (Nat.le_refl _), List.set_append_right _ _ (by omega)]
  simp
theorem wfb_hd {B : List Slot} (h : wfb B = true) : B[0]? ≠ some .second := by
  cases B with
  | nil => intro e; cases e
  | cons b B => intro e; cases b <;> cases e; cases h
theorem W_fB : ∀ (c : Nat) (A B : List Slot), B.length ≤ c → wfb B = true → (∀ i o, i + 1 = A.length → A[i]? = some o → lng o = false) → W P m pc (A ++ B.map fun _ => .unset) S k n H Q → W P m pc (A ++ B) S k n H Q
  | 0, A, B, hc, hw, ha, w => by
    have : B = [] := List.eq_nil_of_length_eq_zero (by omega)
    subst this; exact w
  | c + 1, A, [], hc, hw, ha, w => w
  | c + 1, A, .second :: B, hc, hw, ha, w => by cases hw
  | c + 1, A, .unset :: B, hc, hw, ha, w => by
    have := W_fB c (A ++ [.unset]) B (by simpa using hc) hw (fun i o e h => by
      rw [List.length_append, List.length_singleton] at e
      have : i = A.length := by omega
      subst this; rw [List.getElem?_concat_length] at h; cases h; rfl) (by simpa using w)
    simpa using this
  | c + 1, A, .val v :: B, hc, hw, ha, w => by
    by_cases d : v.category = 2
    · unfold wfb at hw; rw [if_pos d] at hw
      cases B with
      | nil => cases hw
      | cons b B =>
        cases b with
        | unset => cases hw
        | val u => cases hw
        | second =>
          simp only at hw
          refine W_fl A.length ⟨⟨v, by simp, d⟩, by simp, fun i o e h => ?_, ?_⟩ ?_
          · rw [List.getElem?_append_left (by omega)] at h; exact ha i o e h
          · have := wfb_hd hw
            rw [List.getElem?_append_right (by omega)]; simpa using this
          · rw [ff_app]
            have := W_fB c (A ++ [.unset, .unset]) B (by simp only [List.length_cons] at hc; omega) hw (fun i o e h => by
              rw [List.length_append] at e; simp only [List.length_cons, List.length_nil] at e
              have : i = A.length + 1 := by omega
              subst this; rw [List.getElem?_append_right (by omega)] at h; simp at h; subst h; rfl) (by simpa using w)
            simpa using this
    · have d1 : v.category = 1 := by cases v <;> simp [Value.category] at d ⊢
      unfold wfb at hw; rw [if_neg d, if_pos d1] at hw
      have := W_fB c (A ++ [.val v]) B (by simpa using hc) (by simpa using hw) (fun i o e h => by
        rw [List.length_append, List.length_singleton] at e
        have : i = A.length := by omega
        subst this; rw [List.getElem?_concat_length] at h; cases h; simp [lng, d1]) (by
          rw [List.append_assoc]
          refine W_fg (lel_app A ?_) w
          exact lel_un (by simp [cat1, d1]) lel_refl)
      simpa using this
def okf (c : Nat) (L : List Slot) : Bool := decide (c ≤ L.length) && (wfb (L.drop c) && (match c with | 0 => true | c + 1 => match L[c]? with | some o => !lng o | none => true))
theorem W_fa (c : Nat) (h : okf c L = true) (w : W P m pc (L.take c ++ (L.drop c).map fun _ => .unset) S k n H Q) : W P m pc L S k n H Q := by
  unfold okf at h; rw [Bool.and_eq_true, Bool.and_eq_true, decide_eq_true_eq] at h
  have := W_fB _ (L.take c) (L.drop c) (Nat.le_refl _) h.2.1 (fun i o e h' => by
    rw [List.length_take, Nat.min_eq_left h.1] at e; subst e
    rw [List.getElem?_take_of_lt (by omega)] at h'
    have h2 := h.2.2; simp only [h'] at h2; simpa using h2) w
  rwa [List.take_append_drop] at this
end ForgetL
section Ist
variable {P : Prog} {m pc len k n i : Nat} {aux : Int} {L : List Slot} {S : List Value} {H : AH} {Q : Option Value → AH → Prop} {x : Int32} {l : Int64}
end Ist
section Num2
theorem nn32 {x : Int32} (h : 0 ≤ x.toInt) : x.toInt = (x.toBitVec.toNat : Int) ∧ x.toBitVec.toNat < 2147483648 := by
  have e : x.toInt = x.toBitVec.toInt := rfl
  rw [e, BitVec.toInt_eq_toNat_cond] at h ⊢
  have := x.toBitVec.isLt
  split at h
  · rename_i g; rw [if_pos g]; exact ⟨rfl, by omega⟩
  · omega
theorem of_nn {x : Int32} (h : x.toBitVec.toNat < 2147483648) : x.toInt = (x.toBitVec.toNat : Int) := by
  have e : x.toInt = x.toBitVec.toInt := rfl
  rw [e, BitVec.toInt_eq_toNat_cond, if_pos (by omega)]
theorem and_rg {x m : Int32} (h : 0 ≤ m.toInt) : 0 ≤ (x &&& m).toInt ∧ (x &&& m).toInt ≤ m.toInt := by
  obtain ⟨e, hm⟩ := nn32 h
  have h1 : (x &&& m).toBitVec.toNat ≤ m.toBitVec.toNat := by
    rw [Int32.toBitVec_and, BitVec.toNat_and]; exact Nat.and_le_right
  rw [of_nn (x := x &&& m) (by omega), e]; omega
theorem len32 {n : Nat} (h : n < 2147483648) : (n.toInt32).toInt = n := by
  rw [show n.toInt32 = Int32.ofNat n from rfl, Int32.toInt_ofNat_of_lt (by omega)]
end Num2
end Jvm.JX

namespace Jvm.JX
open Sem ClassFile Op Lib
theorem rem_rg {x m : Int32} (hx : 0 ≤ x.toInt) (hm : 0 < m.toInt) : 0 ≤ (x % m).toInt ∧ (x % m).toInt < m.toInt := by
  rw [Int32.toInt_mod]
  exact ⟨Int.tmod_nonneg _ hx, Int.tmod_lt_of_pos _ hm⟩
end Jvm.JX

namespace Jvm.JX
open Sem ClassFile Op Lib Jvm.Stand Jvm.Free Jvm.LawKit Jvm.RoadKit
def CRel (C : String) (fn : Nat → String × String) (F : List Nat) (Z : State) (n0 : Nat) (h : Heap) (a : Nat) (c : Cel) : Prop :=
  (c.2.2.1 = true → n0 ≤ a) ∧
  match c.1 with
  | .object _ => Exa Z h a C ∧ ∀ k ∈ F, Fld Z h a C (fn k).1 (fn k).2 (c.2.2.2 k)
  | .array t => c.2.1 < 2 ^ 31 ∧ ∃ cl : Cell, Arr Z h a cl t ∧ cl.slots.size = c.2.1 ∧ ∀ i, i < c.2.1 → cl.slots[i]? = some (c.2.2.2 i)
  | _ => True
def RelH (C : String) (fn : Nat → String × String) (F : List Nat) (Z : State) (n0 : Nat) (h : Heap) (H : AH) : Prop := h.size = H.1 ∧ n0 ≤ H.1 ∧ ∀ a, CRel C fn F Z n0 h a (H.2 a)
def ilen2 : Instr → Nat → Nat
  | .tableswitch _ _ _ _, l => l
  | i, _ => ilen i
def RowOk (P : Prog) (tb : List Jvm.Cond) (C : String) (fn : Nat → String × String) (F : List Nat) (nsl : Nat) (nm : Nat → MethodName) (R : List Nat) (m : Nat) (ins : Instr) (aux : Int) : Prop :=
  match ins with
  | .getfield i => aux.toNat ∈ F ∧ Jvm.Cond.fieldLink (nm m).cls i C (fn aux.toNat).1 (fn aux.toNat).2 ∈ tb
  | .putfield i => aux.toNat ∈ F ∧ Jvm.Cond.fieldLink (nm m).cls i C (fn aux.toNat).1 (fn aux.toNat).2 ∈ tb ∧ (Jvm.Cond.lays C C (fn aux.toNat).1 (fn aux.toNat).2 ∈ tb ∨ (nm m).cls = C ∧ (nm m).name = "<init>")
  | .new i => aux.toNat = nsl ∧ Jvm.Cond.classLink (nm m).cls i C ∈ tb
  | .newarray t => Jvm.Cond.arrayClass (newarray.typeOf t) ∈ tb
  | .ldc i => Jvm.Cond.constant (nm m).cls i (Int32.ofInt aux) ∈ tb
  | .ldc2_w i => Jvm.Cond.constantLong (nm m).cls i (Int64.ofInt aux) ∈ tb
  | .invokevirtual i => aux.toNat ∈ R ∧ Jvm.Cond.methodLink (nm m).cls i (nm aux.toNat) ∈ tb
  | .invokestatic i => aux.toNat ∈ R ∧ Jvm.Cond.methodLink (nm m).cls i (nm aux.toNat) ∈ tb
  | .invokespecial i => (aux = -1 → Jvm.Cond.methodLink (nm m).cls i Lib.objectInit ∈ tb ∧ Jvm.Cond.instanceMethod Lib.objectInit ∈ tb ∧ Jvm.Cond.code Lib.objectInit ⟨#[0xb1]⟩ 1 none ∈ tb) ∧ (0 ≤ aux → aux.toNat ∈ R ∧ Jvm.Cond.methodLink (nm m).cls i (nm aux.toNat) ∈ tb)
  | _ => True
def CalOk (P : Prog) (tb : List Jvm.Cond) (C : String) (nm : Nat → MethodName) (bt : Nat → ByteArray) (m : Nat) : Prop :=
  Jvm.Cond.code (nm m) (bt m) (ml P m) (rt P m) ∈ tb ∧ Jvm.Cond.initialized (nm m).cls ∈ tb ∧ (∃ ps r, parseMethodDescriptor (nm m).desc = some ⟨ps, r⟩ ∧ ps.length + (if kd P m = 0 then 0 else 1) = na P m) ∧
  (kd P m = 0 → Jvm.Cond.static (nm m) ∈ tb) ∧
  (kd P m ≠ 0 → (nm m).cls = C ∧ Jvm.Cond.instanceMethod (nm m) ∈ tb) ∧
  (kd P m = 1 → Jvm.Cond.declares (nm m) ∈ tb ∧ Jvm.Cond.selects C (nm m) (nm m) ∈ tb) ∧
  (kd P m = 2 → Jvm.Cond.privateMethod (nm m) ∈ tb) ∧
  (kd P m = 3 → (nm m).name = "<init>" ∧ rt P m = none)
def Good (P : Prog) (tb : List Jvm.Cond) (C : String) (fn : Nat → String × String) (F : List Nat) (nsl : Nat) (nm : Nat → MethodName) (bt : Nat → ByteArray) (R : List Nat) (top : Nat) : Prop :=
  Jvm.Cond.instantiable C nsl ∈ tb ∧ Jvm.Cond.initialized C ∈ tb ∧
  (∀ k ∈ F, parseFieldDescriptor (fn k).2 = some (P.2.2.1 k) ∧ (Jvm.Cond.lays C C (fn k).1 (fn k).2 ∈ tb ∨ Jvm.Cond.laysFinal C C (fn k).1 (fn k).2 ∈ tb)) ∧
  (∀ j ∈ F, ∀ k ∈ F, (fn j).1 = (fn k).1 → j = k) ∧
  (∀ m ∈ R, plainName (nm m).cls = true ∧ ((nm m).cls ≠ "java/lang/invoke/MethodHandle" ∧ (nm m).cls ≠ "java/lang/invoke/VarHandle") ∧
    ∀ pc ins len aux, P.1 m pc = some (ins, len, aux) → decode (bt m) pc = .ok (ins, len) ∧ len = ilen2 ins len ∧ RowOk P tb C fn F nsl nm R m ins aux) ∧
  (∀ m ∈ R, m ≠ top → CalOk P tb C nm bt m) ∧
  (∀ m ∈ R, ∀ pc ins len aux, P.1 m pc = some (ins, len, aux) → aux = (top : Int) → kindOk ins (kd P top) = false)
section Rel
variable {C : String} {fn : Nat → String × String} {F : List Nat} {Z : State} {n0 : Nat} {h h' : Heap} {H : AH}
theorem RelH.obj (r : RelH C fn F Z n0 h H) {a : Nat} (ha : isO H a = true) : Exa Z h a C ∧ ∀ k ∈ F, Fld Z h a C (fn k).1 (fn k).2 (fld H a k) := by
  have q := (r.2.2 a).2
  unfold isO at ha
  cases hk : (H.2 a).1 <;> rw [hk] at ha <;> first | (cases ha; done) | (simp only [hk] at q; exact q)
theorem RelH.own (r : RelH C fn F Z n0 h H) {a : Nat} (ha : (H.2 a).2.2.1 = true) : n0 ≤ a := (r.2.2 a).1 ha
theorem RelH.arr (r : RelH C fn F Z n0 h H) {a : Nat} {t : FieldType} (ha : (H.2 a).1 = .array t) : (H.2 a).2.1 < 2 ^ 31 ∧ ∃ cl : Cell, Arr Z h a cl t ∧ cl.slots.size = (H.2 a).2.1 ∧ ∀ i, i < (H.2 a).2.1 → cl.slots[i]? = some ((H.2 a).2.2.2 i) := by
  have q := (r.2.2 a).2
  simp only [ha] at q; exact q
theorem RelH.ext (r : RelH C fn F Z n0 h H) (E : Ext h h') {c : Cel} (hs : h'.size = h.size + 1) (hc : CRel C fn F Z n0 h' h.size c) : RelH C fn F Z n0 h' (H.1 + 1, fun b => if b = H.1 then c else H.2 b) := by
  refine ⟨by rw [hs, r.1], Nat.le_succ_of_le r.2.1, fun a => ?_⟩
  by_cases e : a = H.1
  · subst e; simp only [if_true]; rw [← r.1]; exact hc
  · simp only [e, if_false]
    obtain ⟨q1, q2⟩ := r.2.2 a
    refine ⟨q1, ?_⟩
    cases hk : (H.2 a).1 <;> simp only [hk] at q2 ⊢
    · exact ⟨q2.1.ext E, fun k hk => (q2.2 k hk).ext E⟩
    · obtain ⟨q3, cl, q4, q5⟩ := q2; exact ⟨q3, cl, q4.ext E, q5⟩
end Rel
def Go (C : String) (fn : Nat → String × String) (F : List Nat) (Z : State) (n0 : Nat) (p : Program) (l : Launch) (e : Env) (R : Jvm.Room) (s : State) (mid : MethodId) (args : Array Value) (below : List Frame) (meth : Method) (c : Code) (start : State) (nl : Nat) (q : Fm) : Prop :=
  ∃ T' locs', Stand p l e R s mid args below meth c T' locs' q.2.2.2.1 q.2.2.2.2.1 ∧ RelH C fn F Z n0 T'.heap q.2.2.2.2.2 ∧ Fr n0 locs' ∧ q.2.2.2.1 ≤ R.cells ∧ q.2.2.2.2.1 ≤ R.slots ∧ q.2.1.length = nl ∧
    ∀ target, Steps p.tables e below (T'.setTop (mkF mid q.1 q.2.1.toArray q.2.2.1)) target → Steps p.tables e below start target
theorem lrem_mod (x y : Int64) : x - (x / y) * y = x % y := by
  apply Int64.toInt_inj.mp
  have h1 := Int64.le_toInt (x % y)
  have h2 := Int64.toInt_lt (x % y)
  rw [Int64.toInt_sub, Int64.toInt_mul, Int64.toInt_div, Int.bmod_mul_bmod, Int.sub_bmod_bmod, Int.mul_comm (x.toInt.tdiv y.toInt), ← Int.tmod_def, ← Int64.toInt_mod]
  exact Int.bmod_eq_of_le_mul_two (by omega) (by omega)
theorem arr_get {L : List Slot} {i : Nat} {o : Slot} (h : L[i]? = some o) : L.toArray[i]? = some o := by simpa using h
theorem stl_ok {L L' : List Slot} {i : Nat} {v : Value} (hv : v.category = 1) (h : stl L i v = some L') : storeLocals L.toArray i v = some L'.toArray ∧ L'.length = L.length := by
  unfold stl at h
  unfold storeLocals
  cases hi : L[i]? with
  | none => rw [hi] at h; cases h
  | some o =>
    have hlt : i < L.length := (List.getElem?_eq_some_iff.mp hi).1
    rw [hi] at h
    rw [arr_get hi]
    cases o with
    | unset => cases h; simp [storeSelf, setAt, hlt, hv]
    | second =>
      simp only at h
      split at h
      · cases h; simp [storeSelf, setAt, hv, hlt, Nat.lt_of_le_of_lt (Nat.sub_le i 1) hlt]
      · cases h
    | val w =>
      simp only at h
      split at h
      · rename_i hw; cases h; simp [storeSelf, setAt, hv, hlt, hw]
      · rename_i hw
        split at h
        · rename_i h1
          have hw2 : w.category = 2 := by cases w <;> simp [Value.category] at hw ⊢
          cases h; simp [storeSelf, setAt, hv, hlt, hw2, h1]
        · cases h
theorem stL_ok {L L' : List Slot} {i : Nat} {v : Value} (hv : v.category = 2) (h : stL L i v = some L') : storeLocals L.toArray i v = some L'.toArray ∧ L'.length = L.length := by
  unfold stL at h
  unfold storeLocals
  cases hi : L[i]? with
  | none => rw [hi] at h; cases h
  | some o =>
    cases hi2 : L[i + 1]? with
    | none => rw [hi, hi2] at h; cases o <;> cases h
    | some o2 =>
      have hlt : i < L.length := (List.getElem?_eq_some_iff.mp hi).1
      have hlt2 : i + 1 < L.length := (List.getElem?_eq_some_iff.mp hi2).1
      rw [hi, hi2] at h
      rw [arr_get hi]
      have g2 : (L.set i (.val v))[i + 1]? = some o2 := by rw [List.getElem?_set_ne (by omega)]; exact hi2
      have g4 : L[i + 1] = o2 := (List.getElem?_eq_some_iff.mp hi2).2
      cases o with
      | second =>
        simp only at h
        have h0 : i - 1 < L.length := by omega
        split at h
        · rename_i h1
          have g2' : ((L.set (i - 1) .unset).set i (.val v))[i + 1]? = some o2 := by rw [List.getElem?_set_ne (by omega), List.getElem?_set_ne (by omega)]; exact hi2
          have g4' : ((L.set (i - 1) .unset).set i (.val v))[i + 1]'(by simpa using hlt2) = o2 := (List.getElem?_eq_some_iff.mp g2').2
          split at h
          · rename_i hc
            cases h
            cases o2 with
            | second => cases hc
            | unset => simp [storeSelf, setAt, hv, hlt, hlt2, h0, g4']
            | val w => simp only [cat1, beq_iff_eq] at hc; simp [storeSelf, setAt, hv, hlt, hlt2, h0, g4', hc]
          · split at h
            · rename_i hc
              cases h
              obtain ⟨hc, hlt3⟩ := hc
              cases o2 with
              | second => cases hc
              | unset => cases hc
              | val w => simp only [lng, beq_iff_eq] at hc; simp [storeSelf, setAt, hv, hlt, hlt2, hlt3, h0, g4', hc]
            · cases h
        · cases h
      | unset =>
        simp only at h
        split at h
        · rename_i hc
          cases h
          cases o2 with
          | second => cases hc
          | unset => simp [storeSelf, setAt, hv, hlt, hlt2, g2, g4]
          | val w => simp only [cat1, beq_iff_eq] at hc; simp [storeSelf, setAt, hv, hlt, hlt2, g2, g4, hc]
        · split at h
          · rename_i hc
            cases h
            obtain ⟨hc, hlt3⟩ := hc
            cases o2 with
            | second => cases hc
            | unset => cases hc
            | val w => simp only [lng, beq_iff_eq] at hc; simp [storeSelf, setAt, hv, hlt, hlt2, hlt3, g2, g4, hc]
          · cases h
      | val w =>
        simp only at h
        split at h
        · rename_i hw
          cases h
          have g3 : ((L.set (i + 1) .unset).set i (.val v))[i + 1]? = some .unset := by rw [List.getElem?_set_ne (by omega)]; simp [hlt2]
          simp [storeSelf, setAt, hv, hlt, hlt2, hw, g3]
          rw [List.set_comm _ _ (by omega), List.set_set, List.set_comm _ _ (by omega)]
        · rename_i hw
          have hw1 : ¬ w.category = 2 := hw
          split at h
          · rename_i hc
            cases h
            cases o2 with
            | second => cases hc
            | unset => simp [storeSelf, setAt, hv, hlt, hlt2, g2, g4, hw1]
            | val w => simp only [cat1, beq_iff_eq] at hc; simp [storeSelf, setAt, hv, hlt, hlt2, g2, g4, hw1, hc]
          · split at h
            · rename_i hc
              cases h
              obtain ⟨hc, hlt3⟩ := hc
              cases o2 with
              | second => cases hc
              | unset => cases hc
              | val w2 => simp only [lng, beq_iff_eq] at hc; simp [storeSelf, setAt, hv, hlt, hlt2, hlt3, g2, g4, hw1, hc]
            · cases h
theorem jmp_ok {pc q : Nat} {o : Int} (h : jmp pc o = some q) : 0 ≤ (pc : Int) + o ∧ ((pc : Int) + o).toNat = q := by
  unfold jmp at h
  split at h
  · rename_i g; cases h; exact ⟨g, rfl⟩
  · cases h
theorem ldI_ok {L : List Slot} {i : Nat} {v : Value} (h : ldI L i = some v) : ∃ x, v = .int x ∧ L.toArray[i]? = some (.val (.int x)) := by
  unfold ldI at h
  split at h
  · rename_i x e; cases h; exact ⟨x, rfl, arr_get e⟩
  · cases h
theorem ldJ_ok {L : List Slot} {i : Nat} {v : Value} (h : ldJ L i = some v) : ∃ x, v = .long x ∧ L.toArray[i]? = some (.val (.long x)) := by
  unfold ldJ at h
  split at h
  · rename_i x e; cases h; exact ⟨x, rfl, arr_get e⟩
  · cases h
theorem ldR_ok {L : List Slot} {i : Nat} {v : Value} (h : ldR L i = some v) : ∃ x, v = .ref x ∧ L.toArray[i]? = some (.val (.ref x)) := by
  unfold ldR at h
  split at h
  · rename_i x e; cases h; exact ⟨x, rfl, arr_get e⟩
  · cases h
theorem okv_ok {t : FieldType} {v : Value} (h : okv t v = true) : narrow t v = v ∧ fits t v = true := by
  unfold okv at h
  split at h
  · exact ⟨rfl, rfl⟩
  · rename_i z
    simp only [Bool.or_eq_true, beq_iff_eq] at h
    rcases h with rfl | rfl <;> exact ⟨rfl, rfl⟩
  · rename_i z
    simp only [beq_iff_eq] at h
    have q := fits_nar_byte z
    rw [h] at q
    exact ⟨by show Value.int _ = _; rw [h], q⟩
  · exact ⟨rfl, rfl⟩
  · exact ⟨rfl, rfl⟩
  · cases h
end Jvm.JX

namespace Jvm.JX
open Sem ClassFile Op Lib Jvm.Stand Jvm.Free Jvm.LawKit Jvm.RoadKit
section Step
variable {P : Prog} {tb : List Jvm.Cond} {C : String} {fn : Nat → String × String} {F : List Nat} {nsl : Nat} {nm : Nat → MethodName} {bt : Nat → ByteArray} {R : List Nat} {top : Nat}
variable {l : Launch} {Z : State} {a0 : Array Value} {n0 : Nat} {m pc len k n : Nat} {aux : Int} {L : List Slot} {S : List Value} {H : AH} {ins : Instr} {q : Fm}
variable {p : Program} {e : Env} {s : State} {mid : MethodId} {args : Array Value} {below : List Frame} {meth : Method} {c : Code} {T : State} {locs : List Loc} {Rm : Jvm.Room}
theorem go_same {start : State} {nl pc' : Nat} {L' : List Slot} {S' : List Value} (X : Stand p l e Rm s mid args below meth c T locs k n) (r : RelH C fn F Z n0 T.heap H) (N : Fr n0 locs) (hk : k ≤ Rm.cells) (hn : n ≤ Rm.slots) (hL : L'.length = nl)
    (st : ∀ target, Steps p.tables e below (T.setTop (mkF mid pc' L'.toArray S')) target → Steps p.tables e below start target) : Go C fn F Z n0 p l e Rm s mid args below meth c start nl (pc', L', S', k, n, H) := ⟨T, locs, X, r, N, hk, hn, hL, st⟩
theorem go_heap {start : State} {nl pc' : Nat} {L' : List Slot} {S' : List Value} {T' : State} (X : Stand p l e Rm s mid args below meth c T' locs k n) (r : RelH C fn F Z n0 T.heap H) (hh : T'.heap = T.heap) (N : Fr n0 locs) (hk : k ≤ Rm.cells) (hn : n ≤ Rm.slots) (hL : L'.length = nl)
    (st : ∀ target, Steps p.tables e below (T'.setTop (mkF mid pc' L'.toArray S')) target → Steps p.tables e below start target) : Go C fn F Z n0 p l e Rm s mid args below meth c start nl (pc', L', S', k, n, H) := ⟨T', locs, X, by rw [hh]; exact r, N, hk, hn, hL, st⟩
theorem idx_not {i : Int32} {n : Nat} (h1 : ¬ i < 0) (h2 : i.toNatClampNeg < n) : ¬ (i < 0 ∨ n ≤ i.toNatClampNeg) := fun h => h.elim h1 (Nat.not_le.mpr h2)
theorem inA_ok {a : Nat} {t : FieldType} {i : Int32} (h : inA H a t i = true) : (H.2 a).1 = .array t ∧ ¬ i < 0 ∧ i.toNatClampNeg < (H.2 a).2.1 := by
  simpa [inA, and_assoc] using h
theorem inAw_ok {a : Nat} {t : FieldType} {i : Int32} (h : inAw H a t i = true) : inA H a t i = true ∧ (H.2 a).2.2.1 = true := by
  simpa [inAw] using h
theorem isOw_ok {a : Nat} (h : isOw H a = true) : isO H a = true ∧ (H.2 a).2.2.1 = true := by simpa [isOw] using h
theorem RelH.wrF {h h' : Heap} {a j : Nat} {v : Value} (hG : Good P tb C fn F nsl nm bt R top) (hw : ∀ d ∈ tb, d.before a0 Z = true) (r : RelH C fn F Z n0 h H) (ha : isO H a = true) (hj : j ∈ F) (Wt : Wr h h' a (Jvm.RoadKit.slotOf Z C (fn j).1 (fn j).2) v) : RelH C fn F Z n0 h' (wr H a j v) := by
  refine ⟨by rw [Wt.size]; exact r.1, r.2.1, fun b => ?_⟩
  by_cases e : b = a
  · subst e
    obtain ⟨q1, q2⟩ := r.2.2 b
    obtain ⟨E, Fs⟩ := r.obj ha
    simp only [wr, if_true]
    refine ⟨q1, ?_⟩
    unfold isO at ha
    cases hk : (H.2 b).1 <;> rw [hk] at ha <;> try (cases ha; done)
    simp only
    refine ⟨E.wr Wt, fun i hi => ?_⟩
    by_cases e2 : i = j
    · subst e2; simp only [if_true]; exact (Fs i hi).same Wt
    · simp only [e2, if_false]
      refine (Fs i hi).other Wt (Or.inr ?_)
      have lw : ∀ k ∈ F, Laid Z a0 C C (fn k).1 (fn k).2 := fun k hk => ((hG.2.2.1 k hk).2).imp (hw _) (hw _)
      exact slot_ne (lw i hi) (lw j hj) (fun q => e2 (hG.2.2.2.1 i hi j hj q)) (hG.2.2.1 i hi).1 (hG.2.2.1 j hj).1
  · simp only [wr, e, if_false]
    obtain ⟨q1, q2⟩ := r.2.2 b
    refine ⟨q1, ?_⟩
    cases hk : (H.2 b).1 <;> simp only [hk] at q2 ⊢
    · exact ⟨q2.1.wr Wt, fun k hk => (q2.2 k hk).other Wt (Or.inl e)⟩
    · obtain ⟨q3, cl, q4, q5⟩ := q2; exact ⟨q3, cl, q4.other Wt e, q5⟩
theorem RelH.wrA {h h' : Heap} {a j : Nat} {t : FieldType} {v : Value} (r : RelH C fn F Z n0 h H) (ha : (H.2 a).1 = .array t) (hj : j < (H.2 a).2.1) (Wt : Wr h h' a j v) : RelH C fn F Z n0 h' (wr H a j v) := by
  refine ⟨by rw [Wt.size]; exact r.1, r.2.1, fun b => ?_⟩
  by_cases e : b = a
  · subst e
    obtain ⟨q1, q2⟩ := r.2.2 b
    obtain ⟨g1, cl, g2, g3, g4⟩ := r.arr ha
    simp only [wr, if_true]
    refine ⟨q1, ?_⟩
    simp only [ha]
    refine ⟨g1, cl.setSlot j v, g2.same Wt, by rw [sz_set]; exact g3, fun i hi => ?_⟩
    by_cases e2 : i = j
    · subst e2; simp [Cell.setSlot, g3, hj]
    · simp only [e2, if_false]; rw [← g4 i hi]; exact Array.getElem?_setIfInBounds_ne (Ne.symm e2)
  · simp only [wr, e, if_false]
    obtain ⟨q1, q2⟩ := r.2.2 b
    refine ⟨q1, ?_⟩
    cases hk : (H.2 b).1 <;> simp only [hk] at q2 ⊢
    · exact ⟨q2.1.wr Wt, fun k hk => (q2.2 k hk).other Wt (Or.inl e)⟩
    · obtain ⟨q3, cl, q4, q5⟩ := q2; exact ⟨q3, cl, q4.other Wt e, q5⟩
theorem ext_push (h : Heap) (x : Cell) : Ext h (h.push x) := ⟨by simp, fun a c q => by rw [Array.getElem?_push_lt (Array.getElem?_eq_some_iff.mp q).1]; exact (Array.getElem?_eq_getElem _).symm.trans q⟩
theorem made_obj {h : Heap} {cC : ClassId} {kC : Class} (hZ : Z.Warmed39 s.vm) (h1 : s.vm.findClass C = some cC) (h2 : s.vm.classes[cC]? = some kC) :
    Exa Z (h.push { cls := cC, slots := kC.instanceTypes.map defaultValue, vm := .none }) h.size C ∧ ∀ {nm d : String} {ty : FieldType}, Laid Z a0 C C nm d → parseFieldDescriptor d = some ty → Fld Z (h.push { cls := cC, slots := kC.instanceTypes.map defaultValue, vm := .none }) h.size C nm d (defaultValue ty) := by
  rw [hZ.alike.findClass] at h1
  obtain ⟨kZ, z1, -⟩ := Vm.findClass_spec h1
  obtain ⟨k', z2, z3⟩ := hZ.alike.2.2 _ _ z1
  cases h2.symm.trans z2
  have ei : kC.instanceTypes = kZ.instanceTypes := by rw [z3]
  have hN : ∀ x : Cell, (h.push x)[h.size]? = some x := fun x => by simp
  refine ⟨⟨_, kZ, hN _, h1, z1, rfl, fun _ => by simp [ei]⟩, fun {nm d ty} lw ht => ?_⟩
  obtain ⟨c1, k1, cf, kf, i, f, a1, a2, a3, a4, a5, a6, -⟩ := lw.spec
  cases h1.symm.trans a1
  cases z1.symm.trans a2
  exact ⟨_, cf, kf, i, f, hN _, a3, a4, by simp, rfl, a5, by simp [ei, a6, (State.fieldFound?_type a3 ht).2]⟩
theorem made_arr {h : Heap} {t : FieldType} {cA comp : ClassId} {kA : Class} {xs : Array Value} (hZ : Z.Warmed39 s.vm) (h1 : s.vm.findClass ("[" ++ t.toString) = some cA) (h2 : s.vm.classes[cA]? = some kA) (h3 : kA.kind = .array comp t) : Arr Z (h.push { cls := cA, slots := xs, vm := .none }) h.size { cls := cA, slots := xs, vm := .none } t := by
  rw [hZ.alike.findClass] at h1
  obtain ⟨kZ, z1, -⟩ := Vm.findClass_spec h1
  obtain ⟨k', z2, z3⟩ := hZ.alike.2.2 _ _ z1
  cases h2.symm.trans z2
  exact ⟨by simp, ⟨by simp, kZ, z1, comp, by rw [← h3, z3]⟩, by simp⟩
set_option maxHeartbeats 4000000 in
theorem stp_go (hG : Good P tb C fn F nsl nm bt R top) (hw : ∀ d ∈ tb, d.before a0 Z = true) (hm : m ∈ R) (hrow : P.1 m pc = some (ins, len, aux)) (h : stp P m ins len aux pc L S k n H = some q) (X : Stand p l e (rm P m) s mid args below meth c T locs k n) (hx : p.tables.exec = Jvm.exec) (hZ : Z.Warmed39 s.vm)
    (hby : c.code = bt m) (hml : c.maxLocals = ml P m) (hown : s.vm.findClass (nm m).cls = some mid.cls) (hnm : meth.name = (nm m).name) (hL : L.length = ml P m) (r : RelH C fn F Z n0 T.heap H) (N : Fr n0 locs) (hk : k ≤ (rm P m).cells) (hn : n ≤ (rm P m).slots) :
    Go C fn F Z n0 p l e (rm P m) s mid args below meth c (T.setTop (mkF mid pc L.toArray S)) (ml P m) q := by
  obtain ⟨hd, hl, ho⟩ := (hG.2.2.2.2.1 m hm).2.2 pc ins len aux hrow
  replace hd := hb hby hd
  cases ins with
  | iconst i =>
    have hl : len = 1 := hl; subst hl
    obtain rfl := Option.some.inj h
    exact go_same X r N hk hn hL fun t g => XS.iconst X.here hx rfl hd g
  | bipush i =>
    have hl : len = 2 := hl; subst hl
    obtain rfl := Option.some.inj h
    exact go_same X r N hk hn hL fun t g => XS.bipush X.here hx rfl hd g
  | sipush i =>
    have hl : len = 3 := hl; subst hl
    obtain rfl := Option.some.inj h
    exact go_same X r N hk hn hL fun t g => XS.sipush X.here hx rfl hd g
  | lconst i =>
    have hl : len = 1 := hl; subst hl
    obtain rfl := Option.some.inj h
    exact go_same X r N hk hn hL fun t g => XT.lconst X.here hx rfl hd g
  | ldc i =>
    have hl : len = 2 := hl; subst hl
    obtain rfl := Option.some.inj h
    exact go_same X r N hk hn hL fun t g => X.ldcI hx hown (mv hZ (hw _ ho)) rfl hd g
  | ldc2_w i =>
    have hl : len = 3 := hl; subst hl
    obtain rfl := Option.some.inj h
    exact go_same X r N hk hn hL fun t g => X.ldc2J hx hown (mv hZ (hw _ ho)) rfl hd g
  | iload i =>
    have hl : len = 2 := hl; subst hl
    obtain ⟨v, hv, rfl⟩ := Option.map_eq_some_iff.mp h
    obtain ⟨x, rfl, hg⟩ := ldI_ok hv
    exact go_same X r N hk hn hL fun t g => XS.iload X.here hx rfl hd hg g
  | iload_n i =>
    have hl : len = 1 := hl; subst hl
    obtain ⟨v, hv, rfl⟩ := Option.map_eq_some_iff.mp h
    obtain ⟨x, rfl, hg⟩ := ldI_ok hv
    exact go_same X r N hk hn hL fun t g => XS.iloadN X.here hx rfl hd hg g
  | lload i =>
    have hl : len = 2 := hl; subst hl
    obtain ⟨v, hv, rfl⟩ := Option.map_eq_some_iff.mp h
    obtain ⟨x, rfl, hg⟩ := ldJ_ok hv
    exact go_same X r N hk hn hL fun t g => XT.lload X.here hx rfl hd hg g
  | lload_n i =>
    have hl : len = 1 := hl; subst hl
    obtain ⟨v, hv, rfl⟩ := Option.map_eq_some_iff.mp h
    obtain ⟨x, rfl, hg⟩ := ldJ_ok hv
    exact go_same X r N hk hn hL fun t g => XT.lloadN X.here hx rfl hd hg g
  | aload i =>
    have hl : len = 2 := hl; subst hl
    obtain ⟨v, hv, rfl⟩ := Option.map_eq_some_iff.mp h
    obtain ⟨x, rfl, hg⟩ := ldR_ok hv
    exact go_same X r N hk hn hL fun t g => XS.aload X.here hx rfl hd hg rfl g
  | aload_n i =>
    have hl : len = 1 := hl; subst hl
    obtain ⟨v, hv, rfl⟩ := Option.map_eq_some_iff.mp h
    obtain ⟨x, rfl, hg⟩ := ldR_ok hv
    exact go_same X r N hk hn hL fun t g => XS.aloadN X.here hx rfl hd hg rfl g
  | istore i =>
    have hl : len = 2 := hl; subst hl
    dsimp only [stp] at h
    split at h
    · rename_i x S'
      obtain ⟨L', hv, rfl⟩ := Option.map_eq_some_iff.mp h
      obtain ⟨g1, g2⟩ := stl_ok rfl hv
      exact go_same X r N hk hn (g2.trans hL) fun t g => XS.istore X.here hx rfl hd rfl g1 g
    · cases h
  | istore_n i =>
    have hl : len = 1 := hl; subst hl
    dsimp only [stp] at h
    split at h
    · rename_i x S'
      obtain ⟨L', hv, rfl⟩ := Option.map_eq_some_iff.mp h
      obtain ⟨g1, g2⟩ := stl_ok rfl hv
      exact go_same X r N hk hn (g2.trans hL) fun t g => XS.istoreN X.here hx rfl hd rfl g1 g
    · cases h
  | astore i =>
    have hl : len = 2 := hl; subst hl
    dsimp only [stp] at h
    split at h
    · rename_i x S'
      obtain ⟨L', hv, rfl⟩ := Option.map_eq_some_iff.mp h
      obtain ⟨g1, g2⟩ := stl_ok rfl hv
      exact go_same X r N hk hn (g2.trans hL) fun t g => XS.astore X.here hx rfl hd rfl rfl g1 g
    · cases h
  | astore_n i =>
    have hl : len = 1 := hl; subst hl
    dsimp only [stp] at h
    split at h
    · rename_i x S'
      obtain ⟨L', hv, rfl⟩ := Option.map_eq_some_iff.mp h
      obtain ⟨g1, g2⟩ := stl_ok rfl hv
      exact go_same X r N hk hn (g2.trans hL) fun t g => XS.astoreN X.here hx rfl hd rfl rfl g1 g
    · cases h
  | lstore i =>
    have hl : len = 2 := hl; subst hl
    dsimp only [stp] at h
    split at h
    · rename_i x S'
      obtain ⟨L', hv, rfl⟩ := Option.map_eq_some_iff.mp h
      obtain ⟨g1, g2⟩ := stL_ok rfl hv
      exact go_same X r N hk hn (g2.trans hL) fun t g => XT.lstore X.here hx rfl hd rfl g1 g
    · cases h
  | lstore_n i =>
    have hl : len = 1 := hl; subst hl
    dsimp only [stp] at h
    split at h
    · rename_i x S'
      obtain ⟨L', hv, rfl⟩ := Option.map_eq_some_iff.mp h
      obtain ⟨g1, g2⟩ := stL_ok rfl hv
      exact go_same X r N hk hn (g2.trans hL) fun t g => XT.lstoreN X.here hx rfl hd rfl g1 g
    · cases h
  | iinc i cst =>
    have hl : len = 3 := hl; subst hl
    dsimp only [stp] at h
    split at h
    · rename_i x hx1
      obtain rfl := Option.some.inj h
      have g1 : storeLocals L.toArray i (.int (x + Int32.ofInt cst)) = some (L.set i (.val (.int (x + Int32.ofInt cst)))).toArray := (stl_ok rfl (stl_plain hx1 rfl)).1
      exact go_same X r N hk hn (by simpa using hL) fun t g => XS.iinc X.here hx rfl hd (arr_get hx1) g1 g
    · cases h
  | iadd =>
    have hl : len = 1 := hl; subst hl
    dsimp only [stp] at h
    split at h
    · rename_i y x S'
      obtain rfl := Option.some.inj h
      exact go_same X r N hk hn hL fun t g => XS.iadd X.here hx rfl hd rfl g
    · cases h
  | isub =>
    have hl : len = 1 := hl; subst hl
    dsimp only [stp] at h
    split at h
    · rename_i y x S'
      obtain rfl := Option.some.inj h
      exact go_same X r N hk hn hL fun t g => XS.isub X.here hx rfl hd rfl g
    · cases h
  | imul =>
    have hl : len = 1 := hl; subst hl
    dsimp only [stp] at h
    split at h
    · rename_i y x S'
      obtain rfl := Option.some.inj h
      exact go_same X r N hk hn hL fun t g => XS.imul X.here hx rfl hd rfl g
    · cases h
  | iand =>
    have hl : len = 1 := hl; subst hl
    dsimp only [stp] at h
    split at h
    · rename_i y x S'
      obtain rfl := Option.some.inj h
      exact go_same X r N hk hn hL fun t g => XS.iand X.here hx rfl hd rfl g
    · cases h
  | ior =>
    have hl : len = 1 := hl; subst hl
    dsimp only [stp] at h
    split at h
    · rename_i y x S'
      obtain rfl := Option.some.inj h
      exact go_same X r N hk hn hL fun t g => XT.ior X.here hx rfl hd rfl g
    · cases h
  | ixor =>
    have hl : len = 1 := hl; subst hl
    dsimp only [stp] at h
    split at h
    · rename_i y x S'
      obtain rfl := Option.some.inj h
      exact go_same X r N hk hn hL fun t g => XT.ixor X.here hx rfl hd rfl g
    · cases h
  | ishl =>
    have hl : len = 1 := hl; subst hl
    dsimp only [stp] at h
    split at h
    · rename_i y x S'
      obtain rfl := Option.some.inj h
      exact go_same X r N hk hn hL fun t g => XT.ishl X.here hx rfl hd rfl g
    · cases h
  | ishr =>
    have hl : len = 1 := hl; subst hl
    dsimp only [stp] at h
    split at h
    · rename_i y x S'
      obtain rfl := Option.some.inj h
      exact go_same X r N hk hn hL fun t g => XT.ishr X.here hx rfl hd rfl g
    · cases h
  | iushr =>
    have hl : len = 1 := hl; subst hl
    dsimp only [stp] at h
    split at h
    · rename_i y x S'
      obtain rfl := Option.some.inj h
      exact go_same X r N hk hn hL fun t g => XT.iushr X.here hx rfl hd rfl g
    · cases h
  | ladd =>
    have hl : len = 1 := hl; subst hl
    dsimp only [stp] at h
    split at h
    · rename_i y x S'
      obtain rfl := Option.some.inj h
      exact go_same X r N hk hn hL fun t g => XT.ladd X.here hx rfl hd rfl g
    · cases h
  | lsub =>
    have hl : len = 1 := hl; subst hl
    dsimp only [stp] at h
    split at h
    · rename_i y x S'
      obtain rfl := Option.some.inj h
      exact go_same X r N hk hn hL fun t g => XT.lsub X.here hx rfl hd rfl g
    · cases h
  | lmul =>
    have hl : len = 1 := hl; subst hl
    dsimp only [stp] at h
    split at h
    · rename_i y x S'
      obtain rfl := Option.some.inj h
      exact go_same X r N hk hn hL fun t g => XT.lmul X.here hx rfl hd rfl g
    · cases h
  | land =>
    have hl : len = 1 := hl; subst hl
    dsimp only [stp] at h
    split at h
    · rename_i y x S'
      obtain rfl := Option.some.inj h
      exact go_same X r N hk hn hL fun t g => XT.land X.here hx rfl hd rfl g
    · cases h
  | lor =>
    have hl : len = 1 := hl; subst hl
    dsimp only [stp] at h
    split at h
    · rename_i y x S'
      obtain rfl := Option.some.inj h
      exact go_same X r N hk hn hL fun t g => XT.lor X.here hx rfl hd rfl g
    · cases h
  | lxor =>
    have hl : len = 1 := hl; subst hl
    dsimp only [stp] at h
    split at h
    · rename_i y x S'
      obtain rfl := Option.some.inj h
      exact go_same X r N hk hn hL fun t g => XT.lxor X.here hx rfl hd rfl g
    · cases h
  | lshl =>
    have hl : len = 1 := hl; subst hl
    dsimp only [stp] at h
    split at h
    · rename_i y x S'
      obtain rfl := Option.some.inj h
      exact go_same X r N hk hn hL fun t g => XT.lshl X.here hx rfl hd rfl g
    · cases h
  | lshr =>
    have hl : len = 1 := hl; subst hl
    dsimp only [stp] at h
    split at h
    · rename_i y x S'
      obtain rfl := Option.some.inj h
      exact go_same X r N hk hn hL fun t g => XT.lshr X.here hx rfl hd rfl g
    · cases h
  | lushr =>
    have hl : len = 1 := hl; subst hl
    dsimp only [stp] at h
    split at h
    · rename_i y x S'
      obtain rfl := Option.some.inj h
      exact go_same X r N hk hn hL fun t g => XT.lushr X.here hx rfl hd rfl g
    · cases h
  | idiv =>
    have hl : len = 1 := hl; subst hl
    dsimp only [stp] at h
    split at h
    · rename_i y x S'
      split at h
      · cases h
      · rename_i g0
        obtain rfl := Option.some.inj h
        exact go_same X r N hk hn hL fun t g => XS.idiv X.here hx rfl hd rfl g0 g
    · cases h
  | irem =>
    have hl : len = 1 := hl; subst hl
    dsimp only [stp] at h
    split at h
    · rename_i y x S'
      split at h
      · cases h
      · rename_i g0
        obtain rfl := Option.some.inj h
        exact go_same X r N hk hn hL fun t g => iremM X hx rfl hd rfl g0 g
    · cases h
  | ldiv =>
    have hl : len = 1 := hl; subst hl
    dsimp only [stp] at h
    split at h
    · rename_i y x S'
      split at h
      · cases h
      · rename_i g0
        obtain rfl := Option.some.inj h
        exact go_same X r N hk hn hL fun t g => XT.ldiv X.here hx rfl hd rfl g0 g
    · cases h
  | lrem =>
    have hl : len = 1 := hl; subst hl
    dsimp only [stp] at h
    split at h
    · rename_i y x S'
      split at h
      · cases h
      · rename_i g0
        obtain rfl := Option.some.inj h
        exact go_same X r N hk hn hL fun t g => XT.lrem X.here hx rfl hd rfl g0 (by rw [lrem_mod]; exact g)
    · cases h
  | ineg =>
    have hl : len = 1 := hl; subst hl
    dsimp only [stp] at h
    split at h
    · rename_i x S'
      obtain rfl := Option.some.inj h
      exact go_same X r N hk hn hL fun t g => XS.ineg X.here hx rfl hd rfl g
    · cases h
  | lneg =>
    have hl : len = 1 := hl; subst hl
    dsimp only [stp] at h
    split at h
    · rename_i x S'
      obtain rfl := Option.some.inj h
      exact go_same X r N hk hn hL fun t g => XT.lneg X.here hx rfl hd rfl g
    · cases h
  | i2l =>
    have hl : len = 1 := hl; subst hl
    dsimp only [stp] at h
    split at h
    · rename_i x S'
      obtain rfl := Option.some.inj h
      exact go_same X r N hk hn hL fun t g => XT.i2l X.here hx rfl hd rfl g
    · cases h
  | l2i =>
    have hl : len = 1 := hl; subst hl
    dsimp only [stp] at h
    split at h
    · rename_i x S'
      obtain rfl := Option.some.inj h
      exact go_same X r N hk hn hL fun t g => XT.l2i X.here hx rfl hd rfl g
    · cases h
  | i2b =>
    have hl : len = 1 := hl; subst hl
    dsimp only [stp] at h
    split at h
    · rename_i x S'
      obtain rfl := Option.some.inj h
      exact go_same X r N hk hn hL fun t g => XT.i2b X.here hx rfl hd rfl g
    · cases h
  | lcmp =>
    have hl : len = 1 := hl; subst hl
    dsimp only [stp] at h
    split at h
    · rename_i y x S'
      obtain rfl := Option.some.inj h
      exact go_same X r N hk hn hL fun t g => XT.lcmp X.here hx rfl hd rfl g
    · cases h
  | dup =>
    have hl : len = 1 := hl; subst hl
    dsimp only [stp] at h
    split at h
    · rename_i v S'
      split at h
      · rename_i g0
        obtain rfl := Option.some.inj h
        exact go_same X r N hk hn hL fun t g => XS.dup X.here hx rfl hd rfl g0 g
      · cases h
    · cases h
  | pop =>
    have hl : len = 1 := hl; subst hl
    dsimp only [stp] at h
    split at h
    · rename_i v S'
      split at h
      · rename_i g0
        obtain rfl := Option.some.inj h
        exact go_same X r N hk hn hL fun t g => XT.pop X.here hx rfl hd rfl g0 g
      · cases h
    · cases h
  | dup2 =>
    have hl : len = 1 := hl; subst hl
    dsimp only [stp] at h
    split at h
    · rename_i x S'
      obtain rfl := Option.some.inj h
      exact go_same X r N hk hn hL fun t g => XT.dup2L X.here hx rfl hd rfl g
    · rename_i v w S' _
      split at h
      · rename_i g0
        obtain rfl := Option.some.inj h
        exact go_same X r N hk hn hL fun t g => XT.dup2 X.here hx rfl hd rfl g0.1 g0.2 g
      · cases h
    · cases h
  | goto o =>
    have hl : len = 3 := hl; subst hl
    obtain ⟨v, hv, rfl⟩ := Option.map_eq_some_iff.mp h
    obtain ⟨g1, g2⟩ := jmp_ok hv
    exact go_same X r N hk hn hL fun t g => XS.goto X.here hx rfl rfl hd g1 g2 g
  | ifCond cd o =>
    have hl : len = 3 := hl; subst hl
    dsimp only [stp] at h
    split at h
    · rename_i x S'
      split at h
      · rename_i g0
        obtain ⟨v, hv, rfl⟩ := Option.map_eq_some_iff.mp h
        obtain ⟨g1, g2⟩ := jmp_ok hv
        exact go_same X r N hk hn hL fun t g => XS.ifYes X.here hx rfl rfl hd rfl g0 g1 g2 g
      · rename_i g0
        obtain rfl := Option.some.inj h
        exact go_same X r N hk hn hL fun t g => XS.ifNo X.here hx rfl hd rfl (by simpa using g0) g
    · cases h
  | if_icmp cd o =>
    have hl : len = 3 := hl; subst hl
    dsimp only [stp] at h
    split at h
    · rename_i y x S'
      split at h
      · rename_i g0
        obtain ⟨v, hv, rfl⟩ := Option.map_eq_some_iff.mp h
        obtain ⟨g1, g2⟩ := jmp_ok hv
        exact go_same X r N hk hn hL fun t g => XS.icmpYes X.here hx rfl rfl hd rfl g0 g1 g2 g
      · rename_i g0
        obtain rfl := Option.some.inj h
        exact go_same X r N hk hn hL fun t g => XS.icmpNo X.here hx rfl hd rfl (by simpa using g0) g
    · cases h
  | tableswitch d lo hi os =>
    dsimp only [stp] at h
    split at h
    · rename_i x S'
      split at h
      · rename_i g0
        obtain ⟨v, hv, rfl⟩ := Option.map_eq_some_iff.mp h
        obtain ⟨g1, g2⟩ := jmp_ok hv
        exact go_same X r N hk hn hL fun t g => XS.tswOut X.here hx rfl rfl hd rfl g0 g1 g2 g
      · rename_i g0
        obtain ⟨o, ho1, h⟩ := Option.bind_eq_some_iff.mp h
        obtain ⟨v, hv, rfl⟩ := Option.map_eq_some_iff.mp h
        obtain ⟨g1, g2⟩ := jmp_ok hv
        exact go_same X r N hk hn hL fun t g => XS.tswIn X.here hx rfl rfl hd rfl g0 ho1 g1 g2 g
    · cases h
  | getfield i =>
    have hl : len = 3 := hl; subst hl
    dsimp only [stp] at h
    split at h
    · rename_i a S'
      split at h
      · rename_i g0
        obtain rfl := Option.some.inj h
        obtain ⟨T1, X1, e1, st1⟩ := getF X hx hZ hown (host := "") (Or.inl (hw _ ho.2)) Via.refl rfl ((r.obj g0).2 _ ho.1) (g := mkF mid pc L.toArray (.ref a :: S')) rfl rfl hd
        exact go_heap X1 r e1 N hk hn hL fun t g => st1 t g
      · cases h
    · cases h
  | putfield i =>
    have hl : len = 3 := hl; subst hl
    dsimp only [stp] at h
    split at h
    · rename_i v a S'
      split at h
      · rename_i g0
        obtain rfl := Option.some.inj h
        obtain ⟨o1, o2, o3⟩ := ho
        obtain ⟨w1, w2⟩ := isOw_ok g0.1
        obtain ⟨n1, n2⟩ := okv_ok g0.2
        have hlay : (Jvm.Cond.lays C C (fn aux.toNat).1 (fn aux.toNat).2).before a0 Z = true ∨ ((Jvm.Cond.laysFinal C C (fn aux.toNat).1 (fn aux.toNat).2).before a0 Z = true ∧ (nm m).cls = C ∧ meth.name = "<init>") := by
          rcases o3 with q | ⟨q1, q2⟩
          · exact Or.inl (hw _ q)
          · rcases (hG.2.2.1 _ o1).2 with q | q
            · exact Or.inl (hw _ q)
            · exact Or.inr ⟨hw _ q, q1, hnm.trans q2⟩
        obtain ⟨T1, h1, X1, e1, W1, st1⟩ := putF X hx hZ hown (host := "") (Or.inl (hw _ o2)) Via.refl rfl ((r.obj w1).2 _ o1) (r.obj w1).1 hlay (hw _ hG.1) (hG.2.2.1 _ o1).1 n1 n2 (g := mkF mid pc L.toArray (v :: .ref a :: S')) rfl rfl hd
        exact ⟨T1, _, X1, by rw [e1]; exact r.wrF hG hw w1 o1 W1, Fr.snoc X1 N (r.own w2), hk, hn, hL, st1⟩
      · cases h
    · cases h
  | iaload =>
    have hl : len = 1 := hl; subst hl
    dsimp only [stp] at h
    split at h
    · rename_i i a S'
      split at h
      · rename_i g0
        obtain rfl := Option.some.inj h
        obtain ⟨w1, w2, w3⟩ := inA_ok g0
        obtain ⟨b1, cl, b2, b3, b4⟩ := r.arr w1
        exact go_same X r N hk hn hL fun t g => X.iaload hx (g := mkF mid pc L.toArray (.int i :: .ref a :: S')) b2.1 (State.isArrayOf_alike hZ.alike b2.2.1) b2.2.2 (by rw [b3]; exact idx_not w2 w3) (b4 _ w3) rfl rfl hd t g
      · cases h
    · cases h
  | laload =>
    have hl : len = 1 := hl; subst hl
    dsimp only [stp] at h
    split at h
    · rename_i i a S'
      split at h
      · rename_i g0
        obtain rfl := Option.some.inj h
        obtain ⟨w1, w2, w3⟩ := inA_ok g0
        obtain ⟨b1, cl, b2, b3, b4⟩ := r.arr w1
        exact go_same X r N hk hn hL fun t g => X.laload hx (g := mkF mid pc L.toArray (.int i :: .ref a :: S')) b2.1 (State.isArrayOf_alike hZ.alike b2.2.1) b2.2.2 (by rw [b3]; exact idx_not w2 w3) (b4 _ w3) rfl rfl hd t g
      · cases h
    · cases h
  | baload =>
    have hl : len = 1 := hl; subst hl
    dsimp only [stp] at h
    split at h
    · rename_i i a S'
      split at h
      · rename_i g0
        obtain rfl := Option.some.inj h
        rcases g0 with g0 | g0
        · obtain ⟨w1, w2, w3⟩ := inA_ok g0
          obtain ⟨b1, cl, b2, b3, b4⟩ := r.arr w1
          exact go_same X r N hk hn hL fun t g => X.baloadBytes hx (g := mkF mid pc L.toArray (.int i :: .ref a :: S')) b2.1 (State.isArrayOf_alike hZ.alike b2.2.1) b2.2.2 (by rw [b3]; exact idx_not w2 w3) (b4 _ w3) rfl rfl hd t g
        · obtain ⟨w1, w2, w3⟩ := inA_ok g0
          obtain ⟨b1, cl, b2, b3, b4⟩ := r.arr w1
          exact go_same X r N hk hn hL fun t g => X.baloadBooleans hx (g := mkF mid pc L.toArray (.int i :: .ref a :: S')) b2.1 (State.isArrayOf_alike hZ.alike b2.2.1) b2.2.2 (by rw [b3]; exact idx_not w2 w3) (b4 _ w3) rfl rfl hd t g
      · cases h
    · cases h
  | iastore =>
    have hl : len = 1 := hl; subst hl
    dsimp only [stp] at h
    split at h
    · rename_i x i a S'
      split at h
      · rename_i g0
        obtain rfl := Option.some.inj h
        obtain ⟨g1, g2⟩ := inAw_ok g0
        obtain ⟨w1, w2, w3⟩ := inA_ok g1
        obtain ⟨b1, cl, b2, b3, b4⟩ := r.arr w1
        obtain ⟨T1, h1, X1, e1, W1, st1⟩ := stI X hx hZ rfl b2 (j := i) (x := x) (by rw [b3]; exact idx_not w2 w3) (g := mkF mid pc L.toArray (.int x :: .int i :: .ref a :: S')) rfl rfl hd
        exact ⟨T1, _, X1, by rw [e1]; exact r.wrA w1 w3 W1, Fr.snoc X1 N (r.own g2), hk, hn, hL, st1⟩
      · cases h
    · cases h
  | lastore =>
    have hl : len = 1 := hl; subst hl
    dsimp only [stp] at h
    split at h
    · rename_i x i a S'
      split at h
      · rename_i g0
        obtain rfl := Option.some.inj h
        obtain ⟨g1, g2⟩ := inAw_ok g0
        obtain ⟨w1, w2, w3⟩ := inA_ok g1
        obtain ⟨b1, cl, b2, b3, b4⟩ := r.arr w1
        obtain ⟨T1, h1, X1, e1, W1, st1⟩ := stJ X hx hZ rfl b2 (j := i) (x := x) (by rw [b3]; exact idx_not w2 w3) (g := mkF mid pc L.toArray (.long x :: .int i :: .ref a :: S')) rfl rfl hd
        exact ⟨T1, _, X1, by rw [e1]; exact r.wrA w1 w3 W1, Fr.snoc X1 N (r.own g2), hk, hn, hL, st1⟩
      · cases h
    · cases h
  | bastore =>
    have hl : len = 1 := hl; subst hl
    dsimp only [stp] at h
    split at h
    · rename_i x i a S'
      split at h
      · rename_i g0
        obtain rfl := Option.some.inj h
        rcases g0 with ⟨g0, gx⟩ | ⟨g0, gx⟩
        · obtain ⟨g1, g2⟩ := inAw_ok g0
          obtain ⟨w1, w2, w3⟩ := inA_ok g1
          obtain ⟨b1, cl, b2, b3, b4⟩ := r.arr w1
          have hx2 : nar .byte x = x := Value.int.inj (okv_ok gx).1
          obtain ⟨T1, h1, X1, e1, W1, st1⟩ := stB X hx hZ rfl b2 (j := i) (x := x) (by rw [b3]; exact idx_not w2 w3) (g := mkF mid pc L.toArray (.int x :: .int i :: .ref a :: S')) rfl rfl hd
          rw [hx2] at W1
          exact ⟨T1, _, X1, by rw [e1]; exact r.wrA w1 w3 W1, Fr.snoc X1 N (r.own g2), hk, hn, hL, st1⟩
        · obtain ⟨g1, g2⟩ := inAw_ok g0
          obtain ⟨w1, w2, w3⟩ := inA_ok g1
          obtain ⟨b1, cl, b2, b3, b4⟩ := r.arr w1
          have hx2 : nar .boolean x = x := Value.int.inj (okv_ok gx).1
          obtain ⟨T1, h1, X1, e1, W1, st1⟩ := stZ X hx hZ rfl b2 (j := i) (x := x) (by rw [b3]; exact idx_not w2 w3) (g := mkF mid pc L.toArray (.int x :: .int i :: .ref a :: S')) rfl rfl hd
          rw [hx2] at W1
          exact ⟨T1, _, X1, by rw [e1]; exact r.wrA w1 w3 W1, Fr.snoc X1 N (r.own g2), hk, hn, hL, st1⟩
      · cases h
    · cases h
  | arraylength =>
    have hl : len = 1 := hl; subst hl
    dsimp only [stp] at h
    split at h
    · rename_i a S'
      split at h
      · rename_i g0
        obtain rfl := Option.some.inj h
        obtain ⟨t0, w1⟩ : ∃ t0, (H.2 a).1 = .array t0 := by unfold isA at g0; cases hq : (H.2 a).1 <;> rw [hq] at g0 <;> first | (cases g0; done) | exact ⟨_, rfl⟩
        obtain ⟨b1, cl, b2, b3, b4⟩ := r.arr w1
        refine go_same X r N hk hn hL fun t g => X.arraylength hx (g := mkF mid pc L.toArray (.ref a :: S')) b2.1 (State.isArrayOf_alike hZ.alike b2.2.1) rfl rfl hd t ?_
        rw [b3]; exact g
      · cases h
    · cases h
  | newarray t =>
    have hl : len = 2 := hl; subst hl
    dsimp only [stp] at h
    split at h
    · rename_i cnt S'
      split at h
      · rename_i g0
        obtain rfl := Option.some.inj h
        obtain ⟨z1, z2, z3, z4⟩ := g0
        have hcb : componentBytes (newarray.typeOf t) ≤ 8 := by cases t <;> decide
        obtain ⟨cA, kA, comp, h1, h2, h3, X1, st1⟩ := X.newarrayPrim hx (mvA hZ (hw _ ho)) (g := mkF mid pc L.toArray (.int cnt :: S')) rfl hd rfl z1 (Nat.le_trans (Nat.mul_le_mul_left _ hcb) z2) z3 z4
        refine ⟨_, locs, X1, ?_, N, z3, z4, hL, fun t g => st1 t (by rw [r.1]; exact g)⟩
        exact r.ext (ext_push _ _) (by show (T.heap.push _).size = _; simp) ⟨fun _ => by rw [r.1]; exact r.2.1, (back32 z1).2, _, made_arr hZ h1 h2 h3, by simp, fun i hi => by simp [hi]⟩
      · cases h
    · cases h
  | new i =>
    have hl : len = 3 := hl; subst hl
    dsimp only [stp] at h
    split at h
    · rename_i g0
      obtain rfl := Option.some.inj h
      obtain ⟨z1, z2, z3⟩ := g0
      rw [ho.1] at z3 ⊢
      obtain ⟨vm1, cC, kC, h1, h2, h3, h4, X1, st1⟩ := X.newCold hx hown (mv hZ (hw _ ho.2)) (mv hZ (hw _ hG.1)) (mv hZ (hw _ hG.2.1)) (g := mkF mid pc L.toArray S) rfl hd z2 z3
      obtain ⟨A1, D1⟩ := made_obj (h := T.heap) (a0 := a0) hZ h1 h2
      refine ⟨_, locs, X1, ?_, N, z2, z3, hL, fun t g => st1 t (by rw [r.1]; exact g)⟩
      exact r.ext (ext_push _ _) (by show (T.heap.push _).size = _; simp) ⟨fun _ => by rw [r.1]; exact r.2.1, A1, fun j hj => D1 (((hG.2.2.1 j hj).2).imp (hw _) (hw _)) (hG.2.2.1 j hj).1⟩
    · cases h
  | invokespecial i =>
    have hl : len = 3 := hl; subst hl
    dsimp only [stp] at h
    split at h
    · rename_i a S'
      split at h
      · rename_i g0
        obtain rfl := Option.some.inj h
        obtain ⟨rfl, z2, z3⟩ := g0
        obtain ⟨o1, o2, o3⟩ := ho.1 rfl
        obtain ⟨T1, X1, e1, st1⟩ := initO X hx hZ hown (hw _ o1) (hw _ o2) (hw _ o3) rfl (g := mkF mid pc L.toArray (.ref a :: S')) rfl (by rw [hml, ← hL]; simp) rfl hd z2 (W := cs S') (by show 2 * 0 + _ ≤ _; exact Nat.le_of_eq (Nat.zero_add _)) z3
        exact go_heap X1 r e1 N hk hn hL fun t g => st1 t g
      · cases h
    · cases h
  | _ => exact absurd (show (none : Option Fm) = some q from h) (by simp)
end Step
end Jvm.JX

namespace Jvm.JX
open Sem ClassFile Op Lib Jvm.Stand Jvm.Free Jvm.LawKit Jvm.RoadKit
section Sound
variable {P : Prog} {tb : List Jvm.Cond} {C : String} {fn : Nat → String × String} {F : List Nat} {nsl : Nat} {nm : Nat → MethodName} {bt : Nat → ByteArray} {R : List Nat} {top : Nat}
variable {l : Launch} {Z : State} {a0 : Array Value} {n0 : Nat}
def Endd (C : String) (fn : Nat → String × String) (F : List Nat) (Z : State) (n0 : Nat) (p : Program) (l : Launch) (e : Env) (Rm : Jvm.Room) (s : State) (mid : MethodId) (args : Array Value) (below : List Frame) (meth : Method) (c : Code) (rt0 : Option FieldType) (start : State) (v : Option Value) (H' : AH) : Prop :=
  ∃ T' locs' k' n', Stand p l e Rm s mid args below meth c T' locs' k' n' ∧ RelH C fn F Z n0 T'.heap H' ∧ Fr n0 locs' ∧ k' ≤ Rm.cells ∧ n' ≤ Rm.slots ∧ (rt0 = none → v = none) ∧
    ∀ fs, (∀ (f : JFrame) (acts : List Action), f.method = mid → f.locked = none → f.entered = [] → (doReturn e (T'.setTop f) acts v).1 = T'.setFrames fs) → Steps p.tables e below start (T'.setFrames fs)
def Says (P : Prog) (C : String) (fn : Nat → String × String) (F : List Nat) (nm : Nat → MethodName) (bt : Nat → ByteArray) (l : Launch) (Z : State) (n0 m pc : Nat) (L : List Slot) (S : List Value) (k n : Nat) (H : AH) (v : Option Value) (H' : AH) : Prop :=
  ∀ (p : Program) (e : Env) (s : State) (mid : MethodId) (args : Array Value) (below : List Frame) (meth : Method) (c : Code) (T : State) (locs : List Loc), Stand p l e (rm P m) s mid args below meth c T locs k n → p.tables.exec = Jvm.exec → Z.Warmed39 s.vm → c.code = bt m → c.maxLocals = ml P m →
    s.vm.findClass (nm m).cls = some mid.cls → meth.name = (nm m).name → meth.sig.returnType = rt P m → L.length = ml P m → RelH C fn F Z n0 T.heap H → Fr n0 locs → k ≤ (rm P m).cells → n ≤ (rm P m).slots →
    Endd C fn F Z n0 p l e (rm P m) s mid args below meth c (rt P m) (T.setTop (mkF mid pc L.toArray S)) v H'
theorem Endd.back {p : Program} {e : Env} {Rm : Jvm.Room} {s : State} {mid : MethodId} {args : Array Value} {below : List Frame} {meth : Method} {c : Code} {rt0 : Option FieldType} {start start' : State} {v : Option Value} {H' : AH}
    (h : Endd C fn F Z n0 p l e Rm s mid args below meth c rt0 start' v H') (st : ∀ t, Steps p.tables e below start' t → Steps p.tables e below start t) : Endd C fn F Z n0 p l e Rm s mid args below meth c rt0 start v H' := by
  obtain ⟨T', locs', k', n', h1, h2, h3, h4, h5, h6, h7⟩ := h
  exact ⟨T', locs', k', n', h1, h2, h3, h4, h5, h6, fun fs g => st _ (h7 fs g)⟩
theorem met_of {m : Nat} {as : List Value} {H H' : AH} {v : Option Value} {h : Heap} (ws : List Jvm.Cond) (hp : plainName (nm m).cls = true) (hl : (Sym.laidSlots as).length ≤ ml P m) (r : RelH C fn F Z n0 h H)
    (hS : Says P C fn F nm bt l Z n0 m 0 (ent P m as) [] 0 0 H v H') :
    MetFree l (nm m) (head1 (Jvm.Cond.code (nm m) (bt m) (ml P m) (rt P m) :: ws) (rm P m)) (fun a U => a = as.toArray ∧ Z.Warmed39 U.vm ∧ U.heap = h) (fun _ _ _ _ _ => True)
      (fun _ U o U' => ∃ v' L, o = .returned v' ∧ (v' = v ∧ Fr n0 L ∧ RelH C fn F Z n0 U'.heap H') ∧ FrameEnd U o U' L (rm P m).cells (rm P m).slots) := by
  refine MetFree.of_bodySF (plainFor_of_name hp) hisR ?_
  intro p e s mid args below meth c s₁ Bd hml0 hP hK
  obtain ⟨rfl, hZ, hh⟩ := hP
  have X0 : Stand p l e (rm P m) s mid as.toArray below meth c s₁ [] 0 0 := Stand.of_body Bd
  have e0 : s₁.heap = h := by rw [← hh, Bd.state]; rfl
  have hle : (ent P m as).length = ml P m := by simp [ent]; omega
  obtain ⟨T', locs', k', n', X1, r1, N1, hk1, hn1, hv1, st1⟩ := hS p e s mid as.toArray below meth c s₁ [] X0 Bd.exec hZ Bd.bytes hml0 (findClass_of_methodNamed Bd.named) (name_of_methodNamed Bd.named Bd.method).1 Bd.returns hle (by rw [e0]; exact r) (Fr.nil n0) (Nat.zero_le _) (Nat.zero_le _)
  obtain ⟨fs, hr, hrun, hended, hW, hsame⟩ := X1.leave (v := v) (fun q => hv1 (Bd.returns.symm.trans q))
  refine ⟨_, _, (Jvm.Free.XT.entry (Ls := (ent P m as).toArray) (by simp [ent])).trans (st1 fs hr), hrun, hended, v, locs', rfl, ⟨rfl, N1, r1⟩, ⟨_, rfl⟩, hW, hsame.mono hk1 hn1⟩
theorem ret_ok {m : Nat} {ins : Instr} {S : List Value} {v : Option Value} (h : ret P m ins S = some v) : (rt P m = none ∧ v = none ∧ ins = .return_ ∧ S = []) ∨ ∃ t w rest, rt P m = some t ∧ v = some w ∧ S = w :: rest ∧ narrow t w = w ∧
    ((ins = .ireturn ∧ (t = .int ∨ t = .boolean ∨ t = .byte ∨ t = .char ∨ t = .short) ∧ ∃ z, w = .int z) ∨ (ins = .lreturn ∧ t = .long ∧ ∃ z, w = .long z)) := by
  unfold ret at h
  split at h
  · split at h
    · rename_i g; cases h; exact Or.inl ⟨g.1, rfl, rfl, g.2⟩
    · cases h
  · split at h
    · rename_i z rest g; cases h; exact Or.inr ⟨.int, _, rest, g, rfl, rfl, rfl, Or.inl ⟨rfl, Or.inl rfl, z, rfl⟩⟩
    · rename_i z rest g
      split at h
      · rename_i g0
        cases h
        refine Or.inr ⟨.boolean, _, rest, g, rfl, rfl, ?_, Or.inl ⟨rfl, Or.inr (Or.inl rfl), z, rfl⟩⟩
        rcases g0 with rfl | rfl <;> rfl
      · cases h
    · cases h
  · split at h
    · rename_i z rest g; cases h; exact Or.inr ⟨.long, _, rest, g, rfl, rfl, rfl, Or.inr ⟨rfl, rfl, z, rfl⟩⟩
    · cases h
  · cases h
theorem cal_ok {m m' k n : Nat} {ins : Instr} {aux : Int} {S a r : List Value} {H : AH} (h : cal P m ins aux S k n H = some (m', a, r)) : aux = (m' : Int) ∧ kindOk ins (kd P m') = true ∧ may P m m' a r k n H = true ∧ S = a.reverse ++ r := by
  have h1 : cal1 P m ins aux S k n H = some (m', a, r) := by
    unfold cal at h
    split at h <;> first | exact h | (cases h)
  unfold cal1 at h1
  split at h1
  · rename_i g
    cases h1
    exact ⟨by omega, g.2.1, g.2.2, by rw [List.reverse_reverse]; exact (List.take_append_drop ..).symm⟩
  · cases h1
end Sound
end Jvm.JX

namespace Jvm.JX
open Sem ClassFile Op Lib Jvm.Stand Jvm.Free Jvm.LawKit Jvm.RoadKit
section Sound
variable {P : Prog} {tb : List Jvm.Cond} {C : String} {fn : Nat → String × String} {F : List Nat} {nsl : Nat} {nm : Nat → MethodName} {bt : Nat → ByteArray} {R : List Nat} {top : Nat}
variable {l : Launch} {Z : State} {a0 : Array Value} {n0 : Nat}
theorem may_ok {m m' k n : Nat} {a r : List Value} {H : AH} (h : may P m m' a r k n H = true) : (Sym.laidSlots a).length ≤ ml P m' ∧ a.length = na P m' ∧ (rm P m').frames + 1 ≤ (rm P m).frames ∧ cs r + (ml P m' + 11) + (rm P m').locals ≤ (rm P m).locals ∧
    (((rm P m').cells = 0 ∧ (rm P m').slots = 0) ∨ (k + (rm P m').cells ≤ (rm P m).cells ∧ n + (rm P m').slots ≤ (rm P m).slots)) ∧ (kd P m' = 0 ∨ rcv H a = true) := by
  simpa [may, and_assoc] using h
theorem rcv_ok {H : AH} {a : List Value} (h : rcv H a = true) : ∃ b as, a = .ref b :: as ∧ isO H b = true := by
  unfold rcv at h
  split at h
  · exact ⟨_, _, rfl, h⟩
  · cases h
set_option maxHeartbeats 1000000 in
theorem call_go {m pc len k n m' : Nat} {aux : Int} {L : List Slot} {S a r : List Value} {H H1 : AH} {ins : Instr} {v1 : Option Value} {p : Program} {e : Env} {s : State} {mid : MethodId} {args : Array Value} {below : List Frame} {meth : Method} {c : Code} {T : State} {locs : List Loc}
    (hG : Good P tb C fn F nsl nm bt R top) (hw : ∀ d ∈ tb, d.before a0 Z = true) (hm : m ∈ R) (hrow : P.1 m pc = some (ins, len, aux)) (hc : cal P m ins aux S k n H = some (m', a, r)) (hS : m' ∈ R → Says P C fn F nm bt l Z n0 m' 0 (ent P m' a) [] 0 0 H v1 H1)
    (X : Stand p l e (rm P m) s mid args below meth c T locs k n) (hx : p.tables.exec = Jvm.exec) (hZ : Z.Warmed39 s.vm)
    (hby : c.code = bt m) (hml : c.maxLocals = ml P m) (hown : s.vm.findClass (nm m).cls = some mid.cls) (hL : L.length = ml P m) (rr : RelH C fn F Z n0 T.heap H) (N : Fr n0 locs) (hk : k ≤ (rm P m).cells) (hn : n ≤ (rm P m).slots) :
    Go C fn F Z n0 p l e (rm P m) s mid args below meth c (T.setTop (mkF mid pc L.toArray S)) (ml P m) (pc + len, L, v1.toList ++ r, k + (rm P m').cells, n + (rm P m').slots, H1) := by
  obtain ⟨hd, hl, ho⟩ := (hG.2.2.2.2.1 m hm).2.2 pc ins len aux hrow
  replace hd := hb hby hd
  obtain ⟨e1, e2, e3, e4⟩ := cal_ok hc
  obtain ⟨y1, y2, y3, y4, y5, y6⟩ := may_ok e3
  have hnt : m' ≠ top := fun q => by
    have := hG.2.2.2.2.2.2 m hm pc ins len aux hrow (by rw [e1, q])
    rw [q, this] at e2; cases e2
  have y5' : k + (rm P m').cells ≤ (rm P m).cells ∧ n + (rm P m').slots ≤ (rm P m).slots := by rcases y5 with ⟨q1, q2⟩ | q <;> omega
  have hsize : (mkF mid pc L.toArray S).locals.size = c.maxLocals := by rw [hml, ← hL]; simp
  have hcs : 2 * (mkF mid pc L.toArray S).monitorRoom + (r.map fun v => v.category).sum ≤ cs r := by show 2 * 0 + _ ≤ _; exact Nat.le_of_eq (Nat.zero_add _)
  subst e1
  cases ins with
  | invokevirtual ix =>
    have hl : len = 3 := hl
    subst hl
    obtain ⟨mR, lnk⟩ := ho
    rw [Int.toNat_natCast] at mR lnk
    obtain ⟨c1, c2, ⟨ps, rr0, c3, c4⟩, c5, c6, c7, c8, c9⟩ := hG.2.2.2.2.2.1 m' mR hnt
    have hk0 : kd P m' ≠ 0 := fun q => by rw [q] at e2; cases e2
    obtain ⟨hcls, hinst⟩ := c6 hk0
    obtain ⟨b, as, rfl, hb⟩ := rcv_ok (y6.resolve_left hk0)
    obtain ⟨Eb, -⟩ := rr.obj hb
    have hlen : as.length = ps.length := by rw [if_neg hk0] at c4; simp only [List.length_cons] at y2; omega
    have eS : S = as.reverse ++ .ref b :: r := by rw [e4]; simp
    subst eS
    obtain ⟨pn, hy, -⟩ := hG.2.2.2.2.1 m' mR
    have BK := backOf (Q := fun v' h' L' => v' = v1 ∧ Fr n0 L' ∧ RelH C fn F Z n0 h' H1) (R := rm P m) (W := cs r) (p := p) (e := e) (below := below) (s := s) (args := args) (len := 3) (met_of [] pn y1 rr (hS mR)) hZ (hw _ c1) (hw _ c2) y3 y4
    have hkk : kd P m' = 1 ∨ kd P m' = 2 := by simpa [kindOk] using e2
    rcases hkk with hkk | hkk
    · obtain ⟨d1, d2⟩ := c7 hkk
      obtain ⟨cB, kB, q1, q2, q3⟩ := isOf (T := T) hZ rfl Eb
      obtain ⟨v, vm1, ⟨T1, L1, k1, n1⟩, -, X1, ⟨Lc, hQ, l1, z1, z2⟩, st⟩ := X.virtualBack hx (y := nm m') (z := nm m') hown (mvT hZ (hw _ lnk)) (mvT hZ (hw _ d1)) (notFace_of_selects (args := #[]) (mvT hZ (hw _ d2))) (mvT hZ (hw _ d2)) (mvT hZ (hw _ hinst)) hy BK q1 q3 (g := mkF mid pc L.toArray (as.reverse ++ .ref b :: r)) rfl hsize (Steps.refl _) (argsL := as) (rest := r) (lenOf c3 hlen) rfl hcs hd (fun _ _ => ⟨rfl, rfl, y5'.1, y5'.2⟩)
      dsimp only [Pt.U, Pt.locs, Pt.cells, Pt.slots] at X1 l1 z1 z2 st hQ
      subst l1 z1 z2
      obtain ⟨rfl, N1, r1⟩ := hQ
      exact ⟨T1, _, X1, r1, Fr.app N N1, y5'.1, y5'.2, hL, fun t g => st.trans g⟩
    · obtain ⟨ci, ki, i1, i2, i3, i4, -⟩ := Cond.instantiable_spec (show (Jvm.Cond.instantiable C nsl).before args s = true from mv hZ (hw _ hG.1))
      have hni : ki.isInterface = false := (Bool.or_eq_false_iff.mp i4).1
      have hpriv := Cond.privateMethod_at (mvP hZ (hw _ (c8 hkk)) (args := #[]))
      have hsel : (Jvm.Cond.selects (nm m').cls (nm m') (nm m')).before args s = true := selects_self_of_private (by rw [hcls]; exact i1) i2 hni hpriv (mvT hZ (hw _ hinst)) hy
      obtain ⟨cl, hcl, hcl'⟩ := Eb.cell
      obtain ⟨v, vm1, ⟨T1, L1, k1, n1⟩, -, X1, ⟨Lc, hQ, l1, z1, z2⟩, st⟩ := X.privateBack hx (y := nm m') hown (mvT hZ (hw _ lnk)) (mvT hZ (hw _ hinst)) hsel hpriv (mvT hZ (hw _ c1)) hy BK (g := mkF mid pc L.toArray (as.reverse ++ .ref b :: r)) rfl hsize (Steps.refl _) (a := b) hcl hcl' (argsL := as) (rest := r) (lenOf c3 hlen) rfl hcs hd (fun _ _ => ⟨rfl, rfl, y5'.1, y5'.2⟩)
      dsimp only [Pt.U, Pt.locs, Pt.cells, Pt.slots] at X1 l1 z1 z2 st hQ
      subst l1 z1 z2
      obtain ⟨rfl, N1, r1⟩ := hQ
      exact ⟨T1, _, X1, r1, Fr.app N N1, y5'.1, y5'.2, hL, fun t g => st.trans g⟩
  | invokestatic ix =>
    have hl : len = 3 := hl
    subst hl
    obtain ⟨mR, lnk⟩ := ho
    rw [Int.toNat_natCast] at mR lnk
    obtain ⟨c1, c2, ⟨ps, rr0, c3, c4⟩, c5, c6, c7, c8, c9⟩ := hG.2.2.2.2.2.1 m' mR hnt
    have hk0 : kd P m' = 0 := by simpa [kindOk] using e2
    have hlen : a.length = ps.length := by rw [if_pos hk0] at c4; omega
    subst e4
    obtain ⟨pn, hy, -⟩ := hG.2.2.2.2.1 m' mR
    have BK := backOf (Q := fun v' h' L' => v' = v1 ∧ Fr n0 L' ∧ RelH C fn F Z n0 h' H1) (R := rm P m) (W := cs r) (p := p) (e := e) (below := below) (s := s) (args := args) (len := 3) (met_of [] pn y1 rr (hS mR)) hZ (hw _ c1) (hw _ c2) y3 y4
    obtain ⟨v, vm1, ⟨T1, L1, k1, n1⟩, -, X1, ⟨Lc, hQ, l1, z1, z2⟩, st⟩ := Jvm.LawKit.callS X hx (y := nm m') hown (mvT hZ (hw _ lnk)) (mvT hZ (hw _ (c5 hk0))) (mvT hZ (hw _ c2)) (mvT hZ (hw _ c1)) hy BK (g := mkF mid pc L.toArray (a.reverse ++ r)) rfl hsize (argsL := a) (rest := r) (lenOf c3 hlen) rfl hcs hd (fun _ _ => ⟨rfl, rfl, y5'.1, y5'.2⟩)
    dsimp only [Pt.U, Pt.locs, Pt.cells, Pt.slots] at X1 l1 z1 z2 st hQ
    subst l1 z1 z2
    obtain ⟨rfl, N1, r1⟩ := hQ
    exact ⟨T1, _, X1, r1, Fr.app N N1, y5'.1, y5'.2, hL, fun t g => st t g⟩
  | invokespecial ix =>
    have hl : len = 3 := hl
    subst hl
    obtain ⟨mR, lnk⟩ := ho.2 (by omega)
    rw [Int.toNat_natCast] at mR lnk
    obtain ⟨c1, c2, ⟨ps, rr0, c3, c4⟩, c5, c6, c7, c8, c9⟩ := hG.2.2.2.2.2.1 m' mR hnt
    have hk3 : kd P m' = 3 := by simpa [kindOk] using e2
    have hk0 : kd P m' ≠ 0 := by omega
    obtain ⟨hcls, hinst⟩ := c6 hk0
    obtain ⟨hn3, hr3⟩ := c9 hk3
    obtain ⟨b, as, rfl, hb⟩ := rcv_ok (y6.resolve_left hk0)
    have hlen : as.length = ps.length := by rw [if_neg hk0] at c4; simp only [List.length_cons] at y2; omega
    have eS : S = as.reverse ++ .ref b :: r := by rw [e4]; simp
    subst eS
    obtain ⟨pn, hy, -⟩ := hG.2.2.2.2.1 m' mR
    have BK := backOf (Q := fun v' h' L' => v' = v1 ∧ Fr n0 L' ∧ RelH C fn F Z n0 h' H1) (R := rm P m) (W := cs r) (p := p) (e := e) (below := below) (s := s) (args := args) (len := 3) (met_of [] pn y1 rr (hS mR)) hZ (hw _ c1) (hw _ c2) y3 y4
    rw [hr3] at c1
    obtain ⟨v, vm1, ⟨T1, L1, k1, n1⟩, -, X1, ⟨Lc, hQ, l1, z1, z2⟩, st⟩ := X.specialBack hx (y := nm m') hn3 hown (mvT hZ (hw _ lnk)) (mvT hZ (hw _ hinst)) (mvT hZ (hw _ c1)) hy BK (g := mkF mid pc L.toArray (as.reverse ++ .ref b :: r)) rfl hsize (Steps.refl _) (a := b) (argsL := as) (rest := r) (lenOf c3 hlen) rfl hcs hd (fun _ _ => ⟨rfl, rfl, y5'.1, y5'.2⟩)
    dsimp only [Pt.U, Pt.locs, Pt.cells, Pt.slots] at X1 l1 z1 z2 st hQ
    subst l1 z1 z2
    obtain ⟨rfl, N1, r1⟩ := hQ
    exact ⟨T1, _, X1, r1, Fr.app N N1, y5'.1, y5'.2, hL, fun t g => st.trans g⟩
  | _ => cases e2
theorem sound (hG : Good P tb C fn F nsl nm bt R top) (hw : ∀ d ∈ tb, d.before a0 Z = true) : ∀ (f m : Nat), m ∈ R → ∀ (pc : Nat) (L : List Slot) (S : List Value) (k n : Nat) (H : AH) (v : Option Value) (H' : AH), run P f m pc L S k n H = some (v, H') → Says P C fn F nm bt l Z n0 m pc L S k n H v H' := by
  intro f
  induction f with
  | zero => intro m _ pc L S k n H v H' h; cases h
  | succ f ih =>
    intro m hm pc L S k n H v H' h p e s mid args below meth c T locs X hx hZ hby hml hown hnm hret hL r N hk hn
    rw [run_succ] at h
    cases hd : P.1 m pc with
    | none => rw [hd] at h; cases h
    | some d =>
      obtain ⟨ins, len, aux⟩ := d
      rw [hd] at h
      simp only at h
      cases hr : ret P m ins S with
      | some v1 =>
        rw [hr] at h
        cases h
        obtain ⟨hdec, hl, -⟩ := (hG.2.2.2.2.1 m hm).2.2 pc ins len aux hd
        replace hdec := hb hby hdec
        rcases ret_ok hr with ⟨q1, rfl, rfl, q0⟩ | ⟨t, w, rest, q1, rfl, rfl, q4, q5⟩
        · have hl : len = 1 := hl
          subst hl
          exact ⟨T, locs, k, n, X, r, N, hk, hn, fun _ => rfl, fun fs g => by subst q0; exact X.returnOut hx (hret.trans q1) hdec g⟩
        · refine ⟨T, locs, k, n, X, r, N, hk, hn, fun q => absurd (q1.symm.trans q) (by simp), fun fs g => ?_⟩
          have hl1 : len = 1 := by
            rcases q5 with ⟨rfl, -⟩ | ⟨rfl, -⟩ <;> exact hl
          subst hl1
          exact retOut X hx (hret.trans q1) q4 (q5.elim (fun u => Or.inl u) (fun u => Or.inr (Or.inl u))) hdec g
      | none =>
        rw [hr] at h
        simp only at h
        cases hc : cal P m ins aux S k n H with
        | some cc =>
          obtain ⟨m', a, rs⟩ := cc
          rw [hc] at h
          simp only at h
          cases hq : run P f m' 0 (ent P m' a) [] 0 0 H with
          | none => rw [hq] at h; cases h
          | some q =>
            obtain ⟨v1, H1⟩ := q
            rw [hq] at h
            obtain ⟨T1, locs1, X1, r1, N1, hk1, hn1, hL1, st⟩ := call_go hG hw hm hd hc (fun mR => ih m' mR _ _ _ _ _ _ _ _ hq) X hx hZ hby hml hown hL r N hk hn
            exact (ih m hm _ _ _ _ _ _ _ _ h p e s mid args below meth c T1 locs1 X1 hx hZ hby hml hown hnm hret hL1 r1 N1 hk1 hn1).back st
        | none =>
          rw [hc] at h
          simp only at h
          cases hs : stp P m ins len aux pc L S k n H with
          | none => rw [hs] at h; cases h
          | some q =>
            rw [hs] at h
            obtain ⟨T1, locs1, X1, r1, N1, hk1, hn1, hL1, st⟩ := stp_go hG hw hm hd hs X hx hZ hby hml hown hnm hL r N hk hn
            exact (ih m hm _ _ _ _ _ _ _ _ h p e s mid args below meth c T1 locs1 X1 hx hZ hby hml hown hnm hret hL1 r1 N1 hk1 hn1).back st
theorem law_met (hG : Good P tb C fn F nsl nm bt R top) (hw : ∀ d ∈ tb, d.before a0 Z = true) {as : List Value} {H : AH} {h : Heap} {Q : Option Value → AH → Prop} (ws : List Jvm.Cond) (ht : top ∈ R) (hl : (Sym.laidSlots as).length ≤ ml P top) (r : RelH C fn F Z n0 h H) (hC : Cl P top as H Q) :
    MetFree l (nm top) (head1 (Jvm.Cond.code (nm top) (bt top) (ml P top) (rt P top) :: ws) (rm P top)) (fun a U => a = as.toArray ∧ Z.Warmed39 U.vm ∧ U.heap = h) (fun _ _ _ _ _ => True)
      (fun _ U o U' => ∃ v' L, o = .returned v' ∧ (Fr n0 L ∧ ∃ H', Q v' H') ∧ FrameEnd U o U' L (rm P top).cells (rm P top).slots) := by
  obtain ⟨f, v, H', h1, h2⟩ := hC
  have hM := met_of (l := l) (h := h) ws (hG.2.2.2.2.1 top ht).1 hl r (sound hG hw f top ht _ _ _ _ _ _ _ _ h1)
  intro p e ha hc hk s m args below hf happ hP hK
  obtain ⟨n, o, q1, q2, q3, v', L, q4, ⟨q5, q6, q7⟩, q8⟩ := hM p e ha hc hk s m args below hf happ hP hK
  exact ⟨n, o, q1, q2, q3, v', L, q4, ⟨q6, H', by rw [q5]; exact h2⟩, q8⟩
end Sound
end Jvm.JX
namespace Jvm.JX
open Sem ClassFile Op Lib Jvm.Stand Jvm.Free Jvm.LawKit Jvm.RoadKit
theorem fa0 {α : Type} {p : α → Prop} : ∀ x ∈ ([] : List α), p x := fun _ q => nomatch q
theorem faS {α : Type} {p : α → Prop} {y : α} {L : List α} (q : p y) (r : ∀ x ∈ L, p x) : ∀ x ∈ y :: L, p x := fun x z => (List.mem_cons.mp z).elim (fun u => u ▸ q) (r x)
def rowChk (FL ML : List (Nat × Nat × Nat)) (KI KJ : List (Nat × Nat × Int)) (AT : List FieldType) (WF : List Nat) (nsl nw : Nat) (own : Nat) (ini : Bool) (ins : Instr) (aux : Int) : Bool :=
  match ins with
  | .getfield i => FL.contains (own, i, aux.toNat)
  | .putfield i => FL.contains (own, i, aux.toNat) && (WF.contains aux.toNat || ini)
  | .new i => decide (aux.toNat = nsl) && decide (own = 1) && decide (i = nw)
  | .newarray t => decide (newarray.typeOf t ∈ AT)
  | .ldc i => KI.contains (own, i, aux)
  | .ldc2_w i => KJ.contains (own, i, aux)
  | .invokevirtual i => ML.contains (own, i, aux.toNat)
  | .invokestatic i => ML.contains (own, i, aux.toNat)
  | .invokespecial i => if aux = -1 then decide (own = 0) && decide (i = 1) else ML.contains (own, i, aux.toNat)
  | _ => true
def rowOne (FL ML : List (Nat × Nat × Nat)) (KI KJ : List (Nat × Nat × Int)) (AT : List FieldType) (WF : List Nat) (nsl nw : Nat) (bt : Nat → ByteArray) (own : Nat → Nat) (ini : Nat → Bool) (m : Nat) (r : Row) : Bool :=
  decide (decode (bt m) r.1 = .ok (r.2.1, r.2.2.1)) && decide (r.2.2.1 = ilen2 r.2.1 r.2.2.1) && rowChk FL ML KI KJ AT WF nsl nw (own m) (ini m) r.2.1 r.2.2.2
theorem all_td {α : Type} {p : α → Bool} {l : List α} (c : Nat) (h1 : (l.take c).all p = true) (h2 : (l.drop c).all p = true) : l.all p = true := by
  rw [← List.take_append_drop c l, List.all_append, h1, h2]; rfl
theorem all_c {α : Type} {p : α → Bool} {l : List α} {a : α} (h1 : p a = true) (h2 : l.all p = true) : (a :: l).all p = true := by
  rw [List.all_cons, h1, h2]; rfl
theorem all_n {α : Type} {p : α → Bool} : ([] : List α).all p = true := rfl
theorem lookup_mem {L : List Row} {pc : Nat} {d : Instr × Nat × Int} (h : L.lookup pc = some d) : (pc, d) ∈ L := by
  induction L with
  | nil => cases h
  | cons x L ih =>
    obtain ⟨k, v⟩ := x
    rw [List.lookup_cons] at h
    by_cases e : pc = k
    · subst e; simp at h; subst h; exact List.mem_cons_self ..
    · have : (pc == k) = false := by simpa using e
      rw [this] at h; exact List.mem_cons_of_mem _ (ih h)
theorem row_ok {P : Prog} {tb : List Jvm.Cond} {C : String} {fn : Nat → String × String} {F : List Nat} {nsl nw : Nat} {nm : Nat → MethodName} {R : List Nat} {cn : Nat → String} {own : Nat → Nat} {ini : Nat → Bool}
    {FL ML : List (Nat × Nat × Nat)} {KI KJ : List (Nat × Nat × Int)} {AT : List FieldType} {WF : List Nat} {m : Nat} {ins : Instr} {aux : Int}
    (hown : (nm m).cls = cn (own m)) (hini : ini m = true → (nm m).cls = C ∧ (nm m).name = "<init>")
    (hFL : ∀ t ∈ FL, t.2.2 ∈ F ∧ Jvm.Cond.fieldLink (cn t.1) t.2.1 C (fn t.2.2).1 (fn t.2.2).2 ∈ tb) (hWF : ∀ k ∈ WF, Jvm.Cond.lays C C (fn k).1 (fn k).2 ∈ tb)
    (hML : ∀ t ∈ ML, t.2.2 ∈ R ∧ Jvm.Cond.methodLink (cn t.1) t.2.1 (nm t.2.2) ∈ tb) (hKI : ∀ t ∈ KI, Jvm.Cond.constant (cn t.1) t.2.1 (Int32.ofInt t.2.2) ∈ tb) (hKJ : ∀ t ∈ KJ, Jvm.Cond.constantLong (cn t.1) t.2.1 (Int64.ofInt t.2.2) ∈ tb)
    (hAT : ∀ t ∈ AT, Jvm.Cond.arrayClass t ∈ tb) (hN : Jvm.Cond.classLink (cn 1) nw C ∈ tb)
    (hO : Jvm.Cond.methodLink (cn 0) 1 Lib.objectInit ∈ tb ∧ Jvm.Cond.instanceMethod Lib.objectInit ∈ tb ∧ Jvm.Cond.code Lib.objectInit ⟨#[0xb1]⟩ 1 none ∈ tb)
    (h : rowChk FL ML KI KJ AT WF nsl nw (own m) (ini m) ins aux = true) : RowOk P tb C fn F nsl nm R m ins aux := by
  cases ins <;> first | trivial | skip
  case getfield i => have q := hFL _ (List.contains_iff_mem.mp h); exact ⟨q.1, by rw [hown]; exact q.2⟩
  case putfield i =>
    simp only [rowChk, Bool.and_eq_true, Bool.or_eq_true] at h
    have q := hFL _ (List.contains_iff_mem.mp h.1)
    exact ⟨q.1, by rw [hown]; exact q.2, h.2.imp (fun u => hWF _ (List.contains_iff_mem.mp u)) hini⟩
  case new i =>
    simp only [rowChk, Bool.and_eq_true, decide_eq_true_eq] at h
    obtain ⟨⟨h1, h2⟩, h3⟩ := h
    exact ⟨h1, by rw [hown, h2, h3]; exact hN⟩
  case newarray t => exact hAT _ (of_decide_eq_true h)
  case ldc i => have q := hKI _ (List.contains_iff_mem.mp h); show _ ∈ tb; rw [hown]; exact q
  case ldc2_w i => have q := hKJ _ (List.contains_iff_mem.mp h); show _ ∈ tb; rw [hown]; exact q
  case invokevirtual i => have q := hML _ (List.contains_iff_mem.mp h); exact ⟨q.1, by rw [hown]; exact q.2⟩
  case invokestatic i => have q := hML _ (List.contains_iff_mem.mp h); exact ⟨q.1, by rw [hown]; exact q.2⟩
  case invokespecial i =>
    simp only [rowChk] at h
    refine ⟨fun e => ?_, fun e => ?_⟩
    · rw [if_pos e] at h
      simp only [Bool.and_eq_true, decide_eq_true_eq] at h
      rw [hown, h.1, h.2]; exact hO
    · rw [if_neg (by omega)] at h
      have q := hML _ (List.contains_iff_mem.mp h)
      exact ⟨q.1, by rw [hown]; exact q.2⟩
theorem rel_H1 {C : String} {fn : Nat → String × String} {F : List Nat} {s : State} {a : Addr} {cl : Cell} (hf : Fit s) (A : Arr s s.heap a cl .int) (hl : cl.slots.size < 2 ^ 31) :
    ∃ f : Nat → Int32, RelH C fn F s s.heap.size s.heap (H1 s.heap.size a cl.slots.size f) := by
  refine ⟨fun i => match cl.slots[i]? with | some (.int x) => x | _ => 0, rfl, Nat.le_refl _, fun b => ?_⟩
  simp only [H1]
  by_cases e : b = a
  · subst e
    simp only [if_true]
    refine ⟨fun q => (by cases q), hl, cl, A, rfl, fun i hi => ?_⟩
    have hi : i < cl.slots.size := hi
    have hj := idx_in hi hl
    obtain ⟨v, q1, q2⟩ := elem_fit hf A hj
    have e2 : (i.toInt32).toNatClampNeg = i := by
      have := len_toInt (n := i) (by omega)
      simp only [Int32.toNatClampNeg, this]; omega
    rw [e2] at q1
    obtain ⟨x, rfl⟩ := fit_I q2 (Or.inl rfl)
    show _ = some (Value.int (match cl.slots[i]? with | some (.int x) => x | _ => 0))
    rw [q1]
  · simp only [e, if_false]; exact ⟨fun q => (by cases q), trivial⟩
end Jvm.JX

namespace Jvm.JX.Pj
open Jvm Jvm.ClassFile Sem Op Lib Jvm.JX
def r1 : List Row := [(0, .aload_n 0, 1, 0), (1, .invokespecial 1, 3, (-1)), (4, .aload_n 0, 1, 0), (5, .bipush 33, 2, 0), (7, .newarray .int, 2, 0), (9, .putfield 7, 3, 5), (12, .aload_n 0, 1, 0), (13, .bipush 33, 2, 0), (15, .newarray .int, 2, 0), (17, .putfield 13, 3, 6), (20, .aload_n 0, 1, 0), (21, .bipush 33, 2, 0), (23, .newarray .int, 2, 0), (25, .putfield 16, 3, 7), (28, .aload_n 0, 1, 0), (29, .bipush 33, 2, 0), (31, .newarray .int, 2, 0), (33, .putfield 19, 3, 8), (36, .aload_n 0, 1, 0), (37, .bipush 33, 2, 0), (39, .newarray .int, 2, 0), (41, .putfield 22, 3, 9), (44, .aload_n 0, 1, 0), (45, .bipush 33, 2, 0), (47, .newarray .int, 2, 0), (49, .putfield 25, 3, 10), (52, .aload_n 0, 1, 0), (53, .bipush 33, 2, 0), (55, .newarray .int, 2, 0), (57, .putfield 28, 3, 11), (60, .aload_n 0, 1, 0), (61, .bipush 10, 2, 0), (63, .newarray .int, 2, 0), (65, .putfield 31, 3, 16), (68, .aload_n 0, 1, 0), (69, .bipush 10, 2, 0), (71, .newarray .int, 2, 0), (73, .putfield 34, 3, 17), (76, .aload_n 0, 1, 0), (77, .bipush 25, 2, 0), (79, .newarray .int, 2, 0), (81, .putfield 37, 3, 18), (84, .aload_n 0, 1, 0), (85, .bipush 100, 2, 0), (87, .newarray .int, 2, 0), (89, .putfield 40, 3, 19), (92, .aload_n 0, 1, 0), (93, .bipush 32, 2, 0), (95, .newarray .int, 2, 0), (97, .putfield 43, 3, 20), (100, .aload_n 0, 1, 0), (101, .bipush 32, 2, 0), (103, .newarray .int, 2, 0), (105, .putfield 46, 3, 21), (108, .iload_n 1, 1, 0), (109, .istore_n 3, 1, 0), (110, .iload_n 3, 1, 0), (111, .iconst 2, 1, 0), (112, .if_icmp .ge 5, 3, 0), (115, .iconst 2, 1, 0), (116, .istore_n 3, 1, 0), (117, .iload_n 3, 1, 0), (118, .iconst 4, 1, 0), (119, .if_icmp .le 5, 3, 0), (122, .iconst 4, 1, 0), (123, .istore_n 3, 1, 0), (124, .aload_n 0, 1, 0), (125, .iload_n 3, 1, 0), (126, .putfield 49, 3, 0), (129, .aload_n 0, 1, 0), (130, .aload_n 0, 1, 0), (131, .iload_n 2, 1, 0), (132, .invokevirtual 53, 3, 2), (135, .putfield 57, 3, 3), (138, .aload_n 0, 1, 0), (139, .invokevirtual 60, 3, 3), (142, .aload_n 0, 1, 0), (143, .invokevirtual 63, 3, 4), (146, .aload_n 0, 1, 0), (147, .iconst 0, 1, 0), (148, .putfield 66, 3, 4), (151, .aload_n 0, 1, 0), (152, .iconst 0, 1, 0), (153, .putfield 69, 3, 12), (156, .aload_n 0, 1, 0), (157, .iconst 0, 1, 0), (158, .putfield 73, 3, 13), (161, .aload_n 0, 1, 0), (162, .iconst 0, 1, 0), (163, .putfield 76, 3, 14), (166, .aload_n 0, 1, 0), (167, .iconst 0, 1, 0), (168, .putfield 79, 3, 15), (171, .aload_n 0, 1, 0), (172, .iconst 0, 1, 0), (173, .putfield 82, 3, 22), (176, .return_, 1, 0)]
def r2 : List Row := [(0, .iload_n 1, 1, 0), (1, .iconst 1, 1, 0), (2, .if_icmp .ge 7, 3, 0), (5, .iconst 1, 1, 0), (6, .goto 4, 3, 0), (9, .iload_n 1, 1, 0), (10, .ireturn, 1, 0)]
def r3 : List Row := [(0, .iconst 0, 1, 0), (1, .istore_n 1, 1, 0), (2, .iconst 1, 1, 0), (3, .istore_n 2, 1, 0), (4, .iload_n 2, 1, 0), (5, .aload_n 0, 1, 0), (6, .getfield 49, 3, 0), (9, .if_icmp .gt 64, 3, 0), (12, .iload_n 2, 1, 0), (13, .istore_n 3, 1, 0), (14, .iload_n 3, 1, 0), (15, .aload_n 0, 1, 0), (16, .getfield 49, 3, 0), (19, .if_icmp .gt 48, 3, 0), (22, .aload_n 0, 1, 0), (23, .getfield 31, 3, 16), (26, .iload_n 1, 1, 0), (27, .iload_n 2, 1, 0), (28, .iastore, 1, 0), (29, .aload_n 0, 1, 0), (30, .getfield 34, 3, 17), (33, .iload_n 1, 1, 0), (34, .iload_n 3, 1, 0), (35, .iastore, 1, 0), (36, .aload_n 0, 1, 0), (37, .getfield 37, 3, 18), (40, .iload_n 2, 1, 0), (41, .iconst 5, 1, 0), (42, .imul, 1, 0), (43, .iload_n 3, 1, 0), (44, .iadd, 1, 0), (45, .iload_n 1, 1, 0), (46, .iastore, 1, 0), (47, .aload_n 0, 1, 0), (48, .getfield 37, 3, 18), (51, .iload_n 3, 1, 0), (52, .iconst 5, 1, 0), (53, .imul, 1, 0), (54, .iload_n 2, 1, 0), (55, .iadd, 1, 0), (56, .iload_n 1, 1, 0), (57, .iastore, 1, 0), (58, .iinc 1 1, 3, 0), (61, .iinc 3 1, 3, 0), (64, .goto (-50), 3, 0), (67, .iinc 2 1, 3, 0), (70, .goto (-66), 3, 0), (73, .aload_n 0, 1, 0), (74, .iload_n 1, 1, 0), (75, .putfield 85, 3, 1), (78, .aload_n 0, 1, 0), (79, .iconst 1, 1, 0), (80, .iload_n 1, 1, 0), (81, .ishl, 1, 0), (82, .iconst 1, 1, 0), (83, .isub, 1, 0), (84, .putfield 88, 3, 2), (87, .return_, 1, 0)]
def r4 : List Row := [(0, .iconst 0, 1, 0), (1, .istore_n 1, 1, 0), (2, .iload_n 1, 1, 0), (3, .aload_n 0, 1, 0), (4, .getfield 85, 3, 1), (7, .if_icmp .ge 42, 3, 0), (10, .iconst 0, 1, 0), (11, .istore_n 2, 1, 0), (12, .iload_n 2, 1, 0), (13, .aload_n 0, 1, 0), (14, .getfield 85, 3, 1), (17, .if_icmp .ge 26, 3, 0), (20, .aload_n 0, 1, 0), (21, .getfield 40, 3, 19), (24, .iload_n 1, 1, 0), (25, .bipush 10, 2, 0), (27, .imul, 1, 0), (28, .iload_n 2, 1, 0), (29, .iadd, 1, 0), (30, .aload_n 0, 1, 0), (31, .iload_n 1, 1, 0), (32, .iload_n 2, 1, 0), (33, .invokevirtual 91, 3, 5), (36, .iastore, 1, 0), (37, .iinc 2 1, 3, 0), (40, .goto (-28), 3, 0), (43, .iinc 1 1, 3, 0), (46, .goto (-44), 3, 0), (49, .return_, 1, 0)]
def r5 : List Row := [(0, .iconst 0, 1, 0), (1, .istore_n 3, 1, 0), (2, .iconst 0, 1, 0), (3, .istore 4, 2, 0), (5, .iload 4, 2, 0), (7, .aload_n 0, 1, 0), (8, .getfield 85, 3, 1), (11, .if_icmp .ge 27, 3, 0), (14, .aload_n 0, 1, 0), (15, .iload 4, 2, 0), (17, .iload_n 1, 1, 0), (18, .iload_n 2, 1, 0), (19, .invokevirtual 95, 3, 6), (22, .ifCond .eq 10, 3, 0), (25, .iload_n 3, 1, 0), (26, .iconst 1, 1, 0), (27, .iload 4, 2, 0), (29, .ishl, 1, 0), (30, .ior, 1, 0), (31, .istore_n 3, 1, 0), (32, .iinc 4 1, 3, 0), (35, .goto (-30), 3, 0), (38, .iload_n 3, 1, 0), (39, .ireturn, 1, 0)]
def r6 : List Row := [(0, .aload_n 0, 1, 0), (1, .getfield 31, 3, 16), (4, .iload_n 1, 1, 0), (5, .iaload, 1, 0), (6, .istore 4, 2, 0), (8, .aload_n 0, 1, 0), (9, .getfield 34, 3, 17), (12, .iload_n 1, 1, 0), (13, .iaload, 1, 0), (14, .istore 5, 2, 0), (16, .aload_n 0, 1, 0), (17, .getfield 31, 3, 16), (20, .iload_n 2, 1, 0), (21, .iaload, 1, 0), (22, .istore 6, 2, 0), (24, .aload_n 0, 1, 0), (25, .getfield 34, 3, 17), (28, .iload_n 2, 1, 0), (29, .iaload, 1, 0), (30, .istore 7, 2, 0), (32, .aload_n 0, 1, 0), (33, .getfield 31, 3, 16), (36, .iload_n 3, 1, 0), (37, .iaload, 1, 0), (38, .istore 8, 2, 0), (40, .aload_n 0, 1, 0), (41, .getfield 34, 3, 17), (44, .iload_n 3, 1, 0), (45, .iaload, 1, 0), (46, .istore 9, 2, 0), (48, .iload 4, 2, 0), (50, .iload 6, 2, 0), (52, .if_icmp .eq 10, 3, 0), (55, .iload 4, 2, 0), (57, .iload 7, 2, 0), (59, .if_icmp .ne 7, 3, 0), (62, .iconst 1, 1, 0), (63, .goto 4, 3, 0), (66, .iconst 0, 1, 0), (67, .istore 10, 2, 0), (69, .iload 5, 2, 0), (71, .iload 6, 2, 0), (73, .if_icmp .eq 10, 3, 0), (76, .iload 5, 2, 0), (78, .iload 7, 2, 0), (80, .if_icmp .ne 7, 3, 0), (83, .iconst 1, 1, 0), (84, .goto 4, 3, 0), (87, .iconst 0, 1, 0), (88, .istore 11, 2, 0), (90, .iload 4, 2, 0), (92, .iload 8, 2, 0), (94, .if_icmp .eq 10, 3, 0), (97, .iload 4, 2, 0), (99, .iload 9, 2, 0), (101, .if_icmp .ne 7, 3, 0), (104, .iconst 1, 1, 0), (105, .goto 4, 3, 0), (108, .iconst 0, 1, 0), (109, .istore 12, 2, 0), (111, .iload 5, 2, 0), (113, .iload 8, 2, 0), (115, .if_icmp .eq 10, 3, 0), (118, .iload 5, 2, 0), (120, .iload 9, 2, 0), (122, .if_icmp .ne 7, 3, 0), (125, .iconst 1, 1, 0), (126, .goto 4, 3, 0), (129, .iconst 0, 1, 0), (130, .istore 13, 2, 0), (132, .iload 10, 2, 0), (134, .ifCond .eq 8, 3, 0), (137, .iload 13, 2, 0), (139, .ifCond .ne 13, 3, 0), (142, .iload 11, 2, 0), (144, .ifCond .eq 12, 3, 0), (147, .iload 12, 2, 0), (149, .ifCond .eq 7, 3, 0), (152, .iconst 1, 1, 0), (153, .goto 4, 3, 0), (156, .iconst 0, 1, 0), (157, .ireturn, 1, 0)]
def r7 : List Row := [(0, .iload_n 1, 1, 0), (1, .iconst 1, 1, 0), (2, .if_icmp .lt 15, 3, 0), (5, .iload_n 1, 1, 0), (6, .aload_n 0, 1, 0), (7, .getfield 66, 3, 4), (10, .if_icmp .gt 7, 3, 0), (13, .iconst 1, 1, 0), (14, .goto 4, 3, 0), (17, .iconst 0, 1, 0), (18, .ireturn, 1, 0)]
def r8 : List Row := [(0, .iload_n 1, 1, 0), (1, .iconst 1, 1, 0), (2, .if_icmp .lt 15, 3, 0), (5, .iload_n 1, 1, 0), (6, .aload_n 0, 1, 0), (7, .getfield 49, 3, 0), (10, .if_icmp .gt 7, 3, 0), (13, .iconst 1, 1, 0), (14, .goto 4, 3, 0), (17, .iconst 0, 1, 0), (18, .ireturn, 1, 0)]
def r9 : List Row := [(0, .aload_n 0, 1, 0), (1, .getfield 66, 3, 4), (4, .bipush 32, 2, 0), (6, .if_icmp .lt 5, 3, 0), (9, .iconst (-1), 1, 0), (10, .ireturn, 1, 0), (11, .iload_n 1, 1, 0), (12, .iconst 1, 1, 0), (13, .if_icmp .eq 11, 3, 0), (16, .iload_n 1, 1, 0), (17, .iconst 2, 1, 0), (18, .if_icmp .eq 6, 3, 0), (21, .bipush (-2), 2, 0), (23, .ireturn, 1, 0), (24, .iload_n 2, 1, 0), (25, .ifCond .ne 7, 3, 0), (28, .iconst 1, 1, 0), (29, .goto 4, 3, 0), (32, .iconst 0, 1, 0), (33, .iload_n 3, 1, 0), (34, .ifCond .ne 7, 3, 0), (37, .iconst 1, 1, 0), (38, .goto 4, 3, 0), (41, .iconst 0, 1, 0), (42, .if_icmp .eq 6, 3, 0), (45, .bipush (-2), 2, 0), (47, .ireturn, 1, 0), (48, .iload_n 2, 1, 0), (49, .ifCond .eq 51, 3, 0), (52, .aload_n 0, 1, 0), (53, .iload_n 2, 1, 0), (54, .invokevirtual 99, 3, 7), (57, .ifCond .ne 6, 3, 0), (60, .bipush (-3), 2, 0), (62, .ireturn, 1, 0), (63, .aload_n 0, 1, 0), (64, .iload_n 3, 1, 0), (65, .invokevirtual 99, 3, 7), (68, .ifCond .ne 6, 3, 0), (71, .bipush (-3), 2, 0), (73, .ireturn, 1, 0), (74, .aload_n 0, 1, 0), (75, .getfield 7, 3, 5), (78, .iload_n 2, 1, 0), (79, .iaload, 1, 0), (80, .iconst 1, 1, 0), (81, .if_icmp .eq 6, 3, 0), (84, .bipush (-4), 2, 0), (86, .ireturn, 1, 0), (87, .aload_n 0, 1, 0), (88, .getfield 7, 3, 5), (91, .iload_n 3, 1, 0), (92, .iaload, 1, 0), (93, .iconst 2, 1, 0), (94, .if_icmp .eq 6, 3, 0), (97, .bipush (-4), 2, 0), (99, .ireturn, 1, 0), (100, .aload_n 0, 1, 0), (101, .dup, 1, 0), (102, .getfield 66, 3, 4), (105, .iconst 1, 1, 0), (106, .iadd, 1, 0), (107, .putfield 66, 3, 4), (110, .aload_n 0, 1, 0), (111, .getfield 7, 3, 5), (114, .aload_n 0, 1, 0), (115, .getfield 66, 3, 4), (118, .iload_n 1, 1, 0), (119, .iastore, 1, 0), (120, .aload_n 0, 1, 0), (121, .getfield 13, 3, 6), (124, .aload_n 0, 1, 0), (125, .getfield 66, 3, 4), (128, .iload_n 2, 1, 0), (129, .iastore, 1, 0), (130, .aload_n 0, 1, 0), (131, .getfield 16, 3, 7), (134, .aload_n 0, 1, 0), (135, .getfield 66, 3, 4), (138, .iload_n 3, 1, 0), (139, .iastore, 1, 0), (140, .aload_n 0, 1, 0), (141, .getfield 19, 3, 8), (144, .aload_n 0, 1, 0), (145, .getfield 66, 3, 4), (148, .iconst (-1), 1, 0), (149, .iastore, 1, 0), (150, .aload_n 0, 1, 0), (151, .getfield 22, 3, 9), (154, .aload_n 0, 1, 0), (155, .getfield 66, 3, 4), (158, .iconst 0, 1, 0), (159, .iastore, 1, 0), (160, .aload_n 0, 1, 0), (161, .getfield 25, 3, 10), (164, .aload_n 0, 1, 0), (165, .getfield 66, 3, 4), (168, .iconst 0, 1, 0), (169, .iastore, 1, 0), (170, .aload_n 0, 1, 0), (171, .iconst 0, 1, 0), (172, .putfield 73, 3, 13), (175, .aload_n 0, 1, 0), (176, .iconst 0, 1, 0), (177, .putfield 69, 3, 12), (180, .aload_n 0, 1, 0), (181, .getfield 66, 3, 4), (184, .ireturn, 1, 0)]
def r10 : List Row := [(0, .aload_n 0, 1, 0), (1, .iload_n 1, 1, 0), (2, .invokevirtual 99, 3, 7), (5, .ifCond .ne 6, 3, 0), (8, .bipush (-5), 2, 0), (10, .ireturn, 1, 0), (11, .aload_n 0, 1, 0), (12, .iload_n 2, 1, 0), (13, .invokevirtual 103, 3, 8), (16, .ifCond .eq 11, 3, 0), (19, .aload_n 0, 1, 0), (20, .iload_n 3, 1, 0), (21, .invokevirtual 103, 3, 8), (24, .ifCond .ne 6, 3, 0), (27, .bipush (-6), 2, 0), (29, .ireturn, 1, 0), (30, .aload_n 0, 1, 0), (31, .getfield 19, 3, 8), (34, .iload_n 1, 1, 0), (35, .aload_n 0, 1, 0), (36, .getfield 37, 3, 18), (39, .iload_n 2, 1, 0), (40, .iconst 5, 1, 0), (41, .imul, 1, 0), (42, .iload_n 3, 1, 0), (43, .iadd, 1, 0), (44, .iaload, 1, 0), (45, .iastore, 1, 0), (46, .aload_n 0, 1, 0), (47, .iconst 0, 1, 0), (48, .putfield 73, 3, 13), (51, .iconst 0, 1, 0), (52, .ireturn, 1, 0)]
def r11 : List Row := [(0, .aload_n 0, 1, 0), (1, .iload_n 1, 1, 0), (2, .invokevirtual 99, 3, 7), (5, .ifCond .ne 6, 3, 0), (8, .bipush (-5), 2, 0), (10, .ireturn, 1, 0), (11, .aload_n 0, 1, 0), (12, .getfield 19, 3, 8), (15, .iload_n 1, 1, 0), (16, .iconst (-1), 1, 0), (17, .iastore, 1, 0), (18, .aload_n 0, 1, 0), (19, .iconst 0, 1, 0), (20, .putfield 73, 3, 13), (23, .iconst 0, 1, 0), (24, .ireturn, 1, 0)]
def r12 : List Row := [(0, .aload_n 0, 1, 0), (1, .aload_n 0, 1, 0), (2, .iload_n 1, 1, 0), (3, .invokevirtual 53, 3, 2), (6, .putfield 57, 3, 3), (9, .return_, 1, 0)]
def r13 : List Row := [(0, .aload_n 0, 1, 0), (1, .aload_n 0, 1, 0), (2, .getfield 57, 3, 3), (5, .ldc 106, 2, 1103515245), (7, .imul, 1, 0), (8, .sipush 12345, 3, 0), (11, .iadd, 1, 0), (12, .putfield 57, 3, 3), (15, .aload_n 0, 1, 0), (16, .getfield 57, 3, 3), (19, .bipush 16, 2, 0), (21, .iushr, 1, 0), (22, .sipush 32767, 3, 0), (25, .iand, 1, 0), (26, .ireturn, 1, 0)]
def r14 : List Row := [(0, .aload_n 0, 1, 0), (1, .invokevirtual 107, 3, 13), (4, .istore_n 2, 1, 0), (5, .iload_n 2, 1, 0), (6, .iconst 1, 1, 0), (7, .iand, 1, 0), (8, .ifCond .ne 12, 3, 0), (11, .aload_n 0, 1, 0), (12, .getfield 22, 3, 9), (15, .iload_n 1, 1, 0), (16, .iaload, 1, 0), (17, .goto 9, 3, 0), (20, .aload_n 0, 1, 0), (21, .getfield 25, 3, 10), (24, .iload_n 1, 1, 0), (25, .iaload, 1, 0), (26, .ireturn, 1, 0)]
def r15 : List Row := [(0, .iconst 1, 1, 0), (1, .istore_n 1, 1, 0), (2, .iload_n 1, 1, 0), (3, .aload_n 0, 1, 0), (4, .getfield 66, 3, 4), (7, .if_icmp .gt 91, 3, 0), (10, .aload_n 0, 1, 0), (11, .getfield 13, 3, 6), (14, .iload_n 1, 1, 0), (15, .iaload, 1, 0), (16, .ifCond .ne 44, 3, 0), (19, .aload_n 0, 1, 0), (20, .invokevirtual 107, 3, 13), (23, .istore_n 2, 1, 0), (24, .aload_n 0, 1, 0), (25, .getfield 22, 3, 9), (28, .iload_n 1, 1, 0), (29, .iconst 1, 1, 0), (30, .iload_n 2, 1, 0), (31, .aload_n 0, 1, 0), (32, .getfield 49, 3, 0), (35, .irem, 1, 0), (36, .iadd, 1, 0), (37, .iastore, 1, 0), (38, .aload_n 0, 1, 0), (39, .invokevirtual 107, 3, 13), (42, .istore_n 3, 1, 0), (43, .aload_n 0, 1, 0), (44, .getfield 25, 3, 10), (47, .iload_n 1, 1, 0), (48, .iconst 1, 1, 0), (49, .iload_n 3, 1, 0), (50, .aload_n 0, 1, 0), (51, .getfield 49, 3, 0), (54, .irem, 1, 0), (55, .iadd, 1, 0), (56, .iastore, 1, 0), (57, .goto 35, 3, 0), (60, .aload_n 0, 1, 0), (61, .getfield 22, 3, 9), (64, .iload_n 1, 1, 0), (65, .aload_n 0, 1, 0), (66, .aload_n 0, 1, 0), (67, .getfield 13, 3, 6), (70, .iload_n 1, 1, 0), (71, .iaload, 1, 0), (72, .invokevirtual 111, 3, 14), (75, .iastore, 1, 0), (76, .aload_n 0, 1, 0), (77, .getfield 25, 3, 10), (80, .iload_n 1, 1, 0), (81, .aload_n 0, 1, 0), (82, .aload_n 0, 1, 0), (83, .getfield 16, 3, 7), (86, .iload_n 1, 1, 0), (87, .iaload, 1, 0), (88, .invokevirtual 111, 3, 14), (91, .iastore, 1, 0), (92, .iinc 1 1, 3, 0), (95, .goto (-93), 3, 0), (98, .aload_n 0, 1, 0), (99, .iconst 1, 1, 0), (100, .putfield 69, 3, 12), (103, .aload_n 0, 1, 0), (104, .getfield 66, 3, 4), (107, .ireturn, 1, 0)]
def r16 : List Row := [(0, .aload_n 0, 1, 0), (1, .iload_n 1, 1, 0), (2, .invokevirtual 99, 3, 7), (5, .ifCond .ne 6, 3, 0), (8, .bipush (-5), 2, 0), (10, .ireturn, 1, 0), (11, .aload_n 0, 1, 0), (12, .getfield 69, 3, 12), (15, .ifCond .ne 6, 3, 0), (18, .bipush (-7), 2, 0), (20, .ireturn, 1, 0), (21, .aload_n 0, 1, 0), (22, .getfield 19, 3, 8), (25, .iload_n 1, 1, 0), (26, .aload_n 0, 1, 0), (27, .getfield 37, 3, 18), (30, .aload_n 0, 1, 0), (31, .getfield 22, 3, 9), (34, .iload_n 1, 1, 0), (35, .iaload, 1, 0), (36, .iconst 5, 1, 0), (37, .imul, 1, 0), (38, .aload_n 0, 1, 0), (39, .getfield 25, 3, 10), (42, .iload_n 1, 1, 0), (43, .iaload, 1, 0), (44, .iadd, 1, 0), (45, .iaload, 1, 0), (46, .iastore, 1, 0), (47, .aload_n 0, 1, 0), (48, .iconst 0, 1, 0), (49, .putfield 73, 3, 13), (52, .iconst 0, 1, 0), (53, .ireturn, 1, 0)]
def r17 : List Row := [(0, .aload_n 0, 1, 0), (1, .iload_n 1, 1, 0), (2, .invokevirtual 99, 3, 7), (5, .ifCond .eq 10, 3, 0), (8, .aload_n 0, 1, 0), (9, .getfield 69, 3, 12), (12, .ifCond .ne 5, 3, 0), (15, .iconst 0, 1, 0), (16, .ireturn, 1, 0), (17, .iload_n 2, 1, 0), (18, .ifCond .ne 10, 3, 0), (21, .aload_n 0, 1, 0), (22, .getfield 22, 3, 9), (25, .iload_n 1, 1, 0), (26, .iaload, 1, 0), (27, .ireturn, 1, 0), (28, .iload_n 2, 1, 0), (29, .iconst 1, 1, 0), (30, .if_icmp .ne 10, 3, 0), (33, .aload_n 0, 1, 0), (34, .getfield 25, 3, 10), (37, .iload_n 1, 1, 0), (38, .iaload, 1, 0), (39, .ireturn, 1, 0), (40, .iconst 0, 1, 0), (41, .ireturn, 1, 0)]
def r18 : List Row := [(0, .aload_n 0, 1, 0), (1, .invokevirtual 114, 3, 19), (4, .iconst 0, 1, 0), (5, .istore_n 1, 1, 0), (6, .iconst 0, 1, 0), (7, .istore_n 2, 1, 0), (8, .iconst 1, 1, 0), (9, .istore_n 3, 1, 0), (10, .iload_n 3, 1, 0), (11, .aload_n 0, 1, 0), (12, .getfield 66, 3, 4), (15, .if_icmp .gt 48, 3, 0), (18, .aload_n 0, 1, 0), (19, .iload_n 3, 1, 0), (20, .invokevirtual 117, 3, 22), (23, .ifCond .eq 34, 3, 0), (26, .aload_n 0, 1, 0), (27, .iload_n 3, 1, 0), (28, .invokevirtual 120, 3, 26), (31, .ifCond .ne 26, 3, 0), (34, .iconst 2, 1, 0), (35, .aload_n 0, 1, 0), (36, .getfield 82, 3, 22), (39, .iadd, 1, 0), (40, .istore 4, 2, 0), (42, .iload_n 1, 1, 0), (43, .ifCond .eq 9, 3, 0), (46, .iload 4, 2, 0), (48, .iload_n 2, 1, 0), (49, .if_icmp .ge 8, 3, 0), (52, .iload_n 3, 1, 0), (53, .istore_n 1, 1, 0), (54, .iload 4, 2, 0), (56, .istore_n 2, 1, 0), (57, .iinc 3 1, 3, 0), (60, .goto (-50), 3, 0), (63, .aload_n 0, 1, 0), (64, .invokevirtual 123, 3, 20), (67, .aload_n 0, 1, 0), (68, .invokevirtual 126, 3, 21), (71, .istore_n 3, 1, 0), (72, .aload_n 0, 1, 0), (73, .iload_n 3, 1, 0), (74, .ifCond .eq 7, 3, 0), (77, .iconst 2, 1, 0), (78, .goto 4, 3, 0), (81, .iconst 1, 1, 0), (82, .putfield 76, 3, 14), (85, .aload_n 0, 1, 0), (86, .iload_n 3, 1, 0), (87, .ifCond .eq 7, 3, 0), (90, .iload_n 1, 1, 0), (91, .goto 4, 3, 0), (94, .iconst 0, 1, 0), (95, .putfield 79, 3, 15), (98, .aload_n 0, 1, 0), (99, .iconst 1, 1, 0), (100, .putfield 73, 3, 13), (103, .aload_n 0, 1, 0), (104, .getfield 76, 3, 14), (107, .ireturn, 1, 0)]
def r19 : List Row := [(0, .iconst 1, 1, 0), (1, .istore_n 1, 1, 0), (2, .iload_n 1, 1, 0), (3, .aload_n 0, 1, 0), (4, .getfield 66, 3, 4), (7, .if_icmp .gt 39, 3, 0), (10, .aload_n 0, 1, 0), (11, .getfield 28, 3, 11), (14, .iload_n 1, 1, 0), (15, .aload_n 0, 1, 0), (16, .getfield 19, 3, 8), (19, .iload_n 1, 1, 0), (20, .iaload, 1, 0), (21, .ifCond .lt 14, 3, 0), (24, .iconst 1, 1, 0), (25, .aload_n 0, 1, 0), (26, .getfield 19, 3, 8), (29, .iload_n 1, 1, 0), (30, .iaload, 1, 0), (31, .ishl, 1, 0), (32, .goto 7, 3, 0), (35, .aload_n 0, 1, 0), (36, .getfield 88, 3, 2), (39, .iastore, 1, 0), (40, .iinc 1 1, 3, 0), (43, .goto (-41), 3, 0), (46, .return_, 1, 0)]
def r20 : List Row := [(0, .iconst 0, 1, 0), (1, .istore_n 1, 1, 0), (2, .iload_n 1, 1, 0), (3, .sipush 330, 3, 0), (6, .if_icmp .ge 48, 3, 0), (9, .iconst 0, 1, 0), (10, .istore_n 2, 1, 0), (11, .iconst 1, 1, 0), (12, .istore_n 3, 1, 0), (13, .iload_n 3, 1, 0), (14, .aload_n 0, 1, 0), (15, .getfield 66, 3, 4), (18, .if_icmp .gt 25, 3, 0), (21, .aload_n 0, 1, 0), (22, .iload_n 3, 1, 0), (23, .invokevirtual 117, 3, 22), (26, .ifCond .eq 11, 3, 0), (29, .iload_n 2, 1, 0), (30, .aload_n 0, 1, 0), (31, .iload_n 3, 1, 0), (32, .invokevirtual 130, 3, 27), (35, .ior, 1, 0), (36, .istore_n 2, 1, 0), (37, .iinc 3 1, 3, 0), (40, .goto (-27), 3, 0), (43, .iload_n 2, 1, 0), (44, .ifCond .ne 4, 3, 0), (47, .return_, 1, 0), (48, .iinc 1 1, 3, 0), (51, .goto (-49), 3, 0), (54, .return_, 1, 0)]
def r21 : List Row := [(0, .iconst 1, 1, 0), (1, .istore_n 1, 1, 0), (2, .iload_n 1, 1, 0), (3, .aload_n 0, 1, 0), (4, .getfield 66, 3, 4), (7, .if_icmp .gt 20, 3, 0), (10, .aload_n 0, 1, 0), (11, .getfield 28, 3, 11), (14, .iload_n 1, 1, 0), (15, .iaload, 1, 0), (16, .ifCond .ne 5, 3, 0), (19, .iconst 1, 1, 0), (20, .ireturn, 1, 0), (21, .iinc 1 1, 3, 0), (24, .goto (-22), 3, 0), (27, .iconst 0, 1, 0), (28, .ireturn, 1, 0)]
def r22 : List Row := [(0, .aload_n 0, 1, 0), (1, .iload_n 1, 1, 0), (2, .invokevirtual 99, 3, 7), (5, .ifCond .eq 12, 3, 0), (8, .aload_n 0, 1, 0), (9, .getfield 13, 3, 6), (12, .iload_n 1, 1, 0), (13, .iaload, 1, 0), (14, .ifCond .ne 5, 3, 0), (17, .iconst 0, 1, 0), (18, .ireturn, 1, 0), (19, .aload_n 0, 1, 0), (20, .getfield 13, 3, 6), (23, .iload_n 1, 1, 0), (24, .iaload, 1, 0), (25, .istore_n 2, 1, 0), (26, .aload_n 0, 1, 0), (27, .getfield 16, 3, 7), (30, .iload_n 1, 1, 0), (31, .iaload, 1, 0), (32, .istore_n 3, 1, 0), (33, .iconst 1, 1, 0), (34, .istore 4, 2, 0), (36, .iload 4, 2, 0), (38, .iload_n 1, 1, 0), (39, .if_icmp .ge 33, 3, 0), (42, .aload_n 0, 1, 0), (43, .getfield 13, 3, 6), (46, .iload 4, 2, 0), (48, .iaload, 1, 0), (49, .iload_n 2, 1, 0), (50, .if_icmp .ne 16, 3, 0), (53, .aload_n 0, 1, 0), (54, .getfield 16, 3, 7), (57, .iload 4, 2, 0), (59, .iaload, 1, 0), (60, .iload_n 3, 1, 0), (61, .if_icmp .ne 5, 3, 0), (64, .iconst 0, 1, 0), (65, .ireturn, 1, 0), (66, .iinc 4 1, 3, 0), (69, .goto (-33), 3, 0), (72, .iconst 1, 1, 0), (73, .ireturn, 1, 0)]
def r23 : List Row := [(0, .aload_n 0, 1, 0), (1, .iconst 0, 1, 0), (2, .putfield 82, 3, 22), (5, .aload_n 0, 1, 0), (6, .getfield 13, 3, 6), (9, .iload_n 1, 1, 0), (10, .iaload, 1, 0), (11, .istore_n 2, 1, 0), (12, .aload_n 0, 1, 0), (13, .getfield 16, 3, 7), (16, .iload_n 1, 1, 0), (17, .iaload, 1, 0), (18, .istore_n 3, 1, 0), (19, .iload_n 1, 1, 0), (20, .istore 4, 2, 0), (22, .iload 4, 2, 0), (24, .aload_n 0, 1, 0), (25, .getfield 66, 3, 4), (28, .if_icmp .gt 61, 3, 0), (31, .aload_n 0, 1, 0), (32, .getfield 13, 3, 6), (35, .iload 4, 2, 0), (37, .iaload, 1, 0), (38, .iload_n 2, 1, 0), (39, .if_icmp .ne 44, 3, 0), (42, .aload_n 0, 1, 0), (43, .getfield 16, 3, 7), (46, .iload 4, 2, 0), (48, .iaload, 1, 0), (49, .iload_n 3, 1, 0), (50, .if_icmp .ne 33, 3, 0), (53, .aload_n 0, 1, 0), (54, .getfield 82, 3, 22), (57, .bipush 32, 2, 0), (59, .if_icmp .ge 24, 3, 0), (62, .aload_n 0, 1, 0), (63, .getfield 43, 3, 20), (66, .aload_n 0, 1, 0), (67, .getfield 82, 3, 22), (70, .iload 4, 2, 0), (72, .iastore, 1, 0), (73, .aload_n 0, 1, 0), (74, .dup, 1, 0), (75, .getfield 82, 3, 22), (78, .iconst 1, 1, 0), (79, .iadd, 1, 0), (80, .putfield 82, 3, 22), (83, .iinc 4 1, 3, 0), (86, .goto (-64), 3, 0), (89, .return_, 1, 0)]
def r24 : List Row := [(0, .iconst 0, 1, 0), (1, .istore_n 2, 1, 0), (2, .iload_n 2, 1, 0), (3, .aload_n 0, 1, 0), (4, .getfield 82, 3, 22), (7, .if_icmp .ge 27, 3, 0), (10, .aload_n 0, 1, 0), (11, .getfield 28, 3, 11), (14, .aload_n 0, 1, 0), (15, .getfield 43, 3, 20), (18, .iload_n 2, 1, 0), (19, .iaload, 1, 0), (20, .iaload, 1, 0), (21, .iload_n 1, 1, 0), (22, .iand, 1, 0), (23, .ifCond .ne 5, 3, 0), (26, .iconst 0, 1, 0), (27, .ireturn, 1, 0), (28, .iinc 2 1, 3, 0), (31, .goto (-29), 3, 0), (34, .iconst 1, 1, 0), (35, .ireturn, 1, 0)]
def r25 : List Row := [(0, .iconst 0, 1, 0), (1, .istore_n 2, 1, 0), (2, .iload_n 2, 1, 0), (3, .aload_n 0, 1, 0), (4, .getfield 82, 3, 22), (7, .if_icmp .ge 31, 3, 0), (10, .aload_n 0, 1, 0), (11, .getfield 46, 3, 21), (14, .iload_n 2, 1, 0), (15, .dup2, 1, 0), (16, .iaload, 1, 0), (17, .aload_n 0, 1, 0), (18, .getfield 28, 3, 11), (21, .aload_n 0, 1, 0), (22, .getfield 43, 3, 20), (25, .iload_n 2, 1, 0), (26, .iaload, 1, 0), (27, .iaload, 1, 0), (28, .iload_n 1, 1, 0), (29, .iand, 1, 0), (30, .ior, 1, 0), (31, .iastore, 1, 0), (32, .iinc 2 1, 3, 0), (35, .goto (-33), 3, 0), (38, .return_, 1, 0)]
def r26 : List Row := [(0, .aload_n 0, 1, 0), (1, .iload_n 1, 1, 0), (2, .invokevirtual 133, 3, 23), (5, .aload_n 0, 1, 0), (6, .getfield 28, 3, 11), (9, .aload_n 0, 1, 0), (10, .getfield 13, 3, 6), (13, .iload_n 1, 1, 0), (14, .iaload, 1, 0), (15, .iaload, 1, 0), (16, .istore_n 2, 1, 0), (17, .aload_n 0, 1, 0), (18, .getfield 28, 3, 11), (21, .aload_n 0, 1, 0), (22, .getfield 16, 3, 7), (25, .iload_n 1, 1, 0), (26, .iaload, 1, 0), (27, .iaload, 1, 0), (28, .istore_n 3, 1, 0), (29, .iconst 0, 1, 0), (30, .istore 4, 2, 0), (32, .iload 4, 2, 0), (34, .aload_n 0, 1, 0), (35, .getfield 85, 3, 1), (38, .if_icmp .ge 70, 3, 0), (41, .iload_n 2, 1, 0), (42, .iload 4, 2, 0), (44, .ishr, 1, 0), (45, .iconst 1, 1, 0), (46, .iand, 1, 0), (47, .ifCond .ne 6, 3, 0), (50, .goto 52, 3, 0), (53, .iconst 0, 1, 0), (54, .istore 5, 2, 0), (56, .iload 5, 2, 0), (58, .aload_n 0, 1, 0), (59, .getfield 85, 3, 1), (62, .if_icmp .ge 40, 3, 0), (65, .iload_n 3, 1, 0), (66, .iload 5, 2, 0), (68, .ishr, 1, 0), (69, .iconst 1, 1, 0), (70, .iand, 1, 0), (71, .ifCond .eq 25, 3, 0), (74, .aload_n 0, 1, 0), (75, .aload_n 0, 1, 0), (76, .getfield 40, 3, 19), (79, .iload 4, 2, 0), (81, .bipush 10, 2, 0), (83, .imul, 1, 0), (84, .iload 5, 2, 0), (86, .iadd, 1, 0), (87, .iaload, 1, 0), (88, .invokevirtual 137, 3, 24), (91, .ifCond .eq 5, 3, 0), (94, .iconst 1, 1, 0), (95, .ireturn, 1, 0), (96, .iinc 5 1, 3, 0), (99, .goto (-43), 3, 0), (102, .iinc 4 1, 3, 0), (105, .goto (-73), 3, 0), (108, .iconst 0, 1, 0), (109, .ireturn, 1, 0)]
def r27 : List Row := [(0, .aload_n 0, 1, 0), (1, .iload_n 1, 1, 0), (2, .invokevirtual 133, 3, 23), (5, .aload_n 0, 1, 0), (6, .getfield 13, 3, 6), (9, .iload_n 1, 1, 0), (10, .iaload, 1, 0), (11, .istore_n 2, 1, 0), (12, .aload_n 0, 1, 0), (13, .getfield 16, 3, 7), (16, .iload_n 1, 1, 0), (17, .iaload, 1, 0), (18, .istore_n 3, 1, 0), (19, .iconst 0, 1, 0), (20, .istore 4, 2, 0), (22, .iload 4, 2, 0), (24, .aload_n 0, 1, 0), (25, .getfield 82, 3, 22), (28, .if_icmp .ge 17, 3, 0), (31, .aload_n 0, 1, 0), (32, .getfield 46, 3, 21), (35, .iload 4, 2, 0), (37, .iconst 0, 1, 0), (38, .iastore, 1, 0), (39, .iinc 4 1, 3, 0), (42, .goto (-20), 3, 0), (45, .iconst 0, 1, 0), (46, .istore 4, 2, 0), (48, .iconst 0, 1, 0), (49, .istore 5, 2, 0), (51, .iconst 0, 1, 0), (52, .istore 6, 2, 0), (54, .iload 6, 2, 0), (56, .aload_n 0, 1, 0), (57, .getfield 85, 3, 1), (60, .if_icmp .ge 106, 3, 0), (63, .aload_n 0, 1, 0), (64, .getfield 28, 3, 11), (67, .iload_n 2, 1, 0), (68, .iaload, 1, 0), (69, .iload 6, 2, 0), (71, .ishr, 1, 0), (72, .iconst 1, 1, 0), (73, .iand, 1, 0), (74, .ifCond .ne 6, 3, 0), (77, .goto 83, 3, 0), (80, .iconst 0, 1, 0), (81, .istore 7, 2, 0), (83, .iload 7, 2, 0), (85, .aload_n 0, 1, 0), (86, .getfield 85, 3, 1), (89, .if_icmp .ge 71, 3, 0), (92, .aload_n 0, 1, 0), (93, .getfield 40, 3, 19), (96, .iload 6, 2, 0), (98, .bipush 10, 2, 0), (100, .imul, 1, 0), (101, .iload 7, 2, 0), (103, .iadd, 1, 0), (104, .iaload, 1, 0), (105, .istore 8, 2, 0), (107, .aload_n 0, 1, 0), (108, .getfield 28, 3, 11), (111, .iload_n 3, 1, 0), (112, .iaload, 1, 0), (113, .iload 7, 2, 0), (115, .ishr, 1, 0), (116, .iconst 1, 1, 0), (117, .iand, 1, 0), (118, .ifCond .eq 36, 3, 0), (121, .aload_n 0, 1, 0), (122, .iload 8, 2, 0), (124, .invokevirtual 137, 3, 24), (127, .ifCond .eq 27, 3, 0), (130, .iload 4, 2, 0), (132, .iconst 1, 1, 0), (133, .iload 6, 2, 0), (135, .ishl, 1, 0), (136, .ior, 1, 0), (137, .istore 4, 2, 0), (139, .iload 5, 2, 0), (141, .iconst 1, 1, 0), (142, .iload 7, 2, 0), (144, .ishl, 1, 0), (145, .ior, 1, 0), (146, .istore 5, 2, 0), (148, .aload_n 0, 1, 0), (149, .iload 8, 2, 0), (151, .invokevirtual 140, 3, 25), (154, .iinc 7 1, 3, 0), (157, .goto (-74), 3, 0), (160, .iinc 6 1, 3, 0), (163, .goto (-109), 3, 0), (166, .aload_n 0, 1, 0), (167, .iload_n 2, 1, 0), (168, .iload_n 3, 1, 0), (169, .iload 4, 2, 0), (171, .iload 5, 2, 0), (173, .invokevirtual 143, 3, 28), (176, .ireturn, 1, 0)]
def r28 : List Row := [(0, .iconst 0, 1, 0), (1, .istore 5, 2, 0), (3, .aload_n 0, 1, 0), (4, .getfield 28, 3, 11), (7, .iload_n 1, 1, 0), (8, .iaload, 1, 0), (9, .iload_n 3, 1, 0), (10, .iand, 1, 0), (11, .aload_n 0, 1, 0), (12, .getfield 28, 3, 11), (15, .iload_n 1, 1, 0), (16, .iaload, 1, 0), (17, .if_icmp .eq 16, 3, 0), (20, .aload_n 0, 1, 0), (21, .getfield 28, 3, 11), (24, .iload_n 1, 1, 0), (25, .dup2, 1, 0), (26, .iaload, 1, 0), (27, .iload_n 3, 1, 0), (28, .iand, 1, 0), (29, .iastore, 1, 0), (30, .iconst 1, 1, 0), (31, .istore 5, 2, 0), (33, .aload_n 0, 1, 0), (34, .getfield 28, 3, 11), (37, .iload_n 2, 1, 0), (38, .iaload, 1, 0), (39, .iload 4, 2, 0), (41, .iand, 1, 0), (42, .aload_n 0, 1, 0), (43, .getfield 28, 3, 11), (46, .iload_n 2, 1, 0), (47, .iaload, 1, 0), (48, .if_icmp .eq 17, 3, 0), (51, .aload_n 0, 1, 0), (52, .getfield 28, 3, 11), (55, .iload_n 2, 1, 0), (56, .dup2, 1, 0), (57, .iaload, 1, 0), (58, .iload 4, 2, 0), (60, .iand, 1, 0), (61, .iastore, 1, 0), (62, .iconst 1, 1, 0), (63, .istore 5, 2, 0), (65, .iconst 0, 1, 0), (66, .istore 6, 2, 0), (68, .iload 6, 2, 0), (70, .aload_n 0, 1, 0), (71, .getfield 82, 3, 22), (74, .if_icmp .ge 63, 3, 0), (77, .aload_n 0, 1, 0), (78, .getfield 43, 3, 20), (81, .iload 6, 2, 0), (83, .iaload, 1, 0), (84, .istore 7, 2, 0), (86, .aload_n 0, 1, 0), (87, .getfield 28, 3, 11), (90, .iload 7, 2, 0), (92, .iaload, 1, 0), (93, .aload_n 0, 1, 0), (94, .getfield 46, 3, 21), (97, .iload 6, 2, 0), (99, .iaload, 1, 0), (100, .iand, 1, 0), (101, .aload_n 0, 1, 0), (102, .getfield 28, 3, 11), (105, .iload 7, 2, 0), (107, .iaload, 1, 0), (108, .if_icmp .eq 23, 3, 0), (111, .aload_n 0, 1, 0), (112, .getfield 28, 3, 11), (115, .iload 7, 2, 0), (117, .dup2, 1, 0), (118, .iaload, 1, 0), (119, .aload_n 0, 1, 0), (120, .getfield 46, 3, 21), (123, .iload 6, 2, 0), (125, .iaload, 1, 0), (126, .iand, 1, 0), (127, .iastore, 1, 0), (128, .iconst 1, 1, 0), (129, .istore 5, 2, 0), (131, .iinc 6 1, 3, 0), (134, .goto (-66), 3, 0), (137, .iload 5, 2, 0), (139, .ireturn, 1, 0)]
def r29 : List Row := [(0, .aload_n 0, 1, 0), (1, .getfield 73, 3, 13), (4, .ifCond .eq 10, 3, 0), (7, .aload_n 0, 1, 0), (8, .getfield 76, 3, 14), (11, .goto 4, 3, 0), (14, .iconst 0, 1, 0), (15, .ireturn, 1, 0)]
def r31 : List Row := [(0, .aload_n 0, 1, 0), (1, .getfield 73, 3, 13), (4, .ifCond .eq 11, 3, 0), (7, .aload_n 0, 1, 0), (8, .iload_n 1, 1, 0), (9, .invokevirtual 99, 3, 7), (12, .ifCond .ne 5, 3, 0), (15, .iconst (-1), 1, 0), (16, .ireturn, 1, 0), (17, .aload_n 0, 1, 0), (18, .getfield 28, 3, 11), (21, .iload_n 1, 1, 0), (22, .iaload, 1, 0), (23, .istore_n 2, 1, 0), (24, .iconst 0, 1, 0), (25, .istore_n 3, 1, 0), (26, .iconst 0, 1, 0), (27, .istore 4, 2, 0), (29, .iload 4, 2, 0), (31, .bipush 10, 2, 0), (33, .if_icmp .ge 21, 3, 0), (36, .iload_n 2, 1, 0), (37, .iload 4, 2, 0), (39, .ishr, 1, 0), (40, .iconst 1, 1, 0), (41, .iand, 1, 0), (42, .ifCond .eq 6, 3, 0), (45, .iinc 3 1, 3, 0), (48, .iinc 4 1, 3, 0), (51, .goto (-22), 3, 0), (54, .iload_n 3, 1, 0), (55, .ireturn, 1, 0)]
def r32 : List Row := [(0, .aload_n 0, 1, 0), (1, .getfield 73, 3, 13), (4, .ifCond .eq 10, 3, 0), (7, .aload_n 0, 1, 0), (8, .getfield 79, 3, 15), (11, .goto 4, 3, 0), (14, .iconst (-1), 1, 0), (15, .ireturn, 1, 0)]
def r33 : List Row := [(0, .aload_n 0, 1, 0), (1, .iload_n 1, 1, 0), (2, .invokevirtual 117, 3, 22), (5, .ifCond .ne 5, 3, 0), (8, .iconst 0, 1, 0), (9, .ireturn, 1, 0), (10, .aload_n 0, 1, 0), (11, .iload_n 1, 1, 0), (12, .invokevirtual 133, 3, 23), (15, .iconst 2, 1, 0), (16, .aload_n 0, 1, 0), (17, .getfield 82, 3, 22), (20, .iadd, 1, 0), (21, .ireturn, 1, 0)]
def r34 : List Row := [(0, .aload_n 0, 1, 0), (1, .getfield 66, 3, 4), (4, .ireturn, 1, 0)]
def prows : List (List Row) := [[], r1, r2, r3, r4, r5, r6, r7, r8, r9, r10, r11, r12, r13, r14, r15, r16, r17, r18, r19, r20, r21, r22, r23, r24, r25, r26, r27, r28, r29, [], r31, r32, r33, r34]
def pinfo : List MInfo := [(0, 0, 9, none, {}), (3, 4, 3, none, { frames := 3, cells := 13, slots := 440, locals := 57 }), (2, 2, 2, some .int, { frames := 0, cells := 0, slots := 0, locals := 0 }), (1, 4, 2, none, { frames := 0, cells := 0, slots := 0, locals := 0 }), (1, 3, 2, none, { frames := 2, cells := 0, slots := 0, locals := 43 }), (3, 5, 2, some .int, { frames := 1, cells := 0, slots := 0, locals := 25 }), (4, 14, 2, some .boolean, { frames := 0, cells := 0, slots := 0, locals := 0 }), (2, 2, 2, some .boolean, { frames := 0, cells := 0, slots := 0, locals := 0 }), (2, 2, 2, some .boolean, { frames := 0, cells := 0, slots := 0, locals := 0 }), (4, 4, 1, some .int, { frames := 1, cells := 0, slots := 0, locals := 13 }), (4, 4, 1, some .int, { frames := 1, cells := 0, slots := 0, locals := 13 }), (2, 2, 1, some .int, { frames := 1, cells := 0, slots := 0, locals := 13 }), (2, 2, 1, none, { frames := 1, cells := 0, slots := 0, locals := 14 }), (1, 1, 2, some .int, { frames := 0, cells := 0, slots := 0, locals := 0 }), (2, 3, 2, some .int, { frames := 1, cells := 0, slots := 0, locals := 12 }), (1, 4, 1, some .int, { frames := 2, cells := 0, slots := 0, locals := 28 }), (2, 2, 1, some .int, { frames := 1, cells := 0, slots := 0, locals := 13 }), (3, 3, 1, some .int, { frames := 1, cells := 0, slots := 0, locals := 13 }), (1, 5, 1, some .int, { frames := 3, cells := 0, slots := 0, locals := 55 }), (1, 2, 2, none, { frames := 0, cells := 0, slots := 0, locals := 0 }), (1, 4, 2, none, { frames := 2, cells := 0, slots := 0, locals := 40 }), (1, 2, 2, some .boolean, { frames := 0, cells := 0, slots := 0, locals := 0 }), (2, 5, 2, some .boolean, { frames := 1, cells := 0, slots := 0, locals := 13 }), (2, 5, 2, none, { frames := 0, cells := 0, slots := 0, locals := 0 }), (2, 3, 2, some .boolean, { frames := 0, cells := 0, slots := 0, locals := 0 }), (2, 3, 2, none, { frames := 0, cells := 0, slots := 0, locals := 0 }), (2, 6, 2, some .boolean, { frames := 1, cells := 0, slots := 0, locals := 16 }), (2, 9, 2, some .boolean, { frames := 1, cells := 0, slots := 0, locals := 19 }), (5, 8, 2, some .boolean, { frames := 0, cells := 0, slots := 0, locals := 0 }), (1, 1, 1, some .int, { frames := 0, cells := 0, slots := 0, locals := 0 }), (4, 5, 1, some .boolean, { frames := 1, cells := 0, slots := 0, locals := 13 }), (2, 5, 1, some .int, { frames := 1, cells := 0, slots := 0, locals := 13 }), (1, 1, 1, some .int, { frames := 0, cells := 0, slots := 0, locals := 0 }), (2, 2, 1, some .int, { frames := 2, cells := 0, slots := 0, locals := 29 }), (1, 1, 1, some .int, { frames := 0, cells := 0, slots := 0, locals := 0 })]
def pft : List FieldType := [.int, .int, .int, .int, .int, .array .int, .array .int, .array .int, .array .int, .array .int, .array .int, .array .int, .boolean, .boolean, .int, .int, .array .int, .array .int, .array .int, .array .int, .array .int, .array .int, .int]
def pj (lw : LW) : Prog := (fun m pc => if m < 100 then (prows.getD m []).lookup pc else lw.1 (m - 100) pc, fun m => if m < 100 then pinfo.getD m (0, 0, 9, none, {}) else lw.2 (m - 100), fun k => pft.getD k .int, 23)
def lay : Lay := ([(.int, 0), (.int, 0), (.int, 0), (.int, 0), (.int, 0), (.array .int, 1), (.array .int, 2), (.array .int, 3), (.array .int, 4), (.array .int, 5), (.array .int, 6), (.array .int, 7), (.boolean, 0), (.boolean, 0), (.int, 0), (.int, 0), (.array .int, 8), (.array .int, 9), (.array .int, 10), (.array .int, 11), (.array .int, 12), (.array .int, 13), (.int, 0)], [(.int, 33), (.int, 33), (.int, 33), (.int, 33), (.int, 33), (.int, 33), (.int, 33), (.int, 10), (.int, 10), (.int, 25), (.int, 100), (.int, 32), (.int, 32)])
abbrev ob (H : AH) (p : Nat) (s : St) : AH := put lay 13 H p s
section Acc
variable {H : AH} {p : Nat} {s : St} {i : Int32} {j q : Nat} {v : Int32} {w : Int64}
theorem g0 : fld (put lay j H p s) p 0 = .int (sI s 0) := fld_I (ty := .int) rfl (by decide) (by simp)
theorem s0 : wr (put lay j H p s) p 0 (.int v) = put lay j H p (uI s 0 v) := wr_I (ty := .int) rfl (by decide) (by simp)
theorem g1 : fld (put lay j H p s) p 1 = .int (sI s 1) := fld_I (ty := .int) rfl (by decide) (by simp)
theorem s1 : wr (put lay j H p s) p 1 (.int v) = put lay j H p (uI s 1 v) := wr_I (ty := .int) rfl (by decide) (by simp)
theorem g2 : fld (put lay j H p s) p 2 = .int (sI s 2) := fld_I (ty := .int) rfl (by decide) (by simp)
theorem s2 : wr (put lay j H p s) p 2 (.int v) = put lay j H p (uI s 2 v) := wr_I (ty := .int) rfl (by decide) (by simp)
theorem g3 : fld (put lay j H p s) p 3 = .int (sI s 3) := fld_I (ty := .int) rfl (by decide) (by simp)
theorem s3 : wr (put lay j H p s) p 3 (.int v) = put lay j H p (uI s 3 v) := wr_I (ty := .int) rfl (by decide) (by simp)
theorem g4 : fld (put lay j H p s) p 4 = .int (sI s 4) := fld_I (ty := .int) rfl (by decide) (by simp)
theorem s4 : wr (put lay j H p s) p 4 (.int v) = put lay j H p (uI s 4 v) := wr_I (ty := .int) rfl (by decide) (by simp)
theorem g5 : fld (ob H p s) p 5 = .ref (p + 1) := fld_R (ty := .int) rfl (by decide)
theorem g6 : fld (ob H p s) p 6 = .ref (p + 2) := fld_R (ty := .int) rfl (by decide)
theorem g7 : fld (ob H p s) p 7 = .ref (p + 3) := fld_R (ty := .int) rfl (by decide)
theorem g8 : fld (ob H p s) p 8 = .ref (p + 4) := fld_R (ty := .int) rfl (by decide)
theorem g9 : fld (ob H p s) p 9 = .ref (p + 5) := fld_R (ty := .int) rfl (by decide)
theorem g10 : fld (ob H p s) p 10 = .ref (p + 6) := fld_R (ty := .int) rfl (by decide)
theorem g11 : fld (ob H p s) p 11 = .ref (p + 7) := fld_R (ty := .int) rfl (by decide)
theorem g12 : fld (put lay j H p s) p 12 = .int (sI s 12) := fld_I (ty := .boolean) rfl (by decide) (by simp)
theorem s12 : wr (put lay j H p s) p 12 (.int v) = put lay j H p (uI s 12 v) := wr_I (ty := .boolean) rfl (by decide) (by simp)
theorem g13 : fld (put lay j H p s) p 13 = .int (sI s 13) := fld_I (ty := .boolean) rfl (by decide) (by simp)
theorem s13 : wr (put lay j H p s) p 13 (.int v) = put lay j H p (uI s 13 v) := wr_I (ty := .boolean) rfl (by decide) (by simp)
theorem g14 : fld (put lay j H p s) p 14 = .int (sI s 14) := fld_I (ty := .int) rfl (by decide) (by simp)
theorem s14 : wr (put lay j H p s) p 14 (.int v) = put lay j H p (uI s 14 v) := wr_I (ty := .int) rfl (by decide) (by simp)
theorem g15 : fld (put lay j H p s) p 15 = .int (sI s 15) := fld_I (ty := .int) rfl (by decide) (by simp)
theorem s15 : wr (put lay j H p s) p 15 (.int v) = put lay j H p (uI s 15 v) := wr_I (ty := .int) rfl (by decide) (by simp)
theorem g16 : fld (ob H p s) p 16 = .ref (p + 8) := fld_R (ty := .int) rfl (by decide)
theorem g17 : fld (ob H p s) p 17 = .ref (p + 9) := fld_R (ty := .int) rfl (by decide)
theorem g18 : fld (ob H p s) p 18 = .ref (p + 10) := fld_R (ty := .int) rfl (by decide)
theorem g19 : fld (ob H p s) p 19 = .ref (p + 11) := fld_R (ty := .int) rfl (by decide)
theorem g20 : fld (ob H p s) p 20 = .ref (p + 12) := fld_R (ty := .int) rfl (by decide)
theorem g21 : fld (ob H p s) p 21 = .ref (p + 13) := fld_R (ty := .int) rfl (by decide)
theorem g22 : fld (put lay j H p s) p 22 = .int (sI s 22) := fld_I (ty := .int) rfl (by decide) (by simp)
theorem s22 : wr (put lay j H p s) p 22 (.int v) = put lay j H p (uI s 22 v) := wr_I (ty := .int) rfl (by decide) (by simp)
theorem ai1 : inA (ob H p s) (p + 1) .int i = true ↔ (0 ≤ i.toInt ∧ i.toInt < 33) := inA_I (t := 0) rfl (by decide) (by decide)
theorem aw1 : inAw (ob H p s) (p + 1) .int i = true ↔ (0 ≤ i.toInt ∧ i.toInt < 33) := inAw_I (t := 0) rfl (by decide) (by decide)
theorem ae1 : elt (ob H p s) (p + 1) i = .int (sA s 1 i.toNatClampNeg) := elt_I (t := 0) (ty := .int) rfl (by decide) (by decide)
theorem as1 : wr (ob H p s) (p + 1) q (.int v) = ob H p (uA s 1 q v) := wr_A (t := 0) (ty := .int) rfl (by decide) (by decide)
theorem ai2 : inA (ob H p s) (p + 2) .int i = true ↔ (0 ≤ i.toInt ∧ i.toInt < 33) := inA_I (t := 1) rfl (by decide) (by decide)
theorem aw2 : inAw (ob H p s) (p + 2) .int i = true ↔ (0 ≤ i.toInt ∧ i.toInt < 33) := inAw_I (t := 1) rfl (by decide) (by decide)
theorem ae2 : elt (ob H p s) (p + 2) i = .int (sA s 2 i.toNatClampNeg) := elt_I (t := 1) (ty := .int) rfl (by decide) (by decide)
theorem as2 : wr (ob H p s) (p + 2) q (.int v) = ob H p (uA s 2 q v) := wr_A (t := 1) (ty := .int) rfl (by decide) (by decide)
theorem ai3 : inA (ob H p s) (p + 3) .int i = true ↔ (0 ≤ i.toInt ∧ i.toInt < 33) := inA_I (t := 2) rfl (by decide) (by decide)
theorem aw3 : inAw (ob H p s) (p + 3) .int i = true ↔ (0 ≤ i.toInt ∧ i.toInt < 33) := inAw_I (t := 2) rfl (by decide) (by decide)
theorem ae3 : elt (ob H p s) (p + 3) i = .int (sA s 3 i.toNatClampNeg) := elt_I (t := 2) (ty := .int) rfl (by decide) (by decide)
theorem as3 : wr (ob H p s) (p + 3) q (.int v) = ob H p (uA s 3 q v) := wr_A (t := 2) (ty := .int) rfl (by decide) (by decide)
theorem ai4 : inA (ob H p s) (p + 4) .int i = true ↔ (0 ≤ i.toInt ∧ i.toInt < 33) := inA_I (t := 3) rfl (by decide) (by decide)
theorem aw4 : inAw (ob H p s) (p + 4) .int i = true ↔ (0 ≤ i.toInt ∧ i.toInt < 33) := inAw_I (t := 3) rfl (by decide) (by decide)
theorem ae4 : elt (ob H p s) (p + 4) i = .int (sA s 4 i.toNatClampNeg) := elt_I (t := 3) (ty := .int) rfl (by decide) (by decide)
theorem as4 : wr (ob H p s) (p + 4) q (.int v) = ob H p (uA s 4 q v) := wr_A (t := 3) (ty := .int) rfl (by decide) (by decide)
theorem ai5 : inA (ob H p s) (p + 5) .int i = true ↔ (0 ≤ i.toInt ∧ i.toInt < 33) := inA_I (t := 4) rfl (by decide) (by decide)
theorem aw5 : inAw (ob H p s) (p + 5) .int i = true ↔ (0 ≤ i.toInt ∧ i.toInt < 33) := inAw_I (t := 4) rfl (by decide) (by decide)
theorem ae5 : elt (ob H p s) (p + 5) i = .int (sA s 5 i.toNatClampNeg) := elt_I (t := 4) (ty := .int) rfl (by decide) (by decide)
theorem as5 : wr (ob H p s) (p + 5) q (.int v) = ob H p (uA s 5 q v) := wr_A (t := 4) (ty := .int) rfl (by decide) (by decide)
theorem ai6 : inA (ob H p s) (p + 6) .int i = true ↔ (0 ≤ i.toInt ∧ i.toInt < 33) := inA_I (t := 5) rfl (by decide) (by decide)
theorem aw6 : inAw (ob H p s) (p + 6) .int i = true ↔ (0 ≤ i.toInt ∧ i.toInt < 33) := inAw_I (t := 5) rfl (by decide) (by decide)
theorem ae6 : elt (ob H p s) (p + 6) i = .int (sA s 6 i.toNatClampNeg) := elt_I (t := 5) (ty := .int) rfl (by decide) (by decide)
theorem as6 : wr (ob H p s) (p + 6) q (.int v) = ob H p (uA s 6 q v) := wr_A (t := 5) (ty := .int) rfl (by decide) (by decide)
theorem ai7 : inA (ob H p s) (p + 7) .int i = true ↔ (0 ≤ i.toInt ∧ i.toInt < 33) := inA_I (t := 6) rfl (by decide) (by decide)
theorem aw7 : inAw (ob H p s) (p + 7) .int i = true ↔ (0 ≤ i.toInt ∧ i.toInt < 33) := inAw_I (t := 6) rfl (by decide) (by decide)
theorem ae7 : elt (ob H p s) (p + 7) i = .int (sA s 7 i.toNatClampNeg) := elt_I (t := 6) (ty := .int) rfl (by decide) (by decide)
theorem as7 : wr (ob H p s) (p + 7) q (.int v) = ob H p (uA s 7 q v) := wr_A (t := 6) (ty := .int) rfl (by decide) (by decide)
theorem ai8 : inA (ob H p s) (p + 8) .int i = true ↔ (0 ≤ i.toInt ∧ i.toInt < 10) := inA_I (t := 7) rfl (by decide) (by decide)
theorem aw8 : inAw (ob H p s) (p + 8) .int i = true ↔ (0 ≤ i.toInt ∧ i.toInt < 10) := inAw_I (t := 7) rfl (by decide) (by decide)
theorem ae8 : elt (ob H p s) (p + 8) i = .int (sA s 8 i.toNatClampNeg) := elt_I (t := 7) (ty := .int) rfl (by decide) (by decide)
theorem as8 : wr (ob H p s) (p + 8) q (.int v) = ob H p (uA s 8 q v) := wr_A (t := 7) (ty := .int) rfl (by decide) (by decide)
theorem ai9 : inA (ob H p s) (p + 9) .int i = true ↔ (0 ≤ i.toInt ∧ i.toInt < 10) := inA_I (t := 8) rfl (by decide) (by decide)
theorem aw9 : inAw (ob H p s) (p + 9) .int i = true ↔ (0 ≤ i.toInt ∧ i.toInt < 10) := inAw_I (t := 8) rfl (by decide) (by decide)
theorem ae9 : elt (ob H p s) (p + 9) i = .int (sA s 9 i.toNatClampNeg) := elt_I (t := 8) (ty := .int) rfl (by decide) (by decide)
theorem as9 : wr (ob H p s) (p + 9) q (.int v) = ob H p (uA s 9 q v) := wr_A (t := 8) (ty := .int) rfl (by decide) (by decide)
theorem ai10 : inA (ob H p s) (p + 10) .int i = true ↔ (0 ≤ i.toInt ∧ i.toInt < 25) := inA_I (t := 9) rfl (by decide) (by decide)
theorem aw10 : inAw (ob H p s) (p + 10) .int i = true ↔ (0 ≤ i.toInt ∧ i.toInt < 25) := inAw_I (t := 9) rfl (by decide) (by decide)
theorem ae10 : elt (ob H p s) (p + 10) i = .int (sA s 10 i.toNatClampNeg) := elt_I (t := 9) (ty := .int) rfl (by decide) (by decide)
theorem as10 : wr (ob H p s) (p + 10) q (.int v) = ob H p (uA s 10 q v) := wr_A (t := 9) (ty := .int) rfl (by decide) (by decide)
theorem ai11 : inA (ob H p s) (p + 11) .int i = true ↔ (0 ≤ i.toInt ∧ i.toInt < 100) := inA_I (t := 10) rfl (by decide) (by decide)
theorem aw11 : inAw (ob H p s) (p + 11) .int i = true ↔ (0 ≤ i.toInt ∧ i.toInt < 100) := inAw_I (t := 10) rfl (by decide) (by decide)
theorem ae11 : elt (ob H p s) (p + 11) i = .int (sA s 11 i.toNatClampNeg) := elt_I (t := 10) (ty := .int) rfl (by decide) (by decide)
theorem as11 : wr (ob H p s) (p + 11) q (.int v) = ob H p (uA s 11 q v) := wr_A (t := 10) (ty := .int) rfl (by decide) (by decide)
theorem ai12 : inA (ob H p s) (p + 12) .int i = true ↔ (0 ≤ i.toInt ∧ i.toInt < 32) := inA_I (t := 11) rfl (by decide) (by decide)
theorem aw12 : inAw (ob H p s) (p + 12) .int i = true ↔ (0 ≤ i.toInt ∧ i.toInt < 32) := inAw_I (t := 11) rfl (by decide) (by decide)
theorem ae12 : elt (ob H p s) (p + 12) i = .int (sA s 12 i.toNatClampNeg) := elt_I (t := 11) (ty := .int) rfl (by decide) (by decide)
theorem as12 : wr (ob H p s) (p + 12) q (.int v) = ob H p (uA s 12 q v) := wr_A (t := 11) (ty := .int) rfl (by decide) (by decide)
theorem ai13 : inA (ob H p s) (p + 13) .int i = true ↔ (0 ≤ i.toInt ∧ i.toInt < 32) := inA_I (t := 12) rfl (by decide) (by decide)
theorem aw13 : inAw (ob H p s) (p + 13) .int i = true ↔ (0 ≤ i.toInt ∧ i.toInt < 32) := inAw_I (t := 12) rfl (by decide) (by decide)
theorem ae13 : elt (ob H p s) (p + 13) i = .int (sA s 13 i.toNatClampNeg) := elt_I (t := 12) (ty := .int) rfl (by decide) (by decide)
theorem as13 : wr (ob H p s) (p + 13) q (.int v) = ob H p (uA s 13 q v) := wr_A (t := 12) (ty := .int) rfl (by decide) (by decide)
theorem mkO_ob {lw : LW} : mkO (pj lw) H = put lay 0 (H.1 + 1, H.2) H.1 z0 := mkO_put rfl (fun k => match k with | 0 => rfl | 1 => rfl | 2 => rfl | 3 => rfl | 4 => rfl | 5 => rfl | 6 => rfl | 7 => rfl | 8 => rfl | 9 => rfl | 10 => rfl | 11 => rfl | 12 => rfl | 13 => rfl | 14 => rfl | 15 => rfl | 16 => rfl | 17 => rfl | 18 => rfl | 19 => rfl | 20 => rfl | 21 => rfl | 22 => rfl | (_ + 23) => rfl)
theorem mk1 {h : Nat → Cel} (hz : zr s 1) : wr (mkA .int 33 (put lay 0 (p + 1, h) p s)) p 5 (.ref (p + 1)) = put lay 1 (p + 2, h) p s := mkA_put (j := 0) rfl rfl (by decide) hz.1 hz.2 (Or.inl rfl)
theorem io1 {h : Nat → Cel} : isOw (mkA .int 33 (put lay 0 (p + 1, h) p s)) p = true := isOw_mk (c := 0)
theorem mk2 {h : Nat → Cel} (hz : zr s 2) : wr (mkA .int 33 (put lay 1 (p + 2, h) p s)) p 6 (.ref (p + 2)) = put lay 2 (p + 3, h) p s := mkA_put (j := 1) rfl rfl (by decide) hz.1 hz.2 (Or.inl rfl)
theorem io2 {h : Nat → Cel} : isOw (mkA .int 33 (put lay 1 (p + 2, h) p s)) p = true := isOw_mk (c := 1)
theorem mk3 {h : Nat → Cel} (hz : zr s 3) : wr (mkA .int 33 (put lay 2 (p + 3, h) p s)) p 7 (.ref (p + 3)) = put lay 3 (p + 4, h) p s := mkA_put (j := 2) rfl rfl (by decide) hz.1 hz.2 (Or.inl rfl)
theorem io3 {h : Nat → Cel} : isOw (mkA .int 33 (put lay 2 (p + 3, h) p s)) p = true := isOw_mk (c := 2)
theorem mk4 {h : Nat → Cel} (hz : zr s 4) : wr (mkA .int 33 (put lay 3 (p + 4, h) p s)) p 8 (.ref (p + 4)) = put lay 4 (p + 5, h) p s := mkA_put (j := 3) rfl rfl (by decide) hz.1 hz.2 (Or.inl rfl)
theorem io4 {h : Nat → Cel} : isOw (mkA .int 33 (put lay 3 (p + 4, h) p s)) p = true := isOw_mk (c := 3)
theorem mk5 {h : Nat → Cel} (hz : zr s 5) : wr (mkA .int 33 (put lay 4 (p + 5, h) p s)) p 9 (.ref (p + 5)) = put lay 5 (p + 6, h) p s := mkA_put (j := 4) rfl rfl (by decide) hz.1 hz.2 (Or.inl rfl)
theorem io5 {h : Nat → Cel} : isOw (mkA .int 33 (put lay 4 (p + 5, h) p s)) p = true := isOw_mk (c := 4)
theorem mk6 {h : Nat → Cel} (hz : zr s 6) : wr (mkA .int 33 (put lay 5 (p + 6, h) p s)) p 10 (.ref (p + 6)) = put lay 6 (p + 7, h) p s := mkA_put (j := 5) rfl rfl (by decide) hz.1 hz.2 (Or.inl rfl)
theorem io6 {h : Nat → Cel} : isOw (mkA .int 33 (put lay 5 (p + 6, h) p s)) p = true := isOw_mk (c := 5)
theorem mk7 {h : Nat → Cel} (hz : zr s 7) : wr (mkA .int 33 (put lay 6 (p + 7, h) p s)) p 11 (.ref (p + 7)) = put lay 7 (p + 8, h) p s := mkA_put (j := 6) rfl rfl (by decide) hz.1 hz.2 (Or.inl rfl)
theorem io7 {h : Nat → Cel} : isOw (mkA .int 33 (put lay 6 (p + 7, h) p s)) p = true := isOw_mk (c := 6)
theorem mk8 {h : Nat → Cel} (hz : zr s 8) : wr (mkA .int 10 (put lay 7 (p + 8, h) p s)) p 16 (.ref (p + 8)) = put lay 8 (p + 9, h) p s := mkA_put (j := 7) rfl rfl (by decide) hz.1 hz.2 (Or.inl rfl)
theorem io8 {h : Nat → Cel} : isOw (mkA .int 10 (put lay 7 (p + 8, h) p s)) p = true := isOw_mk (c := 7)
theorem mk9 {h : Nat → Cel} (hz : zr s 9) : wr (mkA .int 10 (put lay 8 (p + 9, h) p s)) p 17 (.ref (p + 9)) = put lay 9 (p + 10, h) p s := mkA_put (j := 8) rfl rfl (by decide) hz.1 hz.2 (Or.inl rfl)
theorem io9 {h : Nat → Cel} : isOw (mkA .int 10 (put lay 8 (p + 9, h) p s)) p = true := isOw_mk (c := 8)
theorem mk10 {h : Nat → Cel} (hz : zr s 10) : wr (mkA .int 25 (put lay 9 (p + 10, h) p s)) p 18 (.ref (p + 10)) = put lay 10 (p + 11, h) p s := mkA_put (j := 9) rfl rfl (by decide) hz.1 hz.2 (Or.inl rfl)
theorem io10 {h : Nat → Cel} : isOw (mkA .int 25 (put lay 9 (p + 10, h) p s)) p = true := isOw_mk (c := 9)
theorem mk11 {h : Nat → Cel} (hz : zr s 11) : wr (mkA .int 100 (put lay 10 (p + 11, h) p s)) p 19 (.ref (p + 11)) = put lay 11 (p + 12, h) p s := mkA_put (j := 10) rfl rfl (by decide) hz.1 hz.2 (Or.inl rfl)
theorem io11 {h : Nat → Cel} : isOw (mkA .int 100 (put lay 10 (p + 11, h) p s)) p = true := isOw_mk (c := 10)
theorem mk12 {h : Nat → Cel} (hz : zr s 12) : wr (mkA .int 32 (put lay 11 (p + 12, h) p s)) p 20 (.ref (p + 12)) = put lay 12 (p + 13, h) p s := mkA_put (j := 11) rfl rfl (by decide) hz.1 hz.2 (Or.inl rfl)
theorem io12 {h : Nat → Cel} : isOw (mkA .int 32 (put lay 11 (p + 12, h) p s)) p = true := isOw_mk (c := 11)
theorem mk13 {h : Nat → Cel} (hz : zr s 13) : wr (mkA .int 32 (put lay 12 (p + 13, h) p s)) p 21 (.ref (p + 13)) = put lay 13 (p + 14, h) p s := mkA_put (j := 12) rfl rfl (by decide) hz.1 hz.2 (Or.inl rfl)
theorem io13 {h : Nat → Cel} : isOw (mkA .int 32 (put lay 12 (p + 13, h) p s)) p = true := isOw_mk (c := 12)
end Acc
section Pc
variable {lw : LW} {L : List Slot} {S : List Value} {k n : Nat} {H : AH} {Q : Option Value → AH → Prop}
theorem c1 {x0 : Nat} {x1 : Int32} {x2 : Int32} : Cl (pj lw) 1 [.ref x0, .int x1, .int x2] H Q ↔ W (pj lw) 1 0 [.val (.ref x0), .val (.int x1), .val (.int x2), .unset] [] 0 0 H Q := cl_unf rfl
theorem w1_0 {x : Nat} : W (pj lw) 1 0 (.val (.ref x) :: L) S k n H Q ↔ W (pj lw) 1 1 (.val (.ref x) :: L) (.ref x :: S) k n H Q := W_s (rfl : (pj lw).1 1 0 = some (.aload_n 0, 1, 0)) rfl rfl rfl
theorem w1_1 {a : Nat} : W (pj lw) 1 1 L (.ref a :: S) k n H Q ↔ ((1 ≤ 3 ∧ cs S + 12 ≤ 57) ∧ W (pj lw) 1 4 L S k n H Q) := W_oinit (rfl : (pj lw).1 1 1 = some (.invokespecial 1, 3, (-1)))
theorem w1_4 {x : Nat} : W (pj lw) 1 4 (.val (.ref x) :: L) S k n H Q ↔ W (pj lw) 1 5 (.val (.ref x) :: L) (.ref x :: S) k n H Q := W_s (rfl : (pj lw).1 1 4 = some (.aload_n 0, 1, 0)) rfl rfl rfl
theorem w1_5 : W (pj lw) 1 5 L S k n H Q ↔ W (pj lw) 1 7 L (.int 33 :: S) k n H Q := W_s (rfl : (pj lw).1 1 5 = some (.bipush 33, 2, 0)) rfl rfl rfl
theorem w1_7 : W (pj lw) 1 7 L (.int 33 :: S) k n H Q ↔ ((k + 1 ≤ 13 ∧ n + 33 ≤ 440) ∧ W (pj lw) 1 9 L (.ref H.1 :: S) (k + 1) (n + 33) (mkA .int 33 H) Q) := W_newarr' (rfl : (pj lw).1 1 7 = some (.newarray .int, 2, 0)) rfl (by decide) (by decide)
theorem w1_9 {a : Nat} {v : Value} : W (pj lw) 1 9 L (v :: .ref a :: S) k n H Q ↔ ((isOw H a = true ∧ okv (.array .int) v = true) ∧ W (pj lw) 1 12 L S k n (wr H a 5 v) Q) := W_putf (rfl : (pj lw).1 1 9 = some (.putfield 7, 3, 5))
theorem w1_12 {x : Nat} : W (pj lw) 1 12 (.val (.ref x) :: L) S k n H Q ↔ W (pj lw) 1 13 (.val (.ref x) :: L) (.ref x :: S) k n H Q := W_s (rfl : (pj lw).1 1 12 = some (.aload_n 0, 1, 0)) rfl rfl rfl
theorem w1_13 : W (pj lw) 1 13 L S k n H Q ↔ W (pj lw) 1 15 L (.int 33 :: S) k n H Q := W_s (rfl : (pj lw).1 1 13 = some (.bipush 33, 2, 0)) rfl rfl rfl
theorem w1_15 : W (pj lw) 1 15 L (.int 33 :: S) k n H Q ↔ ((k + 1 ≤ 13 ∧ n + 33 ≤ 440) ∧ W (pj lw) 1 17 L (.ref H.1 :: S) (k + 1) (n + 33) (mkA .int 33 H) Q) := W_newarr' (rfl : (pj lw).1 1 15 = some (.newarray .int, 2, 0)) rfl (by decide) (by decide)
theorem w1_17 {a : Nat} {v : Value} : W (pj lw) 1 17 L (v :: .ref a :: S) k n H Q ↔ ((isOw H a = true ∧ okv (.array .int) v = true) ∧ W (pj lw) 1 20 L S k n (wr H a 6 v) Q) := W_putf (rfl : (pj lw).1 1 17 = some (.putfield 13, 3, 6))
theorem w1_20 {x : Nat} : W (pj lw) 1 20 (.val (.ref x) :: L) S k n H Q ↔ W (pj lw) 1 21 (.val (.ref x) :: L) (.ref x :: S) k n H Q := W_s (rfl : (pj lw).1 1 20 = some (.aload_n 0, 1, 0)) rfl rfl rfl
theorem w1_21 : W (pj lw) 1 21 L S k n H Q ↔ W (pj lw) 1 23 L (.int 33 :: S) k n H Q := W_s (rfl : (pj lw).1 1 21 = some (.bipush 33, 2, 0)) rfl rfl rfl
theorem w1_23 : W (pj lw) 1 23 L (.int 33 :: S) k n H Q ↔ ((k + 1 ≤ 13 ∧ n + 33 ≤ 440) ∧ W (pj lw) 1 25 L (.ref H.1 :: S) (k + 1) (n + 33) (mkA .int 33 H) Q) := W_newarr' (rfl : (pj lw).1 1 23 = some (.newarray .int, 2, 0)) rfl (by decide) (by decide)
theorem w1_25 {a : Nat} {v : Value} : W (pj lw) 1 25 L (v :: .ref a :: S) k n H Q ↔ ((isOw H a = true ∧ okv (.array .int) v = true) ∧ W (pj lw) 1 28 L S k n (wr H a 7 v) Q) := W_putf (rfl : (pj lw).1 1 25 = some (.putfield 16, 3, 7))
theorem w1_28 {x : Nat} : W (pj lw) 1 28 (.val (.ref x) :: L) S k n H Q ↔ W (pj lw) 1 29 (.val (.ref x) :: L) (.ref x :: S) k n H Q := W_s (rfl : (pj lw).1 1 28 = some (.aload_n 0, 1, 0)) rfl rfl rfl
theorem w1_29 : W (pj lw) 1 29 L S k n H Q ↔ W (pj lw) 1 31 L (.int 33 :: S) k n H Q := W_s (rfl : (pj lw).1 1 29 = some (.bipush 33, 2, 0)) rfl rfl rfl
theorem w1_31 : W (pj lw) 1 31 L (.int 33 :: S) k n H Q ↔ ((k + 1 ≤ 13 ∧ n + 33 ≤ 440) ∧ W (pj lw) 1 33 L (.ref H.1 :: S) (k + 1) (n + 33) (mkA .int 33 H) Q) := W_newarr' (rfl : (pj lw).1 1 31 = some (.newarray .int, 2, 0)) rfl (by decide) (by decide)
theorem w1_33 {a : Nat} {v : Value} : W (pj lw) 1 33 L (v :: .ref a :: S) k n H Q ↔ ((isOw H a = true ∧ okv (.array .int) v = true) ∧ W (pj lw) 1 36 L S k n (wr H a 8 v) Q) := W_putf (rfl : (pj lw).1 1 33 = some (.putfield 19, 3, 8))
theorem w1_36 {x : Nat} : W (pj lw) 1 36 (.val (.ref x) :: L) S k n H Q ↔ W (pj lw) 1 37 (.val (.ref x) :: L) (.ref x :: S) k n H Q := W_s (rfl : (pj lw).1 1 36 = some (.aload_n 0, 1, 0)) rfl rfl rfl
theorem w1_37 : W (pj lw) 1 37 L S k n H Q ↔ W (pj lw) 1 39 L (.int 33 :: S) k n H Q := W_s (rfl : (pj lw).1 1 37 = some (.bipush 33, 2, 0)) rfl rfl rfl
theorem w1_39 : W (pj lw) 1 39 L (.int 33 :: S) k n H Q ↔ ((k + 1 ≤ 13 ∧ n + 33 ≤ 440) ∧ W (pj lw) 1 41 L (.ref H.1 :: S) (k + 1) (n + 33) (mkA .int 33 H) Q) := W_newarr' (rfl : (pj lw).1 1 39 = some (.newarray .int, 2, 0)) rfl (by decide) (by decide)
theorem w1_41 {a : Nat} {v : Value} : W (pj lw) 1 41 L (v :: .ref a :: S) k n H Q ↔ ((isOw H a = true ∧ okv (.array .int) v = true) ∧ W (pj lw) 1 44 L S k n (wr H a 9 v) Q) := W_putf (rfl : (pj lw).1 1 41 = some (.putfield 22, 3, 9))
theorem w1_44 {x : Nat} : W (pj lw) 1 44 (.val (.ref x) :: L) S k n H Q ↔ W (pj lw) 1 45 (.val (.ref x) :: L) (.ref x :: S) k n H Q := W_s (rfl : (pj lw).1 1 44 = some (.aload_n 0, 1, 0)) rfl rfl rfl
theorem w1_45 : W (pj lw) 1 45 L S k n H Q ↔ W (pj lw) 1 47 L (.int 33 :: S) k n H Q := W_s (rfl : (pj lw).1 1 45 = some (.bipush 33, 2, 0)) rfl rfl rfl
theorem w1_47 : W (pj lw) 1 47 L (.int 33 :: S) k n H Q ↔ ((k + 1 ≤ 13 ∧ n + 33 ≤ 440) ∧ W (pj lw) 1 49 L (.ref H.1 :: S) (k + 1) (n + 33) (mkA .int 33 H) Q) := W_newarr' (rfl : (pj lw).1 1 47 = some (.newarray .int, 2, 0)) rfl (by decide) (by decide)
theorem w1_49 {a : Nat} {v : Value} : W (pj lw) 1 49 L (v :: .ref a :: S) k n H Q ↔ ((isOw H a = true ∧ okv (.array .int) v = true) ∧ W (pj lw) 1 52 L S k n (wr H a 10 v) Q) := W_putf (rfl : (pj lw).1 1 49 = some (.putfield 25, 3, 10))
theorem w1_52 {x : Nat} : W (pj lw) 1 52 (.val (.ref x) :: L) S k n H Q ↔ W (pj lw) 1 53 (.val (.ref x) :: L) (.ref x :: S) k n H Q := W_s (rfl : (pj lw).1 1 52 = some (.aload_n 0, 1, 0)) rfl rfl rfl
theorem w1_53 : W (pj lw) 1 53 L S k n H Q ↔ W (pj lw) 1 55 L (.int 33 :: S) k n H Q := W_s (rfl : (pj lw).1 1 53 = some (.bipush 33, 2, 0)) rfl rfl rfl
theorem w1_55 : W (pj lw) 1 55 L (.int 33 :: S) k n H Q ↔ ((k + 1 ≤ 13 ∧ n + 33 ≤ 440) ∧ W (pj lw) 1 57 L (.ref H.1 :: S) (k + 1) (n + 33) (mkA .int 33 H) Q) := W_newarr' (rfl : (pj lw).1 1 55 = some (.newarray .int, 2, 0)) rfl (by decide) (by decide)
theorem w1_57 {a : Nat} {v : Value} : W (pj lw) 1 57 L (v :: .ref a :: S) k n H Q ↔ ((isOw H a = true ∧ okv (.array .int) v = true) ∧ W (pj lw) 1 60 L S k n (wr H a 11 v) Q) := W_putf (rfl : (pj lw).1 1 57 = some (.putfield 28, 3, 11))
theorem w1_60 {x : Nat} : W (pj lw) 1 60 (.val (.ref x) :: L) S k n H Q ↔ W (pj lw) 1 61 (.val (.ref x) :: L) (.ref x :: S) k n H Q := W_s (rfl : (pj lw).1 1 60 = some (.aload_n 0, 1, 0)) rfl rfl rfl
theorem w1_61 : W (pj lw) 1 61 L S k n H Q ↔ W (pj lw) 1 63 L (.int 10 :: S) k n H Q := W_s (rfl : (pj lw).1 1 61 = some (.bipush 10, 2, 0)) rfl rfl rfl
theorem w1_63 : W (pj lw) 1 63 L (.int 10 :: S) k n H Q ↔ ((k + 1 ≤ 13 ∧ n + 10 ≤ 440) ∧ W (pj lw) 1 65 L (.ref H.1 :: S) (k + 1) (n + 10) (mkA .int 10 H) Q) := W_newarr' (rfl : (pj lw).1 1 63 = some (.newarray .int, 2, 0)) rfl (by decide) (by decide)
theorem w1_65 {a : Nat} {v : Value} : W (pj lw) 1 65 L (v :: .ref a :: S) k n H Q ↔ ((isOw H a = true ∧ okv (.array .int) v = true) ∧ W (pj lw) 1 68 L S k n (wr H a 16 v) Q) := W_putf (rfl : (pj lw).1 1 65 = some (.putfield 31, 3, 16))
theorem w1_68 {x : Nat} : W (pj lw) 1 68 (.val (.ref x) :: L) S k n H Q ↔ W (pj lw) 1 69 (.val (.ref x) :: L) (.ref x :: S) k n H Q := W_s (rfl : (pj lw).1 1 68 = some (.aload_n 0, 1, 0)) rfl rfl rfl
theorem w1_69 : W (pj lw) 1 69 L S k n H Q ↔ W (pj lw) 1 71 L (.int 10 :: S) k n H Q := W_s (rfl : (pj lw).1 1 69 = some (.bipush 10, 2, 0)) rfl rfl rfl
theorem w1_71 : W (pj lw) 1 71 L (.int 10 :: S) k n H Q ↔ ((k + 1 ≤ 13 ∧ n + 10 ≤ 440) ∧ W (pj lw) 1 73 L (.ref H.1 :: S) (k + 1) (n + 10) (mkA .int 10 H) Q) := W_newarr' (rfl : (pj lw).1 1 71 = some (.newarray .int, 2, 0)) rfl (by decide) (by decide)
theorem w1_73 {a : Nat} {v : Value} : W (pj lw) 1 73 L (v :: .ref a :: S) k n H Q ↔ ((isOw H a = true ∧ okv (.array .int) v = true) ∧ W (pj lw) 1 76 L S k n (wr H a 17 v) Q) := W_putf (rfl : (pj lw).1 1 73 = some (.putfield 34, 3, 17))
theorem w1_76 {x : Nat} : W (pj lw) 1 76 (.val (.ref x) :: L) S k n H Q ↔ W (pj lw) 1 77 (.val (.ref x) :: L) (.ref x :: S) k n H Q := W_s (rfl : (pj lw).1 1 76 = some (.aload_n 0, 1, 0)) rfl rfl rfl
theorem w1_77 : W (pj lw) 1 77 L S k n H Q ↔ W (pj lw) 1 79 L (.int 25 :: S) k n H Q := W_s (rfl : (pj lw).1 1 77 = some (.bipush 25, 2, 0)) rfl rfl rfl
theorem w1_79 : W (pj lw) 1 79 L (.int 25 :: S) k n H Q ↔ ((k + 1 ≤ 13 ∧ n + 25 ≤ 440) ∧ W (pj lw) 1 81 L (.ref H.1 :: S) (k + 1) (n + 25) (mkA .int 25 H) Q) := W_newarr' (rfl : (pj lw).1 1 79 = some (.newarray .int, 2, 0)) rfl (by decide) (by decide)
theorem w1_81 {a : Nat} {v : Value} : W (pj lw) 1 81 L (v :: .ref a :: S) k n H Q ↔ ((isOw H a = true ∧ okv (.array .int) v = true) ∧ W (pj lw) 1 84 L S k n (wr H a 18 v) Q) := W_putf (rfl : (pj lw).1 1 81 = some (.putfield 37, 3, 18))
theorem w1_84 {x : Nat} : W (pj lw) 1 84 (.val (.ref x) :: L) S k n H Q ↔ W (pj lw) 1 85 (.val (.ref x) :: L) (.ref x :: S) k n H Q := W_s (rfl : (pj lw).1 1 84 = some (.aload_n 0, 1, 0)) rfl rfl rfl
theorem w1_85 : W (pj lw) 1 85 L S k n H Q ↔ W (pj lw) 1 87 L (.int 100 :: S) k n H Q := W_s (rfl : (pj lw).1 1 85 = some (.bipush 100, 2, 0)) rfl rfl rfl
theorem w1_87 : W (pj lw) 1 87 L (.int 100 :: S) k n H Q ↔ ((k + 1 ≤ 13 ∧ n + 100 ≤ 440) ∧ W (pj lw) 1 89 L (.ref H.1 :: S) (k + 1) (n + 100) (mkA .int 100 H) Q) := W_newarr' (rfl : (pj lw).1 1 87 = some (.newarray .int, 2, 0)) rfl (by decide) (by decide)
theorem w1_89 {a : Nat} {v : Value} : W (pj lw) 1 89 L (v :: .ref a :: S) k n H Q ↔ ((isOw H a = true ∧ okv (.array .int) v = true) ∧ W (pj lw) 1 92 L S k n (wr H a 19 v) Q) := W_putf (rfl : (pj lw).1 1 89 = some (.putfield 40, 3, 19))
theorem w1_92 {x : Nat} : W (pj lw) 1 92 (.val (.ref x) :: L) S k n H Q ↔ W (pj lw) 1 93 (.val (.ref x) :: L) (.ref x :: S) k n H Q := W_s (rfl : (pj lw).1 1 92 = some (.aload_n 0, 1, 0)) rfl rfl rfl
theorem w1_93 : W (pj lw) 1 93 L S k n H Q ↔ W (pj lw) 1 95 L (.int 32 :: S) k n H Q := W_s (rfl : (pj lw).1 1 93 = some (.bipush 32, 2, 0)) rfl rfl rfl
theorem w1_95 : W (pj lw) 1 95 L (.int 32 :: S) k n H Q ↔ ((k + 1 ≤ 13 ∧ n + 32 ≤ 440) ∧ W (pj lw) 1 97 L (.ref H.1 :: S) (k + 1) (n + 32) (mkA .int 32 H) Q) := W_newarr' (rfl : (pj lw).1 1 95 = some (.newarray .int, 2, 0)) rfl (by decide) (by decide)
theorem w1_97 {a : Nat} {v : Value} : W (pj lw) 1 97 L (v :: .ref a :: S) k n H Q ↔ ((isOw H a = true ∧ okv (.array .int) v = true) ∧ W (pj lw) 1 100 L S k n (wr H a 20 v) Q) := W_putf (rfl : (pj lw).1 1 97 = some (.putfield 43, 3, 20))
theorem w1_100 {x : Nat} : W (pj lw) 1 100 (.val (.ref x) :: L) S k n H Q ↔ W (pj lw) 1 101 (.val (.ref x) :: L) (.ref x :: S) k n H Q := W_s (rfl : (pj lw).1 1 100 = some (.aload_n 0, 1, 0)) rfl rfl rfl
theorem w1_101 : W (pj lw) 1 101 L S k n H Q ↔ W (pj lw) 1 103 L (.int 32 :: S) k n H Q := W_s (rfl : (pj lw).1 1 101 = some (.bipush 32, 2, 0)) rfl rfl rfl
theorem w1_103 : W (pj lw) 1 103 L (.int 32 :: S) k n H Q ↔ ((k + 1 ≤ 13 ∧ n + 32 ≤ 440) ∧ W (pj lw) 1 105 L (.ref H.1 :: S) (k + 1) (n + 32) (mkA .int 32 H) Q) := W_newarr' (rfl : (pj lw).1 1 103 = some (.newarray .int, 2, 0)) rfl (by decide) (by decide)
theorem w1_105 {a : Nat} {v : Value} : W (pj lw) 1 105 L (v :: .ref a :: S) k n H Q ↔ ((isOw H a = true ∧ okv (.array .int) v = true) ∧ W (pj lw) 1 108 L S k n (wr H a 21 v) Q) := W_putf (rfl : (pj lw).1 1 105 = some (.putfield 46, 3, 21))
theorem w1_108 {x : Int32} {l0 : Slot} : W (pj lw) 1 108 (l0 :: .val (.int x) :: L) S k n H Q ↔ W (pj lw) 1 109 (l0 :: .val (.int x) :: L) (.int x :: S) k n H Q := W_s (rfl : (pj lw).1 1 108 = some (.iload_n 1, 1, 0)) rfl rfl rfl
theorem w1_109 {x : Int32} {l0 l1 l2 : Slot} : W (pj lw) 1 109 (l0 :: l1 :: l2 :: .unset :: L) (.int x :: S) k n H Q ↔ W (pj lw) 1 110 (l0 :: l1 :: l2 :: .val (.int x) :: L) S k n H Q := W_istn (rfl : (pj lw).1 1 109 = some (.istore_n 3, 1, 0)) rfl rfl
theorem w1_110 {x : Int32} {l0 l1 l2 : Slot} : W (pj lw) 1 110 (l0 :: l1 :: l2 :: .val (.int x) :: L) S k n H Q ↔ W (pj lw) 1 111 (l0 :: l1 :: l2 :: .val (.int x) :: L) (.int x :: S) k n H Q := W_s (rfl : (pj lw).1 1 110 = some (.iload_n 3, 1, 0)) rfl rfl rfl
theorem w1_111 : W (pj lw) 1 111 L S k n H Q ↔ W (pj lw) 1 112 L (.int 2 :: S) k n H Q := W_s (rfl : (pj lw).1 1 111 = some (.iconst 2, 1, 0)) rfl rfl rfl
theorem w1_112 {x y : Int32} : W (pj lw) 1 112 L (.int y :: .int x :: S) k n H Q ↔ (if x < y then W (pj lw) 1 115 L S k n H Q else W (pj lw) 1 117 L S k n H Q) := W_icmp_ge (rfl : (pj lw).1 1 112 = some (.if_icmp .ge 5, 3, 0)) rfl
theorem w1_115 : W (pj lw) 1 115 L S k n H Q ↔ W (pj lw) 1 116 L (.int 2 :: S) k n H Q := W_s (rfl : (pj lw).1 1 115 = some (.iconst 2, 1, 0)) rfl rfl rfl
theorem w1_116i {y : Int32} {x : Int32} {l0 l1 l2 : Slot} : W (pj lw) 1 116 (l0 :: l1 :: l2 :: .val (.int y) :: L) (.int x :: S) k n H Q ↔ W (pj lw) 1 117 (l0 :: l1 :: l2 :: .val (.int x) :: L) S k n H Q := W_istn (rfl : (pj lw).1 1 116 = some (.istore_n 3, 1, 0)) rfl rfl
theorem w1_117 {x : Int32} {l0 l1 l2 : Slot} : W (pj lw) 1 117 (l0 :: l1 :: l2 :: .val (.int x) :: L) S k n H Q ↔ W (pj lw) 1 118 (l0 :: l1 :: l2 :: .val (.int x) :: L) (.int x :: S) k n H Q := W_s (rfl : (pj lw).1 1 117 = some (.iload_n 3, 1, 0)) rfl rfl rfl
theorem w1_118 : W (pj lw) 1 118 L S k n H Q ↔ W (pj lw) 1 119 L (.int 4 :: S) k n H Q := W_s (rfl : (pj lw).1 1 118 = some (.iconst 4, 1, 0)) rfl rfl rfl
theorem w1_119 {x y : Int32} : W (pj lw) 1 119 L (.int y :: .int x :: S) k n H Q ↔ (if y < x then W (pj lw) 1 122 L S k n H Q else W (pj lw) 1 124 L S k n H Q) := W_icmp_le (rfl : (pj lw).1 1 119 = some (.if_icmp .le 5, 3, 0)) rfl
theorem w1_122 : W (pj lw) 1 122 L S k n H Q ↔ W (pj lw) 1 123 L (.int 4 :: S) k n H Q := W_s (rfl : (pj lw).1 1 122 = some (.iconst 4, 1, 0)) rfl rfl rfl
theorem w1_123i {y : Int32} {x : Int32} {l0 l1 l2 : Slot} : W (pj lw) 1 123 (l0 :: l1 :: l2 :: .val (.int y) :: L) (.int x :: S) k n H Q ↔ W (pj lw) 1 124 (l0 :: l1 :: l2 :: .val (.int x) :: L) S k n H Q := W_istn (rfl : (pj lw).1 1 123 = some (.istore_n 3, 1, 0)) rfl rfl
theorem w1_124 {x : Nat} : W (pj lw) 1 124 (.val (.ref x) :: L) S k n H Q ↔ W (pj lw) 1 125 (.val (.ref x) :: L) (.ref x :: S) k n H Q := W_s (rfl : (pj lw).1 1 124 = some (.aload_n 0, 1, 0)) rfl rfl rfl
theorem w1_125 {x : Int32} {l0 l1 l2 : Slot} : W (pj lw) 1 125 (l0 :: l1 :: l2 :: .val (.int x) :: L) S k n H Q ↔ W (pj lw) 1 126 (l0 :: l1 :: l2 :: .val (.int x) :: L) (.int x :: S) k n H Q := W_s (rfl : (pj lw).1 1 125 = some (.iload_n 3, 1, 0)) rfl rfl rfl
theorem w1_126 {a : Nat} {v : Value} : W (pj lw) 1 126 L (v :: .ref a :: S) k n H Q ↔ ((isOw H a = true ∧ okv (.int) v = true) ∧ W (pj lw) 1 129 L S k n (wr H a 0 v) Q) := W_putf (rfl : (pj lw).1 1 126 = some (.putfield 49, 3, 0))
theorem w1_129 {x : Nat} : W (pj lw) 1 129 (.val (.ref x) :: L) S k n H Q ↔ W (pj lw) 1 130 (.val (.ref x) :: L) (.ref x :: S) k n H Q := W_s (rfl : (pj lw).1 1 129 = some (.aload_n 0, 1, 0)) rfl rfl rfl
theorem w1_130 {x : Nat} : W (pj lw) 1 130 (.val (.ref x) :: L) S k n H Q ↔ W (pj lw) 1 131 (.val (.ref x) :: L) (.ref x :: S) k n H Q := W_s (rfl : (pj lw).1 1 130 = some (.aload_n 0, 1, 0)) rfl rfl rfl
theorem w1_131 {x : Int32} {l0 l1 : Slot} : W (pj lw) 1 131 (l0 :: l1 :: .val (.int x) :: L) S k n H Q ↔ W (pj lw) 1 132 (l0 :: l1 :: .val (.int x) :: L) (.int x :: S) k n H Q := W_s (rfl : (pj lw).1 1 131 = some (.iload_n 2, 1, 0)) rfl rfl rfl
theorem w1_132 {a : Nat} {x0 : Int32} : W (pj lw) 1 132 L (.int x0 :: .ref a :: S) k n H Q ↔ ((isO H a = true ∧ cs S + (2 + 11) + 0 ≤ 57) ∧ Cl (pj lw) 2 [.ref a, .int x0] H (fun v H => W (pj lw) 1 135 L (v.toList ++ S) k n H Q)) := W_inst (as := [.int x0]) (rfl : (pj lw).1 1 132 = some (.invokevirtual 53, 3, 2)) rfl rfl rfl (Nat.le_of_ble_eq_true rfl) (Nat.le_of_ble_eq_true rfl) ⟨rfl, rfl⟩
theorem w1_135 {a : Nat} {v : Value} : W (pj lw) 1 135 L (v :: .ref a :: S) k n H Q ↔ ((isOw H a = true ∧ okv (.int) v = true) ∧ W (pj lw) 1 138 L S k n (wr H a 3 v) Q) := W_putf (rfl : (pj lw).1 1 135 = some (.putfield 57, 3, 3))
theorem w1_138 {x : Nat} : W (pj lw) 1 138 (.val (.ref x) :: L) S k n H Q ↔ W (pj lw) 1 139 (.val (.ref x) :: L) (.ref x :: S) k n H Q := W_s (rfl : (pj lw).1 1 138 = some (.aload_n 0, 1, 0)) rfl rfl rfl
theorem w1_139 {a : Nat} : W (pj lw) 1 139 L (.ref a :: S) k n H Q ↔ ((isO H a = true ∧ cs S + (4 + 11) + 0 ≤ 57) ∧ Cl (pj lw) 3 [.ref a] H (fun v H => W (pj lw) 1 142 L (v.toList ++ S) k n H Q)) := W_inst (as := []) (rfl : (pj lw).1 1 139 = some (.invokevirtual 60, 3, 3)) rfl rfl rfl (Nat.le_of_ble_eq_true rfl) (Nat.le_of_ble_eq_true rfl) ⟨rfl, rfl⟩
theorem w1_142 {x : Nat} : W (pj lw) 1 142 (.val (.ref x) :: L) S k n H Q ↔ W (pj lw) 1 143 (.val (.ref x) :: L) (.ref x :: S) k n H Q := W_s (rfl : (pj lw).1 1 142 = some (.aload_n 0, 1, 0)) rfl rfl rfl
theorem w1_143 {a : Nat} : W (pj lw) 1 143 L (.ref a :: S) k n H Q ↔ ((isO H a = true ∧ cs S + (3 + 11) + 43 ≤ 57) ∧ Cl (pj lw) 4 [.ref a] H (fun v H => W (pj lw) 1 146 L (v.toList ++ S) k n H Q)) := W_inst (as := []) (rfl : (pj lw).1 1 143 = some (.invokevirtual 63, 3, 4)) rfl rfl rfl (Nat.le_of_ble_eq_true rfl) (Nat.le_of_ble_eq_true rfl) ⟨rfl, rfl⟩
theorem w1_146 {x : Nat} : W (pj lw) 1 146 (.val (.ref x) :: L) S k n H Q ↔ W (pj lw) 1 147 (.val (.ref x) :: L) (.ref x :: S) k n H Q := W_s (rfl : (pj lw).1 1 146 = some (.aload_n 0, 1, 0)) rfl rfl rfl
theorem w1_147 : W (pj lw) 1 147 L S k n H Q ↔ W (pj lw) 1 148 L (.int 0 :: S) k n H Q := W_s (rfl : (pj lw).1 1 147 = some (.iconst 0, 1, 0)) rfl rfl rfl
theorem w1_148 {a : Nat} {v : Value} : W (pj lw) 1 148 L (v :: .ref a :: S) k n H Q ↔ ((isOw H a = true ∧ okv (.int) v = true) ∧ W (pj lw) 1 151 L S k n (wr H a 4 v) Q) := W_putf (rfl : (pj lw).1 1 148 = some (.putfield 66, 3, 4))
theorem w1_151 {x : Nat} : W (pj lw) 1 151 (.val (.ref x) :: L) S k n H Q ↔ W (pj lw) 1 152 (.val (.ref x) :: L) (.ref x :: S) k n H Q := W_s (rfl : (pj lw).1 1 151 = some (.aload_n 0, 1, 0)) rfl rfl rfl
theorem w1_152 : W (pj lw) 1 152 L S k n H Q ↔ W (pj lw) 1 153 L (.int 0 :: S) k n H Q := W_s (rfl : (pj lw).1 1 152 = some (.iconst 0, 1, 0)) rfl rfl rfl
theorem w1_153 {a : Nat} {v : Value} : W (pj lw) 1 153 L (v :: .ref a :: S) k n H Q ↔ ((isOw H a = true ∧ okv (.boolean) v = true) ∧ W (pj lw) 1 156 L S k n (wr H a 12 v) Q) := W_putf (rfl : (pj lw).1 1 153 = some (.putfield 69, 3, 12))
theorem w1_156 {x : Nat} : W (pj lw) 1 156 (.val (.ref x) :: L) S k n H Q ↔ W (pj lw) 1 157 (.val (.ref x) :: L) (.ref x :: S) k n H Q := W_s (rfl : (pj lw).1 1 156 = some (.aload_n 0, 1, 0)) rfl rfl rfl
theorem w1_157 : W (pj lw) 1 157 L S k n H Q ↔ W (pj lw) 1 158 L (.int 0 :: S) k n H Q := W_s (rfl : (pj lw).1 1 157 = some (.iconst 0, 1, 0)) rfl rfl rfl
theorem w1_158 {a : Nat} {v : Value} : W (pj lw) 1 158 L (v :: .ref a :: S) k n H Q ↔ ((isOw H a = true ∧ okv (.boolean) v = true) ∧ W (pj lw) 1 161 L S k n (wr H a 13 v) Q) := W_putf (rfl : (pj lw).1 1 158 = some (.putfield 73, 3, 13))
theorem w1_161 {x : Nat} : W (pj lw) 1 161 (.val (.ref x) :: L) S k n H Q ↔ W (pj lw) 1 162 (.val (.ref x) :: L) (.ref x :: S) k n H Q := W_s (rfl : (pj lw).1 1 161 = some (.aload_n 0, 1, 0)) rfl rfl rfl
theorem w1_162 : W (pj lw) 1 162 L S k n H Q ↔ W (pj lw) 1 163 L (.int 0 :: S) k n H Q := W_s (rfl : (pj lw).1 1 162 = some (.iconst 0, 1, 0)) rfl rfl rfl
theorem w1_163 {a : Nat} {v : Value} : W (pj lw) 1 163 L (v :: .ref a :: S) k n H Q ↔ ((isOw H a = true ∧ okv (.int) v = true) ∧ W (pj lw) 1 166 L S k n (wr H a 14 v) Q) := W_putf (rfl : (pj lw).1 1 163 = some (.putfield 76, 3, 14))
theorem w1_166 {x : Nat} : W (pj lw) 1 166 (.val (.ref x) :: L) S k n H Q ↔ W (pj lw) 1 167 (.val (.ref x) :: L) (.ref x :: S) k n H Q := W_s (rfl : (pj lw).1 1 166 = some (.aload_n 0, 1, 0)) rfl rfl rfl
theorem w1_167 : W (pj lw) 1 167 L S k n H Q ↔ W (pj lw) 1 168 L (.int 0 :: S) k n H Q := W_s (rfl : (pj lw).1 1 167 = some (.iconst 0, 1, 0)) rfl rfl rfl
theorem w1_168 {a : Nat} {v : Value} : W (pj lw) 1 168 L (v :: .ref a :: S) k n H Q ↔ ((isOw H a = true ∧ okv (.int) v = true) ∧ W (pj lw) 1 171 L S k n (wr H a 15 v) Q) := W_putf (rfl : (pj lw).1 1 168 = some (.putfield 79, 3, 15))
theorem w1_171 {x : Nat} : W (pj lw) 1 171 (.val (.ref x) :: L) S k n H Q ↔ W (pj lw) 1 172 (.val (.ref x) :: L) (.ref x :: S) k n H Q := W_s (rfl : (pj lw).1 1 171 = some (.aload_n 0, 1, 0)) rfl rfl rfl
theorem w1_172 : W (pj lw) 1 172 L S k n H Q ↔ W (pj lw) 1 173 L (.int 0 :: S) k n H Q := W_s (rfl : (pj lw).1 1 172 = some (.iconst 0, 1, 0)) rfl rfl rfl
theorem w1_173 {a : Nat} {v : Value} : W (pj lw) 1 173 L (v :: .ref a :: S) k n H Q ↔ ((isOw H a = true ∧ okv (.int) v = true) ∧ W (pj lw) 1 176 L S k n (wr H a 22 v) Q) := W_putf (rfl : (pj lw).1 1 173 = some (.putfield 82, 3, 22))
theorem w1_176 : W (pj lw) 1 176 L [] k n H Q ↔ Q none H := W_r (rfl : (pj lw).1 1 176 = some (.return_, 1, 0)) rfl
theorem c2 {x0 : Nat} {x1 : Int32} : Cl (pj lw) 2 [.ref x0, .int x1] H Q ↔ W (pj lw) 2 0 [.val (.ref x0), .val (.int x1)] [] 0 0 H Q := cl_unf rfl
theorem w2_0 {x : Int32} {l0 : Slot} : W (pj lw) 2 0 (l0 :: .val (.int x) :: L) S k n H Q ↔ W (pj lw) 2 1 (l0 :: .val (.int x) :: L) (.int x :: S) k n H Q := W_s (rfl : (pj lw).1 2 0 = some (.iload_n 1, 1, 0)) rfl rfl rfl
theorem w2_1 : W (pj lw) 2 1 L S k n H Q ↔ W (pj lw) 2 2 L (.int 1 :: S) k n H Q := W_s (rfl : (pj lw).1 2 1 = some (.iconst 1, 1, 0)) rfl rfl rfl
theorem w2_2 {x y : Int32} : W (pj lw) 2 2 L (.int y :: .int x :: S) k n H Q ↔ (if x < y then W (pj lw) 2 5 L S k n H Q else W (pj lw) 2 9 L S k n H Q) := W_icmp_ge (rfl : (pj lw).1 2 2 = some (.if_icmp .ge 7, 3, 0)) rfl
theorem w2_5 : W (pj lw) 2 5 L S k n H Q ↔ W (pj lw) 2 6 L (.int 1 :: S) k n H Q := W_s (rfl : (pj lw).1 2 5 = some (.iconst 1, 1, 0)) rfl rfl rfl
theorem w2_6 : W (pj lw) 2 6 L S k n H Q ↔ W (pj lw) 2 10 L S k n H Q := W_goto (rfl : (pj lw).1 2 6 = some (.goto 4, 3, 0)) rfl
theorem w2_9 {x : Int32} {l0 : Slot} : W (pj lw) 2 9 (l0 :: .val (.int x) :: L) S k n H Q ↔ W (pj lw) 2 10 (l0 :: .val (.int x) :: L) (.int x :: S) k n H Q := W_s (rfl : (pj lw).1 2 9 = some (.iload_n 1, 1, 0)) rfl rfl rfl
theorem w2_10 {x : Int32} : W (pj lw) 2 10 L (.int x :: S) k n H Q ↔ Q (some (.int x)) H := W_r (rfl : (pj lw).1 2 10 = some (.ireturn, 1, 0)) rfl
theorem c3 {x0 : Nat} : Cl (pj lw) 3 [.ref x0] H Q ↔ W (pj lw) 3 0 [.val (.ref x0), .unset, .unset, .unset] [] 0 0 H Q := cl_unf rfl
theorem w3_0 : W (pj lw) 3 0 L S k n H Q ↔ W (pj lw) 3 1 L (.int 0 :: S) k n H Q := W_s (rfl : (pj lw).1 3 0 = some (.iconst 0, 1, 0)) rfl rfl rfl
theorem w3_1 {x : Int32} {l0 : Slot} : W (pj lw) 3 1 (l0 :: .unset :: L) (.int x :: S) k n H Q ↔ W (pj lw) 3 2 (l0 :: .val (.int x) :: L) S k n H Q := W_istn (rfl : (pj lw).1 3 1 = some (.istore_n 1, 1, 0)) rfl rfl
theorem w3_2 : W (pj lw) 3 2 L S k n H Q ↔ W (pj lw) 3 3 L (.int 1 :: S) k n H Q := W_s (rfl : (pj lw).1 3 2 = some (.iconst 1, 1, 0)) rfl rfl rfl
theorem w3_3 {x : Int32} {l0 l1 : Slot} : W (pj lw) 3 3 (l0 :: l1 :: .unset :: L) (.int x :: S) k n H Q ↔ W (pj lw) 3 4 (l0 :: l1 :: .val (.int x) :: L) S k n H Q := W_istn (rfl : (pj lw).1 3 3 = some (.istore_n 2, 1, 0)) rfl rfl
theorem w3_4 {x : Int32} {l0 l1 : Slot} : W (pj lw) 3 4 (l0 :: l1 :: .val (.int x) :: L) S k n H Q ↔ W (pj lw) 3 5 (l0 :: l1 :: .val (.int x) :: L) (.int x :: S) k n H Q := W_s (rfl : (pj lw).1 3 4 = some (.iload_n 2, 1, 0)) rfl rfl rfl
theorem w3_5 {x : Nat} : W (pj lw) 3 5 (.val (.ref x) :: L) S k n H Q ↔ W (pj lw) 3 6 (.val (.ref x) :: L) (.ref x :: S) k n H Q := W_s (rfl : (pj lw).1 3 5 = some (.aload_n 0, 1, 0)) rfl rfl rfl
theorem w3_6 {a : Nat} : W (pj lw) 3 6 L (.ref a :: S) k n H Q ↔ (isO H a = true ∧ W (pj lw) 3 9 L (fld H a 0 :: S) k n H Q) := W_getf (rfl : (pj lw).1 3 6 = some (.getfield 49, 3, 0))
theorem w3_9 {x y : Int32} : W (pj lw) 3 9 L (.int y :: .int x :: S) k n H Q ↔ (if y < x then W (pj lw) 3 73 L S k n H Q else W (pj lw) 3 12 L S k n H Q) := W_icmp_gt (rfl : (pj lw).1 3 9 = some (.if_icmp .gt 64, 3, 0)) rfl
theorem w3_12 {x : Int32} {l0 l1 : Slot} : W (pj lw) 3 12 (l0 :: l1 :: .val (.int x) :: L) S k n H Q ↔ W (pj lw) 3 13 (l0 :: l1 :: .val (.int x) :: L) (.int x :: S) k n H Q := W_s (rfl : (pj lw).1 3 12 = some (.iload_n 2, 1, 0)) rfl rfl rfl
theorem w3_13i {y : Int32} {x : Int32} {l0 l1 l2 : Slot} : W (pj lw) 3 13 (l0 :: l1 :: l2 :: .val (.int y) :: L) (.int x :: S) k n H Q ↔ W (pj lw) 3 14 (l0 :: l1 :: l2 :: .val (.int x) :: L) S k n H Q := W_istn (rfl : (pj lw).1 3 13 = some (.istore_n 3, 1, 0)) rfl rfl
theorem w3_13 {x : Int32} {l0 l1 l2 : Slot} : W (pj lw) 3 13 (l0 :: l1 :: l2 :: .unset :: L) (.int x :: S) k n H Q ↔ W (pj lw) 3 14 (l0 :: l1 :: l2 :: .val (.int x) :: L) S k n H Q := W_istn (rfl : (pj lw).1 3 13 = some (.istore_n 3, 1, 0)) rfl rfl
theorem w3_14 {x : Int32} {l0 l1 l2 : Slot} : W (pj lw) 3 14 (l0 :: l1 :: l2 :: .val (.int x) :: L) S k n H Q ↔ W (pj lw) 3 15 (l0 :: l1 :: l2 :: .val (.int x) :: L) (.int x :: S) k n H Q := W_s (rfl : (pj lw).1 3 14 = some (.iload_n 3, 1, 0)) rfl rfl rfl
theorem w3_15 {x : Nat} : W (pj lw) 3 15 (.val (.ref x) :: L) S k n H Q ↔ W (pj lw) 3 16 (.val (.ref x) :: L) (.ref x :: S) k n H Q := W_s (rfl : (pj lw).1 3 15 = some (.aload_n 0, 1, 0)) rfl rfl rfl
theorem w3_16 {a : Nat} : W (pj lw) 3 16 L (.ref a :: S) k n H Q ↔ (isO H a = true ∧ W (pj lw) 3 19 L (fld H a 0 :: S) k n H Q) := W_getf (rfl : (pj lw).1 3 16 = some (.getfield 49, 3, 0))
theorem w3_19 {x y : Int32} : W (pj lw) 3 19 L (.int y :: .int x :: S) k n H Q ↔ (if y < x then W (pj lw) 3 67 L S k n H Q else W (pj lw) 3 22 L S k n H Q) := W_icmp_gt (rfl : (pj lw).1 3 19 = some (.if_icmp .gt 48, 3, 0)) rfl
theorem w3_22 {x : Nat} : W (pj lw) 3 22 (.val (.ref x) :: L) S k n H Q ↔ W (pj lw) 3 23 (.val (.ref x) :: L) (.ref x :: S) k n H Q := W_s (rfl : (pj lw).1 3 22 = some (.aload_n 0, 1, 0)) rfl rfl rfl
theorem w3_23 {a : Nat} : W (pj lw) 3 23 L (.ref a :: S) k n H Q ↔ (isO H a = true ∧ W (pj lw) 3 26 L (fld H a 16 :: S) k n H Q) := W_getf (rfl : (pj lw).1 3 23 = some (.getfield 31, 3, 16))
theorem w3_26 {x : Int32} {l0 : Slot} : W (pj lw) 3 26 (l0 :: .val (.int x) :: L) S k n H Q ↔ W (pj lw) 3 27 (l0 :: .val (.int x) :: L) (.int x :: S) k n H Q := W_s (rfl : (pj lw).1 3 26 = some (.iload_n 1, 1, 0)) rfl rfl rfl
theorem w3_27 {x : Int32} {l0 l1 : Slot} : W (pj lw) 3 27 (l0 :: l1 :: .val (.int x) :: L) S k n H Q ↔ W (pj lw) 3 28 (l0 :: l1 :: .val (.int x) :: L) (.int x :: S) k n H Q := W_s (rfl : (pj lw).1 3 27 = some (.iload_n 2, 1, 0)) rfl rfl rfl
theorem w3_28 {x i : Int32} {a : Nat} : W (pj lw) 3 28 L (.int x :: .int i :: .ref a :: S) k n H Q ↔ (inAw H a .int i = true ∧ W (pj lw) 3 29 L S k n (wr H a i.toNatClampNeg (.int x)) Q) := W_iastore (rfl : (pj lw).1 3 28 = some (.iastore, 1, 0))
theorem w3_29 {x : Nat} : W (pj lw) 3 29 (.val (.ref x) :: L) S k n H Q ↔ W (pj lw) 3 30 (.val (.ref x) :: L) (.ref x :: S) k n H Q := W_s (rfl : (pj lw).1 3 29 = some (.aload_n 0, 1, 0)) rfl rfl rfl
theorem w3_30 {a : Nat} : W (pj lw) 3 30 L (.ref a :: S) k n H Q ↔ (isO H a = true ∧ W (pj lw) 3 33 L (fld H a 17 :: S) k n H Q) := W_getf (rfl : (pj lw).1 3 30 = some (.getfield 34, 3, 17))
theorem w3_33 {x : Int32} {l0 : Slot} : W (pj lw) 3 33 (l0 :: .val (.int x) :: L) S k n H Q ↔ W (pj lw) 3 34 (l0 :: .val (.int x) :: L) (.int x :: S) k n H Q := W_s (rfl : (pj lw).1 3 33 = some (.iload_n 1, 1, 0)) rfl rfl rfl
theorem w3_34 {x : Int32} {l0 l1 l2 : Slot} : W (pj lw) 3 34 (l0 :: l1 :: l2 :: .val (.int x) :: L) S k n H Q ↔ W (pj lw) 3 35 (l0 :: l1 :: l2 :: .val (.int x) :: L) (.int x :: S) k n H Q := W_s (rfl : (pj lw).1 3 34 = some (.iload_n 3, 1, 0)) rfl rfl rfl
theorem w3_35 {x i : Int32} {a : Nat} : W (pj lw) 3 35 L (.int x :: .int i :: .ref a :: S) k n H Q ↔ (inAw H a .int i = true ∧ W (pj lw) 3 36 L S k n (wr H a i.toNatClampNeg (.int x)) Q) := W_iastore (rfl : (pj lw).1 3 35 = some (.iastore, 1, 0))
theorem w3_36 {x : Nat} : W (pj lw) 3 36 (.val (.ref x) :: L) S k n H Q ↔ W (pj lw) 3 37 (.val (.ref x) :: L) (.ref x :: S) k n H Q := W_s (rfl : (pj lw).1 3 36 = some (.aload_n 0, 1, 0)) rfl rfl rfl
theorem w3_37 {a : Nat} : W (pj lw) 3 37 L (.ref a :: S) k n H Q ↔ (isO H a = true ∧ W (pj lw) 3 40 L (fld H a 18 :: S) k n H Q) := W_getf (rfl : (pj lw).1 3 37 = some (.getfield 37, 3, 18))
theorem w3_40 {x : Int32} {l0 l1 : Slot} : W (pj lw) 3 40 (l0 :: l1 :: .val (.int x) :: L) S k n H Q ↔ W (pj lw) 3 41 (l0 :: l1 :: .val (.int x) :: L) (.int x :: S) k n H Q := W_s (rfl : (pj lw).1 3 40 = some (.iload_n 2, 1, 0)) rfl rfl rfl
theorem w3_41 : W (pj lw) 3 41 L S k n H Q ↔ W (pj lw) 3 42 L (.int 5 :: S) k n H Q := W_s (rfl : (pj lw).1 3 41 = some (.iconst 5, 1, 0)) rfl rfl rfl
theorem w3_42 {x y : Int32} : W (pj lw) 3 42 L (.int y :: .int x :: S) k n H Q ↔ W (pj lw) 3 43 L (.int (x * y) :: S) k n H Q := W_s (rfl : (pj lw).1 3 42 = some (.imul, 1, 0)) rfl rfl rfl
theorem w3_43 {x : Int32} {l0 l1 l2 : Slot} : W (pj lw) 3 43 (l0 :: l1 :: l2 :: .val (.int x) :: L) S k n H Q ↔ W (pj lw) 3 44 (l0 :: l1 :: l2 :: .val (.int x) :: L) (.int x :: S) k n H Q := W_s (rfl : (pj lw).1 3 43 = some (.iload_n 3, 1, 0)) rfl rfl rfl
theorem w3_44 {x y : Int32} : W (pj lw) 3 44 L (.int y :: .int x :: S) k n H Q ↔ W (pj lw) 3 45 L (.int (x + y) :: S) k n H Q := W_s (rfl : (pj lw).1 3 44 = some (.iadd, 1, 0)) rfl rfl rfl
theorem w3_45 {x : Int32} {l0 : Slot} : W (pj lw) 3 45 (l0 :: .val (.int x) :: L) S k n H Q ↔ W (pj lw) 3 46 (l0 :: .val (.int x) :: L) (.int x :: S) k n H Q := W_s (rfl : (pj lw).1 3 45 = some (.iload_n 1, 1, 0)) rfl rfl rfl
theorem w3_46 {x i : Int32} {a : Nat} : W (pj lw) 3 46 L (.int x :: .int i :: .ref a :: S) k n H Q ↔ (inAw H a .int i = true ∧ W (pj lw) 3 47 L S k n (wr H a i.toNatClampNeg (.int x)) Q) := W_iastore (rfl : (pj lw).1 3 46 = some (.iastore, 1, 0))
theorem w3_47 {x : Nat} : W (pj lw) 3 47 (.val (.ref x) :: L) S k n H Q ↔ W (pj lw) 3 48 (.val (.ref x) :: L) (.ref x :: S) k n H Q := W_s (rfl : (pj lw).1 3 47 = some (.aload_n 0, 1, 0)) rfl rfl rfl
theorem w3_48 {a : Nat} : W (pj lw) 3 48 L (.ref a :: S) k n H Q ↔ (isO H a = true ∧ W (pj lw) 3 51 L (fld H a 18 :: S) k n H Q) := W_getf (rfl : (pj lw).1 3 48 = some (.getfield 37, 3, 18))
theorem w3_51 {x : Int32} {l0 l1 l2 : Slot} : W (pj lw) 3 51 (l0 :: l1 :: l2 :: .val (.int x) :: L) S k n H Q ↔ W (pj lw) 3 52 (l0 :: l1 :: l2 :: .val (.int x) :: L) (.int x :: S) k n H Q := W_s (rfl : (pj lw).1 3 51 = some (.iload_n 3, 1, 0)) rfl rfl rfl
theorem w3_52 : W (pj lw) 3 52 L S k n H Q ↔ W (pj lw) 3 53 L (.int 5 :: S) k n H Q := W_s (rfl : (pj lw).1 3 52 = some (.iconst 5, 1, 0)) rfl rfl rfl
theorem w3_53 {x y : Int32} : W (pj lw) 3 53 L (.int y :: .int x :: S) k n H Q ↔ W (pj lw) 3 54 L (.int (x * y) :: S) k n H Q := W_s (rfl : (pj lw).1 3 53 = some (.imul, 1, 0)) rfl rfl rfl
theorem w3_54 {x : Int32} {l0 l1 : Slot} : W (pj lw) 3 54 (l0 :: l1 :: .val (.int x) :: L) S k n H Q ↔ W (pj lw) 3 55 (l0 :: l1 :: .val (.int x) :: L) (.int x :: S) k n H Q := W_s (rfl : (pj lw).1 3 54 = some (.iload_n 2, 1, 0)) rfl rfl rfl
theorem w3_55 {x y : Int32} : W (pj lw) 3 55 L (.int y :: .int x :: S) k n H Q ↔ W (pj lw) 3 56 L (.int (x + y) :: S) k n H Q := W_s (rfl : (pj lw).1 3 55 = some (.iadd, 1, 0)) rfl rfl rfl
theorem w3_56 {x : Int32} {l0 : Slot} : W (pj lw) 3 56 (l0 :: .val (.int x) :: L) S k n H Q ↔ W (pj lw) 3 57 (l0 :: .val (.int x) :: L) (.int x :: S) k n H Q := W_s (rfl : (pj lw).1 3 56 = some (.iload_n 1, 1, 0)) rfl rfl rfl
theorem w3_57 {x i : Int32} {a : Nat} : W (pj lw) 3 57 L (.int x :: .int i :: .ref a :: S) k n H Q ↔ (inAw H a .int i = true ∧ W (pj lw) 3 58 L S k n (wr H a i.toNatClampNeg (.int x)) Q) := W_iastore (rfl : (pj lw).1 3 57 = some (.iastore, 1, 0))
theorem w3_58 {x : Int32} {l0 : Slot} : W (pj lw) 3 58 (l0 :: .val (.int x) :: L) S k n H Q ↔ W (pj lw) 3 61 (l0 :: .val (.int (x + 1)) :: L) S k n H Q := W_s (rfl : (pj lw).1 3 58 = some (.iinc 1 1, 3, 0)) rfl rfl rfl
theorem w3_61 {x : Int32} {l0 l1 l2 : Slot} : W (pj lw) 3 61 (l0 :: l1 :: l2 :: .val (.int x) :: L) S k n H Q ↔ W (pj lw) 3 64 (l0 :: l1 :: l2 :: .val (.int (x + 1)) :: L) S k n H Q := W_s (rfl : (pj lw).1 3 61 = some (.iinc 3 1, 3, 0)) rfl rfl rfl
theorem w3_64 : W (pj lw) 3 64 L S k n H Q ↔ W (pj lw) 3 14 L S k n H Q := W_goto (rfl : (pj lw).1 3 64 = some (.goto (-50), 3, 0)) rfl
theorem w3_67 {x : Int32} {l0 l1 : Slot} : W (pj lw) 3 67 (l0 :: l1 :: .val (.int x) :: L) S k n H Q ↔ W (pj lw) 3 70 (l0 :: l1 :: .val (.int (x + 1)) :: L) S k n H Q := W_s (rfl : (pj lw).1 3 67 = some (.iinc 2 1, 3, 0)) rfl rfl rfl
theorem w3_70 : W (pj lw) 3 70 L S k n H Q ↔ W (pj lw) 3 4 L S k n H Q := W_goto (rfl : (pj lw).1 3 70 = some (.goto (-66), 3, 0)) rfl
theorem w3_73 {x : Nat} : W (pj lw) 3 73 (.val (.ref x) :: L) S k n H Q ↔ W (pj lw) 3 74 (.val (.ref x) :: L) (.ref x :: S) k n H Q := W_s (rfl : (pj lw).1 3 73 = some (.aload_n 0, 1, 0)) rfl rfl rfl
theorem w3_74 {x : Int32} {l0 : Slot} : W (pj lw) 3 74 (l0 :: .val (.int x) :: L) S k n H Q ↔ W (pj lw) 3 75 (l0 :: .val (.int x) :: L) (.int x :: S) k n H Q := W_s (rfl : (pj lw).1 3 74 = some (.iload_n 1, 1, 0)) rfl rfl rfl
theorem w3_75 {a : Nat} {v : Value} : W (pj lw) 3 75 L (v :: .ref a :: S) k n H Q ↔ ((isOw H a = true ∧ okv (.int) v = true) ∧ W (pj lw) 3 78 L S k n (wr H a 1 v) Q) := W_putf (rfl : (pj lw).1 3 75 = some (.putfield 85, 3, 1))
theorem w3_78 {x : Nat} : W (pj lw) 3 78 (.val (.ref x) :: L) S k n H Q ↔ W (pj lw) 3 79 (.val (.ref x) :: L) (.ref x :: S) k n H Q := W_s (rfl : (pj lw).1 3 78 = some (.aload_n 0, 1, 0)) rfl rfl rfl
theorem w3_79 : W (pj lw) 3 79 L S k n H Q ↔ W (pj lw) 3 80 L (.int 1 :: S) k n H Q := W_s (rfl : (pj lw).1 3 79 = some (.iconst 1, 1, 0)) rfl rfl rfl
theorem w3_80 {x : Int32} {l0 : Slot} : W (pj lw) 3 80 (l0 :: .val (.int x) :: L) S k n H Q ↔ W (pj lw) 3 81 (l0 :: .val (.int x) :: L) (.int x :: S) k n H Q := W_s (rfl : (pj lw).1 3 80 = some (.iload_n 1, 1, 0)) rfl rfl rfl
theorem w3_81 {x y : Int32} : W (pj lw) 3 81 L (.int y :: .int x :: S) k n H Q ↔ W (pj lw) 3 82 L (.int (x <<< (y &&& 31)) :: S) k n H Q := W_s (rfl : (pj lw).1 3 81 = some (.ishl, 1, 0)) rfl rfl rfl
theorem w3_82 : W (pj lw) 3 82 L S k n H Q ↔ W (pj lw) 3 83 L (.int 1 :: S) k n H Q := W_s (rfl : (pj lw).1 3 82 = some (.iconst 1, 1, 0)) rfl rfl rfl
theorem w3_83 {x y : Int32} : W (pj lw) 3 83 L (.int y :: .int x :: S) k n H Q ↔ W (pj lw) 3 84 L (.int (x - y) :: S) k n H Q := W_s (rfl : (pj lw).1 3 83 = some (.isub, 1, 0)) rfl rfl rfl
theorem w3_84 {a : Nat} {v : Value} : W (pj lw) 3 84 L (v :: .ref a :: S) k n H Q ↔ ((isOw H a = true ∧ okv (.int) v = true) ∧ W (pj lw) 3 87 L S k n (wr H a 2 v) Q) := W_putf (rfl : (pj lw).1 3 84 = some (.putfield 88, 3, 2))
theorem w3_87 : W (pj lw) 3 87 L [] k n H Q ↔ Q none H := W_r (rfl : (pj lw).1 3 87 = some (.return_, 1, 0)) rfl
theorem c4 {x0 : Nat} : Cl (pj lw) 4 [.ref x0] H Q ↔ W (pj lw) 4 0 [.val (.ref x0), .unset, .unset] [] 0 0 H Q := cl_unf rfl
theorem w4_0 : W (pj lw) 4 0 L S k n H Q ↔ W (pj lw) 4 1 L (.int 0 :: S) k n H Q := W_s (rfl : (pj lw).1 4 0 = some (.iconst 0, 1, 0)) rfl rfl rfl
theorem w4_1 {x : Int32} {l0 : Slot} : W (pj lw) 4 1 (l0 :: .unset :: L) (.int x :: S) k n H Q ↔ W (pj lw) 4 2 (l0 :: .val (.int x) :: L) S k n H Q := W_istn (rfl : (pj lw).1 4 1 = some (.istore_n 1, 1, 0)) rfl rfl
theorem w4_2 {x : Int32} {l0 : Slot} : W (pj lw) 4 2 (l0 :: .val (.int x) :: L) S k n H Q ↔ W (pj lw) 4 3 (l0 :: .val (.int x) :: L) (.int x :: S) k n H Q := W_s (rfl : (pj lw).1 4 2 = some (.iload_n 1, 1, 0)) rfl rfl rfl
theorem w4_3 {x : Nat} : W (pj lw) 4 3 (.val (.ref x) :: L) S k n H Q ↔ W (pj lw) 4 4 (.val (.ref x) :: L) (.ref x :: S) k n H Q := W_s (rfl : (pj lw).1 4 3 = some (.aload_n 0, 1, 0)) rfl rfl rfl
theorem w4_4 {a : Nat} : W (pj lw) 4 4 L (.ref a :: S) k n H Q ↔ (isO H a = true ∧ W (pj lw) 4 7 L (fld H a 1 :: S) k n H Q) := W_getf (rfl : (pj lw).1 4 4 = some (.getfield 85, 3, 1))
theorem w4_7 {x y : Int32} : W (pj lw) 4 7 L (.int y :: .int x :: S) k n H Q ↔ (if x < y then W (pj lw) 4 10 L S k n H Q else W (pj lw) 4 49 L S k n H Q) := W_icmp_ge (rfl : (pj lw).1 4 7 = some (.if_icmp .ge 42, 3, 0)) rfl
theorem w4_10 : W (pj lw) 4 10 L S k n H Q ↔ W (pj lw) 4 11 L (.int 0 :: S) k n H Q := W_s (rfl : (pj lw).1 4 10 = some (.iconst 0, 1, 0)) rfl rfl rfl
theorem w4_11i {y : Int32} {x : Int32} {l0 l1 : Slot} : W (pj lw) 4 11 (l0 :: l1 :: .val (.int y) :: L) (.int x :: S) k n H Q ↔ W (pj lw) 4 12 (l0 :: l1 :: .val (.int x) :: L) S k n H Q := W_istn (rfl : (pj lw).1 4 11 = some (.istore_n 2, 1, 0)) rfl rfl
theorem w4_11 {x : Int32} {l0 l1 : Slot} : W (pj lw) 4 11 (l0 :: l1 :: .unset :: L) (.int x :: S) k n H Q ↔ W (pj lw) 4 12 (l0 :: l1 :: .val (.int x) :: L) S k n H Q := W_istn (rfl : (pj lw).1 4 11 = some (.istore_n 2, 1, 0)) rfl rfl
theorem w4_12 {x : Int32} {l0 l1 : Slot} : W (pj lw) 4 12 (l0 :: l1 :: .val (.int x) :: L) S k n H Q ↔ W (pj lw) 4 13 (l0 :: l1 :: .val (.int x) :: L) (.int x :: S) k n H Q := W_s (rfl : (pj lw).1 4 12 = some (.iload_n 2, 1, 0)) rfl rfl rfl
theorem w4_13 {x : Nat} : W (pj lw) 4 13 (.val (.ref x) :: L) S k n H Q ↔ W (pj lw) 4 14 (.val (.ref x) :: L) (.ref x :: S) k n H Q := W_s (rfl : (pj lw).1 4 13 = some (.aload_n 0, 1, 0)) rfl rfl rfl
theorem w4_14 {a : Nat} : W (pj lw) 4 14 L (.ref a :: S) k n H Q ↔ (isO H a = true ∧ W (pj lw) 4 17 L (fld H a 1 :: S) k n H Q) := W_getf (rfl : (pj lw).1 4 14 = some (.getfield 85, 3, 1))
theorem w4_17 {x y : Int32} : W (pj lw) 4 17 L (.int y :: .int x :: S) k n H Q ↔ (if x < y then W (pj lw) 4 20 L S k n H Q else W (pj lw) 4 43 L S k n H Q) := W_icmp_ge (rfl : (pj lw).1 4 17 = some (.if_icmp .ge 26, 3, 0)) rfl
theorem w4_20 {x : Nat} : W (pj lw) 4 20 (.val (.ref x) :: L) S k n H Q ↔ W (pj lw) 4 21 (.val (.ref x) :: L) (.ref x :: S) k n H Q := W_s (rfl : (pj lw).1 4 20 = some (.aload_n 0, 1, 0)) rfl rfl rfl
theorem w4_21 {a : Nat} : W (pj lw) 4 21 L (.ref a :: S) k n H Q ↔ (isO H a = true ∧ W (pj lw) 4 24 L (fld H a 19 :: S) k n H Q) := W_getf (rfl : (pj lw).1 4 21 = some (.getfield 40, 3, 19))
theorem w4_24 {x : Int32} {l0 : Slot} : W (pj lw) 4 24 (l0 :: .val (.int x) :: L) S k n H Q ↔ W (pj lw) 4 25 (l0 :: .val (.int x) :: L) (.int x :: S) k n H Q := W_s (rfl : (pj lw).1 4 24 = some (.iload_n 1, 1, 0)) rfl rfl rfl
theorem w4_25 : W (pj lw) 4 25 L S k n H Q ↔ W (pj lw) 4 27 L (.int 10 :: S) k n H Q := W_s (rfl : (pj lw).1 4 25 = some (.bipush 10, 2, 0)) rfl rfl rfl
theorem w4_27 {x y : Int32} : W (pj lw) 4 27 L (.int y :: .int x :: S) k n H Q ↔ W (pj lw) 4 28 L (.int (x * y) :: S) k n H Q := W_s (rfl : (pj lw).1 4 27 = some (.imul, 1, 0)) rfl rfl rfl
theorem w4_28 {x : Int32} {l0 l1 : Slot} : W (pj lw) 4 28 (l0 :: l1 :: .val (.int x) :: L) S k n H Q ↔ W (pj lw) 4 29 (l0 :: l1 :: .val (.int x) :: L) (.int x :: S) k n H Q := W_s (rfl : (pj lw).1 4 28 = some (.iload_n 2, 1, 0)) rfl rfl rfl
theorem w4_29 {x y : Int32} : W (pj lw) 4 29 L (.int y :: .int x :: S) k n H Q ↔ W (pj lw) 4 30 L (.int (x + y) :: S) k n H Q := W_s (rfl : (pj lw).1 4 29 = some (.iadd, 1, 0)) rfl rfl rfl
theorem w4_30 {x : Nat} : W (pj lw) 4 30 (.val (.ref x) :: L) S k n H Q ↔ W (pj lw) 4 31 (.val (.ref x) :: L) (.ref x :: S) k n H Q := W_s (rfl : (pj lw).1 4 30 = some (.aload_n 0, 1, 0)) rfl rfl rfl
theorem w4_31 {x : Int32} {l0 : Slot} : W (pj lw) 4 31 (l0 :: .val (.int x) :: L) S k n H Q ↔ W (pj lw) 4 32 (l0 :: .val (.int x) :: L) (.int x :: S) k n H Q := W_s (rfl : (pj lw).1 4 31 = some (.iload_n 1, 1, 0)) rfl rfl rfl
theorem w4_32 {x : Int32} {l0 l1 : Slot} : W (pj lw) 4 32 (l0 :: l1 :: .val (.int x) :: L) S k n H Q ↔ W (pj lw) 4 33 (l0 :: l1 :: .val (.int x) :: L) (.int x :: S) k n H Q := W_s (rfl : (pj lw).1 4 32 = some (.iload_n 2, 1, 0)) rfl rfl rfl
theorem w4_33 {a : Nat} {x0 : Int32} {x1 : Int32} : W (pj lw) 4 33 L (.int x1 :: .int x0 :: .ref a :: S) k n H Q ↔ ((isO H a = true ∧ cs S + (5 + 11) + 25 ≤ 43) ∧ Cl (pj lw) 5 [.ref a, .int x0, .int x1] H (fun v H => W (pj lw) 4 36 L (v.toList ++ S) k n H Q)) := W_inst (as := [.int x0, .int x1]) (rfl : (pj lw).1 4 33 = some (.invokevirtual 91, 3, 5)) rfl rfl rfl (Nat.le_of_ble_eq_true rfl) (Nat.le_of_ble_eq_true rfl) ⟨rfl, rfl⟩
theorem w4_36 {x i : Int32} {a : Nat} : W (pj lw) 4 36 L (.int x :: .int i :: .ref a :: S) k n H Q ↔ (inAw H a .int i = true ∧ W (pj lw) 4 37 L S k n (wr H a i.toNatClampNeg (.int x)) Q) := W_iastore (rfl : (pj lw).1 4 36 = some (.iastore, 1, 0))
theorem w4_37 {x : Int32} {l0 l1 : Slot} : W (pj lw) 4 37 (l0 :: l1 :: .val (.int x) :: L) S k n H Q ↔ W (pj lw) 4 40 (l0 :: l1 :: .val (.int (x + 1)) :: L) S k n H Q := W_s (rfl : (pj lw).1 4 37 = some (.iinc 2 1, 3, 0)) rfl rfl rfl
theorem w4_40 : W (pj lw) 4 40 L S k n H Q ↔ W (pj lw) 4 12 L S k n H Q := W_goto (rfl : (pj lw).1 4 40 = some (.goto (-28), 3, 0)) rfl
theorem w4_43 {x : Int32} {l0 : Slot} : W (pj lw) 4 43 (l0 :: .val (.int x) :: L) S k n H Q ↔ W (pj lw) 4 46 (l0 :: .val (.int (x + 1)) :: L) S k n H Q := W_s (rfl : (pj lw).1 4 43 = some (.iinc 1 1, 3, 0)) rfl rfl rfl
theorem w4_46 : W (pj lw) 4 46 L S k n H Q ↔ W (pj lw) 4 2 L S k n H Q := W_goto (rfl : (pj lw).1 4 46 = some (.goto (-44), 3, 0)) rfl
theorem w4_49 : W (pj lw) 4 49 L [] k n H Q ↔ Q none H := W_r (rfl : (pj lw).1 4 49 = some (.return_, 1, 0)) rfl
theorem c5 {x0 : Nat} {x1 : Int32} {x2 : Int32} : Cl (pj lw) 5 [.ref x0, .int x1, .int x2] H Q ↔ W (pj lw) 5 0 [.val (.ref x0), .val (.int x1), .val (.int x2), .unset, .unset] [] 0 0 H Q := cl_unf rfl
theorem w5_0 : W (pj lw) 5 0 L S k n H Q ↔ W (pj lw) 5 1 L (.int 0 :: S) k n H Q := W_s (rfl : (pj lw).1 5 0 = some (.iconst 0, 1, 0)) rfl rfl rfl
theorem w5_1 {x : Int32} {l0 l1 l2 : Slot} : W (pj lw) 5 1 (l0 :: l1 :: l2 :: .unset :: L) (.int x :: S) k n H Q ↔ W (pj lw) 5 2 (l0 :: l1 :: l2 :: .val (.int x) :: L) S k n H Q := W_istn (rfl : (pj lw).1 5 1 = some (.istore_n 3, 1, 0)) rfl rfl
theorem w5_2 : W (pj lw) 5 2 L S k n H Q ↔ W (pj lw) 5 3 L (.int 0 :: S) k n H Q := W_s (rfl : (pj lw).1 5 2 = some (.iconst 0, 1, 0)) rfl rfl rfl
theorem w5_3 {x : Int32} {l0 l1 l2 l3 : Slot} : W (pj lw) 5 3 (l0 :: l1 :: l2 :: l3 :: .unset :: L) (.int x :: S) k n H Q ↔ W (pj lw) 5 5 (l0 :: l1 :: l2 :: l3 :: .val (.int x) :: L) S k n H Q := W_ist (rfl : (pj lw).1 5 3 = some (.istore 4, 2, 0)) rfl rfl
theorem w5_5 {x : Int32} {l0 l1 l2 l3 : Slot} : W (pj lw) 5 5 (l0 :: l1 :: l2 :: l3 :: .val (.int x) :: L) S k n H Q ↔ W (pj lw) 5 7 (l0 :: l1 :: l2 :: l3 :: .val (.int x) :: L) (.int x :: S) k n H Q := W_s (rfl : (pj lw).1 5 5 = some (.iload 4, 2, 0)) rfl rfl rfl
theorem w5_7 {x : Nat} : W (pj lw) 5 7 (.val (.ref x) :: L) S k n H Q ↔ W (pj lw) 5 8 (.val (.ref x) :: L) (.ref x :: S) k n H Q := W_s (rfl : (pj lw).1 5 7 = some (.aload_n 0, 1, 0)) rfl rfl rfl
theorem w5_8 {a : Nat} : W (pj lw) 5 8 L (.ref a :: S) k n H Q ↔ (isO H a = true ∧ W (pj lw) 5 11 L (fld H a 1 :: S) k n H Q) := W_getf (rfl : (pj lw).1 5 8 = some (.getfield 85, 3, 1))
theorem w5_11 {x y : Int32} : W (pj lw) 5 11 L (.int y :: .int x :: S) k n H Q ↔ (if x < y then W (pj lw) 5 14 L S k n H Q else W (pj lw) 5 38 L S k n H Q) := W_icmp_ge (rfl : (pj lw).1 5 11 = some (.if_icmp .ge 27, 3, 0)) rfl
theorem w5_14 {x : Nat} : W (pj lw) 5 14 (.val (.ref x) :: L) S k n H Q ↔ W (pj lw) 5 15 (.val (.ref x) :: L) (.ref x :: S) k n H Q := W_s (rfl : (pj lw).1 5 14 = some (.aload_n 0, 1, 0)) rfl rfl rfl
theorem w5_15 {x : Int32} {l0 l1 l2 l3 : Slot} : W (pj lw) 5 15 (l0 :: l1 :: l2 :: l3 :: .val (.int x) :: L) S k n H Q ↔ W (pj lw) 5 17 (l0 :: l1 :: l2 :: l3 :: .val (.int x) :: L) (.int x :: S) k n H Q := W_s (rfl : (pj lw).1 5 15 = some (.iload 4, 2, 0)) rfl rfl rfl
theorem w5_17 {x : Int32} {l0 : Slot} : W (pj lw) 5 17 (l0 :: .val (.int x) :: L) S k n H Q ↔ W (pj lw) 5 18 (l0 :: .val (.int x) :: L) (.int x :: S) k n H Q := W_s (rfl : (pj lw).1 5 17 = some (.iload_n 1, 1, 0)) rfl rfl rfl
theorem w5_18 {x : Int32} {l0 l1 : Slot} : W (pj lw) 5 18 (l0 :: l1 :: .val (.int x) :: L) S k n H Q ↔ W (pj lw) 5 19 (l0 :: l1 :: .val (.int x) :: L) (.int x :: S) k n H Q := W_s (rfl : (pj lw).1 5 18 = some (.iload_n 2, 1, 0)) rfl rfl rfl
theorem w5_19 {a : Nat} {x0 : Int32} {x1 : Int32} {x2 : Int32} : W (pj lw) 5 19 L (.int x2 :: .int x1 :: .int x0 :: .ref a :: S) k n H Q ↔ ((isO H a = true ∧ cs S + (14 + 11) + 0 ≤ 25) ∧ Cl (pj lw) 6 [.ref a, .int x0, .int x1, .int x2] H (fun v H => W (pj lw) 5 22 L (v.toList ++ S) k n H Q)) := W_inst (as := [.int x0, .int x1, .int x2]) (rfl : (pj lw).1 5 19 = some (.invokevirtual 95, 3, 6)) rfl rfl rfl (Nat.le_of_ble_eq_true rfl) (Nat.le_of_ble_eq_true rfl) ⟨rfl, rfl⟩
theorem w5_22 {x : Int32} : W (pj lw) 5 22 L (.int x :: S) k n H Q ↔ (if x = 0 then W (pj lw) 5 32 L S k n H Q else W (pj lw) 5 25 L S k n H Q) := W_if_eq (rfl : (pj lw).1 5 22 = some (.ifCond .eq 10, 3, 0)) rfl
theorem w5_25 {x : Int32} {l0 l1 l2 : Slot} : W (pj lw) 5 25 (l0 :: l1 :: l2 :: .val (.int x) :: L) S k n H Q ↔ W (pj lw) 5 26 (l0 :: l1 :: l2 :: .val (.int x) :: L) (.int x :: S) k n H Q := W_s (rfl : (pj lw).1 5 25 = some (.iload_n 3, 1, 0)) rfl rfl rfl
theorem w5_26 : W (pj lw) 5 26 L S k n H Q ↔ W (pj lw) 5 27 L (.int 1 :: S) k n H Q := W_s (rfl : (pj lw).1 5 26 = some (.iconst 1, 1, 0)) rfl rfl rfl
theorem w5_27 {x : Int32} {l0 l1 l2 l3 : Slot} : W (pj lw) 5 27 (l0 :: l1 :: l2 :: l3 :: .val (.int x) :: L) S k n H Q ↔ W (pj lw) 5 29 (l0 :: l1 :: l2 :: l3 :: .val (.int x) :: L) (.int x :: S) k n H Q := W_s (rfl : (pj lw).1 5 27 = some (.iload 4, 2, 0)) rfl rfl rfl
theorem w5_29 {x y : Int32} : W (pj lw) 5 29 L (.int y :: .int x :: S) k n H Q ↔ W (pj lw) 5 30 L (.int (x <<< (y &&& 31)) :: S) k n H Q := W_s (rfl : (pj lw).1 5 29 = some (.ishl, 1, 0)) rfl rfl rfl
theorem w5_30 {x y : Int32} : W (pj lw) 5 30 L (.int y :: .int x :: S) k n H Q ↔ W (pj lw) 5 31 L (.int (x ||| y) :: S) k n H Q := W_s (rfl : (pj lw).1 5 30 = some (.ior, 1, 0)) rfl rfl rfl
theorem w5_31i {y : Int32} {x : Int32} {l0 l1 l2 : Slot} : W (pj lw) 5 31 (l0 :: l1 :: l2 :: .val (.int y) :: L) (.int x :: S) k n H Q ↔ W (pj lw) 5 32 (l0 :: l1 :: l2 :: .val (.int x) :: L) S k n H Q := W_istn (rfl : (pj lw).1 5 31 = some (.istore_n 3, 1, 0)) rfl rfl
theorem w5_32 {x : Int32} {l0 l1 l2 l3 : Slot} : W (pj lw) 5 32 (l0 :: l1 :: l2 :: l3 :: .val (.int x) :: L) S k n H Q ↔ W (pj lw) 5 35 (l0 :: l1 :: l2 :: l3 :: .val (.int (x + 1)) :: L) S k n H Q := W_s (rfl : (pj lw).1 5 32 = some (.iinc 4 1, 3, 0)) rfl rfl rfl
theorem w5_35 : W (pj lw) 5 35 L S k n H Q ↔ W (pj lw) 5 5 L S k n H Q := W_goto (rfl : (pj lw).1 5 35 = some (.goto (-30), 3, 0)) rfl
theorem w5_38 {x : Int32} {l0 l1 l2 : Slot} : W (pj lw) 5 38 (l0 :: l1 :: l2 :: .val (.int x) :: L) S k n H Q ↔ W (pj lw) 5 39 (l0 :: l1 :: l2 :: .val (.int x) :: L) (.int x :: S) k n H Q := W_s (rfl : (pj lw).1 5 38 = some (.iload_n 3, 1, 0)) rfl rfl rfl
theorem w5_39 {x : Int32} : W (pj lw) 5 39 L (.int x :: S) k n H Q ↔ Q (some (.int x)) H := W_r (rfl : (pj lw).1 5 39 = some (.ireturn, 1, 0)) rfl
theorem c6 {x0 : Nat} {x1 : Int32} {x2 : Int32} {x3 : Int32} : Cl (pj lw) 6 [.ref x0, .int x1, .int x2, .int x3] H Q ↔ W (pj lw) 6 0 [.val (.ref x0), .val (.int x1), .val (.int x2), .val (.int x3), .unset, .unset, .unset, .unset, .unset, .unset, .unset, .unset, .unset, .unset] [] 0 0 H Q := cl_unf rfl
theorem w6_0 {x : Nat} : W (pj lw) 6 0 (.val (.ref x) :: L) S k n H Q ↔ W (pj lw) 6 1 (.val (.ref x) :: L) (.ref x :: S) k n H Q := W_s (rfl : (pj lw).1 6 0 = some (.aload_n 0, 1, 0)) rfl rfl rfl
theorem w6_1 {a : Nat} : W (pj lw) 6 1 L (.ref a :: S) k n H Q ↔ (isO H a = true ∧ W (pj lw) 6 4 L (fld H a 16 :: S) k n H Q) := W_getf (rfl : (pj lw).1 6 1 = some (.getfield 31, 3, 16))
theorem w6_4 {x : Int32} {l0 : Slot} : W (pj lw) 6 4 (l0 :: .val (.int x) :: L) S k n H Q ↔ W (pj lw) 6 5 (l0 :: .val (.int x) :: L) (.int x :: S) k n H Q := W_s (rfl : (pj lw).1 6 4 = some (.iload_n 1, 1, 0)) rfl rfl rfl
theorem w6_5 {i : Int32} {a : Nat} : W (pj lw) 6 5 L (.int i :: .ref a :: S) k n H Q ↔ (inA H a .int i = true ∧ W (pj lw) 6 6 L (elt H a i :: S) k n H Q) := W_iaload (rfl : (pj lw).1 6 5 = some (.iaload, 1, 0))
theorem w6_6 {x : Int32} {l0 l1 l2 l3 : Slot} : W (pj lw) 6 6 (l0 :: l1 :: l2 :: l3 :: .unset :: L) (.int x :: S) k n H Q ↔ W (pj lw) 6 8 (l0 :: l1 :: l2 :: l3 :: .val (.int x) :: L) S k n H Q := W_ist (rfl : (pj lw).1 6 6 = some (.istore 4, 2, 0)) rfl rfl
theorem w6_8 {x : Nat} : W (pj lw) 6 8 (.val (.ref x) :: L) S k n H Q ↔ W (pj lw) 6 9 (.val (.ref x) :: L) (.ref x :: S) k n H Q := W_s (rfl : (pj lw).1 6 8 = some (.aload_n 0, 1, 0)) rfl rfl rfl
theorem w6_9 {a : Nat} : W (pj lw) 6 9 L (.ref a :: S) k n H Q ↔ (isO H a = true ∧ W (pj lw) 6 12 L (fld H a 17 :: S) k n H Q) := W_getf (rfl : (pj lw).1 6 9 = some (.getfield 34, 3, 17))
theorem w6_12 {x : Int32} {l0 : Slot} : W (pj lw) 6 12 (l0 :: .val (.int x) :: L) S k n H Q ↔ W (pj lw) 6 13 (l0 :: .val (.int x) :: L) (.int x :: S) k n H Q := W_s (rfl : (pj lw).1 6 12 = some (.iload_n 1, 1, 0)) rfl rfl rfl
theorem w6_13 {i : Int32} {a : Nat} : W (pj lw) 6 13 L (.int i :: .ref a :: S) k n H Q ↔ (inA H a .int i = true ∧ W (pj lw) 6 14 L (elt H a i :: S) k n H Q) := W_iaload (rfl : (pj lw).1 6 13 = some (.iaload, 1, 0))
theorem w6_14 {x : Int32} {l0 l1 l2 l3 l4 : Slot} : W (pj lw) 6 14 (l0 :: l1 :: l2 :: l3 :: l4 :: .unset :: L) (.int x :: S) k n H Q ↔ W (pj lw) 6 16 (l0 :: l1 :: l2 :: l3 :: l4 :: .val (.int x) :: L) S k n H Q := W_ist (rfl : (pj lw).1 6 14 = some (.istore 5, 2, 0)) rfl rfl
theorem w6_16 {x : Nat} : W (pj lw) 6 16 (.val (.ref x) :: L) S k n H Q ↔ W (pj lw) 6 17 (.val (.ref x) :: L) (.ref x :: S) k n H Q := W_s (rfl : (pj lw).1 6 16 = some (.aload_n 0, 1, 0)) rfl rfl rfl
theorem w6_17 {a : Nat} : W (pj lw) 6 17 L (.ref a :: S) k n H Q ↔ (isO H a = true ∧ W (pj lw) 6 20 L (fld H a 16 :: S) k n H Q) := W_getf (rfl : (pj lw).1 6 17 = some (.getfield 31, 3, 16))
theorem w6_20 {x : Int32} {l0 l1 : Slot} : W (pj lw) 6 20 (l0 :: l1 :: .val (.int x) :: L) S k n H Q ↔ W (pj lw) 6 21 (l0 :: l1 :: .val (.int x) :: L) (.int x :: S) k n H Q := W_s (rfl : (pj lw).1 6 20 = some (.iload_n 2, 1, 0)) rfl rfl rfl
theorem w6_21 {i : Int32} {a : Nat} : W (pj lw) 6 21 L (.int i :: .ref a :: S) k n H Q ↔ (inA H a .int i = true ∧ W (pj lw) 6 22 L (elt H a i :: S) k n H Q) := W_iaload (rfl : (pj lw).1 6 21 = some (.iaload, 1, 0))
theorem w6_22 {x : Int32} {l0 l1 l2 l3 l4 l5 : Slot} : W (pj lw) 6 22 (l0 :: l1 :: l2 :: l3 :: l4 :: l5 :: .unset :: L) (.int x :: S) k n H Q ↔ W (pj lw) 6 24 (l0 :: l1 :: l2 :: l3 :: l4 :: l5 :: .val (.int x) :: L) S k n H Q := W_ist (rfl : (pj lw).1 6 22 = some (.istore 6, 2, 0)) rfl rfl
theorem w6_24 {x : Nat} : W (pj lw) 6 24 (.val (.ref x) :: L) S k n H Q ↔ W (pj lw) 6 25 (.val (.ref x) :: L) (.ref x :: S) k n H Q := W_s (rfl : (pj lw).1 6 24 = some (.aload_n 0, 1, 0)) rfl rfl rfl
theorem w6_25 {a : Nat} : W (pj lw) 6 25 L (.ref a :: S) k n H Q ↔ (isO H a = true ∧ W (pj lw) 6 28 L (fld H a 17 :: S) k n H Q) := W_getf (rfl : (pj lw).1 6 25 = some (.getfield 34, 3, 17))
theorem w6_28 {x : Int32} {l0 l1 : Slot} : W (pj lw) 6 28 (l0 :: l1 :: .val (.int x) :: L) S k n H Q ↔ W (pj lw) 6 29 (l0 :: l1 :: .val (.int x) :: L) (.int x :: S) k n H Q := W_s (rfl : (pj lw).1 6 28 = some (.iload_n 2, 1, 0)) rfl rfl rfl
theorem w6_29 {i : Int32} {a : Nat} : W (pj lw) 6 29 L (.int i :: .ref a :: S) k n H Q ↔ (inA H a .int i = true ∧ W (pj lw) 6 30 L (elt H a i :: S) k n H Q) := W_iaload (rfl : (pj lw).1 6 29 = some (.iaload, 1, 0))
theorem w6_30 {x : Int32} {l0 l1 l2 l3 l4 l5 l6 : Slot} : W (pj lw) 6 30 (l0 :: l1 :: l2 :: l3 :: l4 :: l5 :: l6 :: .unset :: L) (.int x :: S) k n H Q ↔ W (pj lw) 6 32 (l0 :: l1 :: l2 :: l3 :: l4 :: l5 :: l6 :: .val (.int x) :: L) S k n H Q := W_ist (rfl : (pj lw).1 6 30 = some (.istore 7, 2, 0)) rfl rfl
theorem w6_32 {x : Nat} : W (pj lw) 6 32 (.val (.ref x) :: L) S k n H Q ↔ W (pj lw) 6 33 (.val (.ref x) :: L) (.ref x :: S) k n H Q := W_s (rfl : (pj lw).1 6 32 = some (.aload_n 0, 1, 0)) rfl rfl rfl
theorem w6_33 {a : Nat} : W (pj lw) 6 33 L (.ref a :: S) k n H Q ↔ (isO H a = true ∧ W (pj lw) 6 36 L (fld H a 16 :: S) k n H Q) := W_getf (rfl : (pj lw).1 6 33 = some (.getfield 31, 3, 16))
theorem w6_36 {x : Int32} {l0 l1 l2 : Slot} : W (pj lw) 6 36 (l0 :: l1 :: l2 :: .val (.int x) :: L) S k n H Q ↔ W (pj lw) 6 37 (l0 :: l1 :: l2 :: .val (.int x) :: L) (.int x :: S) k n H Q := W_s (rfl : (pj lw).1 6 36 = some (.iload_n 3, 1, 0)) rfl rfl rfl
theorem w6_37 {i : Int32} {a : Nat} : W (pj lw) 6 37 L (.int i :: .ref a :: S) k n H Q ↔ (inA H a .int i = true ∧ W (pj lw) 6 38 L (elt H a i :: S) k n H Q) := W_iaload (rfl : (pj lw).1 6 37 = some (.iaload, 1, 0))
theorem w6_38 {x : Int32} {l0 l1 l2 l3 l4 l5 l6 l7 : Slot} : W (pj lw) 6 38 (l0 :: l1 :: l2 :: l3 :: l4 :: l5 :: l6 :: l7 :: .unset :: L) (.int x :: S) k n H Q ↔ W (pj lw) 6 40 (l0 :: l1 :: l2 :: l3 :: l4 :: l5 :: l6 :: l7 :: .val (.int x) :: L) S k n H Q := W_ist (rfl : (pj lw).1 6 38 = some (.istore 8, 2, 0)) rfl rfl
theorem w6_40 {x : Nat} : W (pj lw) 6 40 (.val (.ref x) :: L) S k n H Q ↔ W (pj lw) 6 41 (.val (.ref x) :: L) (.ref x :: S) k n H Q := W_s (rfl : (pj lw).1 6 40 = some (.aload_n 0, 1, 0)) rfl rfl rfl
theorem w6_41 {a : Nat} : W (pj lw) 6 41 L (.ref a :: S) k n H Q ↔ (isO H a = true ∧ W (pj lw) 6 44 L (fld H a 17 :: S) k n H Q) := W_getf (rfl : (pj lw).1 6 41 = some (.getfield 34, 3, 17))
theorem w6_44 {x : Int32} {l0 l1 l2 : Slot} : W (pj lw) 6 44 (l0 :: l1 :: l2 :: .val (.int x) :: L) S k n H Q ↔ W (pj lw) 6 45 (l0 :: l1 :: l2 :: .val (.int x) :: L) (.int x :: S) k n H Q := W_s (rfl : (pj lw).1 6 44 = some (.iload_n 3, 1, 0)) rfl rfl rfl
theorem w6_45 {i : Int32} {a : Nat} : W (pj lw) 6 45 L (.int i :: .ref a :: S) k n H Q ↔ (inA H a .int i = true ∧ W (pj lw) 6 46 L (elt H a i :: S) k n H Q) := W_iaload (rfl : (pj lw).1 6 45 = some (.iaload, 1, 0))
theorem w6_46 {x : Int32} {l0 l1 l2 l3 l4 l5 l6 l7 l8 : Slot} : W (pj lw) 6 46 (l0 :: l1 :: l2 :: l3 :: l4 :: l5 :: l6 :: l7 :: l8 :: .unset :: L) (.int x :: S) k n H Q ↔ W (pj lw) 6 48 (l0 :: l1 :: l2 :: l3 :: l4 :: l5 :: l6 :: l7 :: l8 :: .val (.int x) :: L) S k n H Q := W_ist (rfl : (pj lw).1 6 46 = some (.istore 9, 2, 0)) rfl rfl
theorem w6_48 {x : Int32} {l0 l1 l2 l3 : Slot} : W (pj lw) 6 48 (l0 :: l1 :: l2 :: l3 :: .val (.int x) :: L) S k n H Q ↔ W (pj lw) 6 50 (l0 :: l1 :: l2 :: l3 :: .val (.int x) :: L) (.int x :: S) k n H Q := W_s (rfl : (pj lw).1 6 48 = some (.iload 4, 2, 0)) rfl rfl rfl
theorem w6_50 {x : Int32} {l0 l1 l2 l3 l4 l5 : Slot} : W (pj lw) 6 50 (l0 :: l1 :: l2 :: l3 :: l4 :: l5 :: .val (.int x) :: L) S k n H Q ↔ W (pj lw) 6 52 (l0 :: l1 :: l2 :: l3 :: l4 :: l5 :: .val (.int x) :: L) (.int x :: S) k n H Q := W_s (rfl : (pj lw).1 6 50 = some (.iload 6, 2, 0)) rfl rfl rfl
theorem w6_52 {x y : Int32} : W (pj lw) 6 52 L (.int y :: .int x :: S) k n H Q ↔ (if x = y then W (pj lw) 6 62 L S k n H Q else W (pj lw) 6 55 L S k n H Q) := W_icmp_eq (rfl : (pj lw).1 6 52 = some (.if_icmp .eq 10, 3, 0)) rfl
theorem w6_55 {x : Int32} {l0 l1 l2 l3 : Slot} : W (pj lw) 6 55 (l0 :: l1 :: l2 :: l3 :: .val (.int x) :: L) S k n H Q ↔ W (pj lw) 6 57 (l0 :: l1 :: l2 :: l3 :: .val (.int x) :: L) (.int x :: S) k n H Q := W_s (rfl : (pj lw).1 6 55 = some (.iload 4, 2, 0)) rfl rfl rfl
theorem w6_57 {x : Int32} {l0 l1 l2 l3 l4 l5 l6 : Slot} : W (pj lw) 6 57 (l0 :: l1 :: l2 :: l3 :: l4 :: l5 :: l6 :: .val (.int x) :: L) S k n H Q ↔ W (pj lw) 6 59 (l0 :: l1 :: l2 :: l3 :: l4 :: l5 :: l6 :: .val (.int x) :: L) (.int x :: S) k n H Q := W_s (rfl : (pj lw).1 6 57 = some (.iload 7, 2, 0)) rfl rfl rfl
theorem w6_59 {x y : Int32} : W (pj lw) 6 59 L (.int y :: .int x :: S) k n H Q ↔ (if x = y then W (pj lw) 6 62 L S k n H Q else W (pj lw) 6 66 L S k n H Q) := W_icmp_ne (rfl : (pj lw).1 6 59 = some (.if_icmp .ne 7, 3, 0)) rfl
theorem w6_62 : W (pj lw) 6 62 L S k n H Q ↔ W (pj lw) 6 63 L (.int 1 :: S) k n H Q := W_s (rfl : (pj lw).1 6 62 = some (.iconst 1, 1, 0)) rfl rfl rfl
theorem w6_63 : W (pj lw) 6 63 L S k n H Q ↔ W (pj lw) 6 67 L S k n H Q := W_goto (rfl : (pj lw).1 6 63 = some (.goto 4, 3, 0)) rfl
theorem w6_66 : W (pj lw) 6 66 L S k n H Q ↔ W (pj lw) 6 67 L (.int 0 :: S) k n H Q := W_s (rfl : (pj lw).1 6 66 = some (.iconst 0, 1, 0)) rfl rfl rfl
theorem w6_67 {x : Int32} {l0 l1 l2 l3 l4 l5 l6 l7 l8 l9 : Slot} : W (pj lw) 6 67 (l0 :: l1 :: l2 :: l3 :: l4 :: l5 :: l6 :: l7 :: l8 :: l9 :: .unset :: L) (.int x :: S) k n H Q ↔ W (pj lw) 6 69 (l0 :: l1 :: l2 :: l3 :: l4 :: l5 :: l6 :: l7 :: l8 :: l9 :: .val (.int x) :: L) S k n H Q := W_ist (rfl : (pj lw).1 6 67 = some (.istore 10, 2, 0)) rfl rfl
theorem w6_69 {x : Int32} {l0 l1 l2 l3 l4 : Slot} : W (pj lw) 6 69 (l0 :: l1 :: l2 :: l3 :: l4 :: .val (.int x) :: L) S k n H Q ↔ W (pj lw) 6 71 (l0 :: l1 :: l2 :: l3 :: l4 :: .val (.int x) :: L) (.int x :: S) k n H Q := W_s (rfl : (pj lw).1 6 69 = some (.iload 5, 2, 0)) rfl rfl rfl
theorem w6_71 {x : Int32} {l0 l1 l2 l3 l4 l5 : Slot} : W (pj lw) 6 71 (l0 :: l1 :: l2 :: l3 :: l4 :: l5 :: .val (.int x) :: L) S k n H Q ↔ W (pj lw) 6 73 (l0 :: l1 :: l2 :: l3 :: l4 :: l5 :: .val (.int x) :: L) (.int x :: S) k n H Q := W_s (rfl : (pj lw).1 6 71 = some (.iload 6, 2, 0)) rfl rfl rfl
theorem w6_73 {x y : Int32} : W (pj lw) 6 73 L (.int y :: .int x :: S) k n H Q ↔ (if x = y then W (pj lw) 6 83 L S k n H Q else W (pj lw) 6 76 L S k n H Q) := W_icmp_eq (rfl : (pj lw).1 6 73 = some (.if_icmp .eq 10, 3, 0)) rfl
theorem w6_76 {x : Int32} {l0 l1 l2 l3 l4 : Slot} : W (pj lw) 6 76 (l0 :: l1 :: l2 :: l3 :: l4 :: .val (.int x) :: L) S k n H Q ↔ W (pj lw) 6 78 (l0 :: l1 :: l2 :: l3 :: l4 :: .val (.int x) :: L) (.int x :: S) k n H Q := W_s (rfl : (pj lw).1 6 76 = some (.iload 5, 2, 0)) rfl rfl rfl
theorem w6_78 {x : Int32} {l0 l1 l2 l3 l4 l5 l6 : Slot} : W (pj lw) 6 78 (l0 :: l1 :: l2 :: l3 :: l4 :: l5 :: l6 :: .val (.int x) :: L) S k n H Q ↔ W (pj lw) 6 80 (l0 :: l1 :: l2 :: l3 :: l4 :: l5 :: l6 :: .val (.int x) :: L) (.int x :: S) k n H Q := W_s (rfl : (pj lw).1 6 78 = some (.iload 7, 2, 0)) rfl rfl rfl
theorem w6_80 {x y : Int32} : W (pj lw) 6 80 L (.int y :: .int x :: S) k n H Q ↔ (if x = y then W (pj lw) 6 83 L S k n H Q else W (pj lw) 6 87 L S k n H Q) := W_icmp_ne (rfl : (pj lw).1 6 80 = some (.if_icmp .ne 7, 3, 0)) rfl
theorem w6_83 : W (pj lw) 6 83 L S k n H Q ↔ W (pj lw) 6 84 L (.int 1 :: S) k n H Q := W_s (rfl : (pj lw).1 6 83 = some (.iconst 1, 1, 0)) rfl rfl rfl
theorem w6_84 : W (pj lw) 6 84 L S k n H Q ↔ W (pj lw) 6 88 L S k n H Q := W_goto (rfl : (pj lw).1 6 84 = some (.goto 4, 3, 0)) rfl
theorem w6_87 : W (pj lw) 6 87 L S k n H Q ↔ W (pj lw) 6 88 L (.int 0 :: S) k n H Q := W_s (rfl : (pj lw).1 6 87 = some (.iconst 0, 1, 0)) rfl rfl rfl
theorem w6_88 {x : Int32} {l0 l1 l2 l3 l4 l5 l6 l7 l8 l9 l10 : Slot} : W (pj lw) 6 88 (l0 :: l1 :: l2 :: l3 :: l4 :: l5 :: l6 :: l7 :: l8 :: l9 :: l10 :: .unset :: L) (.int x :: S) k n H Q ↔ W (pj lw) 6 90 (l0 :: l1 :: l2 :: l3 :: l4 :: l5 :: l6 :: l7 :: l8 :: l9 :: l10 :: .val (.int x) :: L) S k n H Q := W_ist (rfl : (pj lw).1 6 88 = some (.istore 11, 2, 0)) rfl rfl
theorem w6_90 {x : Int32} {l0 l1 l2 l3 : Slot} : W (pj lw) 6 90 (l0 :: l1 :: l2 :: l3 :: .val (.int x) :: L) S k n H Q ↔ W (pj lw) 6 92 (l0 :: l1 :: l2 :: l3 :: .val (.int x) :: L) (.int x :: S) k n H Q := W_s (rfl : (pj lw).1 6 90 = some (.iload 4, 2, 0)) rfl rfl rfl
theorem w6_92 {x : Int32} {l0 l1 l2 l3 l4 l5 l6 l7 : Slot} : W (pj lw) 6 92 (l0 :: l1 :: l2 :: l3 :: l4 :: l5 :: l6 :: l7 :: .val (.int x) :: L) S k n H Q ↔ W (pj lw) 6 94 (l0 :: l1 :: l2 :: l3 :: l4 :: l5 :: l6 :: l7 :: .val (.int x) :: L) (.int x :: S) k n H Q := W_s (rfl : (pj lw).1 6 92 = some (.iload 8, 2, 0)) rfl rfl rfl
theorem w6_94 {x y : Int32} : W (pj lw) 6 94 L (.int y :: .int x :: S) k n H Q ↔ (if x = y then W (pj lw) 6 104 L S k n H Q else W (pj lw) 6 97 L S k n H Q) := W_icmp_eq (rfl : (pj lw).1 6 94 = some (.if_icmp .eq 10, 3, 0)) rfl
theorem w6_97 {x : Int32} {l0 l1 l2 l3 : Slot} : W (pj lw) 6 97 (l0 :: l1 :: l2 :: l3 :: .val (.int x) :: L) S k n H Q ↔ W (pj lw) 6 99 (l0 :: l1 :: l2 :: l3 :: .val (.int x) :: L) (.int x :: S) k n H Q := W_s (rfl : (pj lw).1 6 97 = some (.iload 4, 2, 0)) rfl rfl rfl
theorem w6_99 {x : Int32} {l0 l1 l2 l3 l4 l5 l6 l7 l8 : Slot} : W (pj lw) 6 99 (l0 :: l1 :: l2 :: l3 :: l4 :: l5 :: l6 :: l7 :: l8 :: .val (.int x) :: L) S k n H Q ↔ W (pj lw) 6 101 (l0 :: l1 :: l2 :: l3 :: l4 :: l5 :: l6 :: l7 :: l8 :: .val (.int x) :: L) (.int x :: S) k n H Q := W_s (rfl : (pj lw).1 6 99 = some (.iload 9, 2, 0)) rfl rfl rfl
theorem w6_101 {x y : Int32} : W (pj lw) 6 101 L (.int y :: .int x :: S) k n H Q ↔ (if x = y then W (pj lw) 6 104 L S k n H Q else W (pj lw) 6 108 L S k n H Q) := W_icmp_ne (rfl : (pj lw).1 6 101 = some (.if_icmp .ne 7, 3, 0)) rfl
theorem w6_104 : W (pj lw) 6 104 L S k n H Q ↔ W (pj lw) 6 105 L (.int 1 :: S) k n H Q := W_s (rfl : (pj lw).1 6 104 = some (.iconst 1, 1, 0)) rfl rfl rfl
theorem w6_105 : W (pj lw) 6 105 L S k n H Q ↔ W (pj lw) 6 109 L S k n H Q := W_goto (rfl : (pj lw).1 6 105 = some (.goto 4, 3, 0)) rfl
theorem w6_108 : W (pj lw) 6 108 L S k n H Q ↔ W (pj lw) 6 109 L (.int 0 :: S) k n H Q := W_s (rfl : (pj lw).1 6 108 = some (.iconst 0, 1, 0)) rfl rfl rfl
theorem w6_109 {x : Int32} {l0 l1 l2 l3 l4 l5 l6 l7 l8 l9 l10 l11 : Slot} : W (pj lw) 6 109 (l0 :: l1 :: l2 :: l3 :: l4 :: l5 :: l6 :: l7 :: l8 :: l9 :: l10 :: l11 :: .unset :: L) (.int x :: S) k n H Q ↔ W (pj lw) 6 111 (l0 :: l1 :: l2 :: l3 :: l4 :: l5 :: l6 :: l7 :: l8 :: l9 :: l10 :: l11 :: .val (.int x) :: L) S k n H Q := W_ist (rfl : (pj lw).1 6 109 = some (.istore 12, 2, 0)) rfl rfl
theorem w6_111 {x : Int32} {l0 l1 l2 l3 l4 : Slot} : W (pj lw) 6 111 (l0 :: l1 :: l2 :: l3 :: l4 :: .val (.int x) :: L) S k n H Q ↔ W (pj lw) 6 113 (l0 :: l1 :: l2 :: l3 :: l4 :: .val (.int x) :: L) (.int x :: S) k n H Q := W_s (rfl : (pj lw).1 6 111 = some (.iload 5, 2, 0)) rfl rfl rfl
theorem w6_113 {x : Int32} {l0 l1 l2 l3 l4 l5 l6 l7 : Slot} : W (pj lw) 6 113 (l0 :: l1 :: l2 :: l3 :: l4 :: l5 :: l6 :: l7 :: .val (.int x) :: L) S k n H Q ↔ W (pj lw) 6 115 (l0 :: l1 :: l2 :: l3 :: l4 :: l5 :: l6 :: l7 :: .val (.int x) :: L) (.int x :: S) k n H Q := W_s (rfl : (pj lw).1 6 113 = some (.iload 8, 2, 0)) rfl rfl rfl
theorem w6_115 {x y : Int32} : W (pj lw) 6 115 L (.int y :: .int x :: S) k n H Q ↔ (if x = y then W (pj lw) 6 125 L S k n H Q else W (pj lw) 6 118 L S k n H Q) := W_icmp_eq (rfl : (pj lw).1 6 115 = some (.if_icmp .eq 10, 3, 0)) rfl
theorem w6_118 {x : Int32} {l0 l1 l2 l3 l4 : Slot} : W (pj lw) 6 118 (l0 :: l1 :: l2 :: l3 :: l4 :: .val (.int x) :: L) S k n H Q ↔ W (pj lw) 6 120 (l0 :: l1 :: l2 :: l3 :: l4 :: .val (.int x) :: L) (.int x :: S) k n H Q := W_s (rfl : (pj lw).1 6 118 = some (.iload 5, 2, 0)) rfl rfl rfl
theorem w6_120 {x : Int32} {l0 l1 l2 l3 l4 l5 l6 l7 l8 : Slot} : W (pj lw) 6 120 (l0 :: l1 :: l2 :: l3 :: l4 :: l5 :: l6 :: l7 :: l8 :: .val (.int x) :: L) S k n H Q ↔ W (pj lw) 6 122 (l0 :: l1 :: l2 :: l3 :: l4 :: l5 :: l6 :: l7 :: l8 :: .val (.int x) :: L) (.int x :: S) k n H Q := W_s (rfl : (pj lw).1 6 120 = some (.iload 9, 2, 0)) rfl rfl rfl
theorem w6_122 {x y : Int32} : W (pj lw) 6 122 L (.int y :: .int x :: S) k n H Q ↔ (if x = y then W (pj lw) 6 125 L S k n H Q else W (pj lw) 6 129 L S k n H Q) := W_icmp_ne (rfl : (pj lw).1 6 122 = some (.if_icmp .ne 7, 3, 0)) rfl
theorem w6_125 : W (pj lw) 6 125 L S k n H Q ↔ W (pj lw) 6 126 L (.int 1 :: S) k n H Q := W_s (rfl : (pj lw).1 6 125 = some (.iconst 1, 1, 0)) rfl rfl rfl
theorem w6_126 : W (pj lw) 6 126 L S k n H Q ↔ W (pj lw) 6 130 L S k n H Q := W_goto (rfl : (pj lw).1 6 126 = some (.goto 4, 3, 0)) rfl
theorem w6_129 : W (pj lw) 6 129 L S k n H Q ↔ W (pj lw) 6 130 L (.int 0 :: S) k n H Q := W_s (rfl : (pj lw).1 6 129 = some (.iconst 0, 1, 0)) rfl rfl rfl
theorem w6_130 {x : Int32} {l0 l1 l2 l3 l4 l5 l6 l7 l8 l9 l10 l11 l12 : Slot} : W (pj lw) 6 130 (l0 :: l1 :: l2 :: l3 :: l4 :: l5 :: l6 :: l7 :: l8 :: l9 :: l10 :: l11 :: l12 :: .unset :: L) (.int x :: S) k n H Q ↔ W (pj lw) 6 132 (l0 :: l1 :: l2 :: l3 :: l4 :: l5 :: l6 :: l7 :: l8 :: l9 :: l10 :: l11 :: l12 :: .val (.int x) :: L) S k n H Q := W_ist (rfl : (pj lw).1 6 130 = some (.istore 13, 2, 0)) rfl rfl
theorem w6_132 {x : Int32} {l0 l1 l2 l3 l4 l5 l6 l7 l8 l9 : Slot} : W (pj lw) 6 132 (l0 :: l1 :: l2 :: l3 :: l4 :: l5 :: l6 :: l7 :: l8 :: l9 :: .val (.int x) :: L) S k n H Q ↔ W (pj lw) 6 134 (l0 :: l1 :: l2 :: l3 :: l4 :: l5 :: l6 :: l7 :: l8 :: l9 :: .val (.int x) :: L) (.int x :: S) k n H Q := W_s (rfl : (pj lw).1 6 132 = some (.iload 10, 2, 0)) rfl rfl rfl
theorem w6_134 {x : Int32} : W (pj lw) 6 134 L (.int x :: S) k n H Q ↔ (if x = 0 then W (pj lw) 6 142 L S k n H Q else W (pj lw) 6 137 L S k n H Q) := W_if_eq (rfl : (pj lw).1 6 134 = some (.ifCond .eq 8, 3, 0)) rfl
theorem w6_137 {x : Int32} {l0 l1 l2 l3 l4 l5 l6 l7 l8 l9 l10 l11 l12 : Slot} : W (pj lw) 6 137 (l0 :: l1 :: l2 :: l3 :: l4 :: l5 :: l6 :: l7 :: l8 :: l9 :: l10 :: l11 :: l12 :: .val (.int x) :: L) S k n H Q ↔ W (pj lw) 6 139 (l0 :: l1 :: l2 :: l3 :: l4 :: l5 :: l6 :: l7 :: l8 :: l9 :: l10 :: l11 :: l12 :: .val (.int x) :: L) (.int x :: S) k n H Q := W_s (rfl : (pj lw).1 6 137 = some (.iload 13, 2, 0)) rfl rfl rfl
theorem w6_139 {x : Int32} : W (pj lw) 6 139 L (.int x :: S) k n H Q ↔ (if x = 0 then W (pj lw) 6 142 L S k n H Q else W (pj lw) 6 152 L S k n H Q) := W_if_ne (rfl : (pj lw).1 6 139 = some (.ifCond .ne 13, 3, 0)) rfl
theorem w6_142 {x : Int32} {l0 l1 l2 l3 l4 l5 l6 l7 l8 l9 l10 : Slot} : W (pj lw) 6 142 (l0 :: l1 :: l2 :: l3 :: l4 :: l5 :: l6 :: l7 :: l8 :: l9 :: l10 :: .val (.int x) :: L) S k n H Q ↔ W (pj lw) 6 144 (l0 :: l1 :: l2 :: l3 :: l4 :: l5 :: l6 :: l7 :: l8 :: l9 :: l10 :: .val (.int x) :: L) (.int x :: S) k n H Q := W_s (rfl : (pj lw).1 6 142 = some (.iload 11, 2, 0)) rfl rfl rfl
theorem w6_144 {x : Int32} : W (pj lw) 6 144 L (.int x :: S) k n H Q ↔ (if x = 0 then W (pj lw) 6 156 L S k n H Q else W (pj lw) 6 147 L S k n H Q) := W_if_eq (rfl : (pj lw).1 6 144 = some (.ifCond .eq 12, 3, 0)) rfl
theorem w6_147 {x : Int32} {l0 l1 l2 l3 l4 l5 l6 l7 l8 l9 l10 l11 : Slot} : W (pj lw) 6 147 (l0 :: l1 :: l2 :: l3 :: l4 :: l5 :: l6 :: l7 :: l8 :: l9 :: l10 :: l11 :: .val (.int x) :: L) S k n H Q ↔ W (pj lw) 6 149 (l0 :: l1 :: l2 :: l3 :: l4 :: l5 :: l6 :: l7 :: l8 :: l9 :: l10 :: l11 :: .val (.int x) :: L) (.int x :: S) k n H Q := W_s (rfl : (pj lw).1 6 147 = some (.iload 12, 2, 0)) rfl rfl rfl
theorem w6_149 {x : Int32} : W (pj lw) 6 149 L (.int x :: S) k n H Q ↔ (if x = 0 then W (pj lw) 6 156 L S k n H Q else W (pj lw) 6 152 L S k n H Q) := W_if_eq (rfl : (pj lw).1 6 149 = some (.ifCond .eq 7, 3, 0)) rfl
theorem w6_152 : W (pj lw) 6 152 L S k n H Q ↔ W (pj lw) 6 153 L (.int 1 :: S) k n H Q := W_s (rfl : (pj lw).1 6 152 = some (.iconst 1, 1, 0)) rfl rfl rfl
theorem w6_153 : W (pj lw) 6 153 L S k n H Q ↔ W (pj lw) 6 157 L S k n H Q := W_goto (rfl : (pj lw).1 6 153 = some (.goto 4, 3, 0)) rfl
theorem w6_156 : W (pj lw) 6 156 L S k n H Q ↔ W (pj lw) 6 157 L (.int 0 :: S) k n H Q := W_s (rfl : (pj lw).1 6 156 = some (.iconst 0, 1, 0)) rfl rfl rfl
theorem w6_157 {x : Int32} : W (pj lw) 6 157 L (.int x :: S) k n H Q ↔ ((x = 0 ∨ x = 1) ∧ Q (some (.int x)) H) := W_rz (rfl : (pj lw).1 6 157 = some (.ireturn, 1, 0)) rfl
theorem c7 {x0 : Nat} {x1 : Int32} : Cl (pj lw) 7 [.ref x0, .int x1] H Q ↔ W (pj lw) 7 0 [.val (.ref x0), .val (.int x1)] [] 0 0 H Q := cl_unf rfl
theorem w7_0 {x : Int32} {l0 : Slot} : W (pj lw) 7 0 (l0 :: .val (.int x) :: L) S k n H Q ↔ W (pj lw) 7 1 (l0 :: .val (.int x) :: L) (.int x :: S) k n H Q := W_s (rfl : (pj lw).1 7 0 = some (.iload_n 1, 1, 0)) rfl rfl rfl
theorem w7_1 : W (pj lw) 7 1 L S k n H Q ↔ W (pj lw) 7 2 L (.int 1 :: S) k n H Q := W_s (rfl : (pj lw).1 7 1 = some (.iconst 1, 1, 0)) rfl rfl rfl
theorem w7_2 {x y : Int32} : W (pj lw) 7 2 L (.int y :: .int x :: S) k n H Q ↔ (if x < y then W (pj lw) 7 17 L S k n H Q else W (pj lw) 7 5 L S k n H Q) := W_icmp_lt (rfl : (pj lw).1 7 2 = some (.if_icmp .lt 15, 3, 0)) rfl
theorem w7_5 {x : Int32} {l0 : Slot} : W (pj lw) 7 5 (l0 :: .val (.int x) :: L) S k n H Q ↔ W (pj lw) 7 6 (l0 :: .val (.int x) :: L) (.int x :: S) k n H Q := W_s (rfl : (pj lw).1 7 5 = some (.iload_n 1, 1, 0)) rfl rfl rfl
theorem w7_6 {x : Nat} : W (pj lw) 7 6 (.val (.ref x) :: L) S k n H Q ↔ W (pj lw) 7 7 (.val (.ref x) :: L) (.ref x :: S) k n H Q := W_s (rfl : (pj lw).1 7 6 = some (.aload_n 0, 1, 0)) rfl rfl rfl
theorem w7_7 {a : Nat} : W (pj lw) 7 7 L (.ref a :: S) k n H Q ↔ (isO H a = true ∧ W (pj lw) 7 10 L (fld H a 4 :: S) k n H Q) := W_getf (rfl : (pj lw).1 7 7 = some (.getfield 66, 3, 4))
theorem w7_10 {x y : Int32} : W (pj lw) 7 10 L (.int y :: .int x :: S) k n H Q ↔ (if y < x then W (pj lw) 7 17 L S k n H Q else W (pj lw) 7 13 L S k n H Q) := W_icmp_gt (rfl : (pj lw).1 7 10 = some (.if_icmp .gt 7, 3, 0)) rfl
theorem w7_13 : W (pj lw) 7 13 L S k n H Q ↔ W (pj lw) 7 14 L (.int 1 :: S) k n H Q := W_s (rfl : (pj lw).1 7 13 = some (.iconst 1, 1, 0)) rfl rfl rfl
theorem w7_14 : W (pj lw) 7 14 L S k n H Q ↔ W (pj lw) 7 18 L S k n H Q := W_goto (rfl : (pj lw).1 7 14 = some (.goto 4, 3, 0)) rfl
theorem w7_17 : W (pj lw) 7 17 L S k n H Q ↔ W (pj lw) 7 18 L (.int 0 :: S) k n H Q := W_s (rfl : (pj lw).1 7 17 = some (.iconst 0, 1, 0)) rfl rfl rfl
theorem w7_18 {x : Int32} : W (pj lw) 7 18 L (.int x :: S) k n H Q ↔ ((x = 0 ∨ x = 1) ∧ Q (some (.int x)) H) := W_rz (rfl : (pj lw).1 7 18 = some (.ireturn, 1, 0)) rfl
theorem c8 {x0 : Nat} {x1 : Int32} : Cl (pj lw) 8 [.ref x0, .int x1] H Q ↔ W (pj lw) 8 0 [.val (.ref x0), .val (.int x1)] [] 0 0 H Q := cl_unf rfl
theorem w8_0 {x : Int32} {l0 : Slot} : W (pj lw) 8 0 (l0 :: .val (.int x) :: L) S k n H Q ↔ W (pj lw) 8 1 (l0 :: .val (.int x) :: L) (.int x :: S) k n H Q := W_s (rfl : (pj lw).1 8 0 = some (.iload_n 1, 1, 0)) rfl rfl rfl
theorem w8_1 : W (pj lw) 8 1 L S k n H Q ↔ W (pj lw) 8 2 L (.int 1 :: S) k n H Q := W_s (rfl : (pj lw).1 8 1 = some (.iconst 1, 1, 0)) rfl rfl rfl
theorem w8_2 {x y : Int32} : W (pj lw) 8 2 L (.int y :: .int x :: S) k n H Q ↔ (if x < y then W (pj lw) 8 17 L S k n H Q else W (pj lw) 8 5 L S k n H Q) := W_icmp_lt (rfl : (pj lw).1 8 2 = some (.if_icmp .lt 15, 3, 0)) rfl
theorem w8_5 {x : Int32} {l0 : Slot} : W (pj lw) 8 5 (l0 :: .val (.int x) :: L) S k n H Q ↔ W (pj lw) 8 6 (l0 :: .val (.int x) :: L) (.int x :: S) k n H Q := W_s (rfl : (pj lw).1 8 5 = some (.iload_n 1, 1, 0)) rfl rfl rfl
theorem w8_6 {x : Nat} : W (pj lw) 8 6 (.val (.ref x) :: L) S k n H Q ↔ W (pj lw) 8 7 (.val (.ref x) :: L) (.ref x :: S) k n H Q := W_s (rfl : (pj lw).1 8 6 = some (.aload_n 0, 1, 0)) rfl rfl rfl
theorem w8_7 {a : Nat} : W (pj lw) 8 7 L (.ref a :: S) k n H Q ↔ (isO H a = true ∧ W (pj lw) 8 10 L (fld H a 0 :: S) k n H Q) := W_getf (rfl : (pj lw).1 8 7 = some (.getfield 49, 3, 0))
theorem w8_10 {x y : Int32} : W (pj lw) 8 10 L (.int y :: .int x :: S) k n H Q ↔ (if y < x then W (pj lw) 8 17 L S k n H Q else W (pj lw) 8 13 L S k n H Q) := W_icmp_gt (rfl : (pj lw).1 8 10 = some (.if_icmp .gt 7, 3, 0)) rfl
theorem w8_13 : W (pj lw) 8 13 L S k n H Q ↔ W (pj lw) 8 14 L (.int 1 :: S) k n H Q := W_s (rfl : (pj lw).1 8 13 = some (.iconst 1, 1, 0)) rfl rfl rfl
theorem w8_14 : W (pj lw) 8 14 L S k n H Q ↔ W (pj lw) 8 18 L S k n H Q := W_goto (rfl : (pj lw).1 8 14 = some (.goto 4, 3, 0)) rfl
theorem w8_17 : W (pj lw) 8 17 L S k n H Q ↔ W (pj lw) 8 18 L (.int 0 :: S) k n H Q := W_s (rfl : (pj lw).1 8 17 = some (.iconst 0, 1, 0)) rfl rfl rfl
theorem w8_18 {x : Int32} : W (pj lw) 8 18 L (.int x :: S) k n H Q ↔ ((x = 0 ∨ x = 1) ∧ Q (some (.int x)) H) := W_rz (rfl : (pj lw).1 8 18 = some (.ireturn, 1, 0)) rfl
theorem c9 {x0 : Nat} {x1 : Int32} {x2 : Int32} {x3 : Int32} : Cl (pj lw) 9 [.ref x0, .int x1, .int x2, .int x3] H Q ↔ W (pj lw) 9 0 [.val (.ref x0), .val (.int x1), .val (.int x2), .val (.int x3)] [] 0 0 H Q := cl_unf rfl
theorem w9_0 {x : Nat} : W (pj lw) 9 0 (.val (.ref x) :: L) S k n H Q ↔ W (pj lw) 9 1 (.val (.ref x) :: L) (.ref x :: S) k n H Q := W_s (rfl : (pj lw).1 9 0 = some (.aload_n 0, 1, 0)) rfl rfl rfl
theorem w9_1 {a : Nat} : W (pj lw) 9 1 L (.ref a :: S) k n H Q ↔ (isO H a = true ∧ W (pj lw) 9 4 L (fld H a 4 :: S) k n H Q) := W_getf (rfl : (pj lw).1 9 1 = some (.getfield 66, 3, 4))
theorem w9_4 : W (pj lw) 9 4 L S k n H Q ↔ W (pj lw) 9 6 L (.int 32 :: S) k n H Q := W_s (rfl : (pj lw).1 9 4 = some (.bipush 32, 2, 0)) rfl rfl rfl
theorem w9_6 {x y : Int32} : W (pj lw) 9 6 L (.int y :: .int x :: S) k n H Q ↔ (if x < y then W (pj lw) 9 11 L S k n H Q else W (pj lw) 9 9 L S k n H Q) := W_icmp_lt (rfl : (pj lw).1 9 6 = some (.if_icmp .lt 5, 3, 0)) rfl
theorem w9_9 : W (pj lw) 9 9 L S k n H Q ↔ W (pj lw) 9 10 L (.int (-1) :: S) k n H Q := W_s (rfl : (pj lw).1 9 9 = some (.iconst (-1), 1, 0)) rfl rfl rfl
theorem w9_10 {x : Int32} : W (pj lw) 9 10 L (.int x :: S) k n H Q ↔ Q (some (.int x)) H := W_r (rfl : (pj lw).1 9 10 = some (.ireturn, 1, 0)) rfl
theorem w9_11 {x : Int32} {l0 : Slot} : W (pj lw) 9 11 (l0 :: .val (.int x) :: L) S k n H Q ↔ W (pj lw) 9 12 (l0 :: .val (.int x) :: L) (.int x :: S) k n H Q := W_s (rfl : (pj lw).1 9 11 = some (.iload_n 1, 1, 0)) rfl rfl rfl
theorem w9_12 : W (pj lw) 9 12 L S k n H Q ↔ W (pj lw) 9 13 L (.int 1 :: S) k n H Q := W_s (rfl : (pj lw).1 9 12 = some (.iconst 1, 1, 0)) rfl rfl rfl
theorem w9_13 {x y : Int32} : W (pj lw) 9 13 L (.int y :: .int x :: S) k n H Q ↔ (if x = y then W (pj lw) 9 24 L S k n H Q else W (pj lw) 9 16 L S k n H Q) := W_icmp_eq (rfl : (pj lw).1 9 13 = some (.if_icmp .eq 11, 3, 0)) rfl
theorem w9_16 {x : Int32} {l0 : Slot} : W (pj lw) 9 16 (l0 :: .val (.int x) :: L) S k n H Q ↔ W (pj lw) 9 17 (l0 :: .val (.int x) :: L) (.int x :: S) k n H Q := W_s (rfl : (pj lw).1 9 16 = some (.iload_n 1, 1, 0)) rfl rfl rfl
theorem w9_17 : W (pj lw) 9 17 L S k n H Q ↔ W (pj lw) 9 18 L (.int 2 :: S) k n H Q := W_s (rfl : (pj lw).1 9 17 = some (.iconst 2, 1, 0)) rfl rfl rfl
theorem w9_18 {x y : Int32} : W (pj lw) 9 18 L (.int y :: .int x :: S) k n H Q ↔ (if x = y then W (pj lw) 9 24 L S k n H Q else W (pj lw) 9 21 L S k n H Q) := W_icmp_eq (rfl : (pj lw).1 9 18 = some (.if_icmp .eq 6, 3, 0)) rfl
theorem w9_21 : W (pj lw) 9 21 L S k n H Q ↔ W (pj lw) 9 23 L (.int (-2) :: S) k n H Q := W_s (rfl : (pj lw).1 9 21 = some (.bipush (-2), 2, 0)) rfl rfl rfl
theorem w9_23 {x : Int32} : W (pj lw) 9 23 L (.int x :: S) k n H Q ↔ Q (some (.int x)) H := W_r (rfl : (pj lw).1 9 23 = some (.ireturn, 1, 0)) rfl
theorem w9_24 {x : Int32} {l0 l1 : Slot} : W (pj lw) 9 24 (l0 :: l1 :: .val (.int x) :: L) S k n H Q ↔ W (pj lw) 9 25 (l0 :: l1 :: .val (.int x) :: L) (.int x :: S) k n H Q := W_s (rfl : (pj lw).1 9 24 = some (.iload_n 2, 1, 0)) rfl rfl rfl
theorem w9_25 {x : Int32} : W (pj lw) 9 25 L (.int x :: S) k n H Q ↔ (if x = 0 then W (pj lw) 9 28 L S k n H Q else W (pj lw) 9 32 L S k n H Q) := W_if_ne (rfl : (pj lw).1 9 25 = some (.ifCond .ne 7, 3, 0)) rfl
theorem w9_28 : W (pj lw) 9 28 L S k n H Q ↔ W (pj lw) 9 29 L (.int 1 :: S) k n H Q := W_s (rfl : (pj lw).1 9 28 = some (.iconst 1, 1, 0)) rfl rfl rfl
theorem w9_29 : W (pj lw) 9 29 L S k n H Q ↔ W (pj lw) 9 33 L S k n H Q := W_goto (rfl : (pj lw).1 9 29 = some (.goto 4, 3, 0)) rfl
theorem w9_32 : W (pj lw) 9 32 L S k n H Q ↔ W (pj lw) 9 33 L (.int 0 :: S) k n H Q := W_s (rfl : (pj lw).1 9 32 = some (.iconst 0, 1, 0)) rfl rfl rfl
theorem w9_33 {x : Int32} {l0 l1 l2 : Slot} : W (pj lw) 9 33 (l0 :: l1 :: l2 :: .val (.int x) :: L) S k n H Q ↔ W (pj lw) 9 34 (l0 :: l1 :: l2 :: .val (.int x) :: L) (.int x :: S) k n H Q := W_s (rfl : (pj lw).1 9 33 = some (.iload_n 3, 1, 0)) rfl rfl rfl
theorem w9_34 {x : Int32} : W (pj lw) 9 34 L (.int x :: S) k n H Q ↔ (if x = 0 then W (pj lw) 9 37 L S k n H Q else W (pj lw) 9 41 L S k n H Q) := W_if_ne (rfl : (pj lw).1 9 34 = some (.ifCond .ne 7, 3, 0)) rfl
theorem w9_37 : W (pj lw) 9 37 L S k n H Q ↔ W (pj lw) 9 38 L (.int 1 :: S) k n H Q := W_s (rfl : (pj lw).1 9 37 = some (.iconst 1, 1, 0)) rfl rfl rfl
theorem w9_38 : W (pj lw) 9 38 L S k n H Q ↔ W (pj lw) 9 42 L S k n H Q := W_goto (rfl : (pj lw).1 9 38 = some (.goto 4, 3, 0)) rfl
theorem w9_41 : W (pj lw) 9 41 L S k n H Q ↔ W (pj lw) 9 42 L (.int 0 :: S) k n H Q := W_s (rfl : (pj lw).1 9 41 = some (.iconst 0, 1, 0)) rfl rfl rfl
theorem w9_42 {x y : Int32} : W (pj lw) 9 42 L (.int y :: .int x :: S) k n H Q ↔ (if x = y then W (pj lw) 9 48 L S k n H Q else W (pj lw) 9 45 L S k n H Q) := W_icmp_eq (rfl : (pj lw).1 9 42 = some (.if_icmp .eq 6, 3, 0)) rfl
theorem w9_45 : W (pj lw) 9 45 L S k n H Q ↔ W (pj lw) 9 47 L (.int (-2) :: S) k n H Q := W_s (rfl : (pj lw).1 9 45 = some (.bipush (-2), 2, 0)) rfl rfl rfl
theorem w9_47 {x : Int32} : W (pj lw) 9 47 L (.int x :: S) k n H Q ↔ Q (some (.int x)) H := W_r (rfl : (pj lw).1 9 47 = some (.ireturn, 1, 0)) rfl
theorem w9_48 {x : Int32} {l0 l1 : Slot} : W (pj lw) 9 48 (l0 :: l1 :: .val (.int x) :: L) S k n H Q ↔ W (pj lw) 9 49 (l0 :: l1 :: .val (.int x) :: L) (.int x :: S) k n H Q := W_s (rfl : (pj lw).1 9 48 = some (.iload_n 2, 1, 0)) rfl rfl rfl
theorem w9_49 {x : Int32} : W (pj lw) 9 49 L (.int x :: S) k n H Q ↔ (if x = 0 then W (pj lw) 9 100 L S k n H Q else W (pj lw) 9 52 L S k n H Q) := W_if_eq (rfl : (pj lw).1 9 49 = some (.ifCond .eq 51, 3, 0)) rfl
theorem w9_52 {x : Nat} : W (pj lw) 9 52 (.val (.ref x) :: L) S k n H Q ↔ W (pj lw) 9 53 (.val (.ref x) :: L) (.ref x :: S) k n H Q := W_s (rfl : (pj lw).1 9 52 = some (.aload_n 0, 1, 0)) rfl rfl rfl
theorem w9_53 {x : Int32} {l0 l1 : Slot} : W (pj lw) 9 53 (l0 :: l1 :: .val (.int x) :: L) S k n H Q ↔ W (pj lw) 9 54 (l0 :: l1 :: .val (.int x) :: L) (.int x :: S) k n H Q := W_s (rfl : (pj lw).1 9 53 = some (.iload_n 2, 1, 0)) rfl rfl rfl
theorem w9_54 {a : Nat} {x0 : Int32} : W (pj lw) 9 54 L (.int x0 :: .ref a :: S) k n H Q ↔ ((isO H a = true ∧ cs S + (2 + 11) + 0 ≤ 13) ∧ Cl (pj lw) 7 [.ref a, .int x0] H (fun v H => W (pj lw) 9 57 L (v.toList ++ S) k n H Q)) := W_inst (as := [.int x0]) (rfl : (pj lw).1 9 54 = some (.invokevirtual 99, 3, 7)) rfl rfl rfl (Nat.le_of_ble_eq_true rfl) (Nat.le_of_ble_eq_true rfl) ⟨rfl, rfl⟩
theorem w9_57 {x : Int32} : W (pj lw) 9 57 L (.int x :: S) k n H Q ↔ (if x = 0 then W (pj lw) 9 60 L S k n H Q else W (pj lw) 9 63 L S k n H Q) := W_if_ne (rfl : (pj lw).1 9 57 = some (.ifCond .ne 6, 3, 0)) rfl
theorem w9_60 : W (pj lw) 9 60 L S k n H Q ↔ W (pj lw) 9 62 L (.int (-3) :: S) k n H Q := W_s (rfl : (pj lw).1 9 60 = some (.bipush (-3), 2, 0)) rfl rfl rfl
theorem w9_62 {x : Int32} : W (pj lw) 9 62 L (.int x :: S) k n H Q ↔ Q (some (.int x)) H := W_r (rfl : (pj lw).1 9 62 = some (.ireturn, 1, 0)) rfl
theorem w9_63 {x : Nat} : W (pj lw) 9 63 (.val (.ref x) :: L) S k n H Q ↔ W (pj lw) 9 64 (.val (.ref x) :: L) (.ref x :: S) k n H Q := W_s (rfl : (pj lw).1 9 63 = some (.aload_n 0, 1, 0)) rfl rfl rfl
theorem w9_64 {x : Int32} {l0 l1 l2 : Slot} : W (pj lw) 9 64 (l0 :: l1 :: l2 :: .val (.int x) :: L) S k n H Q ↔ W (pj lw) 9 65 (l0 :: l1 :: l2 :: .val (.int x) :: L) (.int x :: S) k n H Q := W_s (rfl : (pj lw).1 9 64 = some (.iload_n 3, 1, 0)) rfl rfl rfl
theorem w9_65 {a : Nat} {x0 : Int32} : W (pj lw) 9 65 L (.int x0 :: .ref a :: S) k n H Q ↔ ((isO H a = true ∧ cs S + (2 + 11) + 0 ≤ 13) ∧ Cl (pj lw) 7 [.ref a, .int x0] H (fun v H => W (pj lw) 9 68 L (v.toList ++ S) k n H Q)) := W_inst (as := [.int x0]) (rfl : (pj lw).1 9 65 = some (.invokevirtual 99, 3, 7)) rfl rfl rfl (Nat.le_of_ble_eq_true rfl) (Nat.le_of_ble_eq_true rfl) ⟨rfl, rfl⟩
theorem w9_68 {x : Int32} : W (pj lw) 9 68 L (.int x :: S) k n H Q ↔ (if x = 0 then W (pj lw) 9 71 L S k n H Q else W (pj lw) 9 74 L S k n H Q) := W_if_ne (rfl : (pj lw).1 9 68 = some (.ifCond .ne 6, 3, 0)) rfl
theorem w9_71 : W (pj lw) 9 71 L S k n H Q ↔ W (pj lw) 9 73 L (.int (-3) :: S) k n H Q := W_s (rfl : (pj lw).1 9 71 = some (.bipush (-3), 2, 0)) rfl rfl rfl
theorem w9_73 {x : Int32} : W (pj lw) 9 73 L (.int x :: S) k n H Q ↔ Q (some (.int x)) H := W_r (rfl : (pj lw).1 9 73 = some (.ireturn, 1, 0)) rfl
theorem w9_74 {x : Nat} : W (pj lw) 9 74 (.val (.ref x) :: L) S k n H Q ↔ W (pj lw) 9 75 (.val (.ref x) :: L) (.ref x :: S) k n H Q := W_s (rfl : (pj lw).1 9 74 = some (.aload_n 0, 1, 0)) rfl rfl rfl
theorem w9_75 {a : Nat} : W (pj lw) 9 75 L (.ref a :: S) k n H Q ↔ (isO H a = true ∧ W (pj lw) 9 78 L (fld H a 5 :: S) k n H Q) := W_getf (rfl : (pj lw).1 9 75 = some (.getfield 7, 3, 5))
theorem w9_78 {x : Int32} {l0 l1 : Slot} : W (pj lw) 9 78 (l0 :: l1 :: .val (.int x) :: L) S k n H Q ↔ W (pj lw) 9 79 (l0 :: l1 :: .val (.int x) :: L) (.int x :: S) k n H Q := W_s (rfl : (pj lw).1 9 78 = some (.iload_n 2, 1, 0)) rfl rfl rfl
theorem w9_79 {i : Int32} {a : Nat} : W (pj lw) 9 79 L (.int i :: .ref a :: S) k n H Q ↔ (inA H a .int i = true ∧ W (pj lw) 9 80 L (elt H a i :: S) k n H Q) := W_iaload (rfl : (pj lw).1 9 79 = some (.iaload, 1, 0))
theorem w9_80 : W (pj lw) 9 80 L S k n H Q ↔ W (pj lw) 9 81 L (.int 1 :: S) k n H Q := W_s (rfl : (pj lw).1 9 80 = some (.iconst 1, 1, 0)) rfl rfl rfl
theorem w9_81 {x y : Int32} : W (pj lw) 9 81 L (.int y :: .int x :: S) k n H Q ↔ (if x = y then W (pj lw) 9 87 L S k n H Q else W (pj lw) 9 84 L S k n H Q) := W_icmp_eq (rfl : (pj lw).1 9 81 = some (.if_icmp .eq 6, 3, 0)) rfl
theorem w9_84 : W (pj lw) 9 84 L S k n H Q ↔ W (pj lw) 9 86 L (.int (-4) :: S) k n H Q := W_s (rfl : (pj lw).1 9 84 = some (.bipush (-4), 2, 0)) rfl rfl rfl
theorem w9_86 {x : Int32} : W (pj lw) 9 86 L (.int x :: S) k n H Q ↔ Q (some (.int x)) H := W_r (rfl : (pj lw).1 9 86 = some (.ireturn, 1, 0)) rfl
theorem w9_87 {x : Nat} : W (pj lw) 9 87 (.val (.ref x) :: L) S k n H Q ↔ W (pj lw) 9 88 (.val (.ref x) :: L) (.ref x :: S) k n H Q := W_s (rfl : (pj lw).1 9 87 = some (.aload_n 0, 1, 0)) rfl rfl rfl
theorem w9_88 {a : Nat} : W (pj lw) 9 88 L (.ref a :: S) k n H Q ↔ (isO H a = true ∧ W (pj lw) 9 91 L (fld H a 5 :: S) k n H Q) := W_getf (rfl : (pj lw).1 9 88 = some (.getfield 7, 3, 5))
theorem w9_91 {x : Int32} {l0 l1 l2 : Slot} : W (pj lw) 9 91 (l0 :: l1 :: l2 :: .val (.int x) :: L) S k n H Q ↔ W (pj lw) 9 92 (l0 :: l1 :: l2 :: .val (.int x) :: L) (.int x :: S) k n H Q := W_s (rfl : (pj lw).1 9 91 = some (.iload_n 3, 1, 0)) rfl rfl rfl
theorem w9_92 {i : Int32} {a : Nat} : W (pj lw) 9 92 L (.int i :: .ref a :: S) k n H Q ↔ (inA H a .int i = true ∧ W (pj lw) 9 93 L (elt H a i :: S) k n H Q) := W_iaload (rfl : (pj lw).1 9 92 = some (.iaload, 1, 0))
theorem w9_93 : W (pj lw) 9 93 L S k n H Q ↔ W (pj lw) 9 94 L (.int 2 :: S) k n H Q := W_s (rfl : (pj lw).1 9 93 = some (.iconst 2, 1, 0)) rfl rfl rfl
theorem w9_94 {x y : Int32} : W (pj lw) 9 94 L (.int y :: .int x :: S) k n H Q ↔ (if x = y then W (pj lw) 9 100 L S k n H Q else W (pj lw) 9 97 L S k n H Q) := W_icmp_eq (rfl : (pj lw).1 9 94 = some (.if_icmp .eq 6, 3, 0)) rfl
theorem w9_97 : W (pj lw) 9 97 L S k n H Q ↔ W (pj lw) 9 99 L (.int (-4) :: S) k n H Q := W_s (rfl : (pj lw).1 9 97 = some (.bipush (-4), 2, 0)) rfl rfl rfl
theorem w9_99 {x : Int32} : W (pj lw) 9 99 L (.int x :: S) k n H Q ↔ Q (some (.int x)) H := W_r (rfl : (pj lw).1 9 99 = some (.ireturn, 1, 0)) rfl
theorem w9_100 {x : Nat} : W (pj lw) 9 100 (.val (.ref x) :: L) S k n H Q ↔ W (pj lw) 9 101 (.val (.ref x) :: L) (.ref x :: S) k n H Q := W_s (rfl : (pj lw).1 9 100 = some (.aload_n 0, 1, 0)) rfl rfl rfl
theorem w9_101 {x : Nat} : W (pj lw) 9 101 L (.ref x :: S) k n H Q ↔ W (pj lw) 9 102 L (.ref x :: .ref x :: S) k n H Q := W_s (rfl : (pj lw).1 9 101 = some (.dup, 1, 0)) rfl rfl rfl
theorem w9_102 {a : Nat} : W (pj lw) 9 102 L (.ref a :: S) k n H Q ↔ (isO H a = true ∧ W (pj lw) 9 105 L (fld H a 4 :: S) k n H Q) := W_getf (rfl : (pj lw).1 9 102 = some (.getfield 66, 3, 4))
theorem w9_105 : W (pj lw) 9 105 L S k n H Q ↔ W (pj lw) 9 106 L (.int 1 :: S) k n H Q := W_s (rfl : (pj lw).1 9 105 = some (.iconst 1, 1, 0)) rfl rfl rfl
theorem w9_106 {x y : Int32} : W (pj lw) 9 106 L (.int y :: .int x :: S) k n H Q ↔ W (pj lw) 9 107 L (.int (x + y) :: S) k n H Q := W_s (rfl : (pj lw).1 9 106 = some (.iadd, 1, 0)) rfl rfl rfl
theorem w9_107 {a : Nat} {v : Value} : W (pj lw) 9 107 L (v :: .ref a :: S) k n H Q ↔ ((isOw H a = true ∧ okv (.int) v = true) ∧ W (pj lw) 9 110 L S k n (wr H a 4 v) Q) := W_putf (rfl : (pj lw).1 9 107 = some (.putfield 66, 3, 4))
theorem w9_110 {x : Nat} : W (pj lw) 9 110 (.val (.ref x) :: L) S k n H Q ↔ W (pj lw) 9 111 (.val (.ref x) :: L) (.ref x :: S) k n H Q := W_s (rfl : (pj lw).1 9 110 = some (.aload_n 0, 1, 0)) rfl rfl rfl
theorem w9_111 {a : Nat} : W (pj lw) 9 111 L (.ref a :: S) k n H Q ↔ (isO H a = true ∧ W (pj lw) 9 114 L (fld H a 5 :: S) k n H Q) := W_getf (rfl : (pj lw).1 9 111 = some (.getfield 7, 3, 5))
theorem w9_114 {x : Nat} : W (pj lw) 9 114 (.val (.ref x) :: L) S k n H Q ↔ W (pj lw) 9 115 (.val (.ref x) :: L) (.ref x :: S) k n H Q := W_s (rfl : (pj lw).1 9 114 = some (.aload_n 0, 1, 0)) rfl rfl rfl
theorem w9_115 {a : Nat} : W (pj lw) 9 115 L (.ref a :: S) k n H Q ↔ (isO H a = true ∧ W (pj lw) 9 118 L (fld H a 4 :: S) k n H Q) := W_getf (rfl : (pj lw).1 9 115 = some (.getfield 66, 3, 4))
theorem w9_118 {x : Int32} {l0 : Slot} : W (pj lw) 9 118 (l0 :: .val (.int x) :: L) S k n H Q ↔ W (pj lw) 9 119 (l0 :: .val (.int x) :: L) (.int x :: S) k n H Q := W_s (rfl : (pj lw).1 9 118 = some (.iload_n 1, 1, 0)) rfl rfl rfl
theorem w9_119 {x i : Int32} {a : Nat} : W (pj lw) 9 119 L (.int x :: .int i :: .ref a :: S) k n H Q ↔ (inAw H a .int i = true ∧ W (pj lw) 9 120 L S k n (wr H a i.toNatClampNeg (.int x)) Q) := W_iastore (rfl : (pj lw).1 9 119 = some (.iastore, 1, 0))
theorem w9_120 {x : Nat} : W (pj lw) 9 120 (.val (.ref x) :: L) S k n H Q ↔ W (pj lw) 9 121 (.val (.ref x) :: L) (.ref x :: S) k n H Q := W_s (rfl : (pj lw).1 9 120 = some (.aload_n 0, 1, 0)) rfl rfl rfl
theorem w9_121 {a : Nat} : W (pj lw) 9 121 L (.ref a :: S) k n H Q ↔ (isO H a = true ∧ W (pj lw) 9 124 L (fld H a 6 :: S) k n H Q) := W_getf (rfl : (pj lw).1 9 121 = some (.getfield 13, 3, 6))
theorem w9_124 {x : Nat} : W (pj lw) 9 124 (.val (.ref x) :: L) S k n H Q ↔ W (pj lw) 9 125 (.val (.ref x) :: L) (.ref x :: S) k n H Q := W_s (rfl : (pj lw).1 9 124 = some (.aload_n 0, 1, 0)) rfl rfl rfl
theorem w9_125 {a : Nat} : W (pj lw) 9 125 L (.ref a :: S) k n H Q ↔ (isO H a = true ∧ W (pj lw) 9 128 L (fld H a 4 :: S) k n H Q) := W_getf (rfl : (pj lw).1 9 125 = some (.getfield 66, 3, 4))
theorem w9_128 {x : Int32} {l0 l1 : Slot} : W (pj lw) 9 128 (l0 :: l1 :: .val (.int x) :: L) S k n H Q ↔ W (pj lw) 9 129 (l0 :: l1 :: .val (.int x) :: L) (.int x :: S) k n H Q := W_s (rfl : (pj lw).1 9 128 = some (.iload_n 2, 1, 0)) rfl rfl rfl
theorem w9_129 {x i : Int32} {a : Nat} : W (pj lw) 9 129 L (.int x :: .int i :: .ref a :: S) k n H Q ↔ (inAw H a .int i = true ∧ W (pj lw) 9 130 L S k n (wr H a i.toNatClampNeg (.int x)) Q) := W_iastore (rfl : (pj lw).1 9 129 = some (.iastore, 1, 0))
theorem w9_130 {x : Nat} : W (pj lw) 9 130 (.val (.ref x) :: L) S k n H Q ↔ W (pj lw) 9 131 (.val (.ref x) :: L) (.ref x :: S) k n H Q := W_s (rfl : (pj lw).1 9 130 = some (.aload_n 0, 1, 0)) rfl rfl rfl
theorem w9_131 {a : Nat} : W (pj lw) 9 131 L (.ref a :: S) k n H Q ↔ (isO H a = true ∧ W (pj lw) 9 134 L (fld H a 7 :: S) k n H Q) := W_getf (rfl : (pj lw).1 9 131 = some (.getfield 16, 3, 7))
theorem w9_134 {x : Nat} : W (pj lw) 9 134 (.val (.ref x) :: L) S k n H Q ↔ W (pj lw) 9 135 (.val (.ref x) :: L) (.ref x :: S) k n H Q := W_s (rfl : (pj lw).1 9 134 = some (.aload_n 0, 1, 0)) rfl rfl rfl
theorem w9_135 {a : Nat} : W (pj lw) 9 135 L (.ref a :: S) k n H Q ↔ (isO H a = true ∧ W (pj lw) 9 138 L (fld H a 4 :: S) k n H Q) := W_getf (rfl : (pj lw).1 9 135 = some (.getfield 66, 3, 4))
theorem w9_138 {x : Int32} {l0 l1 l2 : Slot} : W (pj lw) 9 138 (l0 :: l1 :: l2 :: .val (.int x) :: L) S k n H Q ↔ W (pj lw) 9 139 (l0 :: l1 :: l2 :: .val (.int x) :: L) (.int x :: S) k n H Q := W_s (rfl : (pj lw).1 9 138 = some (.iload_n 3, 1, 0)) rfl rfl rfl
theorem w9_139 {x i : Int32} {a : Nat} : W (pj lw) 9 139 L (.int x :: .int i :: .ref a :: S) k n H Q ↔ (inAw H a .int i = true ∧ W (pj lw) 9 140 L S k n (wr H a i.toNatClampNeg (.int x)) Q) := W_iastore (rfl : (pj lw).1 9 139 = some (.iastore, 1, 0))
theorem w9_140 {x : Nat} : W (pj lw) 9 140 (.val (.ref x) :: L) S k n H Q ↔ W (pj lw) 9 141 (.val (.ref x) :: L) (.ref x :: S) k n H Q := W_s (rfl : (pj lw).1 9 140 = some (.aload_n 0, 1, 0)) rfl rfl rfl
theorem w9_141 {a : Nat} : W (pj lw) 9 141 L (.ref a :: S) k n H Q ↔ (isO H a = true ∧ W (pj lw) 9 144 L (fld H a 8 :: S) k n H Q) := W_getf (rfl : (pj lw).1 9 141 = some (.getfield 19, 3, 8))
theorem w9_144 {x : Nat} : W (pj lw) 9 144 (.val (.ref x) :: L) S k n H Q ↔ W (pj lw) 9 145 (.val (.ref x) :: L) (.ref x :: S) k n H Q := W_s (rfl : (pj lw).1 9 144 = some (.aload_n 0, 1, 0)) rfl rfl rfl
theorem w9_145 {a : Nat} : W (pj lw) 9 145 L (.ref a :: S) k n H Q ↔ (isO H a = true ∧ W (pj lw) 9 148 L (fld H a 4 :: S) k n H Q) := W_getf (rfl : (pj lw).1 9 145 = some (.getfield 66, 3, 4))
theorem w9_148 : W (pj lw) 9 148 L S k n H Q ↔ W (pj lw) 9 149 L (.int (-1) :: S) k n H Q := W_s (rfl : (pj lw).1 9 148 = some (.iconst (-1), 1, 0)) rfl rfl rfl
theorem w9_149 {x i : Int32} {a : Nat} : W (pj lw) 9 149 L (.int x :: .int i :: .ref a :: S) k n H Q ↔ (inAw H a .int i = true ∧ W (pj lw) 9 150 L S k n (wr H a i.toNatClampNeg (.int x)) Q) := W_iastore (rfl : (pj lw).1 9 149 = some (.iastore, 1, 0))
theorem w9_150 {x : Nat} : W (pj lw) 9 150 (.val (.ref x) :: L) S k n H Q ↔ W (pj lw) 9 151 (.val (.ref x) :: L) (.ref x :: S) k n H Q := W_s (rfl : (pj lw).1 9 150 = some (.aload_n 0, 1, 0)) rfl rfl rfl
theorem w9_151 {a : Nat} : W (pj lw) 9 151 L (.ref a :: S) k n H Q ↔ (isO H a = true ∧ W (pj lw) 9 154 L (fld H a 9 :: S) k n H Q) := W_getf (rfl : (pj lw).1 9 151 = some (.getfield 22, 3, 9))
theorem w9_154 {x : Nat} : W (pj lw) 9 154 (.val (.ref x) :: L) S k n H Q ↔ W (pj lw) 9 155 (.val (.ref x) :: L) (.ref x :: S) k n H Q := W_s (rfl : (pj lw).1 9 154 = some (.aload_n 0, 1, 0)) rfl rfl rfl
theorem w9_155 {a : Nat} : W (pj lw) 9 155 L (.ref a :: S) k n H Q ↔ (isO H a = true ∧ W (pj lw) 9 158 L (fld H a 4 :: S) k n H Q) := W_getf (rfl : (pj lw).1 9 155 = some (.getfield 66, 3, 4))
theorem w9_158 : W (pj lw) 9 158 L S k n H Q ↔ W (pj lw) 9 159 L (.int 0 :: S) k n H Q := W_s (rfl : (pj lw).1 9 158 = some (.iconst 0, 1, 0)) rfl rfl rfl
theorem w9_159 {x i : Int32} {a : Nat} : W (pj lw) 9 159 L (.int x :: .int i :: .ref a :: S) k n H Q ↔ (inAw H a .int i = true ∧ W (pj lw) 9 160 L S k n (wr H a i.toNatClampNeg (.int x)) Q) := W_iastore (rfl : (pj lw).1 9 159 = some (.iastore, 1, 0))
theorem w9_160 {x : Nat} : W (pj lw) 9 160 (.val (.ref x) :: L) S k n H Q ↔ W (pj lw) 9 161 (.val (.ref x) :: L) (.ref x :: S) k n H Q := W_s (rfl : (pj lw).1 9 160 = some (.aload_n 0, 1, 0)) rfl rfl rfl
theorem w9_161 {a : Nat} : W (pj lw) 9 161 L (.ref a :: S) k n H Q ↔ (isO H a = true ∧ W (pj lw) 9 164 L (fld H a 10 :: S) k n H Q) := W_getf (rfl : (pj lw).1 9 161 = some (.getfield 25, 3, 10))
theorem w9_164 {x : Nat} : W (pj lw) 9 164 (.val (.ref x) :: L) S k n H Q ↔ W (pj lw) 9 165 (.val (.ref x) :: L) (.ref x :: S) k n H Q := W_s (rfl : (pj lw).1 9 164 = some (.aload_n 0, 1, 0)) rfl rfl rfl
theorem w9_165 {a : Nat} : W (pj lw) 9 165 L (.ref a :: S) k n H Q ↔ (isO H a = true ∧ W (pj lw) 9 168 L (fld H a 4 :: S) k n H Q) := W_getf (rfl : (pj lw).1 9 165 = some (.getfield 66, 3, 4))
theorem w9_168 : W (pj lw) 9 168 L S k n H Q ↔ W (pj lw) 9 169 L (.int 0 :: S) k n H Q := W_s (rfl : (pj lw).1 9 168 = some (.iconst 0, 1, 0)) rfl rfl rfl
theorem w9_169 {x i : Int32} {a : Nat} : W (pj lw) 9 169 L (.int x :: .int i :: .ref a :: S) k n H Q ↔ (inAw H a .int i = true ∧ W (pj lw) 9 170 L S k n (wr H a i.toNatClampNeg (.int x)) Q) := W_iastore (rfl : (pj lw).1 9 169 = some (.iastore, 1, 0))
theorem w9_170 {x : Nat} : W (pj lw) 9 170 (.val (.ref x) :: L) S k n H Q ↔ W (pj lw) 9 171 (.val (.ref x) :: L) (.ref x :: S) k n H Q := W_s (rfl : (pj lw).1 9 170 = some (.aload_n 0, 1, 0)) rfl rfl rfl
theorem w9_171 : W (pj lw) 9 171 L S k n H Q ↔ W (pj lw) 9 172 L (.int 0 :: S) k n H Q := W_s (rfl : (pj lw).1 9 171 = some (.iconst 0, 1, 0)) rfl rfl rfl
theorem w9_172 {a : Nat} {v : Value} : W (pj lw) 9 172 L (v :: .ref a :: S) k n H Q ↔ ((isOw H a = true ∧ okv (.boolean) v = true) ∧ W (pj lw) 9 175 L S k n (wr H a 13 v) Q) := W_putf (rfl : (pj lw).1 9 172 = some (.putfield 73, 3, 13))
theorem w9_175 {x : Nat} : W (pj lw) 9 175 (.val (.ref x) :: L) S k n H Q ↔ W (pj lw) 9 176 (.val (.ref x) :: L) (.ref x :: S) k n H Q := W_s (rfl : (pj lw).1 9 175 = some (.aload_n 0, 1, 0)) rfl rfl rfl
theorem w9_176 : W (pj lw) 9 176 L S k n H Q ↔ W (pj lw) 9 177 L (.int 0 :: S) k n H Q := W_s (rfl : (pj lw).1 9 176 = some (.iconst 0, 1, 0)) rfl rfl rfl
theorem w9_177 {a : Nat} {v : Value} : W (pj lw) 9 177 L (v :: .ref a :: S) k n H Q ↔ ((isOw H a = true ∧ okv (.boolean) v = true) ∧ W (pj lw) 9 180 L S k n (wr H a 12 v) Q) := W_putf (rfl : (pj lw).1 9 177 = some (.putfield 69, 3, 12))
theorem w9_180 {x : Nat} : W (pj lw) 9 180 (.val (.ref x) :: L) S k n H Q ↔ W (pj lw) 9 181 (.val (.ref x) :: L) (.ref x :: S) k n H Q := W_s (rfl : (pj lw).1 9 180 = some (.aload_n 0, 1, 0)) rfl rfl rfl
theorem w9_181 {a : Nat} : W (pj lw) 9 181 L (.ref a :: S) k n H Q ↔ (isO H a = true ∧ W (pj lw) 9 184 L (fld H a 4 :: S) k n H Q) := W_getf (rfl : (pj lw).1 9 181 = some (.getfield 66, 3, 4))
theorem w9_184 {x : Int32} : W (pj lw) 9 184 L (.int x :: S) k n H Q ↔ Q (some (.int x)) H := W_r (rfl : (pj lw).1 9 184 = some (.ireturn, 1, 0)) rfl
theorem c10 {x0 : Nat} {x1 : Int32} {x2 : Int32} {x3 : Int32} : Cl (pj lw) 10 [.ref x0, .int x1, .int x2, .int x3] H Q ↔ W (pj lw) 10 0 [.val (.ref x0), .val (.int x1), .val (.int x2), .val (.int x3)] [] 0 0 H Q := cl_unf rfl
theorem w10_0 {x : Nat} : W (pj lw) 10 0 (.val (.ref x) :: L) S k n H Q ↔ W (pj lw) 10 1 (.val (.ref x) :: L) (.ref x :: S) k n H Q := W_s (rfl : (pj lw).1 10 0 = some (.aload_n 0, 1, 0)) rfl rfl rfl
theorem w10_1 {x : Int32} {l0 : Slot} : W (pj lw) 10 1 (l0 :: .val (.int x) :: L) S k n H Q ↔ W (pj lw) 10 2 (l0 :: .val (.int x) :: L) (.int x :: S) k n H Q := W_s (rfl : (pj lw).1 10 1 = some (.iload_n 1, 1, 0)) rfl rfl rfl
theorem w10_2 {a : Nat} {x0 : Int32} : W (pj lw) 10 2 L (.int x0 :: .ref a :: S) k n H Q ↔ ((isO H a = true ∧ cs S + (2 + 11) + 0 ≤ 13) ∧ Cl (pj lw) 7 [.ref a, .int x0] H (fun v H => W (pj lw) 10 5 L (v.toList ++ S) k n H Q)) := W_inst (as := [.int x0]) (rfl : (pj lw).1 10 2 = some (.invokevirtual 99, 3, 7)) rfl rfl rfl (Nat.le_of_ble_eq_true rfl) (Nat.le_of_ble_eq_true rfl) ⟨rfl, rfl⟩
theorem w10_5 {x : Int32} : W (pj lw) 10 5 L (.int x :: S) k n H Q ↔ (if x = 0 then W (pj lw) 10 8 L S k n H Q else W (pj lw) 10 11 L S k n H Q) := W_if_ne (rfl : (pj lw).1 10 5 = some (.ifCond .ne 6, 3, 0)) rfl
theorem w10_8 : W (pj lw) 10 8 L S k n H Q ↔ W (pj lw) 10 10 L (.int (-5) :: S) k n H Q := W_s (rfl : (pj lw).1 10 8 = some (.bipush (-5), 2, 0)) rfl rfl rfl
theorem w10_10 {x : Int32} : W (pj lw) 10 10 L (.int x :: S) k n H Q ↔ Q (some (.int x)) H := W_r (rfl : (pj lw).1 10 10 = some (.ireturn, 1, 0)) rfl
theorem w10_11 {x : Nat} : W (pj lw) 10 11 (.val (.ref x) :: L) S k n H Q ↔ W (pj lw) 10 12 (.val (.ref x) :: L) (.ref x :: S) k n H Q := W_s (rfl : (pj lw).1 10 11 = some (.aload_n 0, 1, 0)) rfl rfl rfl
theorem w10_12 {x : Int32} {l0 l1 : Slot} : W (pj lw) 10 12 (l0 :: l1 :: .val (.int x) :: L) S k n H Q ↔ W (pj lw) 10 13 (l0 :: l1 :: .val (.int x) :: L) (.int x :: S) k n H Q := W_s (rfl : (pj lw).1 10 12 = some (.iload_n 2, 1, 0)) rfl rfl rfl
theorem w10_13 {a : Nat} {x0 : Int32} : W (pj lw) 10 13 L (.int x0 :: .ref a :: S) k n H Q ↔ ((isO H a = true ∧ cs S + (2 + 11) + 0 ≤ 13) ∧ Cl (pj lw) 8 [.ref a, .int x0] H (fun v H => W (pj lw) 10 16 L (v.toList ++ S) k n H Q)) := W_inst (as := [.int x0]) (rfl : (pj lw).1 10 13 = some (.invokevirtual 103, 3, 8)) rfl rfl rfl (Nat.le_of_ble_eq_true rfl) (Nat.le_of_ble_eq_true rfl) ⟨rfl, rfl⟩
theorem w10_16 {x : Int32} : W (pj lw) 10 16 L (.int x :: S) k n H Q ↔ (if x = 0 then W (pj lw) 10 27 L S k n H Q else W (pj lw) 10 19 L S k n H Q) := W_if_eq (rfl : (pj lw).1 10 16 = some (.ifCond .eq 11, 3, 0)) rfl
theorem w10_19 {x : Nat} : W (pj lw) 10 19 (.val (.ref x) :: L) S k n H Q ↔ W (pj lw) 10 20 (.val (.ref x) :: L) (.ref x :: S) k n H Q := W_s (rfl : (pj lw).1 10 19 = some (.aload_n 0, 1, 0)) rfl rfl rfl
theorem w10_20 {x : Int32} {l0 l1 l2 : Slot} : W (pj lw) 10 20 (l0 :: l1 :: l2 :: .val (.int x) :: L) S k n H Q ↔ W (pj lw) 10 21 (l0 :: l1 :: l2 :: .val (.int x) :: L) (.int x :: S) k n H Q := W_s (rfl : (pj lw).1 10 20 = some (.iload_n 3, 1, 0)) rfl rfl rfl
theorem w10_21 {a : Nat} {x0 : Int32} : W (pj lw) 10 21 L (.int x0 :: .ref a :: S) k n H Q ↔ ((isO H a = true ∧ cs S + (2 + 11) + 0 ≤ 13) ∧ Cl (pj lw) 8 [.ref a, .int x0] H (fun v H => W (pj lw) 10 24 L (v.toList ++ S) k n H Q)) := W_inst (as := [.int x0]) (rfl : (pj lw).1 10 21 = some (.invokevirtual 103, 3, 8)) rfl rfl rfl (Nat.le_of_ble_eq_true rfl) (Nat.le_of_ble_eq_true rfl) ⟨rfl, rfl⟩
theorem w10_24 {x : Int32} : W (pj lw) 10 24 L (.int x :: S) k n H Q ↔ (if x = 0 then W (pj lw) 10 27 L S k n H Q else W (pj lw) 10 30 L S k n H Q) := W_if_ne (rfl : (pj lw).1 10 24 = some (.ifCond .ne 6, 3, 0)) rfl
theorem w10_27 : W (pj lw) 10 27 L S k n H Q ↔ W (pj lw) 10 29 L (.int (-6) :: S) k n H Q := W_s (rfl : (pj lw).1 10 27 = some (.bipush (-6), 2, 0)) rfl rfl rfl
theorem w10_29 {x : Int32} : W (pj lw) 10 29 L (.int x :: S) k n H Q ↔ Q (some (.int x)) H := W_r (rfl : (pj lw).1 10 29 = some (.ireturn, 1, 0)) rfl
theorem w10_30 {x : Nat} : W (pj lw) 10 30 (.val (.ref x) :: L) S k n H Q ↔ W (pj lw) 10 31 (.val (.ref x) :: L) (.ref x :: S) k n H Q := W_s (rfl : (pj lw).1 10 30 = some (.aload_n 0, 1, 0)) rfl rfl rfl
theorem w10_31 {a : Nat} : W (pj lw) 10 31 L (.ref a :: S) k n H Q ↔ (isO H a = true ∧ W (pj lw) 10 34 L (fld H a 8 :: S) k n H Q) := W_getf (rfl : (pj lw).1 10 31 = some (.getfield 19, 3, 8))
theorem w10_34 {x : Int32} {l0 : Slot} : W (pj lw) 10 34 (l0 :: .val (.int x) :: L) S k n H Q ↔ W (pj lw) 10 35 (l0 :: .val (.int x) :: L) (.int x :: S) k n H Q := W_s (rfl : (pj lw).1 10 34 = some (.iload_n 1, 1, 0)) rfl rfl rfl
theorem w10_35 {x : Nat} : W (pj lw) 10 35 (.val (.ref x) :: L) S k n H Q ↔ W (pj lw) 10 36 (.val (.ref x) :: L) (.ref x :: S) k n H Q := W_s (rfl : (pj lw).1 10 35 = some (.aload_n 0, 1, 0)) rfl rfl rfl
theorem w10_36 {a : Nat} : W (pj lw) 10 36 L (.ref a :: S) k n H Q ↔ (isO H a = true ∧ W (pj lw) 10 39 L (fld H a 18 :: S) k n H Q) := W_getf (rfl : (pj lw).1 10 36 = some (.getfield 37, 3, 18))
theorem w10_39 {x : Int32} {l0 l1 : Slot} : W (pj lw) 10 39 (l0 :: l1 :: .val (.int x) :: L) S k n H Q ↔ W (pj lw) 10 40 (l0 :: l1 :: .val (.int x) :: L) (.int x :: S) k n H Q := W_s (rfl : (pj lw).1 10 39 = some (.iload_n 2, 1, 0)) rfl rfl rfl
theorem w10_40 : W (pj lw) 10 40 L S k n H Q ↔ W (pj lw) 10 41 L (.int 5 :: S) k n H Q := W_s (rfl : (pj lw).1 10 40 = some (.iconst 5, 1, 0)) rfl rfl rfl
theorem w10_41 {x y : Int32} : W (pj lw) 10 41 L (.int y :: .int x :: S) k n H Q ↔ W (pj lw) 10 42 L (.int (x * y) :: S) k n H Q := W_s (rfl : (pj lw).1 10 41 = some (.imul, 1, 0)) rfl rfl rfl
theorem w10_42 {x : Int32} {l0 l1 l2 : Slot} : W (pj lw) 10 42 (l0 :: l1 :: l2 :: .val (.int x) :: L) S k n H Q ↔ W (pj lw) 10 43 (l0 :: l1 :: l2 :: .val (.int x) :: L) (.int x :: S) k n H Q := W_s (rfl : (pj lw).1 10 42 = some (.iload_n 3, 1, 0)) rfl rfl rfl
theorem w10_43 {x y : Int32} : W (pj lw) 10 43 L (.int y :: .int x :: S) k n H Q ↔ W (pj lw) 10 44 L (.int (x + y) :: S) k n H Q := W_s (rfl : (pj lw).1 10 43 = some (.iadd, 1, 0)) rfl rfl rfl
theorem w10_44 {i : Int32} {a : Nat} : W (pj lw) 10 44 L (.int i :: .ref a :: S) k n H Q ↔ (inA H a .int i = true ∧ W (pj lw) 10 45 L (elt H a i :: S) k n H Q) := W_iaload (rfl : (pj lw).1 10 44 = some (.iaload, 1, 0))
theorem w10_45 {x i : Int32} {a : Nat} : W (pj lw) 10 45 L (.int x :: .int i :: .ref a :: S) k n H Q ↔ (inAw H a .int i = true ∧ W (pj lw) 10 46 L S k n (wr H a i.toNatClampNeg (.int x)) Q) := W_iastore (rfl : (pj lw).1 10 45 = some (.iastore, 1, 0))
theorem w10_46 {x : Nat} : W (pj lw) 10 46 (.val (.ref x) :: L) S k n H Q ↔ W (pj lw) 10 47 (.val (.ref x) :: L) (.ref x :: S) k n H Q := W_s (rfl : (pj lw).1 10 46 = some (.aload_n 0, 1, 0)) rfl rfl rfl
theorem w10_47 : W (pj lw) 10 47 L S k n H Q ↔ W (pj lw) 10 48 L (.int 0 :: S) k n H Q := W_s (rfl : (pj lw).1 10 47 = some (.iconst 0, 1, 0)) rfl rfl rfl
theorem w10_48 {a : Nat} {v : Value} : W (pj lw) 10 48 L (v :: .ref a :: S) k n H Q ↔ ((isOw H a = true ∧ okv (.boolean) v = true) ∧ W (pj lw) 10 51 L S k n (wr H a 13 v) Q) := W_putf (rfl : (pj lw).1 10 48 = some (.putfield 73, 3, 13))
theorem w10_51 : W (pj lw) 10 51 L S k n H Q ↔ W (pj lw) 10 52 L (.int 0 :: S) k n H Q := W_s (rfl : (pj lw).1 10 51 = some (.iconst 0, 1, 0)) rfl rfl rfl
theorem w10_52 {x : Int32} : W (pj lw) 10 52 L (.int x :: S) k n H Q ↔ Q (some (.int x)) H := W_r (rfl : (pj lw).1 10 52 = some (.ireturn, 1, 0)) rfl
theorem c11 {x0 : Nat} {x1 : Int32} : Cl (pj lw) 11 [.ref x0, .int x1] H Q ↔ W (pj lw) 11 0 [.val (.ref x0), .val (.int x1)] [] 0 0 H Q := cl_unf rfl
theorem w11_0 {x : Nat} : W (pj lw) 11 0 (.val (.ref x) :: L) S k n H Q ↔ W (pj lw) 11 1 (.val (.ref x) :: L) (.ref x :: S) k n H Q := W_s (rfl : (pj lw).1 11 0 = some (.aload_n 0, 1, 0)) rfl rfl rfl
theorem w11_1 {x : Int32} {l0 : Slot} : W (pj lw) 11 1 (l0 :: .val (.int x) :: L) S k n H Q ↔ W (pj lw) 11 2 (l0 :: .val (.int x) :: L) (.int x :: S) k n H Q := W_s (rfl : (pj lw).1 11 1 = some (.iload_n 1, 1, 0)) rfl rfl rfl
theorem w11_2 {a : Nat} {x0 : Int32} : W (pj lw) 11 2 L (.int x0 :: .ref a :: S) k n H Q ↔ ((isO H a = true ∧ cs S + (2 + 11) + 0 ≤ 13) ∧ Cl (pj lw) 7 [.ref a, .int x0] H (fun v H => W (pj lw) 11 5 L (v.toList ++ S) k n H Q)) := W_inst (as := [.int x0]) (rfl : (pj lw).1 11 2 = some (.invokevirtual 99, 3, 7)) rfl rfl rfl (Nat.le_of_ble_eq_true rfl) (Nat.le_of_ble_eq_true rfl) ⟨rfl, rfl⟩
theorem w11_5 {x : Int32} : W (pj lw) 11 5 L (.int x :: S) k n H Q ↔ (if x = 0 then W (pj lw) 11 8 L S k n H Q else W (pj lw) 11 11 L S k n H Q) := W_if_ne (rfl : (pj lw).1 11 5 = some (.ifCond .ne 6, 3, 0)) rfl
theorem w11_8 : W (pj lw) 11 8 L S k n H Q ↔ W (pj lw) 11 10 L (.int (-5) :: S) k n H Q := W_s (rfl : (pj lw).1 11 8 = some (.bipush (-5), 2, 0)) rfl rfl rfl
theorem w11_10 {x : Int32} : W (pj lw) 11 10 L (.int x :: S) k n H Q ↔ Q (some (.int x)) H := W_r (rfl : (pj lw).1 11 10 = some (.ireturn, 1, 0)) rfl
theorem w11_11 {x : Nat} : W (pj lw) 11 11 (.val (.ref x) :: L) S k n H Q ↔ W (pj lw) 11 12 (.val (.ref x) :: L) (.ref x :: S) k n H Q := W_s (rfl : (pj lw).1 11 11 = some (.aload_n 0, 1, 0)) rfl rfl rfl
theorem w11_12 {a : Nat} : W (pj lw) 11 12 L (.ref a :: S) k n H Q ↔ (isO H a = true ∧ W (pj lw) 11 15 L (fld H a 8 :: S) k n H Q) := W_getf (rfl : (pj lw).1 11 12 = some (.getfield 19, 3, 8))
theorem w11_15 {x : Int32} {l0 : Slot} : W (pj lw) 11 15 (l0 :: .val (.int x) :: L) S k n H Q ↔ W (pj lw) 11 16 (l0 :: .val (.int x) :: L) (.int x :: S) k n H Q := W_s (rfl : (pj lw).1 11 15 = some (.iload_n 1, 1, 0)) rfl rfl rfl
theorem w11_16 : W (pj lw) 11 16 L S k n H Q ↔ W (pj lw) 11 17 L (.int (-1) :: S) k n H Q := W_s (rfl : (pj lw).1 11 16 = some (.iconst (-1), 1, 0)) rfl rfl rfl
theorem w11_17 {x i : Int32} {a : Nat} : W (pj lw) 11 17 L (.int x :: .int i :: .ref a :: S) k n H Q ↔ (inAw H a .int i = true ∧ W (pj lw) 11 18 L S k n (wr H a i.toNatClampNeg (.int x)) Q) := W_iastore (rfl : (pj lw).1 11 17 = some (.iastore, 1, 0))
theorem w11_18 {x : Nat} : W (pj lw) 11 18 (.val (.ref x) :: L) S k n H Q ↔ W (pj lw) 11 19 (.val (.ref x) :: L) (.ref x :: S) k n H Q := W_s (rfl : (pj lw).1 11 18 = some (.aload_n 0, 1, 0)) rfl rfl rfl
theorem w11_19 : W (pj lw) 11 19 L S k n H Q ↔ W (pj lw) 11 20 L (.int 0 :: S) k n H Q := W_s (rfl : (pj lw).1 11 19 = some (.iconst 0, 1, 0)) rfl rfl rfl
theorem w11_20 {a : Nat} {v : Value} : W (pj lw) 11 20 L (v :: .ref a :: S) k n H Q ↔ ((isOw H a = true ∧ okv (.boolean) v = true) ∧ W (pj lw) 11 23 L S k n (wr H a 13 v) Q) := W_putf (rfl : (pj lw).1 11 20 = some (.putfield 73, 3, 13))
theorem w11_23 : W (pj lw) 11 23 L S k n H Q ↔ W (pj lw) 11 24 L (.int 0 :: S) k n H Q := W_s (rfl : (pj lw).1 11 23 = some (.iconst 0, 1, 0)) rfl rfl rfl
theorem w11_24 {x : Int32} : W (pj lw) 11 24 L (.int x :: S) k n H Q ↔ Q (some (.int x)) H := W_r (rfl : (pj lw).1 11 24 = some (.ireturn, 1, 0)) rfl
theorem c12 {x0 : Nat} {x1 : Int32} : Cl (pj lw) 12 [.ref x0, .int x1] H Q ↔ W (pj lw) 12 0 [.val (.ref x0), .val (.int x1)] [] 0 0 H Q := cl_unf rfl
theorem w12_0 {x : Nat} : W (pj lw) 12 0 (.val (.ref x) :: L) S k n H Q ↔ W (pj lw) 12 1 (.val (.ref x) :: L) (.ref x :: S) k n H Q := W_s (rfl : (pj lw).1 12 0 = some (.aload_n 0, 1, 0)) rfl rfl rfl
theorem w12_1 {x : Nat} : W (pj lw) 12 1 (.val (.ref x) :: L) S k n H Q ↔ W (pj lw) 12 2 (.val (.ref x) :: L) (.ref x :: S) k n H Q := W_s (rfl : (pj lw).1 12 1 = some (.aload_n 0, 1, 0)) rfl rfl rfl
theorem w12_2 {x : Int32} {l0 : Slot} : W (pj lw) 12 2 (l0 :: .val (.int x) :: L) S k n H Q ↔ W (pj lw) 12 3 (l0 :: .val (.int x) :: L) (.int x :: S) k n H Q := W_s (rfl : (pj lw).1 12 2 = some (.iload_n 1, 1, 0)) rfl rfl rfl
theorem w12_3 {a : Nat} {x0 : Int32} : W (pj lw) 12 3 L (.int x0 :: .ref a :: S) k n H Q ↔ ((isO H a = true ∧ cs S + (2 + 11) + 0 ≤ 14) ∧ Cl (pj lw) 2 [.ref a, .int x0] H (fun v H => W (pj lw) 12 6 L (v.toList ++ S) k n H Q)) := W_inst (as := [.int x0]) (rfl : (pj lw).1 12 3 = some (.invokevirtual 53, 3, 2)) rfl rfl rfl (Nat.le_of_ble_eq_true rfl) (Nat.le_of_ble_eq_true rfl) ⟨rfl, rfl⟩
theorem w12_6 {a : Nat} {v : Value} : W (pj lw) 12 6 L (v :: .ref a :: S) k n H Q ↔ ((isOw H a = true ∧ okv (.int) v = true) ∧ W (pj lw) 12 9 L S k n (wr H a 3 v) Q) := W_putf (rfl : (pj lw).1 12 6 = some (.putfield 57, 3, 3))
theorem w12_9 : W (pj lw) 12 9 L [] k n H Q ↔ Q none H := W_r (rfl : (pj lw).1 12 9 = some (.return_, 1, 0)) rfl
theorem c13 {x0 : Nat} : Cl (pj lw) 13 [.ref x0] H Q ↔ W (pj lw) 13 0 [.val (.ref x0)] [] 0 0 H Q := cl_unf rfl
theorem w13_0 {x : Nat} : W (pj lw) 13 0 (.val (.ref x) :: L) S k n H Q ↔ W (pj lw) 13 1 (.val (.ref x) :: L) (.ref x :: S) k n H Q := W_s (rfl : (pj lw).1 13 0 = some (.aload_n 0, 1, 0)) rfl rfl rfl
theorem w13_1 {x : Nat} : W (pj lw) 13 1 (.val (.ref x) :: L) S k n H Q ↔ W (pj lw) 13 2 (.val (.ref x) :: L) (.ref x :: S) k n H Q := W_s (rfl : (pj lw).1 13 1 = some (.aload_n 0, 1, 0)) rfl rfl rfl
theorem w13_2 {a : Nat} : W (pj lw) 13 2 L (.ref a :: S) k n H Q ↔ (isO H a = true ∧ W (pj lw) 13 5 L (fld H a 3 :: S) k n H Q) := W_getf (rfl : (pj lw).1 13 2 = some (.getfield 57, 3, 3))
theorem w13_5 : W (pj lw) 13 5 L S k n H Q ↔ W (pj lw) 13 7 L (.int 1103515245 :: S) k n H Q := W_s (rfl : (pj lw).1 13 5 = some (.ldc 106, 2, 1103515245)) rfl rfl rfl
theorem w13_7 {x y : Int32} : W (pj lw) 13 7 L (.int y :: .int x :: S) k n H Q ↔ W (pj lw) 13 8 L (.int (x * y) :: S) k n H Q := W_s (rfl : (pj lw).1 13 7 = some (.imul, 1, 0)) rfl rfl rfl
theorem w13_8 : W (pj lw) 13 8 L S k n H Q ↔ W (pj lw) 13 11 L (.int 12345 :: S) k n H Q := W_s (rfl : (pj lw).1 13 8 = some (.sipush 12345, 3, 0)) rfl rfl rfl
theorem w13_11 {x y : Int32} : W (pj lw) 13 11 L (.int y :: .int x :: S) k n H Q ↔ W (pj lw) 13 12 L (.int (x + y) :: S) k n H Q := W_s (rfl : (pj lw).1 13 11 = some (.iadd, 1, 0)) rfl rfl rfl
theorem w13_12 {a : Nat} {v : Value} : W (pj lw) 13 12 L (v :: .ref a :: S) k n H Q ↔ ((isOw H a = true ∧ okv (.int) v = true) ∧ W (pj lw) 13 15 L S k n (wr H a 3 v) Q) := W_putf (rfl : (pj lw).1 13 12 = some (.putfield 57, 3, 3))
theorem w13_15 {x : Nat} : W (pj lw) 13 15 (.val (.ref x) :: L) S k n H Q ↔ W (pj lw) 13 16 (.val (.ref x) :: L) (.ref x :: S) k n H Q := W_s (rfl : (pj lw).1 13 15 = some (.aload_n 0, 1, 0)) rfl rfl rfl
theorem w13_16 {a : Nat} : W (pj lw) 13 16 L (.ref a :: S) k n H Q ↔ (isO H a = true ∧ W (pj lw) 13 19 L (fld H a 3 :: S) k n H Q) := W_getf (rfl : (pj lw).1 13 16 = some (.getfield 57, 3, 3))
theorem w13_19 : W (pj lw) 13 19 L S k n H Q ↔ W (pj lw) 13 21 L (.int 16 :: S) k n H Q := W_s (rfl : (pj lw).1 13 19 = some (.bipush 16, 2, 0)) rfl rfl rfl
theorem w13_21 {x y : Int32} : W (pj lw) 13 21 L (.int y :: .int x :: S) k n H Q ↔ W (pj lw) 13 22 L (.int (Jvm.Free.XT.ushr x y) :: S) k n H Q := W_s (rfl : (pj lw).1 13 21 = some (.iushr, 1, 0)) rfl rfl rfl
theorem w13_22 : W (pj lw) 13 22 L S k n H Q ↔ W (pj lw) 13 25 L (.int 32767 :: S) k n H Q := W_s (rfl : (pj lw).1 13 22 = some (.sipush 32767, 3, 0)) rfl rfl rfl
theorem w13_25 {x y : Int32} : W (pj lw) 13 25 L (.int y :: .int x :: S) k n H Q ↔ W (pj lw) 13 26 L (.int (x &&& y) :: S) k n H Q := W_s (rfl : (pj lw).1 13 25 = some (.iand, 1, 0)) rfl rfl rfl
theorem w13_26 {x : Int32} : W (pj lw) 13 26 L (.int x :: S) k n H Q ↔ Q (some (.int x)) H := W_r (rfl : (pj lw).1 13 26 = some (.ireturn, 1, 0)) rfl
theorem c14 {x0 : Nat} {x1 : Int32} : Cl (pj lw) 14 [.ref x0, .int x1] H Q ↔ W (pj lw) 14 0 [.val (.ref x0), .val (.int x1), .unset] [] 0 0 H Q := cl_unf rfl
theorem w14_0 {x : Nat} : W (pj lw) 14 0 (.val (.ref x) :: L) S k n H Q ↔ W (pj lw) 14 1 (.val (.ref x) :: L) (.ref x :: S) k n H Q := W_s (rfl : (pj lw).1 14 0 = some (.aload_n 0, 1, 0)) rfl rfl rfl
theorem w14_1 {a : Nat} : W (pj lw) 14 1 L (.ref a :: S) k n H Q ↔ ((isO H a = true ∧ cs S + (1 + 11) + 0 ≤ 12) ∧ Cl (pj lw) 13 [.ref a] H (fun v H => W (pj lw) 14 4 L (v.toList ++ S) k n H Q)) := W_inst (as := []) (rfl : (pj lw).1 14 1 = some (.invokevirtual 107, 3, 13)) rfl rfl rfl (Nat.le_of_ble_eq_true rfl) (Nat.le_of_ble_eq_true rfl) ⟨rfl, rfl⟩
theorem w14_4 {x : Int32} {l0 l1 : Slot} : W (pj lw) 14 4 (l0 :: l1 :: .unset :: L) (.int x :: S) k n H Q ↔ W (pj lw) 14 5 (l0 :: l1 :: .val (.int x) :: L) S k n H Q := W_istn (rfl : (pj lw).1 14 4 = some (.istore_n 2, 1, 0)) rfl rfl
theorem w14_5 {x : Int32} {l0 l1 : Slot} : W (pj lw) 14 5 (l0 :: l1 :: .val (.int x) :: L) S k n H Q ↔ W (pj lw) 14 6 (l0 :: l1 :: .val (.int x) :: L) (.int x :: S) k n H Q := W_s (rfl : (pj lw).1 14 5 = some (.iload_n 2, 1, 0)) rfl rfl rfl
theorem w14_6 : W (pj lw) 14 6 L S k n H Q ↔ W (pj lw) 14 7 L (.int 1 :: S) k n H Q := W_s (rfl : (pj lw).1 14 6 = some (.iconst 1, 1, 0)) rfl rfl rfl
theorem w14_7 {x y : Int32} : W (pj lw) 14 7 L (.int y :: .int x :: S) k n H Q ↔ W (pj lw) 14 8 L (.int (x &&& y) :: S) k n H Q := W_s (rfl : (pj lw).1 14 7 = some (.iand, 1, 0)) rfl rfl rfl
theorem w14_8 {x : Int32} : W (pj lw) 14 8 L (.int x :: S) k n H Q ↔ (if x = 0 then W (pj lw) 14 11 L S k n H Q else W (pj lw) 14 20 L S k n H Q) := W_if_ne (rfl : (pj lw).1 14 8 = some (.ifCond .ne 12, 3, 0)) rfl
theorem w14_11 {x : Nat} : W (pj lw) 14 11 (.val (.ref x) :: L) S k n H Q ↔ W (pj lw) 14 12 (.val (.ref x) :: L) (.ref x :: S) k n H Q := W_s (rfl : (pj lw).1 14 11 = some (.aload_n 0, 1, 0)) rfl rfl rfl
theorem w14_12 {a : Nat} : W (pj lw) 14 12 L (.ref a :: S) k n H Q ↔ (isO H a = true ∧ W (pj lw) 14 15 L (fld H a 9 :: S) k n H Q) := W_getf (rfl : (pj lw).1 14 12 = some (.getfield 22, 3, 9))
theorem w14_15 {x : Int32} {l0 : Slot} : W (pj lw) 14 15 (l0 :: .val (.int x) :: L) S k n H Q ↔ W (pj lw) 14 16 (l0 :: .val (.int x) :: L) (.int x :: S) k n H Q := W_s (rfl : (pj lw).1 14 15 = some (.iload_n 1, 1, 0)) rfl rfl rfl
theorem w14_16 {i : Int32} {a : Nat} : W (pj lw) 14 16 L (.int i :: .ref a :: S) k n H Q ↔ (inA H a .int i = true ∧ W (pj lw) 14 17 L (elt H a i :: S) k n H Q) := W_iaload (rfl : (pj lw).1 14 16 = some (.iaload, 1, 0))
theorem w14_17 : W (pj lw) 14 17 L S k n H Q ↔ W (pj lw) 14 26 L S k n H Q := W_goto (rfl : (pj lw).1 14 17 = some (.goto 9, 3, 0)) rfl
theorem w14_20 {x : Nat} : W (pj lw) 14 20 (.val (.ref x) :: L) S k n H Q ↔ W (pj lw) 14 21 (.val (.ref x) :: L) (.ref x :: S) k n H Q := W_s (rfl : (pj lw).1 14 20 = some (.aload_n 0, 1, 0)) rfl rfl rfl
theorem w14_21 {a : Nat} : W (pj lw) 14 21 L (.ref a :: S) k n H Q ↔ (isO H a = true ∧ W (pj lw) 14 24 L (fld H a 10 :: S) k n H Q) := W_getf (rfl : (pj lw).1 14 21 = some (.getfield 25, 3, 10))
theorem w14_24 {x : Int32} {l0 : Slot} : W (pj lw) 14 24 (l0 :: .val (.int x) :: L) S k n H Q ↔ W (pj lw) 14 25 (l0 :: .val (.int x) :: L) (.int x :: S) k n H Q := W_s (rfl : (pj lw).1 14 24 = some (.iload_n 1, 1, 0)) rfl rfl rfl
theorem w14_25 {i : Int32} {a : Nat} : W (pj lw) 14 25 L (.int i :: .ref a :: S) k n H Q ↔ (inA H a .int i = true ∧ W (pj lw) 14 26 L (elt H a i :: S) k n H Q) := W_iaload (rfl : (pj lw).1 14 25 = some (.iaload, 1, 0))
theorem w14_26 {x : Int32} : W (pj lw) 14 26 L (.int x :: S) k n H Q ↔ Q (some (.int x)) H := W_r (rfl : (pj lw).1 14 26 = some (.ireturn, 1, 0)) rfl
theorem c15 {x0 : Nat} : Cl (pj lw) 15 [.ref x0] H Q ↔ W (pj lw) 15 0 [.val (.ref x0), .unset, .unset, .unset] [] 0 0 H Q := cl_unf rfl
theorem w15_0 : W (pj lw) 15 0 L S k n H Q ↔ W (pj lw) 15 1 L (.int 1 :: S) k n H Q := W_s (rfl : (pj lw).1 15 0 = some (.iconst 1, 1, 0)) rfl rfl rfl
theorem w15_1 {x : Int32} {l0 : Slot} : W (pj lw) 15 1 (l0 :: .unset :: L) (.int x :: S) k n H Q ↔ W (pj lw) 15 2 (l0 :: .val (.int x) :: L) S k n H Q := W_istn (rfl : (pj lw).1 15 1 = some (.istore_n 1, 1, 0)) rfl rfl
theorem w15_2 {x : Int32} {l0 : Slot} : W (pj lw) 15 2 (l0 :: .val (.int x) :: L) S k n H Q ↔ W (pj lw) 15 3 (l0 :: .val (.int x) :: L) (.int x :: S) k n H Q := W_s (rfl : (pj lw).1 15 2 = some (.iload_n 1, 1, 0)) rfl rfl rfl
theorem w15_3 {x : Nat} : W (pj lw) 15 3 (.val (.ref x) :: L) S k n H Q ↔ W (pj lw) 15 4 (.val (.ref x) :: L) (.ref x :: S) k n H Q := W_s (rfl : (pj lw).1 15 3 = some (.aload_n 0, 1, 0)) rfl rfl rfl
theorem w15_4 {a : Nat} : W (pj lw) 15 4 L (.ref a :: S) k n H Q ↔ (isO H a = true ∧ W (pj lw) 15 7 L (fld H a 4 :: S) k n H Q) := W_getf (rfl : (pj lw).1 15 4 = some (.getfield 66, 3, 4))
theorem w15_7 {x y : Int32} : W (pj lw) 15 7 L (.int y :: .int x :: S) k n H Q ↔ (if y < x then W (pj lw) 15 98 L S k n H Q else W (pj lw) 15 10 L S k n H Q) := W_icmp_gt (rfl : (pj lw).1 15 7 = some (.if_icmp .gt 91, 3, 0)) rfl
theorem w15_10 {x : Nat} : W (pj lw) 15 10 (.val (.ref x) :: L) S k n H Q ↔ W (pj lw) 15 11 (.val (.ref x) :: L) (.ref x :: S) k n H Q := W_s (rfl : (pj lw).1 15 10 = some (.aload_n 0, 1, 0)) rfl rfl rfl
theorem w15_11 {a : Nat} : W (pj lw) 15 11 L (.ref a :: S) k n H Q ↔ (isO H a = true ∧ W (pj lw) 15 14 L (fld H a 6 :: S) k n H Q) := W_getf (rfl : (pj lw).1 15 11 = some (.getfield 13, 3, 6))
theorem w15_14 {x : Int32} {l0 : Slot} : W (pj lw) 15 14 (l0 :: .val (.int x) :: L) S k n H Q ↔ W (pj lw) 15 15 (l0 :: .val (.int x) :: L) (.int x :: S) k n H Q := W_s (rfl : (pj lw).1 15 14 = some (.iload_n 1, 1, 0)) rfl rfl rfl
theorem w15_15 {i : Int32} {a : Nat} : W (pj lw) 15 15 L (.int i :: .ref a :: S) k n H Q ↔ (inA H a .int i = true ∧ W (pj lw) 15 16 L (elt H a i :: S) k n H Q) := W_iaload (rfl : (pj lw).1 15 15 = some (.iaload, 1, 0))
theorem w15_16 {x : Int32} : W (pj lw) 15 16 L (.int x :: S) k n H Q ↔ (if x = 0 then W (pj lw) 15 19 L S k n H Q else W (pj lw) 15 60 L S k n H Q) := W_if_ne (rfl : (pj lw).1 15 16 = some (.ifCond .ne 44, 3, 0)) rfl
theorem w15_19 {x : Nat} : W (pj lw) 15 19 (.val (.ref x) :: L) S k n H Q ↔ W (pj lw) 15 20 (.val (.ref x) :: L) (.ref x :: S) k n H Q := W_s (rfl : (pj lw).1 15 19 = some (.aload_n 0, 1, 0)) rfl rfl rfl
theorem w15_20 {a : Nat} : W (pj lw) 15 20 L (.ref a :: S) k n H Q ↔ ((isO H a = true ∧ cs S + (1 + 11) + 0 ≤ 28) ∧ Cl (pj lw) 13 [.ref a] H (fun v H => W (pj lw) 15 23 L (v.toList ++ S) k n H Q)) := W_inst (as := []) (rfl : (pj lw).1 15 20 = some (.invokevirtual 107, 3, 13)) rfl rfl rfl (Nat.le_of_ble_eq_true rfl) (Nat.le_of_ble_eq_true rfl) ⟨rfl, rfl⟩
theorem w15_23i {y : Int32} {x : Int32} {l0 l1 : Slot} : W (pj lw) 15 23 (l0 :: l1 :: .val (.int y) :: L) (.int x :: S) k n H Q ↔ W (pj lw) 15 24 (l0 :: l1 :: .val (.int x) :: L) S k n H Q := W_istn (rfl : (pj lw).1 15 23 = some (.istore_n 2, 1, 0)) rfl rfl
theorem w15_23 {x : Int32} {l0 l1 : Slot} : W (pj lw) 15 23 (l0 :: l1 :: .unset :: L) (.int x :: S) k n H Q ↔ W (pj lw) 15 24 (l0 :: l1 :: .val (.int x) :: L) S k n H Q := W_istn (rfl : (pj lw).1 15 23 = some (.istore_n 2, 1, 0)) rfl rfl
theorem w15_24 {x : Nat} : W (pj lw) 15 24 (.val (.ref x) :: L) S k n H Q ↔ W (pj lw) 15 25 (.val (.ref x) :: L) (.ref x :: S) k n H Q := W_s (rfl : (pj lw).1 15 24 = some (.aload_n 0, 1, 0)) rfl rfl rfl
theorem w15_25 {a : Nat} : W (pj lw) 15 25 L (.ref a :: S) k n H Q ↔ (isO H a = true ∧ W (pj lw) 15 28 L (fld H a 9 :: S) k n H Q) := W_getf (rfl : (pj lw).1 15 25 = some (.getfield 22, 3, 9))
theorem w15_28 {x : Int32} {l0 : Slot} : W (pj lw) 15 28 (l0 :: .val (.int x) :: L) S k n H Q ↔ W (pj lw) 15 29 (l0 :: .val (.int x) :: L) (.int x :: S) k n H Q := W_s (rfl : (pj lw).1 15 28 = some (.iload_n 1, 1, 0)) rfl rfl rfl
theorem w15_29 : W (pj lw) 15 29 L S k n H Q ↔ W (pj lw) 15 30 L (.int 1 :: S) k n H Q := W_s (rfl : (pj lw).1 15 29 = some (.iconst 1, 1, 0)) rfl rfl rfl
theorem w15_30 {x : Int32} {l0 l1 : Slot} : W (pj lw) 15 30 (l0 :: l1 :: .val (.int x) :: L) S k n H Q ↔ W (pj lw) 15 31 (l0 :: l1 :: .val (.int x) :: L) (.int x :: S) k n H Q := W_s (rfl : (pj lw).1 15 30 = some (.iload_n 2, 1, 0)) rfl rfl rfl
theorem w15_31 {x : Nat} : W (pj lw) 15 31 (.val (.ref x) :: L) S k n H Q ↔ W (pj lw) 15 32 (.val (.ref x) :: L) (.ref x :: S) k n H Q := W_s (rfl : (pj lw).1 15 31 = some (.aload_n 0, 1, 0)) rfl rfl rfl
theorem w15_32 {a : Nat} : W (pj lw) 15 32 L (.ref a :: S) k n H Q ↔ (isO H a = true ∧ W (pj lw) 15 35 L (fld H a 0 :: S) k n H Q) := W_getf (rfl : (pj lw).1 15 32 = some (.getfield 49, 3, 0))
theorem w15_35 {x y : Int32} : W (pj lw) 15 35 L (.int y :: .int x :: S) k n H Q ↔ (¬ y = 0 ∧ W (pj lw) 15 36 L (.int (x % y) :: S) k n H Q) := W_irem (rfl : (pj lw).1 15 35 = some (.irem, 1, 0))
theorem w15_36 {x y : Int32} : W (pj lw) 15 36 L (.int y :: .int x :: S) k n H Q ↔ W (pj lw) 15 37 L (.int (x + y) :: S) k n H Q := W_s (rfl : (pj lw).1 15 36 = some (.iadd, 1, 0)) rfl rfl rfl
theorem w15_37 {x i : Int32} {a : Nat} : W (pj lw) 15 37 L (.int x :: .int i :: .ref a :: S) k n H Q ↔ (inAw H a .int i = true ∧ W (pj lw) 15 38 L S k n (wr H a i.toNatClampNeg (.int x)) Q) := W_iastore (rfl : (pj lw).1 15 37 = some (.iastore, 1, 0))
theorem w15_38 {x : Nat} : W (pj lw) 15 38 (.val (.ref x) :: L) S k n H Q ↔ W (pj lw) 15 39 (.val (.ref x) :: L) (.ref x :: S) k n H Q := W_s (rfl : (pj lw).1 15 38 = some (.aload_n 0, 1, 0)) rfl rfl rfl
theorem w15_39 {a : Nat} : W (pj lw) 15 39 L (.ref a :: S) k n H Q ↔ ((isO H a = true ∧ cs S + (1 + 11) + 0 ≤ 28) ∧ Cl (pj lw) 13 [.ref a] H (fun v H => W (pj lw) 15 42 L (v.toList ++ S) k n H Q)) := W_inst (as := []) (rfl : (pj lw).1 15 39 = some (.invokevirtual 107, 3, 13)) rfl rfl rfl (Nat.le_of_ble_eq_true rfl) (Nat.le_of_ble_eq_true rfl) ⟨rfl, rfl⟩
theorem w15_42i {y : Int32} {x : Int32} {l0 l1 l2 : Slot} : W (pj lw) 15 42 (l0 :: l1 :: l2 :: .val (.int y) :: L) (.int x :: S) k n H Q ↔ W (pj lw) 15 43 (l0 :: l1 :: l2 :: .val (.int x) :: L) S k n H Q := W_istn (rfl : (pj lw).1 15 42 = some (.istore_n 3, 1, 0)) rfl rfl
theorem w15_42 {x : Int32} {l0 l1 l2 : Slot} : W (pj lw) 15 42 (l0 :: l1 :: l2 :: .unset :: L) (.int x :: S) k n H Q ↔ W (pj lw) 15 43 (l0 :: l1 :: l2 :: .val (.int x) :: L) S k n H Q := W_istn (rfl : (pj lw).1 15 42 = some (.istore_n 3, 1, 0)) rfl rfl
theorem w15_43 {x : Nat} : W (pj lw) 15 43 (.val (.ref x) :: L) S k n H Q ↔ W (pj lw) 15 44 (.val (.ref x) :: L) (.ref x :: S) k n H Q := W_s (rfl : (pj lw).1 15 43 = some (.aload_n 0, 1, 0)) rfl rfl rfl
theorem w15_44 {a : Nat} : W (pj lw) 15 44 L (.ref a :: S) k n H Q ↔ (isO H a = true ∧ W (pj lw) 15 47 L (fld H a 10 :: S) k n H Q) := W_getf (rfl : (pj lw).1 15 44 = some (.getfield 25, 3, 10))
theorem w15_47 {x : Int32} {l0 : Slot} : W (pj lw) 15 47 (l0 :: .val (.int x) :: L) S k n H Q ↔ W (pj lw) 15 48 (l0 :: .val (.int x) :: L) (.int x :: S) k n H Q := W_s (rfl : (pj lw).1 15 47 = some (.iload_n 1, 1, 0)) rfl rfl rfl
theorem w15_48 : W (pj lw) 15 48 L S k n H Q ↔ W (pj lw) 15 49 L (.int 1 :: S) k n H Q := W_s (rfl : (pj lw).1 15 48 = some (.iconst 1, 1, 0)) rfl rfl rfl
theorem w15_49 {x : Int32} {l0 l1 l2 : Slot} : W (pj lw) 15 49 (l0 :: l1 :: l2 :: .val (.int x) :: L) S k n H Q ↔ W (pj lw) 15 50 (l0 :: l1 :: l2 :: .val (.int x) :: L) (.int x :: S) k n H Q := W_s (rfl : (pj lw).1 15 49 = some (.iload_n 3, 1, 0)) rfl rfl rfl
theorem w15_50 {x : Nat} : W (pj lw) 15 50 (.val (.ref x) :: L) S k n H Q ↔ W (pj lw) 15 51 (.val (.ref x) :: L) (.ref x :: S) k n H Q := W_s (rfl : (pj lw).1 15 50 = some (.aload_n 0, 1, 0)) rfl rfl rfl
theorem w15_51 {a : Nat} : W (pj lw) 15 51 L (.ref a :: S) k n H Q ↔ (isO H a = true ∧ W (pj lw) 15 54 L (fld H a 0 :: S) k n H Q) := W_getf (rfl : (pj lw).1 15 51 = some (.getfield 49, 3, 0))
theorem w15_54 {x y : Int32} : W (pj lw) 15 54 L (.int y :: .int x :: S) k n H Q ↔ (¬ y = 0 ∧ W (pj lw) 15 55 L (.int (x % y) :: S) k n H Q) := W_irem (rfl : (pj lw).1 15 54 = some (.irem, 1, 0))
theorem w15_55 {x y : Int32} : W (pj lw) 15 55 L (.int y :: .int x :: S) k n H Q ↔ W (pj lw) 15 56 L (.int (x + y) :: S) k n H Q := W_s (rfl : (pj lw).1 15 55 = some (.iadd, 1, 0)) rfl rfl rfl
theorem w15_56 {x i : Int32} {a : Nat} : W (pj lw) 15 56 L (.int x :: .int i :: .ref a :: S) k n H Q ↔ (inAw H a .int i = true ∧ W (pj lw) 15 57 L S k n (wr H a i.toNatClampNeg (.int x)) Q) := W_iastore (rfl : (pj lw).1 15 56 = some (.iastore, 1, 0))
theorem w15_57 : W (pj lw) 15 57 L S k n H Q ↔ W (pj lw) 15 92 L S k n H Q := W_goto (rfl : (pj lw).1 15 57 = some (.goto 35, 3, 0)) rfl
theorem w15_60 {x : Nat} : W (pj lw) 15 60 (.val (.ref x) :: L) S k n H Q ↔ W (pj lw) 15 61 (.val (.ref x) :: L) (.ref x :: S) k n H Q := W_s (rfl : (pj lw).1 15 60 = some (.aload_n 0, 1, 0)) rfl rfl rfl
theorem w15_61 {a : Nat} : W (pj lw) 15 61 L (.ref a :: S) k n H Q ↔ (isO H a = true ∧ W (pj lw) 15 64 L (fld H a 9 :: S) k n H Q) := W_getf (rfl : (pj lw).1 15 61 = some (.getfield 22, 3, 9))
theorem w15_64 {x : Int32} {l0 : Slot} : W (pj lw) 15 64 (l0 :: .val (.int x) :: L) S k n H Q ↔ W (pj lw) 15 65 (l0 :: .val (.int x) :: L) (.int x :: S) k n H Q := W_s (rfl : (pj lw).1 15 64 = some (.iload_n 1, 1, 0)) rfl rfl rfl
theorem w15_65 {x : Nat} : W (pj lw) 15 65 (.val (.ref x) :: L) S k n H Q ↔ W (pj lw) 15 66 (.val (.ref x) :: L) (.ref x :: S) k n H Q := W_s (rfl : (pj lw).1 15 65 = some (.aload_n 0, 1, 0)) rfl rfl rfl
theorem w15_66 {x : Nat} : W (pj lw) 15 66 (.val (.ref x) :: L) S k n H Q ↔ W (pj lw) 15 67 (.val (.ref x) :: L) (.ref x :: S) k n H Q := W_s (rfl : (pj lw).1 15 66 = some (.aload_n 0, 1, 0)) rfl rfl rfl
theorem w15_67 {a : Nat} : W (pj lw) 15 67 L (.ref a :: S) k n H Q ↔ (isO H a = true ∧ W (pj lw) 15 70 L (fld H a 6 :: S) k n H Q) := W_getf (rfl : (pj lw).1 15 67 = some (.getfield 13, 3, 6))
theorem w15_70 {x : Int32} {l0 : Slot} : W (pj lw) 15 70 (l0 :: .val (.int x) :: L) S k n H Q ↔ W (pj lw) 15 71 (l0 :: .val (.int x) :: L) (.int x :: S) k n H Q := W_s (rfl : (pj lw).1 15 70 = some (.iload_n 1, 1, 0)) rfl rfl rfl
theorem w15_71 {i : Int32} {a : Nat} : W (pj lw) 15 71 L (.int i :: .ref a :: S) k n H Q ↔ (inA H a .int i = true ∧ W (pj lw) 15 72 L (elt H a i :: S) k n H Q) := W_iaload (rfl : (pj lw).1 15 71 = some (.iaload, 1, 0))
theorem w15_72 {a : Nat} {x0 : Int32} : W (pj lw) 15 72 L (.int x0 :: .ref a :: S) k n H Q ↔ ((isO H a = true ∧ cs S + (3 + 11) + 12 ≤ 28) ∧ Cl (pj lw) 14 [.ref a, .int x0] H (fun v H => W (pj lw) 15 75 L (v.toList ++ S) k n H Q)) := W_inst (as := [.int x0]) (rfl : (pj lw).1 15 72 = some (.invokevirtual 111, 3, 14)) rfl rfl rfl (Nat.le_of_ble_eq_true rfl) (Nat.le_of_ble_eq_true rfl) ⟨rfl, rfl⟩
theorem w15_75 {x i : Int32} {a : Nat} : W (pj lw) 15 75 L (.int x :: .int i :: .ref a :: S) k n H Q ↔ (inAw H a .int i = true ∧ W (pj lw) 15 76 L S k n (wr H a i.toNatClampNeg (.int x)) Q) := W_iastore (rfl : (pj lw).1 15 75 = some (.iastore, 1, 0))
theorem w15_76 {x : Nat} : W (pj lw) 15 76 (.val (.ref x) :: L) S k n H Q ↔ W (pj lw) 15 77 (.val (.ref x) :: L) (.ref x :: S) k n H Q := W_s (rfl : (pj lw).1 15 76 = some (.aload_n 0, 1, 0)) rfl rfl rfl
theorem w15_77 {a : Nat} : W (pj lw) 15 77 L (.ref a :: S) k n H Q ↔ (isO H a = true ∧ W (pj lw) 15 80 L (fld H a 10 :: S) k n H Q) := W_getf (rfl : (pj lw).1 15 77 = some (.getfield 25, 3, 10))
theorem w15_80 {x : Int32} {l0 : Slot} : W (pj lw) 15 80 (l0 :: .val (.int x) :: L) S k n H Q ↔ W (pj lw) 15 81 (l0 :: .val (.int x) :: L) (.int x :: S) k n H Q := W_s (rfl : (pj lw).1 15 80 = some (.iload_n 1, 1, 0)) rfl rfl rfl
theorem w15_81 {x : Nat} : W (pj lw) 15 81 (.val (.ref x) :: L) S k n H Q ↔ W (pj lw) 15 82 (.val (.ref x) :: L) (.ref x :: S) k n H Q := W_s (rfl : (pj lw).1 15 81 = some (.aload_n 0, 1, 0)) rfl rfl rfl
theorem w15_82 {x : Nat} : W (pj lw) 15 82 (.val (.ref x) :: L) S k n H Q ↔ W (pj lw) 15 83 (.val (.ref x) :: L) (.ref x :: S) k n H Q := W_s (rfl : (pj lw).1 15 82 = some (.aload_n 0, 1, 0)) rfl rfl rfl
theorem w15_83 {a : Nat} : W (pj lw) 15 83 L (.ref a :: S) k n H Q ↔ (isO H a = true ∧ W (pj lw) 15 86 L (fld H a 7 :: S) k n H Q) := W_getf (rfl : (pj lw).1 15 83 = some (.getfield 16, 3, 7))
theorem w15_86 {x : Int32} {l0 : Slot} : W (pj lw) 15 86 (l0 :: .val (.int x) :: L) S k n H Q ↔ W (pj lw) 15 87 (l0 :: .val (.int x) :: L) (.int x :: S) k n H Q := W_s (rfl : (pj lw).1 15 86 = some (.iload_n 1, 1, 0)) rfl rfl rfl
theorem w15_87 {i : Int32} {a : Nat} : W (pj lw) 15 87 L (.int i :: .ref a :: S) k n H Q ↔ (inA H a .int i = true ∧ W (pj lw) 15 88 L (elt H a i :: S) k n H Q) := W_iaload (rfl : (pj lw).1 15 87 = some (.iaload, 1, 0))
theorem w15_88 {a : Nat} {x0 : Int32} : W (pj lw) 15 88 L (.int x0 :: .ref a :: S) k n H Q ↔ ((isO H a = true ∧ cs S + (3 + 11) + 12 ≤ 28) ∧ Cl (pj lw) 14 [.ref a, .int x0] H (fun v H => W (pj lw) 15 91 L (v.toList ++ S) k n H Q)) := W_inst (as := [.int x0]) (rfl : (pj lw).1 15 88 = some (.invokevirtual 111, 3, 14)) rfl rfl rfl (Nat.le_of_ble_eq_true rfl) (Nat.le_of_ble_eq_true rfl) ⟨rfl, rfl⟩
theorem w15_91 {x i : Int32} {a : Nat} : W (pj lw) 15 91 L (.int x :: .int i :: .ref a :: S) k n H Q ↔ (inAw H a .int i = true ∧ W (pj lw) 15 92 L S k n (wr H a i.toNatClampNeg (.int x)) Q) := W_iastore (rfl : (pj lw).1 15 91 = some (.iastore, 1, 0))
theorem w15_92 {x : Int32} {l0 : Slot} : W (pj lw) 15 92 (l0 :: .val (.int x) :: L) S k n H Q ↔ W (pj lw) 15 95 (l0 :: .val (.int (x + 1)) :: L) S k n H Q := W_s (rfl : (pj lw).1 15 92 = some (.iinc 1 1, 3, 0)) rfl rfl rfl
theorem w15_95 : W (pj lw) 15 95 L S k n H Q ↔ W (pj lw) 15 2 L S k n H Q := W_goto (rfl : (pj lw).1 15 95 = some (.goto (-93), 3, 0)) rfl
theorem w15_98 {x : Nat} : W (pj lw) 15 98 (.val (.ref x) :: L) S k n H Q ↔ W (pj lw) 15 99 (.val (.ref x) :: L) (.ref x :: S) k n H Q := W_s (rfl : (pj lw).1 15 98 = some (.aload_n 0, 1, 0)) rfl rfl rfl
theorem w15_99 : W (pj lw) 15 99 L S k n H Q ↔ W (pj lw) 15 100 L (.int 1 :: S) k n H Q := W_s (rfl : (pj lw).1 15 99 = some (.iconst 1, 1, 0)) rfl rfl rfl
theorem w15_100 {a : Nat} {v : Value} : W (pj lw) 15 100 L (v :: .ref a :: S) k n H Q ↔ ((isOw H a = true ∧ okv (.boolean) v = true) ∧ W (pj lw) 15 103 L S k n (wr H a 12 v) Q) := W_putf (rfl : (pj lw).1 15 100 = some (.putfield 69, 3, 12))
theorem w15_103 {x : Nat} : W (pj lw) 15 103 (.val (.ref x) :: L) S k n H Q ↔ W (pj lw) 15 104 (.val (.ref x) :: L) (.ref x :: S) k n H Q := W_s (rfl : (pj lw).1 15 103 = some (.aload_n 0, 1, 0)) rfl rfl rfl
theorem w15_104 {a : Nat} : W (pj lw) 15 104 L (.ref a :: S) k n H Q ↔ (isO H a = true ∧ W (pj lw) 15 107 L (fld H a 4 :: S) k n H Q) := W_getf (rfl : (pj lw).1 15 104 = some (.getfield 66, 3, 4))
theorem w15_107 {x : Int32} : W (pj lw) 15 107 L (.int x :: S) k n H Q ↔ Q (some (.int x)) H := W_r (rfl : (pj lw).1 15 107 = some (.ireturn, 1, 0)) rfl
theorem c16 {x0 : Nat} {x1 : Int32} : Cl (pj lw) 16 [.ref x0, .int x1] H Q ↔ W (pj lw) 16 0 [.val (.ref x0), .val (.int x1)] [] 0 0 H Q := cl_unf rfl
theorem w16_0 {x : Nat} : W (pj lw) 16 0 (.val (.ref x) :: L) S k n H Q ↔ W (pj lw) 16 1 (.val (.ref x) :: L) (.ref x :: S) k n H Q := W_s (rfl : (pj lw).1 16 0 = some (.aload_n 0, 1, 0)) rfl rfl rfl
theorem w16_1 {x : Int32} {l0 : Slot} : W (pj lw) 16 1 (l0 :: .val (.int x) :: L) S k n H Q ↔ W (pj lw) 16 2 (l0 :: .val (.int x) :: L) (.int x :: S) k n H Q := W_s (rfl : (pj lw).1 16 1 = some (.iload_n 1, 1, 0)) rfl rfl rfl
theorem w16_2 {a : Nat} {x0 : Int32} : W (pj lw) 16 2 L (.int x0 :: .ref a :: S) k n H Q ↔ ((isO H a = true ∧ cs S + (2 + 11) + 0 ≤ 13) ∧ Cl (pj lw) 7 [.ref a, .int x0] H (fun v H => W (pj lw) 16 5 L (v.toList ++ S) k n H Q)) := W_inst (as := [.int x0]) (rfl : (pj lw).1 16 2 = some (.invokevirtual 99, 3, 7)) rfl rfl rfl (Nat.le_of_ble_eq_true rfl) (Nat.le_of_ble_eq_true rfl) ⟨rfl, rfl⟩
theorem w16_5 {x : Int32} : W (pj lw) 16 5 L (.int x :: S) k n H Q ↔ (if x = 0 then W (pj lw) 16 8 L S k n H Q else W (pj lw) 16 11 L S k n H Q) := W_if_ne (rfl : (pj lw).1 16 5 = some (.ifCond .ne 6, 3, 0)) rfl
theorem w16_8 : W (pj lw) 16 8 L S k n H Q ↔ W (pj lw) 16 10 L (.int (-5) :: S) k n H Q := W_s (rfl : (pj lw).1 16 8 = some (.bipush (-5), 2, 0)) rfl rfl rfl
theorem w16_10 {x : Int32} : W (pj lw) 16 10 L (.int x :: S) k n H Q ↔ Q (some (.int x)) H := W_r (rfl : (pj lw).1 16 10 = some (.ireturn, 1, 0)) rfl
theorem w16_11 {x : Nat} : W (pj lw) 16 11 (.val (.ref x) :: L) S k n H Q ↔ W (pj lw) 16 12 (.val (.ref x) :: L) (.ref x :: S) k n H Q := W_s (rfl : (pj lw).1 16 11 = some (.aload_n 0, 1, 0)) rfl rfl rfl
theorem w16_12 {a : Nat} : W (pj lw) 16 12 L (.ref a :: S) k n H Q ↔ (isO H a = true ∧ W (pj lw) 16 15 L (fld H a 12 :: S) k n H Q) := W_getf (rfl : (pj lw).1 16 12 = some (.getfield 69, 3, 12))
theorem w16_15 {x : Int32} : W (pj lw) 16 15 L (.int x :: S) k n H Q ↔ (if x = 0 then W (pj lw) 16 18 L S k n H Q else W (pj lw) 16 21 L S k n H Q) := W_if_ne (rfl : (pj lw).1 16 15 = some (.ifCond .ne 6, 3, 0)) rfl
theorem w16_18 : W (pj lw) 16 18 L S k n H Q ↔ W (pj lw) 16 20 L (.int (-7) :: S) k n H Q := W_s (rfl : (pj lw).1 16 18 = some (.bipush (-7), 2, 0)) rfl rfl rfl
theorem w16_20 {x : Int32} : W (pj lw) 16 20 L (.int x :: S) k n H Q ↔ Q (some (.int x)) H := W_r (rfl : (pj lw).1 16 20 = some (.ireturn, 1, 0)) rfl
theorem w16_21 {x : Nat} : W (pj lw) 16 21 (.val (.ref x) :: L) S k n H Q ↔ W (pj lw) 16 22 (.val (.ref x) :: L) (.ref x :: S) k n H Q := W_s (rfl : (pj lw).1 16 21 = some (.aload_n 0, 1, 0)) rfl rfl rfl
theorem w16_22 {a : Nat} : W (pj lw) 16 22 L (.ref a :: S) k n H Q ↔ (isO H a = true ∧ W (pj lw) 16 25 L (fld H a 8 :: S) k n H Q) := W_getf (rfl : (pj lw).1 16 22 = some (.getfield 19, 3, 8))
theorem w16_25 {x : Int32} {l0 : Slot} : W (pj lw) 16 25 (l0 :: .val (.int x) :: L) S k n H Q ↔ W (pj lw) 16 26 (l0 :: .val (.int x) :: L) (.int x :: S) k n H Q := W_s (rfl : (pj lw).1 16 25 = some (.iload_n 1, 1, 0)) rfl rfl rfl
theorem w16_26 {x : Nat} : W (pj lw) 16 26 (.val (.ref x) :: L) S k n H Q ↔ W (pj lw) 16 27 (.val (.ref x) :: L) (.ref x :: S) k n H Q := W_s (rfl : (pj lw).1 16 26 = some (.aload_n 0, 1, 0)) rfl rfl rfl
theorem w16_27 {a : Nat} : W (pj lw) 16 27 L (.ref a :: S) k n H Q ↔ (isO H a = true ∧ W (pj lw) 16 30 L (fld H a 18 :: S) k n H Q) := W_getf (rfl : (pj lw).1 16 27 = some (.getfield 37, 3, 18))
theorem w16_30 {x : Nat} : W (pj lw) 16 30 (.val (.ref x) :: L) S k n H Q ↔ W (pj lw) 16 31 (.val (.ref x) :: L) (.ref x :: S) k n H Q := W_s (rfl : (pj lw).1 16 30 = some (.aload_n 0, 1, 0)) rfl rfl rfl
theorem w16_31 {a : Nat} : W (pj lw) 16 31 L (.ref a :: S) k n H Q ↔ (isO H a = true ∧ W (pj lw) 16 34 L (fld H a 9 :: S) k n H Q) := W_getf (rfl : (pj lw).1 16 31 = some (.getfield 22, 3, 9))
theorem w16_34 {x : Int32} {l0 : Slot} : W (pj lw) 16 34 (l0 :: .val (.int x) :: L) S k n H Q ↔ W (pj lw) 16 35 (l0 :: .val (.int x) :: L) (.int x :: S) k n H Q := W_s (rfl : (pj lw).1 16 34 = some (.iload_n 1, 1, 0)) rfl rfl rfl
theorem w16_35 {i : Int32} {a : Nat} : W (pj lw) 16 35 L (.int i :: .ref a :: S) k n H Q ↔ (inA H a .int i = true ∧ W (pj lw) 16 36 L (elt H a i :: S) k n H Q) := W_iaload (rfl : (pj lw).1 16 35 = some (.iaload, 1, 0))
theorem w16_36 : W (pj lw) 16 36 L S k n H Q ↔ W (pj lw) 16 37 L (.int 5 :: S) k n H Q := W_s (rfl : (pj lw).1 16 36 = some (.iconst 5, 1, 0)) rfl rfl rfl
theorem w16_37 {x y : Int32} : W (pj lw) 16 37 L (.int y :: .int x :: S) k n H Q ↔ W (pj lw) 16 38 L (.int (x * y) :: S) k n H Q := W_s (rfl : (pj lw).1 16 37 = some (.imul, 1, 0)) rfl rfl rfl
theorem w16_38 {x : Nat} : W (pj lw) 16 38 (.val (.ref x) :: L) S k n H Q ↔ W (pj lw) 16 39 (.val (.ref x) :: L) (.ref x :: S) k n H Q := W_s (rfl : (pj lw).1 16 38 = some (.aload_n 0, 1, 0)) rfl rfl rfl
theorem w16_39 {a : Nat} : W (pj lw) 16 39 L (.ref a :: S) k n H Q ↔ (isO H a = true ∧ W (pj lw) 16 42 L (fld H a 10 :: S) k n H Q) := W_getf (rfl : (pj lw).1 16 39 = some (.getfield 25, 3, 10))
theorem w16_42 {x : Int32} {l0 : Slot} : W (pj lw) 16 42 (l0 :: .val (.int x) :: L) S k n H Q ↔ W (pj lw) 16 43 (l0 :: .val (.int x) :: L) (.int x :: S) k n H Q := W_s (rfl : (pj lw).1 16 42 = some (.iload_n 1, 1, 0)) rfl rfl rfl
theorem w16_43 {i : Int32} {a : Nat} : W (pj lw) 16 43 L (.int i :: .ref a :: S) k n H Q ↔ (inA H a .int i = true ∧ W (pj lw) 16 44 L (elt H a i :: S) k n H Q) := W_iaload (rfl : (pj lw).1 16 43 = some (.iaload, 1, 0))
theorem w16_44 {x y : Int32} : W (pj lw) 16 44 L (.int y :: .int x :: S) k n H Q ↔ W (pj lw) 16 45 L (.int (x + y) :: S) k n H Q := W_s (rfl : (pj lw).1 16 44 = some (.iadd, 1, 0)) rfl rfl rfl
theorem w16_45 {i : Int32} {a : Nat} : W (pj lw) 16 45 L (.int i :: .ref a :: S) k n H Q ↔ (inA H a .int i = true ∧ W (pj lw) 16 46 L (elt H a i :: S) k n H Q) := W_iaload (rfl : (pj lw).1 16 45 = some (.iaload, 1, 0))
theorem w16_46 {x i : Int32} {a : Nat} : W (pj lw) 16 46 L (.int x :: .int i :: .ref a :: S) k n H Q ↔ (inAw H a .int i = true ∧ W (pj lw) 16 47 L S k n (wr H a i.toNatClampNeg (.int x)) Q) := W_iastore (rfl : (pj lw).1 16 46 = some (.iastore, 1, 0))
theorem w16_47 {x : Nat} : W (pj lw) 16 47 (.val (.ref x) :: L) S k n H Q ↔ W (pj lw) 16 48 (.val (.ref x) :: L) (.ref x :: S) k n H Q := W_s (rfl : (pj lw).1 16 47 = some (.aload_n 0, 1, 0)) rfl rfl rfl
theorem w16_48 : W (pj lw) 16 48 L S k n H Q ↔ W (pj lw) 16 49 L (.int 0 :: S) k n H Q := W_s (rfl : (pj lw).1 16 48 = some (.iconst 0, 1, 0)) rfl rfl rfl
theorem w16_49 {a : Nat} {v : Value} : W (pj lw) 16 49 L (v :: .ref a :: S) k n H Q ↔ ((isOw H a = true ∧ okv (.boolean) v = true) ∧ W (pj lw) 16 52 L S k n (wr H a 13 v) Q) := W_putf (rfl : (pj lw).1 16 49 = some (.putfield 73, 3, 13))
theorem w16_52 : W (pj lw) 16 52 L S k n H Q ↔ W (pj lw) 16 53 L (.int 0 :: S) k n H Q := W_s (rfl : (pj lw).1 16 52 = some (.iconst 0, 1, 0)) rfl rfl rfl
theorem w16_53 {x : Int32} : W (pj lw) 16 53 L (.int x :: S) k n H Q ↔ Q (some (.int x)) H := W_r (rfl : (pj lw).1 16 53 = some (.ireturn, 1, 0)) rfl
theorem c17 {x0 : Nat} {x1 : Int32} {x2 : Int32} : Cl (pj lw) 17 [.ref x0, .int x1, .int x2] H Q ↔ W (pj lw) 17 0 [.val (.ref x0), .val (.int x1), .val (.int x2)] [] 0 0 H Q := cl_unf rfl
theorem w17_0 {x : Nat} : W (pj lw) 17 0 (.val (.ref x) :: L) S k n H Q ↔ W (pj lw) 17 1 (.val (.ref x) :: L) (.ref x :: S) k n H Q := W_s (rfl : (pj lw).1 17 0 = some (.aload_n 0, 1, 0)) rfl rfl rfl
theorem w17_1 {x : Int32} {l0 : Slot} : W (pj lw) 17 1 (l0 :: .val (.int x) :: L) S k n H Q ↔ W (pj lw) 17 2 (l0 :: .val (.int x) :: L) (.int x :: S) k n H Q := W_s (rfl : (pj lw).1 17 1 = some (.iload_n 1, 1, 0)) rfl rfl rfl
theorem w17_2 {a : Nat} {x0 : Int32} : W (pj lw) 17 2 L (.int x0 :: .ref a :: S) k n H Q ↔ ((isO H a = true ∧ cs S + (2 + 11) + 0 ≤ 13) ∧ Cl (pj lw) 7 [.ref a, .int x0] H (fun v H => W (pj lw) 17 5 L (v.toList ++ S) k n H Q)) := W_inst (as := [.int x0]) (rfl : (pj lw).1 17 2 = some (.invokevirtual 99, 3, 7)) rfl rfl rfl (Nat.le_of_ble_eq_true rfl) (Nat.le_of_ble_eq_true rfl) ⟨rfl, rfl⟩
theorem w17_5 {x : Int32} : W (pj lw) 17 5 L (.int x :: S) k n H Q ↔ (if x = 0 then W (pj lw) 17 15 L S k n H Q else W (pj lw) 17 8 L S k n H Q) := W_if_eq (rfl : (pj lw).1 17 5 = some (.ifCond .eq 10, 3, 0)) rfl
theorem w17_8 {x : Nat} : W (pj lw) 17 8 (.val (.ref x) :: L) S k n H Q ↔ W (pj lw) 17 9 (.val (.ref x) :: L) (.ref x :: S) k n H Q := W_s (rfl : (pj lw).1 17 8 = some (.aload_n 0, 1, 0)) rfl rfl rfl
theorem w17_9 {a : Nat} : W (pj lw) 17 9 L (.ref a :: S) k n H Q ↔ (isO H a = true ∧ W (pj lw) 17 12 L (fld H a 12 :: S) k n H Q) := W_getf (rfl : (pj lw).1 17 9 = some (.getfield 69, 3, 12))
theorem w17_12 {x : Int32} : W (pj lw) 17 12 L (.int x :: S) k n H Q ↔ (if x = 0 then W (pj lw) 17 15 L S k n H Q else W (pj lw) 17 17 L S k n H Q) := W_if_ne (rfl : (pj lw).1 17 12 = some (.ifCond .ne 5, 3, 0)) rfl
theorem w17_15 : W (pj lw) 17 15 L S k n H Q ↔ W (pj lw) 17 16 L (.int 0 :: S) k n H Q := W_s (rfl : (pj lw).1 17 15 = some (.iconst 0, 1, 0)) rfl rfl rfl
theorem w17_16 {x : Int32} : W (pj lw) 17 16 L (.int x :: S) k n H Q ↔ Q (some (.int x)) H := W_r (rfl : (pj lw).1 17 16 = some (.ireturn, 1, 0)) rfl
theorem w17_17 {x : Int32} {l0 l1 : Slot} : W (pj lw) 17 17 (l0 :: l1 :: .val (.int x) :: L) S k n H Q ↔ W (pj lw) 17 18 (l0 :: l1 :: .val (.int x) :: L) (.int x :: S) k n H Q := W_s (rfl : (pj lw).1 17 17 = some (.iload_n 2, 1, 0)) rfl rfl rfl
theorem w17_18 {x : Int32} : W (pj lw) 17 18 L (.int x :: S) k n H Q ↔ (if x = 0 then W (pj lw) 17 21 L S k n H Q else W (pj lw) 17 28 L S k n H Q) := W_if_ne (rfl : (pj lw).1 17 18 = some (.ifCond .ne 10, 3, 0)) rfl
theorem w17_21 {x : Nat} : W (pj lw) 17 21 (.val (.ref x) :: L) S k n H Q ↔ W (pj lw) 17 22 (.val (.ref x) :: L) (.ref x :: S) k n H Q := W_s (rfl : (pj lw).1 17 21 = some (.aload_n 0, 1, 0)) rfl rfl rfl
theorem w17_22 {a : Nat} : W (pj lw) 17 22 L (.ref a :: S) k n H Q ↔ (isO H a = true ∧ W (pj lw) 17 25 L (fld H a 9 :: S) k n H Q) := W_getf (rfl : (pj lw).1 17 22 = some (.getfield 22, 3, 9))
theorem w17_25 {x : Int32} {l0 : Slot} : W (pj lw) 17 25 (l0 :: .val (.int x) :: L) S k n H Q ↔ W (pj lw) 17 26 (l0 :: .val (.int x) :: L) (.int x :: S) k n H Q := W_s (rfl : (pj lw).1 17 25 = some (.iload_n 1, 1, 0)) rfl rfl rfl
theorem w17_26 {i : Int32} {a : Nat} : W (pj lw) 17 26 L (.int i :: .ref a :: S) k n H Q ↔ (inA H a .int i = true ∧ W (pj lw) 17 27 L (elt H a i :: S) k n H Q) := W_iaload (rfl : (pj lw).1 17 26 = some (.iaload, 1, 0))
theorem w17_27 {x : Int32} : W (pj lw) 17 27 L (.int x :: S) k n H Q ↔ Q (some (.int x)) H := W_r (rfl : (pj lw).1 17 27 = some (.ireturn, 1, 0)) rfl
theorem w17_28 {x : Int32} {l0 l1 : Slot} : W (pj lw) 17 28 (l0 :: l1 :: .val (.int x) :: L) S k n H Q ↔ W (pj lw) 17 29 (l0 :: l1 :: .val (.int x) :: L) (.int x :: S) k n H Q := W_s (rfl : (pj lw).1 17 28 = some (.iload_n 2, 1, 0)) rfl rfl rfl
theorem w17_29 : W (pj lw) 17 29 L S k n H Q ↔ W (pj lw) 17 30 L (.int 1 :: S) k n H Q := W_s (rfl : (pj lw).1 17 29 = some (.iconst 1, 1, 0)) rfl rfl rfl
theorem w17_30 {x y : Int32} : W (pj lw) 17 30 L (.int y :: .int x :: S) k n H Q ↔ (if x = y then W (pj lw) 17 33 L S k n H Q else W (pj lw) 17 40 L S k n H Q) := W_icmp_ne (rfl : (pj lw).1 17 30 = some (.if_icmp .ne 10, 3, 0)) rfl
theorem w17_33 {x : Nat} : W (pj lw) 17 33 (.val (.ref x) :: L) S k n H Q ↔ W (pj lw) 17 34 (.val (.ref x) :: L) (.ref x :: S) k n H Q := W_s (rfl : (pj lw).1 17 33 = some (.aload_n 0, 1, 0)) rfl rfl rfl
theorem w17_34 {a : Nat} : W (pj lw) 17 34 L (.ref a :: S) k n H Q ↔ (isO H a = true ∧ W (pj lw) 17 37 L (fld H a 10 :: S) k n H Q) := W_getf (rfl : (pj lw).1 17 34 = some (.getfield 25, 3, 10))
theorem w17_37 {x : Int32} {l0 : Slot} : W (pj lw) 17 37 (l0 :: .val (.int x) :: L) S k n H Q ↔ W (pj lw) 17 38 (l0 :: .val (.int x) :: L) (.int x :: S) k n H Q := W_s (rfl : (pj lw).1 17 37 = some (.iload_n 1, 1, 0)) rfl rfl rfl
theorem w17_38 {i : Int32} {a : Nat} : W (pj lw) 17 38 L (.int i :: .ref a :: S) k n H Q ↔ (inA H a .int i = true ∧ W (pj lw) 17 39 L (elt H a i :: S) k n H Q) := W_iaload (rfl : (pj lw).1 17 38 = some (.iaload, 1, 0))
theorem w17_39 {x : Int32} : W (pj lw) 17 39 L (.int x :: S) k n H Q ↔ Q (some (.int x)) H := W_r (rfl : (pj lw).1 17 39 = some (.ireturn, 1, 0)) rfl
theorem w17_40 : W (pj lw) 17 40 L S k n H Q ↔ W (pj lw) 17 41 L (.int 0 :: S) k n H Q := W_s (rfl : (pj lw).1 17 40 = some (.iconst 0, 1, 0)) rfl rfl rfl
theorem w17_41 {x : Int32} : W (pj lw) 17 41 L (.int x :: S) k n H Q ↔ Q (some (.int x)) H := W_r (rfl : (pj lw).1 17 41 = some (.ireturn, 1, 0)) rfl
theorem c18 {x0 : Nat} : Cl (pj lw) 18 [.ref x0] H Q ↔ W (pj lw) 18 0 [.val (.ref x0), .unset, .unset, .unset, .unset] [] 0 0 H Q := cl_unf rfl
theorem w18_0 {x : Nat} : W (pj lw) 18 0 (.val (.ref x) :: L) S k n H Q ↔ W (pj lw) 18 1 (.val (.ref x) :: L) (.ref x :: S) k n H Q := W_s (rfl : (pj lw).1 18 0 = some (.aload_n 0, 1, 0)) rfl rfl rfl
theorem w18_1 {a : Nat} : W (pj lw) 18 1 L (.ref a :: S) k n H Q ↔ ((isO H a = true ∧ cs S + (2 + 11) + 0 ≤ 55) ∧ Cl (pj lw) 19 [.ref a] H (fun v H => W (pj lw) 18 4 L (v.toList ++ S) k n H Q)) := W_inst (as := []) (rfl : (pj lw).1 18 1 = some (.invokevirtual 114, 3, 19)) rfl rfl rfl (Nat.le_of_ble_eq_true rfl) (Nat.le_of_ble_eq_true rfl) ⟨rfl, rfl⟩
theorem w18_4 : W (pj lw) 18 4 L S k n H Q ↔ W (pj lw) 18 5 L (.int 0 :: S) k n H Q := W_s (rfl : (pj lw).1 18 4 = some (.iconst 0, 1, 0)) rfl rfl rfl
theorem w18_5 {x : Int32} {l0 : Slot} : W (pj lw) 18 5 (l0 :: .unset :: L) (.int x :: S) k n H Q ↔ W (pj lw) 18 6 (l0 :: .val (.int x) :: L) S k n H Q := W_istn (rfl : (pj lw).1 18 5 = some (.istore_n 1, 1, 0)) rfl rfl
theorem w18_6 : W (pj lw) 18 6 L S k n H Q ↔ W (pj lw) 18 7 L (.int 0 :: S) k n H Q := W_s (rfl : (pj lw).1 18 6 = some (.iconst 0, 1, 0)) rfl rfl rfl
theorem w18_7 {x : Int32} {l0 l1 : Slot} : W (pj lw) 18 7 (l0 :: l1 :: .unset :: L) (.int x :: S) k n H Q ↔ W (pj lw) 18 8 (l0 :: l1 :: .val (.int x) :: L) S k n H Q := W_istn (rfl : (pj lw).1 18 7 = some (.istore_n 2, 1, 0)) rfl rfl
theorem w18_8 : W (pj lw) 18 8 L S k n H Q ↔ W (pj lw) 18 9 L (.int 1 :: S) k n H Q := W_s (rfl : (pj lw).1 18 8 = some (.iconst 1, 1, 0)) rfl rfl rfl
theorem w18_9 {x : Int32} {l0 l1 l2 : Slot} : W (pj lw) 18 9 (l0 :: l1 :: l2 :: .unset :: L) (.int x :: S) k n H Q ↔ W (pj lw) 18 10 (l0 :: l1 :: l2 :: .val (.int x) :: L) S k n H Q := W_istn (rfl : (pj lw).1 18 9 = some (.istore_n 3, 1, 0)) rfl rfl
theorem w18_10 {x : Int32} {l0 l1 l2 : Slot} : W (pj lw) 18 10 (l0 :: l1 :: l2 :: .val (.int x) :: L) S k n H Q ↔ W (pj lw) 18 11 (l0 :: l1 :: l2 :: .val (.int x) :: L) (.int x :: S) k n H Q := W_s (rfl : (pj lw).1 18 10 = some (.iload_n 3, 1, 0)) rfl rfl rfl
theorem w18_11 {x : Nat} : W (pj lw) 18 11 (.val (.ref x) :: L) S k n H Q ↔ W (pj lw) 18 12 (.val (.ref x) :: L) (.ref x :: S) k n H Q := W_s (rfl : (pj lw).1 18 11 = some (.aload_n 0, 1, 0)) rfl rfl rfl
theorem w18_12 {a : Nat} : W (pj lw) 18 12 L (.ref a :: S) k n H Q ↔ (isO H a = true ∧ W (pj lw) 18 15 L (fld H a 4 :: S) k n H Q) := W_getf (rfl : (pj lw).1 18 12 = some (.getfield 66, 3, 4))
theorem w18_15 {x y : Int32} : W (pj lw) 18 15 L (.int y :: .int x :: S) k n H Q ↔ (if y < x then W (pj lw) 18 63 L S k n H Q else W (pj lw) 18 18 L S k n H Q) := W_icmp_gt (rfl : (pj lw).1 18 15 = some (.if_icmp .gt 48, 3, 0)) rfl
theorem w18_18 {x : Nat} : W (pj lw) 18 18 (.val (.ref x) :: L) S k n H Q ↔ W (pj lw) 18 19 (.val (.ref x) :: L) (.ref x :: S) k n H Q := W_s (rfl : (pj lw).1 18 18 = some (.aload_n 0, 1, 0)) rfl rfl rfl
theorem w18_19 {x : Int32} {l0 l1 l2 : Slot} : W (pj lw) 18 19 (l0 :: l1 :: l2 :: .val (.int x) :: L) S k n H Q ↔ W (pj lw) 18 20 (l0 :: l1 :: l2 :: .val (.int x) :: L) (.int x :: S) k n H Q := W_s (rfl : (pj lw).1 18 19 = some (.iload_n 3, 1, 0)) rfl rfl rfl
theorem w18_20 {a : Nat} {x0 : Int32} : W (pj lw) 18 20 L (.int x0 :: .ref a :: S) k n H Q ↔ ((isO H a = true ∧ cs S + (5 + 11) + 13 ≤ 55) ∧ Cl (pj lw) 22 [.ref a, .int x0] H (fun v H => W (pj lw) 18 23 L (v.toList ++ S) k n H Q)) := W_inst (as := [.int x0]) (rfl : (pj lw).1 18 20 = some (.invokevirtual 117, 3, 22)) rfl rfl rfl (Nat.le_of_ble_eq_true rfl) (Nat.le_of_ble_eq_true rfl) ⟨rfl, rfl⟩
theorem w18_23 {x : Int32} : W (pj lw) 18 23 L (.int x :: S) k n H Q ↔ (if x = 0 then W (pj lw) 18 57 L S k n H Q else W (pj lw) 18 26 L S k n H Q) := W_if_eq (rfl : (pj lw).1 18 23 = some (.ifCond .eq 34, 3, 0)) rfl
theorem w18_26 {x : Nat} : W (pj lw) 18 26 (.val (.ref x) :: L) S k n H Q ↔ W (pj lw) 18 27 (.val (.ref x) :: L) (.ref x :: S) k n H Q := W_s (rfl : (pj lw).1 18 26 = some (.aload_n 0, 1, 0)) rfl rfl rfl
theorem w18_27 {x : Int32} {l0 l1 l2 : Slot} : W (pj lw) 18 27 (l0 :: l1 :: l2 :: .val (.int x) :: L) S k n H Q ↔ W (pj lw) 18 28 (l0 :: l1 :: l2 :: .val (.int x) :: L) (.int x :: S) k n H Q := W_s (rfl : (pj lw).1 18 27 = some (.iload_n 3, 1, 0)) rfl rfl rfl
theorem w18_28 {a : Nat} {x0 : Int32} : W (pj lw) 18 28 L (.int x0 :: .ref a :: S) k n H Q ↔ ((isO H a = true ∧ cs S + (6 + 11) + 16 ≤ 55) ∧ Cl (pj lw) 26 [.ref a, .int x0] H (fun v H => W (pj lw) 18 31 L (v.toList ++ S) k n H Q)) := W_inst (as := [.int x0]) (rfl : (pj lw).1 18 28 = some (.invokevirtual 120, 3, 26)) rfl rfl rfl (Nat.le_of_ble_eq_true rfl) (Nat.le_of_ble_eq_true rfl) ⟨rfl, rfl⟩
theorem w18_31 {x : Int32} : W (pj lw) 18 31 L (.int x :: S) k n H Q ↔ (if x = 0 then W (pj lw) 18 34 L S k n H Q else W (pj lw) 18 57 L S k n H Q) := W_if_ne (rfl : (pj lw).1 18 31 = some (.ifCond .ne 26, 3, 0)) rfl
theorem w18_34 : W (pj lw) 18 34 L S k n H Q ↔ W (pj lw) 18 35 L (.int 2 :: S) k n H Q := W_s (rfl : (pj lw).1 18 34 = some (.iconst 2, 1, 0)) rfl rfl rfl
theorem w18_35 {x : Nat} : W (pj lw) 18 35 (.val (.ref x) :: L) S k n H Q ↔ W (pj lw) 18 36 (.val (.ref x) :: L) (.ref x :: S) k n H Q := W_s (rfl : (pj lw).1 18 35 = some (.aload_n 0, 1, 0)) rfl rfl rfl
theorem w18_36 {a : Nat} : W (pj lw) 18 36 L (.ref a :: S) k n H Q ↔ (isO H a = true ∧ W (pj lw) 18 39 L (fld H a 22 :: S) k n H Q) := W_getf (rfl : (pj lw).1 18 36 = some (.getfield 82, 3, 22))
theorem w18_39 {x y : Int32} : W (pj lw) 18 39 L (.int y :: .int x :: S) k n H Q ↔ W (pj lw) 18 40 L (.int (x + y) :: S) k n H Q := W_s (rfl : (pj lw).1 18 39 = some (.iadd, 1, 0)) rfl rfl rfl
theorem w18_40i {y : Int32} {x : Int32} {l0 l1 l2 l3 : Slot} : W (pj lw) 18 40 (l0 :: l1 :: l2 :: l3 :: .val (.int y) :: L) (.int x :: S) k n H Q ↔ W (pj lw) 18 42 (l0 :: l1 :: l2 :: l3 :: .val (.int x) :: L) S k n H Q := W_ist (rfl : (pj lw).1 18 40 = some (.istore 4, 2, 0)) rfl rfl
theorem w18_40 {x : Int32} {l0 l1 l2 l3 : Slot} : W (pj lw) 18 40 (l0 :: l1 :: l2 :: l3 :: .unset :: L) (.int x :: S) k n H Q ↔ W (pj lw) 18 42 (l0 :: l1 :: l2 :: l3 :: .val (.int x) :: L) S k n H Q := W_ist (rfl : (pj lw).1 18 40 = some (.istore 4, 2, 0)) rfl rfl
theorem w18_42 {x : Int32} {l0 : Slot} : W (pj lw) 18 42 (l0 :: .val (.int x) :: L) S k n H Q ↔ W (pj lw) 18 43 (l0 :: .val (.int x) :: L) (.int x :: S) k n H Q := W_s (rfl : (pj lw).1 18 42 = some (.iload_n 1, 1, 0)) rfl rfl rfl
theorem w18_43 {x : Int32} : W (pj lw) 18 43 L (.int x :: S) k n H Q ↔ (if x = 0 then W (pj lw) 18 52 L S k n H Q else W (pj lw) 18 46 L S k n H Q) := W_if_eq (rfl : (pj lw).1 18 43 = some (.ifCond .eq 9, 3, 0)) rfl
theorem w18_46 {x : Int32} {l0 l1 l2 l3 : Slot} : W (pj lw) 18 46 (l0 :: l1 :: l2 :: l3 :: .val (.int x) :: L) S k n H Q ↔ W (pj lw) 18 48 (l0 :: l1 :: l2 :: l3 :: .val (.int x) :: L) (.int x :: S) k n H Q := W_s (rfl : (pj lw).1 18 46 = some (.iload 4, 2, 0)) rfl rfl rfl
theorem w18_48 {x : Int32} {l0 l1 : Slot} : W (pj lw) 18 48 (l0 :: l1 :: .val (.int x) :: L) S k n H Q ↔ W (pj lw) 18 49 (l0 :: l1 :: .val (.int x) :: L) (.int x :: S) k n H Q := W_s (rfl : (pj lw).1 18 48 = some (.iload_n 2, 1, 0)) rfl rfl rfl
theorem w18_49 {x y : Int32} : W (pj lw) 18 49 L (.int y :: .int x :: S) k n H Q ↔ (if x < y then W (pj lw) 18 52 L S k n H Q else W (pj lw) 18 57 L S k n H Q) := W_icmp_ge (rfl : (pj lw).1 18 49 = some (.if_icmp .ge 8, 3, 0)) rfl
theorem w18_52 {x : Int32} {l0 l1 l2 : Slot} : W (pj lw) 18 52 (l0 :: l1 :: l2 :: .val (.int x) :: L) S k n H Q ↔ W (pj lw) 18 53 (l0 :: l1 :: l2 :: .val (.int x) :: L) (.int x :: S) k n H Q := W_s (rfl : (pj lw).1 18 52 = some (.iload_n 3, 1, 0)) rfl rfl rfl
theorem w18_53i {y : Int32} {x : Int32} {l0 : Slot} : W (pj lw) 18 53 (l0 :: .val (.int y) :: L) (.int x :: S) k n H Q ↔ W (pj lw) 18 54 (l0 :: .val (.int x) :: L) S k n H Q := W_istn (rfl : (pj lw).1 18 53 = some (.istore_n 1, 1, 0)) rfl rfl
theorem w18_54 {x : Int32} {l0 l1 l2 l3 : Slot} : W (pj lw) 18 54 (l0 :: l1 :: l2 :: l3 :: .val (.int x) :: L) S k n H Q ↔ W (pj lw) 18 56 (l0 :: l1 :: l2 :: l3 :: .val (.int x) :: L) (.int x :: S) k n H Q := W_s (rfl : (pj lw).1 18 54 = some (.iload 4, 2, 0)) rfl rfl rfl
theorem w18_56i {y : Int32} {x : Int32} {l0 l1 : Slot} : W (pj lw) 18 56 (l0 :: l1 :: .val (.int y) :: L) (.int x :: S) k n H Q ↔ W (pj lw) 18 57 (l0 :: l1 :: .val (.int x) :: L) S k n H Q := W_istn (rfl : (pj lw).1 18 56 = some (.istore_n 2, 1, 0)) rfl rfl
theorem w18_57 {x : Int32} {l0 l1 l2 : Slot} : W (pj lw) 18 57 (l0 :: l1 :: l2 :: .val (.int x) :: L) S k n H Q ↔ W (pj lw) 18 60 (l0 :: l1 :: l2 :: .val (.int (x + 1)) :: L) S k n H Q := W_s (rfl : (pj lw).1 18 57 = some (.iinc 3 1, 3, 0)) rfl rfl rfl
theorem w18_60 : W (pj lw) 18 60 L S k n H Q ↔ W (pj lw) 18 10 L S k n H Q := W_goto (rfl : (pj lw).1 18 60 = some (.goto (-50), 3, 0)) rfl
theorem w18_63 {x : Nat} : W (pj lw) 18 63 (.val (.ref x) :: L) S k n H Q ↔ W (pj lw) 18 64 (.val (.ref x) :: L) (.ref x :: S) k n H Q := W_s (rfl : (pj lw).1 18 63 = some (.aload_n 0, 1, 0)) rfl rfl rfl
theorem w18_64 {a : Nat} : W (pj lw) 18 64 L (.ref a :: S) k n H Q ↔ ((isO H a = true ∧ cs S + (4 + 11) + 40 ≤ 55) ∧ Cl (pj lw) 20 [.ref a] H (fun v H => W (pj lw) 18 67 L (v.toList ++ S) k n H Q)) := W_inst (as := []) (rfl : (pj lw).1 18 64 = some (.invokevirtual 123, 3, 20)) rfl rfl rfl (Nat.le_of_ble_eq_true rfl) (Nat.le_of_ble_eq_true rfl) ⟨rfl, rfl⟩
theorem w18_67 {x : Nat} : W (pj lw) 18 67 (.val (.ref x) :: L) S k n H Q ↔ W (pj lw) 18 68 (.val (.ref x) :: L) (.ref x :: S) k n H Q := W_s (rfl : (pj lw).1 18 67 = some (.aload_n 0, 1, 0)) rfl rfl rfl
theorem w18_68 {a : Nat} : W (pj lw) 18 68 L (.ref a :: S) k n H Q ↔ ((isO H a = true ∧ cs S + (2 + 11) + 0 ≤ 55) ∧ Cl (pj lw) 21 [.ref a] H (fun v H => W (pj lw) 18 71 L (v.toList ++ S) k n H Q)) := W_inst (as := []) (rfl : (pj lw).1 18 68 = some (.invokevirtual 126, 3, 21)) rfl rfl rfl (Nat.le_of_ble_eq_true rfl) (Nat.le_of_ble_eq_true rfl) ⟨rfl, rfl⟩
theorem w18_71i {y : Int32} {x : Int32} {l0 l1 l2 : Slot} : W (pj lw) 18 71 (l0 :: l1 :: l2 :: .val (.int y) :: L) (.int x :: S) k n H Q ↔ W (pj lw) 18 72 (l0 :: l1 :: l2 :: .val (.int x) :: L) S k n H Q := W_istn (rfl : (pj lw).1 18 71 = some (.istore_n 3, 1, 0)) rfl rfl
theorem w18_72 {x : Nat} : W (pj lw) 18 72 (.val (.ref x) :: L) S k n H Q ↔ W (pj lw) 18 73 (.val (.ref x) :: L) (.ref x :: S) k n H Q := W_s (rfl : (pj lw).1 18 72 = some (.aload_n 0, 1, 0)) rfl rfl rfl
theorem w18_73 {x : Int32} {l0 l1 l2 : Slot} : W (pj lw) 18 73 (l0 :: l1 :: l2 :: .val (.int x) :: L) S k n H Q ↔ W (pj lw) 18 74 (l0 :: l1 :: l2 :: .val (.int x) :: L) (.int x :: S) k n H Q := W_s (rfl : (pj lw).1 18 73 = some (.iload_n 3, 1, 0)) rfl rfl rfl
theorem w18_74 {x : Int32} : W (pj lw) 18 74 L (.int x :: S) k n H Q ↔ (if x = 0 then W (pj lw) 18 81 L S k n H Q else W (pj lw) 18 77 L S k n H Q) := W_if_eq (rfl : (pj lw).1 18 74 = some (.ifCond .eq 7, 3, 0)) rfl
theorem w18_77 : W (pj lw) 18 77 L S k n H Q ↔ W (pj lw) 18 78 L (.int 2 :: S) k n H Q := W_s (rfl : (pj lw).1 18 77 = some (.iconst 2, 1, 0)) rfl rfl rfl
theorem w18_78 : W (pj lw) 18 78 L S k n H Q ↔ W (pj lw) 18 82 L S k n H Q := W_goto (rfl : (pj lw).1 18 78 = some (.goto 4, 3, 0)) rfl
theorem w18_81 : W (pj lw) 18 81 L S k n H Q ↔ W (pj lw) 18 82 L (.int 1 :: S) k n H Q := W_s (rfl : (pj lw).1 18 81 = some (.iconst 1, 1, 0)) rfl rfl rfl
theorem w18_82 {a : Nat} {v : Value} : W (pj lw) 18 82 L (v :: .ref a :: S) k n H Q ↔ ((isOw H a = true ∧ okv (.int) v = true) ∧ W (pj lw) 18 85 L S k n (wr H a 14 v) Q) := W_putf (rfl : (pj lw).1 18 82 = some (.putfield 76, 3, 14))
theorem w18_85 {x : Nat} : W (pj lw) 18 85 (.val (.ref x) :: L) S k n H Q ↔ W (pj lw) 18 86 (.val (.ref x) :: L) (.ref x :: S) k n H Q := W_s (rfl : (pj lw).1 18 85 = some (.aload_n 0, 1, 0)) rfl rfl rfl
theorem w18_86 {x : Int32} {l0 l1 l2 : Slot} : W (pj lw) 18 86 (l0 :: l1 :: l2 :: .val (.int x) :: L) S k n H Q ↔ W (pj lw) 18 87 (l0 :: l1 :: l2 :: .val (.int x) :: L) (.int x :: S) k n H Q := W_s (rfl : (pj lw).1 18 86 = some (.iload_n 3, 1, 0)) rfl rfl rfl
theorem w18_87 {x : Int32} : W (pj lw) 18 87 L (.int x :: S) k n H Q ↔ (if x = 0 then W (pj lw) 18 94 L S k n H Q else W (pj lw) 18 90 L S k n H Q) := W_if_eq (rfl : (pj lw).1 18 87 = some (.ifCond .eq 7, 3, 0)) rfl
theorem w18_90 {x : Int32} {l0 : Slot} : W (pj lw) 18 90 (l0 :: .val (.int x) :: L) S k n H Q ↔ W (pj lw) 18 91 (l0 :: .val (.int x) :: L) (.int x :: S) k n H Q := W_s (rfl : (pj lw).1 18 90 = some (.iload_n 1, 1, 0)) rfl rfl rfl
theorem w18_91 : W (pj lw) 18 91 L S k n H Q ↔ W (pj lw) 18 95 L S k n H Q := W_goto (rfl : (pj lw).1 18 91 = some (.goto 4, 3, 0)) rfl
theorem w18_94 : W (pj lw) 18 94 L S k n H Q ↔ W (pj lw) 18 95 L (.int 0 :: S) k n H Q := W_s (rfl : (pj lw).1 18 94 = some (.iconst 0, 1, 0)) rfl rfl rfl
theorem w18_95 {a : Nat} {v : Value} : W (pj lw) 18 95 L (v :: .ref a :: S) k n H Q ↔ ((isOw H a = true ∧ okv (.int) v = true) ∧ W (pj lw) 18 98 L S k n (wr H a 15 v) Q) := W_putf (rfl : (pj lw).1 18 95 = some (.putfield 79, 3, 15))
theorem w18_98 {x : Nat} : W (pj lw) 18 98 (.val (.ref x) :: L) S k n H Q ↔ W (pj lw) 18 99 (.val (.ref x) :: L) (.ref x :: S) k n H Q := W_s (rfl : (pj lw).1 18 98 = some (.aload_n 0, 1, 0)) rfl rfl rfl
theorem w18_99 : W (pj lw) 18 99 L S k n H Q ↔ W (pj lw) 18 100 L (.int 1 :: S) k n H Q := W_s (rfl : (pj lw).1 18 99 = some (.iconst 1, 1, 0)) rfl rfl rfl
theorem w18_100 {a : Nat} {v : Value} : W (pj lw) 18 100 L (v :: .ref a :: S) k n H Q ↔ ((isOw H a = true ∧ okv (.boolean) v = true) ∧ W (pj lw) 18 103 L S k n (wr H a 13 v) Q) := W_putf (rfl : (pj lw).1 18 100 = some (.putfield 73, 3, 13))
theorem w18_103 {x : Nat} : W (pj lw) 18 103 (.val (.ref x) :: L) S k n H Q ↔ W (pj lw) 18 104 (.val (.ref x) :: L) (.ref x :: S) k n H Q := W_s (rfl : (pj lw).1 18 103 = some (.aload_n 0, 1, 0)) rfl rfl rfl
theorem w18_104 {a : Nat} : W (pj lw) 18 104 L (.ref a :: S) k n H Q ↔ (isO H a = true ∧ W (pj lw) 18 107 L (fld H a 14 :: S) k n H Q) := W_getf (rfl : (pj lw).1 18 104 = some (.getfield 76, 3, 14))
theorem w18_107 {x : Int32} : W (pj lw) 18 107 L (.int x :: S) k n H Q ↔ Q (some (.int x)) H := W_r (rfl : (pj lw).1 18 107 = some (.ireturn, 1, 0)) rfl
theorem c19 {x0 : Nat} : Cl (pj lw) 19 [.ref x0] H Q ↔ W (pj lw) 19 0 [.val (.ref x0), .unset] [] 0 0 H Q := cl_unf rfl
theorem w19_0 : W (pj lw) 19 0 L S k n H Q ↔ W (pj lw) 19 1 L (.int 1 :: S) k n H Q := W_s (rfl : (pj lw).1 19 0 = some (.iconst 1, 1, 0)) rfl rfl rfl
theorem w19_1 {x : Int32} {l0 : Slot} : W (pj lw) 19 1 (l0 :: .unset :: L) (.int x :: S) k n H Q ↔ W (pj lw) 19 2 (l0 :: .val (.int x) :: L) S k n H Q := W_istn (rfl : (pj lw).1 19 1 = some (.istore_n 1, 1, 0)) rfl rfl
theorem w19_2 {x : Int32} {l0 : Slot} : W (pj lw) 19 2 (l0 :: .val (.int x) :: L) S k n H Q ↔ W (pj lw) 19 3 (l0 :: .val (.int x) :: L) (.int x :: S) k n H Q := W_s (rfl : (pj lw).1 19 2 = some (.iload_n 1, 1, 0)) rfl rfl rfl
theorem w19_3 {x : Nat} : W (pj lw) 19 3 (.val (.ref x) :: L) S k n H Q ↔ W (pj lw) 19 4 (.val (.ref x) :: L) (.ref x :: S) k n H Q := W_s (rfl : (pj lw).1 19 3 = some (.aload_n 0, 1, 0)) rfl rfl rfl
theorem w19_4 {a : Nat} : W (pj lw) 19 4 L (.ref a :: S) k n H Q ↔ (isO H a = true ∧ W (pj lw) 19 7 L (fld H a 4 :: S) k n H Q) := W_getf (rfl : (pj lw).1 19 4 = some (.getfield 66, 3, 4))
theorem w19_7 {x y : Int32} : W (pj lw) 19 7 L (.int y :: .int x :: S) k n H Q ↔ (if y < x then W (pj lw) 19 46 L S k n H Q else W (pj lw) 19 10 L S k n H Q) := W_icmp_gt (rfl : (pj lw).1 19 7 = some (.if_icmp .gt 39, 3, 0)) rfl
theorem w19_10 {x : Nat} : W (pj lw) 19 10 (.val (.ref x) :: L) S k n H Q ↔ W (pj lw) 19 11 (.val (.ref x) :: L) (.ref x :: S) k n H Q := W_s (rfl : (pj lw).1 19 10 = some (.aload_n 0, 1, 0)) rfl rfl rfl
theorem w19_11 {a : Nat} : W (pj lw) 19 11 L (.ref a :: S) k n H Q ↔ (isO H a = true ∧ W (pj lw) 19 14 L (fld H a 11 :: S) k n H Q) := W_getf (rfl : (pj lw).1 19 11 = some (.getfield 28, 3, 11))
theorem w19_14 {x : Int32} {l0 : Slot} : W (pj lw) 19 14 (l0 :: .val (.int x) :: L) S k n H Q ↔ W (pj lw) 19 15 (l0 :: .val (.int x) :: L) (.int x :: S) k n H Q := W_s (rfl : (pj lw).1 19 14 = some (.iload_n 1, 1, 0)) rfl rfl rfl
theorem w19_15 {x : Nat} : W (pj lw) 19 15 (.val (.ref x) :: L) S k n H Q ↔ W (pj lw) 19 16 (.val (.ref x) :: L) (.ref x :: S) k n H Q := W_s (rfl : (pj lw).1 19 15 = some (.aload_n 0, 1, 0)) rfl rfl rfl
theorem w19_16 {a : Nat} : W (pj lw) 19 16 L (.ref a :: S) k n H Q ↔ (isO H a = true ∧ W (pj lw) 19 19 L (fld H a 8 :: S) k n H Q) := W_getf (rfl : (pj lw).1 19 16 = some (.getfield 19, 3, 8))
theorem w19_19 {x : Int32} {l0 : Slot} : W (pj lw) 19 19 (l0 :: .val (.int x) :: L) S k n H Q ↔ W (pj lw) 19 20 (l0 :: .val (.int x) :: L) (.int x :: S) k n H Q := W_s (rfl : (pj lw).1 19 19 = some (.iload_n 1, 1, 0)) rfl rfl rfl
theorem w19_20 {i : Int32} {a : Nat} : W (pj lw) 19 20 L (.int i :: .ref a :: S) k n H Q ↔ (inA H a .int i = true ∧ W (pj lw) 19 21 L (elt H a i :: S) k n H Q) := W_iaload (rfl : (pj lw).1 19 20 = some (.iaload, 1, 0))
theorem w19_21 {x : Int32} : W (pj lw) 19 21 L (.int x :: S) k n H Q ↔ (if x < 0 then W (pj lw) 19 35 L S k n H Q else W (pj lw) 19 24 L S k n H Q) := W_if_lt (rfl : (pj lw).1 19 21 = some (.ifCond .lt 14, 3, 0)) rfl
theorem w19_24 : W (pj lw) 19 24 L S k n H Q ↔ W (pj lw) 19 25 L (.int 1 :: S) k n H Q := W_s (rfl : (pj lw).1 19 24 = some (.iconst 1, 1, 0)) rfl rfl rfl
theorem w19_25 {x : Nat} : W (pj lw) 19 25 (.val (.ref x) :: L) S k n H Q ↔ W (pj lw) 19 26 (.val (.ref x) :: L) (.ref x :: S) k n H Q := W_s (rfl : (pj lw).1 19 25 = some (.aload_n 0, 1, 0)) rfl rfl rfl
theorem w19_26 {a : Nat} : W (pj lw) 19 26 L (.ref a :: S) k n H Q ↔ (isO H a = true ∧ W (pj lw) 19 29 L (fld H a 8 :: S) k n H Q) := W_getf (rfl : (pj lw).1 19 26 = some (.getfield 19, 3, 8))
theorem w19_29 {x : Int32} {l0 : Slot} : W (pj lw) 19 29 (l0 :: .val (.int x) :: L) S k n H Q ↔ W (pj lw) 19 30 (l0 :: .val (.int x) :: L) (.int x :: S) k n H Q := W_s (rfl : (pj lw).1 19 29 = some (.iload_n 1, 1, 0)) rfl rfl rfl
theorem w19_30 {i : Int32} {a : Nat} : W (pj lw) 19 30 L (.int i :: .ref a :: S) k n H Q ↔ (inA H a .int i = true ∧ W (pj lw) 19 31 L (elt H a i :: S) k n H Q) := W_iaload (rfl : (pj lw).1 19 30 = some (.iaload, 1, 0))
theorem w19_31 {x y : Int32} : W (pj lw) 19 31 L (.int y :: .int x :: S) k n H Q ↔ W (pj lw) 19 32 L (.int (x <<< (y &&& 31)) :: S) k n H Q := W_s (rfl : (pj lw).1 19 31 = some (.ishl, 1, 0)) rfl rfl rfl
theorem w19_32 : W (pj lw) 19 32 L S k n H Q ↔ W (pj lw) 19 39 L S k n H Q := W_goto (rfl : (pj lw).1 19 32 = some (.goto 7, 3, 0)) rfl
theorem w19_35 {x : Nat} : W (pj lw) 19 35 (.val (.ref x) :: L) S k n H Q ↔ W (pj lw) 19 36 (.val (.ref x) :: L) (.ref x :: S) k n H Q := W_s (rfl : (pj lw).1 19 35 = some (.aload_n 0, 1, 0)) rfl rfl rfl
theorem w19_36 {a : Nat} : W (pj lw) 19 36 L (.ref a :: S) k n H Q ↔ (isO H a = true ∧ W (pj lw) 19 39 L (fld H a 2 :: S) k n H Q) := W_getf (rfl : (pj lw).1 19 36 = some (.getfield 88, 3, 2))
theorem w19_39 {x i : Int32} {a : Nat} : W (pj lw) 19 39 L (.int x :: .int i :: .ref a :: S) k n H Q ↔ (inAw H a .int i = true ∧ W (pj lw) 19 40 L S k n (wr H a i.toNatClampNeg (.int x)) Q) := W_iastore (rfl : (pj lw).1 19 39 = some (.iastore, 1, 0))
theorem w19_40 {x : Int32} {l0 : Slot} : W (pj lw) 19 40 (l0 :: .val (.int x) :: L) S k n H Q ↔ W (pj lw) 19 43 (l0 :: .val (.int (x + 1)) :: L) S k n H Q := W_s (rfl : (pj lw).1 19 40 = some (.iinc 1 1, 3, 0)) rfl rfl rfl
theorem w19_43 : W (pj lw) 19 43 L S k n H Q ↔ W (pj lw) 19 2 L S k n H Q := W_goto (rfl : (pj lw).1 19 43 = some (.goto (-41), 3, 0)) rfl
theorem w19_46 : W (pj lw) 19 46 L [] k n H Q ↔ Q none H := W_r (rfl : (pj lw).1 19 46 = some (.return_, 1, 0)) rfl
theorem c20 {x0 : Nat} : Cl (pj lw) 20 [.ref x0] H Q ↔ W (pj lw) 20 0 [.val (.ref x0), .unset, .unset, .unset] [] 0 0 H Q := cl_unf rfl
theorem w20_0 : W (pj lw) 20 0 L S k n H Q ↔ W (pj lw) 20 1 L (.int 0 :: S) k n H Q := W_s (rfl : (pj lw).1 20 0 = some (.iconst 0, 1, 0)) rfl rfl rfl
theorem w20_1 {x : Int32} {l0 : Slot} : W (pj lw) 20 1 (l0 :: .unset :: L) (.int x :: S) k n H Q ↔ W (pj lw) 20 2 (l0 :: .val (.int x) :: L) S k n H Q := W_istn (rfl : (pj lw).1 20 1 = some (.istore_n 1, 1, 0)) rfl rfl
theorem w20_2 {x : Int32} {l0 : Slot} : W (pj lw) 20 2 (l0 :: .val (.int x) :: L) S k n H Q ↔ W (pj lw) 20 3 (l0 :: .val (.int x) :: L) (.int x :: S) k n H Q := W_s (rfl : (pj lw).1 20 2 = some (.iload_n 1, 1, 0)) rfl rfl rfl
theorem w20_3 : W (pj lw) 20 3 L S k n H Q ↔ W (pj lw) 20 6 L (.int 330 :: S) k n H Q := W_s (rfl : (pj lw).1 20 3 = some (.sipush 330, 3, 0)) rfl rfl rfl
theorem w20_6 {x y : Int32} : W (pj lw) 20 6 L (.int y :: .int x :: S) k n H Q ↔ (if x < y then W (pj lw) 20 9 L S k n H Q else W (pj lw) 20 54 L S k n H Q) := W_icmp_ge (rfl : (pj lw).1 20 6 = some (.if_icmp .ge 48, 3, 0)) rfl
theorem w20_9 : W (pj lw) 20 9 L S k n H Q ↔ W (pj lw) 20 10 L (.int 0 :: S) k n H Q := W_s (rfl : (pj lw).1 20 9 = some (.iconst 0, 1, 0)) rfl rfl rfl
theorem w20_10i {y : Int32} {x : Int32} {l0 l1 : Slot} : W (pj lw) 20 10 (l0 :: l1 :: .val (.int y) :: L) (.int x :: S) k n H Q ↔ W (pj lw) 20 11 (l0 :: l1 :: .val (.int x) :: L) S k n H Q := W_istn (rfl : (pj lw).1 20 10 = some (.istore_n 2, 1, 0)) rfl rfl
theorem w20_10 {x : Int32} {l0 l1 : Slot} : W (pj lw) 20 10 (l0 :: l1 :: .unset :: L) (.int x :: S) k n H Q ↔ W (pj lw) 20 11 (l0 :: l1 :: .val (.int x) :: L) S k n H Q := W_istn (rfl : (pj lw).1 20 10 = some (.istore_n 2, 1, 0)) rfl rfl
theorem w20_11 : W (pj lw) 20 11 L S k n H Q ↔ W (pj lw) 20 12 L (.int 1 :: S) k n H Q := W_s (rfl : (pj lw).1 20 11 = some (.iconst 1, 1, 0)) rfl rfl rfl
theorem w20_12i {y : Int32} {x : Int32} {l0 l1 l2 : Slot} : W (pj lw) 20 12 (l0 :: l1 :: l2 :: .val (.int y) :: L) (.int x :: S) k n H Q ↔ W (pj lw) 20 13 (l0 :: l1 :: l2 :: .val (.int x) :: L) S k n H Q := W_istn (rfl : (pj lw).1 20 12 = some (.istore_n 3, 1, 0)) rfl rfl
theorem w20_12 {x : Int32} {l0 l1 l2 : Slot} : W (pj lw) 20 12 (l0 :: l1 :: l2 :: .unset :: L) (.int x :: S) k n H Q ↔ W (pj lw) 20 13 (l0 :: l1 :: l2 :: .val (.int x) :: L) S k n H Q := W_istn (rfl : (pj lw).1 20 12 = some (.istore_n 3, 1, 0)) rfl rfl
theorem w20_13 {x : Int32} {l0 l1 l2 : Slot} : W (pj lw) 20 13 (l0 :: l1 :: l2 :: .val (.int x) :: L) S k n H Q ↔ W (pj lw) 20 14 (l0 :: l1 :: l2 :: .val (.int x) :: L) (.int x :: S) k n H Q := W_s (rfl : (pj lw).1 20 13 = some (.iload_n 3, 1, 0)) rfl rfl rfl
theorem w20_14 {x : Nat} : W (pj lw) 20 14 (.val (.ref x) :: L) S k n H Q ↔ W (pj lw) 20 15 (.val (.ref x) :: L) (.ref x :: S) k n H Q := W_s (rfl : (pj lw).1 20 14 = some (.aload_n 0, 1, 0)) rfl rfl rfl
theorem w20_15 {a : Nat} : W (pj lw) 20 15 L (.ref a :: S) k n H Q ↔ (isO H a = true ∧ W (pj lw) 20 18 L (fld H a 4 :: S) k n H Q) := W_getf (rfl : (pj lw).1 20 15 = some (.getfield 66, 3, 4))
theorem w20_18 {x y : Int32} : W (pj lw) 20 18 L (.int y :: .int x :: S) k n H Q ↔ (if y < x then W (pj lw) 20 43 L S k n H Q else W (pj lw) 20 21 L S k n H Q) := W_icmp_gt (rfl : (pj lw).1 20 18 = some (.if_icmp .gt 25, 3, 0)) rfl
theorem w20_21 {x : Nat} : W (pj lw) 20 21 (.val (.ref x) :: L) S k n H Q ↔ W (pj lw) 20 22 (.val (.ref x) :: L) (.ref x :: S) k n H Q := W_s (rfl : (pj lw).1 20 21 = some (.aload_n 0, 1, 0)) rfl rfl rfl
theorem w20_22 {x : Int32} {l0 l1 l2 : Slot} : W (pj lw) 20 22 (l0 :: l1 :: l2 :: .val (.int x) :: L) S k n H Q ↔ W (pj lw) 20 23 (l0 :: l1 :: l2 :: .val (.int x) :: L) (.int x :: S) k n H Q := W_s (rfl : (pj lw).1 20 22 = some (.iload_n 3, 1, 0)) rfl rfl rfl
theorem w20_23 {a : Nat} {x0 : Int32} : W (pj lw) 20 23 L (.int x0 :: .ref a :: S) k n H Q ↔ ((isO H a = true ∧ cs S + (5 + 11) + 13 ≤ 40) ∧ Cl (pj lw) 22 [.ref a, .int x0] H (fun v H => W (pj lw) 20 26 L (v.toList ++ S) k n H Q)) := W_inst (as := [.int x0]) (rfl : (pj lw).1 20 23 = some (.invokevirtual 117, 3, 22)) rfl rfl rfl (Nat.le_of_ble_eq_true rfl) (Nat.le_of_ble_eq_true rfl) ⟨rfl, rfl⟩
theorem w20_26 {x : Int32} : W (pj lw) 20 26 L (.int x :: S) k n H Q ↔ (if x = 0 then W (pj lw) 20 37 L S k n H Q else W (pj lw) 20 29 L S k n H Q) := W_if_eq (rfl : (pj lw).1 20 26 = some (.ifCond .eq 11, 3, 0)) rfl
theorem w20_29 {x : Int32} {l0 l1 : Slot} : W (pj lw) 20 29 (l0 :: l1 :: .val (.int x) :: L) S k n H Q ↔ W (pj lw) 20 30 (l0 :: l1 :: .val (.int x) :: L) (.int x :: S) k n H Q := W_s (rfl : (pj lw).1 20 29 = some (.iload_n 2, 1, 0)) rfl rfl rfl
theorem w20_30 {x : Nat} : W (pj lw) 20 30 (.val (.ref x) :: L) S k n H Q ↔ W (pj lw) 20 31 (.val (.ref x) :: L) (.ref x :: S) k n H Q := W_s (rfl : (pj lw).1 20 30 = some (.aload_n 0, 1, 0)) rfl rfl rfl
theorem w20_31 {x : Int32} {l0 l1 l2 : Slot} : W (pj lw) 20 31 (l0 :: l1 :: l2 :: .val (.int x) :: L) S k n H Q ↔ W (pj lw) 20 32 (l0 :: l1 :: l2 :: .val (.int x) :: L) (.int x :: S) k n H Q := W_s (rfl : (pj lw).1 20 31 = some (.iload_n 3, 1, 0)) rfl rfl rfl
theorem w20_32 {a : Nat} {x0 : Int32} : W (pj lw) 20 32 L (.int x0 :: .ref a :: S) k n H Q ↔ ((isO H a = true ∧ cs S + (9 + 11) + 19 ≤ 40) ∧ Cl (pj lw) 27 [.ref a, .int x0] H (fun v H => W (pj lw) 20 35 L (v.toList ++ S) k n H Q)) := W_inst (as := [.int x0]) (rfl : (pj lw).1 20 32 = some (.invokevirtual 130, 3, 27)) rfl rfl rfl (Nat.le_of_ble_eq_true rfl) (Nat.le_of_ble_eq_true rfl) ⟨rfl, rfl⟩
theorem w20_35 {x y : Int32} : W (pj lw) 20 35 L (.int y :: .int x :: S) k n H Q ↔ W (pj lw) 20 36 L (.int (x ||| y) :: S) k n H Q := W_s (rfl : (pj lw).1 20 35 = some (.ior, 1, 0)) rfl rfl rfl
theorem w20_36i {y : Int32} {x : Int32} {l0 l1 : Slot} : W (pj lw) 20 36 (l0 :: l1 :: .val (.int y) :: L) (.int x :: S) k n H Q ↔ W (pj lw) 20 37 (l0 :: l1 :: .val (.int x) :: L) S k n H Q := W_istn (rfl : (pj lw).1 20 36 = some (.istore_n 2, 1, 0)) rfl rfl
theorem w20_37 {x : Int32} {l0 l1 l2 : Slot} : W (pj lw) 20 37 (l0 :: l1 :: l2 :: .val (.int x) :: L) S k n H Q ↔ W (pj lw) 20 40 (l0 :: l1 :: l2 :: .val (.int (x + 1)) :: L) S k n H Q := W_s (rfl : (pj lw).1 20 37 = some (.iinc 3 1, 3, 0)) rfl rfl rfl
theorem w20_40 : W (pj lw) 20 40 L S k n H Q ↔ W (pj lw) 20 13 L S k n H Q := W_goto (rfl : (pj lw).1 20 40 = some (.goto (-27), 3, 0)) rfl
theorem w20_43 {x : Int32} {l0 l1 : Slot} : W (pj lw) 20 43 (l0 :: l1 :: .val (.int x) :: L) S k n H Q ↔ W (pj lw) 20 44 (l0 :: l1 :: .val (.int x) :: L) (.int x :: S) k n H Q := W_s (rfl : (pj lw).1 20 43 = some (.iload_n 2, 1, 0)) rfl rfl rfl
theorem w20_44 {x : Int32} : W (pj lw) 20 44 L (.int x :: S) k n H Q ↔ (if x = 0 then W (pj lw) 20 47 L S k n H Q else W (pj lw) 20 48 L S k n H Q) := W_if_ne (rfl : (pj lw).1 20 44 = some (.ifCond .ne 4, 3, 0)) rfl
theorem w20_47 : W (pj lw) 20 47 L [] k n H Q ↔ Q none H := W_r (rfl : (pj lw).1 20 47 = some (.return_, 1, 0)) rfl
theorem w20_48 {x : Int32} {l0 : Slot} : W (pj lw) 20 48 (l0 :: .val (.int x) :: L) S k n H Q ↔ W (pj lw) 20 51 (l0 :: .val (.int (x + 1)) :: L) S k n H Q := W_s (rfl : (pj lw).1 20 48 = some (.iinc 1 1, 3, 0)) rfl rfl rfl
theorem w20_51 : W (pj lw) 20 51 L S k n H Q ↔ W (pj lw) 20 2 L S k n H Q := W_goto (rfl : (pj lw).1 20 51 = some (.goto (-49), 3, 0)) rfl
theorem w20_54 : W (pj lw) 20 54 L [] k n H Q ↔ Q none H := W_r (rfl : (pj lw).1 20 54 = some (.return_, 1, 0)) rfl
theorem c21 {x0 : Nat} : Cl (pj lw) 21 [.ref x0] H Q ↔ W (pj lw) 21 0 [.val (.ref x0), .unset] [] 0 0 H Q := cl_unf rfl
theorem w21_0 : W (pj lw) 21 0 L S k n H Q ↔ W (pj lw) 21 1 L (.int 1 :: S) k n H Q := W_s (rfl : (pj lw).1 21 0 = some (.iconst 1, 1, 0)) rfl rfl rfl
theorem w21_1 {x : Int32} {l0 : Slot} : W (pj lw) 21 1 (l0 :: .unset :: L) (.int x :: S) k n H Q ↔ W (pj lw) 21 2 (l0 :: .val (.int x) :: L) S k n H Q := W_istn (rfl : (pj lw).1 21 1 = some (.istore_n 1, 1, 0)) rfl rfl
theorem w21_2 {x : Int32} {l0 : Slot} : W (pj lw) 21 2 (l0 :: .val (.int x) :: L) S k n H Q ↔ W (pj lw) 21 3 (l0 :: .val (.int x) :: L) (.int x :: S) k n H Q := W_s (rfl : (pj lw).1 21 2 = some (.iload_n 1, 1, 0)) rfl rfl rfl
theorem w21_3 {x : Nat} : W (pj lw) 21 3 (.val (.ref x) :: L) S k n H Q ↔ W (pj lw) 21 4 (.val (.ref x) :: L) (.ref x :: S) k n H Q := W_s (rfl : (pj lw).1 21 3 = some (.aload_n 0, 1, 0)) rfl rfl rfl
theorem w21_4 {a : Nat} : W (pj lw) 21 4 L (.ref a :: S) k n H Q ↔ (isO H a = true ∧ W (pj lw) 21 7 L (fld H a 4 :: S) k n H Q) := W_getf (rfl : (pj lw).1 21 4 = some (.getfield 66, 3, 4))
theorem w21_7 {x y : Int32} : W (pj lw) 21 7 L (.int y :: .int x :: S) k n H Q ↔ (if y < x then W (pj lw) 21 27 L S k n H Q else W (pj lw) 21 10 L S k n H Q) := W_icmp_gt (rfl : (pj lw).1 21 7 = some (.if_icmp .gt 20, 3, 0)) rfl
theorem w21_10 {x : Nat} : W (pj lw) 21 10 (.val (.ref x) :: L) S k n H Q ↔ W (pj lw) 21 11 (.val (.ref x) :: L) (.ref x :: S) k n H Q := W_s (rfl : (pj lw).1 21 10 = some (.aload_n 0, 1, 0)) rfl rfl rfl
theorem w21_11 {a : Nat} : W (pj lw) 21 11 L (.ref a :: S) k n H Q ↔ (isO H a = true ∧ W (pj lw) 21 14 L (fld H a 11 :: S) k n H Q) := W_getf (rfl : (pj lw).1 21 11 = some (.getfield 28, 3, 11))
theorem w21_14 {x : Int32} {l0 : Slot} : W (pj lw) 21 14 (l0 :: .val (.int x) :: L) S k n H Q ↔ W (pj lw) 21 15 (l0 :: .val (.int x) :: L) (.int x :: S) k n H Q := W_s (rfl : (pj lw).1 21 14 = some (.iload_n 1, 1, 0)) rfl rfl rfl
theorem w21_15 {i : Int32} {a : Nat} : W (pj lw) 21 15 L (.int i :: .ref a :: S) k n H Q ↔ (inA H a .int i = true ∧ W (pj lw) 21 16 L (elt H a i :: S) k n H Q) := W_iaload (rfl : (pj lw).1 21 15 = some (.iaload, 1, 0))
theorem w21_16 {x : Int32} : W (pj lw) 21 16 L (.int x :: S) k n H Q ↔ (if x = 0 then W (pj lw) 21 19 L S k n H Q else W (pj lw) 21 21 L S k n H Q) := W_if_ne (rfl : (pj lw).1 21 16 = some (.ifCond .ne 5, 3, 0)) rfl
theorem w21_19 : W (pj lw) 21 19 L S k n H Q ↔ W (pj lw) 21 20 L (.int 1 :: S) k n H Q := W_s (rfl : (pj lw).1 21 19 = some (.iconst 1, 1, 0)) rfl rfl rfl
theorem w21_20 {x : Int32} : W (pj lw) 21 20 L (.int x :: S) k n H Q ↔ ((x = 0 ∨ x = 1) ∧ Q (some (.int x)) H) := W_rz (rfl : (pj lw).1 21 20 = some (.ireturn, 1, 0)) rfl
theorem w21_21 {x : Int32} {l0 : Slot} : W (pj lw) 21 21 (l0 :: .val (.int x) :: L) S k n H Q ↔ W (pj lw) 21 24 (l0 :: .val (.int (x + 1)) :: L) S k n H Q := W_s (rfl : (pj lw).1 21 21 = some (.iinc 1 1, 3, 0)) rfl rfl rfl
theorem w21_24 : W (pj lw) 21 24 L S k n H Q ↔ W (pj lw) 21 2 L S k n H Q := W_goto (rfl : (pj lw).1 21 24 = some (.goto (-22), 3, 0)) rfl
theorem w21_27 : W (pj lw) 21 27 L S k n H Q ↔ W (pj lw) 21 28 L (.int 0 :: S) k n H Q := W_s (rfl : (pj lw).1 21 27 = some (.iconst 0, 1, 0)) rfl rfl rfl
theorem w21_28 {x : Int32} : W (pj lw) 21 28 L (.int x :: S) k n H Q ↔ ((x = 0 ∨ x = 1) ∧ Q (some (.int x)) H) := W_rz (rfl : (pj lw).1 21 28 = some (.ireturn, 1, 0)) rfl
theorem c22 {x0 : Nat} {x1 : Int32} : Cl (pj lw) 22 [.ref x0, .int x1] H Q ↔ W (pj lw) 22 0 [.val (.ref x0), .val (.int x1), .unset, .unset, .unset] [] 0 0 H Q := cl_unf rfl
theorem w22_0 {x : Nat} : W (pj lw) 22 0 (.val (.ref x) :: L) S k n H Q ↔ W (pj lw) 22 1 (.val (.ref x) :: L) (.ref x :: S) k n H Q := W_s (rfl : (pj lw).1 22 0 = some (.aload_n 0, 1, 0)) rfl rfl rfl
theorem w22_1 {x : Int32} {l0 : Slot} : W (pj lw) 22 1 (l0 :: .val (.int x) :: L) S k n H Q ↔ W (pj lw) 22 2 (l0 :: .val (.int x) :: L) (.int x :: S) k n H Q := W_s (rfl : (pj lw).1 22 1 = some (.iload_n 1, 1, 0)) rfl rfl rfl
theorem w22_2 {a : Nat} {x0 : Int32} : W (pj lw) 22 2 L (.int x0 :: .ref a :: S) k n H Q ↔ ((isO H a = true ∧ cs S + (2 + 11) + 0 ≤ 13) ∧ Cl (pj lw) 7 [.ref a, .int x0] H (fun v H => W (pj lw) 22 5 L (v.toList ++ S) k n H Q)) := W_inst (as := [.int x0]) (rfl : (pj lw).1 22 2 = some (.invokevirtual 99, 3, 7)) rfl rfl rfl (Nat.le_of_ble_eq_true rfl) (Nat.le_of_ble_eq_true rfl) ⟨rfl, rfl⟩
theorem w22_5 {x : Int32} : W (pj lw) 22 5 L (.int x :: S) k n H Q ↔ (if x = 0 then W (pj lw) 22 17 L S k n H Q else W (pj lw) 22 8 L S k n H Q) := W_if_eq (rfl : (pj lw).1 22 5 = some (.ifCond .eq 12, 3, 0)) rfl
theorem w22_8 {x : Nat} : W (pj lw) 22 8 (.val (.ref x) :: L) S k n H Q ↔ W (pj lw) 22 9 (.val (.ref x) :: L) (.ref x :: S) k n H Q := W_s (rfl : (pj lw).1 22 8 = some (.aload_n 0, 1, 0)) rfl rfl rfl
theorem w22_9 {a : Nat} : W (pj lw) 22 9 L (.ref a :: S) k n H Q ↔ (isO H a = true ∧ W (pj lw) 22 12 L (fld H a 6 :: S) k n H Q) := W_getf (rfl : (pj lw).1 22 9 = some (.getfield 13, 3, 6))
theorem w22_12 {x : Int32} {l0 : Slot} : W (pj lw) 22 12 (l0 :: .val (.int x) :: L) S k n H Q ↔ W (pj lw) 22 13 (l0 :: .val (.int x) :: L) (.int x :: S) k n H Q := W_s (rfl : (pj lw).1 22 12 = some (.iload_n 1, 1, 0)) rfl rfl rfl
theorem w22_13 {i : Int32} {a : Nat} : W (pj lw) 22 13 L (.int i :: .ref a :: S) k n H Q ↔ (inA H a .int i = true ∧ W (pj lw) 22 14 L (elt H a i :: S) k n H Q) := W_iaload (rfl : (pj lw).1 22 13 = some (.iaload, 1, 0))
theorem w22_14 {x : Int32} : W (pj lw) 22 14 L (.int x :: S) k n H Q ↔ (if x = 0 then W (pj lw) 22 17 L S k n H Q else W (pj lw) 22 19 L S k n H Q) := W_if_ne (rfl : (pj lw).1 22 14 = some (.ifCond .ne 5, 3, 0)) rfl
theorem w22_17 : W (pj lw) 22 17 L S k n H Q ↔ W (pj lw) 22 18 L (.int 0 :: S) k n H Q := W_s (rfl : (pj lw).1 22 17 = some (.iconst 0, 1, 0)) rfl rfl rfl
theorem w22_18 {x : Int32} : W (pj lw) 22 18 L (.int x :: S) k n H Q ↔ ((x = 0 ∨ x = 1) ∧ Q (some (.int x)) H) := W_rz (rfl : (pj lw).1 22 18 = some (.ireturn, 1, 0)) rfl
theorem w22_19 {x : Nat} : W (pj lw) 22 19 (.val (.ref x) :: L) S k n H Q ↔ W (pj lw) 22 20 (.val (.ref x) :: L) (.ref x :: S) k n H Q := W_s (rfl : (pj lw).1 22 19 = some (.aload_n 0, 1, 0)) rfl rfl rfl
theorem w22_20 {a : Nat} : W (pj lw) 22 20 L (.ref a :: S) k n H Q ↔ (isO H a = true ∧ W (pj lw) 22 23 L (fld H a 6 :: S) k n H Q) := W_getf (rfl : (pj lw).1 22 20 = some (.getfield 13, 3, 6))
theorem w22_23 {x : Int32} {l0 : Slot} : W (pj lw) 22 23 (l0 :: .val (.int x) :: L) S k n H Q ↔ W (pj lw) 22 24 (l0 :: .val (.int x) :: L) (.int x :: S) k n H Q := W_s (rfl : (pj lw).1 22 23 = some (.iload_n 1, 1, 0)) rfl rfl rfl
theorem w22_24 {i : Int32} {a : Nat} : W (pj lw) 22 24 L (.int i :: .ref a :: S) k n H Q ↔ (inA H a .int i = true ∧ W (pj lw) 22 25 L (elt H a i :: S) k n H Q) := W_iaload (rfl : (pj lw).1 22 24 = some (.iaload, 1, 0))
theorem w22_25 {x : Int32} {l0 l1 : Slot} : W (pj lw) 22 25 (l0 :: l1 :: .unset :: L) (.int x :: S) k n H Q ↔ W (pj lw) 22 26 (l0 :: l1 :: .val (.int x) :: L) S k n H Q := W_istn (rfl : (pj lw).1 22 25 = some (.istore_n 2, 1, 0)) rfl rfl
theorem w22_26 {x : Nat} : W (pj lw) 22 26 (.val (.ref x) :: L) S k n H Q ↔ W (pj lw) 22 27 (.val (.ref x) :: L) (.ref x :: S) k n H Q := W_s (rfl : (pj lw).1 22 26 = some (.aload_n 0, 1, 0)) rfl rfl rfl
theorem w22_27 {a : Nat} : W (pj lw) 22 27 L (.ref a :: S) k n H Q ↔ (isO H a = true ∧ W (pj lw) 22 30 L (fld H a 7 :: S) k n H Q) := W_getf (rfl : (pj lw).1 22 27 = some (.getfield 16, 3, 7))
theorem w22_30 {x : Int32} {l0 : Slot} : W (pj lw) 22 30 (l0 :: .val (.int x) :: L) S k n H Q ↔ W (pj lw) 22 31 (l0 :: .val (.int x) :: L) (.int x :: S) k n H Q := W_s (rfl : (pj lw).1 22 30 = some (.iload_n 1, 1, 0)) rfl rfl rfl
theorem w22_31 {i : Int32} {a : Nat} : W (pj lw) 22 31 L (.int i :: .ref a :: S) k n H Q ↔ (inA H a .int i = true ∧ W (pj lw) 22 32 L (elt H a i :: S) k n H Q) := W_iaload (rfl : (pj lw).1 22 31 = some (.iaload, 1, 0))
theorem w22_32 {x : Int32} {l0 l1 l2 : Slot} : W (pj lw) 22 32 (l0 :: l1 :: l2 :: .unset :: L) (.int x :: S) k n H Q ↔ W (pj lw) 22 33 (l0 :: l1 :: l2 :: .val (.int x) :: L) S k n H Q := W_istn (rfl : (pj lw).1 22 32 = some (.istore_n 3, 1, 0)) rfl rfl
theorem w22_33 : W (pj lw) 22 33 L S k n H Q ↔ W (pj lw) 22 34 L (.int 1 :: S) k n H Q := W_s (rfl : (pj lw).1 22 33 = some (.iconst 1, 1, 0)) rfl rfl rfl
theorem w22_34 {x : Int32} {l0 l1 l2 l3 : Slot} : W (pj lw) 22 34 (l0 :: l1 :: l2 :: l3 :: .unset :: L) (.int x :: S) k n H Q ↔ W (pj lw) 22 36 (l0 :: l1 :: l2 :: l3 :: .val (.int x) :: L) S k n H Q := W_ist (rfl : (pj lw).1 22 34 = some (.istore 4, 2, 0)) rfl rfl
theorem w22_36 {x : Int32} {l0 l1 l2 l3 : Slot} : W (pj lw) 22 36 (l0 :: l1 :: l2 :: l3 :: .val (.int x) :: L) S k n H Q ↔ W (pj lw) 22 38 (l0 :: l1 :: l2 :: l3 :: .val (.int x) :: L) (.int x :: S) k n H Q := W_s (rfl : (pj lw).1 22 36 = some (.iload 4, 2, 0)) rfl rfl rfl
theorem w22_38 {x : Int32} {l0 : Slot} : W (pj lw) 22 38 (l0 :: .val (.int x) :: L) S k n H Q ↔ W (pj lw) 22 39 (l0 :: .val (.int x) :: L) (.int x :: S) k n H Q := W_s (rfl : (pj lw).1 22 38 = some (.iload_n 1, 1, 0)) rfl rfl rfl
theorem w22_39 {x y : Int32} : W (pj lw) 22 39 L (.int y :: .int x :: S) k n H Q ↔ (if x < y then W (pj lw) 22 42 L S k n H Q else W (pj lw) 22 72 L S k n H Q) := W_icmp_ge (rfl : (pj lw).1 22 39 = some (.if_icmp .ge 33, 3, 0)) rfl
theorem w22_42 {x : Nat} : W (pj lw) 22 42 (.val (.ref x) :: L) S k n H Q ↔ W (pj lw) 22 43 (.val (.ref x) :: L) (.ref x :: S) k n H Q := W_s (rfl : (pj lw).1 22 42 = some (.aload_n 0, 1, 0)) rfl rfl rfl
theorem w22_43 {a : Nat} : W (pj lw) 22 43 L (.ref a :: S) k n H Q ↔ (isO H a = true ∧ W (pj lw) 22 46 L (fld H a 6 :: S) k n H Q) := W_getf (rfl : (pj lw).1 22 43 = some (.getfield 13, 3, 6))
theorem w22_46 {x : Int32} {l0 l1 l2 l3 : Slot} : W (pj lw) 22 46 (l0 :: l1 :: l2 :: l3 :: .val (.int x) :: L) S k n H Q ↔ W (pj lw) 22 48 (l0 :: l1 :: l2 :: l3 :: .val (.int x) :: L) (.int x :: S) k n H Q := W_s (rfl : (pj lw).1 22 46 = some (.iload 4, 2, 0)) rfl rfl rfl
theorem w22_48 {i : Int32} {a : Nat} : W (pj lw) 22 48 L (.int i :: .ref a :: S) k n H Q ↔ (inA H a .int i = true ∧ W (pj lw) 22 49 L (elt H a i :: S) k n H Q) := W_iaload (rfl : (pj lw).1 22 48 = some (.iaload, 1, 0))
theorem w22_49 {x : Int32} {l0 l1 : Slot} : W (pj lw) 22 49 (l0 :: l1 :: .val (.int x) :: L) S k n H Q ↔ W (pj lw) 22 50 (l0 :: l1 :: .val (.int x) :: L) (.int x :: S) k n H Q := W_s (rfl : (pj lw).1 22 49 = some (.iload_n 2, 1, 0)) rfl rfl rfl
theorem w22_50 {x y : Int32} : W (pj lw) 22 50 L (.int y :: .int x :: S) k n H Q ↔ (if x = y then W (pj lw) 22 53 L S k n H Q else W (pj lw) 22 66 L S k n H Q) := W_icmp_ne (rfl : (pj lw).1 22 50 = some (.if_icmp .ne 16, 3, 0)) rfl
theorem w22_53 {x : Nat} : W (pj lw) 22 53 (.val (.ref x) :: L) S k n H Q ↔ W (pj lw) 22 54 (.val (.ref x) :: L) (.ref x :: S) k n H Q := W_s (rfl : (pj lw).1 22 53 = some (.aload_n 0, 1, 0)) rfl rfl rfl
theorem w22_54 {a : Nat} : W (pj lw) 22 54 L (.ref a :: S) k n H Q ↔ (isO H a = true ∧ W (pj lw) 22 57 L (fld H a 7 :: S) k n H Q) := W_getf (rfl : (pj lw).1 22 54 = some (.getfield 16, 3, 7))
theorem w22_57 {x : Int32} {l0 l1 l2 l3 : Slot} : W (pj lw) 22 57 (l0 :: l1 :: l2 :: l3 :: .val (.int x) :: L) S k n H Q ↔ W (pj lw) 22 59 (l0 :: l1 :: l2 :: l3 :: .val (.int x) :: L) (.int x :: S) k n H Q := W_s (rfl : (pj lw).1 22 57 = some (.iload 4, 2, 0)) rfl rfl rfl
theorem w22_59 {i : Int32} {a : Nat} : W (pj lw) 22 59 L (.int i :: .ref a :: S) k n H Q ↔ (inA H a .int i = true ∧ W (pj lw) 22 60 L (elt H a i :: S) k n H Q) := W_iaload (rfl : (pj lw).1 22 59 = some (.iaload, 1, 0))
theorem w22_60 {x : Int32} {l0 l1 l2 : Slot} : W (pj lw) 22 60 (l0 :: l1 :: l2 :: .val (.int x) :: L) S k n H Q ↔ W (pj lw) 22 61 (l0 :: l1 :: l2 :: .val (.int x) :: L) (.int x :: S) k n H Q := W_s (rfl : (pj lw).1 22 60 = some (.iload_n 3, 1, 0)) rfl rfl rfl
theorem w22_61 {x y : Int32} : W (pj lw) 22 61 L (.int y :: .int x :: S) k n H Q ↔ (if x = y then W (pj lw) 22 64 L S k n H Q else W (pj lw) 22 66 L S k n H Q) := W_icmp_ne (rfl : (pj lw).1 22 61 = some (.if_icmp .ne 5, 3, 0)) rfl
theorem w22_64 : W (pj lw) 22 64 L S k n H Q ↔ W (pj lw) 22 65 L (.int 0 :: S) k n H Q := W_s (rfl : (pj lw).1 22 64 = some (.iconst 0, 1, 0)) rfl rfl rfl
theorem w22_65 {x : Int32} : W (pj lw) 22 65 L (.int x :: S) k n H Q ↔ ((x = 0 ∨ x = 1) ∧ Q (some (.int x)) H) := W_rz (rfl : (pj lw).1 22 65 = some (.ireturn, 1, 0)) rfl
theorem w22_66 {x : Int32} {l0 l1 l2 l3 : Slot} : W (pj lw) 22 66 (l0 :: l1 :: l2 :: l3 :: .val (.int x) :: L) S k n H Q ↔ W (pj lw) 22 69 (l0 :: l1 :: l2 :: l3 :: .val (.int (x + 1)) :: L) S k n H Q := W_s (rfl : (pj lw).1 22 66 = some (.iinc 4 1, 3, 0)) rfl rfl rfl
theorem w22_69 : W (pj lw) 22 69 L S k n H Q ↔ W (pj lw) 22 36 L S k n H Q := W_goto (rfl : (pj lw).1 22 69 = some (.goto (-33), 3, 0)) rfl
theorem w22_72 : W (pj lw) 22 72 L S k n H Q ↔ W (pj lw) 22 73 L (.int 1 :: S) k n H Q := W_s (rfl : (pj lw).1 22 72 = some (.iconst 1, 1, 0)) rfl rfl rfl
theorem w22_73 {x : Int32} : W (pj lw) 22 73 L (.int x :: S) k n H Q ↔ ((x = 0 ∨ x = 1) ∧ Q (some (.int x)) H) := W_rz (rfl : (pj lw).1 22 73 = some (.ireturn, 1, 0)) rfl
theorem c23 {x0 : Nat} {x1 : Int32} : Cl (pj lw) 23 [.ref x0, .int x1] H Q ↔ W (pj lw) 23 0 [.val (.ref x0), .val (.int x1), .unset, .unset, .unset] [] 0 0 H Q := cl_unf rfl
theorem w23_0 {x : Nat} : W (pj lw) 23 0 (.val (.ref x) :: L) S k n H Q ↔ W (pj lw) 23 1 (.val (.ref x) :: L) (.ref x :: S) k n H Q := W_s (rfl : (pj lw).1 23 0 = some (.aload_n 0, 1, 0)) rfl rfl rfl
theorem w23_1 : W (pj lw) 23 1 L S k n H Q ↔ W (pj lw) 23 2 L (.int 0 :: S) k n H Q := W_s (rfl : (pj lw).1 23 1 = some (.iconst 0, 1, 0)) rfl rfl rfl
theorem w23_2 {a : Nat} {v : Value} : W (pj lw) 23 2 L (v :: .ref a :: S) k n H Q ↔ ((isOw H a = true ∧ okv (.int) v = true) ∧ W (pj lw) 23 5 L S k n (wr H a 22 v) Q) := W_putf (rfl : (pj lw).1 23 2 = some (.putfield 82, 3, 22))
theorem w23_5 {x : Nat} : W (pj lw) 23 5 (.val (.ref x) :: L) S k n H Q ↔ W (pj lw) 23 6 (.val (.ref x) :: L) (.ref x :: S) k n H Q := W_s (rfl : (pj lw).1 23 5 = some (.aload_n 0, 1, 0)) rfl rfl rfl
theorem w23_6 {a : Nat} : W (pj lw) 23 6 L (.ref a :: S) k n H Q ↔ (isO H a = true ∧ W (pj lw) 23 9 L (fld H a 6 :: S) k n H Q) := W_getf (rfl : (pj lw).1 23 6 = some (.getfield 13, 3, 6))
theorem w23_9 {x : Int32} {l0 : Slot} : W (pj lw) 23 9 (l0 :: .val (.int x) :: L) S k n H Q ↔ W (pj lw) 23 10 (l0 :: .val (.int x) :: L) (.int x :: S) k n H Q := W_s (rfl : (pj lw).1 23 9 = some (.iload_n 1, 1, 0)) rfl rfl rfl
theorem w23_10 {i : Int32} {a : Nat} : W (pj lw) 23 10 L (.int i :: .ref a :: S) k n H Q ↔ (inA H a .int i = true ∧ W (pj lw) 23 11 L (elt H a i :: S) k n H Q) := W_iaload (rfl : (pj lw).1 23 10 = some (.iaload, 1, 0))
theorem w23_11 {x : Int32} {l0 l1 : Slot} : W (pj lw) 23 11 (l0 :: l1 :: .unset :: L) (.int x :: S) k n H Q ↔ W (pj lw) 23 12 (l0 :: l1 :: .val (.int x) :: L) S k n H Q := W_istn (rfl : (pj lw).1 23 11 = some (.istore_n 2, 1, 0)) rfl rfl
theorem w23_12 {x : Nat} : W (pj lw) 23 12 (.val (.ref x) :: L) S k n H Q ↔ W (pj lw) 23 13 (.val (.ref x) :: L) (.ref x :: S) k n H Q := W_s (rfl : (pj lw).1 23 12 = some (.aload_n 0, 1, 0)) rfl rfl rfl
theorem w23_13 {a : Nat} : W (pj lw) 23 13 L (.ref a :: S) k n H Q ↔ (isO H a = true ∧ W (pj lw) 23 16 L (fld H a 7 :: S) k n H Q) := W_getf (rfl : (pj lw).1 23 13 = some (.getfield 16, 3, 7))
theorem w23_16 {x : Int32} {l0 : Slot} : W (pj lw) 23 16 (l0 :: .val (.int x) :: L) S k n H Q ↔ W (pj lw) 23 17 (l0 :: .val (.int x) :: L) (.int x :: S) k n H Q := W_s (rfl : (pj lw).1 23 16 = some (.iload_n 1, 1, 0)) rfl rfl rfl
theorem w23_17 {i : Int32} {a : Nat} : W (pj lw) 23 17 L (.int i :: .ref a :: S) k n H Q ↔ (inA H a .int i = true ∧ W (pj lw) 23 18 L (elt H a i :: S) k n H Q) := W_iaload (rfl : (pj lw).1 23 17 = some (.iaload, 1, 0))
theorem w23_18 {x : Int32} {l0 l1 l2 : Slot} : W (pj lw) 23 18 (l0 :: l1 :: l2 :: .unset :: L) (.int x :: S) k n H Q ↔ W (pj lw) 23 19 (l0 :: l1 :: l2 :: .val (.int x) :: L) S k n H Q := W_istn (rfl : (pj lw).1 23 18 = some (.istore_n 3, 1, 0)) rfl rfl
theorem w23_19 {x : Int32} {l0 : Slot} : W (pj lw) 23 19 (l0 :: .val (.int x) :: L) S k n H Q ↔ W (pj lw) 23 20 (l0 :: .val (.int x) :: L) (.int x :: S) k n H Q := W_s (rfl : (pj lw).1 23 19 = some (.iload_n 1, 1, 0)) rfl rfl rfl
theorem w23_20 {x : Int32} {l0 l1 l2 l3 : Slot} : W (pj lw) 23 20 (l0 :: l1 :: l2 :: l3 :: .unset :: L) (.int x :: S) k n H Q ↔ W (pj lw) 23 22 (l0 :: l1 :: l2 :: l3 :: .val (.int x) :: L) S k n H Q := W_ist (rfl : (pj lw).1 23 20 = some (.istore 4, 2, 0)) rfl rfl
theorem w23_22 {x : Int32} {l0 l1 l2 l3 : Slot} : W (pj lw) 23 22 (l0 :: l1 :: l2 :: l3 :: .val (.int x) :: L) S k n H Q ↔ W (pj lw) 23 24 (l0 :: l1 :: l2 :: l3 :: .val (.int x) :: L) (.int x :: S) k n H Q := W_s (rfl : (pj lw).1 23 22 = some (.iload 4, 2, 0)) rfl rfl rfl
theorem w23_24 {x : Nat} : W (pj lw) 23 24 (.val (.ref x) :: L) S k n H Q ↔ W (pj lw) 23 25 (.val (.ref x) :: L) (.ref x :: S) k n H Q := W_s (rfl : (pj lw).1 23 24 = some (.aload_n 0, 1, 0)) rfl rfl rfl
theorem w23_25 {a : Nat} : W (pj lw) 23 25 L (.ref a :: S) k n H Q ↔ (isO H a = true ∧ W (pj lw) 23 28 L (fld H a 4 :: S) k n H Q) := W_getf (rfl : (pj lw).1 23 25 = some (.getfield 66, 3, 4))
theorem w23_28 {x y : Int32} : W (pj lw) 23 28 L (.int y :: .int x :: S) k n H Q ↔ (if y < x then W (pj lw) 23 89 L S k n H Q else W (pj lw) 23 31 L S k n H Q) := W_icmp_gt (rfl : (pj lw).1 23 28 = some (.if_icmp .gt 61, 3, 0)) rfl
theorem w23_31 {x : Nat} : W (pj lw) 23 31 (.val (.ref x) :: L) S k n H Q ↔ W (pj lw) 23 32 (.val (.ref x) :: L) (.ref x :: S) k n H Q := W_s (rfl : (pj lw).1 23 31 = some (.aload_n 0, 1, 0)) rfl rfl rfl
theorem w23_32 {a : Nat} : W (pj lw) 23 32 L (.ref a :: S) k n H Q ↔ (isO H a = true ∧ W (pj lw) 23 35 L (fld H a 6 :: S) k n H Q) := W_getf (rfl : (pj lw).1 23 32 = some (.getfield 13, 3, 6))
theorem w23_35 {x : Int32} {l0 l1 l2 l3 : Slot} : W (pj lw) 23 35 (l0 :: l1 :: l2 :: l3 :: .val (.int x) :: L) S k n H Q ↔ W (pj lw) 23 37 (l0 :: l1 :: l2 :: l3 :: .val (.int x) :: L) (.int x :: S) k n H Q := W_s (rfl : (pj lw).1 23 35 = some (.iload 4, 2, 0)) rfl rfl rfl
theorem w23_37 {i : Int32} {a : Nat} : W (pj lw) 23 37 L (.int i :: .ref a :: S) k n H Q ↔ (inA H a .int i = true ∧ W (pj lw) 23 38 L (elt H a i :: S) k n H Q) := W_iaload (rfl : (pj lw).1 23 37 = some (.iaload, 1, 0))
theorem w23_38 {x : Int32} {l0 l1 : Slot} : W (pj lw) 23 38 (l0 :: l1 :: .val (.int x) :: L) S k n H Q ↔ W (pj lw) 23 39 (l0 :: l1 :: .val (.int x) :: L) (.int x :: S) k n H Q := W_s (rfl : (pj lw).1 23 38 = some (.iload_n 2, 1, 0)) rfl rfl rfl
theorem w23_39 {x y : Int32} : W (pj lw) 23 39 L (.int y :: .int x :: S) k n H Q ↔ (if x = y then W (pj lw) 23 42 L S k n H Q else W (pj lw) 23 83 L S k n H Q) := W_icmp_ne (rfl : (pj lw).1 23 39 = some (.if_icmp .ne 44, 3, 0)) rfl
theorem w23_42 {x : Nat} : W (pj lw) 23 42 (.val (.ref x) :: L) S k n H Q ↔ W (pj lw) 23 43 (.val (.ref x) :: L) (.ref x :: S) k n H Q := W_s (rfl : (pj lw).1 23 42 = some (.aload_n 0, 1, 0)) rfl rfl rfl
theorem w23_43 {a : Nat} : W (pj lw) 23 43 L (.ref a :: S) k n H Q ↔ (isO H a = true ∧ W (pj lw) 23 46 L (fld H a 7 :: S) k n H Q) := W_getf (rfl : (pj lw).1 23 43 = some (.getfield 16, 3, 7))
theorem w23_46 {x : Int32} {l0 l1 l2 l3 : Slot} : W (pj lw) 23 46 (l0 :: l1 :: l2 :: l3 :: .val (.int x) :: L) S k n H Q ↔ W (pj lw) 23 48 (l0 :: l1 :: l2 :: l3 :: .val (.int x) :: L) (.int x :: S) k n H Q := W_s (rfl : (pj lw).1 23 46 = some (.iload 4, 2, 0)) rfl rfl rfl
theorem w23_48 {i : Int32} {a : Nat} : W (pj lw) 23 48 L (.int i :: .ref a :: S) k n H Q ↔ (inA H a .int i = true ∧ W (pj lw) 23 49 L (elt H a i :: S) k n H Q) := W_iaload (rfl : (pj lw).1 23 48 = some (.iaload, 1, 0))
theorem w23_49 {x : Int32} {l0 l1 l2 : Slot} : W (pj lw) 23 49 (l0 :: l1 :: l2 :: .val (.int x) :: L) S k n H Q ↔ W (pj lw) 23 50 (l0 :: l1 :: l2 :: .val (.int x) :: L) (.int x :: S) k n H Q := W_s (rfl : (pj lw).1 23 49 = some (.iload_n 3, 1, 0)) rfl rfl rfl
theorem w23_50 {x y : Int32} : W (pj lw) 23 50 L (.int y :: .int x :: S) k n H Q ↔ (if x = y then W (pj lw) 23 53 L S k n H Q else W (pj lw) 23 83 L S k n H Q) := W_icmp_ne (rfl : (pj lw).1 23 50 = some (.if_icmp .ne 33, 3, 0)) rfl
theorem w23_53 {x : Nat} : W (pj lw) 23 53 (.val (.ref x) :: L) S k n H Q ↔ W (pj lw) 23 54 (.val (.ref x) :: L) (.ref x :: S) k n H Q := W_s (rfl : (pj lw).1 23 53 = some (.aload_n 0, 1, 0)) rfl rfl rfl
theorem w23_54 {a : Nat} : W (pj lw) 23 54 L (.ref a :: S) k n H Q ↔ (isO H a = true ∧ W (pj lw) 23 57 L (fld H a 22 :: S) k n H Q) := W_getf (rfl : (pj lw).1 23 54 = some (.getfield 82, 3, 22))
theorem w23_57 : W (pj lw) 23 57 L S k n H Q ↔ W (pj lw) 23 59 L (.int 32 :: S) k n H Q := W_s (rfl : (pj lw).1 23 57 = some (.bipush 32, 2, 0)) rfl rfl rfl
theorem w23_59 {x y : Int32} : W (pj lw) 23 59 L (.int y :: .int x :: S) k n H Q ↔ (if x < y then W (pj lw) 23 62 L S k n H Q else W (pj lw) 23 83 L S k n H Q) := W_icmp_ge (rfl : (pj lw).1 23 59 = some (.if_icmp .ge 24, 3, 0)) rfl
theorem w23_62 {x : Nat} : W (pj lw) 23 62 (.val (.ref x) :: L) S k n H Q ↔ W (pj lw) 23 63 (.val (.ref x) :: L) (.ref x :: S) k n H Q := W_s (rfl : (pj lw).1 23 62 = some (.aload_n 0, 1, 0)) rfl rfl rfl
theorem w23_63 {a : Nat} : W (pj lw) 23 63 L (.ref a :: S) k n H Q ↔ (isO H a = true ∧ W (pj lw) 23 66 L (fld H a 20 :: S) k n H Q) := W_getf (rfl : (pj lw).1 23 63 = some (.getfield 43, 3, 20))
theorem w23_66 {x : Nat} : W (pj lw) 23 66 (.val (.ref x) :: L) S k n H Q ↔ W (pj lw) 23 67 (.val (.ref x) :: L) (.ref x :: S) k n H Q := W_s (rfl : (pj lw).1 23 66 = some (.aload_n 0, 1, 0)) rfl rfl rfl
theorem w23_67 {a : Nat} : W (pj lw) 23 67 L (.ref a :: S) k n H Q ↔ (isO H a = true ∧ W (pj lw) 23 70 L (fld H a 22 :: S) k n H Q) := W_getf (rfl : (pj lw).1 23 67 = some (.getfield 82, 3, 22))
theorem w23_70 {x : Int32} {l0 l1 l2 l3 : Slot} : W (pj lw) 23 70 (l0 :: l1 :: l2 :: l3 :: .val (.int x) :: L) S k n H Q ↔ W (pj lw) 23 72 (l0 :: l1 :: l2 :: l3 :: .val (.int x) :: L) (.int x :: S) k n H Q := W_s (rfl : (pj lw).1 23 70 = some (.iload 4, 2, 0)) rfl rfl rfl
theorem w23_72 {x i : Int32} {a : Nat} : W (pj lw) 23 72 L (.int x :: .int i :: .ref a :: S) k n H Q ↔ (inAw H a .int i = true ∧ W (pj lw) 23 73 L S k n (wr H a i.toNatClampNeg (.int x)) Q) := W_iastore (rfl : (pj lw).1 23 72 = some (.iastore, 1, 0))
theorem w23_73 {x : Nat} : W (pj lw) 23 73 (.val (.ref x) :: L) S k n H Q ↔ W (pj lw) 23 74 (.val (.ref x) :: L) (.ref x :: S) k n H Q := W_s (rfl : (pj lw).1 23 73 = some (.aload_n 0, 1, 0)) rfl rfl rfl
theorem w23_74 {x : Nat} : W (pj lw) 23 74 L (.ref x :: S) k n H Q ↔ W (pj lw) 23 75 L (.ref x :: .ref x :: S) k n H Q := W_s (rfl : (pj lw).1 23 74 = some (.dup, 1, 0)) rfl rfl rfl
theorem w23_75 {a : Nat} : W (pj lw) 23 75 L (.ref a :: S) k n H Q ↔ (isO H a = true ∧ W (pj lw) 23 78 L (fld H a 22 :: S) k n H Q) := W_getf (rfl : (pj lw).1 23 75 = some (.getfield 82, 3, 22))
theorem w23_78 : W (pj lw) 23 78 L S k n H Q ↔ W (pj lw) 23 79 L (.int 1 :: S) k n H Q := W_s (rfl : (pj lw).1 23 78 = some (.iconst 1, 1, 0)) rfl rfl rfl
theorem w23_79 {x y : Int32} : W (pj lw) 23 79 L (.int y :: .int x :: S) k n H Q ↔ W (pj lw) 23 80 L (.int (x + y) :: S) k n H Q := W_s (rfl : (pj lw).1 23 79 = some (.iadd, 1, 0)) rfl rfl rfl
theorem w23_80 {a : Nat} {v : Value} : W (pj lw) 23 80 L (v :: .ref a :: S) k n H Q ↔ ((isOw H a = true ∧ okv (.int) v = true) ∧ W (pj lw) 23 83 L S k n (wr H a 22 v) Q) := W_putf (rfl : (pj lw).1 23 80 = some (.putfield 82, 3, 22))
theorem w23_83 {x : Int32} {l0 l1 l2 l3 : Slot} : W (pj lw) 23 83 (l0 :: l1 :: l2 :: l3 :: .val (.int x) :: L) S k n H Q ↔ W (pj lw) 23 86 (l0 :: l1 :: l2 :: l3 :: .val (.int (x + 1)) :: L) S k n H Q := W_s (rfl : (pj lw).1 23 83 = some (.iinc 4 1, 3, 0)) rfl rfl rfl
theorem w23_86 : W (pj lw) 23 86 L S k n H Q ↔ W (pj lw) 23 22 L S k n H Q := W_goto (rfl : (pj lw).1 23 86 = some (.goto (-64), 3, 0)) rfl
theorem w23_89 : W (pj lw) 23 89 L [] k n H Q ↔ Q none H := W_r (rfl : (pj lw).1 23 89 = some (.return_, 1, 0)) rfl
theorem c24 {x0 : Nat} {x1 : Int32} : Cl (pj lw) 24 [.ref x0, .int x1] H Q ↔ W (pj lw) 24 0 [.val (.ref x0), .val (.int x1), .unset] [] 0 0 H Q := cl_unf rfl
theorem w24_0 : W (pj lw) 24 0 L S k n H Q ↔ W (pj lw) 24 1 L (.int 0 :: S) k n H Q := W_s (rfl : (pj lw).1 24 0 = some (.iconst 0, 1, 0)) rfl rfl rfl
theorem w24_1 {x : Int32} {l0 l1 : Slot} : W (pj lw) 24 1 (l0 :: l1 :: .unset :: L) (.int x :: S) k n H Q ↔ W (pj lw) 24 2 (l0 :: l1 :: .val (.int x) :: L) S k n H Q := W_istn (rfl : (pj lw).1 24 1 = some (.istore_n 2, 1, 0)) rfl rfl
theorem w24_2 {x : Int32} {l0 l1 : Slot} : W (pj lw) 24 2 (l0 :: l1 :: .val (.int x) :: L) S k n H Q ↔ W (pj lw) 24 3 (l0 :: l1 :: .val (.int x) :: L) (.int x :: S) k n H Q := W_s (rfl : (pj lw).1 24 2 = some (.iload_n 2, 1, 0)) rfl rfl rfl
theorem w24_3 {x : Nat} : W (pj lw) 24 3 (.val (.ref x) :: L) S k n H Q ↔ W (pj lw) 24 4 (.val (.ref x) :: L) (.ref x :: S) k n H Q := W_s (rfl : (pj lw).1 24 3 = some (.aload_n 0, 1, 0)) rfl rfl rfl
theorem w24_4 {a : Nat} : W (pj lw) 24 4 L (.ref a :: S) k n H Q ↔ (isO H a = true ∧ W (pj lw) 24 7 L (fld H a 22 :: S) k n H Q) := W_getf (rfl : (pj lw).1 24 4 = some (.getfield 82, 3, 22))
theorem w24_7 {x y : Int32} : W (pj lw) 24 7 L (.int y :: .int x :: S) k n H Q ↔ (if x < y then W (pj lw) 24 10 L S k n H Q else W (pj lw) 24 34 L S k n H Q) := W_icmp_ge (rfl : (pj lw).1 24 7 = some (.if_icmp .ge 27, 3, 0)) rfl
theorem w24_10 {x : Nat} : W (pj lw) 24 10 (.val (.ref x) :: L) S k n H Q ↔ W (pj lw) 24 11 (.val (.ref x) :: L) (.ref x :: S) k n H Q := W_s (rfl : (pj lw).1 24 10 = some (.aload_n 0, 1, 0)) rfl rfl rfl
theorem w24_11 {a : Nat} : W (pj lw) 24 11 L (.ref a :: S) k n H Q ↔ (isO H a = true ∧ W (pj lw) 24 14 L (fld H a 11 :: S) k n H Q) := W_getf (rfl : (pj lw).1 24 11 = some (.getfield 28, 3, 11))
theorem w24_14 {x : Nat} : W (pj lw) 24 14 (.val (.ref x) :: L) S k n H Q ↔ W (pj lw) 24 15 (.val (.ref x) :: L) (.ref x :: S) k n H Q := W_s (rfl : (pj lw).1 24 14 = some (.aload_n 0, 1, 0)) rfl rfl rfl
theorem w24_15 {a : Nat} : W (pj lw) 24 15 L (.ref a :: S) k n H Q ↔ (isO H a = true ∧ W (pj lw) 24 18 L (fld H a 20 :: S) k n H Q) := W_getf (rfl : (pj lw).1 24 15 = some (.getfield 43, 3, 20))
theorem w24_18 {x : Int32} {l0 l1 : Slot} : W (pj lw) 24 18 (l0 :: l1 :: .val (.int x) :: L) S k n H Q ↔ W (pj lw) 24 19 (l0 :: l1 :: .val (.int x) :: L) (.int x :: S) k n H Q := W_s (rfl : (pj lw).1 24 18 = some (.iload_n 2, 1, 0)) rfl rfl rfl
theorem w24_19 {i : Int32} {a : Nat} : W (pj lw) 24 19 L (.int i :: .ref a :: S) k n H Q ↔ (inA H a .int i = true ∧ W (pj lw) 24 20 L (elt H a i :: S) k n H Q) := W_iaload (rfl : (pj lw).1 24 19 = some (.iaload, 1, 0))
theorem w24_20 {i : Int32} {a : Nat} : W (pj lw) 24 20 L (.int i :: .ref a :: S) k n H Q ↔ (inA H a .int i = true ∧ W (pj lw) 24 21 L (elt H a i :: S) k n H Q) := W_iaload (rfl : (pj lw).1 24 20 = some (.iaload, 1, 0))
theorem w24_21 {x : Int32} {l0 : Slot} : W (pj lw) 24 21 (l0 :: .val (.int x) :: L) S k n H Q ↔ W (pj lw) 24 22 (l0 :: .val (.int x) :: L) (.int x :: S) k n H Q := W_s (rfl : (pj lw).1 24 21 = some (.iload_n 1, 1, 0)) rfl rfl rfl
theorem w24_22 {x y : Int32} : W (pj lw) 24 22 L (.int y :: .int x :: S) k n H Q ↔ W (pj lw) 24 23 L (.int (x &&& y) :: S) k n H Q := W_s (rfl : (pj lw).1 24 22 = some (.iand, 1, 0)) rfl rfl rfl
theorem w24_23 {x : Int32} : W (pj lw) 24 23 L (.int x :: S) k n H Q ↔ (if x = 0 then W (pj lw) 24 26 L S k n H Q else W (pj lw) 24 28 L S k n H Q) := W_if_ne (rfl : (pj lw).1 24 23 = some (.ifCond .ne 5, 3, 0)) rfl
theorem w24_26 : W (pj lw) 24 26 L S k n H Q ↔ W (pj lw) 24 27 L (.int 0 :: S) k n H Q := W_s (rfl : (pj lw).1 24 26 = some (.iconst 0, 1, 0)) rfl rfl rfl
theorem w24_27 {x : Int32} : W (pj lw) 24 27 L (.int x :: S) k n H Q ↔ ((x = 0 ∨ x = 1) ∧ Q (some (.int x)) H) := W_rz (rfl : (pj lw).1 24 27 = some (.ireturn, 1, 0)) rfl
theorem w24_28 {x : Int32} {l0 l1 : Slot} : W (pj lw) 24 28 (l0 :: l1 :: .val (.int x) :: L) S k n H Q ↔ W (pj lw) 24 31 (l0 :: l1 :: .val (.int (x + 1)) :: L) S k n H Q := W_s (rfl : (pj lw).1 24 28 = some (.iinc 2 1, 3, 0)) rfl rfl rfl
theorem w24_31 : W (pj lw) 24 31 L S k n H Q ↔ W (pj lw) 24 2 L S k n H Q := W_goto (rfl : (pj lw).1 24 31 = some (.goto (-29), 3, 0)) rfl
theorem w24_34 : W (pj lw) 24 34 L S k n H Q ↔ W (pj lw) 24 35 L (.int 1 :: S) k n H Q := W_s (rfl : (pj lw).1 24 34 = some (.iconst 1, 1, 0)) rfl rfl rfl
theorem w24_35 {x : Int32} : W (pj lw) 24 35 L (.int x :: S) k n H Q ↔ ((x = 0 ∨ x = 1) ∧ Q (some (.int x)) H) := W_rz (rfl : (pj lw).1 24 35 = some (.ireturn, 1, 0)) rfl
theorem c25 {x0 : Nat} {x1 : Int32} : Cl (pj lw) 25 [.ref x0, .int x1] H Q ↔ W (pj lw) 25 0 [.val (.ref x0), .val (.int x1), .unset] [] 0 0 H Q := cl_unf rfl
theorem w25_0 : W (pj lw) 25 0 L S k n H Q ↔ W (pj lw) 25 1 L (.int 0 :: S) k n H Q := W_s (rfl : (pj lw).1 25 0 = some (.iconst 0, 1, 0)) rfl rfl rfl
theorem w25_1 {x : Int32} {l0 l1 : Slot} : W (pj lw) 25 1 (l0 :: l1 :: .unset :: L) (.int x :: S) k n H Q ↔ W (pj lw) 25 2 (l0 :: l1 :: .val (.int x) :: L) S k n H Q := W_istn (rfl : (pj lw).1 25 1 = some (.istore_n 2, 1, 0)) rfl rfl
theorem w25_2 {x : Int32} {l0 l1 : Slot} : W (pj lw) 25 2 (l0 :: l1 :: .val (.int x) :: L) S k n H Q ↔ W (pj lw) 25 3 (l0 :: l1 :: .val (.int x) :: L) (.int x :: S) k n H Q := W_s (rfl : (pj lw).1 25 2 = some (.iload_n 2, 1, 0)) rfl rfl rfl
theorem w25_3 {x : Nat} : W (pj lw) 25 3 (.val (.ref x) :: L) S k n H Q ↔ W (pj lw) 25 4 (.val (.ref x) :: L) (.ref x :: S) k n H Q := W_s (rfl : (pj lw).1 25 3 = some (.aload_n 0, 1, 0)) rfl rfl rfl
theorem w25_4 {a : Nat} : W (pj lw) 25 4 L (.ref a :: S) k n H Q ↔ (isO H a = true ∧ W (pj lw) 25 7 L (fld H a 22 :: S) k n H Q) := W_getf (rfl : (pj lw).1 25 4 = some (.getfield 82, 3, 22))
theorem w25_7 {x y : Int32} : W (pj lw) 25 7 L (.int y :: .int x :: S) k n H Q ↔ (if x < y then W (pj lw) 25 10 L S k n H Q else W (pj lw) 25 38 L S k n H Q) := W_icmp_ge (rfl : (pj lw).1 25 7 = some (.if_icmp .ge 31, 3, 0)) rfl
theorem w25_10 {x : Nat} : W (pj lw) 25 10 (.val (.ref x) :: L) S k n H Q ↔ W (pj lw) 25 11 (.val (.ref x) :: L) (.ref x :: S) k n H Q := W_s (rfl : (pj lw).1 25 10 = some (.aload_n 0, 1, 0)) rfl rfl rfl
theorem w25_11 {a : Nat} : W (pj lw) 25 11 L (.ref a :: S) k n H Q ↔ (isO H a = true ∧ W (pj lw) 25 14 L (fld H a 21 :: S) k n H Q) := W_getf (rfl : (pj lw).1 25 11 = some (.getfield 46, 3, 21))
theorem w25_14 {x : Int32} {l0 l1 : Slot} : W (pj lw) 25 14 (l0 :: l1 :: .val (.int x) :: L) S k n H Q ↔ W (pj lw) 25 15 (l0 :: l1 :: .val (.int x) :: L) (.int x :: S) k n H Q := W_s (rfl : (pj lw).1 25 14 = some (.iload_n 2, 1, 0)) rfl rfl rfl
theorem w25_15 {x : Int32} {y : Nat} : W (pj lw) 25 15 L (.int x :: .ref y :: S) k n H Q ↔ W (pj lw) 25 16 L (.int x :: .ref y :: .int x :: .ref y :: S) k n H Q := W_s (rfl : (pj lw).1 25 15 = some (.dup2, 1, 0)) rfl rfl rfl
theorem w25_16 {i : Int32} {a : Nat} : W (pj lw) 25 16 L (.int i :: .ref a :: S) k n H Q ↔ (inA H a .int i = true ∧ W (pj lw) 25 17 L (elt H a i :: S) k n H Q) := W_iaload (rfl : (pj lw).1 25 16 = some (.iaload, 1, 0))
theorem w25_17 {x : Nat} : W (pj lw) 25 17 (.val (.ref x) :: L) S k n H Q ↔ W (pj lw) 25 18 (.val (.ref x) :: L) (.ref x :: S) k n H Q := W_s (rfl : (pj lw).1 25 17 = some (.aload_n 0, 1, 0)) rfl rfl rfl
theorem w25_18 {a : Nat} : W (pj lw) 25 18 L (.ref a :: S) k n H Q ↔ (isO H a = true ∧ W (pj lw) 25 21 L (fld H a 11 :: S) k n H Q) := W_getf (rfl : (pj lw).1 25 18 = some (.getfield 28, 3, 11))
theorem w25_21 {x : Nat} : W (pj lw) 25 21 (.val (.ref x) :: L) S k n H Q ↔ W (pj lw) 25 22 (.val (.ref x) :: L) (.ref x :: S) k n H Q := W_s (rfl : (pj lw).1 25 21 = some (.aload_n 0, 1, 0)) rfl rfl rfl
theorem w25_22 {a : Nat} : W (pj lw) 25 22 L (.ref a :: S) k n H Q ↔ (isO H a = true ∧ W (pj lw) 25 25 L (fld H a 20 :: S) k n H Q) := W_getf (rfl : (pj lw).1 25 22 = some (.getfield 43, 3, 20))
theorem w25_25 {x : Int32} {l0 l1 : Slot} : W (pj lw) 25 25 (l0 :: l1 :: .val (.int x) :: L) S k n H Q ↔ W (pj lw) 25 26 (l0 :: l1 :: .val (.int x) :: L) (.int x :: S) k n H Q := W_s (rfl : (pj lw).1 25 25 = some (.iload_n 2, 1, 0)) rfl rfl rfl
theorem w25_26 {i : Int32} {a : Nat} : W (pj lw) 25 26 L (.int i :: .ref a :: S) k n H Q ↔ (inA H a .int i = true ∧ W (pj lw) 25 27 L (elt H a i :: S) k n H Q) := W_iaload (rfl : (pj lw).1 25 26 = some (.iaload, 1, 0))
theorem w25_27 {i : Int32} {a : Nat} : W (pj lw) 25 27 L (.int i :: .ref a :: S) k n H Q ↔ (inA H a .int i = true ∧ W (pj lw) 25 28 L (elt H a i :: S) k n H Q) := W_iaload (rfl : (pj lw).1 25 27 = some (.iaload, 1, 0))
theorem w25_28 {x : Int32} {l0 : Slot} : W (pj lw) 25 28 (l0 :: .val (.int x) :: L) S k n H Q ↔ W (pj lw) 25 29 (l0 :: .val (.int x) :: L) (.int x :: S) k n H Q := W_s (rfl : (pj lw).1 25 28 = some (.iload_n 1, 1, 0)) rfl rfl rfl
theorem w25_29 {x y : Int32} : W (pj lw) 25 29 L (.int y :: .int x :: S) k n H Q ↔ W (pj lw) 25 30 L (.int (x &&& y) :: S) k n H Q := W_s (rfl : (pj lw).1 25 29 = some (.iand, 1, 0)) rfl rfl rfl
theorem w25_30 {x y : Int32} : W (pj lw) 25 30 L (.int y :: .int x :: S) k n H Q ↔ W (pj lw) 25 31 L (.int (x ||| y) :: S) k n H Q := W_s (rfl : (pj lw).1 25 30 = some (.ior, 1, 0)) rfl rfl rfl
theorem w25_31 {x i : Int32} {a : Nat} : W (pj lw) 25 31 L (.int x :: .int i :: .ref a :: S) k n H Q ↔ (inAw H a .int i = true ∧ W (pj lw) 25 32 L S k n (wr H a i.toNatClampNeg (.int x)) Q) := W_iastore (rfl : (pj lw).1 25 31 = some (.iastore, 1, 0))
theorem w25_32 {x : Int32} {l0 l1 : Slot} : W (pj lw) 25 32 (l0 :: l1 :: .val (.int x) :: L) S k n H Q ↔ W (pj lw) 25 35 (l0 :: l1 :: .val (.int (x + 1)) :: L) S k n H Q := W_s (rfl : (pj lw).1 25 32 = some (.iinc 2 1, 3, 0)) rfl rfl rfl
theorem w25_35 : W (pj lw) 25 35 L S k n H Q ↔ W (pj lw) 25 2 L S k n H Q := W_goto (rfl : (pj lw).1 25 35 = some (.goto (-33), 3, 0)) rfl
theorem w25_38 : W (pj lw) 25 38 L [] k n H Q ↔ Q none H := W_r (rfl : (pj lw).1 25 38 = some (.return_, 1, 0)) rfl
theorem c26 {x0 : Nat} {x1 : Int32} : Cl (pj lw) 26 [.ref x0, .int x1] H Q ↔ W (pj lw) 26 0 [.val (.ref x0), .val (.int x1), .unset, .unset, .unset, .unset] [] 0 0 H Q := cl_unf rfl
theorem w26_0 {x : Nat} : W (pj lw) 26 0 (.val (.ref x) :: L) S k n H Q ↔ W (pj lw) 26 1 (.val (.ref x) :: L) (.ref x :: S) k n H Q := W_s (rfl : (pj lw).1 26 0 = some (.aload_n 0, 1, 0)) rfl rfl rfl
theorem w26_1 {x : Int32} {l0 : Slot} : W (pj lw) 26 1 (l0 :: .val (.int x) :: L) S k n H Q ↔ W (pj lw) 26 2 (l0 :: .val (.int x) :: L) (.int x :: S) k n H Q := W_s (rfl : (pj lw).1 26 1 = some (.iload_n 1, 1, 0)) rfl rfl rfl
theorem w26_2 {a : Nat} {x0 : Int32} : W (pj lw) 26 2 L (.int x0 :: .ref a :: S) k n H Q ↔ ((isO H a = true ∧ cs S + (5 + 11) + 0 ≤ 16) ∧ Cl (pj lw) 23 [.ref a, .int x0] H (fun v H => W (pj lw) 26 5 L (v.toList ++ S) k n H Q)) := W_inst (as := [.int x0]) (rfl : (pj lw).1 26 2 = some (.invokevirtual 133, 3, 23)) rfl rfl rfl (Nat.le_of_ble_eq_true rfl) (Nat.le_of_ble_eq_true rfl) ⟨rfl, rfl⟩
theorem w26_5 {x : Nat} : W (pj lw) 26 5 (.val (.ref x) :: L) S k n H Q ↔ W (pj lw) 26 6 (.val (.ref x) :: L) (.ref x :: S) k n H Q := W_s (rfl : (pj lw).1 26 5 = some (.aload_n 0, 1, 0)) rfl rfl rfl
theorem w26_6 {a : Nat} : W (pj lw) 26 6 L (.ref a :: S) k n H Q ↔ (isO H a = true ∧ W (pj lw) 26 9 L (fld H a 11 :: S) k n H Q) := W_getf (rfl : (pj lw).1 26 6 = some (.getfield 28, 3, 11))
theorem w26_9 {x : Nat} : W (pj lw) 26 9 (.val (.ref x) :: L) S k n H Q ↔ W (pj lw) 26 10 (.val (.ref x) :: L) (.ref x :: S) k n H Q := W_s (rfl : (pj lw).1 26 9 = some (.aload_n 0, 1, 0)) rfl rfl rfl
theorem w26_10 {a : Nat} : W (pj lw) 26 10 L (.ref a :: S) k n H Q ↔ (isO H a = true ∧ W (pj lw) 26 13 L (fld H a 6 :: S) k n H Q) := W_getf (rfl : (pj lw).1 26 10 = some (.getfield 13, 3, 6))
theorem w26_13 {x : Int32} {l0 : Slot} : W (pj lw) 26 13 (l0 :: .val (.int x) :: L) S k n H Q ↔ W (pj lw) 26 14 (l0 :: .val (.int x) :: L) (.int x :: S) k n H Q := W_s (rfl : (pj lw).1 26 13 = some (.iload_n 1, 1, 0)) rfl rfl rfl
theorem w26_14 {i : Int32} {a : Nat} : W (pj lw) 26 14 L (.int i :: .ref a :: S) k n H Q ↔ (inA H a .int i = true ∧ W (pj lw) 26 15 L (elt H a i :: S) k n H Q) := W_iaload (rfl : (pj lw).1 26 14 = some (.iaload, 1, 0))
theorem w26_15 {i : Int32} {a : Nat} : W (pj lw) 26 15 L (.int i :: .ref a :: S) k n H Q ↔ (inA H a .int i = true ∧ W (pj lw) 26 16 L (elt H a i :: S) k n H Q) := W_iaload (rfl : (pj lw).1 26 15 = some (.iaload, 1, 0))
theorem w26_16 {x : Int32} {l0 l1 : Slot} : W (pj lw) 26 16 (l0 :: l1 :: .unset :: L) (.int x :: S) k n H Q ↔ W (pj lw) 26 17 (l0 :: l1 :: .val (.int x) :: L) S k n H Q := W_istn (rfl : (pj lw).1 26 16 = some (.istore_n 2, 1, 0)) rfl rfl
theorem w26_17 {x : Nat} : W (pj lw) 26 17 (.val (.ref x) :: L) S k n H Q ↔ W (pj lw) 26 18 (.val (.ref x) :: L) (.ref x :: S) k n H Q := W_s (rfl : (pj lw).1 26 17 = some (.aload_n 0, 1, 0)) rfl rfl rfl
theorem w26_18 {a : Nat} : W (pj lw) 26 18 L (.ref a :: S) k n H Q ↔ (isO H a = true ∧ W (pj lw) 26 21 L (fld H a 11 :: S) k n H Q) := W_getf (rfl : (pj lw).1 26 18 = some (.getfield 28, 3, 11))
theorem w26_21 {x : Nat} : W (pj lw) 26 21 (.val (.ref x) :: L) S k n H Q ↔ W (pj lw) 26 22 (.val (.ref x) :: L) (.ref x :: S) k n H Q := W_s (rfl : (pj lw).1 26 21 = some (.aload_n 0, 1, 0)) rfl rfl rfl
theorem w26_22 {a : Nat} : W (pj lw) 26 22 L (.ref a :: S) k n H Q ↔ (isO H a = true ∧ W (pj lw) 26 25 L (fld H a 7 :: S) k n H Q) := W_getf (rfl : (pj lw).1 26 22 = some (.getfield 16, 3, 7))
theorem w26_25 {x : Int32} {l0 : Slot} : W (pj lw) 26 25 (l0 :: .val (.int x) :: L) S k n H Q ↔ W (pj lw) 26 26 (l0 :: .val (.int x) :: L) (.int x :: S) k n H Q := W_s (rfl : (pj lw).1 26 25 = some (.iload_n 1, 1, 0)) rfl rfl rfl
theorem w26_26 {i : Int32} {a : Nat} : W (pj lw) 26 26 L (.int i :: .ref a :: S) k n H Q ↔ (inA H a .int i = true ∧ W (pj lw) 26 27 L (elt H a i :: S) k n H Q) := W_iaload (rfl : (pj lw).1 26 26 = some (.iaload, 1, 0))
theorem w26_27 {i : Int32} {a : Nat} : W (pj lw) 26 27 L (.int i :: .ref a :: S) k n H Q ↔ (inA H a .int i = true ∧ W (pj lw) 26 28 L (elt H a i :: S) k n H Q) := W_iaload (rfl : (pj lw).1 26 27 = some (.iaload, 1, 0))
theorem w26_28 {x : Int32} {l0 l1 l2 : Slot} : W (pj lw) 26 28 (l0 :: l1 :: l2 :: .unset :: L) (.int x :: S) k n H Q ↔ W (pj lw) 26 29 (l0 :: l1 :: l2 :: .val (.int x) :: L) S k n H Q := W_istn (rfl : (pj lw).1 26 28 = some (.istore_n 3, 1, 0)) rfl rfl
theorem w26_29 : W (pj lw) 26 29 L S k n H Q ↔ W (pj lw) 26 30 L (.int 0 :: S) k n H Q := W_s (rfl : (pj lw).1 26 29 = some (.iconst 0, 1, 0)) rfl rfl rfl
theorem w26_30 {x : Int32} {l0 l1 l2 l3 : Slot} : W (pj lw) 26 30 (l0 :: l1 :: l2 :: l3 :: .unset :: L) (.int x :: S) k n H Q ↔ W (pj lw) 26 32 (l0 :: l1 :: l2 :: l3 :: .val (.int x) :: L) S k n H Q := W_ist (rfl : (pj lw).1 26 30 = some (.istore 4, 2, 0)) rfl rfl
theorem w26_32 {x : Int32} {l0 l1 l2 l3 : Slot} : W (pj lw) 26 32 (l0 :: l1 :: l2 :: l3 :: .val (.int x) :: L) S k n H Q ↔ W (pj lw) 26 34 (l0 :: l1 :: l2 :: l3 :: .val (.int x) :: L) (.int x :: S) k n H Q := W_s (rfl : (pj lw).1 26 32 = some (.iload 4, 2, 0)) rfl rfl rfl
theorem w26_34 {x : Nat} : W (pj lw) 26 34 (.val (.ref x) :: L) S k n H Q ↔ W (pj lw) 26 35 (.val (.ref x) :: L) (.ref x :: S) k n H Q := W_s (rfl : (pj lw).1 26 34 = some (.aload_n 0, 1, 0)) rfl rfl rfl
theorem w26_35 {a : Nat} : W (pj lw) 26 35 L (.ref a :: S) k n H Q ↔ (isO H a = true ∧ W (pj lw) 26 38 L (fld H a 1 :: S) k n H Q) := W_getf (rfl : (pj lw).1 26 35 = some (.getfield 85, 3, 1))
theorem w26_38 {x y : Int32} : W (pj lw) 26 38 L (.int y :: .int x :: S) k n H Q ↔ (if x < y then W (pj lw) 26 41 L S k n H Q else W (pj lw) 26 108 L S k n H Q) := W_icmp_ge (rfl : (pj lw).1 26 38 = some (.if_icmp .ge 70, 3, 0)) rfl
theorem w26_41 {x : Int32} {l0 l1 : Slot} : W (pj lw) 26 41 (l0 :: l1 :: .val (.int x) :: L) S k n H Q ↔ W (pj lw) 26 42 (l0 :: l1 :: .val (.int x) :: L) (.int x :: S) k n H Q := W_s (rfl : (pj lw).1 26 41 = some (.iload_n 2, 1, 0)) rfl rfl rfl
theorem w26_42 {x : Int32} {l0 l1 l2 l3 : Slot} : W (pj lw) 26 42 (l0 :: l1 :: l2 :: l3 :: .val (.int x) :: L) S k n H Q ↔ W (pj lw) 26 44 (l0 :: l1 :: l2 :: l3 :: .val (.int x) :: L) (.int x :: S) k n H Q := W_s (rfl : (pj lw).1 26 42 = some (.iload 4, 2, 0)) rfl rfl rfl
theorem w26_44 {x y : Int32} : W (pj lw) 26 44 L (.int y :: .int x :: S) k n H Q ↔ W (pj lw) 26 45 L (.int (x >>> (y &&& 31)) :: S) k n H Q := W_s (rfl : (pj lw).1 26 44 = some (.ishr, 1, 0)) rfl rfl rfl
theorem w26_45 : W (pj lw) 26 45 L S k n H Q ↔ W (pj lw) 26 46 L (.int 1 :: S) k n H Q := W_s (rfl : (pj lw).1 26 45 = some (.iconst 1, 1, 0)) rfl rfl rfl
theorem w26_46 {x y : Int32} : W (pj lw) 26 46 L (.int y :: .int x :: S) k n H Q ↔ W (pj lw) 26 47 L (.int (x &&& y) :: S) k n H Q := W_s (rfl : (pj lw).1 26 46 = some (.iand, 1, 0)) rfl rfl rfl
theorem w26_47 {x : Int32} : W (pj lw) 26 47 L (.int x :: S) k n H Q ↔ (if x = 0 then W (pj lw) 26 50 L S k n H Q else W (pj lw) 26 53 L S k n H Q) := W_if_ne (rfl : (pj lw).1 26 47 = some (.ifCond .ne 6, 3, 0)) rfl
theorem w26_50 : W (pj lw) 26 50 L S k n H Q ↔ W (pj lw) 26 102 L S k n H Q := W_goto (rfl : (pj lw).1 26 50 = some (.goto 52, 3, 0)) rfl
theorem w26_53 : W (pj lw) 26 53 L S k n H Q ↔ W (pj lw) 26 54 L (.int 0 :: S) k n H Q := W_s (rfl : (pj lw).1 26 53 = some (.iconst 0, 1, 0)) rfl rfl rfl
theorem w26_54i {y : Int32} {x : Int32} {l0 l1 l2 l3 l4 : Slot} : W (pj lw) 26 54 (l0 :: l1 :: l2 :: l3 :: l4 :: .val (.int y) :: L) (.int x :: S) k n H Q ↔ W (pj lw) 26 56 (l0 :: l1 :: l2 :: l3 :: l4 :: .val (.int x) :: L) S k n H Q := W_ist (rfl : (pj lw).1 26 54 = some (.istore 5, 2, 0)) rfl rfl
theorem w26_54 {x : Int32} {l0 l1 l2 l3 l4 : Slot} : W (pj lw) 26 54 (l0 :: l1 :: l2 :: l3 :: l4 :: .unset :: L) (.int x :: S) k n H Q ↔ W (pj lw) 26 56 (l0 :: l1 :: l2 :: l3 :: l4 :: .val (.int x) :: L) S k n H Q := W_ist (rfl : (pj lw).1 26 54 = some (.istore 5, 2, 0)) rfl rfl
theorem w26_56 {x : Int32} {l0 l1 l2 l3 l4 : Slot} : W (pj lw) 26 56 (l0 :: l1 :: l2 :: l3 :: l4 :: .val (.int x) :: L) S k n H Q ↔ W (pj lw) 26 58 (l0 :: l1 :: l2 :: l3 :: l4 :: .val (.int x) :: L) (.int x :: S) k n H Q := W_s (rfl : (pj lw).1 26 56 = some (.iload 5, 2, 0)) rfl rfl rfl
theorem w26_58 {x : Nat} : W (pj lw) 26 58 (.val (.ref x) :: L) S k n H Q ↔ W (pj lw) 26 59 (.val (.ref x) :: L) (.ref x :: S) k n H Q := W_s (rfl : (pj lw).1 26 58 = some (.aload_n 0, 1, 0)) rfl rfl rfl
theorem w26_59 {a : Nat} : W (pj lw) 26 59 L (.ref a :: S) k n H Q ↔ (isO H a = true ∧ W (pj lw) 26 62 L (fld H a 1 :: S) k n H Q) := W_getf (rfl : (pj lw).1 26 59 = some (.getfield 85, 3, 1))
theorem w26_62 {x y : Int32} : W (pj lw) 26 62 L (.int y :: .int x :: S) k n H Q ↔ (if x < y then W (pj lw) 26 65 L S k n H Q else W (pj lw) 26 102 L S k n H Q) := W_icmp_ge (rfl : (pj lw).1 26 62 = some (.if_icmp .ge 40, 3, 0)) rfl
theorem w26_65 {x : Int32} {l0 l1 l2 : Slot} : W (pj lw) 26 65 (l0 :: l1 :: l2 :: .val (.int x) :: L) S k n H Q ↔ W (pj lw) 26 66 (l0 :: l1 :: l2 :: .val (.int x) :: L) (.int x :: S) k n H Q := W_s (rfl : (pj lw).1 26 65 = some (.iload_n 3, 1, 0)) rfl rfl rfl
theorem w26_66 {x : Int32} {l0 l1 l2 l3 l4 : Slot} : W (pj lw) 26 66 (l0 :: l1 :: l2 :: l3 :: l4 :: .val (.int x) :: L) S k n H Q ↔ W (pj lw) 26 68 (l0 :: l1 :: l2 :: l3 :: l4 :: .val (.int x) :: L) (.int x :: S) k n H Q := W_s (rfl : (pj lw).1 26 66 = some (.iload 5, 2, 0)) rfl rfl rfl
theorem w26_68 {x y : Int32} : W (pj lw) 26 68 L (.int y :: .int x :: S) k n H Q ↔ W (pj lw) 26 69 L (.int (x >>> (y &&& 31)) :: S) k n H Q := W_s (rfl : (pj lw).1 26 68 = some (.ishr, 1, 0)) rfl rfl rfl
theorem w26_69 : W (pj lw) 26 69 L S k n H Q ↔ W (pj lw) 26 70 L (.int 1 :: S) k n H Q := W_s (rfl : (pj lw).1 26 69 = some (.iconst 1, 1, 0)) rfl rfl rfl
theorem w26_70 {x y : Int32} : W (pj lw) 26 70 L (.int y :: .int x :: S) k n H Q ↔ W (pj lw) 26 71 L (.int (x &&& y) :: S) k n H Q := W_s (rfl : (pj lw).1 26 70 = some (.iand, 1, 0)) rfl rfl rfl
theorem w26_71 {x : Int32} : W (pj lw) 26 71 L (.int x :: S) k n H Q ↔ (if x = 0 then W (pj lw) 26 96 L S k n H Q else W (pj lw) 26 74 L S k n H Q) := W_if_eq (rfl : (pj lw).1 26 71 = some (.ifCond .eq 25, 3, 0)) rfl
theorem w26_74 {x : Nat} : W (pj lw) 26 74 (.val (.ref x) :: L) S k n H Q ↔ W (pj lw) 26 75 (.val (.ref x) :: L) (.ref x :: S) k n H Q := W_s (rfl : (pj lw).1 26 74 = some (.aload_n 0, 1, 0)) rfl rfl rfl
theorem w26_75 {x : Nat} : W (pj lw) 26 75 (.val (.ref x) :: L) S k n H Q ↔ W (pj lw) 26 76 (.val (.ref x) :: L) (.ref x :: S) k n H Q := W_s (rfl : (pj lw).1 26 75 = some (.aload_n 0, 1, 0)) rfl rfl rfl
theorem w26_76 {a : Nat} : W (pj lw) 26 76 L (.ref a :: S) k n H Q ↔ (isO H a = true ∧ W (pj lw) 26 79 L (fld H a 19 :: S) k n H Q) := W_getf (rfl : (pj lw).1 26 76 = some (.getfield 40, 3, 19))
theorem w26_79 {x : Int32} {l0 l1 l2 l3 : Slot} : W (pj lw) 26 79 (l0 :: l1 :: l2 :: l3 :: .val (.int x) :: L) S k n H Q ↔ W (pj lw) 26 81 (l0 :: l1 :: l2 :: l3 :: .val (.int x) :: L) (.int x :: S) k n H Q := W_s (rfl : (pj lw).1 26 79 = some (.iload 4, 2, 0)) rfl rfl rfl
theorem w26_81 : W (pj lw) 26 81 L S k n H Q ↔ W (pj lw) 26 83 L (.int 10 :: S) k n H Q := W_s (rfl : (pj lw).1 26 81 = some (.bipush 10, 2, 0)) rfl rfl rfl
theorem w26_83 {x y : Int32} : W (pj lw) 26 83 L (.int y :: .int x :: S) k n H Q ↔ W (pj lw) 26 84 L (.int (x * y) :: S) k n H Q := W_s (rfl : (pj lw).1 26 83 = some (.imul, 1, 0)) rfl rfl rfl
theorem w26_84 {x : Int32} {l0 l1 l2 l3 l4 : Slot} : W (pj lw) 26 84 (l0 :: l1 :: l2 :: l3 :: l4 :: .val (.int x) :: L) S k n H Q ↔ W (pj lw) 26 86 (l0 :: l1 :: l2 :: l3 :: l4 :: .val (.int x) :: L) (.int x :: S) k n H Q := W_s (rfl : (pj lw).1 26 84 = some (.iload 5, 2, 0)) rfl rfl rfl
theorem w26_86 {x y : Int32} : W (pj lw) 26 86 L (.int y :: .int x :: S) k n H Q ↔ W (pj lw) 26 87 L (.int (x + y) :: S) k n H Q := W_s (rfl : (pj lw).1 26 86 = some (.iadd, 1, 0)) rfl rfl rfl
theorem w26_87 {i : Int32} {a : Nat} : W (pj lw) 26 87 L (.int i :: .ref a :: S) k n H Q ↔ (inA H a .int i = true ∧ W (pj lw) 26 88 L (elt H a i :: S) k n H Q) := W_iaload (rfl : (pj lw).1 26 87 = some (.iaload, 1, 0))
theorem w26_88 {a : Nat} {x0 : Int32} : W (pj lw) 26 88 L (.int x0 :: .ref a :: S) k n H Q ↔ ((isO H a = true ∧ cs S + (3 + 11) + 0 ≤ 16) ∧ Cl (pj lw) 24 [.ref a, .int x0] H (fun v H => W (pj lw) 26 91 L (v.toList ++ S) k n H Q)) := W_inst (as := [.int x0]) (rfl : (pj lw).1 26 88 = some (.invokevirtual 137, 3, 24)) rfl rfl rfl (Nat.le_of_ble_eq_true rfl) (Nat.le_of_ble_eq_true rfl) ⟨rfl, rfl⟩
theorem w26_91 {x : Int32} : W (pj lw) 26 91 L (.int x :: S) k n H Q ↔ (if x = 0 then W (pj lw) 26 96 L S k n H Q else W (pj lw) 26 94 L S k n H Q) := W_if_eq (rfl : (pj lw).1 26 91 = some (.ifCond .eq 5, 3, 0)) rfl
theorem w26_94 : W (pj lw) 26 94 L S k n H Q ↔ W (pj lw) 26 95 L (.int 1 :: S) k n H Q := W_s (rfl : (pj lw).1 26 94 = some (.iconst 1, 1, 0)) rfl rfl rfl
theorem w26_95 {x : Int32} : W (pj lw) 26 95 L (.int x :: S) k n H Q ↔ ((x = 0 ∨ x = 1) ∧ Q (some (.int x)) H) := W_rz (rfl : (pj lw).1 26 95 = some (.ireturn, 1, 0)) rfl
theorem w26_96 {x : Int32} {l0 l1 l2 l3 l4 : Slot} : W (pj lw) 26 96 (l0 :: l1 :: l2 :: l3 :: l4 :: .val (.int x) :: L) S k n H Q ↔ W (pj lw) 26 99 (l0 :: l1 :: l2 :: l3 :: l4 :: .val (.int (x + 1)) :: L) S k n H Q := W_s (rfl : (pj lw).1 26 96 = some (.iinc 5 1, 3, 0)) rfl rfl rfl
theorem w26_99 : W (pj lw) 26 99 L S k n H Q ↔ W (pj lw) 26 56 L S k n H Q := W_goto (rfl : (pj lw).1 26 99 = some (.goto (-43), 3, 0)) rfl
theorem w26_102 {x : Int32} {l0 l1 l2 l3 : Slot} : W (pj lw) 26 102 (l0 :: l1 :: l2 :: l3 :: .val (.int x) :: L) S k n H Q ↔ W (pj lw) 26 105 (l0 :: l1 :: l2 :: l3 :: .val (.int (x + 1)) :: L) S k n H Q := W_s (rfl : (pj lw).1 26 102 = some (.iinc 4 1, 3, 0)) rfl rfl rfl
theorem w26_105 : W (pj lw) 26 105 L S k n H Q ↔ W (pj lw) 26 32 L S k n H Q := W_goto (rfl : (pj lw).1 26 105 = some (.goto (-73), 3, 0)) rfl
theorem w26_108 : W (pj lw) 26 108 L S k n H Q ↔ W (pj lw) 26 109 L (.int 0 :: S) k n H Q := W_s (rfl : (pj lw).1 26 108 = some (.iconst 0, 1, 0)) rfl rfl rfl
theorem w26_109 {x : Int32} : W (pj lw) 26 109 L (.int x :: S) k n H Q ↔ ((x = 0 ∨ x = 1) ∧ Q (some (.int x)) H) := W_rz (rfl : (pj lw).1 26 109 = some (.ireturn, 1, 0)) rfl
theorem c27 {x0 : Nat} {x1 : Int32} : Cl (pj lw) 27 [.ref x0, .int x1] H Q ↔ W (pj lw) 27 0 [.val (.ref x0), .val (.int x1), .unset, .unset, .unset, .unset, .unset, .unset, .unset] [] 0 0 H Q := cl_unf rfl
theorem w27_0 {x : Nat} : W (pj lw) 27 0 (.val (.ref x) :: L) S k n H Q ↔ W (pj lw) 27 1 (.val (.ref x) :: L) (.ref x :: S) k n H Q := W_s (rfl : (pj lw).1 27 0 = some (.aload_n 0, 1, 0)) rfl rfl rfl
theorem w27_1 {x : Int32} {l0 : Slot} : W (pj lw) 27 1 (l0 :: .val (.int x) :: L) S k n H Q ↔ W (pj lw) 27 2 (l0 :: .val (.int x) :: L) (.int x :: S) k n H Q := W_s (rfl : (pj lw).1 27 1 = some (.iload_n 1, 1, 0)) rfl rfl rfl
theorem w27_2 {a : Nat} {x0 : Int32} : W (pj lw) 27 2 L (.int x0 :: .ref a :: S) k n H Q ↔ ((isO H a = true ∧ cs S + (5 + 11) + 0 ≤ 19) ∧ Cl (pj lw) 23 [.ref a, .int x0] H (fun v H => W (pj lw) 27 5 L (v.toList ++ S) k n H Q)) := W_inst (as := [.int x0]) (rfl : (pj lw).1 27 2 = some (.invokevirtual 133, 3, 23)) rfl rfl rfl (Nat.le_of_ble_eq_true rfl) (Nat.le_of_ble_eq_true rfl) ⟨rfl, rfl⟩
theorem w27_5 {x : Nat} : W (pj lw) 27 5 (.val (.ref x) :: L) S k n H Q ↔ W (pj lw) 27 6 (.val (.ref x) :: L) (.ref x :: S) k n H Q := W_s (rfl : (pj lw).1 27 5 = some (.aload_n 0, 1, 0)) rfl rfl rfl
theorem w27_6 {a : Nat} : W (pj lw) 27 6 L (.ref a :: S) k n H Q ↔ (isO H a = true ∧ W (pj lw) 27 9 L (fld H a 6 :: S) k n H Q) := W_getf (rfl : (pj lw).1 27 6 = some (.getfield 13, 3, 6))
theorem w27_9 {x : Int32} {l0 : Slot} : W (pj lw) 27 9 (l0 :: .val (.int x) :: L) S k n H Q ↔ W (pj lw) 27 10 (l0 :: .val (.int x) :: L) (.int x :: S) k n H Q := W_s (rfl : (pj lw).1 27 9 = some (.iload_n 1, 1, 0)) rfl rfl rfl
theorem w27_10 {i : Int32} {a : Nat} : W (pj lw) 27 10 L (.int i :: .ref a :: S) k n H Q ↔ (inA H a .int i = true ∧ W (pj lw) 27 11 L (elt H a i :: S) k n H Q) := W_iaload (rfl : (pj lw).1 27 10 = some (.iaload, 1, 0))
theorem w27_11 {x : Int32} {l0 l1 : Slot} : W (pj lw) 27 11 (l0 :: l1 :: .unset :: L) (.int x :: S) k n H Q ↔ W (pj lw) 27 12 (l0 :: l1 :: .val (.int x) :: L) S k n H Q := W_istn (rfl : (pj lw).1 27 11 = some (.istore_n 2, 1, 0)) rfl rfl
theorem w27_12 {x : Nat} : W (pj lw) 27 12 (.val (.ref x) :: L) S k n H Q ↔ W (pj lw) 27 13 (.val (.ref x) :: L) (.ref x :: S) k n H Q := W_s (rfl : (pj lw).1 27 12 = some (.aload_n 0, 1, 0)) rfl rfl rfl
theorem w27_13 {a : Nat} : W (pj lw) 27 13 L (.ref a :: S) k n H Q ↔ (isO H a = true ∧ W (pj lw) 27 16 L (fld H a 7 :: S) k n H Q) := W_getf (rfl : (pj lw).1 27 13 = some (.getfield 16, 3, 7))
theorem w27_16 {x : Int32} {l0 : Slot} : W (pj lw) 27 16 (l0 :: .val (.int x) :: L) S k n H Q ↔ W (pj lw) 27 17 (l0 :: .val (.int x) :: L) (.int x :: S) k n H Q := W_s (rfl : (pj lw).1 27 16 = some (.iload_n 1, 1, 0)) rfl rfl rfl
theorem w27_17 {i : Int32} {a : Nat} : W (pj lw) 27 17 L (.int i :: .ref a :: S) k n H Q ↔ (inA H a .int i = true ∧ W (pj lw) 27 18 L (elt H a i :: S) k n H Q) := W_iaload (rfl : (pj lw).1 27 17 = some (.iaload, 1, 0))
theorem w27_18 {x : Int32} {l0 l1 l2 : Slot} : W (pj lw) 27 18 (l0 :: l1 :: l2 :: .unset :: L) (.int x :: S) k n H Q ↔ W (pj lw) 27 19 (l0 :: l1 :: l2 :: .val (.int x) :: L) S k n H Q := W_istn (rfl : (pj lw).1 27 18 = some (.istore_n 3, 1, 0)) rfl rfl
theorem w27_19 : W (pj lw) 27 19 L S k n H Q ↔ W (pj lw) 27 20 L (.int 0 :: S) k n H Q := W_s (rfl : (pj lw).1 27 19 = some (.iconst 0, 1, 0)) rfl rfl rfl
theorem w27_20 {x : Int32} {l0 l1 l2 l3 : Slot} : W (pj lw) 27 20 (l0 :: l1 :: l2 :: l3 :: .unset :: L) (.int x :: S) k n H Q ↔ W (pj lw) 27 22 (l0 :: l1 :: l2 :: l3 :: .val (.int x) :: L) S k n H Q := W_ist (rfl : (pj lw).1 27 20 = some (.istore 4, 2, 0)) rfl rfl
theorem w27_22 {x : Int32} {l0 l1 l2 l3 : Slot} : W (pj lw) 27 22 (l0 :: l1 :: l2 :: l3 :: .val (.int x) :: L) S k n H Q ↔ W (pj lw) 27 24 (l0 :: l1 :: l2 :: l3 :: .val (.int x) :: L) (.int x :: S) k n H Q := W_s (rfl : (pj lw).1 27 22 = some (.iload 4, 2, 0)) rfl rfl rfl
theorem w27_24 {x : Nat} : W (pj lw) 27 24 (.val (.ref x) :: L) S k n H Q ↔ W (pj lw) 27 25 (.val (.ref x) :: L) (.ref x :: S) k n H Q := W_s (rfl : (pj lw).1 27 24 = some (.aload_n 0, 1, 0)) rfl rfl rfl
theorem w27_25 {a : Nat} : W (pj lw) 27 25 L (.ref a :: S) k n H Q ↔ (isO H a = true ∧ W (pj lw) 27 28 L (fld H a 22 :: S) k n H Q) := W_getf (rfl : (pj lw).1 27 25 = some (.getfield 82, 3, 22))
theorem w27_28 {x y : Int32} : W (pj lw) 27 28 L (.int y :: .int x :: S) k n H Q ↔ (if x < y then W (pj lw) 27 31 L S k n H Q else W (pj lw) 27 45 L S k n H Q) := W_icmp_ge (rfl : (pj lw).1 27 28 = some (.if_icmp .ge 17, 3, 0)) rfl
theorem w27_31 {x : Nat} : W (pj lw) 27 31 (.val (.ref x) :: L) S k n H Q ↔ W (pj lw) 27 32 (.val (.ref x) :: L) (.ref x :: S) k n H Q := W_s (rfl : (pj lw).1 27 31 = some (.aload_n 0, 1, 0)) rfl rfl rfl
theorem w27_32 {a : Nat} : W (pj lw) 27 32 L (.ref a :: S) k n H Q ↔ (isO H a = true ∧ W (pj lw) 27 35 L (fld H a 21 :: S) k n H Q) := W_getf (rfl : (pj lw).1 27 32 = some (.getfield 46, 3, 21))
theorem w27_35 {x : Int32} {l0 l1 l2 l3 : Slot} : W (pj lw) 27 35 (l0 :: l1 :: l2 :: l3 :: .val (.int x) :: L) S k n H Q ↔ W (pj lw) 27 37 (l0 :: l1 :: l2 :: l3 :: .val (.int x) :: L) (.int x :: S) k n H Q := W_s (rfl : (pj lw).1 27 35 = some (.iload 4, 2, 0)) rfl rfl rfl
theorem w27_37 : W (pj lw) 27 37 L S k n H Q ↔ W (pj lw) 27 38 L (.int 0 :: S) k n H Q := W_s (rfl : (pj lw).1 27 37 = some (.iconst 0, 1, 0)) rfl rfl rfl
theorem w27_38 {x i : Int32} {a : Nat} : W (pj lw) 27 38 L (.int x :: .int i :: .ref a :: S) k n H Q ↔ (inAw H a .int i = true ∧ W (pj lw) 27 39 L S k n (wr H a i.toNatClampNeg (.int x)) Q) := W_iastore (rfl : (pj lw).1 27 38 = some (.iastore, 1, 0))
theorem w27_39 {x : Int32} {l0 l1 l2 l3 : Slot} : W (pj lw) 27 39 (l0 :: l1 :: l2 :: l3 :: .val (.int x) :: L) S k n H Q ↔ W (pj lw) 27 42 (l0 :: l1 :: l2 :: l3 :: .val (.int (x + 1)) :: L) S k n H Q := W_s (rfl : (pj lw).1 27 39 = some (.iinc 4 1, 3, 0)) rfl rfl rfl
theorem w27_42 : W (pj lw) 27 42 L S k n H Q ↔ W (pj lw) 27 22 L S k n H Q := W_goto (rfl : (pj lw).1 27 42 = some (.goto (-20), 3, 0)) rfl
theorem w27_45 : W (pj lw) 27 45 L S k n H Q ↔ W (pj lw) 27 46 L (.int 0 :: S) k n H Q := W_s (rfl : (pj lw).1 27 45 = some (.iconst 0, 1, 0)) rfl rfl rfl
theorem w27_46i {y : Int32} {x : Int32} {l0 l1 l2 l3 : Slot} : W (pj lw) 27 46 (l0 :: l1 :: l2 :: l3 :: .val (.int y) :: L) (.int x :: S) k n H Q ↔ W (pj lw) 27 48 (l0 :: l1 :: l2 :: l3 :: .val (.int x) :: L) S k n H Q := W_ist (rfl : (pj lw).1 27 46 = some (.istore 4, 2, 0)) rfl rfl
theorem w27_48 : W (pj lw) 27 48 L S k n H Q ↔ W (pj lw) 27 49 L (.int 0 :: S) k n H Q := W_s (rfl : (pj lw).1 27 48 = some (.iconst 0, 1, 0)) rfl rfl rfl
theorem w27_49 {x : Int32} {l0 l1 l2 l3 l4 : Slot} : W (pj lw) 27 49 (l0 :: l1 :: l2 :: l3 :: l4 :: .unset :: L) (.int x :: S) k n H Q ↔ W (pj lw) 27 51 (l0 :: l1 :: l2 :: l3 :: l4 :: .val (.int x) :: L) S k n H Q := W_ist (rfl : (pj lw).1 27 49 = some (.istore 5, 2, 0)) rfl rfl
theorem w27_51 : W (pj lw) 27 51 L S k n H Q ↔ W (pj lw) 27 52 L (.int 0 :: S) k n H Q := W_s (rfl : (pj lw).1 27 51 = some (.iconst 0, 1, 0)) rfl rfl rfl
theorem w27_52 {x : Int32} {l0 l1 l2 l3 l4 l5 : Slot} : W (pj lw) 27 52 (l0 :: l1 :: l2 :: l3 :: l4 :: l5 :: .unset :: L) (.int x :: S) k n H Q ↔ W (pj lw) 27 54 (l0 :: l1 :: l2 :: l3 :: l4 :: l5 :: .val (.int x) :: L) S k n H Q := W_ist (rfl : (pj lw).1 27 52 = some (.istore 6, 2, 0)) rfl rfl
theorem w27_54 {x : Int32} {l0 l1 l2 l3 l4 l5 : Slot} : W (pj lw) 27 54 (l0 :: l1 :: l2 :: l3 :: l4 :: l5 :: .val (.int x) :: L) S k n H Q ↔ W (pj lw) 27 56 (l0 :: l1 :: l2 :: l3 :: l4 :: l5 :: .val (.int x) :: L) (.int x :: S) k n H Q := W_s (rfl : (pj lw).1 27 54 = some (.iload 6, 2, 0)) rfl rfl rfl
theorem w27_56 {x : Nat} : W (pj lw) 27 56 (.val (.ref x) :: L) S k n H Q ↔ W (pj lw) 27 57 (.val (.ref x) :: L) (.ref x :: S) k n H Q := W_s (rfl : (pj lw).1 27 56 = some (.aload_n 0, 1, 0)) rfl rfl rfl
theorem w27_57 {a : Nat} : W (pj lw) 27 57 L (.ref a :: S) k n H Q ↔ (isO H a = true ∧ W (pj lw) 27 60 L (fld H a 1 :: S) k n H Q) := W_getf (rfl : (pj lw).1 27 57 = some (.getfield 85, 3, 1))
theorem w27_60 {x y : Int32} : W (pj lw) 27 60 L (.int y :: .int x :: S) k n H Q ↔ (if x < y then W (pj lw) 27 63 L S k n H Q else W (pj lw) 27 166 L S k n H Q) := W_icmp_ge (rfl : (pj lw).1 27 60 = some (.if_icmp .ge 106, 3, 0)) rfl
theorem w27_63 {x : Nat} : W (pj lw) 27 63 (.val (.ref x) :: L) S k n H Q ↔ W (pj lw) 27 64 (.val (.ref x) :: L) (.ref x :: S) k n H Q := W_s (rfl : (pj lw).1 27 63 = some (.aload_n 0, 1, 0)) rfl rfl rfl
theorem w27_64 {a : Nat} : W (pj lw) 27 64 L (.ref a :: S) k n H Q ↔ (isO H a = true ∧ W (pj lw) 27 67 L (fld H a 11 :: S) k n H Q) := W_getf (rfl : (pj lw).1 27 64 = some (.getfield 28, 3, 11))
theorem w27_67 {x : Int32} {l0 l1 : Slot} : W (pj lw) 27 67 (l0 :: l1 :: .val (.int x) :: L) S k n H Q ↔ W (pj lw) 27 68 (l0 :: l1 :: .val (.int x) :: L) (.int x :: S) k n H Q := W_s (rfl : (pj lw).1 27 67 = some (.iload_n 2, 1, 0)) rfl rfl rfl
theorem w27_68 {i : Int32} {a : Nat} : W (pj lw) 27 68 L (.int i :: .ref a :: S) k n H Q ↔ (inA H a .int i = true ∧ W (pj lw) 27 69 L (elt H a i :: S) k n H Q) := W_iaload (rfl : (pj lw).1 27 68 = some (.iaload, 1, 0))
theorem w27_69 {x : Int32} {l0 l1 l2 l3 l4 l5 : Slot} : W (pj lw) 27 69 (l0 :: l1 :: l2 :: l3 :: l4 :: l5 :: .val (.int x) :: L) S k n H Q ↔ W (pj lw) 27 71 (l0 :: l1 :: l2 :: l3 :: l4 :: l5 :: .val (.int x) :: L) (.int x :: S) k n H Q := W_s (rfl : (pj lw).1 27 69 = some (.iload 6, 2, 0)) rfl rfl rfl
theorem w27_71 {x y : Int32} : W (pj lw) 27 71 L (.int y :: .int x :: S) k n H Q ↔ W (pj lw) 27 72 L (.int (x >>> (y &&& 31)) :: S) k n H Q := W_s (rfl : (pj lw).1 27 71 = some (.ishr, 1, 0)) rfl rfl rfl
theorem w27_72 : W (pj lw) 27 72 L S k n H Q ↔ W (pj lw) 27 73 L (.int 1 :: S) k n H Q := W_s (rfl : (pj lw).1 27 72 = some (.iconst 1, 1, 0)) rfl rfl rfl
theorem w27_73 {x y : Int32} : W (pj lw) 27 73 L (.int y :: .int x :: S) k n H Q ↔ W (pj lw) 27 74 L (.int (x &&& y) :: S) k n H Q := W_s (rfl : (pj lw).1 27 73 = some (.iand, 1, 0)) rfl rfl rfl
theorem w27_74 {x : Int32} : W (pj lw) 27 74 L (.int x :: S) k n H Q ↔ (if x = 0 then W (pj lw) 27 77 L S k n H Q else W (pj lw) 27 80 L S k n H Q) := W_if_ne (rfl : (pj lw).1 27 74 = some (.ifCond .ne 6, 3, 0)) rfl
theorem w27_77 : W (pj lw) 27 77 L S k n H Q ↔ W (pj lw) 27 160 L S k n H Q := W_goto (rfl : (pj lw).1 27 77 = some (.goto 83, 3, 0)) rfl
theorem w27_80 : W (pj lw) 27 80 L S k n H Q ↔ W (pj lw) 27 81 L (.int 0 :: S) k n H Q := W_s (rfl : (pj lw).1 27 80 = some (.iconst 0, 1, 0)) rfl rfl rfl
theorem w27_81i {y : Int32} {x : Int32} {l0 l1 l2 l3 l4 l5 l6 : Slot} : W (pj lw) 27 81 (l0 :: l1 :: l2 :: l3 :: l4 :: l5 :: l6 :: .val (.int y) :: L) (.int x :: S) k n H Q ↔ W (pj lw) 27 83 (l0 :: l1 :: l2 :: l3 :: l4 :: l5 :: l6 :: .val (.int x) :: L) S k n H Q := W_ist (rfl : (pj lw).1 27 81 = some (.istore 7, 2, 0)) rfl rfl
theorem w27_81 {x : Int32} {l0 l1 l2 l3 l4 l5 l6 : Slot} : W (pj lw) 27 81 (l0 :: l1 :: l2 :: l3 :: l4 :: l5 :: l6 :: .unset :: L) (.int x :: S) k n H Q ↔ W (pj lw) 27 83 (l0 :: l1 :: l2 :: l3 :: l4 :: l5 :: l6 :: .val (.int x) :: L) S k n H Q := W_ist (rfl : (pj lw).1 27 81 = some (.istore 7, 2, 0)) rfl rfl
theorem w27_83 {x : Int32} {l0 l1 l2 l3 l4 l5 l6 : Slot} : W (pj lw) 27 83 (l0 :: l1 :: l2 :: l3 :: l4 :: l5 :: l6 :: .val (.int x) :: L) S k n H Q ↔ W (pj lw) 27 85 (l0 :: l1 :: l2 :: l3 :: l4 :: l5 :: l6 :: .val (.int x) :: L) (.int x :: S) k n H Q := W_s (rfl : (pj lw).1 27 83 = some (.iload 7, 2, 0)) rfl rfl rfl
theorem w27_85 {x : Nat} : W (pj lw) 27 85 (.val (.ref x) :: L) S k n H Q ↔ W (pj lw) 27 86 (.val (.ref x) :: L) (.ref x :: S) k n H Q := W_s (rfl : (pj lw).1 27 85 = some (.aload_n 0, 1, 0)) rfl rfl rfl
theorem w27_86 {a : Nat} : W (pj lw) 27 86 L (.ref a :: S) k n H Q ↔ (isO H a = true ∧ W (pj lw) 27 89 L (fld H a 1 :: S) k n H Q) := W_getf (rfl : (pj lw).1 27 86 = some (.getfield 85, 3, 1))
theorem w27_89 {x y : Int32} : W (pj lw) 27 89 L (.int y :: .int x :: S) k n H Q ↔ (if x < y then W (pj lw) 27 92 L S k n H Q else W (pj lw) 27 160 L S k n H Q) := W_icmp_ge (rfl : (pj lw).1 27 89 = some (.if_icmp .ge 71, 3, 0)) rfl
theorem w27_92 {x : Nat} : W (pj lw) 27 92 (.val (.ref x) :: L) S k n H Q ↔ W (pj lw) 27 93 (.val (.ref x) :: L) (.ref x :: S) k n H Q := W_s (rfl : (pj lw).1 27 92 = some (.aload_n 0, 1, 0)) rfl rfl rfl
theorem w27_93 {a : Nat} : W (pj lw) 27 93 L (.ref a :: S) k n H Q ↔ (isO H a = true ∧ W (pj lw) 27 96 L (fld H a 19 :: S) k n H Q) := W_getf (rfl : (pj lw).1 27 93 = some (.getfield 40, 3, 19))
theorem w27_96 {x : Int32} {l0 l1 l2 l3 l4 l5 : Slot} : W (pj lw) 27 96 (l0 :: l1 :: l2 :: l3 :: l4 :: l5 :: .val (.int x) :: L) S k n H Q ↔ W (pj lw) 27 98 (l0 :: l1 :: l2 :: l3 :: l4 :: l5 :: .val (.int x) :: L) (.int x :: S) k n H Q := W_s (rfl : (pj lw).1 27 96 = some (.iload 6, 2, 0)) rfl rfl rfl
theorem w27_98 : W (pj lw) 27 98 L S k n H Q ↔ W (pj lw) 27 100 L (.int 10 :: S) k n H Q := W_s (rfl : (pj lw).1 27 98 = some (.bipush 10, 2, 0)) rfl rfl rfl
theorem w27_100 {x y : Int32} : W (pj lw) 27 100 L (.int y :: .int x :: S) k n H Q ↔ W (pj lw) 27 101 L (.int (x * y) :: S) k n H Q := W_s (rfl : (pj lw).1 27 100 = some (.imul, 1, 0)) rfl rfl rfl
theorem w27_101 {x : Int32} {l0 l1 l2 l3 l4 l5 l6 : Slot} : W (pj lw) 27 101 (l0 :: l1 :: l2 :: l3 :: l4 :: l5 :: l6 :: .val (.int x) :: L) S k n H Q ↔ W (pj lw) 27 103 (l0 :: l1 :: l2 :: l3 :: l4 :: l5 :: l6 :: .val (.int x) :: L) (.int x :: S) k n H Q := W_s (rfl : (pj lw).1 27 101 = some (.iload 7, 2, 0)) rfl rfl rfl
theorem w27_103 {x y : Int32} : W (pj lw) 27 103 L (.int y :: .int x :: S) k n H Q ↔ W (pj lw) 27 104 L (.int (x + y) :: S) k n H Q := W_s (rfl : (pj lw).1 27 103 = some (.iadd, 1, 0)) rfl rfl rfl
theorem w27_104 {i : Int32} {a : Nat} : W (pj lw) 27 104 L (.int i :: .ref a :: S) k n H Q ↔ (inA H a .int i = true ∧ W (pj lw) 27 105 L (elt H a i :: S) k n H Q) := W_iaload (rfl : (pj lw).1 27 104 = some (.iaload, 1, 0))
theorem w27_105i {y : Int32} {x : Int32} {l0 l1 l2 l3 l4 l5 l6 l7 : Slot} : W (pj lw) 27 105 (l0 :: l1 :: l2 :: l3 :: l4 :: l5 :: l6 :: l7 :: .val (.int y) :: L) (.int x :: S) k n H Q ↔ W (pj lw) 27 107 (l0 :: l1 :: l2 :: l3 :: l4 :: l5 :: l6 :: l7 :: .val (.int x) :: L) S k n H Q := W_ist (rfl : (pj lw).1 27 105 = some (.istore 8, 2, 0)) rfl rfl
theorem w27_105 {x : Int32} {l0 l1 l2 l3 l4 l5 l6 l7 : Slot} : W (pj lw) 27 105 (l0 :: l1 :: l2 :: l3 :: l4 :: l5 :: l6 :: l7 :: .unset :: L) (.int x :: S) k n H Q ↔ W (pj lw) 27 107 (l0 :: l1 :: l2 :: l3 :: l4 :: l5 :: l6 :: l7 :: .val (.int x) :: L) S k n H Q := W_ist (rfl : (pj lw).1 27 105 = some (.istore 8, 2, 0)) rfl rfl
theorem w27_107 {x : Nat} : W (pj lw) 27 107 (.val (.ref x) :: L) S k n H Q ↔ W (pj lw) 27 108 (.val (.ref x) :: L) (.ref x :: S) k n H Q := W_s (rfl : (pj lw).1 27 107 = some (.aload_n 0, 1, 0)) rfl rfl rfl
theorem w27_108 {a : Nat} : W (pj lw) 27 108 L (.ref a :: S) k n H Q ↔ (isO H a = true ∧ W (pj lw) 27 111 L (fld H a 11 :: S) k n H Q) := W_getf (rfl : (pj lw).1 27 108 = some (.getfield 28, 3, 11))
theorem w27_111 {x : Int32} {l0 l1 l2 : Slot} : W (pj lw) 27 111 (l0 :: l1 :: l2 :: .val (.int x) :: L) S k n H Q ↔ W (pj lw) 27 112 (l0 :: l1 :: l2 :: .val (.int x) :: L) (.int x :: S) k n H Q := W_s (rfl : (pj lw).1 27 111 = some (.iload_n 3, 1, 0)) rfl rfl rfl
theorem w27_112 {i : Int32} {a : Nat} : W (pj lw) 27 112 L (.int i :: .ref a :: S) k n H Q ↔ (inA H a .int i = true ∧ W (pj lw) 27 113 L (elt H a i :: S) k n H Q) := W_iaload (rfl : (pj lw).1 27 112 = some (.iaload, 1, 0))
theorem w27_113 {x : Int32} {l0 l1 l2 l3 l4 l5 l6 : Slot} : W (pj lw) 27 113 (l0 :: l1 :: l2 :: l3 :: l4 :: l5 :: l6 :: .val (.int x) :: L) S k n H Q ↔ W (pj lw) 27 115 (l0 :: l1 :: l2 :: l3 :: l4 :: l5 :: l6 :: .val (.int x) :: L) (.int x :: S) k n H Q := W_s (rfl : (pj lw).1 27 113 = some (.iload 7, 2, 0)) rfl rfl rfl
theorem w27_115 {x y : Int32} : W (pj lw) 27 115 L (.int y :: .int x :: S) k n H Q ↔ W (pj lw) 27 116 L (.int (x >>> (y &&& 31)) :: S) k n H Q := W_s (rfl : (pj lw).1 27 115 = some (.ishr, 1, 0)) rfl rfl rfl
theorem w27_116 : W (pj lw) 27 116 L S k n H Q ↔ W (pj lw) 27 117 L (.int 1 :: S) k n H Q := W_s (rfl : (pj lw).1 27 116 = some (.iconst 1, 1, 0)) rfl rfl rfl
theorem w27_117 {x y : Int32} : W (pj lw) 27 117 L (.int y :: .int x :: S) k n H Q ↔ W (pj lw) 27 118 L (.int (x &&& y) :: S) k n H Q := W_s (rfl : (pj lw).1 27 117 = some (.iand, 1, 0)) rfl rfl rfl
theorem w27_118 {x : Int32} : W (pj lw) 27 118 L (.int x :: S) k n H Q ↔ (if x = 0 then W (pj lw) 27 154 L S k n H Q else W (pj lw) 27 121 L S k n H Q) := W_if_eq (rfl : (pj lw).1 27 118 = some (.ifCond .eq 36, 3, 0)) rfl
theorem w27_121 {x : Nat} : W (pj lw) 27 121 (.val (.ref x) :: L) S k n H Q ↔ W (pj lw) 27 122 (.val (.ref x) :: L) (.ref x :: S) k n H Q := W_s (rfl : (pj lw).1 27 121 = some (.aload_n 0, 1, 0)) rfl rfl rfl
theorem w27_122 {x : Int32} {l0 l1 l2 l3 l4 l5 l6 l7 : Slot} : W (pj lw) 27 122 (l0 :: l1 :: l2 :: l3 :: l4 :: l5 :: l6 :: l7 :: .val (.int x) :: L) S k n H Q ↔ W (pj lw) 27 124 (l0 :: l1 :: l2 :: l3 :: l4 :: l5 :: l6 :: l7 :: .val (.int x) :: L) (.int x :: S) k n H Q := W_s (rfl : (pj lw).1 27 122 = some (.iload 8, 2, 0)) rfl rfl rfl
theorem w27_124 {a : Nat} {x0 : Int32} : W (pj lw) 27 124 L (.int x0 :: .ref a :: S) k n H Q ↔ ((isO H a = true ∧ cs S + (3 + 11) + 0 ≤ 19) ∧ Cl (pj lw) 24 [.ref a, .int x0] H (fun v H => W (pj lw) 27 127 L (v.toList ++ S) k n H Q)) := W_inst (as := [.int x0]) (rfl : (pj lw).1 27 124 = some (.invokevirtual 137, 3, 24)) rfl rfl rfl (Nat.le_of_ble_eq_true rfl) (Nat.le_of_ble_eq_true rfl) ⟨rfl, rfl⟩
theorem w27_127 {x : Int32} : W (pj lw) 27 127 L (.int x :: S) k n H Q ↔ (if x = 0 then W (pj lw) 27 154 L S k n H Q else W (pj lw) 27 130 L S k n H Q) := W_if_eq (rfl : (pj lw).1 27 127 = some (.ifCond .eq 27, 3, 0)) rfl
theorem w27_130 {x : Int32} {l0 l1 l2 l3 : Slot} : W (pj lw) 27 130 (l0 :: l1 :: l2 :: l3 :: .val (.int x) :: L) S k n H Q ↔ W (pj lw) 27 132 (l0 :: l1 :: l2 :: l3 :: .val (.int x) :: L) (.int x :: S) k n H Q := W_s (rfl : (pj lw).1 27 130 = some (.iload 4, 2, 0)) rfl rfl rfl
theorem w27_132 : W (pj lw) 27 132 L S k n H Q ↔ W (pj lw) 27 133 L (.int 1 :: S) k n H Q := W_s (rfl : (pj lw).1 27 132 = some (.iconst 1, 1, 0)) rfl rfl rfl
theorem w27_133 {x : Int32} {l0 l1 l2 l3 l4 l5 : Slot} : W (pj lw) 27 133 (l0 :: l1 :: l2 :: l3 :: l4 :: l5 :: .val (.int x) :: L) S k n H Q ↔ W (pj lw) 27 135 (l0 :: l1 :: l2 :: l3 :: l4 :: l5 :: .val (.int x) :: L) (.int x :: S) k n H Q := W_s (rfl : (pj lw).1 27 133 = some (.iload 6, 2, 0)) rfl rfl rfl
theorem w27_135 {x y : Int32} : W (pj lw) 27 135 L (.int y :: .int x :: S) k n H Q ↔ W (pj lw) 27 136 L (.int (x <<< (y &&& 31)) :: S) k n H Q := W_s (rfl : (pj lw).1 27 135 = some (.ishl, 1, 0)) rfl rfl rfl
theorem w27_136 {x y : Int32} : W (pj lw) 27 136 L (.int y :: .int x :: S) k n H Q ↔ W (pj lw) 27 137 L (.int (x ||| y) :: S) k n H Q := W_s (rfl : (pj lw).1 27 136 = some (.ior, 1, 0)) rfl rfl rfl
theorem w27_137i {y : Int32} {x : Int32} {l0 l1 l2 l3 : Slot} : W (pj lw) 27 137 (l0 :: l1 :: l2 :: l3 :: .val (.int y) :: L) (.int x :: S) k n H Q ↔ W (pj lw) 27 139 (l0 :: l1 :: l2 :: l3 :: .val (.int x) :: L) S k n H Q := W_ist (rfl : (pj lw).1 27 137 = some (.istore 4, 2, 0)) rfl rfl
theorem w27_139 {x : Int32} {l0 l1 l2 l3 l4 : Slot} : W (pj lw) 27 139 (l0 :: l1 :: l2 :: l3 :: l4 :: .val (.int x) :: L) S k n H Q ↔ W (pj lw) 27 141 (l0 :: l1 :: l2 :: l3 :: l4 :: .val (.int x) :: L) (.int x :: S) k n H Q := W_s (rfl : (pj lw).1 27 139 = some (.iload 5, 2, 0)) rfl rfl rfl
theorem w27_141 : W (pj lw) 27 141 L S k n H Q ↔ W (pj lw) 27 142 L (.int 1 :: S) k n H Q := W_s (rfl : (pj lw).1 27 141 = some (.iconst 1, 1, 0)) rfl rfl rfl
theorem w27_142 {x : Int32} {l0 l1 l2 l3 l4 l5 l6 : Slot} : W (pj lw) 27 142 (l0 :: l1 :: l2 :: l3 :: l4 :: l5 :: l6 :: .val (.int x) :: L) S k n H Q ↔ W (pj lw) 27 144 (l0 :: l1 :: l2 :: l3 :: l4 :: l5 :: l6 :: .val (.int x) :: L) (.int x :: S) k n H Q := W_s (rfl : (pj lw).1 27 142 = some (.iload 7, 2, 0)) rfl rfl rfl
theorem w27_144 {x y : Int32} : W (pj lw) 27 144 L (.int y :: .int x :: S) k n H Q ↔ W (pj lw) 27 145 L (.int (x <<< (y &&& 31)) :: S) k n H Q := W_s (rfl : (pj lw).1 27 144 = some (.ishl, 1, 0)) rfl rfl rfl
theorem w27_145 {x y : Int32} : W (pj lw) 27 145 L (.int y :: .int x :: S) k n H Q ↔ W (pj lw) 27 146 L (.int (x ||| y) :: S) k n H Q := W_s (rfl : (pj lw).1 27 145 = some (.ior, 1, 0)) rfl rfl rfl
theorem w27_146i {y : Int32} {x : Int32} {l0 l1 l2 l3 l4 : Slot} : W (pj lw) 27 146 (l0 :: l1 :: l2 :: l3 :: l4 :: .val (.int y) :: L) (.int x :: S) k n H Q ↔ W (pj lw) 27 148 (l0 :: l1 :: l2 :: l3 :: l4 :: .val (.int x) :: L) S k n H Q := W_ist (rfl : (pj lw).1 27 146 = some (.istore 5, 2, 0)) rfl rfl
theorem w27_148 {x : Nat} : W (pj lw) 27 148 (.val (.ref x) :: L) S k n H Q ↔ W (pj lw) 27 149 (.val (.ref x) :: L) (.ref x :: S) k n H Q := W_s (rfl : (pj lw).1 27 148 = some (.aload_n 0, 1, 0)) rfl rfl rfl
theorem w27_149 {x : Int32} {l0 l1 l2 l3 l4 l5 l6 l7 : Slot} : W (pj lw) 27 149 (l0 :: l1 :: l2 :: l3 :: l4 :: l5 :: l6 :: l7 :: .val (.int x) :: L) S k n H Q ↔ W (pj lw) 27 151 (l0 :: l1 :: l2 :: l3 :: l4 :: l5 :: l6 :: l7 :: .val (.int x) :: L) (.int x :: S) k n H Q := W_s (rfl : (pj lw).1 27 149 = some (.iload 8, 2, 0)) rfl rfl rfl
theorem w27_151 {a : Nat} {x0 : Int32} : W (pj lw) 27 151 L (.int x0 :: .ref a :: S) k n H Q ↔ ((isO H a = true ∧ cs S + (3 + 11) + 0 ≤ 19) ∧ Cl (pj lw) 25 [.ref a, .int x0] H (fun v H => W (pj lw) 27 154 L (v.toList ++ S) k n H Q)) := W_inst (as := [.int x0]) (rfl : (pj lw).1 27 151 = some (.invokevirtual 140, 3, 25)) rfl rfl rfl (Nat.le_of_ble_eq_true rfl) (Nat.le_of_ble_eq_true rfl) ⟨rfl, rfl⟩
theorem w27_154 {x : Int32} {l0 l1 l2 l3 l4 l5 l6 : Slot} : W (pj lw) 27 154 (l0 :: l1 :: l2 :: l3 :: l4 :: l5 :: l6 :: .val (.int x) :: L) S k n H Q ↔ W (pj lw) 27 157 (l0 :: l1 :: l2 :: l3 :: l4 :: l5 :: l6 :: .val (.int (x + 1)) :: L) S k n H Q := W_s (rfl : (pj lw).1 27 154 = some (.iinc 7 1, 3, 0)) rfl rfl rfl
theorem w27_157 : W (pj lw) 27 157 L S k n H Q ↔ W (pj lw) 27 83 L S k n H Q := W_goto (rfl : (pj lw).1 27 157 = some (.goto (-74), 3, 0)) rfl
theorem w27_160 {x : Int32} {l0 l1 l2 l3 l4 l5 : Slot} : W (pj lw) 27 160 (l0 :: l1 :: l2 :: l3 :: l4 :: l5 :: .val (.int x) :: L) S k n H Q ↔ W (pj lw) 27 163 (l0 :: l1 :: l2 :: l3 :: l4 :: l5 :: .val (.int (x + 1)) :: L) S k n H Q := W_s (rfl : (pj lw).1 27 160 = some (.iinc 6 1, 3, 0)) rfl rfl rfl
theorem w27_163 : W (pj lw) 27 163 L S k n H Q ↔ W (pj lw) 27 54 L S k n H Q := W_goto (rfl : (pj lw).1 27 163 = some (.goto (-109), 3, 0)) rfl
theorem w27_166 {x : Nat} : W (pj lw) 27 166 (.val (.ref x) :: L) S k n H Q ↔ W (pj lw) 27 167 (.val (.ref x) :: L) (.ref x :: S) k n H Q := W_s (rfl : (pj lw).1 27 166 = some (.aload_n 0, 1, 0)) rfl rfl rfl
theorem w27_167 {x : Int32} {l0 l1 : Slot} : W (pj lw) 27 167 (l0 :: l1 :: .val (.int x) :: L) S k n H Q ↔ W (pj lw) 27 168 (l0 :: l1 :: .val (.int x) :: L) (.int x :: S) k n H Q := W_s (rfl : (pj lw).1 27 167 = some (.iload_n 2, 1, 0)) rfl rfl rfl
theorem w27_168 {x : Int32} {l0 l1 l2 : Slot} : W (pj lw) 27 168 (l0 :: l1 :: l2 :: .val (.int x) :: L) S k n H Q ↔ W (pj lw) 27 169 (l0 :: l1 :: l2 :: .val (.int x) :: L) (.int x :: S) k n H Q := W_s (rfl : (pj lw).1 27 168 = some (.iload_n 3, 1, 0)) rfl rfl rfl
theorem w27_169 {x : Int32} {l0 l1 l2 l3 : Slot} : W (pj lw) 27 169 (l0 :: l1 :: l2 :: l3 :: .val (.int x) :: L) S k n H Q ↔ W (pj lw) 27 171 (l0 :: l1 :: l2 :: l3 :: .val (.int x) :: L) (.int x :: S) k n H Q := W_s (rfl : (pj lw).1 27 169 = some (.iload 4, 2, 0)) rfl rfl rfl
theorem w27_171 {x : Int32} {l0 l1 l2 l3 l4 : Slot} : W (pj lw) 27 171 (l0 :: l1 :: l2 :: l3 :: l4 :: .val (.int x) :: L) S k n H Q ↔ W (pj lw) 27 173 (l0 :: l1 :: l2 :: l3 :: l4 :: .val (.int x) :: L) (.int x :: S) k n H Q := W_s (rfl : (pj lw).1 27 171 = some (.iload 5, 2, 0)) rfl rfl rfl
theorem w27_173 {a : Nat} {x0 : Int32} {x1 : Int32} {x2 : Int32} {x3 : Int32} : W (pj lw) 27 173 L (.int x3 :: .int x2 :: .int x1 :: .int x0 :: .ref a :: S) k n H Q ↔ ((isO H a = true ∧ cs S + (8 + 11) + 0 ≤ 19) ∧ Cl (pj lw) 28 [.ref a, .int x0, .int x1, .int x2, .int x3] H (fun v H => W (pj lw) 27 176 L (v.toList ++ S) k n H Q)) := W_inst (as := [.int x0, .int x1, .int x2, .int x3]) (rfl : (pj lw).1 27 173 = some (.invokevirtual 143, 3, 28)) rfl rfl rfl (Nat.le_of_ble_eq_true rfl) (Nat.le_of_ble_eq_true rfl) ⟨rfl, rfl⟩
theorem w27_176 {x : Int32} : W (pj lw) 27 176 L (.int x :: S) k n H Q ↔ ((x = 0 ∨ x = 1) ∧ Q (some (.int x)) H) := W_rz (rfl : (pj lw).1 27 176 = some (.ireturn, 1, 0)) rfl
theorem c28 {x0 : Nat} {x1 : Int32} {x2 : Int32} {x3 : Int32} {x4 : Int32} : Cl (pj lw) 28 [.ref x0, .int x1, .int x2, .int x3, .int x4] H Q ↔ W (pj lw) 28 0 [.val (.ref x0), .val (.int x1), .val (.int x2), .val (.int x3), .val (.int x4), .unset, .unset, .unset] [] 0 0 H Q := cl_unf rfl
theorem w28_0 : W (pj lw) 28 0 L S k n H Q ↔ W (pj lw) 28 1 L (.int 0 :: S) k n H Q := W_s (rfl : (pj lw).1 28 0 = some (.iconst 0, 1, 0)) rfl rfl rfl
theorem w28_1 {x : Int32} {l0 l1 l2 l3 l4 : Slot} : W (pj lw) 28 1 (l0 :: l1 :: l2 :: l3 :: l4 :: .unset :: L) (.int x :: S) k n H Q ↔ W (pj lw) 28 3 (l0 :: l1 :: l2 :: l3 :: l4 :: .val (.int x) :: L) S k n H Q := W_ist (rfl : (pj lw).1 28 1 = some (.istore 5, 2, 0)) rfl rfl
theorem w28_3 {x : Nat} : W (pj lw) 28 3 (.val (.ref x) :: L) S k n H Q ↔ W (pj lw) 28 4 (.val (.ref x) :: L) (.ref x :: S) k n H Q := W_s (rfl : (pj lw).1 28 3 = some (.aload_n 0, 1, 0)) rfl rfl rfl
theorem w28_4 {a : Nat} : W (pj lw) 28 4 L (.ref a :: S) k n H Q ↔ (isO H a = true ∧ W (pj lw) 28 7 L (fld H a 11 :: S) k n H Q) := W_getf (rfl : (pj lw).1 28 4 = some (.getfield 28, 3, 11))
theorem w28_7 {x : Int32} {l0 : Slot} : W (pj lw) 28 7 (l0 :: .val (.int x) :: L) S k n H Q ↔ W (pj lw) 28 8 (l0 :: .val (.int x) :: L) (.int x :: S) k n H Q := W_s (rfl : (pj lw).1 28 7 = some (.iload_n 1, 1, 0)) rfl rfl rfl
theorem w28_8 {i : Int32} {a : Nat} : W (pj lw) 28 8 L (.int i :: .ref a :: S) k n H Q ↔ (inA H a .int i = true ∧ W (pj lw) 28 9 L (elt H a i :: S) k n H Q) := W_iaload (rfl : (pj lw).1 28 8 = some (.iaload, 1, 0))
theorem w28_9 {x : Int32} {l0 l1 l2 : Slot} : W (pj lw) 28 9 (l0 :: l1 :: l2 :: .val (.int x) :: L) S k n H Q ↔ W (pj lw) 28 10 (l0 :: l1 :: l2 :: .val (.int x) :: L) (.int x :: S) k n H Q := W_s (rfl : (pj lw).1 28 9 = some (.iload_n 3, 1, 0)) rfl rfl rfl
theorem w28_10 {x y : Int32} : W (pj lw) 28 10 L (.int y :: .int x :: S) k n H Q ↔ W (pj lw) 28 11 L (.int (x &&& y) :: S) k n H Q := W_s (rfl : (pj lw).1 28 10 = some (.iand, 1, 0)) rfl rfl rfl
theorem w28_11 {x : Nat} : W (pj lw) 28 11 (.val (.ref x) :: L) S k n H Q ↔ W (pj lw) 28 12 (.val (.ref x) :: L) (.ref x :: S) k n H Q := W_s (rfl : (pj lw).1 28 11 = some (.aload_n 0, 1, 0)) rfl rfl rfl
theorem w28_12 {a : Nat} : W (pj lw) 28 12 L (.ref a :: S) k n H Q ↔ (isO H a = true ∧ W (pj lw) 28 15 L (fld H a 11 :: S) k n H Q) := W_getf (rfl : (pj lw).1 28 12 = some (.getfield 28, 3, 11))
theorem w28_15 {x : Int32} {l0 : Slot} : W (pj lw) 28 15 (l0 :: .val (.int x) :: L) S k n H Q ↔ W (pj lw) 28 16 (l0 :: .val (.int x) :: L) (.int x :: S) k n H Q := W_s (rfl : (pj lw).1 28 15 = some (.iload_n 1, 1, 0)) rfl rfl rfl
theorem w28_16 {i : Int32} {a : Nat} : W (pj lw) 28 16 L (.int i :: .ref a :: S) k n H Q ↔ (inA H a .int i = true ∧ W (pj lw) 28 17 L (elt H a i :: S) k n H Q) := W_iaload (rfl : (pj lw).1 28 16 = some (.iaload, 1, 0))
theorem w28_17 {x y : Int32} : W (pj lw) 28 17 L (.int y :: .int x :: S) k n H Q ↔ (if x = y then W (pj lw) 28 33 L S k n H Q else W (pj lw) 28 20 L S k n H Q) := W_icmp_eq (rfl : (pj lw).1 28 17 = some (.if_icmp .eq 16, 3, 0)) rfl
theorem w28_20 {x : Nat} : W (pj lw) 28 20 (.val (.ref x) :: L) S k n H Q ↔ W (pj lw) 28 21 (.val (.ref x) :: L) (.ref x :: S) k n H Q := W_s (rfl : (pj lw).1 28 20 = some (.aload_n 0, 1, 0)) rfl rfl rfl
theorem w28_21 {a : Nat} : W (pj lw) 28 21 L (.ref a :: S) k n H Q ↔ (isO H a = true ∧ W (pj lw) 28 24 L (fld H a 11 :: S) k n H Q) := W_getf (rfl : (pj lw).1 28 21 = some (.getfield 28, 3, 11))
theorem w28_24 {x : Int32} {l0 : Slot} : W (pj lw) 28 24 (l0 :: .val (.int x) :: L) S k n H Q ↔ W (pj lw) 28 25 (l0 :: .val (.int x) :: L) (.int x :: S) k n H Q := W_s (rfl : (pj lw).1 28 24 = some (.iload_n 1, 1, 0)) rfl rfl rfl
theorem w28_25 {x : Int32} {y : Nat} : W (pj lw) 28 25 L (.int x :: .ref y :: S) k n H Q ↔ W (pj lw) 28 26 L (.int x :: .ref y :: .int x :: .ref y :: S) k n H Q := W_s (rfl : (pj lw).1 28 25 = some (.dup2, 1, 0)) rfl rfl rfl
theorem w28_26 {i : Int32} {a : Nat} : W (pj lw) 28 26 L (.int i :: .ref a :: S) k n H Q ↔ (inA H a .int i = true ∧ W (pj lw) 28 27 L (elt H a i :: S) k n H Q) := W_iaload (rfl : (pj lw).1 28 26 = some (.iaload, 1, 0))
theorem w28_27 {x : Int32} {l0 l1 l2 : Slot} : W (pj lw) 28 27 (l0 :: l1 :: l2 :: .val (.int x) :: L) S k n H Q ↔ W (pj lw) 28 28 (l0 :: l1 :: l2 :: .val (.int x) :: L) (.int x :: S) k n H Q := W_s (rfl : (pj lw).1 28 27 = some (.iload_n 3, 1, 0)) rfl rfl rfl
theorem w28_28 {x y : Int32} : W (pj lw) 28 28 L (.int y :: .int x :: S) k n H Q ↔ W (pj lw) 28 29 L (.int (x &&& y) :: S) k n H Q := W_s (rfl : (pj lw).1 28 28 = some (.iand, 1, 0)) rfl rfl rfl
theorem w28_29 {x i : Int32} {a : Nat} : W (pj lw) 28 29 L (.int x :: .int i :: .ref a :: S) k n H Q ↔ (inAw H a .int i = true ∧ W (pj lw) 28 30 L S k n (wr H a i.toNatClampNeg (.int x)) Q) := W_iastore (rfl : (pj lw).1 28 29 = some (.iastore, 1, 0))
theorem w28_30 : W (pj lw) 28 30 L S k n H Q ↔ W (pj lw) 28 31 L (.int 1 :: S) k n H Q := W_s (rfl : (pj lw).1 28 30 = some (.iconst 1, 1, 0)) rfl rfl rfl
theorem w28_31i {y : Int32} {x : Int32} {l0 l1 l2 l3 l4 : Slot} : W (pj lw) 28 31 (l0 :: l1 :: l2 :: l3 :: l4 :: .val (.int y) :: L) (.int x :: S) k n H Q ↔ W (pj lw) 28 33 (l0 :: l1 :: l2 :: l3 :: l4 :: .val (.int x) :: L) S k n H Q := W_ist (rfl : (pj lw).1 28 31 = some (.istore 5, 2, 0)) rfl rfl
theorem w28_33 {x : Nat} : W (pj lw) 28 33 (.val (.ref x) :: L) S k n H Q ↔ W (pj lw) 28 34 (.val (.ref x) :: L) (.ref x :: S) k n H Q := W_s (rfl : (pj lw).1 28 33 = some (.aload_n 0, 1, 0)) rfl rfl rfl
theorem w28_34 {a : Nat} : W (pj lw) 28 34 L (.ref a :: S) k n H Q ↔ (isO H a = true ∧ W (pj lw) 28 37 L (fld H a 11 :: S) k n H Q) := W_getf (rfl : (pj lw).1 28 34 = some (.getfield 28, 3, 11))
theorem w28_37 {x : Int32} {l0 l1 : Slot} : W (pj lw) 28 37 (l0 :: l1 :: .val (.int x) :: L) S k n H Q ↔ W (pj lw) 28 38 (l0 :: l1 :: .val (.int x) :: L) (.int x :: S) k n H Q := W_s (rfl : (pj lw).1 28 37 = some (.iload_n 2, 1, 0)) rfl rfl rfl
theorem w28_38 {i : Int32} {a : Nat} : W (pj lw) 28 38 L (.int i :: .ref a :: S) k n H Q ↔ (inA H a .int i = true ∧ W (pj lw) 28 39 L (elt H a i :: S) k n H Q) := W_iaload (rfl : (pj lw).1 28 38 = some (.iaload, 1, 0))
theorem w28_39 {x : Int32} {l0 l1 l2 l3 : Slot} : W (pj lw) 28 39 (l0 :: l1 :: l2 :: l3 :: .val (.int x) :: L) S k n H Q ↔ W (pj lw) 28 41 (l0 :: l1 :: l2 :: l3 :: .val (.int x) :: L) (.int x :: S) k n H Q := W_s (rfl : (pj lw).1 28 39 = some (.iload 4, 2, 0)) rfl rfl rfl
theorem w28_41 {x y : Int32} : W (pj lw) 28 41 L (.int y :: .int x :: S) k n H Q ↔ W (pj lw) 28 42 L (.int (x &&& y) :: S) k n H Q := W_s (rfl : (pj lw).1 28 41 = some (.iand, 1, 0)) rfl rfl rfl
theorem w28_42 {x : Nat} : W (pj lw) 28 42 (.val (.ref x) :: L) S k n H Q ↔ W (pj lw) 28 43 (.val (.ref x) :: L) (.ref x :: S) k n H Q := W_s (rfl : (pj lw).1 28 42 = some (.aload_n 0, 1, 0)) rfl rfl rfl
theorem w28_43 {a : Nat} : W (pj lw) 28 43 L (.ref a :: S) k n H Q ↔ (isO H a = true ∧ W (pj lw) 28 46 L (fld H a 11 :: S) k n H Q) := W_getf (rfl : (pj lw).1 28 43 = some (.getfield 28, 3, 11))
theorem w28_46 {x : Int32} {l0 l1 : Slot} : W (pj lw) 28 46 (l0 :: l1 :: .val (.int x) :: L) S k n H Q ↔ W (pj lw) 28 47 (l0 :: l1 :: .val (.int x) :: L) (.int x :: S) k n H Q := W_s (rfl : (pj lw).1 28 46 = some (.iload_n 2, 1, 0)) rfl rfl rfl
theorem w28_47 {i : Int32} {a : Nat} : W (pj lw) 28 47 L (.int i :: .ref a :: S) k n H Q ↔ (inA H a .int i = true ∧ W (pj lw) 28 48 L (elt H a i :: S) k n H Q) := W_iaload (rfl : (pj lw).1 28 47 = some (.iaload, 1, 0))
theorem w28_48 {x y : Int32} : W (pj lw) 28 48 L (.int y :: .int x :: S) k n H Q ↔ (if x = y then W (pj lw) 28 65 L S k n H Q else W (pj lw) 28 51 L S k n H Q) := W_icmp_eq (rfl : (pj lw).1 28 48 = some (.if_icmp .eq 17, 3, 0)) rfl
theorem w28_51 {x : Nat} : W (pj lw) 28 51 (.val (.ref x) :: L) S k n H Q ↔ W (pj lw) 28 52 (.val (.ref x) :: L) (.ref x :: S) k n H Q := W_s (rfl : (pj lw).1 28 51 = some (.aload_n 0, 1, 0)) rfl rfl rfl
theorem w28_52 {a : Nat} : W (pj lw) 28 52 L (.ref a :: S) k n H Q ↔ (isO H a = true ∧ W (pj lw) 28 55 L (fld H a 11 :: S) k n H Q) := W_getf (rfl : (pj lw).1 28 52 = some (.getfield 28, 3, 11))
theorem w28_55 {x : Int32} {l0 l1 : Slot} : W (pj lw) 28 55 (l0 :: l1 :: .val (.int x) :: L) S k n H Q ↔ W (pj lw) 28 56 (l0 :: l1 :: .val (.int x) :: L) (.int x :: S) k n H Q := W_s (rfl : (pj lw).1 28 55 = some (.iload_n 2, 1, 0)) rfl rfl rfl
theorem w28_56 {x : Int32} {y : Nat} : W (pj lw) 28 56 L (.int x :: .ref y :: S) k n H Q ↔ W (pj lw) 28 57 L (.int x :: .ref y :: .int x :: .ref y :: S) k n H Q := W_s (rfl : (pj lw).1 28 56 = some (.dup2, 1, 0)) rfl rfl rfl
theorem w28_57 {i : Int32} {a : Nat} : W (pj lw) 28 57 L (.int i :: .ref a :: S) k n H Q ↔ (inA H a .int i = true ∧ W (pj lw) 28 58 L (elt H a i :: S) k n H Q) := W_iaload (rfl : (pj lw).1 28 57 = some (.iaload, 1, 0))
theorem w28_58 {x : Int32} {l0 l1 l2 l3 : Slot} : W (pj lw) 28 58 (l0 :: l1 :: l2 :: l3 :: .val (.int x) :: L) S k n H Q ↔ W (pj lw) 28 60 (l0 :: l1 :: l2 :: l3 :: .val (.int x) :: L) (.int x :: S) k n H Q := W_s (rfl : (pj lw).1 28 58 = some (.iload 4, 2, 0)) rfl rfl rfl
theorem w28_60 {x y : Int32} : W (pj lw) 28 60 L (.int y :: .int x :: S) k n H Q ↔ W (pj lw) 28 61 L (.int (x &&& y) :: S) k n H Q := W_s (rfl : (pj lw).1 28 60 = some (.iand, 1, 0)) rfl rfl rfl
theorem w28_61 {x i : Int32} {a : Nat} : W (pj lw) 28 61 L (.int x :: .int i :: .ref a :: S) k n H Q ↔ (inAw H a .int i = true ∧ W (pj lw) 28 62 L S k n (wr H a i.toNatClampNeg (.int x)) Q) := W_iastore (rfl : (pj lw).1 28 61 = some (.iastore, 1, 0))
theorem w28_62 : W (pj lw) 28 62 L S k n H Q ↔ W (pj lw) 28 63 L (.int 1 :: S) k n H Q := W_s (rfl : (pj lw).1 28 62 = some (.iconst 1, 1, 0)) rfl rfl rfl
theorem w28_63i {y : Int32} {x : Int32} {l0 l1 l2 l3 l4 : Slot} : W (pj lw) 28 63 (l0 :: l1 :: l2 :: l3 :: l4 :: .val (.int y) :: L) (.int x :: S) k n H Q ↔ W (pj lw) 28 65 (l0 :: l1 :: l2 :: l3 :: l4 :: .val (.int x) :: L) S k n H Q := W_ist (rfl : (pj lw).1 28 63 = some (.istore 5, 2, 0)) rfl rfl
theorem w28_65 : W (pj lw) 28 65 L S k n H Q ↔ W (pj lw) 28 66 L (.int 0 :: S) k n H Q := W_s (rfl : (pj lw).1 28 65 = some (.iconst 0, 1, 0)) rfl rfl rfl
theorem w28_66 {x : Int32} {l0 l1 l2 l3 l4 l5 : Slot} : W (pj lw) 28 66 (l0 :: l1 :: l2 :: l3 :: l4 :: l5 :: .unset :: L) (.int x :: S) k n H Q ↔ W (pj lw) 28 68 (l0 :: l1 :: l2 :: l3 :: l4 :: l5 :: .val (.int x) :: L) S k n H Q := W_ist (rfl : (pj lw).1 28 66 = some (.istore 6, 2, 0)) rfl rfl
theorem w28_68 {x : Int32} {l0 l1 l2 l3 l4 l5 : Slot} : W (pj lw) 28 68 (l0 :: l1 :: l2 :: l3 :: l4 :: l5 :: .val (.int x) :: L) S k n H Q ↔ W (pj lw) 28 70 (l0 :: l1 :: l2 :: l3 :: l4 :: l5 :: .val (.int x) :: L) (.int x :: S) k n H Q := W_s (rfl : (pj lw).1 28 68 = some (.iload 6, 2, 0)) rfl rfl rfl
theorem w28_70 {x : Nat} : W (pj lw) 28 70 (.val (.ref x) :: L) S k n H Q ↔ W (pj lw) 28 71 (.val (.ref x) :: L) (.ref x :: S) k n H Q := W_s (rfl : (pj lw).1 28 70 = some (.aload_n 0, 1, 0)) rfl rfl rfl
theorem w28_71 {a : Nat} : W (pj lw) 28 71 L (.ref a :: S) k n H Q ↔ (isO H a = true ∧ W (pj lw) 28 74 L (fld H a 22 :: S) k n H Q) := W_getf (rfl : (pj lw).1 28 71 = some (.getfield 82, 3, 22))
theorem w28_74 {x y : Int32} : W (pj lw) 28 74 L (.int y :: .int x :: S) k n H Q ↔ (if x < y then W (pj lw) 28 77 L S k n H Q else W (pj lw) 28 137 L S k n H Q) := W_icmp_ge (rfl : (pj lw).1 28 74 = some (.if_icmp .ge 63, 3, 0)) rfl
theorem w28_77 {x : Nat} : W (pj lw) 28 77 (.val (.ref x) :: L) S k n H Q ↔ W (pj lw) 28 78 (.val (.ref x) :: L) (.ref x :: S) k n H Q := W_s (rfl : (pj lw).1 28 77 = some (.aload_n 0, 1, 0)) rfl rfl rfl
theorem w28_78 {a : Nat} : W (pj lw) 28 78 L (.ref a :: S) k n H Q ↔ (isO H a = true ∧ W (pj lw) 28 81 L (fld H a 20 :: S) k n H Q) := W_getf (rfl : (pj lw).1 28 78 = some (.getfield 43, 3, 20))
theorem w28_81 {x : Int32} {l0 l1 l2 l3 l4 l5 : Slot} : W (pj lw) 28 81 (l0 :: l1 :: l2 :: l3 :: l4 :: l5 :: .val (.int x) :: L) S k n H Q ↔ W (pj lw) 28 83 (l0 :: l1 :: l2 :: l3 :: l4 :: l5 :: .val (.int x) :: L) (.int x :: S) k n H Q := W_s (rfl : (pj lw).1 28 81 = some (.iload 6, 2, 0)) rfl rfl rfl
theorem w28_83 {i : Int32} {a : Nat} : W (pj lw) 28 83 L (.int i :: .ref a :: S) k n H Q ↔ (inA H a .int i = true ∧ W (pj lw) 28 84 L (elt H a i :: S) k n H Q) := W_iaload (rfl : (pj lw).1 28 83 = some (.iaload, 1, 0))
theorem w28_84i {y : Int32} {x : Int32} {l0 l1 l2 l3 l4 l5 l6 : Slot} : W (pj lw) 28 84 (l0 :: l1 :: l2 :: l3 :: l4 :: l5 :: l6 :: .val (.int y) :: L) (.int x :: S) k n H Q ↔ W (pj lw) 28 86 (l0 :: l1 :: l2 :: l3 :: l4 :: l5 :: l6 :: .val (.int x) :: L) S k n H Q := W_ist (rfl : (pj lw).1 28 84 = some (.istore 7, 2, 0)) rfl rfl
theorem w28_84 {x : Int32} {l0 l1 l2 l3 l4 l5 l6 : Slot} : W (pj lw) 28 84 (l0 :: l1 :: l2 :: l3 :: l4 :: l5 :: l6 :: .unset :: L) (.int x :: S) k n H Q ↔ W (pj lw) 28 86 (l0 :: l1 :: l2 :: l3 :: l4 :: l5 :: l6 :: .val (.int x) :: L) S k n H Q := W_ist (rfl : (pj lw).1 28 84 = some (.istore 7, 2, 0)) rfl rfl
theorem w28_86 {x : Nat} : W (pj lw) 28 86 (.val (.ref x) :: L) S k n H Q ↔ W (pj lw) 28 87 (.val (.ref x) :: L) (.ref x :: S) k n H Q := W_s (rfl : (pj lw).1 28 86 = some (.aload_n 0, 1, 0)) rfl rfl rfl
theorem w28_87 {a : Nat} : W (pj lw) 28 87 L (.ref a :: S) k n H Q ↔ (isO H a = true ∧ W (pj lw) 28 90 L (fld H a 11 :: S) k n H Q) := W_getf (rfl : (pj lw).1 28 87 = some (.getfield 28, 3, 11))
theorem w28_90 {x : Int32} {l0 l1 l2 l3 l4 l5 l6 : Slot} : W (pj lw) 28 90 (l0 :: l1 :: l2 :: l3 :: l4 :: l5 :: l6 :: .val (.int x) :: L) S k n H Q ↔ W (pj lw) 28 92 (l0 :: l1 :: l2 :: l3 :: l4 :: l5 :: l6 :: .val (.int x) :: L) (.int x :: S) k n H Q := W_s (rfl : (pj lw).1 28 90 = some (.iload 7, 2, 0)) rfl rfl rfl
theorem w28_92 {i : Int32} {a : Nat} : W (pj lw) 28 92 L (.int i :: .ref a :: S) k n H Q ↔ (inA H a .int i = true ∧ W (pj lw) 28 93 L (elt H a i :: S) k n H Q) := W_iaload (rfl : (pj lw).1 28 92 = some (.iaload, 1, 0))
theorem w28_93 {x : Nat} : W (pj lw) 28 93 (.val (.ref x) :: L) S k n H Q ↔ W (pj lw) 28 94 (.val (.ref x) :: L) (.ref x :: S) k n H Q := W_s (rfl : (pj lw).1 28 93 = some (.aload_n 0, 1, 0)) rfl rfl rfl
theorem w28_94 {a : Nat} : W (pj lw) 28 94 L (.ref a :: S) k n H Q ↔ (isO H a = true ∧ W (pj lw) 28 97 L (fld H a 21 :: S) k n H Q) := W_getf (rfl : (pj lw).1 28 94 = some (.getfield 46, 3, 21))
theorem w28_97 {x : Int32} {l0 l1 l2 l3 l4 l5 : Slot} : W (pj lw) 28 97 (l0 :: l1 :: l2 :: l3 :: l4 :: l5 :: .val (.int x) :: L) S k n H Q ↔ W (pj lw) 28 99 (l0 :: l1 :: l2 :: l3 :: l4 :: l5 :: .val (.int x) :: L) (.int x :: S) k n H Q := W_s (rfl : (pj lw).1 28 97 = some (.iload 6, 2, 0)) rfl rfl rfl
theorem w28_99 {i : Int32} {a : Nat} : W (pj lw) 28 99 L (.int i :: .ref a :: S) k n H Q ↔ (inA H a .int i = true ∧ W (pj lw) 28 100 L (elt H a i :: S) k n H Q) := W_iaload (rfl : (pj lw).1 28 99 = some (.iaload, 1, 0))
theorem w28_100 {x y : Int32} : W (pj lw) 28 100 L (.int y :: .int x :: S) k n H Q ↔ W (pj lw) 28 101 L (.int (x &&& y) :: S) k n H Q := W_s (rfl : (pj lw).1 28 100 = some (.iand, 1, 0)) rfl rfl rfl
theorem w28_101 {x : Nat} : W (pj lw) 28 101 (.val (.ref x) :: L) S k n H Q ↔ W (pj lw) 28 102 (.val (.ref x) :: L) (.ref x :: S) k n H Q := W_s (rfl : (pj lw).1 28 101 = some (.aload_n 0, 1, 0)) rfl rfl rfl
theorem w28_102 {a : Nat} : W (pj lw) 28 102 L (.ref a :: S) k n H Q ↔ (isO H a = true ∧ W (pj lw) 28 105 L (fld H a 11 :: S) k n H Q) := W_getf (rfl : (pj lw).1 28 102 = some (.getfield 28, 3, 11))
theorem w28_105 {x : Int32} {l0 l1 l2 l3 l4 l5 l6 : Slot} : W (pj lw) 28 105 (l0 :: l1 :: l2 :: l3 :: l4 :: l5 :: l6 :: .val (.int x) :: L) S k n H Q ↔ W (pj lw) 28 107 (l0 :: l1 :: l2 :: l3 :: l4 :: l5 :: l6 :: .val (.int x) :: L) (.int x :: S) k n H Q := W_s (rfl : (pj lw).1 28 105 = some (.iload 7, 2, 0)) rfl rfl rfl
theorem w28_107 {i : Int32} {a : Nat} : W (pj lw) 28 107 L (.int i :: .ref a :: S) k n H Q ↔ (inA H a .int i = true ∧ W (pj lw) 28 108 L (elt H a i :: S) k n H Q) := W_iaload (rfl : (pj lw).1 28 107 = some (.iaload, 1, 0))
theorem w28_108 {x y : Int32} : W (pj lw) 28 108 L (.int y :: .int x :: S) k n H Q ↔ (if x = y then W (pj lw) 28 131 L S k n H Q else W (pj lw) 28 111 L S k n H Q) := W_icmp_eq (rfl : (pj lw).1 28 108 = some (.if_icmp .eq 23, 3, 0)) rfl
theorem w28_111 {x : Nat} : W (pj lw) 28 111 (.val (.ref x) :: L) S k n H Q ↔ W (pj lw) 28 112 (.val (.ref x) :: L) (.ref x :: S) k n H Q := W_s (rfl : (pj lw).1 28 111 = some (.aload_n 0, 1, 0)) rfl rfl rfl
theorem w28_112 {a : Nat} : W (pj lw) 28 112 L (.ref a :: S) k n H Q ↔ (isO H a = true ∧ W (pj lw) 28 115 L (fld H a 11 :: S) k n H Q) := W_getf (rfl : (pj lw).1 28 112 = some (.getfield 28, 3, 11))
theorem w28_115 {x : Int32} {l0 l1 l2 l3 l4 l5 l6 : Slot} : W (pj lw) 28 115 (l0 :: l1 :: l2 :: l3 :: l4 :: l5 :: l6 :: .val (.int x) :: L) S k n H Q ↔ W (pj lw) 28 117 (l0 :: l1 :: l2 :: l3 :: l4 :: l5 :: l6 :: .val (.int x) :: L) (.int x :: S) k n H Q := W_s (rfl : (pj lw).1 28 115 = some (.iload 7, 2, 0)) rfl rfl rfl
theorem w28_117 {x : Int32} {y : Nat} : W (pj lw) 28 117 L (.int x :: .ref y :: S) k n H Q ↔ W (pj lw) 28 118 L (.int x :: .ref y :: .int x :: .ref y :: S) k n H Q := W_s (rfl : (pj lw).1 28 117 = some (.dup2, 1, 0)) rfl rfl rfl
theorem w28_118 {i : Int32} {a : Nat} : W (pj lw) 28 118 L (.int i :: .ref a :: S) k n H Q ↔ (inA H a .int i = true ∧ W (pj lw) 28 119 L (elt H a i :: S) k n H Q) := W_iaload (rfl : (pj lw).1 28 118 = some (.iaload, 1, 0))
theorem w28_119 {x : Nat} : W (pj lw) 28 119 (.val (.ref x) :: L) S k n H Q ↔ W (pj lw) 28 120 (.val (.ref x) :: L) (.ref x :: S) k n H Q := W_s (rfl : (pj lw).1 28 119 = some (.aload_n 0, 1, 0)) rfl rfl rfl
theorem w28_120 {a : Nat} : W (pj lw) 28 120 L (.ref a :: S) k n H Q ↔ (isO H a = true ∧ W (pj lw) 28 123 L (fld H a 21 :: S) k n H Q) := W_getf (rfl : (pj lw).1 28 120 = some (.getfield 46, 3, 21))
theorem w28_123 {x : Int32} {l0 l1 l2 l3 l4 l5 : Slot} : W (pj lw) 28 123 (l0 :: l1 :: l2 :: l3 :: l4 :: l5 :: .val (.int x) :: L) S k n H Q ↔ W (pj lw) 28 125 (l0 :: l1 :: l2 :: l3 :: l4 :: l5 :: .val (.int x) :: L) (.int x :: S) k n H Q := W_s (rfl : (pj lw).1 28 123 = some (.iload 6, 2, 0)) rfl rfl rfl
theorem w28_125 {i : Int32} {a : Nat} : W (pj lw) 28 125 L (.int i :: .ref a :: S) k n H Q ↔ (inA H a .int i = true ∧ W (pj lw) 28 126 L (elt H a i :: S) k n H Q) := W_iaload (rfl : (pj lw).1 28 125 = some (.iaload, 1, 0))
theorem w28_126 {x y : Int32} : W (pj lw) 28 126 L (.int y :: .int x :: S) k n H Q ↔ W (pj lw) 28 127 L (.int (x &&& y) :: S) k n H Q := W_s (rfl : (pj lw).1 28 126 = some (.iand, 1, 0)) rfl rfl rfl
theorem w28_127 {x i : Int32} {a : Nat} : W (pj lw) 28 127 L (.int x :: .int i :: .ref a :: S) k n H Q ↔ (inAw H a .int i = true ∧ W (pj lw) 28 128 L S k n (wr H a i.toNatClampNeg (.int x)) Q) := W_iastore (rfl : (pj lw).1 28 127 = some (.iastore, 1, 0))
theorem w28_128 : W (pj lw) 28 128 L S k n H Q ↔ W (pj lw) 28 129 L (.int 1 :: S) k n H Q := W_s (rfl : (pj lw).1 28 128 = some (.iconst 1, 1, 0)) rfl rfl rfl
theorem w28_129i {y : Int32} {x : Int32} {l0 l1 l2 l3 l4 : Slot} : W (pj lw) 28 129 (l0 :: l1 :: l2 :: l3 :: l4 :: .val (.int y) :: L) (.int x :: S) k n H Q ↔ W (pj lw) 28 131 (l0 :: l1 :: l2 :: l3 :: l4 :: .val (.int x) :: L) S k n H Q := W_ist (rfl : (pj lw).1 28 129 = some (.istore 5, 2, 0)) rfl rfl
theorem w28_131 {x : Int32} {l0 l1 l2 l3 l4 l5 : Slot} : W (pj lw) 28 131 (l0 :: l1 :: l2 :: l3 :: l4 :: l5 :: .val (.int x) :: L) S k n H Q ↔ W (pj lw) 28 134 (l0 :: l1 :: l2 :: l3 :: l4 :: l5 :: .val (.int (x + 1)) :: L) S k n H Q := W_s (rfl : (pj lw).1 28 131 = some (.iinc 6 1, 3, 0)) rfl rfl rfl
theorem w28_134 : W (pj lw) 28 134 L S k n H Q ↔ W (pj lw) 28 68 L S k n H Q := W_goto (rfl : (pj lw).1 28 134 = some (.goto (-66), 3, 0)) rfl
theorem w28_137 {x : Int32} {l0 l1 l2 l3 l4 : Slot} : W (pj lw) 28 137 (l0 :: l1 :: l2 :: l3 :: l4 :: .val (.int x) :: L) S k n H Q ↔ W (pj lw) 28 139 (l0 :: l1 :: l2 :: l3 :: l4 :: .val (.int x) :: L) (.int x :: S) k n H Q := W_s (rfl : (pj lw).1 28 137 = some (.iload 5, 2, 0)) rfl rfl rfl
theorem w28_139 {x : Int32} : W (pj lw) 28 139 L (.int x :: S) k n H Q ↔ ((x = 0 ∨ x = 1) ∧ Q (some (.int x)) H) := W_rz (rfl : (pj lw).1 28 139 = some (.ireturn, 1, 0)) rfl
theorem c29 {x0 : Nat} : Cl (pj lw) 29 [.ref x0] H Q ↔ W (pj lw) 29 0 [.val (.ref x0)] [] 0 0 H Q := cl_unf rfl
theorem w29_0 {x : Nat} : W (pj lw) 29 0 (.val (.ref x) :: L) S k n H Q ↔ W (pj lw) 29 1 (.val (.ref x) :: L) (.ref x :: S) k n H Q := W_s (rfl : (pj lw).1 29 0 = some (.aload_n 0, 1, 0)) rfl rfl rfl
theorem w29_1 {a : Nat} : W (pj lw) 29 1 L (.ref a :: S) k n H Q ↔ (isO H a = true ∧ W (pj lw) 29 4 L (fld H a 13 :: S) k n H Q) := W_getf (rfl : (pj lw).1 29 1 = some (.getfield 73, 3, 13))
theorem w29_4 {x : Int32} : W (pj lw) 29 4 L (.int x :: S) k n H Q ↔ (if x = 0 then W (pj lw) 29 14 L S k n H Q else W (pj lw) 29 7 L S k n H Q) := W_if_eq (rfl : (pj lw).1 29 4 = some (.ifCond .eq 10, 3, 0)) rfl
theorem w29_7 {x : Nat} : W (pj lw) 29 7 (.val (.ref x) :: L) S k n H Q ↔ W (pj lw) 29 8 (.val (.ref x) :: L) (.ref x :: S) k n H Q := W_s (rfl : (pj lw).1 29 7 = some (.aload_n 0, 1, 0)) rfl rfl rfl
theorem w29_8 {a : Nat} : W (pj lw) 29 8 L (.ref a :: S) k n H Q ↔ (isO H a = true ∧ W (pj lw) 29 11 L (fld H a 14 :: S) k n H Q) := W_getf (rfl : (pj lw).1 29 8 = some (.getfield 76, 3, 14))
theorem w29_11 : W (pj lw) 29 11 L S k n H Q ↔ W (pj lw) 29 15 L S k n H Q := W_goto (rfl : (pj lw).1 29 11 = some (.goto 4, 3, 0)) rfl
theorem w29_14 : W (pj lw) 29 14 L S k n H Q ↔ W (pj lw) 29 15 L (.int 0 :: S) k n H Q := W_s (rfl : (pj lw).1 29 14 = some (.iconst 0, 1, 0)) rfl rfl rfl
theorem w29_15 {x : Int32} : W (pj lw) 29 15 L (.int x :: S) k n H Q ↔ Q (some (.int x)) H := W_r (rfl : (pj lw).1 29 15 = some (.ireturn, 1, 0)) rfl
theorem c31 {x0 : Nat} {x1 : Int32} : Cl (pj lw) 31 [.ref x0, .int x1] H Q ↔ W (pj lw) 31 0 [.val (.ref x0), .val (.int x1), .unset, .unset, .unset] [] 0 0 H Q := cl_unf rfl
theorem w31_0 {x : Nat} : W (pj lw) 31 0 (.val (.ref x) :: L) S k n H Q ↔ W (pj lw) 31 1 (.val (.ref x) :: L) (.ref x :: S) k n H Q := W_s (rfl : (pj lw).1 31 0 = some (.aload_n 0, 1, 0)) rfl rfl rfl
theorem w31_1 {a : Nat} : W (pj lw) 31 1 L (.ref a :: S) k n H Q ↔ (isO H a = true ∧ W (pj lw) 31 4 L (fld H a 13 :: S) k n H Q) := W_getf (rfl : (pj lw).1 31 1 = some (.getfield 73, 3, 13))
theorem w31_4 {x : Int32} : W (pj lw) 31 4 L (.int x :: S) k n H Q ↔ (if x = 0 then W (pj lw) 31 15 L S k n H Q else W (pj lw) 31 7 L S k n H Q) := W_if_eq (rfl : (pj lw).1 31 4 = some (.ifCond .eq 11, 3, 0)) rfl
theorem w31_7 {x : Nat} : W (pj lw) 31 7 (.val (.ref x) :: L) S k n H Q ↔ W (pj lw) 31 8 (.val (.ref x) :: L) (.ref x :: S) k n H Q := W_s (rfl : (pj lw).1 31 7 = some (.aload_n 0, 1, 0)) rfl rfl rfl
theorem w31_8 {x : Int32} {l0 : Slot} : W (pj lw) 31 8 (l0 :: .val (.int x) :: L) S k n H Q ↔ W (pj lw) 31 9 (l0 :: .val (.int x) :: L) (.int x :: S) k n H Q := W_s (rfl : (pj lw).1 31 8 = some (.iload_n 1, 1, 0)) rfl rfl rfl
theorem w31_9 {a : Nat} {x0 : Int32} : W (pj lw) 31 9 L (.int x0 :: .ref a :: S) k n H Q ↔ ((isO H a = true ∧ cs S + (2 + 11) + 0 ≤ 13) ∧ Cl (pj lw) 7 [.ref a, .int x0] H (fun v H => W (pj lw) 31 12 L (v.toList ++ S) k n H Q)) := W_inst (as := [.int x0]) (rfl : (pj lw).1 31 9 = some (.invokevirtual 99, 3, 7)) rfl rfl rfl (Nat.le_of_ble_eq_true rfl) (Nat.le_of_ble_eq_true rfl) ⟨rfl, rfl⟩
theorem w31_12 {x : Int32} : W (pj lw) 31 12 L (.int x :: S) k n H Q ↔ (if x = 0 then W (pj lw) 31 15 L S k n H Q else W (pj lw) 31 17 L S k n H Q) := W_if_ne (rfl : (pj lw).1 31 12 = some (.ifCond .ne 5, 3, 0)) rfl
theorem w31_15 : W (pj lw) 31 15 L S k n H Q ↔ W (pj lw) 31 16 L (.int (-1) :: S) k n H Q := W_s (rfl : (pj lw).1 31 15 = some (.iconst (-1), 1, 0)) rfl rfl rfl
theorem w31_16 {x : Int32} : W (pj lw) 31 16 L (.int x :: S) k n H Q ↔ Q (some (.int x)) H := W_r (rfl : (pj lw).1 31 16 = some (.ireturn, 1, 0)) rfl
theorem w31_17 {x : Nat} : W (pj lw) 31 17 (.val (.ref x) :: L) S k n H Q ↔ W (pj lw) 31 18 (.val (.ref x) :: L) (.ref x :: S) k n H Q := W_s (rfl : (pj lw).1 31 17 = some (.aload_n 0, 1, 0)) rfl rfl rfl
theorem w31_18 {a : Nat} : W (pj lw) 31 18 L (.ref a :: S) k n H Q ↔ (isO H a = true ∧ W (pj lw) 31 21 L (fld H a 11 :: S) k n H Q) := W_getf (rfl : (pj lw).1 31 18 = some (.getfield 28, 3, 11))
theorem w31_21 {x : Int32} {l0 : Slot} : W (pj lw) 31 21 (l0 :: .val (.int x) :: L) S k n H Q ↔ W (pj lw) 31 22 (l0 :: .val (.int x) :: L) (.int x :: S) k n H Q := W_s (rfl : (pj lw).1 31 21 = some (.iload_n 1, 1, 0)) rfl rfl rfl
theorem w31_22 {i : Int32} {a : Nat} : W (pj lw) 31 22 L (.int i :: .ref a :: S) k n H Q ↔ (inA H a .int i = true ∧ W (pj lw) 31 23 L (elt H a i :: S) k n H Q) := W_iaload (rfl : (pj lw).1 31 22 = some (.iaload, 1, 0))
theorem w31_23 {x : Int32} {l0 l1 : Slot} : W (pj lw) 31 23 (l0 :: l1 :: .unset :: L) (.int x :: S) k n H Q ↔ W (pj lw) 31 24 (l0 :: l1 :: .val (.int x) :: L) S k n H Q := W_istn (rfl : (pj lw).1 31 23 = some (.istore_n 2, 1, 0)) rfl rfl
theorem w31_24 : W (pj lw) 31 24 L S k n H Q ↔ W (pj lw) 31 25 L (.int 0 :: S) k n H Q := W_s (rfl : (pj lw).1 31 24 = some (.iconst 0, 1, 0)) rfl rfl rfl
theorem w31_25 {x : Int32} {l0 l1 l2 : Slot} : W (pj lw) 31 25 (l0 :: l1 :: l2 :: .unset :: L) (.int x :: S) k n H Q ↔ W (pj lw) 31 26 (l0 :: l1 :: l2 :: .val (.int x) :: L) S k n H Q := W_istn (rfl : (pj lw).1 31 25 = some (.istore_n 3, 1, 0)) rfl rfl
theorem w31_26 : W (pj lw) 31 26 L S k n H Q ↔ W (pj lw) 31 27 L (.int 0 :: S) k n H Q := W_s (rfl : (pj lw).1 31 26 = some (.iconst 0, 1, 0)) rfl rfl rfl
theorem w31_27 {x : Int32} {l0 l1 l2 l3 : Slot} : W (pj lw) 31 27 (l0 :: l1 :: l2 :: l3 :: .unset :: L) (.int x :: S) k n H Q ↔ W (pj lw) 31 29 (l0 :: l1 :: l2 :: l3 :: .val (.int x) :: L) S k n H Q := W_ist (rfl : (pj lw).1 31 27 = some (.istore 4, 2, 0)) rfl rfl
theorem w31_29 {x : Int32} {l0 l1 l2 l3 : Slot} : W (pj lw) 31 29 (l0 :: l1 :: l2 :: l3 :: .val (.int x) :: L) S k n H Q ↔ W (pj lw) 31 31 (l0 :: l1 :: l2 :: l3 :: .val (.int x) :: L) (.int x :: S) k n H Q := W_s (rfl : (pj lw).1 31 29 = some (.iload 4, 2, 0)) rfl rfl rfl
theorem w31_31 : W (pj lw) 31 31 L S k n H Q ↔ W (pj lw) 31 33 L (.int 10 :: S) k n H Q := W_s (rfl : (pj lw).1 31 31 = some (.bipush 10, 2, 0)) rfl rfl rfl
theorem w31_33 {x y : Int32} : W (pj lw) 31 33 L (.int y :: .int x :: S) k n H Q ↔ (if x < y then W (pj lw) 31 36 L S k n H Q else W (pj lw) 31 54 L S k n H Q) := W_icmp_ge (rfl : (pj lw).1 31 33 = some (.if_icmp .ge 21, 3, 0)) rfl
theorem w31_36 {x : Int32} {l0 l1 : Slot} : W (pj lw) 31 36 (l0 :: l1 :: .val (.int x) :: L) S k n H Q ↔ W (pj lw) 31 37 (l0 :: l1 :: .val (.int x) :: L) (.int x :: S) k n H Q := W_s (rfl : (pj lw).1 31 36 = some (.iload_n 2, 1, 0)) rfl rfl rfl
theorem w31_37 {x : Int32} {l0 l1 l2 l3 : Slot} : W (pj lw) 31 37 (l0 :: l1 :: l2 :: l3 :: .val (.int x) :: L) S k n H Q ↔ W (pj lw) 31 39 (l0 :: l1 :: l2 :: l3 :: .val (.int x) :: L) (.int x :: S) k n H Q := W_s (rfl : (pj lw).1 31 37 = some (.iload 4, 2, 0)) rfl rfl rfl
theorem w31_39 {x y : Int32} : W (pj lw) 31 39 L (.int y :: .int x :: S) k n H Q ↔ W (pj lw) 31 40 L (.int (x >>> (y &&& 31)) :: S) k n H Q := W_s (rfl : (pj lw).1 31 39 = some (.ishr, 1, 0)) rfl rfl rfl
theorem w31_40 : W (pj lw) 31 40 L S k n H Q ↔ W (pj lw) 31 41 L (.int 1 :: S) k n H Q := W_s (rfl : (pj lw).1 31 40 = some (.iconst 1, 1, 0)) rfl rfl rfl
theorem w31_41 {x y : Int32} : W (pj lw) 31 41 L (.int y :: .int x :: S) k n H Q ↔ W (pj lw) 31 42 L (.int (x &&& y) :: S) k n H Q := W_s (rfl : (pj lw).1 31 41 = some (.iand, 1, 0)) rfl rfl rfl
theorem w31_42 {x : Int32} : W (pj lw) 31 42 L (.int x :: S) k n H Q ↔ (if x = 0 then W (pj lw) 31 48 L S k n H Q else W (pj lw) 31 45 L S k n H Q) := W_if_eq (rfl : (pj lw).1 31 42 = some (.ifCond .eq 6, 3, 0)) rfl
theorem w31_45 {x : Int32} {l0 l1 l2 : Slot} : W (pj lw) 31 45 (l0 :: l1 :: l2 :: .val (.int x) :: L) S k n H Q ↔ W (pj lw) 31 48 (l0 :: l1 :: l2 :: .val (.int (x + 1)) :: L) S k n H Q := W_s (rfl : (pj lw).1 31 45 = some (.iinc 3 1, 3, 0)) rfl rfl rfl
theorem w31_48 {x : Int32} {l0 l1 l2 l3 : Slot} : W (pj lw) 31 48 (l0 :: l1 :: l2 :: l3 :: .val (.int x) :: L) S k n H Q ↔ W (pj lw) 31 51 (l0 :: l1 :: l2 :: l3 :: .val (.int (x + 1)) :: L) S k n H Q := W_s (rfl : (pj lw).1 31 48 = some (.iinc 4 1, 3, 0)) rfl rfl rfl
theorem w31_51 : W (pj lw) 31 51 L S k n H Q ↔ W (pj lw) 31 29 L S k n H Q := W_goto (rfl : (pj lw).1 31 51 = some (.goto (-22), 3, 0)) rfl
theorem w31_54 {x : Int32} {l0 l1 l2 : Slot} : W (pj lw) 31 54 (l0 :: l1 :: l2 :: .val (.int x) :: L) S k n H Q ↔ W (pj lw) 31 55 (l0 :: l1 :: l2 :: .val (.int x) :: L) (.int x :: S) k n H Q := W_s (rfl : (pj lw).1 31 54 = some (.iload_n 3, 1, 0)) rfl rfl rfl
theorem w31_55 {x : Int32} : W (pj lw) 31 55 L (.int x :: S) k n H Q ↔ Q (some (.int x)) H := W_r (rfl : (pj lw).1 31 55 = some (.ireturn, 1, 0)) rfl
theorem c32 {x0 : Nat} : Cl (pj lw) 32 [.ref x0] H Q ↔ W (pj lw) 32 0 [.val (.ref x0)] [] 0 0 H Q := cl_unf rfl
theorem w32_0 {x : Nat} : W (pj lw) 32 0 (.val (.ref x) :: L) S k n H Q ↔ W (pj lw) 32 1 (.val (.ref x) :: L) (.ref x :: S) k n H Q := W_s (rfl : (pj lw).1 32 0 = some (.aload_n 0, 1, 0)) rfl rfl rfl
theorem w32_1 {a : Nat} : W (pj lw) 32 1 L (.ref a :: S) k n H Q ↔ (isO H a = true ∧ W (pj lw) 32 4 L (fld H a 13 :: S) k n H Q) := W_getf (rfl : (pj lw).1 32 1 = some (.getfield 73, 3, 13))
theorem w32_4 {x : Int32} : W (pj lw) 32 4 L (.int x :: S) k n H Q ↔ (if x = 0 then W (pj lw) 32 14 L S k n H Q else W (pj lw) 32 7 L S k n H Q) := W_if_eq (rfl : (pj lw).1 32 4 = some (.ifCond .eq 10, 3, 0)) rfl
theorem w32_7 {x : Nat} : W (pj lw) 32 7 (.val (.ref x) :: L) S k n H Q ↔ W (pj lw) 32 8 (.val (.ref x) :: L) (.ref x :: S) k n H Q := W_s (rfl : (pj lw).1 32 7 = some (.aload_n 0, 1, 0)) rfl rfl rfl
theorem w32_8 {a : Nat} : W (pj lw) 32 8 L (.ref a :: S) k n H Q ↔ (isO H a = true ∧ W (pj lw) 32 11 L (fld H a 15 :: S) k n H Q) := W_getf (rfl : (pj lw).1 32 8 = some (.getfield 79, 3, 15))
theorem w32_11 : W (pj lw) 32 11 L S k n H Q ↔ W (pj lw) 32 15 L S k n H Q := W_goto (rfl : (pj lw).1 32 11 = some (.goto 4, 3, 0)) rfl
theorem w32_14 : W (pj lw) 32 14 L S k n H Q ↔ W (pj lw) 32 15 L (.int (-1) :: S) k n H Q := W_s (rfl : (pj lw).1 32 14 = some (.iconst (-1), 1, 0)) rfl rfl rfl
theorem w32_15 {x : Int32} : W (pj lw) 32 15 L (.int x :: S) k n H Q ↔ Q (some (.int x)) H := W_r (rfl : (pj lw).1 32 15 = some (.ireturn, 1, 0)) rfl
theorem c33 {x0 : Nat} {x1 : Int32} : Cl (pj lw) 33 [.ref x0, .int x1] H Q ↔ W (pj lw) 33 0 [.val (.ref x0), .val (.int x1)] [] 0 0 H Q := cl_unf rfl
theorem w33_0 {x : Nat} : W (pj lw) 33 0 (.val (.ref x) :: L) S k n H Q ↔ W (pj lw) 33 1 (.val (.ref x) :: L) (.ref x :: S) k n H Q := W_s (rfl : (pj lw).1 33 0 = some (.aload_n 0, 1, 0)) rfl rfl rfl
theorem w33_1 {x : Int32} {l0 : Slot} : W (pj lw) 33 1 (l0 :: .val (.int x) :: L) S k n H Q ↔ W (pj lw) 33 2 (l0 :: .val (.int x) :: L) (.int x :: S) k n H Q := W_s (rfl : (pj lw).1 33 1 = some (.iload_n 1, 1, 0)) rfl rfl rfl
theorem w33_2 {a : Nat} {x0 : Int32} : W (pj lw) 33 2 L (.int x0 :: .ref a :: S) k n H Q ↔ ((isO H a = true ∧ cs S + (5 + 11) + 13 ≤ 29) ∧ Cl (pj lw) 22 [.ref a, .int x0] H (fun v H => W (pj lw) 33 5 L (v.toList ++ S) k n H Q)) := W_inst (as := [.int x0]) (rfl : (pj lw).1 33 2 = some (.invokevirtual 117, 3, 22)) rfl rfl rfl (Nat.le_of_ble_eq_true rfl) (Nat.le_of_ble_eq_true rfl) ⟨rfl, rfl⟩
theorem w33_5 {x : Int32} : W (pj lw) 33 5 L (.int x :: S) k n H Q ↔ (if x = 0 then W (pj lw) 33 8 L S k n H Q else W (pj lw) 33 10 L S k n H Q) := W_if_ne (rfl : (pj lw).1 33 5 = some (.ifCond .ne 5, 3, 0)) rfl
theorem w33_8 : W (pj lw) 33 8 L S k n H Q ↔ W (pj lw) 33 9 L (.int 0 :: S) k n H Q := W_s (rfl : (pj lw).1 33 8 = some (.iconst 0, 1, 0)) rfl rfl rfl
theorem w33_9 {x : Int32} : W (pj lw) 33 9 L (.int x :: S) k n H Q ↔ Q (some (.int x)) H := W_r (rfl : (pj lw).1 33 9 = some (.ireturn, 1, 0)) rfl
theorem w33_10 {x : Nat} : W (pj lw) 33 10 (.val (.ref x) :: L) S k n H Q ↔ W (pj lw) 33 11 (.val (.ref x) :: L) (.ref x :: S) k n H Q := W_s (rfl : (pj lw).1 33 10 = some (.aload_n 0, 1, 0)) rfl rfl rfl
theorem w33_11 {x : Int32} {l0 : Slot} : W (pj lw) 33 11 (l0 :: .val (.int x) :: L) S k n H Q ↔ W (pj lw) 33 12 (l0 :: .val (.int x) :: L) (.int x :: S) k n H Q := W_s (rfl : (pj lw).1 33 11 = some (.iload_n 1, 1, 0)) rfl rfl rfl
theorem w33_12 {a : Nat} {x0 : Int32} : W (pj lw) 33 12 L (.int x0 :: .ref a :: S) k n H Q ↔ ((isO H a = true ∧ cs S + (5 + 11) + 0 ≤ 29) ∧ Cl (pj lw) 23 [.ref a, .int x0] H (fun v H => W (pj lw) 33 15 L (v.toList ++ S) k n H Q)) := W_inst (as := [.int x0]) (rfl : (pj lw).1 33 12 = some (.invokevirtual 133, 3, 23)) rfl rfl rfl (Nat.le_of_ble_eq_true rfl) (Nat.le_of_ble_eq_true rfl) ⟨rfl, rfl⟩
theorem w33_15 : W (pj lw) 33 15 L S k n H Q ↔ W (pj lw) 33 16 L (.int 2 :: S) k n H Q := W_s (rfl : (pj lw).1 33 15 = some (.iconst 2, 1, 0)) rfl rfl rfl
theorem w33_16 {x : Nat} : W (pj lw) 33 16 (.val (.ref x) :: L) S k n H Q ↔ W (pj lw) 33 17 (.val (.ref x) :: L) (.ref x :: S) k n H Q := W_s (rfl : (pj lw).1 33 16 = some (.aload_n 0, 1, 0)) rfl rfl rfl
theorem w33_17 {a : Nat} : W (pj lw) 33 17 L (.ref a :: S) k n H Q ↔ (isO H a = true ∧ W (pj lw) 33 20 L (fld H a 22 :: S) k n H Q) := W_getf (rfl : (pj lw).1 33 17 = some (.getfield 82, 3, 22))
theorem w33_20 {x y : Int32} : W (pj lw) 33 20 L (.int y :: .int x :: S) k n H Q ↔ W (pj lw) 33 21 L (.int (x + y) :: S) k n H Q := W_s (rfl : (pj lw).1 33 20 = some (.iadd, 1, 0)) rfl rfl rfl
theorem w33_21 {x : Int32} : W (pj lw) 33 21 L (.int x :: S) k n H Q ↔ Q (some (.int x)) H := W_r (rfl : (pj lw).1 33 21 = some (.ireturn, 1, 0)) rfl
theorem c34 {x0 : Nat} : Cl (pj lw) 34 [.ref x0] H Q ↔ W (pj lw) 34 0 [.val (.ref x0)] [] 0 0 H Q := cl_unf rfl
theorem w34_0 {x : Nat} : W (pj lw) 34 0 (.val (.ref x) :: L) S k n H Q ↔ W (pj lw) 34 1 (.val (.ref x) :: L) (.ref x :: S) k n H Q := W_s (rfl : (pj lw).1 34 0 = some (.aload_n 0, 1, 0)) rfl rfl rfl
theorem w34_1 {a : Nat} : W (pj lw) 34 1 L (.ref a :: S) k n H Q ↔ (isO H a = true ∧ W (pj lw) 34 4 L (fld H a 4 :: S) k n H Q) := W_getf (rfl : (pj lw).1 34 1 = some (.getfield 66, 3, 4))
theorem w34_4 {x : Int32} : W (pj lw) 34 4 L (.int x :: S) k n H Q ↔ Q (some (.int x)) H := W_r (rfl : (pj lw).1 34 4 = some (.ireturn, 1, 0)) rfl
end Pc
section A
variable {lw : LW} {H : AH} {p j : Nat} {s : St} {Q : Option Value → AH → Prop} {a b c d : Int32} {h : Nat → Cel} {k n : Nat}
def eb (x a b : Int32) : Int32 := if x = a then 1 else if x = b then 1 else 0
theorem fold_eb {x a b : Int32} : (if x = a then 1 else if x = b then 1 else 0) = eb x a b := by simp only [eb]
def cp (x y a b c d : Int32) : Bool := decide ((¬ eb x a b = 0 ∧ ¬ eb y c d = 0) ∨ (¬ eb y a b = 0 ∧ ¬ eb x c d = 0))
set_option maxRecDepth 100000 in
set_option maxHeartbeats 2000000 in
theorem t6 (h1 : 0 ≤ a.toInt ∧ a.toInt < 10) (h2 : 0 ≤ b.toInt ∧ b.toInt < 10) (h3 : 0 ≤ c.toInt ∧ c.toInt < 10) : Cl (pj lw) 6 [.ref p, .int a, .int b, .int c] (ob H p s) Q ↔
    (if cp (sA s 8 a.toNatClampNeg) (sA s 9 a.toNatClampNeg) (sA s 8 b.toNatClampNeg) (sA s 9 b.toNatClampNeg) (sA s 8 c.toNatClampNeg) (sA s 9 c.toNatClampNeg) = true then Q (some (.int 1)) (ob H p s) else Q (some (.int 0)) (ob H p s)) := by
  rw [c6]
  simp +decide only [w6_0, w6_1, w6_4, w6_5, w6_6, w6_8, w6_9, w6_12, w6_13, w6_14, w6_16, w6_17, w6_20, w6_21, w6_22, w6_24, w6_25, w6_28, w6_29, w6_30, w6_32, w6_33, w6_36, w6_37, w6_38, w6_40, w6_41, w6_44, w6_45, w6_46, w6_48, w6_50, w6_52, w6_55, w6_57, w6_59, w6_62, w6_63, w6_66, isO_put, true_and, and_true, g16, g17, ai8, ae8, ai9, ae9, W_ite, h1, h2, h3, fold_eb]
  simp +decide only [w6_69, w6_71, w6_73, w6_76, w6_78, w6_80, w6_83, w6_84, w6_87, w6_67, W_ite, fold_eb]
  simp +decide only [w6_90, w6_92, w6_94, w6_97, w6_99, w6_101, w6_104, w6_105, w6_108, w6_88, W_ite, fold_eb]
  simp +decide only [w6_111, w6_113, w6_115, w6_118, w6_120, w6_122, w6_125, w6_126, w6_129, w6_109, W_ite, fold_eb]
  by_cases e1 : eb (sA s 8 a.toNatClampNeg) (sA s 8 b.toNatClampNeg) (sA s 9 b.toNatClampNeg) = 0 <;>
  by_cases e2 : eb (sA s 9 a.toNatClampNeg) (sA s 8 b.toNatClampNeg) (sA s 9 b.toNatClampNeg) = 0 <;>
  by_cases e3 : eb (sA s 8 a.toNatClampNeg) (sA s 8 c.toNatClampNeg) (sA s 9 c.toNatClampNeg) = 0 <;>
  by_cases e4 : eb (sA s 9 a.toNatClampNeg) (sA s 8 c.toNatClampNeg) (sA s 9 c.toNatClampNeg) = 0 <;>
  simp +decide only [w6_130, w6_132, w6_134, w6_137, w6_139, w6_142, w6_144, w6_147, w6_149, w6_152, w6_153, w6_156, w6_157, true_and, and_true, and_false, or_false, or_true, not_true_eq_false, not_false_eq_true, ↓reduceIte, e1, e2, e3, e4, cp, decide_true, decide_false]
def cm (A B : Nat → Int32) (b c : Int32) : Nat → Int32 → Int32 → Int32
  | 0, _, mask => mask
  | m + 1, gc, mask => cm A B b c m (gc + 1) (if cp (A gc.toNatClampNeg) (B gc.toNatClampNeg) (A b.toNatClampNeg) (B b.toNatClampNeg) (A c.toNatClampNeg) (B c.toNatClampNeg) = true then mask ||| 1 <<< (gc &&& 31) else mask)
theorem l5 (hb : 0 ≤ b.toInt ∧ b.toInt < 10) (hc : 0 ≤ c.toInt ∧ c.toInt < 10) (hg : (sI s 1).toInt ≤ 10) (m : Nat) : ∀ (gc mask : Int32), gc.toInt = (sI s 1).toInt - m → 0 ≤ gc.toInt →
    (W (pj lw) 5 5 [.val (.ref p), .val (.int b), .val (.int c), .val (.int mask), .val (.int gc)] [] k n (ob H p s) Q ↔ Q (some (.int (cm (sA s 8) (sA s 9) b c m gc mask))) (ob H p s)) := by
  induction m with
  | zero =>
    intro gc mask h1 h2
    have h3 : ¬ gc < sI s 1 := by rw [lt32]; omega
    rw [w5_5]; simp +decide only [w5_7, w5_8, w5_11, w5_38, w5_39, isO_put, true_and, ↓reduceIte, g1, h3, cm]
  | succ m ih =>
    intro gc mask h1 h2
    have h3 : gc < sI s 1 := by rw [lt32]; omega
    have h4 : (gc + 1).toInt = gc.toInt + 1 := ia (by simp only [Int32.reduceToInt]; omega) (by simp only [Int32.reduceToInt]; omega)
    have ha : 0 ≤ gc.toInt ∧ gc.toInt < 10 := by omega
    rw [w5_5]; simp +decide only [w5_7, w5_8, w5_11, w5_14, w5_15, w5_17, w5_18, w5_19, w5_22, w5_25, w5_26, w5_27, w5_29, w5_30, w5_31i, w5_32, w5_35, isO_put, Option.toList_some, List.cons_append, List.nil_append, true_and, and_true, ↓reduceIte, g1, h3, t6 ha hb hc]
    rw [cm]
    by_cases e : cp (sA s 8 gc.toNatClampNeg) (sA s 9 gc.toNatClampNeg) (sA s 8 b.toNatClampNeg) (sA s 9 b.toNatClampNeg) (sA s 8 c.toNatClampNeg) (sA s 9 c.toNatClampNeg) = true
    · rw [if_pos e, if_pos e]; exact ih _ _ (by omega) (by omega)
    · rw [if_neg e, if_neg e]; exact ih _ _ (by omega) (by omega)
theorem t5 (hb : 0 ≤ b.toInt ∧ b.toInt < 10) (hc : 0 ≤ c.toInt ∧ c.toInt < 10) (hg : 0 ≤ (sI s 1).toInt ∧ (sI s 1).toInt ≤ 10) :
    Cl (pj lw) 5 [.ref p, .int b, .int c] (ob H p s) Q ↔ Q (some (.int (cm (sA s 8) (sA s 9) b c (sI s 1).toInt.toNat 0 0))) (ob H p s) := by
  rw [c5]; simp +decide only [w5_0, w5_1, w5_2, w5_3]
  exact l5 hb hc hg.2 _ 0 0 (by simp only [Int32.reduceToInt]; omega) (by decide)
def km (s : St) (gf gm : Nat) : St := (s.1, s.2.1, fun t i => if t = 11 ∧ i < 100 ∧ i / 10 < (sI s 1).toInt.toNat ∧ i % 10 < (sI s 1).toInt.toNat ∧ (gf < i / 10 ∨ (i / 10 = gf ∧ gm ≤ i % 10)) then cm (sA s 8) (sA s 9) (Int32.ofNat (i / 10)) (Int32.ofNat (i % 10)) (sI s 1).toInt.toNat 0 0 else s.2.2.1 t i, s.2.2.2)
theorem sI_km {gf gm x : Nat} : sI (km s gf gm) x = sI s x := by simp [sI, km]
theorem sJ_km {gf gm x : Nat} : sJ (km s gf gm) x = sJ s x := by simp [sJ, km]
theorem sB_km {gf gm t i : Nat} : sB (km s gf gm) t i = sB s t i := by simp [sB, km]
theorem sA_km {gf gm t i : Nat} : sA (km s gf gm) t i = if t = 11 ∧ i < 100 ∧ i / 10 < (sI s 1).toInt.toNat ∧ i % 10 < (sI s 1).toInt.toNat ∧ (gf < i / 10 ∨ (i / 10 = gf ∧ gm ≤ i % 10)) then cm (sA s 8) (sA s 9) (Int32.ofNat (i / 10)) (Int32.ofNat (i % 10)) (sI s 1).toInt.toNat 0 0 else sA s t i := by simp [sA, km]
theorem sA_uA_fun {t t' i : Nat} {v : Int32} (h : t' ≠ t) : sA (uA s t i v) t' = sA s t' := by funext x; rw [sA_uA, if_neg (fun q => h q.1)]
theorem ofNat_clamp {x : Int32} (h : 0 ≤ x.toInt) : Int32.ofNat x.toNatClampNeg = x := by
  have := rg32 x
  rw [eq32, cln, Int32.toInt_ofNat_of_lt (by omega)]; omega
theorem km_step {gf gm : Int32} (h1 : 0 ≤ gf.toInt ∧ gf.toInt < (sI s 1).toInt) (h2 : 0 ≤ gm.toInt ∧ gm.toInt < (sI s 1).toInt) (hg : (sI s 1).toInt ≤ 10) (e : (gf * 10 + gm).toNatClampNeg = gf.toNatClampNeg * 10 + gm.toNatClampNeg) :
    km (uA s 11 (gf * 10 + gm).toNatClampNeg (cm (sA s 8) (sA s 9) gf gm (sI s 1).toInt.toNat 0 0)) gf.toNatClampNeg (gm.toNatClampNeg + 1) = km s gf.toNatClampNeg gm.toNatClampNeg := by
  refine St_ext (fun k => by rw [sI_km, sI_km, sI_uA]) (fun k => by rw [sJ_km, sJ_km, sJ_uA]) (fun t i => ?_) (fun t i => by rw [sB_km, sB_km, sB_uA])
  rw [sA_km, sA_km, sI_uA, sA_uA_fun (by decide), sA_uA_fun (by decide), sA_uA, e]
  have q1 : gf.toNatClampNeg < 10 := by rw [cln]; omega
  have q2 : gm.toNatClampNeg < 10 := by rw [cln]; omega
  by_cases g1 : t = 11 ∧ i < 100 ∧ i / 10 < (sI s 1).toInt.toNat ∧ i % 10 < (sI s 1).toInt.toNat ∧ (gf.toNatClampNeg < i / 10 ∨ (i / 10 = gf.toNatClampNeg ∧ gm.toNatClampNeg + 1 ≤ i % 10))
  · rw [if_pos g1, if_pos (by omega)]
  · rw [if_neg g1]
    by_cases g2 : t = 11 ∧ i = gf.toNatClampNeg * 10 + gm.toNatClampNeg
    · have g3 : i / 10 = gf.toNatClampNeg := by omega
      have g4 : i % 10 = gm.toNatClampNeg := by omega
      have g5 : gf.toNatClampNeg < (sI s 1).toInt.toNat := by rw [cln]; omega
      have g6 : gm.toNatClampNeg < (sI s 1).toInt.toNat := by rw [cln]; omega
      rw [if_pos g2, if_pos (by omega), g3, g4, ofNat_clamp h1.1, ofNat_clamp h2.1]
    · rw [if_neg g2, if_neg (by omega)]
theorem km_end {gf gm : Nat} (h : (sI s 1).toInt.toNat ≤ gf) : km s gf gm = s := by
  refine St_ext (fun k => sI_km) (fun k => sJ_km) (fun t i => ?_) (fun t i => sB_km)
  rw [sA_km, if_neg (by omega)]
theorem km_row {gf gm : Nat} (h : (sI s 1).toInt.toNat ≤ gm) : km s gf gm = km s (gf + 1) 0 := by
  refine St_ext (fun k => by rw [sI_km, sI_km]) (fun k => by rw [sJ_km, sJ_km]) (fun t i => ?_) (fun t i => by rw [sB_km, sB_km])
  rw [sA_km, sA_km]
  by_cases g : t = 11 ∧ i < 100 ∧ i / 10 < (sI s 1).toInt.toNat ∧ i % 10 < (sI s 1).toInt.toNat ∧ (gf < i / 10 ∨ (i / 10 = gf ∧ gm ≤ i % 10))
  · rw [if_pos g, if_pos (by omega)]
  · rw [if_neg g, if_neg (by omega)]
theorem l4 (hg : 0 ≤ (sI s 1).toInt ∧ (sI s 1).toInt ≤ 10) (g : Int32) (eg : sI s 1 = g) (m : Nat) : ∀ (gf gm : Int32) (s : St), sI s 1 = g → (m : Int) = (g.toInt - gf.toInt) * 11 + (g.toInt - gm.toInt) → 0 ≤ gf.toInt → gf.toInt < g.toInt → 0 ≤ gm.toInt → gm.toInt ≤ g.toInt →
    (W (pj lw) 4 12 [.val (.ref p), .val (.int gf), .val (.int gm)] [] k n (ob H p s) Q ↔ Q none (ob H p (km s gf.toNatClampNeg gm.toNatClampNeg))) := by
  subst eg
  revert hg
  generalize sI s 1 = g
  intro hg
  induction m using Nat.strongRecOn with
  | _ m ih =>
    intro gf gm s es hm h1 h2 h3 h4
    have hs : 0 ≤ (sI s 1).toInt ∧ (sI s 1).toInt ≤ 10 := by rw [es]; exact hg
    by_cases e : gm.toInt = g.toInt
    · have q1 : ¬ gm < g := by rw [lt32]; omega
      have q2 : (gf + 1).toInt = gf.toInt + 1 := ia (by simp only [Int32.reduceToInt]; omega) (by simp only [Int32.reduceToInt]; omega)
      have q3 : (gf + 1).toNatClampNeg = gf.toNatClampNeg + 1 := by rw [cln, cln]; omega
      rw [km_row (by rw [es, cln]; omega), ← q3]
      by_cases e2 : gf.toInt + 1 = g.toInt
      · have q4 : ¬ gf + 1 < g := by rw [lt32]; omega
        rw [w4_12]; simp +decide only [w4_3, w4_4, w4_7, w4_13, w4_14, w4_17, w4_43, w4_46, w4_49, w4_2, isO_put, true_and, ↓reduceIte, g1, es, q1, q4]
        rw [km_end (by rw [es, cln]; omega)]
      · have q4 : gf + 1 < g := by rw [lt32]; omega
        rw [w4_12]; simp +decide only [w4_3, w4_4, w4_7, w4_10, w4_11i, w4_13, w4_14, w4_17, w4_43, w4_46, w4_2, isO_put, true_and, ↓reduceIte, g1, es, q1, q4]
        rw [ih ((g.toInt - (gf + 1).toInt) * 11 + g.toInt).toNat (by omega) (gf + 1) 0 s es (by simp only [Int32.reduceToInt]; omega) (by omega) (by omega) (by decide) (by simp only [Int32.reduceToInt]; omega)]
        simp only [Int32.reduceToNatClampNeg]
    · have q1 : gm < g := by rw [lt32]; omega
      have q2 : (gm + 1).toInt = gm.toInt + 1 := ia (by simp only [Int32.reduceToInt]; omega) (by simp only [Int32.reduceToInt]; omega)
      have q3 : (gm + 1).toNatClampNeg = gm.toNatClampNeg + 1 := by rw [cln, cln]; omega
      have i1 : (gf * 10 + gm).toInt = gf.toInt * 10 + gm.toInt := by
        rw [idx2 (a := 10) (b := 10) 10 (by decide) (by omega) (by omega) (by omega) (by omega)]; simp only [Int32.reduceToInt]
      have i2 : (gf * 10 + gm).toNatClampNeg = gf.toNatClampNeg * 10 + gm.toNatClampNeg := by rw [cln, cln, cln, i1]; omega
      have i3 : 0 ≤ (gf * 10 + gm).toInt ∧ (gf * 10 + gm).toInt < 100 := by omega
      rw [w4_12]; simp +decide only [w4_13, w4_14, w4_17, w4_20, w4_21, w4_24, w4_25, w4_27, w4_28, w4_29, w4_30, w4_31, w4_32, w4_33, w4_36, w4_37, w4_40, isO_put, cs_nil, cs_int, cs_ref, Option.toList_some, List.cons_append, List.nil_append, true_and, and_true, ↓reduceIte, Nat.reduceAdd, Int32.reduceAdd, Int64.reduceAdd, Nat.add_zero, Nat.le_refl, g1, g19, aw11, as11, es, q1, i3, t5 (b := gf) (c := gm) (by omega) (by omega) hs]
      rw [ih (m - 1) (by omega) gf (gm + 1) _ (by rw [sI_uA]; exact es) (by omega) h1 h2 (by omega) (by omega), q3]
      rw [← es, km_step (by rw [es]; omega) (by rw [es]; omega) hs.2 i2]
theorem t4 (hg : 0 < (sI s 1).toInt ∧ (sI s 1).toInt ≤ 10) : Cl (pj lw) 4 [.ref p] (ob H p s) Q ↔ Q none (ob H p (km s 0 0)) := by
  have q : (0 : Int32) < sI s 1 := by rw [lt32]; simp only [Int32.reduceToInt]; omega
  rw [c4]; simp +decide only [w4_0, w4_1, w4_3, w4_4, w4_7, w4_10, w4_11, w4_2, isO_put, true_and, ↓reduceIte, g1, q]
  rw [l4 (s := s) (by omega) (sI s 1) rfl ((sI s 1).toInt * 11 + (sI s 1).toInt).toNat 0 0 s rfl (by simp only [Int32.reduceToInt]; omega) (by decide) (by simp only [Int32.reduceToInt]; omega) (by decide) (by simp only [Int32.reduceToInt]; omega)]
  simp only [Int32.reduceToNatClampNeg]
def wr4 (s : St) (k a b : Int32) : St := uA (uA (uA (uA s 8 k.toNatClampNeg a) 9 k.toNatClampNeg b) 10 (a * 5 + b).toNatClampNeg k) 10 (b * 5 + a).toNatClampNeg k
def bg2 (s : St) : St := uI (uI (wr4 (wr4 (wr4 s 0 1 1) 1 1 2) 2 2 2) 1 3) 2 ((1 : Int32) <<< ((3 : Int32) &&& 31) - 1)
def bg3 (s : St) : St := uI (uI (wr4 (wr4 (wr4 (wr4 (wr4 (wr4 s 0 1 1) 1 1 2) 2 1 3) 3 2 2) 4 2 3) 5 3 3) 1 6) 2 ((1 : Int32) <<< ((6 : Int32) &&& 31) - 1)
def bg4 (s : St) : St := uI (uI (wr4 (wr4 (wr4 (wr4 (wr4 (wr4 (wr4 (wr4 (wr4 (wr4 s 0 1 1) 1 1 2) 2 1 3) 3 1 4) 4 2 2) 5 2 3) 6 2 4) 7 3 3) 8 3 4) 9 4 4) 1 10) 2 ((1 : Int32) <<< ((10 : Int32) &&& 31) - 1)
set_option maxRecDepth 100000 in
set_option maxHeartbeats 2000000 in
theorem t3_2 (h0 : sI s 0 = 2) : Cl (pj lw) 3 [.ref p] (ob H p s) Q ↔ Q none (ob H p (bg2 s)) := by
  rw [c3]; simp +decide only [w3_0, w3_1, w3_2, w3_3, w3_5, w3_6, w3_9, w3_12, w3_13i, w3_13, w3_15, w3_16, w3_19, w3_22, w3_23, w3_26, w3_27, w3_28, w3_29, w3_30, w3_33, w3_34, w3_35, w3_36, w3_37, w3_40, w3_41, w3_42, w3_43, w3_44, w3_45, w3_46, w3_47, w3_48, w3_51, w3_52, w3_53, w3_54, w3_55, w3_56, w3_57, w3_58, w3_61, w3_64, w3_67, w3_70, w3_73, w3_74, w3_75, w3_78, w3_79, w3_80, w3_81, w3_82, w3_83, w3_84, w3_87, w3_4, w3_14, isO_put, isOw_put, sI_uA, true_and, and_true, ↓reduceIte, Nat.reduceAdd, Int32.reduceAdd, Int32.reduceMul, Int32.reduceToNatClampNeg, Int64.reduceAdd, Int64.reduceMul, g0, s1, s2, g16, g17, g18, aw8, as8, aw9, as9, aw10, as10, h0, bg2, wr4]
set_option maxRecDepth 100000 in
set_option maxHeartbeats 2000000 in
theorem t3_3 (h0 : sI s 0 = 3) : Cl (pj lw) 3 [.ref p] (ob H p s) Q ↔ Q none (ob H p (bg3 s)) := by
  rw [c3]; simp +decide only [w3_0, w3_1, w3_2, w3_3, w3_5, w3_6, w3_9, w3_12, w3_13i, w3_13, w3_15, w3_16, w3_19, w3_22, w3_23, w3_26, w3_27, w3_28, w3_29, w3_30, w3_33, w3_34, w3_35, w3_36, w3_37, w3_40, w3_41, w3_42, w3_43, w3_44, w3_45, w3_46, w3_47, w3_48, w3_51, w3_52, w3_53, w3_54, w3_55, w3_56, w3_57, w3_58, w3_61, w3_64, w3_67, w3_70, w3_73, w3_74, w3_75, w3_78, w3_79, w3_80, w3_81, w3_82, w3_83, w3_84, w3_87, w3_4, w3_14, isO_put, isOw_put, sI_uA, true_and, and_true, ↓reduceIte, Nat.reduceAdd, Int32.reduceAdd, Int32.reduceMul, Int32.reduceToNatClampNeg, Int64.reduceAdd, Int64.reduceMul, g0, s1, s2, g16, g17, g18, aw8, as8, aw9, as9, aw10, as10, h0, bg3, wr4]
set_option maxRecDepth 100000 in
set_option maxHeartbeats 2000000 in
theorem t3_4 (h0 : sI s 0 = 4) : Cl (pj lw) 3 [.ref p] (ob H p s) Q ↔ Q none (ob H p (bg4 s)) := by
  rw [c3]; simp +decide only [w3_0, w3_1, w3_2, w3_3, w3_5, w3_6, w3_9, w3_12, w3_13i, w3_13, w3_15, w3_16, w3_19, w3_22, w3_23, w3_26, w3_27, w3_28, w3_29, w3_30, w3_33, w3_34, w3_35, w3_36, w3_37, w3_40, w3_41, w3_42, w3_43, w3_44, w3_45, w3_46, w3_47, w3_48, w3_51, w3_52, w3_53, w3_54, w3_55, w3_56, w3_57, w3_58, w3_61, w3_64, w3_67, w3_70, w3_73, w3_74, w3_75, w3_78, w3_79, w3_80, w3_81, w3_82, w3_83, w3_84, w3_87, w3_4, w3_14, isO_put, isOw_put, sI_uA, true_and, and_true, ↓reduceIte, Nat.reduceAdd, Int32.reduceAdd, Int32.reduceMul, Int32.reduceToNatClampNeg, Int64.reduceAdd, Int64.reduceMul, g0, s1, s2, g16, g17, g18, aw8, as8, aw9, as9, aw10, as10, h0, bg4, wr4]
def bg (a : Int32) (s : St) : St := if a = 2 then bg2 s else if a = 3 then bg3 s else bg4 s
def ini0 (a g : Int32) : St := uI (uI (uI (uI (uI (uI (km (bg a (uI (uI z0 0 a) 3 g)) 0 0) 4 0) 12 0) 13 0) 14 0) 15 0) 22 0
set_option maxRecDepth 100000 in
set_option maxHeartbeats 4000000 in
theorem t1 : Cl (pj lw) 1 [.ref p, .int a, .int b] (put lay 0 (p + 1, h) p z0) Q ↔ Q none (ob (p + 14, h) p (ini0 (cl 2 4 a) (if b < 1 then 1 else b))) := by
  rw [c1]
  have key : (a < 2 ∧ ¬ 4 < a) ∨ (¬ a < 2 ∧ 4 < a) ∨ a = 2 ∨ a = 3 ∨ a = 4 := by
    rcases cl3 (lo := 2) (hi := 4) a (by decide) with q | q | q
    · exact Or.inl q
    · exact Or.inr (Or.inl q)
    · refine Or.inr (Or.inr ?_); simp only [lt32, eq32, Int32.reduceToInt] at *; omega
  rcases key with ⟨h1, h2⟩ | ⟨h1, h2⟩ | rfl | rfl | rfl
  · have ec : cl 2 4 a = 2 := by simp +decide only [cl, h1, h2, ↓reduceIte]
    by_cases hb : b < 1
    all_goals
      simp +decide only [w1_0, w1_1, w1_4, w1_5, w1_7, w1_9, w1_12, w1_13, w1_15, w1_17, w1_20, w1_21, w1_23, w1_25, w1_28, w1_29, w1_31, w1_33, w1_36, w1_37, w1_39, w1_41, w1_44, w1_45, w1_47, w1_49, w1_52, w1_53, w1_55, w1_57, w1_60, w1_61, w1_63, w1_65, w1_68, w1_69, w1_71, w1_73, w1_76, w1_77, w1_79, w1_81, w1_84, w1_85, w1_87, w1_89, w1_92, w1_93, w1_95, w1_97, w1_100, w1_101, w1_103, w1_105, w1_108, w1_109, w1_110, w1_111, w1_112, w1_115, w1_116i, w1_117, w1_118, w1_119, w1_124, w1_125, w1_126, w1_129, w1_130, w1_131, w1_132, w1_135, w1_138, w1_139, w1_142, w1_143, w1_146, w1_147, w1_148, w1_151, w1_152, w1_153, w1_156, w1_157, w1_158, w1_161, w1_162, w1_163, w1_166, w1_167, w1_168, w1_171, w1_172, w1_173, zr_z0, isO_put, isOw_put, put_fst, okv_int, okv_ref, cs_nil, cs_ref, Option.toList_some, List.cons_append, List.nil_append, true_and, and_true, ↓reduceIte, Nat.reduceAdd, Nat.reduceLeDiff, Int32.reduceAdd, Int64.reduceAdd, Nat.add_zero, Nat.zero_add, s0, s3, mk1, io1, mk2, io2, mk3, io3, mk4, io4, mk5, io5, mk6, io6, mk7, io7, mk8, io8, mk9, io9, mk10, io10, mk11, io11, mk12, io12, mk13, io13, c2, w2_0, w2_1, w2_2, w2_5, w2_6, w2_9, w2_10, h1, hb, ec]
      rw [t3_2 (by simp +decide only [sI_uI, ↓reduceIte])]
      simp +decide only [isO_put, Option.toList_none, List.nil_append, true_and, and_true]
      rw [t4 (by simp +decide only [bg2, wr4, sI_uI, and_true, ↓reduceIte, Nat.reduceAdd, Int32.reduceAdd, Int32.reduceMul, Int32.reduceToNatClampNeg, Int64.reduceAdd, Int64.reduceMul, Int32.reduceToInt])]
      simp +decide only [w1_176, isOw_put, Option.toList_none, List.nil_append, true_and, ↓reduceIte, s4, s12, s13, s14, s15, s22, ini0, bg]
  · have ec : cl 2 4 a = 4 := by simp +decide only [cl, h1, h2, ↓reduceIte]
    by_cases hb : b < 1
    all_goals
      simp +decide only [w1_0, w1_1, w1_4, w1_5, w1_7, w1_9, w1_12, w1_13, w1_15, w1_17, w1_20, w1_21, w1_23, w1_25, w1_28, w1_29, w1_31, w1_33, w1_36, w1_37, w1_39, w1_41, w1_44, w1_45, w1_47, w1_49, w1_52, w1_53, w1_55, w1_57, w1_60, w1_61, w1_63, w1_65, w1_68, w1_69, w1_71, w1_73, w1_76, w1_77, w1_79, w1_81, w1_84, w1_85, w1_87, w1_89, w1_92, w1_93, w1_95, w1_97, w1_100, w1_101, w1_103, w1_105, w1_108, w1_109, w1_110, w1_111, w1_112, w1_117, w1_118, w1_119, w1_122, w1_123i, w1_124, w1_125, w1_126, w1_129, w1_130, w1_131, w1_132, w1_135, w1_138, w1_139, w1_142, w1_143, w1_146, w1_147, w1_148, w1_151, w1_152, w1_153, w1_156, w1_157, w1_158, w1_161, w1_162, w1_163, w1_166, w1_167, w1_168, w1_171, w1_172, w1_173, zr_z0, isO_put, isOw_put, put_fst, okv_int, okv_ref, cs_nil, cs_ref, Option.toList_some, List.cons_append, List.nil_append, true_and, and_true, ↓reduceIte, Nat.reduceAdd, Nat.reduceLeDiff, Int32.reduceAdd, Int64.reduceAdd, Nat.add_zero, Nat.zero_add, s0, s3, mk1, io1, mk2, io2, mk3, io3, mk4, io4, mk5, io5, mk6, io6, mk7, io7, mk8, io8, mk9, io9, mk10, io10, mk11, io11, mk12, io12, mk13, io13, c2, w2_0, w2_1, w2_2, w2_5, w2_6, w2_9, w2_10, h1, h2, hb, ec]
      rw [t3_4 (by simp +decide only [sI_uI, ↓reduceIte])]
      simp +decide only [isO_put, Option.toList_none, List.nil_append, true_and, and_true]
      rw [t4 (by simp +decide only [bg4, wr4, sI_uI, and_true, ↓reduceIte, Nat.reduceAdd, Int32.reduceAdd, Int32.reduceMul, Int32.reduceToNatClampNeg, Int64.reduceAdd, Int64.reduceMul, Int32.reduceToInt])]
      simp +decide only [w1_176, isOw_put, Option.toList_none, List.nil_append, true_and, ↓reduceIte, s4, s12, s13, s14, s15, s22, ini0, bg]
  · have ec : cl 2 4 2 = 2 := by simp +decide only [cl, ↓reduceIte]
    by_cases hb : b < 1
    all_goals
      simp +decide only [w1_0, w1_1, w1_4, w1_5, w1_7, w1_9, w1_12, w1_13, w1_15, w1_17, w1_20, w1_21, w1_23, w1_25, w1_28, w1_29, w1_31, w1_33, w1_36, w1_37, w1_39, w1_41, w1_44, w1_45, w1_47, w1_49, w1_52, w1_53, w1_55, w1_57, w1_60, w1_61, w1_63, w1_65, w1_68, w1_69, w1_71, w1_73, w1_76, w1_77, w1_79, w1_81, w1_84, w1_85, w1_87, w1_89, w1_92, w1_93, w1_95, w1_97, w1_100, w1_101, w1_103, w1_105, w1_108, w1_109, w1_110, w1_111, w1_112, w1_117, w1_118, w1_119, w1_124, w1_125, w1_126, w1_129, w1_130, w1_131, w1_132, w1_135, w1_138, w1_139, w1_142, w1_143, w1_146, w1_147, w1_148, w1_151, w1_152, w1_153, w1_156, w1_157, w1_158, w1_161, w1_162, w1_163, w1_166, w1_167, w1_168, w1_171, w1_172, w1_173, zr_z0, isO_put, isOw_put, put_fst, okv_int, okv_ref, cs_nil, cs_ref, Option.toList_some, List.cons_append, List.nil_append, true_and, and_true, ↓reduceIte, Nat.reduceAdd, Nat.reduceLeDiff, Int32.reduceAdd, Int64.reduceAdd, Nat.add_zero, Nat.zero_add, s0, s3, mk1, io1, mk2, io2, mk3, io3, mk4, io4, mk5, io5, mk6, io6, mk7, io7, mk8, io8, mk9, io9, mk10, io10, mk11, io11, mk12, io12, mk13, io13, c2, w2_0, w2_1, w2_2, w2_5, w2_6, w2_9, w2_10, hb, ec]
      rw [t3_2 (by simp +decide only [sI_uI, ↓reduceIte])]
      simp +decide only [isO_put, Option.toList_none, List.nil_append, true_and, and_true]
      rw [t4 (by simp +decide only [bg2, wr4, sI_uI, and_true, ↓reduceIte, Nat.reduceAdd, Int32.reduceAdd, Int32.reduceMul, Int32.reduceToNatClampNeg, Int64.reduceAdd, Int64.reduceMul, Int32.reduceToInt])]
      simp +decide only [w1_176, isOw_put, Option.toList_none, List.nil_append, true_and, ↓reduceIte, s4, s12, s13, s14, s15, s22, ini0, bg]
  · have ec : cl 2 4 3 = 3 := by simp +decide only [cl, ↓reduceIte]
    by_cases hb : b < 1
    all_goals
      simp +decide only [w1_0, w1_1, w1_4, w1_5, w1_7, w1_9, w1_12, w1_13, w1_15, w1_17, w1_20, w1_21, w1_23, w1_25, w1_28, w1_29, w1_31, w1_33, w1_36, w1_37, w1_39, w1_41, w1_44, w1_45, w1_47, w1_49, w1_52, w1_53, w1_55, w1_57, w1_60, w1_61, w1_63, w1_65, w1_68, w1_69, w1_71, w1_73, w1_76, w1_77, w1_79, w1_81, w1_84, w1_85, w1_87, w1_89, w1_92, w1_93, w1_95, w1_97, w1_100, w1_101, w1_103, w1_105, w1_108, w1_109, w1_110, w1_111, w1_112, w1_117, w1_118, w1_119, w1_124, w1_125, w1_126, w1_129, w1_130, w1_131, w1_132, w1_135, w1_138, w1_139, w1_142, w1_143, w1_146, w1_147, w1_148, w1_151, w1_152, w1_153, w1_156, w1_157, w1_158, w1_161, w1_162, w1_163, w1_166, w1_167, w1_168, w1_171, w1_172, w1_173, zr_z0, isO_put, isOw_put, put_fst, okv_int, okv_ref, cs_nil, cs_ref, Option.toList_some, List.cons_append, List.nil_append, true_and, and_true, ↓reduceIte, Nat.reduceAdd, Nat.reduceLeDiff, Int32.reduceAdd, Int64.reduceAdd, Nat.add_zero, Nat.zero_add, s0, s3, mk1, io1, mk2, io2, mk3, io3, mk4, io4, mk5, io5, mk6, io6, mk7, io7, mk8, io8, mk9, io9, mk10, io10, mk11, io11, mk12, io12, mk13, io13, c2, w2_0, w2_1, w2_2, w2_5, w2_6, w2_9, w2_10, hb, ec]
      rw [t3_3 (by simp +decide only [sI_uI, ↓reduceIte])]
      simp +decide only [isO_put, Option.toList_none, List.nil_append, true_and, and_true]
      rw [t4 (by simp +decide only [bg3, wr4, sI_uI, and_true, ↓reduceIte, Nat.reduceAdd, Int32.reduceAdd, Int32.reduceMul, Int32.reduceToNatClampNeg, Int64.reduceAdd, Int64.reduceMul, Int32.reduceToInt])]
      simp +decide only [w1_176, isOw_put, Option.toList_none, List.nil_append, true_and, ↓reduceIte, s4, s12, s13, s14, s15, s22, ini0, bg]
  · have ec : cl 2 4 4 = 4 := by simp +decide only [cl, ↓reduceIte]
    by_cases hb : b < 1
    all_goals
      simp +decide only [w1_0, w1_1, w1_4, w1_5, w1_7, w1_9, w1_12, w1_13, w1_15, w1_17, w1_20, w1_21, w1_23, w1_25, w1_28, w1_29, w1_31, w1_33, w1_36, w1_37, w1_39, w1_41, w1_44, w1_45, w1_47, w1_49, w1_52, w1_53, w1_55, w1_57, w1_60, w1_61, w1_63, w1_65, w1_68, w1_69, w1_71, w1_73, w1_76, w1_77, w1_79, w1_81, w1_84, w1_85, w1_87, w1_89, w1_92, w1_93, w1_95, w1_97, w1_100, w1_101, w1_103, w1_105, w1_108, w1_109, w1_110, w1_111, w1_112, w1_117, w1_118, w1_119, w1_124, w1_125, w1_126, w1_129, w1_130, w1_131, w1_132, w1_135, w1_138, w1_139, w1_142, w1_143, w1_146, w1_147, w1_148, w1_151, w1_152, w1_153, w1_156, w1_157, w1_158, w1_161, w1_162, w1_163, w1_166, w1_167, w1_168, w1_171, w1_172, w1_173, zr_z0, isO_put, isOw_put, put_fst, okv_int, okv_ref, cs_nil, cs_ref, Option.toList_some, List.cons_append, List.nil_append, true_and, and_true, ↓reduceIte, Nat.reduceAdd, Nat.reduceLeDiff, Int32.reduceAdd, Int64.reduceAdd, Nat.add_zero, Nat.zero_add, s0, s3, mk1, io1, mk2, io2, mk3, io3, mk4, io4, mk5, io5, mk6, io6, mk7, io7, mk8, io8, mk9, io9, mk10, io10, mk11, io11, mk12, io12, mk13, io13, c2, w2_0, w2_1, w2_2, w2_5, w2_6, w2_9, w2_10, hb, ec]
      rw [t3_4 (by simp +decide only [sI_uI, ↓reduceIte])]
      simp +decide only [isO_put, Option.toList_none, List.nil_append, true_and, and_true]
      rw [t4 (by simp +decide only [bg4, wr4, sI_uI, and_true, ↓reduceIte, Nat.reduceAdd, Int32.reduceAdd, Int32.reduceMul, Int32.reduceToNatClampNeg, Int64.reduceAdd, Int64.reduceMul, Int32.reduceToInt])]
      simp +decide only [w1_176, isOw_put, Option.toList_none, List.nil_append, true_and, ↓reduceIte, s4, s12, s13, s14, s15, s22, ini0, bg]
end A

section B
variable {lw : LW} {H : AH} {p : Nat} {s s' s1 s2 : St} {Q : Option Value → AH → Prop} {a b c d x y : Int32} {k n : Nat} {F M KM cc nu : Nat → Int32} {L : List Nat}
def bz (x : Bool) : Int32 := if x = true then 1 else 0
theorem bz_t : bz true = 1 := rfl
theorem bz_f : bz false = 0 := rfl
theorem bz01 (x : Bool) : bz x = 0 ∨ bz x = 1 := by cases x; exact Or.inl rfl; exact Or.inr rfl
def anyN (f : Nat → Bool) : Nat → Nat → Bool
  | _, 0 => false
  | j, m + 1 => f j || anyN f (j + 1) m
def nN (s : St) : Nat := (sI s 4).toInt.toNat
def gN (s : St) : Nat := (sI s 1).toInt.toNat
def Par (s : St) (i : Nat) : Prop := (sA s 2 i = 0 ∧ sA s 3 i = 0) ∨ ((1 ≤ (sA s 2 i).toInt ∧ (sA s 2 i).toInt < i) ∧ (1 ≤ (sA s 3 i).toInt ∧ (sA s 3 i).toInt < i))
def Ev (s : St) : Prop := (0 ≤ (sI s 4).toInt ∧ (sI s 4).toInt ≤ 32) ∧ (1 ≤ (sI s 1).toInt ∧ (sI s 1).toInt ≤ 10) ∧ (2 ≤ (sI s 0).toInt ∧ (sI s 0).toInt ≤ 4) ∧ ∀ i, 1 ≤ i → i ≤ nN s → Par s i
theorem Ev.of (h : Ev s) (h0 : sI s' 0 = sI s 0) (h1 : sI s' 1 = sI s 1) (h4 : sI s' 4 = sI s 4) (a2 : sA s' 2 = sA s 2) (a3 : sA s' 3 = sA s 3) : Ev s' := by
  unfold Ev Par nN at *; rw [h0, h1, h4, a2, a3]; exact h
def Sr (s s' : St) : Prop := (∀ x, x ≠ 22 → sI s' x = sI s x) ∧ (∀ x, sJ s' x = sJ s x) ∧ (∀ t, t ≠ 7 → t ≠ 12 → t ≠ 13 → sA s' t = sA s t) ∧ ∀ t i, sB s' t i = sB s t i
theorem Sr.refl : Sr s s := ⟨fun _ _ => rfl, fun _ => rfl, fun _ _ _ _ => rfl, fun _ _ => rfl⟩
theorem Sr.trans (h : Sr s s1) (g : Sr s1 s2) : Sr s s2 := ⟨fun x hx => (g.1 x hx).trans (h.1 x hx), fun x => (g.2.1 x).trans (h.2.1 x), fun t h1 h2 h3 => (g.2.2.1 t h1 h2 h3).trans (h.2.2.1 t h1 h2 h3), fun t i => (g.2.2.2 t i).trans (h.2.2.2 t i)⟩
theorem Sr.ev (h : Sr s s') (hE : Ev s) : Ev s' := hE.of (h.1 _ (by decide)) (h.1 _ (by decide)) (h.1 _ (by decide)) (h.2.2.1 _ (by decide) (by decide) (by decide)) (h.2.2.1 _ (by decide) (by decide) (by decide))
theorem Sr.nN (h : Sr s s') : nN s' = nN s := by unfold Pj.nN; rw [h.1 _ (by decide)]
theorem sA_fun {t t' i : Nat} {v : Int32} (h : t' ≠ t) : sA (uA s t i v) t' = sA s t' := by funext z; rw [sA_uA, if_neg (fun q => h q.1)]
theorem sA_fI {t x : Nat} {v : Int32} : sA (uI s x v) t = sA s t := by funext z; rw [sA_uI]
theorem Sr_uA {t i : Nat} {v : Int32} (ht : t = 7 ∨ t = 12 ∨ t = 13) : Sr s (uA s t i v) := ⟨fun _ _ => sI_uA, fun _ => sJ_uA, fun t' h1 h2 h3 => sA_fun (by omega), fun _ _ => sB_uA⟩
theorem Sr_uI {v : Int32} : Sr s (uI s 22 v) := ⟨fun x hx => by rw [sI_uI, if_neg hx], fun _ => sJ_uI, fun _ _ _ _ => sA_fI, fun _ _ => sB_uI⟩
theorem ofn {i : Int32} (h : 0 ≤ i.toInt ∧ i.toInt < 1000) : Int32.ofNat i.toNatClampNeg = i := by rw [eq32, Int32.toInt_ofNat_of_lt (by rw [cln]; omega), cln]; omega
theorem ofi {j : Nat} (h : j < 1000) : (Int32.ofNat j).toInt = j ∧ (Int32.ofNat j).toNatClampNeg = j := by
  have e : (Int32.ofNat j).toInt = j := Int32.toInt_ofNat_of_lt (by omega)
  exact ⟨e, by rw [cln, e]; omega⟩
def vid (s : St) (a : Int32) : Bool := decide (¬ a < 1 ∧ ¬ sI s 4 < a)
theorem t7 : Cl (pj lw) 7 [.ref p, .int a] (ob H p s) Q ↔ Q (some (.int (bz (vid s a)))) (ob H p s) := by
  rw [c7]; unfold vid
  by_cases e1 : a < 1
  · simp +decide only [w7_0, w7_1, w7_2, w7_17, w7_18, true_and, false_and, not_true_eq_false, ↓reduceIte, e1, bz]
  · by_cases e2 : sI s 4 < a <;> simp +decide only [w7_0, w7_1, w7_2, w7_5, w7_6, w7_7, w7_10, w7_13, w7_14, w7_17, w7_18, isO_put, true_and, and_true, and_false, not_true_eq_false, not_false_eq_true, ↓reduceIte, g4, e1, e2, bz]
def val (s : St) (a : Int32) : Bool := decide (¬ a < 1 ∧ ¬ sI s 0 < a)
theorem t8 : Cl (pj lw) 8 [.ref p, .int a] (ob H p s) Q ↔ Q (some (.int (bz (val s a)))) (ob H p s) := by
  rw [c8]; unfold val
  by_cases e1 : a < 1
  · simp +decide only [w8_0, w8_1, w8_2, w8_17, w8_18, true_and, false_and, not_true_eq_false, ↓reduceIte, e1, bz]
  · by_cases e2 : sI s 0 < a <;> simp +decide only [w8_0, w8_1, w8_2, w8_5, w8_6, w8_7, w8_10, w8_13, w8_14, w8_17, w8_18, isO_put, true_and, and_true, and_false, not_true_eq_false, not_false_eq_true, ↓reduceIte, g0, e1, e2, bz]
def sib (F M : Nat → Int32) (f j : Nat) : Bool := decide (F j = F f ∧ M j = M f)
def fmB (F M : Nat → Int32) (n f : Nat) : Bool := decide ((1 ≤ f ∧ f ≤ n) ∧ ¬ F f = 0) && !anyN (sib F M f) 1 (f - 1)
theorem vid_rg (h : vid s a = true) (hn : (sI s 4).toInt ≤ 32) : 1 ≤ a.toInt ∧ a.toInt ≤ (sI s 4).toInt ∧ a.toInt ≤ 32 := by
  have := of_decide_eq_true h
  rw [lt32, lt32] at this; simp only [Int32.reduceToInt] at this; omega
theorem vid_n (hE : Ev s) : vid s a = decide (1 ≤ a.toInt ∧ a.toInt ≤ (nN s : Int)) := by
  unfold vid nN; have := hE.1
  refine decide_eq_decide.mpr ?_
  rw [lt32, lt32]; simp only [Int32.reduceToInt]; omega
set_option maxRecDepth 100000 in
theorem l22 (hE : Ev s) (hb : 1 ≤ b.toInt ∧ b.toInt ≤ 32) (m : Nat) : ∀ (j : Int32), j.toInt = b.toInt - m → 1 ≤ j.toInt →
    (W (pj lw) 22 36 [.val (.ref p), .val (.int b), .val (.int (sA s 2 b.toNatClampNeg)), .val (.int (sA s 3 b.toNatClampNeg)), .val (.int j)] [] k n (ob H p s) Q ↔ Q (some (.int (bz (!anyN (sib (sA s 2) (sA s 3) b.toNatClampNeg) j.toNatClampNeg m)))) (ob H p s)) := by
  induction m with
  | zero =>
    intro j h1 h2
    have h3 : ¬ j < b := by rw [lt32]; omega
    rw [w22_36]; simp +decide only [w22_38, w22_39, w22_72, w22_73, true_and, ↓reduceIte, h3, anyN, bz]
  | succ m ih =>
    intro j h1 h2
    have h3 : j < b := by rw [lt32]; omega
    have h4 : (j + 1).toInt = j.toInt + 1 := ia (by simp only [Int32.reduceToInt]; omega) (by simp only [Int32.reduceToInt]; omega)
    have h5 : (j + 1).toNatClampNeg = j.toNatClampNeg + 1 := by rw [cln, cln]; omega
    have hj : 0 ≤ j.toInt ∧ j.toInt < 33 := by omega
    have key := ih (j + 1) (by omega) (by omega)
    rw [h5] at key
    rw [w22_36]; rw [anyN]
    by_cases e1 : sA s 2 j.toNatClampNeg = sA s 2 b.toNatClampNeg
    · by_cases e2 : sA s 3 j.toNatClampNeg = sA s 3 b.toNatClampNeg
      · have e : sib (sA s 2) (sA s 3) b.toNatClampNeg j.toNatClampNeg = true := decide_eq_true ⟨e1, e2⟩
        rw [e]; simp +decide only [w22_38, w22_39, w22_42, w22_43, w22_46, w22_48, w22_49, w22_50, w22_53, w22_54, w22_57, w22_59, w22_60, w22_61, w22_64, w22_65, isO_put, true_and, and_true, true_or, ↓reduceIte, g6, g7, ai2, ae2, ai3, ae3, h3, hj, e1, e2, Bool.true_or, Bool.not_true, bz]
      · have e : sib (sA s 2) (sA s 3) b.toNatClampNeg j.toNatClampNeg = false := decide_eq_false (fun q => e2 q.2)
        rw [e]; simp +decide only [w22_38, w22_39, w22_42, w22_43, w22_46, w22_48, w22_49, w22_50, w22_53, w22_54, w22_57, w22_59, w22_60, w22_61, w22_66, w22_69, isO_put, true_and, and_true, false_or, ↓reduceIte, g6, g7, ai2, ae2, ai3, ae3, h3, hj, e1, e2, Bool.false_or]
        exact key
    · have e : sib (sA s 2) (sA s 3) b.toNatClampNeg j.toNatClampNeg = false := decide_eq_false (fun q => e1 q.1)
      rw [e]; simp +decide only [w22_38, w22_39, w22_42, w22_43, w22_46, w22_48, w22_49, w22_50, w22_66, w22_69, isO_put, true_and, and_true, false_or, ↓reduceIte, g6, ai2, ae2, h3, hj, e1, Bool.false_or]
      exact key
set_option maxRecDepth 100000 in
theorem t22 (hE : Ev s) (h0 : 0 ≤ a.toInt) : Cl (pj lw) 22 [.ref p, .int a] (ob H p s) Q ↔ Q (some (.int (bz (fmB (sA s 2) (sA s 3) (nN s) a.toNatClampNeg)))) (ob H p s) := by
  rw [c22]
  have hn := hE.1
  have hv := vid_n (a := a) hE
  by_cases e : vid s a = true
  · have r := vid_rg e hn.2
    have hj : 0 ≤ a.toInt ∧ a.toInt < 33 := by omega
    rw [e] at hv
    have hv' := of_decide_eq_true hv.symm
    by_cases e1 : sA s 2 a.toNatClampNeg = 0
    · have g : fmB (sA s 2) (sA s 3) (nN s) a.toNatClampNeg = false := by
        unfold fmB; rw [decide_eq_false (fun q => q.2 e1)]; rfl
      rw [g]; simp +decide only [w22_0, w22_1, w22_2, w22_5, w22_8, w22_9, w22_12, w22_13, w22_14, w22_17, w22_18, isO_put, Option.toList_some, List.cons_append, List.nil_append, true_and, and_true, ↓reduceIte, g6, ai2, ae2, t7, e, hj, e1, bz]
    · have g : fmB (sA s 2) (sA s 3) (nN s) a.toNatClampNeg = !anyN (sib (sA s 2) (sA s 3) a.toNatClampNeg) 1 (a.toNatClampNeg - 1) := by
        unfold fmB; rw [decide_eq_true ⟨by rw [cln]; omega, e1⟩]; rfl
      rw [g]; simp +decide only [w22_0, w22_1, w22_2, w22_5, w22_8, w22_9, w22_12, w22_13, w22_14, w22_19, w22_20, w22_23, w22_24, w22_25, w22_26, w22_27, w22_30, w22_31, w22_32, w22_33, w22_34, isO_put, Option.toList_some, List.cons_append, List.nil_append, true_and, and_true, ↓reduceIte, g6, g7, ai2, ae2, ai3, ae3, t7, e, hj, e1, bz_t]
      exact l22 hE (by omega) (a.toNatClampNeg - 1) 1 (by rw [cln]; simp only [Int32.reduceToInt]; omega) (by decide)
  · have e' : vid s a = false := by simpa using e
    rw [e'] at hv
    have hv' := of_decide_eq_false hv.symm
    have g : fmB (sA s 2) (sA s 3) (nN s) a.toNatClampNeg = false := by
      unfold fmB; rw [decide_eq_false (fun q => hv' (by have := q.1; rw [cln] at this; omega))]; rfl
    rw [g]; simp +decide only [w22_0, w22_1, w22_2, w22_5, w22_17, w22_18, isO_put, Option.toList_some, List.cons_append, List.nil_append, true_and, and_true, ↓reduceIte, t7, e', bz]
def kidF (F M : Nat → Int32) (f : Nat) : Nat → Nat → List Nat
  | 0, _ => []
  | m + 1, j => if sib F M f j = true then j :: kidF F M f m (j + 1) else kidF F M f m (j + 1)
def kl (F M : Nat → Int32) (n f : Nat) : List Nat := kidF F M f (n + 1 - f) f
theorem kidF_mem {f : Nat} : ∀ (m j i : Nat), i ∈ kidF F M f m j → (j ≤ i ∧ i < j + m) ∧ sib F M f i = true
  | 0, j, i, h => by cases h
  | m + 1, j, i, h => by
    unfold kidF at h
    by_cases e : sib F M f j = true
    · rw [if_pos e] at h
      rcases List.mem_cons.mp h with rfl | h
      · exact ⟨by omega, e⟩
      · have := kidF_mem m (j + 1) i h; exact ⟨by omega, this.2⟩
    · rw [if_neg e] at h
      have := kidF_mem m (j + 1) i h; exact ⟨by omega, this.2⟩
theorem kl_mem {f nn i : Nat} (h : i ∈ kl F M nn f) : (f ≤ i ∧ i ≤ nn) ∧ sib F M f i = true := by
  have := kidF_mem _ _ _ h; exact ⟨by omega, this.2⟩
theorem kl_self {f nn : Nat} (h : f ≤ nn) : f ∈ kl F M nn f := by
  unfold kl
  obtain ⟨m, hm⟩ : ∃ m, nn + 1 - f = m + 1 := ⟨nn - f, by omega⟩
  rw [hm, kidF, if_pos (show sib F M f f = true from decide_eq_true ⟨rfl, rfl⟩)]
  exact List.mem_cons_self ..
def Kd (s : St) (L : List Nat) : Prop := (sI s 22).toInt = L.length ∧ ∀ k j, L[k]? = some j → sA s 12 k = Int32.ofNat j
theorem Kd.of (h : Kd s L) (h22 : sI s' 22 = sI s 22) (a12 : sA s' 12 = sA s 12) : Kd s' L := by unfold Kd; rw [h22, a12]; exact h
set_option maxRecDepth 100000 in
theorem l23 (hb : 1 ≤ b.toInt ∧ b.toInt ≤ 32) (m : Nat) : ∀ (j : Int32) (L : List Nat) (s : St), Ev s → Kd s L → L.length < j.toInt → j.toInt = (sI s 4).toInt + 1 - m → (b.toInt ≤ j.toInt) →
    (∀ s', Sr s s' → sA s' 7 = sA s 7 → Kd s' (L ++ kidF (sA s 2) (sA s 3) b.toNatClampNeg m j.toNatClampNeg) → Q none (ob H p s')) →
    W (pj lw) 23 22 [.val (.ref p), .val (.int b), .val (.int (sA s 2 b.toNatClampNeg)), .val (.int (sA s 3 b.toNatClampNeg)), .val (.int j)] [] k n (ob H p s) Q := by
  induction m with
  | zero =>
    intro j L s hE hK hl h1 h2 hQ
    have h3 : sI s 4 < j := by rw [lt32]; omega
    rw [w23_22]; simp +decide only [w23_24, w23_25, w23_28, w23_89, isO_put, true_and, ↓reduceIte, g4, h3]
    exact hQ s Sr.refl rfl (by rw [kidF, List.append_nil]; exact hK)
  | succ m ih =>
    intro j L s hE hK hl h1 h2 hQ
    have hn := hE.1
    have h3 : ¬ sI s 4 < j := by rw [lt32]; omega
    have h4 : (j + 1).toInt = j.toInt + 1 := ia (by simp only [Int32.reduceToInt]; omega) (by simp only [Int32.reduceToInt]; omega)
    have h5 : (j + 1).toNatClampNeg = j.toNatClampNeg + 1 := by rw [cln, cln]; omega
    have hj : 0 ≤ j.toInt ∧ j.toInt < 33 := by omega
    rw [w23_22]; rw [kidF] at hQ
    have skip : sib (sA s 2) (sA s 3) b.toNatClampNeg j.toNatClampNeg = false → W (pj lw) 23 22 [.val (.ref p), .val (.int b), .val (.int (sA s 2 b.toNatClampNeg)), .val (.int (sA s 3 b.toNatClampNeg)), .val (.int (j + 1))] [] k n (ob H p s) Q := fun e => by
      rw [e] at hQ
      exact ih (j + 1) L s hE hK (by omega) (by omega) (by omega) (by rw [h5]; exact hQ)
    by_cases e1 : sA s 2 j.toNatClampNeg = sA s 2 b.toNatClampNeg
    · by_cases e2 : sA s 3 j.toNatClampNeg = sA s 3 b.toNatClampNeg
      · have e : sib (sA s 2) (sA s 3) b.toNatClampNeg j.toNatClampNeg = true := decide_eq_true ⟨e1, e2⟩
        have c1 : sI s 22 < 32 := by rw [lt32, hK.1]; simp only [Int32.reduceToInt]; omega
        have c2 : 0 ≤ (sI s 22).toInt ∧ (sI s 22).toInt < 32 := by rw [hK.1]; omega
        have c4 : (sI s 22).toNatClampNeg = L.length := by rw [cln, hK.1]; omega
        have c3 : (sI s 22 + 1).toInt = (sI s 22).toInt + 1 := ia (by simp only [Int32.reduceToInt]; omega) (by simp only [Int32.reduceToInt]; omega)
        simp +decide only [w23_24, w23_25, w23_28, w23_31, w23_32, w23_35, w23_37, w23_38, w23_39, w23_42, w23_43, w23_46, w23_48, w23_49, w23_50, w23_53, w23_54, w23_57, w23_59, w23_62, w23_63, w23_66, w23_67, w23_70, w23_72, w23_73, w23_74, w23_75, w23_78, w23_79, w23_80, w23_83, w23_86, isO_put, isOw_put, okv_int, sI_uA, true_and, and_true, ↓reduceIte, g4, g6, g7, g20, g22, s22, ai2, ae2, ai3, ae3, aw12, as12, h3, hj, e1, e2, c1, c2]
        have es : Sr s (uI (uA s 12 (sI s 22).toNatClampNeg j) 22 (sI s 22 + 1)) := (Sr_uA (by simp)).trans Sr_uI
        have f2 : sA (uI (uA s 12 (sI s 22).toNatClampNeg j) 22 (sI s 22 + 1)) 2 = sA s 2 := es.2.2.1 _ (by decide) (by decide) (by decide)
        have f3 : sA (uI (uA s 12 (sI s 22).toNatClampNeg j) 22 (sI s 22 + 1)) 3 = sA s 3 := es.2.2.1 _ (by decide) (by decide) (by decide)
        have f7 : sA (uI (uA s 12 (sI s 22).toNatClampNeg j) 22 (sI s 22 + 1)) 7 = sA s 7 := by rw [sA_fI, sA_fun (by decide)]
        have f4 : sI (uI (uA s 12 (sI s 22).toNatClampNeg j) 22 (sI s 22 + 1)) 4 = sI s 4 := es.1 _ (by decide)
        have fK : Kd (uI (uA s 12 (sI s 22).toNatClampNeg j) 22 (sI s 22 + 1)) (L ++ [j.toNatClampNeg]) := by
          refine ⟨by rw [sI_uI, if_pos rfl, c3, hK.1]; simp, fun k' j' h' => ?_⟩
          rw [sA_uI, sA_uA]
          by_cases q : k' < L.length
          · rw [List.getElem?_append_left q] at h'
            rw [if_neg (by rw [c4]; omega)]; exact hK.2 k' j' h'
          · rw [List.getElem?_append_right (by omega)] at h'
            have q2 : k' - L.length = 0 := by
              have := (List.getElem?_eq_some_iff.mp h').1; simp at this; omega
            rw [q2] at h'; simp at h'; subst h'
            rw [if_pos ⟨rfl, by rw [c4]; omega⟩, ofn (by omega)]
        rw [e] at hQ; simp only [if_true] at hQ
        have r := ih (j + 1) (L ++ [j.toNatClampNeg]) _ (es.ev hE) fK (by rw [List.length_append, List.length_singleton]; omega) (by rw [f4]; omega) (by omega) (by
          intro s' g1 g2 g3
          rw [f2, f3, h5] at g3
          exact hQ s' (es.trans g1) (g2.trans f7) (by simpa using g3))
        rw [f2, f3] at r
        exact r
      · have e : sib (sA s 2) (sA s 3) b.toNatClampNeg j.toNatClampNeg = false := decide_eq_false (fun q => e2 q.2)
        simp +decide only [w23_24, w23_25, w23_28, w23_31, w23_32, w23_35, w23_37, w23_38, w23_39, w23_42, w23_43, w23_46, w23_48, w23_49, w23_50, w23_83, w23_86, isO_put, true_and, and_true, ↓reduceIte, g4, g6, g7, ai2, ae2, ai3, ae3, h3, hj, e1, e2]
        exact skip e
    · have e : sib (sA s 2) (sA s 3) b.toNatClampNeg j.toNatClampNeg = false := decide_eq_false (fun q => e1 q.1)
      simp +decide only [w23_24, w23_25, w23_28, w23_31, w23_32, w23_35, w23_37, w23_38, w23_39, w23_83, w23_86, isO_put, true_and, and_true, ↓reduceIte, g4, g6, ai2, ae2, h3, hj, e1]
      exact skip e
theorem t23 (hE : Ev s) (hb : 1 ≤ b.toInt ∧ b.toInt ≤ (nN s : Int))
    (hQ : ∀ s', Sr s s' → sA s' 7 = sA s 7 → Kd s' (kl (sA s 2) (sA s 3) (nN s) b.toNatClampNeg) → Q none (ob H p s')) : Cl (pj lw) 23 [.ref p, .int b] (ob H p s) Q := by
  have hn := hE.1
  have hnn : (nN s : Int) = (sI s 4).toInt := by unfold nN; omega
  have hj : 0 ≤ b.toInt ∧ b.toInt < 33 := by omega
  rw [c23]; simp +decide only [w23_0, w23_1, w23_2, w23_5, w23_6, w23_9, w23_10, w23_11, w23_12, w23_13, w23_16, w23_17, w23_18, w23_19, w23_20, isO_put, isOw_put, sA_uI, true_and, and_true, g6, g7, s22, ai2, ae2, ai3, ae3, hj]
  have es : Sr s (uI s 22 0) := Sr_uI
  have r := l23 (p := p) (H := H) (Q := Q) (lw := lw) (k := 0) (n := 0) (b := b) (by omega) (nN s + 1 - b.toNatClampNeg) b [] (uI s 22 0) (es.ev hE) ⟨by rw [sI_uI, if_pos rfl]; rfl, fun k' j' h' => by simp at h'⟩ (by simp; omega) (by rw [es.1 4 (by decide), cln]; omega) (by omega) (by
    intro s' g1 g2 g3
    rw [sA_fI, sA_fI] at g3
    exact hQ s' (es.trans g1) (g2.trans sA_fI) (by simpa [kl] using g3))
  rw [sA_fI, sA_fI] at r
  exact r
def fit (cc : Nat → Int32) (L : List Nat) (m : Int32) : Bool := L.all fun j => decide (¬ cc j &&& m = 0)
def Lb (L : List Nat) : Prop := ∀ j, j ∈ L → 1 ≤ j ∧ j ≤ 32
theorem kl_Lb {f nn : Nat} (h : nn ≤ 32) (hf : 1 ≤ f) : Lb (kl F M nn f) := fun j hj => by have := (kl_mem hj).1; omega
set_option maxRecDepth 100000 in
theorem l24 (hb : Lb L) (hK : Kd s L) (hL : L.length ≤ 32) : ∀ (suf pre : List Nat) (i : Int32), L = pre ++ suf → i.toInt = pre.length →
    (W (pj lw) 24 2 [.val (.ref p), .val (.int a), .val (.int i)] [] k n (ob H p s) Q ↔ Q (some (.int (bz (fit (sA s 7) suf a)))) (ob H p s))
  | [], pre, i, e, hi => by
    have h3 : ¬ i < sI s 22 := by rw [lt32, hK.1, e]; simp; omega
    rw [w24_2]; simp +decide only [w24_3, w24_4, w24_7, w24_34, w24_35, isO_put, true_and, ↓reduceIte, g22, h3, fit, List.all_nil, bz]
  | j :: suf, pre, i, e, hi => by
    have hlen : L.length = pre.length + (suf.length + 1) := by rw [e]; simp
    have h3 : i < sI s 22 := by rw [lt32, hK.1]; omega
    have h4 : (i + 1).toInt = i.toInt + 1 := ia (by simp only [Int32.reduceToInt]; omega) (by simp only [Int32.reduceToInt]; omega)
    have hj : 0 ≤ i.toInt ∧ i.toInt < 32 := by omega
    have jr := hb j (by rw [e]; simp)
    obtain ⟨q1, q2⟩ := ofi (j := j) (by omega)
    have hk := hK.2 i.toNatClampNeg j (by rw [e, List.getElem?_append_right (by rw [cln]; omega)]; rw [show i.toNatClampNeg - pre.length = 0 by rw [cln]; omega]; rfl)
    have hj2 : 0 ≤ (Int32.ofNat j).toInt ∧ (Int32.ofNat j).toInt < 33 := by omega
    have key := l24 hb hK hL suf (pre ++ [j]) (i + 1) (by rw [e]; simp) (by rw [List.length_append, List.length_singleton]; omega)
    rw [w24_2]
    have hf : fit (sA s 7) (j :: suf) a = (decide (¬ sA s 7 j &&& a = 0) && fit (sA s 7) suf a) := by simp only [fit, List.all_cons]
    rw [hf]
    by_cases c1 : sA s 7 j &&& a = 0
    · simp +decide only [w24_3, w24_4, w24_7, w24_10, w24_11, w24_14, w24_15, w24_18, w24_19, w24_20, w24_21, w24_22, w24_23, w24_26, w24_27, isO_put, true_and, and_true, false_and, not_true_eq_false, ↓reduceIte, g11, g20, g22, ai7, ae7, ai12, ae12, h3, hj, hk, hj2, q2, c1, decide_false, Bool.false_and, bz]
    · simp +decide only [w24_3, w24_4, w24_7, w24_10, w24_11, w24_14, w24_15, w24_18, w24_19, w24_20, w24_21, w24_22, w24_23, w24_28, w24_31, isO_put, true_and, and_true, not_false_eq_true, ↓reduceIte, g11, g20, g22, ai7, ae7, ai12, ae12, h3, hj, hk, hj2, q2, c1, decide_true, Bool.true_and]
      exact key
theorem t24 (hb : Lb L) (hK : Kd s L) (hL : L.length ≤ 32) : Cl (pj lw) 24 [.ref p, .int a] (ob H p s) Q ↔ Q (some (.int (bz (fit (sA s 7) L a)))) (ob H p s) := by
  rw [c24]; simp +decide only [w24_0, w24_1]
  exact l24 hb hK hL L [] 0 rfl rfl
def Nk (s : St) (L : List Nat) (nu : Nat → Int32) : Prop := ∀ k j, L[k]? = some j → sA s 13 k = nu j
set_option maxRecDepth 100000 in
theorem l25 (hb : Lb L) (hL : L.length ≤ 32) : ∀ (suf pre : List Nat) (i : Int32) (s : St), Kd s L → L = pre ++ suf → i.toInt = pre.length → (∀ k j, L[k]? = some j → sA s 13 k = if k < pre.length then nu j ||| (sA s 7 j &&& a) else nu j) →
    (∀ s', Sr s s' → sA s' 7 = sA s 7 → Kd s' L → Nk s' L (fun j => nu j ||| (sA s 7 j &&& a)) → Q none (ob H p s')) →
    W (pj lw) 25 2 [.val (.ref p), .val (.int a), .val (.int i)] [] k n (ob H p s) Q
  | [], pre, i, s, hK, e, hi, hN, hQ => by
    have hlen : L.length = pre.length := by rw [e]; simp
    have h3 : ¬ i < sI s 22 := by rw [lt32, hK.1]; omega
    rw [w25_2]; simp +decide only [w25_3, w25_4, w25_7, w25_38, isO_put, true_and, ↓reduceIte, g22, h3]
    exact hQ s Sr.refl rfl hK fun k' j' h' => by
      have := (List.getElem?_eq_some_iff.mp h').1
      rw [hN k' j' h', if_pos (by omega)]
  | j :: suf, pre, i, s, hK, e, hi, hN, hQ => by
    have hlen : L.length = pre.length + (suf.length + 1) := by rw [e]; simp
    have h3 : i < sI s 22 := by rw [lt32, hK.1]; omega
    have h4 : (i + 1).toInt = i.toInt + 1 := ia (by simp only [Int32.reduceToInt]; omega) (by simp only [Int32.reduceToInt]; omega)
    have hj : 0 ≤ i.toInt ∧ i.toInt < 32 := by omega
    have jr := hb j (by rw [e]; simp)
    obtain ⟨q1, q2⟩ := ofi (j := j) (by omega)
    have hi' : i.toNatClampNeg = pre.length := by rw [cln]; omega
    have hLi : L[pre.length]? = some j := by rw [e, List.getElem?_append_right (by omega)]; simp
    have hk := hK.2 i.toNatClampNeg j (by rw [hi']; exact hLi)
    have hj2 : 0 ≤ (Int32.ofNat j).toInt ∧ (Int32.ofNat j).toInt < 33 := by omega
    rw [w25_2]; simp +decide only [w25_3, w25_4, w25_7, w25_10, w25_11, w25_14, w25_15, w25_16, w25_17, w25_18, w25_21, w25_22, w25_25, w25_26, w25_27, w25_28, w25_29, w25_30, w25_31, w25_32, w25_35, isO_put, true_and, and_true, ↓reduceIte, g11, g20, g21, g22, ai7, ae7, ai12, ae12, ai13, aw13, ae13, as13, h3, hj, hk, hj2, q2]
    have es : Sr s (uA s 13 i.toNatClampNeg (sA s 13 i.toNatClampNeg ||| (sA s 7 j &&& a))) := Sr_uA (by simp)
    have f7 : sA (uA s 13 i.toNatClampNeg (sA s 13 i.toNatClampNeg ||| (sA s 7 j &&& a))) 7 = sA s 7 := sA_fun (by decide)
    refine l25 hb hL suf (pre ++ [j]) (i + 1) _ (hK.of sI_uA (sA_fun (by decide))) (by rw [e]; simp) (by rw [List.length_append, List.length_singleton]; omega) (fun k' j' h' => ?_) (fun s' g1 g2 g3 g4 => hQ s' (es.trans g1) (g2.trans f7) g3 (by rw [f7] at g4; exact g4))
    rw [f7, sA_uA, List.length_append, List.length_singleton]
    by_cases z : k' = pre.length
    · subst z
      rw [hLi] at h'; cases h'
      rw [if_pos ⟨rfl, hi'.symm⟩, if_pos (by omega), hi', hN _ _ hLi, if_neg (by omega)]
    · rw [if_neg (by omega), hN k' j' h']
      by_cases z2 : k' < pre.length
      · rw [if_pos z2, if_pos (by omega)]
      · rw [if_neg z2, if_neg (by omega)]
theorem t25 (hb : Lb L) (hL : L.length ≤ 32) (hK : Kd s L) (hN : Nk s L nu)
    (hQ : ∀ s', Sr s s' → sA s' 7 = sA s 7 → Kd s' L → Nk s' L (fun j => nu j ||| (sA s 7 j &&& a)) → Q none (ob H p s')) : Cl (pj lw) 25 [.ref p, .int a] (ob H p s) Q := by
  rw [c25]; simp +decide only [w25_0, w25_1]
  exact l25 hb hL L [] 0 s hK rfl rfl (fun k' j' h' => by rw [if_neg (by simp)]; exact hN k' j' h') hQ
end B

section C
variable {lw : LW} {H : AH} {p : Nat} {s s' s1 s2 : St} {Q : Option Value → AH → Prop} {a b c d x y : Int32} {k n : Nat} {F M KM cc nu : Nat → Int32} {L : List Nat}
def us (l : Slot) : Prop := l = .unset ∨ ∃ v, l = .val (.int v)
theorem us_i {v : Int32} : us (.val (.int v)) := Or.inr ⟨v, rfl⟩
theorem us_u : us .unset := Or.inl rfl
def bt (x : Int32) (g : Nat) : Bool := decide (¬ (x >>> (Int32.ofNat g &&& 31)) &&& 1 = 0)
def hasI (cc : Nat → Int32) (L : List Nat) (KM : Nat → Int32) (ms : Int32) (gf gm : Nat) : Bool := bt ms gm && fit cc L (KM (gf * 10 + gm))
def hasO (cc : Nat → Int32) (L : List Nat) (KM : Nat → Int32) (g : Nat) (fs ms : Int32) (gf : Nat) : Bool := bt fs gf && anyN (hasI cc L KM ms gf) 0 g
def hasA (cc : Nat → Int32) (L : List Nat) (KM : Nat → Int32) (g : Nat) (fs ms : Int32) : Bool := anyN (hasO cc L KM g fs ms) 0 g
theorem ix10 {u v : Int32} (hu : 0 ≤ u.toInt ∧ u.toInt < 10) (hv : 0 ≤ v.toInt ∧ v.toInt < 10) : (0 ≤ (u * 10 + v).toInt ∧ (u * 10 + v).toInt < 100) ∧ (u * 10 + v).toNatClampNeg = u.toNatClampNeg * 10 + v.toNatClampNeg := by
  have i1 : (u * 10 + v).toInt = u.toInt * 10 + v.toInt := by
    rw [idx2 (a := 10) (b := 10) 10 (by decide) hu hv (by omega) (by omega)]; simp only [Int32.reduceToInt]
  exact ⟨by omega, by rw [cln, cln, cln, i1]; omega⟩
theorem bt_i {x i : Int32} (h : 0 ≤ i.toInt ∧ i.toInt < 1000) : bt x i.toNatClampNeg = decide (¬ (x >>> (i &&& 31)) &&& 1 = 0) := by unfold bt; rw [ofn h]
set_option maxRecDepth 100000 in
theorem l26b (hE : Ev s) (hb : Lb L) (hK : Kd s L) (hL : L.length ≤ 32) {f fs ms gf : Int32} (hg : 0 ≤ gf.toInt ∧ gf.toInt < 10) (m : Nat) : ∀ (gm : Int32), gm.toInt = (sI s 1).toInt - m → 0 ≤ gm.toInt →
    (W (pj lw) 26 56 [.val (.ref p), .val (.int f), .val (.int fs), .val (.int ms), .val (.int gf), .val (.int gm)] [] k n (ob H p s) Q ↔ (if anyN (hasI (sA s 7) L (sA s 11) ms gf.toNatClampNeg) gm.toNatClampNeg m = true then Q (some (.int 1)) (ob H p s) else W (pj lw) 26 102 [.val (.ref p), .val (.int f), .val (.int fs), .val (.int ms), .val (.int gf), .val (.int (sI s 1))] [] k n (ob H p s) Q)) := by
  have h10 := hE.2.1
  induction m with
  | zero =>
    intro gm h1 h2
    have h3 : ¬ gm < sI s 1 := by rw [lt32]; omega
    have e : gm = sI s 1 := by rw [eq32]; omega
    rw [w26_56]; simp +decide only [w26_58, w26_59, w26_62, isO_put, true_and, ↓reduceIte, g1, h3, anyN, Bool.false_eq_true]
    rw [e]
  | succ m ih =>
    intro gm h1 h2
    have h3 : gm < sI s 1 := by rw [lt32]; omega
    have h4 : (gm + 1).toInt = gm.toInt + 1 := ia (by simp only [Int32.reduceToInt]; omega) (by simp only [Int32.reduceToInt]; omega)
    have h5 : (gm + 1).toNatClampNeg = gm.toNatClampNeg + 1 := by rw [cln, cln]; omega
    have key := ih (gm + 1) (by omega) (by omega)
    rw [h5] at key
    obtain ⟨i1, i2⟩ := ix10 (u := gf) (v := gm) hg (by omega)
    have hbt := bt_i (x := ms) (i := gm) (by omega)
    rw [w26_56, anyN]
    by_cases e1 : (ms >>> (gm &&& 31)) &&& 1 = 0
    · have e : hasI (sA s 7) L (sA s 11) ms gf.toNatClampNeg gm.toNatClampNeg = false := by unfold hasI; rw [hbt, decide_eq_false (fun q => q e1)]; rfl
      rw [e, Bool.false_or]
      simp +decide only [w26_58, w26_59, w26_62, w26_65, w26_66, w26_68, w26_69, w26_70, w26_71, w26_96, w26_99, isO_put, true_and, ↓reduceIte, g1, h3, e1]
      exact key
    · have e0 : bt ms gm.toNatClampNeg = true := by rw [hbt]; exact decide_eq_true e1
      by_cases e2 : fit (sA s 7) L (sA s 11 (gf.toNatClampNeg * 10 + gm.toNatClampNeg)) = true
      · have e : hasI (sA s 7) L (sA s 11) ms gf.toNatClampNeg gm.toNatClampNeg = true := by unfold hasI; rw [e0, e2]; rfl
        rw [e, Bool.true_or]
        simp +decide only [w26_58, w26_59, w26_62, w26_65, w26_66, w26_68, w26_69, w26_70, w26_71, w26_74, w26_75, w26_76, w26_79, w26_81, w26_83, w26_84, w26_86, w26_87, w26_88, w26_91, w26_94, w26_95, isO_put, Option.toList_some, List.cons_append, List.nil_append, true_and, and_true, ↓reduceIte, g1, g19, ai11, ae11, h3, e1, i1, i2, t24 hb hK hL, e2, bz_t]
      · have e2' : fit (sA s 7) L (sA s 11 (gf.toNatClampNeg * 10 + gm.toNatClampNeg)) = false := by simpa using e2
        have e : hasI (sA s 7) L (sA s 11) ms gf.toNatClampNeg gm.toNatClampNeg = false := by unfold hasI; rw [e0, e2']; rfl
        rw [e, Bool.false_or]
        simp +decide only [w26_58, w26_59, w26_62, w26_65, w26_66, w26_68, w26_69, w26_70, w26_71, w26_74, w26_75, w26_76, w26_79, w26_81, w26_83, w26_84, w26_86, w26_87, w26_88, w26_91, w26_96, w26_99, isO_put, Option.toList_some, List.cons_append, List.nil_append, true_and, and_true, ↓reduceIte, g1, g19, ai11, ae11, h3, e1, i1, i2, t24 hb hK hL, e2', bz_f]
        exact key
set_option maxRecDepth 100000 in
theorem l26 (hE : Ev s) (hb : Lb L) (hK : Kd s L) (hL : L.length ≤ 32) {f fs ms : Int32} (m : Nat) : ∀ (gf : Int32) (l5 : Slot), us l5 → gf.toInt = (sI s 1).toInt - m → 0 ≤ gf.toInt →
    (W (pj lw) 26 32 [.val (.ref p), .val (.int f), .val (.int fs), .val (.int ms), .val (.int gf), l5] [] k n (ob H p s) Q ↔ Q (some (.int (bz (anyN (hasO (sA s 7) L (sA s 11) (gN s) fs ms) gf.toNatClampNeg m)))) (ob H p s)) := by
  have h10 := hE.2.1
  induction m with
  | zero =>
    intro gf l5 hu h1 h2
    have h3 : ¬ gf < sI s 1 := by rw [lt32]; omega
    rw [w26_32]; simp +decide only [w26_34, w26_35, w26_38, w26_108, w26_109, isO_put, true_and, ↓reduceIte, g1, h3, anyN, bz]
  | succ m ih =>
    intro gf l5 hu h1 h2
    have h3 : gf < sI s 1 := by rw [lt32]; omega
    have h4 : (gf + 1).toInt = gf.toInt + 1 := ia (by simp only [Int32.reduceToInt]; omega) (by simp only [Int32.reduceToInt]; omega)
    have h5 : (gf + 1).toNatClampNeg = gf.toNatClampNeg + 1 := by rw [cln, cln]; omega
    have key := fun l5 hu => ih (gf + 1) l5 hu (by omega) (by omega)
    rw [h5] at key
    have hbt := bt_i (x := fs) (i := gf) (by omega)
    rw [w26_32, anyN]
    by_cases e1 : (fs >>> (gf &&& 31)) &&& 1 = 0
    · have e : hasO (sA s 7) L (sA s 11) (gN s) fs ms gf.toNatClampNeg = false := by unfold hasO; rw [hbt, decide_eq_false (fun q => q e1)]; rfl
      rw [e, Bool.false_or]
      simp +decide only [w26_34, w26_35, w26_38, w26_41, w26_42, w26_44, w26_45, w26_46, w26_47, w26_50, w26_102, w26_105, isO_put, true_and, ↓reduceIte, g1, h3, e1]
      exact key l5 hu
    · have e0 : bt fs gf.toNatClampNeg = true := by rw [hbt]; exact decide_eq_true e1
      have in0 := l26b (p := p) (H := H) (Q := Q) (lw := lw) (k := k) (n := n) hE hb hK hL (f := f) (fs := fs) (ms := ms) (gf := gf) (by omega) (gN s) 0 (by unfold gN; simp only [Int32.reduceToInt]; omega) (by decide)
      rw [show (0 : Int32).toNatClampNeg = 0 from rfl] at in0
      have st : W (pj lw) 26 56 [.val (.ref p), .val (.int f), .val (.int fs), .val (.int ms), .val (.int gf), .val (.int 0)] [] k n (ob H p s) Q ↔ Q (some (.int (bz (hasO (sA s 7) L (sA s 11) (gN s) fs ms gf.toNatClampNeg || anyN (hasO (sA s 7) L (sA s 11) (gN s) fs ms) (gf.toNatClampNeg + 1) m)))) (ob H p s) := by
        rw [in0]
        cases e2 : anyN (hasI (sA s 7) L (sA s 11) ms gf.toNatClampNeg) 0 (gN s) with
        | true =>
          have e : hasO (sA s 7) L (sA s 11) (gN s) fs ms gf.toNatClampNeg = true := by unfold hasO; rw [e0, e2]; rfl
          rw [e, if_pos rfl, Bool.true_or]; exact Iff.rfl
        | false =>
          have e : hasO (sA s 7) L (sA s 11) (gN s) fs ms gf.toNatClampNeg = false := by unfold hasO; rw [e0, e2]; rfl
          rw [e, if_neg (by decide), Bool.false_or]
          simp +decide only [w26_102, w26_105]
          exact key _ us_i
      rcases hu with rfl | ⟨v, rfl⟩ <;> simp +decide only [w26_34, w26_35, w26_38, w26_41, w26_42, w26_44, w26_45, w26_46, w26_47, w26_53, w26_54i, w26_54, isO_put, true_and, ↓reduceIte, g1, h3, e1] <;> exact st
theorem par_rg (hE : Ev s) (hb : 1 ≤ b.toInt ∧ b.toInt ≤ (nN s : Int)) (h2 : ¬ sA s 2 b.toNatClampNeg = 0) : (1 ≤ (sA s 2 b.toNatClampNeg).toInt ∧ (sA s 2 b.toNatClampNeg).toInt < b.toInt) ∧ (1 ≤ (sA s 3 b.toNatClampNeg).toInt ∧ (sA s 3 b.toNatClampNeg).toInt < b.toInt) := by
  have := (hE.2.2.2 b.toNatClampNeg (by rw [cln]; omega) (by rw [cln]; omega)).resolve_left (fun q => h2 q.1)
  rw [cln] at *; omega
theorem kl_len {f nn : Nat} (h : nn ≤ 32) (hf : 1 ≤ f) : (kl F M nn f).length ≤ 32 := by
  have : ∀ m j, (kidF F M f m j).length ≤ m := fun m => by
    induction m with
    | zero => intro j; simp [kidF]
    | succ m ih =>
      intro j; unfold kidF; have := ih (j + 1); split
      · simp only [List.length_cons]; omega
      · omega
  have := this (nn + 1 - f) f
  unfold kl; omega
theorem nN_le (hE : Ev s) : nN s ≤ 32 ∧ (nN s : Int) = (sI s 4).toInt := by unfold nN; have := hE.1; omega
set_option maxRecDepth 100000 in
theorem t26 (hE : Ev s) (hb : 1 ≤ b.toInt ∧ b.toInt ≤ (nN s : Int)) (h2 : ¬ sA s 2 b.toNatClampNeg = 0)
    (hQ : ∀ s', Sr s s' → sA s' 7 = sA s 7 → Kd s' (kl (sA s 2) (sA s 3) (nN s) b.toNatClampNeg) → Q (some (.int (bz (hasA (sA s 7) (kl (sA s 2) (sA s 3) (nN s) b.toNatClampNeg) (sA s 11) (gN s) (sA s 7 (sA s 2 b.toNatClampNeg).toNatClampNeg) (sA s 7 (sA s 3 b.toNatClampNeg).toNatClampNeg))))) (ob H p s')) :
    Cl (pj lw) 26 [.ref p, .int b] (ob H p s) Q := by
  obtain ⟨hn, hn'⟩ := nN_le hE
  have r := par_rg hE hb h2
  rw [c26]; simp +decide only [w26_0, w26_1, w26_2, isO_put, true_and, and_true]
  refine t23 hE hb fun s' g1 g2 g3 => ?_
  have f2 : sA s' 2 = sA s 2 := g1.2.2.1 _ (by decide) (by decide) (by decide)
  have f3 : sA s' 3 = sA s 3 := g1.2.2.1 _ (by decide) (by decide) (by decide)
  have f11 : sA s' 11 = sA s 11 := g1.2.2.1 _ (by decide) (by decide) (by decide)
  have i0 : 0 ≤ b.toInt ∧ b.toInt < 33 := by omega
  have i1 : 0 ≤ (sA s 2 b.toNatClampNeg).toInt ∧ (sA s 2 b.toNatClampNeg).toInt < 33 := by omega
  have i2 : 0 ≤ (sA s 3 b.toNatClampNeg).toInt ∧ (sA s 3 b.toNatClampNeg).toInt < 33 := by omega
  have q := l26 (p := p) (H := H) (Q := Q) (lw := lw) (k := 0) (n := 0) (g1.ev hE) (kl_Lb hn (by rw [cln]; omega)) g3 (kl_len hn (by rw [cln]; omega)) (f := b) (fs := sA s 7 (sA s 2 b.toNatClampNeg).toNatClampNeg) (ms := sA s 7 (sA s 3 b.toNatClampNeg).toNatClampNeg) (gN s') 0 .unset us_u (by unfold gN; have := (g1.ev hE).2.1; simp only [Int32.reduceToInt]; omega) (by decide)
  have eg : gN s' = gN s := by unfold gN; rw [g1.1 _ (by decide)]
  rw [g2, f11, eg, show (0 : Int32).toNatClampNeg = 0 from rfl] at q
  simp +decide only [w26_5, w26_6, w26_9, w26_10, w26_13, w26_14, w26_15, w26_16, w26_17, w26_18, w26_21, w26_22, w26_25, w26_26, w26_27, w26_28, w26_29, w26_30, isO_put, Option.toList_none, List.nil_append, true_and, and_true, g2, g6, g7, g11, ai2, ae2, ai3, ae3, ai7, ae7, f2, f3, i0, i1, i2, g2]
  exact q.mpr (hQ s' g1 g2 g3)
def up (cc : Nat → Int32) (i : Nat) (v : Int32) : Nat → Int32 := fun j => if j = i then v else cc j
theorem up_same {i : Nat} : up cc i (cc i) = cc := by funext j; unfold up; split; rename_i h; rw [h]; rfl
theorem sA_up {t i : Nat} {v : Int32} : sA (uA s t i v) t = up (sA s t) i v := by
  funext j; rw [sA_uA]; unfold up; by_cases h : j = i
  · rw [if_pos ⟨rfl, h⟩, if_pos h]
  · rw [if_neg (fun q => h q.2), if_neg h]
def kF (nu : Nat → Int32) : List Nat → (Nat → Int32) → (Nat → Int32)
  | [], cc => cc
  | j :: L, cc => kF nu L (up cc j (cc j &&& nu j))
def kB (nu : Nat → Int32) : List Nat → (Nat → Int32) → Bool
  | [], _ => false
  | j :: L, cc => decide (¬ cc j &&& nu j = cc j) || kB nu L (up cc j (cc j &&& nu j))
set_option maxRecDepth 100000 in
theorem l28 (hb : Lb L) (hL : L.length ≤ 32) {fa mo nf nm : Int32} : ∀ (suf pre : List Nat) (i : Int32) (b : Bool) (l7 : Slot) (s : St), us l7 → Kd s L → Nk s L nu → L = pre ++ suf → i.toInt = pre.length →
    (∀ s', Sr s s' → sA s' 7 = kF nu suf (sA s 7) → Q (some (.int (bz (b || kB nu suf (sA s 7))))) (ob H p s')) →
    W (pj lw) 28 68 [.val (.ref p), .val (.int fa), .val (.int mo), .val (.int nf), .val (.int nm), .val (.int (bz b)), .val (.int i), l7] [] k n (ob H p s) Q
  | [], pre, i, b, l7, s, hu, hK, hN, e, hi, hQ => by
    have hlen : L.length = pre.length := by rw [e]; simp
    have h3 : ¬ i < sI s 22 := by rw [lt32, hK.1]; omega
    have hQ' := hQ s Sr.refl rfl
    rw [kB, Bool.or_false] at hQ'
    rw [w28_68]; simp +decide only [w28_70, w28_71, w28_74, w28_137, w28_139, isO_put, true_and, ↓reduceIte, g22, h3, bz01]
    exact hQ'
  | j :: suf, pre, i, b, l7, s, hu, hK, hN, e, hi, hQ => by
    have hlen : L.length = pre.length + (suf.length + 1) := by rw [e]; simp
    have h3 : i < sI s 22 := by rw [lt32, hK.1]; omega
    have h4 : (i + 1).toInt = i.toInt + 1 := ia (by simp only [Int32.reduceToInt]; omega) (by simp only [Int32.reduceToInt]; omega)
    have hj : 0 ≤ i.toInt ∧ i.toInt < 32 := by omega
    have jr := hb j (by rw [e]; simp)
    obtain ⟨q1, q2⟩ := ofi (j := j) (by omega)
    have hi' : i.toNatClampNeg = pre.length := by rw [cln]; omega
    have hLi : L[i.toNatClampNeg]? = some j := by rw [hi', e, List.getElem?_append_right (by omega)]; simp
    have hk := hK.2 i.toNatClampNeg j hLi
    have hm := hN i.toNatClampNeg j hLi
    have hj2 : 0 ≤ (Int32.ofNat j).toInt ∧ (Int32.ofNat j).toInt < 33 := by omega
    rw [kF, kB] at hQ
    by_cases e1 : sA s 7 j &&& nu j = sA s 7 j
    · have r := fun l7 hu => l28 hb hL (fa := fa) (mo := mo) (nf := nf) (nm := nm) suf (pre ++ [j]) (i + 1) b l7 s hu hK hN (by rw [e]; simp) (by rw [List.length_append, List.length_singleton]; omega) (by
        rw [e1, up_same, decide_eq_false (fun q => q rfl), Bool.false_or] at hQ; exact hQ)
      rw [w28_68]
      rcases hu with rfl | ⟨v, rfl⟩ <;> simp +decide only [w28_70, w28_71, w28_74, w28_77, w28_78, w28_81, w28_83, w28_84i, w28_84, w28_86, w28_87, w28_90, w28_92, w28_93, w28_94, w28_97, w28_99, w28_100, w28_101, w28_102, w28_105, w28_107, w28_108, w28_131, w28_134, isO_put, true_and, and_true, ↓reduceIte, g11, g20, g21, g22, ai7, ae7, ai12, ae12, ai13, ae13, h3, hj, hk, hm, hj2, q2, e1] <;> exact r _ us_i
    · have es : Sr s (uA s 7 j (sA s 7 j &&& nu j)) := Sr_uA (by simp)
      have r := fun l7 hu => l28 hb hL (fa := fa) (mo := mo) (nf := nf) (nm := nm) suf (pre ++ [j]) (i + 1) true l7 (uA s 7 j (sA s 7 j &&& nu j)) hu (hK.of sI_uA (sA_fun (by decide))) (fun k' j' h' => by rw [sA_fun (by decide)]; exact hN k' j' h') (by rw [e]; simp) (by rw [List.length_append, List.length_singleton]; omega) (by
        intro s' g1 g2
        rw [sA_up] at g2
        have := hQ s' (es.trans g1) g2
        rw [decide_eq_true e1, Bool.true_or, Bool.or_true] at this
        rw [Bool.true_or]; exact this)
      rw [w28_68]
      rcases hu with rfl | ⟨v, rfl⟩ <;> simp +decide only [w28_70, w28_71, w28_74, w28_77, w28_78, w28_81, w28_83, w28_84i, w28_84, w28_86, w28_87, w28_90, w28_92, w28_93, w28_94, w28_97, w28_99, w28_100, w28_101, w28_102, w28_105, w28_107, w28_108, w28_111, w28_112, w28_115, w28_117, w28_118, w28_119, w28_120, w28_123, w28_125, w28_126, w28_127, w28_128, w28_129i, w28_131, w28_134, isO_put, true_and, and_true, ↓reduceIte, g11, g20, g21, g22, ai7, aw7, ae7, as7, ai12, ae12, ai13, ae13, h3, hj, hk, hm, hj2, q2, e1] <;> exact r _ us_i
def ap2 (cc : Nat → Int32) (fa mo : Nat) (nf nm : Int32) : Nat → Int32 := up (up cc fa (cc fa &&& nf)) mo (up cc fa (cc fa &&& nf) mo &&& nm)
def apC (cc : Nat → Int32) (fa mo : Nat) (nf nm : Int32) (L : List Nat) (nu : Nat → Int32) : Nat → Int32 := kF nu L (ap2 cc fa mo nf nm)
def apB (cc : Nat → Int32) (fa mo : Nat) (nf nm : Int32) (L : List Nat) (nu : Nat → Int32) : Bool := (decide (¬ cc fa &&& nf = cc fa) || decide (¬ up cc fa (cc fa &&& nf) mo &&& nm = up cc fa (cc fa &&& nf) mo)) || kB nu L (ap2 cc fa mo nf nm)
set_option maxRecDepth 100000 in
theorem t28 (hb : Lb L) (hL : L.length ≤ 32) (hK : Kd s L) (hN : Nk s L nu) {fa mo nf nm : Int32} (h1 : 0 ≤ fa.toInt ∧ fa.toInt < 33) (h2 : 0 ≤ mo.toInt ∧ mo.toInt < 33)
    (hQ : ∀ s', Sr s s' → sA s' 7 = apC (sA s 7) fa.toNatClampNeg mo.toNatClampNeg nf nm L nu → Q (some (.int (bz (apB (sA s 7) fa.toNatClampNeg mo.toNatClampNeg nf nm L nu)))) (ob H p s')) :
    Cl (pj lw) 28 [.ref p, .int fa, .int mo, .int nf, .int nm] (ob H p s) Q := by
  have key : ∀ (z1 : St) (b : Bool), Sr s z1 → sI z1 22 = sI s 22 → sA z1 12 = sA s 12 → sA z1 13 = sA s 13 → sA z1 7 = up (sA s 7) fa.toNatClampNeg (sA s 7 fa.toNatClampNeg &&& nf) → b = decide (¬ sA s 7 fa.toNatClampNeg &&& nf = sA s 7 fa.toNatClampNeg) →
      W (pj lw) 28 33 [.val (.ref p), .val (.int fa), .val (.int mo), .val (.int nf), .val (.int nm), .val (.int (bz b)), .unset, .unset] [] 0 0 (ob H p z1) Q := by
    intro z1 b es e22 e12 e13 e7 eb
    have k2 : ∀ (z2 : St) (b2 : Bool), Sr z1 z2 → sI z2 22 = sI z1 22 → sA z2 12 = sA z1 12 → sA z2 13 = sA z1 13 → sA z2 7 = up (sA z1 7) mo.toNatClampNeg (sA z1 7 mo.toNatClampNeg &&& nm) → b2 = (b || decide (¬ sA z1 7 mo.toNatClampNeg &&& nm = sA z1 7 mo.toNatClampNeg)) →
        W (pj lw) 28 68 [.val (.ref p), .val (.int fa), .val (.int mo), .val (.int nf), .val (.int nm), .val (.int (bz b2)), .val (.int 0), .unset] [] 0 0 (ob H p z2) Q := by
      intro z2 b2 es' e22' e12' e13' e7' eb'
      refine l28 hb hL L [] 0 b2 .unset z2 us_u (hK.of (e22'.trans e22) (e12'.trans e12)) (fun k' j' h' => by rw [e13', e13]; exact hN k' j' h') rfl rfl fun s' g1 g2 => ?_
      have e8 : sA z2 7 = ap2 (sA s 7) fa.toNatClampNeg mo.toNatClampNeg nf nm := by rw [e7', e7]; rfl
      rw [e8] at g2 ⊢
      have := hQ s' ((es.trans es').trans g1) g2
      unfold apB at this; rw [← eb, ← e7, ← eb'] at this; exact this
    by_cases e2 : sA z1 7 mo.toNatClampNeg &&& nm = sA z1 7 mo.toNatClampNeg
    · simp +decide only [w28_33, w28_34, w28_37, w28_38, w28_39, w28_41, w28_42, w28_43, w28_46, w28_47, w28_48, w28_65, w28_66, isO_put, true_and, and_true, ↓reduceIte, g11, ai7, ae7, h2, e2]
      exact k2 z1 b Sr.refl rfl rfl rfl (by rw [e2, up_same]) (by rw [e2]; simp)
    · simp +decide only [w28_33, w28_34, w28_37, w28_38, w28_39, w28_41, w28_42, w28_43, w28_46, w28_47, w28_48, w28_51, w28_52, w28_55, w28_56, w28_57, w28_58, w28_60, w28_61, w28_62, w28_63i, w28_65, w28_66, isO_put, true_and, and_true, ↓reduceIte, g11, ai7, aw7, ae7, as7, h2, e2]
      exact k2 _ true (Sr_uA (by simp)) sI_uA (sA_fun (by decide)) (sA_fun (by decide)) sA_up (by simp [e2])
  rw [c28]
  by_cases e1 : sA s 7 fa.toNatClampNeg &&& nf = sA s 7 fa.toNatClampNeg
  · simp +decide only [w28_0, w28_1, w28_3, w28_4, w28_7, w28_8, w28_9, w28_10, w28_11, w28_12, w28_15, w28_16, w28_17, isO_put, true_and, and_true, ↓reduceIte, g11, ai7, ae7, h1, e1]
    exact key s false Sr.refl rfl rfl rfl (by rw [e1, up_same]) (by rw [e1]; simp)
  · simp +decide only [w28_0, w28_1, w28_3, w28_4, w28_7, w28_8, w28_9, w28_10, w28_11, w28_12, w28_15, w28_16, w28_17, w28_20, w28_21, w28_24, w28_25, w28_26, w28_27, w28_28, w28_29, w28_30, w28_31i, isO_put, true_and, and_true, ↓reduceIte, g11, ai7, aw7, ae7, as7, h1, e1]
    exact key _ true (Sr_uA (by simp)) sI_uA (sA_fun (by decide)) (sA_fun (by decide)) sA_up (by simp [e1])
end C

section D
variable {lw : LW} {H : AH} {p : Nat} {s s' : St} {Q : Option Value → AH → Prop} {a b c d x y : Int32} {k n : Nat} {F M KM cc nu : Nat → Int32} {L : List Nat}
abbrev Dt : Type := (Nat → Int32) × (Nat → Int32) × (Nat → Int32) × Nat × Nat
def dt (s : St) : Dt := (sA s 2, sA s 3, sA s 11, nN s, gN s)
theorem Sr.dt (h : Sr s s') : dt s' = dt s := by
  unfold Pj.dt Pj.nN gN
  rw [h.2.2.1 2 (by decide) (by decide) (by decide), h.2.2.1 3 (by decide) (by decide) (by decide), h.2.2.1 11 (by decide) (by decide) (by decide), h.1 4 (by decide), h.1 1 (by decide)]
def dF (D : Dt) (f : Nat) : Nat := (D.1 f).toNatClampNeg
def dM (D : Dt) (f : Nat) : Nat := (D.2.1 f).toNatClampNeg
def dL (D : Dt) (f : Nat) : List Nat := kl D.1 D.2.1 D.2.2.2.1 f
def dK (D : Dt) : Nat → Int32 := D.2.2.1
def dn (D : Dt) : Nat := D.2.2.2.1
def dg (D : Dt) : Nat := D.2.2.2.2
def fam (D : Dt) (f : Nat) : Bool := fmB D.1 D.2.1 (dn D) f
theorem fam_i {D : Dt} {f : Nat} (h : fam D f = true) : (1 ≤ f ∧ f ≤ dn D) ∧ ¬ D.1 f = 0 := by
  unfold fam fmB at h; rw [Bool.and_eq_true] at h; exact of_decide_eq_true h.1
abbrev Ac : Type := Int32 × Int32 × (Nat → Int32)
def pr1 (cc : Nat → Int32) (L : List Nat) (KM : Nat → Int32) (ms : Int32) (gf gm : Nat) (A : Ac) : Ac := if hasI cc L KM ms gf gm = true then (A.1 ||| 1 <<< (Int32.ofNat gf &&& 31), A.2.1 ||| 1 <<< (Int32.ofNat gm &&& 31), fun j => A.2.2 j ||| (cc j &&& KM (gf * 10 + gm))) else A
def prI (cc : Nat → Int32) (L : List Nat) (KM : Nat → Int32) (ms : Int32) (gf : Nat) : Nat → Nat → Ac → Ac
  | _, 0, A => A
  | gm, m + 1, A => prI cc L KM ms gf (gm + 1) m (pr1 cc L KM ms gf gm A)
def prO (cc : Nat → Int32) (L : List Nat) (KM : Nat → Int32) (fs ms : Int32) (g : Nat) : Nat → Nat → Ac → Ac
  | _, 0, A => A
  | gf, m + 1, A => prO cc L KM fs ms g (gf + 1) m (if bt fs gf = true then prI cc L KM ms gf 0 g A else A)
set_option maxRecDepth 100000 in
theorem l27a (hL : L.length ≤ 32) {f fa mo : Int32} : ∀ (m : Nat) (i : Int32) (s : St), Kd s L → i.toInt = (L.length : Int) - m → 0 ≤ i.toInt → (∀ k : Nat, (k : Int) < i.toInt → sA s 13 k = 0) →
    (∀ s', Sr s s' → sA s' 7 = sA s 7 → Kd s' L → Nk s' L (fun _ => 0) → W (pj lw) 27 45 [.val (.ref p), .val (.int f), .val (.int fa), .val (.int mo), .val (.int (sI s 22)), .unset, .unset, .unset, .unset] [] k n (ob H p s') Q) →
    W (pj lw) 27 22 [.val (.ref p), .val (.int f), .val (.int fa), .val (.int mo), .val (.int i), .unset, .unset, .unset, .unset] [] k n (ob H p s) Q
  | 0, i, s, hK, h1, h2, hz, hQ => by
    have h3 : ¬ i < sI s 22 := by rw [lt32, hK.1]; omega
    have e : i = sI s 22 := by rw [eq32, hK.1]; omega
    rw [w27_22]; simp +decide only [w27_24, w27_25, w27_28, isO_put, true_and, ↓reduceIte, g22, h3]
    rw [e]
    exact hQ s Sr.refl rfl hK fun k' j' h' => by
      have := (List.getElem?_eq_some_iff.mp h').1
      exact hz k' (by omega)
  | m + 1, i, s, hK, h1, h2, hz, hQ => by
    have h3 : i < sI s 22 := by rw [lt32, hK.1]; omega
    have h4 : (i + 1).toInt = i.toInt + 1 := ia (by simp only [Int32.reduceToInt]; omega) (by simp only [Int32.reduceToInt]; omega)
    have hj : 0 ≤ i.toInt ∧ i.toInt < 32 := by omega
    rw [w27_22]; simp +decide only [w27_24, w27_25, w27_28, w27_31, w27_32, w27_35, w27_37, w27_38, w27_39, w27_42, isO_put, true_and, and_true, ↓reduceIte, g21, g22, aw13, as13, h3, hj]
    have es : Sr s (uA s 13 i.toNatClampNeg 0) := Sr_uA (by simp)
    refine l27a hL m (i + 1) _ (hK.of sI_uA (sA_fun (by decide))) (by omega) (by omega) (fun k' h' => ?_) fun s' q1 q2 q3 q4 => ?_
    · rw [sA_uA]
      by_cases z : k' = i.toNatClampNeg
      · rw [if_pos ⟨rfl, z⟩]
      · rw [if_neg (fun q => z q.2)]; exact hz k' (by rw [cln] at z; omega)
    · rw [sI_uA]; exact hQ s' (es.trans q1) (q2.trans (sA_fun (by decide))) q3 q4
set_option maxRecDepth 100000 in
theorem l27b (hb : Lb L) (hL : L.length ≤ 32) {f fa mo gf : Int32} (hm : 0 ≤ mo.toInt ∧ mo.toInt < 33) (hg : 0 ≤ gf.toInt ∧ gf.toInt < 10) : ∀ (m : Nat) (gm : Int32) (A : Ac) (l8 : Slot) (s : St), Ev s → us l8 → Kd s L → Nk s L A.2.2 → gm.toInt = (sI s 1).toInt - m → 0 ≤ gm.toInt →
    (∀ (s' : St) (A' : Ac) (l8 : Slot), us l8 → Sr s s' → sA s' 7 = sA s 7 → Kd s' L → Nk s' L A'.2.2 → A' = prI (sA s 7) L (sA s 11) (sA s 7 mo.toNatClampNeg) gf.toNatClampNeg gm.toNatClampNeg m A → W (pj lw) 27 160 [.val (.ref p), .val (.int f), .val (.int fa), .val (.int mo), .val (.int A'.1), .val (.int A'.2.1), .val (.int gf), .val (.int (sI s 1)), l8] [] k n (ob H p s') Q) →
    W (pj lw) 27 83 [.val (.ref p), .val (.int f), .val (.int fa), .val (.int mo), .val (.int A.1), .val (.int A.2.1), .val (.int gf), .val (.int gm), l8] [] k n (ob H p s) Q
  | 0, gm, A, l8, s, hE, hu, hK, hN, h1, h2, hQ => by
    have h3 : ¬ gm < sI s 1 := by rw [lt32]; omega
    have e : gm = sI s 1 := by rw [eq32]; omega
    rw [w27_83]; simp +decide only [w27_85, w27_86, w27_89, isO_put, true_and, ↓reduceIte, g1, h3]
    have := hQ s A l8 hu Sr.refl rfl hK hN rfl
    rw [e]; exact this
  | m + 1, gm, A, l8, s, hE, hu, hK, hN, h1, h2, hQ => by
    have h10 := hE.2.1
    have h3 : gm < sI s 1 := by rw [lt32]; omega
    have h4 : (gm + 1).toInt = gm.toInt + 1 := ia (by simp only [Int32.reduceToInt]; omega) (by simp only [Int32.reduceToInt]; omega)
    have h5 : (gm + 1).toNatClampNeg = gm.toNatClampNeg + 1 := by rw [cln, cln]; omega
    obtain ⟨i1, i2⟩ := ix10 (u := gf) (v := gm) hg (by omega)
    have hbt := bt_i (x := sA s 7 mo.toNatClampNeg) (i := gm) (by omega)
    have o1 := ofn (i := gf) (by omega)
    have o2 := ofn (i := gm) (by omega)
    rw [prI] at hQ
    have skip : hasI (sA s 7) L (sA s 11) (sA s 7 mo.toNatClampNeg) gf.toNatClampNeg gm.toNatClampNeg = false → ∀ l8, us l8 → W (pj lw) 27 83 [.val (.ref p), .val (.int f), .val (.int fa), .val (.int mo), .val (.int A.1), .val (.int A.2.1), .val (.int gf), .val (.int (gm + 1)), l8] [] k n (ob H p s) Q := fun e l8 hu => by
      refine l27b hb hL hm hg m (gm + 1) A l8 s hE hu hK hN (by omega) (by omega) fun s' A' l8 hu' q1 q2 q3 q4 q5 => hQ s' A' l8 hu' q1 q2 q3 q4 ?_
      rw [q5, h5]; unfold pr1; rw [e]; rfl
    rw [w27_83]
    by_cases e1 : (sA s 7 mo.toNatClampNeg >>> (gm &&& 31)) &&& 1 = 0
    · have e : hasI (sA s 7) L (sA s 11) (sA s 7 mo.toNatClampNeg) gf.toNatClampNeg gm.toNatClampNeg = false := by unfold hasI; rw [hbt, decide_eq_false (fun q => q e1)]; rfl
      rcases hu with rfl | ⟨v, rfl⟩ <;> simp +decide only [w27_85, w27_86, w27_89, w27_92, w27_93, w27_96, w27_98, w27_100, w27_101, w27_103, w27_104, w27_105i, w27_105, w27_107, w27_108, w27_111, w27_112, w27_113, w27_115, w27_116, w27_117, w27_118, w27_154, w27_157, isO_put, true_and, and_true, ↓reduceIte, g1, g11, g19, ai7, ae7, ai11, ae11, h3, hm, i1, i2, e1] <;> exact skip e _ us_i
    · have e0 : bt (sA s 7 mo.toNatClampNeg) gm.toNatClampNeg = true := by rw [hbt]; exact decide_eq_true e1
      by_cases e2 : fit (sA s 7) L (sA s 11 (gf.toNatClampNeg * 10 + gm.toNatClampNeg)) = true
      · have e : hasI (sA s 7) L (sA s 11) (sA s 7 mo.toNatClampNeg) gf.toNatClampNeg gm.toNatClampNeg = true := by unfold hasI; rw [e0, e2]; rfl
        have nx : Cl (pj lw) 25 [.ref p, .int (sA s 11 (gf.toNatClampNeg * 10 + gm.toNatClampNeg))] (ob H p s) (fun v H => W (pj lw) 27 154 [.val (.ref p), .val (.int f), .val (.int fa), .val (.int mo), .val (.int (A.1 ||| 1 <<< (gf &&& 31))), .val (.int (A.2.1 ||| 1 <<< (gm &&& 31))), .val (.int gf), .val (.int gm), .val (.int (sA s 11 (gf.toNatClampNeg * 10 + gm.toNatClampNeg)))] (v.toList ++ []) k n H Q) := by
          refine t25 hb hL hK hN fun s' q1 q2 q3 q4 => ?_
          simp +decide only [w27_154, w27_157, Option.toList_none, List.nil_append]
          have f1 : sI s' 1 = sI s 1 := q1.1 _ (by decide)
          have f11 : sA s' 11 = sA s 11 := q1.2.2.1 _ (by decide) (by decide) (by decide)
          refine l27b hb hL hm hg m (gm + 1) (A.1 ||| 1 <<< (gf &&& 31), A.2.1 ||| 1 <<< (gm &&& 31), fun j => A.2.2 j ||| (sA s 7 j &&& sA s 11 (gf.toNatClampNeg * 10 + gm.toNatClampNeg))) (.val (.int (sA s 11 (gf.toNatClampNeg * 10 + gm.toNatClampNeg)))) s' (q1.ev hE) us_i q3 q4 (by rw [f1]; omega) (by omega) fun s2' A' l8 hu' r1 r2 r3 r4 r5 => ?_
          rw [f1]
          refine hQ s2' A' l8 hu' (q1.trans r1) (r2.trans q2) r3 r4 ?_
          rw [r5, h5, q2, f11]; unfold pr1; rw [if_pos e, o1, o2]
        rcases hu with rfl | ⟨v, rfl⟩ <;> simp +decide only [w27_85, w27_86, w27_89, w27_92, w27_93, w27_96, w27_98, w27_100, w27_101, w27_103, w27_104, w27_105i, w27_105, w27_107, w27_108, w27_111, w27_112, w27_113, w27_115, w27_116, w27_117, w27_118, w27_121, w27_122, w27_124, w27_127, w27_130, w27_132, w27_133, w27_135, w27_136, w27_137i, w27_139, w27_141, w27_142, w27_144, w27_145, w27_146i, w27_148, w27_149, w27_151, isO_put, Option.toList_some, List.cons_append, List.nil_append, true_and, and_true, ↓reduceIte, g1, g11, g19, ai7, ae7, ai11, ae11, h3, hm, i1, i2, e1, t24 hb hK hL, e2, bz_t] <;> exact nx
      · have e2' : fit (sA s 7) L (sA s 11 (gf.toNatClampNeg * 10 + gm.toNatClampNeg)) = false := by simpa using e2
        have e : hasI (sA s 7) L (sA s 11) (sA s 7 mo.toNatClampNeg) gf.toNatClampNeg gm.toNatClampNeg = false := by unfold hasI; rw [e0, e2']; rfl
        rcases hu with rfl | ⟨v, rfl⟩ <;> simp +decide only [w27_85, w27_86, w27_89, w27_92, w27_93, w27_96, w27_98, w27_100, w27_101, w27_103, w27_104, w27_105i, w27_105, w27_107, w27_108, w27_111, w27_112, w27_113, w27_115, w27_116, w27_117, w27_118, w27_121, w27_122, w27_124, w27_127, w27_154, w27_157, isO_put, Option.toList_some, List.cons_append, List.nil_append, true_and, and_true, ↓reduceIte, g1, g11, g19, ai7, ae7, ai11, ae11, h3, hm, i1, i2, e1, t24 hb hK hL, e2', bz_f] <;> exact skip e _ us_i
set_option maxRecDepth 100000 in
theorem l27c (hb : Lb L) (hL : L.length ≤ 32) {f fa mo : Int32} (hf : 0 ≤ fa.toInt ∧ fa.toInt < 33) (hm : 0 ≤ mo.toInt ∧ mo.toInt < 33) : ∀ (m : Nat) (gf : Int32) (A : Ac) (l7 l8 : Slot) (s : St), Ev s → us l7 → us l8 → Kd s L → Nk s L A.2.2 → gf.toInt = (sI s 1).toInt - m → 0 ≤ gf.toInt →
    (∀ (s' : St) (A' : Ac) (l7 l8 : Slot), Sr s s' → sA s' 7 = sA s 7 → Kd s' L → Nk s' L A'.2.2 → A' = prO (sA s 7) L (sA s 11) (sA s 7 fa.toNatClampNeg) (sA s 7 mo.toNatClampNeg) (gN s) gf.toNatClampNeg m A → W (pj lw) 27 166 [.val (.ref p), .val (.int f), .val (.int fa), .val (.int mo), .val (.int A'.1), .val (.int A'.2.1), .val (.int (sI s 1)), l7, l8] [] k n (ob H p s') Q) →
    W (pj lw) 27 54 [.val (.ref p), .val (.int f), .val (.int fa), .val (.int mo), .val (.int A.1), .val (.int A.2.1), .val (.int gf), l7, l8] [] k n (ob H p s) Q
  | 0, gf, A, l7, l8, s, hE, hu7, hu, hK, hN, h1, h2, hQ => by
    have h3 : ¬ gf < sI s 1 := by rw [lt32]; omega
    have e : gf = sI s 1 := by rw [eq32]; omega
    rw [w27_54]; simp +decide only [w27_56, w27_57, w27_60, isO_put, true_and, ↓reduceIte, g1, h3]
    have := hQ s A l7 l8 Sr.refl rfl hK hN rfl
    rw [e]; exact this
  | m + 1, gf, A, l7, l8, s, hE, hu7, hu, hK, hN, h1, h2, hQ => by
    have h10 := hE.2.1
    have h3 : gf < sI s 1 := by rw [lt32]; omega
    have h4 : (gf + 1).toInt = gf.toInt + 1 := ia (by simp only [Int32.reduceToInt]; omega) (by simp only [Int32.reduceToInt]; omega)
    have h5 : (gf + 1).toNatClampNeg = gf.toNatClampNeg + 1 := by rw [cln, cln]; omega
    have hbt := bt_i (x := sA s 7 fa.toNatClampNeg) (i := gf) (by omega)
    rw [prO] at hQ
    rw [w27_54]
    by_cases e1 : (sA s 7 fa.toNatClampNeg >>> (gf &&& 31)) &&& 1 = 0
    · have e0 : bt (sA s 7 fa.toNatClampNeg) gf.toNatClampNeg = false := by rw [hbt]; exact decide_eq_false (fun q => q e1)
      simp +decide only [w27_56, w27_57, w27_60, w27_63, w27_64, w27_67, w27_68, w27_69, w27_71, w27_72, w27_73, w27_74, w27_77, w27_160, w27_163, isO_put, true_and, and_true, ↓reduceIte, g1, g11, ai7, ae7, h3, hf, e1]
      refine l27c hb hL hf hm m (gf + 1) A l7 l8 s hE hu7 hu hK hN (by omega) (by omega) fun s' A' l7 l8 q1 q2 q3 q4 q5 => hQ s' A' l7 l8 q1 q2 q3 q4 ?_
      rw [q5, h5, e0]; rfl
    · have e0 : bt (sA s 7 fa.toNatClampNeg) gf.toNatClampNeg = true := by rw [hbt]; exact decide_eq_true e1
      have nx : ∀ l8, us l8 → W (pj lw) 27 83 [.val (.ref p), .val (.int f), .val (.int fa), .val (.int mo), .val (.int A.1), .val (.int A.2.1), .val (.int gf), .val (.int 0), l8] [] k n (ob H p s) Q := fun l8 hu => by
        refine l27b hb hL hm (by omega) (gN s) 0 A l8 s hE hu hK hN (by unfold gN; simp only [Int32.reduceToInt]; omega) (by decide) fun s' A' l8 hu' q1 q2 q3 q4 q5 => ?_
        have f1 : sI s' 1 = sI s 1 := q1.1 _ (by decide)
        have f11 : sA s' 11 = sA s 11 := q1.2.2.1 _ (by decide) (by decide) (by decide)
        have fg : gN s' = gN s := by unfold gN; rw [f1]
        simp +decide only [w27_160, w27_163]
        refine l27c hb hL hf hm m (gf + 1) A' _ l8 s' (q1.ev hE) us_i hu' q3 q4 (by rw [f1]; omega) (by omega) fun s2' A2 l7 l8 r1 r2 r3 r4 r5 => ?_
        rw [f1]
        refine hQ s2' A2 l7 l8 (q1.trans r1) (r2.trans q2) r3 r4 ?_
        rw [r5, h5, q2, f11, fg, if_pos e0, q5]; rfl
      rcases hu7 with rfl | ⟨v, rfl⟩ <;> simp +decide only [w27_56, w27_57, w27_60, w27_63, w27_64, w27_67, w27_68, w27_69, w27_71, w27_72, w27_73, w27_74, w27_80, w27_81i, w27_81, isO_put, true_and, and_true, ↓reduceIte, g1, g11, ai7, ae7, h3, hf, e1] <;> exact nx l8 hu
def rfA (D : Dt) (cc : Nat → Int32) (f : Nat) : Ac := prO cc (dL D f) (dK D) (cc (dF D f)) (cc (dM D f)) (dg D) 0 (dg D) (0, 0, fun _ => 0)
def rfC (D : Dt) (cc : Nat → Int32) (f : Nat) : Nat → Int32 := apC cc (dF D f) (dM D f) (rfA D cc f).1 (rfA D cc f).2.1 (dL D f) (rfA D cc f).2.2
def rfB (D : Dt) (cc : Nat → Int32) (f : Nat) : Bool := apB cc (dF D f) (dM D f) (rfA D cc f).1 (rfA D cc f).2.1 (dL D f) (rfA D cc f).2.2
set_option maxRecDepth 100000 in
theorem t27 (hE : Ev s) (hb : 1 ≤ b.toInt ∧ b.toInt ≤ (nN s : Int)) (h2 : ¬ sA s 2 b.toNatClampNeg = 0)
    (hQ : ∀ s', Sr s s' → sA s' 7 = rfC (dt s) (sA s 7) b.toNatClampNeg → Q (some (.int (bz (rfB (dt s) (sA s 7) b.toNatClampNeg)))) (ob H p s')) :
    Cl (pj lw) 27 [.ref p, .int b] (ob H p s) Q := by
  obtain ⟨hn, hn'⟩ := nN_le hE
  have r := par_rg hE hb h2
  have hl := kl_Lb (F := sA s 2) (M := sA s 3) (f := b.toNatClampNeg) hn (by rw [cln]; omega)
  have hl2 := kl_len (F := sA s 2) (M := sA s 3) (f := b.toNatClampNeg) hn (by rw [cln]; omega)
  rw [c27]; simp +decide only [w27_0, w27_1, w27_2, isO_put, true_and, and_true]
  refine t23 hE hb fun s' q1 q2 q3 => ?_
  have f2 : sA s' 2 = sA s 2 := q1.2.2.1 _ (by decide) (by decide) (by decide)
  have f3 : sA s' 3 = sA s 3 := q1.2.2.1 _ (by decide) (by decide) (by decide)
  have i0 : 0 ≤ b.toInt ∧ b.toInt < 33 := by omega
  have i1 : 0 ≤ (sA s 2 b.toNatClampNeg).toInt ∧ (sA s 2 b.toNatClampNeg).toInt < 33 := by omega
  have i2 : 0 ≤ (sA s 3 b.toNatClampNeg).toInt ∧ (sA s 3 b.toNatClampNeg).toInt < 33 := by omega
  simp +decide only [w27_5, w27_6, w27_9, w27_10, w27_11, w27_12, w27_13, w27_16, w27_17, w27_18, w27_19, w27_20, isO_put, Option.toList_none, List.nil_append, true_and, and_true, g6, g7, ai2, ae2, ai3, ae3, f2, f3, i0]
  refine l27a hl2 (kl (sA s 2) (sA s 3) (nN s) b.toNatClampNeg).length 0 s' q3 (by simp only [Int32.reduceToInt]; omega) (by decide) (fun k' h' => by simp only [Int32.reduceToInt] at h'; omega) fun s2' r1 r2 r3 r4 => ?_
  simp +decide only [w27_45, w27_46i, w27_48, w27_49, w27_51, w27_52]
  have z := q1.trans r1
  have z7 := r2.trans q2
  refine l27c hl hl2 i1 i2 (gN s2') 0 (0, 0, fun _ => 0) .unset .unset s2' (z.ev hE) us_u us_u r3 r4 (by unfold gN; have := (z.ev hE).2.1; simp only [Int32.reduceToInt]; omega) (by decide) fun s3' A' l7 l8 w1 w2 w3 w4 w5 => ?_
  simp +decide only [w27_166, w27_167, w27_168, w27_169, w27_171, w27_173, isO_put, true_and, and_true]
  refine t28 hl hl2 w3 w4 i1 i2 fun s4' v1 v2 => ?_
  have f11 : sA s2' 11 = sA s 11 := z.2.2.1 _ (by decide) (by decide) (by decide)
  have fg : gN s2' = gN s := by unfold gN; rw [z.1 _ (by decide)]
  rw [z7, f11, fg, show (0 : Int32).toNatClampNeg = 0 from rfl] at w5
  rw [w2, z7, w5] at v2
  have hB := hQ s4' ((z.trans w1).trans v1) v2
  rw [w2, z7, w5]
  simp +decide only [w27_176, Option.toList_some, List.cons_append, List.nil_append, true_and, bz01]
  exact hB
def rd1 (D : Dt) : Nat → Nat → (Nat → Int32) × Bool → (Nat → Int32) × Bool
  | _, 0, A => A
  | f, m + 1, A => rd1 D (f + 1) m (if fam D f = true then (rfC D A.1 f, A.2 || rfB D A.1 f) else A)
def rnd (D : Dt) : Nat → (Nat → Int32) → Nat → Int32
  | 0, cc => cc
  | m + 1, cc => if (rd1 D 1 (dn D) (cc, false)).2 = true then rnd D m (rd1 D 1 (dn D) (cc, false)).1 else (rd1 D 1 (dn D) (cc, false)).1
theorem bz_or (x y : Bool) : bz x ||| bz y = bz (x || y) := by cases x <;> cases y <;> decide
set_option maxRecDepth 100000 in
theorem l20b {D : Dt} {r : Int32} : ∀ (m : Nat) (f : Int32) (A : (Nat → Int32) × Bool) (s : St), Ev s → dt s = D → sA s 7 = A.1 → f.toInt = (sI s 4).toInt + 1 - m → 1 ≤ f.toInt →
    (∀ (s' : St) (A' : (Nat → Int32) × Bool), Sr s s' → sA s' 7 = A'.1 → A' = rd1 D f.toNatClampNeg m A → W (pj lw) 20 43 [.val (.ref p), .val (.int r), .val (.int (bz A'.2)), .val (.int (sI s 4 + 1))] [] k n (ob H p s') Q) →
    W (pj lw) 20 13 [.val (.ref p), .val (.int r), .val (.int (bz A.2)), .val (.int f)] [] k n (ob H p s) Q
  | 0, f, A, s, hE, hD, h7, h1, h2, hQ => by
    have hn := hE.1
    have h3 : sI s 4 < f := by rw [lt32]; omega
    have e : f = sI s 4 + 1 := by rw [eq32, ia (by simp only [Int32.reduceToInt]; omega) (by simp only [Int32.reduceToInt]; omega)]; simp only [Int32.reduceToInt]; omega
    rw [w20_13]; simp +decide only [w20_14, w20_15, w20_18, isO_put, true_and, ↓reduceIte, g4, h3]
    rw [e]; exact hQ s A Sr.refl h7 rfl
  | m + 1, f, A, s, hE, hD, h7, h1, h2, hQ => by
    have hn := hE.1
    obtain ⟨hn1, hn2⟩ := nN_le hE
    have h3 : ¬ sI s 4 < f := by rw [lt32]; omega
    have h4 : (f + 1).toInt = f.toInt + 1 := ia (by simp only [Int32.reduceToInt]; omega) (by simp only [Int32.reduceToInt]; omega)
    have h5 : (f + 1).toNatClampNeg = f.toNatClampNeg + 1 := by rw [cln, cln]; omega
    have T := fun (Q : Option Value → AH → Prop) => t22 (lw := lw) (H := H) (p := p) (Q := Q) (a := f) hE (by omega)
    have ef : fmB (sA s 2) (sA s 3) (nN s) f.toNatClampNeg = fam D f.toNatClampNeg := by rw [← hD]; rfl
    rw [rd1] at hQ
    rw [w20_13]
    cases e : fam D f.toNatClampNeg with
    | false =>
      simp +decide only [w20_14, w20_15, w20_18, w20_21, w20_22, w20_23, w20_26, w20_37, w20_40, isO_put, Option.toList_some, List.cons_append, List.nil_append, true_and, and_true, ↓reduceIte, g4, h3, T, ef, e, bz_f]
      refine l20b m (f + 1) A s hE hD h7 (by omega) (by omega) fun s' A' q1 q2 q3 => hQ s' A' q1 q2 ?_
      rw [q3, h5, if_neg (by rw [e]; decide)]
    | true =>
      simp +decide only [w20_14, w20_15, w20_18, w20_21, w20_22, w20_23, w20_26, w20_29, w20_30, w20_31, w20_32, isO_put, cs_nil, cs_int, Option.toList_some, List.cons_append, List.nil_append, true_and, and_true, ↓reduceIte, Nat.reduceAdd, Int32.reduceAdd, Int64.reduceAdd, Nat.add_zero, Nat.le_refl, g4, h3, T, ef, e, bz_t]
      have hf := fam_i e
      refine t27 hE (by omega) (by have := hf.2; rw [← hD] at this; exact this) fun s' q1 q2 => ?_
      simp +decide only [w20_35, w20_36i, w20_37, w20_40, Option.toList_some, List.cons_append, List.nil_append, bz_or]
      have f4 : sI s' 4 = sI s 4 := q1.1 _ (by decide)
      rw [hD, h7] at q2
      rw [hD, h7]
      refine l20b m (f + 1) (rfC D A.1 f.toNatClampNeg, A.2 || rfB D A.1 f.toNatClampNeg) s' (q1.ev hE) (q1.dt.trans hD) q2 (by rw [f4]; omega) (by omega) fun s2' A' r1 r2 r3 => ?_
      rw [f4]; refine hQ s2' A' (q1.trans r1) r2 ?_
      rw [r3, h5, if_pos e]
set_option maxRecDepth 100000 in
theorem l20 {D : Dt} : ∀ (m : Nat) (r : Int32) (l2 l3 : Slot) (s : St), Ev s → us l2 → us l3 → dt s = D → r.toInt = 330 - m → 0 ≤ r.toInt →
    (∀ s', Sr s s' → sA s' 7 = rnd D m (sA s 7) → Q none (ob H p s')) →
    W (pj lw) 20 2 [.val (.ref p), .val (.int r), l2, l3] [] k n (ob H p s) Q
  | 0, r, l2, l3, s, hE, u2, u3, hD, h1, h2, hQ => by
    have h3 : ¬ r < 330 := by rw [lt32]; simp only [Int32.reduceToInt]; omega
    rw [w20_2]; simp +decide only [w20_3, w20_6, w20_54, ↓reduceIte, h3]
    exact hQ s Sr.refl rfl
  | m + 1, r, l2, l3, s, hE, u2, u3, hD, h1, h2, hQ => by
    have h3 : r < 330 := by rw [lt32]; simp only [Int32.reduceToInt]; omega
    have h4 : (r + 1).toInt = r.toInt + 1 := ia (by simp only [Int32.reduceToInt]; omega) (by simp only [Int32.reduceToInt]; omega)
    have hn := hE.1
    have nx : W (pj lw) 20 13 [.val (.ref p), .val (.int r), .val (.int (bz false)), .val (.int 1)] [] k n (ob H p s) Q := by
      refine l20b (D := D) (nN s) 1 (sA s 7, false) s hE hD rfl (by unfold nN; simp only [Int32.reduceToInt]; omega) (by decide) fun s' A' q1 q2 q3 => ?_
      have en : nN s = dn D := by rw [← hD]; rfl
      rw [en, show (1 : Int32).toNatClampNeg = 1 from rfl] at q3
      rw [rnd] at hQ
      cases e : A'.2 with
      | false =>
        simp +decide only [w20_43, w20_44, w20_47, ↓reduceIte, bz_f]
        refine hQ s' q1 ?_
        rw [← q3, e, q2]; rfl
      | true =>
        simp +decide only [w20_43, w20_44, w20_48, w20_51, ↓reduceIte, bz_t]
        refine l20 m (r + 1) _ _ s' (q1.ev hE) us_i us_i (q1.dt.trans hD) (by omega) (by omega) fun s2' r1 r2 => hQ s2' (q1.trans r1) ?_
        rw [← q3, e, r2, q2]; rfl
    rw [w20_2]
    rcases u2 with rfl | ⟨v, rfl⟩ <;> rcases u3 with rfl | ⟨w, rfl⟩ <;> simp +decide only [w20_3, w20_6, w20_9, w20_10i, w20_10, w20_11, w20_12i, w20_12, ↓reduceIte, h3] <;> exact nx
theorem t20 (hE : Ev s) (hQ : ∀ s', Sr s s' → sA s' 7 = rnd (dt s) 330 (sA s 7) → Q none (ob H p s')) : Cl (pj lw) 20 [.ref p] (ob H p s) Q := by
  rw [c20]; simp +decide only [w20_0, w20_1]
  exact l20 330 0 .unset .unset s hE us_u us_u rfl (by decide) (by decide) hQ
theorem l21 (hE : Ev s) : ∀ (m : Nat) (i : Int32), i.toInt = (sI s 4).toInt + 1 - m → 1 ≤ i.toInt →
    (W (pj lw) 21 2 [.val (.ref p), .val (.int i)] [] k n (ob H p s) Q ↔ Q (some (.int (bz (anyN (fun i => decide (sA s 7 i = 0)) i.toNatClampNeg m)))) (ob H p s))
  | 0, i, h1, h2 => by
    have hn := hE.1
    have h3 : sI s 4 < i := by rw [lt32]; omega
    rw [w21_2]; simp +decide only [w21_3, w21_4, w21_7, w21_27, w21_28, isO_put, true_and, ↓reduceIte, g4, h3, anyN, bz]
  | m + 1, i, h1, h2 => by
    have hn := hE.1
    have h3 : ¬ sI s 4 < i := by rw [lt32]; omega
    have h4 : (i + 1).toInt = i.toInt + 1 := ia (by simp only [Int32.reduceToInt]; omega) (by simp only [Int32.reduceToInt]; omega)
    have h5 : (i + 1).toNatClampNeg = i.toNatClampNeg + 1 := by rw [cln, cln]; omega
    have hj : 0 ≤ i.toInt ∧ i.toInt < 33 := by omega
    have key := l21 hE m (i + 1) (by omega) (by omega)
    rw [h5] at key
    rw [w21_2, anyN]
    by_cases e : sA s 7 i.toNatClampNeg = 0
    · simp +decide only [w21_3, w21_4, w21_7, w21_10, w21_11, w21_14, w21_15, w21_16, w21_19, w21_20, isO_put, true_and, and_true, true_or, ↓reduceIte, g4, g11, ai7, ae7, h3, hj, e, decide_true, Bool.true_or, bz]
    · simp +decide only [w21_3, w21_4, w21_7, w21_10, w21_11, w21_14, w21_15, w21_16, w21_21, w21_24, isO_put, true_and, and_true, false_or, ↓reduceIte, g4, g11, ai7, ae7, h3, hj, e, decide_false, Bool.false_or]
      exact key
def emp (cc : Nat → Int32) (n : Nat) : Bool := anyN (fun i => decide (cc i = 0)) 1 n
theorem t21 (hE : Ev s) : Cl (pj lw) 21 [.ref p] (ob H p s) Q ↔ Q (some (.int (bz (emp (sA s 7) (nN s))))) (ob H p s) := by
  rw [c21]; simp +decide only [w21_0, w21_1]
  exact l21 hE (nN s) 1 (by have := hE.1; unfold nN; simp only [Int32.reduceToInt]; omega) (by decide)
def iv (obs : Nat → Int32) (full : Int32) (i : Nat) : Int32 := if obs i < 0 then full else 1 <<< (obs i &&& 31)
def li (obs : Nat → Int32) (full : Int32) (n j : Nat) (cc : Nat → Int32) : Nat → Int32 := fun i => if j ≤ i ∧ i ≤ n then iv obs full i else cc i
theorem l19 : ∀ (m : Nat) (i : Int32) (s : St), Ev s → i.toInt = (sI s 4).toInt + 1 - m → 1 ≤ i.toInt →
    (∀ s', Sr s s' → sA s' 7 = li (sA s 4) (sI s 2) (nN s) i.toNatClampNeg (sA s 7) → Q none (ob H p s')) → W (pj lw) 19 2 [.val (.ref p), .val (.int i)] [] k n (ob H p s) Q
  | 0, i, s, hE, h1, h2, hQ => by
    have hn := hE.1
    have h3 : sI s 4 < i := by rw [lt32]; omega
    rw [w19_2]; simp +decide only [w19_3, w19_4, w19_7, w19_46, isO_put, true_and, ↓reduceIte, g4, h3]
    refine hQ s Sr.refl ?_
    funext j; unfold li; rw [if_neg (by have := (nN_le hE).2; rw [cln]; omega)]
  | m + 1, i, s, hE, h1, h2, hQ => by
    have hn := hE.1
    have h3 : ¬ sI s 4 < i := by rw [lt32]; omega
    have h4 : (i + 1).toInt = i.toInt + 1 := ia (by simp only [Int32.reduceToInt]; omega) (by simp only [Int32.reduceToInt]; omega)
    have h5 : (i + 1).toNatClampNeg = i.toNatClampNeg + 1 := by rw [cln, cln]; omega
    have hj : 0 ≤ i.toInt ∧ i.toInt < 33 := by omega
    have nx : ∀ v, v = iv (sA s 4) (sI s 2) i.toNatClampNeg → W (pj lw) 19 2 [.val (.ref p), .val (.int (i + 1))] [] k n (ob H p (uA s 7 i.toNatClampNeg v)) Q := fun v hv => by
      have es : Sr s (uA s 7 i.toNatClampNeg v) := Sr_uA (by simp)
      refine l19 m (i + 1) _ (es.ev hE) (by rw [sI_uA]; omega) (by omega) fun s' q1 q2 => hQ s' (es.trans q1) ?_
      rw [q2, sA_fun (by decide), sI_uA, es.nN, sA_up, h5]
      funext j; unfold li up
      by_cases z : j = i.toNatClampNeg
      · subst z
        rw [if_neg (by omega), if_pos rfl, if_pos (by have := (nN_le hE).2; rw [cln]; omega), hv]
      · rw [if_neg z]
        by_cases z2 : i.toNatClampNeg + 1 ≤ j ∧ j ≤ nN s
        · rw [if_pos z2, if_pos (by omega)]
        · rw [if_neg z2, if_neg (by omega)]
    rw [w19_2]
    by_cases e : sA s 4 i.toNatClampNeg < 0
    · simp +decide only [w19_3, w19_4, w19_7, w19_10, w19_11, w19_14, w19_15, w19_16, w19_19, w19_20, w19_21, w19_35, w19_36, w19_39, w19_40, w19_43, isO_put, true_and, and_true, ↓reduceIte, g2, g4, g8, g11, ai4, ae4, aw7, as7, h3, hj, e]
      exact nx _ (by unfold iv; rw [if_pos e])
    · simp +decide only [w19_3, w19_4, w19_7, w19_10, w19_11, w19_14, w19_15, w19_16, w19_19, w19_20, w19_21, w19_24, w19_25, w19_26, w19_29, w19_30, w19_31, w19_32, w19_39, w19_40, w19_43, isO_put, true_and, and_true, ↓reduceIte, g4, g8, g11, ai4, ae4, aw7, as7, h3, hj, e]
      exact nx _ (by unfold iv; rw [if_neg e])
theorem t19 (hE : Ev s) (hQ : ∀ s', Sr s s' → sA s' 7 = li (sA s 4) (sI s 2) (nN s) 1 (sA s 7) → Q none (ob H p s')) : Cl (pj lw) 19 [.ref p] (ob H p s) Q := by
  rw [c19]; simp +decide only [w19_0, w19_1]
  exact l19 (nN s) 1 s hE (by have := hE.1; unfold nN; simp only [Int32.reduceToInt]; omega) (by decide) hQ
end D

section E
variable {lw : LW} {H : AH} {p : Nat} {s s' : St} {Q : Option Value → AH → Prop} {a b c d x y : Int32} {k n : Nat} {cc : Nat → Int32}
def noA (D : Dt) (cc : Nat → Int32) (f : Nat) : Bool := fam D f && !hasA cc (dL D f) (dK D) (dg D) (cc (dF D f)) (cc (dM D f))
def bsz (D : Dt) (f : Nat) : Int32 := 2 + Int32.ofNat (dL D f).length
def bs1 (D : Dt) (cc : Nat → Int32) : Nat → Nat → Int32 × Int32 → Int32 × Int32
  | _, 0, B => B
  | f, m + 1, B => bs1 D cc (f + 1) m (if noA D cc f = true then (if B.1 = 0 ∨ bsz D f < B.2 then (Int32.ofNat f, bsz D f) else B) else B)
set_option maxRecDepth 100000 in
theorem l18 {D : Dt} : ∀ (m : Nat) (f : Int32) (B : Int32 × Int32) (l4 : Slot) (s : St), Ev s → us l4 → dt s = D → f.toInt = (sI s 4).toInt + 1 - m → 1 ≤ f.toInt →
    (∀ (s' : St) (B' : Int32 × Int32) (l4 : Slot), Sr s s' → sA s' 7 = sA s 7 → B' = bs1 D (sA s 7) f.toNatClampNeg m B → W (pj lw) 18 63 [.val (.ref p), .val (.int B'.1), .val (.int B'.2), .val (.int (sI s 4 + 1)), l4] [] k n (ob H p s') Q) →
    W (pj lw) 18 10 [.val (.ref p), .val (.int B.1), .val (.int B.2), .val (.int f), l4] [] k n (ob H p s) Q
  | 0, f, B, l4, s, hE, hu, hD, h1, h2, hQ => by
    have hn := hE.1
    have h3 : sI s 4 < f := by rw [lt32]; omega
    have e : f = sI s 4 + 1 := by rw [eq32, ia (by simp only [Int32.reduceToInt]; omega) (by simp only [Int32.reduceToInt]; omega)]; simp only [Int32.reduceToInt]; omega
    rw [w18_10]; simp +decide only [w18_11, w18_12, w18_15, isO_put, true_and, ↓reduceIte, g4, h3]
    rw [e]; exact hQ s B l4 Sr.refl rfl rfl
  | m + 1, f, B, l4, s, hE, hu, hD, h1, h2, hQ => by
    have hn := hE.1
    obtain ⟨hn1, hn2⟩ := nN_le hE
    have h3 : ¬ sI s 4 < f := by rw [lt32]; omega
    have h4 : (f + 1).toInt = f.toInt + 1 := ia (by simp only [Int32.reduceToInt]; omega) (by simp only [Int32.reduceToInt]; omega)
    have h5 : (f + 1).toNatClampNeg = f.toNatClampNeg + 1 := by rw [cln, cln]; omega
    have T := fun (Q : Option Value → AH → Prop) => t22 (lw := lw) (H := H) (p := p) (Q := Q) (a := f) hE (by omega)
    have ef : fmB (sA s 2) (sA s 3) (nN s) f.toNatClampNeg = fam D f.toNatClampNeg := by rw [← hD]; rfl
    rw [bs1] at hQ
    have nx : ∀ (s' : St) (B' : Int32 × Int32) (l4 : Slot), us l4 → Sr s s' → sA s' 7 = sA s 7 → B' = (if noA D (sA s 7) f.toNatClampNeg = true then (if B.1 = 0 ∨ bsz D f.toNatClampNeg < B.2 then (Int32.ofNat f.toNatClampNeg, bsz D f.toNatClampNeg) else B) else B) → W (pj lw) 18 10 [.val (.ref p), .val (.int B'.1), .val (.int B'.2), .val (.int (f + 1)), l4] [] k n (ob H p s') Q := fun s' B' l4 hu q1 q2 q3 => by
      have f4 : sI s' 4 = sI s 4 := q1.1 _ (by decide)
      refine l18 m (f + 1) B' l4 s' (q1.ev hE) hu (q1.dt.trans hD) (by rw [f4]; omega) (by omega) fun s2' B2 l4 r1 r2 r3 => ?_
      rw [f4]; refine hQ s2' B2 l4 (q1.trans r1) (r2.trans q2) ?_
      rw [r3, h5, q2, q3]
    rw [w18_10]
    cases e : fam D f.toNatClampNeg with
    | false =>
      simp +decide only [w18_11, w18_12, w18_15, w18_18, w18_19, w18_20, w18_23, w18_57, w18_60, isO_put, Option.toList_some, List.cons_append, List.nil_append, true_and, and_true, ↓reduceIte, g4, h3, T, ef, e, bz_f]
      exact nx s B l4 hu Sr.refl rfl (by unfold noA; rw [e]; rfl)
    | true =>
      simp +decide only [w18_11, w18_12, w18_15, w18_18, w18_19, w18_20, w18_23, w18_26, w18_27, w18_28, isO_put, Option.toList_some, List.cons_append, List.nil_append, true_and, and_true, ↓reduceIte, g4, h3, T, ef, e, bz_t]
      have hf := fam_i e
      refine t26 hE (by omega) (by have := hf.2; rw [← hD] at this; exact this) fun s' q1 q2 q3 => ?_
      have eh : hasA (sA s 7) (kl (sA s 2) (sA s 3) (nN s) f.toNatClampNeg) (sA s 11) (gN s) (sA s 7 (sA s 2 f.toNatClampNeg).toNatClampNeg) (sA s 7 (sA s 3 f.toNatClampNeg).toNatClampNeg) = hasA (sA s 7) (dL D f.toNatClampNeg) (dK D) (dg D) (sA s 7 (dF D f.toNatClampNeg)) (sA s 7 (dM D f.toNatClampNeg)) := by rw [← hD]; rfl
      have ek : sI s' 22 = Int32.ofNat (dL D f.toNatClampNeg).length := by
        have e1 : kl (sA s 2) (sA s 3) (nN s) f.toNatClampNeg = dL D f.toNatClampNeg := by rw [← hD]; rfl
        have := kl_len (F := sA s 2) (M := sA s 3) (f := f.toNatClampNeg) hn1 (by rw [cln]; omega)
        rw [e1] at q3 this
        rw [eq32, (ofi (by omega)).1]; exact q3.1
      rw [eh]
      cases e2 : hasA (sA s 7) (dL D f.toNatClampNeg) (dK D) (dg D) (sA s 7 (dF D f.toNatClampNeg)) (sA s 7 (dM D f.toNatClampNeg)) with
      | true =>
        simp +decide only [w18_31, w18_57, w18_60, Option.toList_some, List.cons_append, List.nil_append, ↓reduceIte, bz_t]
        exact nx s' B l4 hu q1 q2 (by unfold noA; rw [e, e2]; rfl)
      | false =>
        have en : noA D (sA s 7) f.toNatClampNeg = true := by unfold noA; rw [e, e2]; rfl
        have eb : 2 + Int32.ofNat (dL D f.toNatClampNeg).length = bsz D f.toNatClampNeg := rfl
        have of1 := ofn (i := f) (by omega)
        rw [en] at nx; simp only [if_true] at nx
        by_cases e3 : B.1 = 0
        · have := fun l4 hu => nx s' (Int32.ofNat f.toNatClampNeg, bsz D f.toNatClampNeg) l4 hu q1 q2 (by rw [if_pos (Or.inl e3)])
          rw [of1] at this
          rcases hu with rfl | ⟨v, rfl⟩ <;> simp +decide only [w18_31, w18_34, w18_35, w18_36, w18_39, w18_40i, w18_40, w18_42, w18_43, w18_52, w18_53i, w18_54, w18_56i, w18_57, w18_60, isO_put, Option.toList_some, List.cons_append, List.nil_append, true_and, ↓reduceIte, g22, bz_f, ek, eb, e3] <;> exact this _ us_i
        · by_cases e4 : bsz D f.toNatClampNeg < B.2
          · have := fun l4 hu => nx s' (Int32.ofNat f.toNatClampNeg, bsz D f.toNatClampNeg) l4 hu q1 q2 (by rw [if_pos (Or.inr e4)])
            rw [of1] at this
            rcases hu with rfl | ⟨v, rfl⟩ <;> simp +decide only [w18_31, w18_34, w18_35, w18_36, w18_39, w18_40i, w18_40, w18_42, w18_43, w18_46, w18_48, w18_49, w18_52, w18_53i, w18_54, w18_56i, w18_57, w18_60, isO_put, Option.toList_some, List.cons_append, List.nil_append, true_and, ↓reduceIte, g22, bz_f, ek, eb, e3, e4] <;> exact this _ us_i
          · have := fun l4 hu => nx s' B l4 hu q1 q2 (by rw [if_neg (fun q => q.elim e3 e4)])
            rcases hu with rfl | ⟨v, rfl⟩ <;> simp +decide only [w18_31, w18_34, w18_35, w18_36, w18_39, w18_40i, w18_40, w18_42, w18_43, w18_46, w18_48, w18_49, w18_57, w18_60, isO_put, Option.toList_some, List.cons_append, List.nil_append, true_and, ↓reduceIte, g22, bz_f, ek, eb, e3, e4] <;> exact this _ us_i
def c0 (s : St) : Nat → Int32 := li (sA s 4) (sI s 2) (nN s) 1 (sA s 7)
def elC (s : St) : Nat → Int32 := rnd (dt s) 330 (c0 s)
def elB (s : St) : Bool := emp (elC s) (nN s)
def elS (s : St) : Int32 := if elB s = true then 2 else 1
def elF (s : St) : Int32 := if elB s = true then (bs1 (dt s) (c0 s) 1 (nN s) (0, 0)).1 else 0
set_option maxRecDepth 100000 in
theorem t18 (hE : Ev s) (hQ : ∀ z, Sr s z → sA z 7 = elC s → Q (some (.int (elS s))) (ob H p (uI (uI (uI z 14 (elS s)) 15 (elF s)) 13 1))) : Cl (pj lw) 18 [.ref p] (ob H p s) Q := by
  have hn := hE.1
  rw [c18]; simp +decide only [w18_0, w18_1, isO_put, true_and, and_true]
  refine t19 hE fun s' q1 q2 => ?_
  simp +decide only [w18_4, w18_5, w18_6, w18_7, w18_8, w18_9, Option.toList_none, List.nil_append]
  have n1 := q1.nN
  refine l18 (D := dt s) (nN s') 1 (0, 0) .unset s' (q1.ev hE) us_u q1.dt (by have := (q1.ev hE).1; unfold nN; simp only [Int32.reduceToInt]; omega) (by decide) fun s2' B' l4 r1 r2 r3 => ?_
  simp +decide only [w18_63, w18_64, isO_put, true_and, and_true]
  have w1 := q1.trans r1
  refine t20 (w1.ev hE) fun s3' v1 v2 => ?_
  have w2 := w1.trans v1
  rw [w1.dt, r2, q2] at v2
  rw [q2, n1, show (1 : Int32).toNatClampNeg = 1 from rfl] at r3
  have eE := w2.ev hE
  have T := fun (Q : Option Value → AH → Prop) => t21 (lw := lw) (H := H) (p := p) (Q := Q) eE
  rw [w2.nN, v2] at T
  have e0 : emp (rnd (dt s) 330 (li (sA s 4) (sI s 2) (nN s) 1 (sA s 7))) (nN s) = elB s := rfl
  rw [e0] at T
  have key := hQ s3' w2 v2
  cases e : elB s with
  | true =>
    have k1 : elS s = 2 := by unfold elS; rw [e]; rfl
    have k2 : elF s = B'.1 := by unfold elF; rw [e, r3]; rfl
    rw [k1, k2] at key
    simp +decide only [w18_67, w18_68, w18_71i, w18_72, w18_73, w18_74, w18_77, w18_78, w18_82, w18_85, w18_86, w18_87, w18_90, w18_91, w18_95, w18_98, w18_99, w18_100, w18_103, w18_104, w18_107, isO_put, isOw_put, okv_int, sI_uI, Option.toList_some, Option.toList_none, List.cons_append, List.nil_append, true_and, and_true, ↓reduceIte, s13, g14, s14, s15, T, e, bz_t]
    exact key
  | false =>
    have k1 : elS s = 1 := by unfold elS; rw [e]; rfl
    have k2 : elF s = 0 := by unfold elF; rw [e]; rfl
    rw [k1, k2] at key
    simp +decide only [w18_67, w18_68, w18_71i, w18_72, w18_73, w18_74, w18_81, w18_82, w18_85, w18_86, w18_87, w18_94, w18_95, w18_98, w18_99, w18_100, w18_103, w18_104, w18_107, isO_put, isOw_put, sI_uI, Option.toList_some, Option.toList_none, List.cons_append, List.nil_append, true_and, and_true, ↓reduceIte, s13, g14, s14, s15, T, e, bz_f]
    exact key
def sta (s : St) : Int32 := if sI s 13 = 0 then 0 else sI s 14
theorem t29 : Cl (pj lw) 29 [.ref p] (ob H p s) Q ↔ Q (some (.int (sta s))) (ob H p s) := by
  rw [c29]; unfold sta; by_cases e : sI s 13 = 0 <;> simp +decide only [w29_0, w29_1, w29_4, w29_7, w29_8, w29_11, w29_14, w29_15, isO_put, true_and, ↓reduceIte, g13, g14, e]
def cfl (s : St) : Int32 := if sI s 13 = 0 then -1 else sI s 15
theorem t32 : Cl (pj lw) 32 [.ref p] (ob H p s) Q ↔ Q (some (.int (cfl s))) (ob H p s) := by
  rw [c32]; unfold cfl; by_cases e : sI s 13 = 0 <;> simp +decide only [w32_0, w32_1, w32_4, w32_7, w32_8, w32_11, w32_14, w32_15, isO_put, true_and, ↓reduceIte, g13, g15, e]
theorem t34 : Cl (pj lw) 34 [.ref p] (ob H p s) Q ↔ Q (some (.int (sI s 4))) (ob H p s) := by
  rw [c34]; simp +decide only [w34_0, w34_1, w34_4, isO_put, true_and, g4]
theorem l31 {v : Int32} {l1 : Slot} : ∀ (m : Nat) (g ct : Int32), g.toInt = 10 - m → 0 ≤ g.toInt →
    (W (pj lw) 31 29 [.val (.ref p), l1, .val (.int v), .val (.int ct), .val (.int g)] [] k n (ob H p s) Q ↔ Q (some (.int (ct + Int32.ofNat (cnt (bt v) g.toNatClampNeg m)))) (ob H p s))
  | 0, g, ct, h1, h2 => by
    have h3 : ¬ g < 10 := by rw [lt32]; simp only [Int32.reduceToInt]; omega
    rw [w31_29]; simp +decide only [w31_31, w31_33, w31_54, w31_55, ↓reduceIte, h3, cnt, add_ofNat_zero]
  | m + 1, g, ct, h1, h2 => by
    have h3 : g < 10 := by rw [lt32]; simp only [Int32.reduceToInt]; omega
    have h4 : (g + 1).toInt = g.toInt + 1 := ia (by simp only [Int32.reduceToInt]; omega) (by simp only [Int32.reduceToInt]; omega)
    have h5 : (g + 1).toNatClampNeg = g.toNatClampNeg + 1 := by rw [cln, cln]; omega
    have key := fun ct => l31 (l1 := l1) (v := v) m (g + 1) ct (by omega) (by omega)
    rw [h5] at key
    have hbt := bt_i (x := v) (i := g) (by omega)
    rw [w31_29, cnt, hbt]
    by_cases e : (v >>> (g &&& 31)) &&& 1 = 0
    · simp +decide only [w31_31, w31_33, w31_36, w31_37, w31_39, w31_40, w31_41, w31_42, w31_48, w31_51, not_true_eq_false, ↓reduceIte, Nat.zero_add, h3, e, decide_false, Bool.false_eq_true, Nat.zero_add]
      exact key ct
    · simp +decide only [w31_31, w31_33, w31_36, w31_37, w31_39, w31_40, w31_41, w31_42, w31_45, w31_48, w31_51, not_false_eq_true, ↓reduceIte, h3, e, decide_true]
      rw [← ofNat_one_add]
      exact key (ct + 1)
def cct (s : St) (a : Int32) : Int32 := if ¬ sI s 13 = 0 ∧ vid s a = true then Int32.ofNat (cnt (bt (sA s 7 a.toNatClampNeg)) 0 10) else -1
theorem t31 (hE : Ev s) : Cl (pj lw) 31 [.ref p, .int a] (ob H p s) Q ↔ Q (some (.int (cct s a))) (ob H p s) := by
  rw [c31]; unfold cct
  by_cases e : sI s 13 = 0
  · rw [if_neg (fun q => q.1 e)]; simp +decide only [w31_0, w31_1, w31_4, w31_15, w31_16, isO_put, true_and, ↓reduceIte, g13, e]
  · by_cases e2 : vid s a = true
    · have r := vid_rg e2 hE.1.2
      have hj : 0 ≤ a.toInt ∧ a.toInt < 33 := by omega
      rw [if_pos ⟨e, e2⟩]; simp +decide only [w31_0, w31_1, w31_4, w31_7, w31_8, w31_9, w31_12, w31_17, w31_18, w31_21, w31_22, w31_23, w31_24, w31_25, w31_26, w31_27, isO_put, Option.toList_some, List.cons_append, List.nil_append, true_and, and_true, ↓reduceIte, g11, g13, ai7, ae7, e, t7, e2, bz_t, hj]
      rw [l31 10 0 0 (by decide) (by decide), Int32.zero_add]; exact Iff.rfl
    · have e2' : vid s a = false := by simpa using e2
      rw [if_neg (fun q => e2 q.2)]; simp +decide only [w31_0, w31_1, w31_4, w31_7, w31_8, w31_9, w31_12, w31_15, w31_16, isO_put, Option.toList_some, List.cons_append, List.nil_append, true_and, and_true, ↓reduceIte, g13, e, t7, e2', bz_f]
theorem ix5 {u v : Int32} (hu : 0 ≤ u.toInt ∧ u.toInt ≤ 4) (hv : 0 ≤ v.toInt ∧ v.toInt ≤ 4) : (0 ≤ (u * 5 + v).toInt ∧ (u * 5 + v).toInt < 25) ∧ (u * 5 + v).toNatClampNeg = u.toNatClampNeg * 5 + v.toNatClampNeg := by
  have i1 : (u * 5 + v).toInt = u.toInt * 5 + v.toInt := by
    rw [idx2 (a := 5) (b := 5) 5 (by decide) (by omega) (by omega) (by omega) (by omega)]; simp only [Int32.reduceToInt]
  exact ⟨by omega, by rw [cln, cln, cln, i1]; omega⟩
theorem val_rg (hE : Ev s) (h : val s a = true) : 1 ≤ a.toInt ∧ a.toInt ≤ (sI s 0).toInt ∧ a.toInt ≤ 4 := by
  have := of_decide_eq_true h
  have := hE.2.2.1
  rw [lt32, lt32] at *; simp only [Int32.reduceToInt] at *; omega
theorem t33 (hE : Ev s) (h0 : 0 ≤ a.toInt) (hQ : ∀ z, Sr s z → sA z 7 = sA s 7 → Q (some (.int (if fam (dt s) a.toNatClampNeg = true then bsz (dt s) a.toNatClampNeg else 0))) (ob H p z)) : Cl (pj lw) 33 [.ref p, .int a] (ob H p s) Q := by
  have ef : fmB (sA s 2) (sA s 3) (nN s) a.toNatClampNeg = fam (dt s) a.toNatClampNeg := rfl
  have T := fun (Q : Option Value → AH → Prop) => t22 (lw := lw) (H := H) (p := p) (Q := Q) (a := a) hE h0
  obtain ⟨hn1, hn2⟩ := nN_le hE
  rw [c33]
  cases e : fam (dt s) a.toNatClampNeg with
  | false =>
    have := hQ s Sr.refl rfl
    rw [e] at this
    simp +decide only [w33_0, w33_1, w33_2, w33_5, w33_8, w33_9, isO_put, Option.toList_some, List.cons_append, List.nil_append, true_and, and_true, ↓reduceIte, T, ef, e, bz_f]; exact this
  | true =>
    simp +decide only [w33_0, w33_1, w33_2, w33_5, w33_10, w33_11, w33_12, isO_put, Option.toList_some, List.cons_append, List.nil_append, true_and, and_true, ↓reduceIte, T, ef, e, bz_t]
    have hf := fam_i e
    have hf1 : 1 ≤ a.toInt ∧ a.toInt ≤ (nN s : Int) := by have := hf.1; rw [cln] at this; have e3 : dn (dt s) = nN s := rfl; omega
    refine t23 hE hf1 fun s' q1 q2 q3 => ?_
    have ek : sI s' 22 = Int32.ofNat (dL (dt s) a.toNatClampNeg).length := by
      have e1 : kl (sA s 2) (sA s 3) (nN s) a.toNatClampNeg = dL (dt s) a.toNatClampNeg := rfl
      have := kl_len (F := sA s 2) (M := sA s 3) (f := a.toNatClampNeg) hn1 (by rw [cln]; omega)
      rw [e1] at q3 this
      rw [eq32, (ofi (by omega)).1]; exact q3.1
    have := hQ s' q1 q2
    rw [e] at this
    simp +decide only [w33_15, w33_16, w33_17, w33_20, w33_21, isO_put, Option.toList_none, List.nil_append, true_and, g22, ek]; exact this
end E

section F
variable {lw : LW} {H : AH} {p : Nat} {s s' : St} {Q : Option Value → AH → Prop} {a b c d x y : Int32} {k n : Nat}
def adR (s : St) (a b c : Int32) : Int32 :=
  if ¬ sI s 4 < 32 then -1 else if ¬ a = 1 ∧ ¬ a = 2 then -2 else if (b = 0 ∧ ¬ c = 0) ∨ (¬ b = 0 ∧ c = 0) then -2 else
  if b = 0 then sI s 4 + 1 else if vid s b = false then -3 else if vid s c = false then -3 else if ¬ sA s 1 b.toNatClampNeg = 1 then -4 else if ¬ sA s 1 c.toNatClampNeg = 2 then -4 else sI s 4 + 1
def adN (s : St) (a b c : Int32) : St := uI (uI (uA (uA (uA (uA (uA (uA (uI s 4 (sI s 4 + 1)) 1 (sI s 4 + 1).toNatClampNeg a) 2 (sI s 4 + 1).toNatClampNeg b) 3 (sI s 4 + 1).toNatClampNeg c) 4 (sI s 4 + 1).toNatClampNeg (-1)) 5 (sI s 4 + 1).toNatClampNeg 0) 6 (sI s 4 + 1).toNatClampNeg 0) 13 0) 12 0
def adS (s : St) (a b c : Int32) : St := if adR s a b c < 0 then s else adN s a b c
set_option maxRecDepth 100000 in
set_option maxHeartbeats 2000000 in
theorem t9 (hE : Ev s) : Cl (pj lw) 9 [.ref p, .int a, .int b, .int c] (ob H p s) Q ↔ Q (some (.int (adR s a b c))) (ob H p (adS s a b c)) := by
  have hn := hE.1
  have end' : ∀ (e32 : sI s 4 < 32), (0 ≤ (sI s 4 + 1).toInt ∧ (sI s 4 + 1).toInt < 33) ∧ ¬ sI s 4 + 1 < 0 := fun e => by
    rw [lt32] at e; simp only [Int32.reduceToInt] at e
    have : (sI s 4 + 1).toInt = (sI s 4).toInt + 1 := ia (by simp only [Int32.reduceToInt]; omega) (by simp only [Int32.reduceToInt]; omega)
    rw [lt32]; simp only [Int32.reduceToInt]; omega
  have m2 : (-1 : Int32) < 0 ∧ (-2 : Int32) < 0 ∧ (-3 : Int32) < 0 ∧ (-4 : Int32) < 0 := by decide
  rw [c9]; unfold adS
  by_cases e32 : sI s 4 < 32
  rotate_left
  · have e : adR s a b c = -1 := by unfold adR; rw [if_pos e32]
    rw [e, if_pos m2.1]; simp +decide only [w9_0, w9_1, w9_4, w9_6, w9_9, w9_10, isO_put, true_and, ↓reduceIte, g4, e32]
  obtain ⟨q1, q2⟩ := end' e32
  by_cases e1 : ¬ a = 1 ∧ ¬ a = 2
  · have e : adR s a b c = -2 := by unfold adR; rw [if_neg (fun q => q e32), if_pos e1]
    rw [e, if_pos m2.2.1]; simp +decide only [w9_0, w9_1, w9_4, w9_6, w9_11, w9_12, w9_13, w9_16, w9_17, w9_18, w9_21, w9_23, isO_put, true_and, ↓reduceIte, g4, e32, e1]
  have main : (W (pj lw) 9 24 [.val (.ref p), .val (.int a), .val (.int b), .val (.int c)] [] 0 0 (ob H p s) Q ↔ Q (some (.int (adR s a b c))) (ob H p (if adR s a b c < 0 then s else adN s a b c))) := by
    by_cases eb : b = 0
    · by_cases ec : c = 0
      · have e : adR s a b c = sI s 4 + 1 := by unfold adR; rw [if_neg (fun q => q e32), if_neg e1, if_neg (fun q => q.elim (fun z => z.2 ec) (fun z => z.1 eb)), if_pos eb]
        rw [e, if_neg q2]; subst eb; subst ec; simp +decide only [w9_24, w9_25, w9_28, w9_29, w9_33, w9_34, w9_37, w9_38, w9_42, w9_48, w9_49, w9_100, w9_101, w9_102, w9_105, w9_106, w9_107, w9_110, w9_111, w9_114, w9_115, w9_118, w9_119, w9_120, w9_121, w9_124, w9_125, w9_128, w9_129, w9_130, w9_131, w9_134, w9_135, w9_138, w9_139, w9_140, w9_141, w9_144, w9_145, w9_148, w9_149, w9_150, w9_151, w9_154, w9_155, w9_158, w9_159, w9_160, w9_161, w9_164, w9_165, w9_168, w9_169, w9_170, w9_171, w9_172, w9_175, w9_176, w9_177, w9_180, w9_181, w9_184, isO_put, isOw_put, okv_int, sI_uI, sI_uA, true_and, and_true, ↓reduceIte, g4, s4, g5, g6, g7, g8, g9, g10, s12, s13, aw1, as1, aw2, as2, aw3, as3, aw4, as4, aw5, as5, aw6, as6, adN, q1]
      · have e : adR s a b c = -2 := by unfold adR; rw [if_neg (fun q => q e32), if_neg e1, if_pos (Or.inl ⟨eb, ec⟩)]
        rw [e, if_pos m2.2.1]; simp +decide only [w9_24, w9_25, w9_28, w9_29, w9_33, w9_34, w9_41, w9_42, w9_45, w9_47, ↓reduceIte, eb, ec]
    · by_cases ec : c = 0
      · have e : adR s a b c = -2 := by unfold adR; rw [if_neg (fun q => q e32), if_neg e1, if_pos (Or.inr ⟨eb, ec⟩)]
        rw [e, if_pos m2.2.1]; simp +decide only [w9_24, w9_25, w9_32, w9_33, w9_34, w9_37, w9_38, w9_42, w9_45, w9_47, ↓reduceIte, eb, ec]
      · have e0 : adR s a b c = if vid s b = false then -3 else if vid s c = false then -3 else if ¬ sA s 1 b.toNatClampNeg = 1 then -4 else if ¬ sA s 1 c.toNatClampNeg = 2 then -4 else sI s 4 + 1 := by
          unfold adR; rw [if_neg (fun q => q e32), if_neg e1, if_neg (fun q => q.elim (fun z => eb z.1) (fun z => ec z.2)), if_neg eb]
        cases v1 : vid s b with
        | false =>
          have e : adR s a b c = -3 := by rw [e0, if_pos v1]
          rw [e, if_pos m2.2.2.1]; simp +decide only [w9_24, w9_25, w9_32, w9_33, w9_34, w9_41, w9_42, w9_48, w9_49, w9_52, w9_53, w9_54, w9_57, w9_60, w9_62, isO_put, Option.toList_some, List.cons_append, List.nil_append, true_and, and_true, ↓reduceIte, eb, ec, t7, v1, bz_f]
        | true =>
          have r1 := vid_rg v1 hn.2
          have i1 : 0 ≤ b.toInt ∧ b.toInt < 33 := by omega
          cases v2 : vid s c with
          | false =>
            have e : adR s a b c = -3 := by rw [e0, if_neg (by rw [v1]; decide), if_pos v2]
            rw [e, if_pos m2.2.2.1]; simp +decide only [w9_24, w9_25, w9_32, w9_33, w9_34, w9_41, w9_42, w9_48, w9_49, w9_52, w9_53, w9_54, w9_57, w9_63, w9_64, w9_65, w9_68, w9_71, w9_73, isO_put, Option.toList_some, List.cons_append, List.nil_append, true_and, and_true, ↓reduceIte, eb, ec, t7, v1, v2, bz_f, bz_t]
          | true =>
            have r2 := vid_rg v2 hn.2
            have i2 : 0 ≤ c.toInt ∧ c.toInt < 33 := by omega
            by_cases x1 : sA s 1 b.toNatClampNeg = 1
            · by_cases x2 : sA s 1 c.toNatClampNeg = 2
              · have e : adR s a b c = sI s 4 + 1 := by rw [e0, if_neg (by rw [v1]; decide), if_neg (by rw [v2]; decide), if_neg (fun q => q x1), if_neg (fun q => q x2)]
                rw [e, if_neg q2]; simp +decide only [w9_24, w9_25, w9_32, w9_33, w9_34, w9_41, w9_42, w9_48, w9_49, w9_52, w9_53, w9_54, w9_57, w9_63, w9_64, w9_65, w9_68, w9_74, w9_75, w9_78, w9_79, w9_80, w9_81, w9_87, w9_88, w9_91, w9_92, w9_93, w9_94, w9_100, w9_101, w9_102, w9_105, w9_106, w9_107, w9_110, w9_111, w9_114, w9_115, w9_118, w9_119, w9_120, w9_121, w9_124, w9_125, w9_128, w9_129, w9_130, w9_131, w9_134, w9_135, w9_138, w9_139, w9_140, w9_141, w9_144, w9_145, w9_148, w9_149, w9_150, w9_151, w9_154, w9_155, w9_158, w9_159, w9_160, w9_161, w9_164, w9_165, w9_168, w9_169, w9_170, w9_171, w9_172, w9_175, w9_176, w9_177, w9_180, w9_181, w9_184, isO_put, isOw_put, okv_int, sI_uI, sI_uA, Option.toList_some, List.cons_append, List.nil_append, true_and, and_true, ↓reduceIte, g4, s4, g5, g6, g7, g8, g9, g10, s12, s13, ai1, aw1, ae1, as1, aw2, as2, aw3, as3, aw4, as4, aw5, as5, aw6, as6, eb, ec, t7, v1, v2, bz_t, i1, i2, x1, x2, adN, q1]
              · have e : adR s a b c = -4 := by rw [e0, if_neg (by rw [v1]; decide), if_neg (by rw [v2]; decide), if_neg (fun q => q x1), if_pos x2]
                rw [e, if_pos m2.2.2.2]; simp +decide only [w9_24, w9_25, w9_32, w9_33, w9_34, w9_41, w9_42, w9_48, w9_49, w9_52, w9_53, w9_54, w9_57, w9_63, w9_64, w9_65, w9_68, w9_74, w9_75, w9_78, w9_79, w9_80, w9_81, w9_87, w9_88, w9_91, w9_92, w9_93, w9_94, w9_97, w9_99, isO_put, Option.toList_some, List.cons_append, List.nil_append, true_and, and_true, ↓reduceIte, g5, ai1, ae1, eb, ec, t7, v1, v2, bz_t, i1, i2, x1, x2]
            · have e : adR s a b c = -4 := by rw [e0, if_neg (by rw [v1]; decide), if_neg (by rw [v2]; decide), if_pos x1]
              rw [e, if_pos m2.2.2.2]; simp +decide only [w9_24, w9_25, w9_32, w9_33, w9_34, w9_41, w9_42, w9_48, w9_49, w9_52, w9_53, w9_54, w9_57, w9_63, w9_64, w9_65, w9_68, w9_74, w9_75, w9_78, w9_79, w9_80, w9_81, w9_84, w9_86, isO_put, Option.toList_some, List.cons_append, List.nil_append, true_and, and_true, ↓reduceIte, g5, ai1, ae1, eb, ec, t7, v1, v2, bz_t, i1, x1]
  by_cases a1 : a = 1
  · simp +decide only [w9_0, w9_1, w9_4, w9_6, w9_11, w9_12, w9_13, isO_put, true_and, ↓reduceIte, g4, e32, a1]; rw [a1] at main; exact main
  · by_cases a2 : a = 2
    · simp +decide only [w9_0, w9_1, w9_4, w9_6, w9_11, w9_12, w9_13, w9_16, w9_17, w9_18, isO_put, true_and, ↓reduceIte, g4, e32, a2]; rw [a2] at main; exact main
    · exact absurd ⟨a1, a2⟩ e1
def obR (s : St) (i a b : Int32) : Int32 := if vid s i = false then -5 else if val s a = true ∧ val s b = true then 0 else -6
def obS (s : St) (i a b : Int32) : St := if obR s i a b = 0 then uI (uA s 4 i.toNatClampNeg (sA s 10 (a * 5 + b).toNatClampNeg)) 13 0 else s
theorem t10 {i : Int32} (hE : Ev s) : Cl (pj lw) 10 [.ref p, .int i, .int a, .int b] (ob H p s) Q ↔ Q (some (.int (obR s i a b))) (ob H p (obS s i a b)) := by
  rw [c10]; unfold obS
  cases e2 : vid s i with
  | false =>
    have e : obR s i a b = -5 := by unfold obR; rw [if_pos e2]
    rw [e, if_neg (by decide)]; simp +decide only [w10_0, w10_1, w10_2, w10_5, w10_8, w10_10, isO_put, Option.toList_some, List.cons_append, List.nil_append, true_and, and_true, ↓reduceIte, t7, e2, bz_f]
  | true =>
    have r := vid_rg e2 hE.1.2
    have hj : 0 ≤ i.toInt ∧ i.toInt < 33 := by omega
    cases e3 : val s a with
    | false =>
      have e : obR s i a b = -6 := by unfold obR; rw [if_neg (by rw [e2]; decide), if_neg (fun q => by rw [e3] at q; exact absurd q.1 (by decide))]
      rw [e, if_neg (by decide)]; simp +decide only [w10_0, w10_1, w10_2, w10_5, w10_11, w10_12, w10_13, w10_16, w10_27, w10_29, isO_put, Option.toList_some, List.cons_append, List.nil_append, true_and, and_true, ↓reduceIte, t7, t8, e2, e3, bz_f, bz_t]
    | true =>
      cases e4 : val s b with
      | false =>
        have e : obR s i a b = -6 := by unfold obR; rw [if_neg (by rw [e2]; decide), if_neg (fun q => by rw [e4] at q; exact absurd q.2 (by decide))]
        rw [e, if_neg (by decide)]; simp +decide only [w10_0, w10_1, w10_2, w10_5, w10_11, w10_12, w10_13, w10_16, w10_19, w10_20, w10_21, w10_24, w10_27, w10_29, isO_put, Option.toList_some, List.cons_append, List.nil_append, true_and, and_true, ↓reduceIte, t7, t8, e2, e3, e4, bz_f, bz_t]
      | true =>
        have r3 := val_rg hE e3
        have r4 := val_rg hE e4
        have hx := (ix5 (u := a) (v := b) (by omega) (by omega)).1
        have e : obR s i a b = 0 := by unfold obR; rw [if_neg (by rw [e2]; decide), if_pos ⟨e3, e4⟩]
        rw [e, if_pos rfl]; simp +decide only [w10_0, w10_1, w10_2, w10_5, w10_11, w10_12, w10_13, w10_16, w10_19, w10_20, w10_21, w10_24, w10_30, w10_31, w10_34, w10_35, w10_36, w10_39, w10_40, w10_41, w10_42, w10_43, w10_44, w10_45, w10_46, w10_47, w10_48, w10_51, w10_52, isO_put, isOw_put, Option.toList_some, List.cons_append, List.nil_append, true_and, and_true, ↓reduceIte, g8, s13, g18, aw4, as4, ai10, ae10, t7, t8, e2, e3, e4, hj, hx, bz_t]
def unR (s : St) (i : Int32) : Int32 := if vid s i = true then 0 else -5
def unS (s : St) (i : Int32) : St := if vid s i = true then uI (uA s 4 i.toNatClampNeg (-1)) 13 0 else s
theorem t11 {i : Int32} (hE : Ev s) : Cl (pj lw) 11 [.ref p, .int i] (ob H p s) Q ↔ Q (some (.int (unR s i))) (ob H p (unS s i)) := by
  rw [c11]; unfold unS unR
  cases e2 : vid s i with
  | false => simp +decide only [w11_0, w11_1, w11_2, w11_5, w11_8, w11_10, isO_put, Option.toList_some, List.cons_append, List.nil_append, true_and, and_true, ↓reduceIte, t7, e2, bz_f]
  | true =>
    have r := vid_rg e2 hE.1.2
    have hj : 0 ≤ i.toInt ∧ i.toInt < 33 := by omega
    simp +decide only [w11_0, w11_1, w11_2, w11_5, w11_11, w11_12, w11_15, w11_16, w11_17, w11_18, w11_19, w11_20, w11_23, w11_24, isO_put, isOw_put, Option.toList_some, List.cons_append, List.nil_append, true_and, and_true, ↓reduceIte, g8, s13, aw4, as4, t7, e2, hj, bz_t]
def csd (a : Int32) : Int32 := if a < 1 then 1 else a
theorem t12 : Cl (pj lw) 12 [.ref p, .int a] (ob H p s) Q ↔ Q none (ob H p (uI s 3 (csd a))) := by
  rw [c12]; unfold csd
  by_cases e : a < 1 <;> simp +decide only [w12_0, w12_1, w12_2, w12_3, w12_6, w12_9, c2, w2_0, w2_1, w2_2, w2_5, w2_6, w2_9, w2_10, isO_put, isOw_put, okv_int, cs_nil, cs_ref, Option.toList_some, List.cons_append, List.nil_append, true_and, and_true, ↓reduceIte, Nat.reduceAdd, Int32.reduceAdd, Int64.reduceAdd, Nat.add_zero, Nat.le_refl, s3, e]
def drw (s : St) : Int32 := sI s 3 * 1103515245 + 12345
def drv (s : St) : Int32 := Jvm.Free.XT.ushr (drw s) 16 &&& 32767
theorem t13 : Cl (pj lw) 13 [.ref p] (ob H p s) Q ↔ Q (some (.int (drv s))) (ob H p (uI s 3 (drw s))) := by
  rw [c13]; simp +decide only [w13_0, w13_1, w13_2, w13_5, w13_7, w13_8, w13_11, w13_12, w13_15, w13_16, w13_19, w13_21, w13_22, w13_25, w13_26, isO_put, isOw_put, okv_int, sI_uI, true_and, and_true, ↓reduceIte, g3, s3, drv, drw]
def inh (s : St) (a : Int32) : Int32 := if drv s &&& 1 = 0 then sA s 5 a.toNatClampNeg else sA s 6 a.toNatClampNeg
theorem t14 (h : 0 ≤ a.toInt ∧ a.toInt < 33) : Cl (pj lw) 14 [.ref p, .int a] (ob H p s) Q ↔ Q (some (.int (inh s a))) (ob H p (uI s 3 (drw s))) := by
  rw [c14]; unfold inh
  by_cases e : drv s &&& 1 = 0 <;> simp +decide only [w14_0, w14_1, w14_4, w14_5, w14_6, w14_7, w14_8, w14_11, w14_12, w14_15, w14_16, w14_17, w14_20, w14_21, w14_24, w14_25, w14_26, isO_put, sA_uI, Option.toList_some, List.cons_append, List.nil_append, true_and, and_true, ↓reduceIte, g9, g10, ai5, ae5, ai6, ae6, t13, h, e]
def Dp (s : St) (i : Nat) : Prop := (sA s 2 i = 0 → (1 ≤ (sA s 5 i).toInt ∧ (sA s 5 i).toInt ≤ (sI s 0).toInt) ∧ (1 ≤ (sA s 6 i).toInt ∧ (sA s 6 i).toInt ≤ (sI s 0).toInt)) ∧
  (¬ sA s 2 i = 0 → (sA s 5 i = sA s 5 (sA s 2 i).toNatClampNeg ∨ sA s 5 i = sA s 6 (sA s 2 i).toNatClampNeg) ∧ (sA s 6 i = sA s 5 (sA s 3 i).toNatClampNeg ∨ sA s 6 i = sA s 6 (sA s 3 i).toNatClampNeg))
def Sp (s s' : St) : Prop := (∀ x, x ≠ 3 → sI s' x = sI s x) ∧ (∀ x, sJ s' x = sJ s x) ∧ (∀ t, t ≠ 5 → t ≠ 6 → sA s' t = sA s t) ∧ ∀ t i, sB s' t i = sB s t i
theorem Sp.refl : Sp s s := ⟨fun _ _ => rfl, fun _ => rfl, fun _ _ _ => rfl, fun _ _ => rfl⟩
theorem Sp.trans {s1' s2' : St} (h : Sp s s1') (g : Sp s1' s2') : Sp s s2' := ⟨fun x hx => (g.1 x hx).trans (h.1 x hx), fun x => (g.2.1 x).trans (h.2.1 x), fun t h1 h2 => (g.2.2.1 t h1 h2).trans (h.2.2.1 t h1 h2), fun t i => (g.2.2.2 t i).trans (h.2.2.2 t i)⟩
theorem Sp.ev (h : Sp s s') (hE : Ev s) : Ev s' := hE.of (h.1 _ (by decide)) (h.1 _ (by decide)) (h.1 _ (by decide)) (h.2.2.1 _ (by decide) (by decide)) (h.2.2.1 _ (by decide) (by decide))
theorem Sp_uI {v : Int32} : Sp s (uI s 3 v) := ⟨fun x hx => by rw [sI_uI, if_neg hx], fun _ => sJ_uI, fun _ _ _ => sA_fI, fun _ _ => sB_uI⟩
theorem Sp_uA {t i : Nat} {v : Int32} (ht : t = 5 ∨ t = 6) : Sp s (uA s t i v) := ⟨fun _ _ => sI_uA, fun _ => sJ_uA, fun t' h1 h2 => sA_fun (by omega), fun _ _ => sB_uA⟩
theorem Dp_of {i j : Nat} (hE : Ev s) (h : Sp s s') (hi : 1 ≤ i ∧ i ≤ nN s ∧ i < j) (h5 : ∀ x, x ≠ j → sA s' 5 x = sA s 5 x) (h6 : ∀ x, x ≠ j → sA s' 6 x = sA s 6 x) (hd : Dp s i) : Dp s' i := by
  have f2 : sA s' 2 = sA s 2 := h.2.2.1 _ (by decide) (by decide)
  have f3 : sA s' 3 = sA s 3 := h.2.2.1 _ (by decide) (by decide)
  unfold Dp; rw [f2, f3, h.1 0 (by decide), h5 i (by omega), h6 i (by omega)]
  refine ⟨hd.1, fun h0 => ?_⟩
  have r := (hE.2.2.2 i (by omega) (by omega)).resolve_left (fun q => h0 q.1)
  rw [h5 _ (by rw [cln]; omega), h6 _ (by rw [cln]; omega), h5 _ (by rw [cln]; omega), h6 _ (by rw [cln]; omega)]
  exact hd.2 h0
theorem nlt {u v : Int32} (h : 1 ≤ u.toInt ∧ u.toInt < v.toInt) : ¬ u.toNatClampNeg = v.toNatClampNeg := by rw [cln, cln]; omega
theorem drv_rg : 0 ≤ (drv s).toInt := (and_rg (by decide)).1
theorem al_rg {v m : Int32} (hv : 0 ≤ v.toInt) (hm : 2 ≤ m.toInt ∧ m.toInt ≤ 4) : 1 ≤ (1 + v % m).toInt ∧ (1 + v % m).toInt ≤ m.toInt := by
  have := rem_rg (x := v) (m := m) hv (by omega)
  rw [ia (by simp only [Int32.reduceToInt]; omega) (by simp only [Int32.reduceToInt]; omega)]; simp only [Int32.reduceToInt]; omega
set_option maxRecDepth 100000 in
theorem l15 : ∀ (m : Nat) (i : Int32) (l2 l3 : Slot) (s : St), Ev s → us l2 → us l3 → i.toInt = (sI s 4).toInt + 1 - m → 1 ≤ i.toInt → (∀ j : Nat, 1 ≤ j → (j : Int) < i.toInt → Dp s j) →
    (∀ z, Sp s z → (∀ j, 1 ≤ j → j ≤ nN s → Dp z j) → Q (some (.int (sI s 4))) (ob H p (uI z 12 1))) → W (pj lw) 15 2 [.val (.ref p), .val (.int i), l2, l3] [] k n (ob H p s) Q
  | 0, i, l2, l3, s, hE, u2, u3, h1, h2, hd, hQ => by
    have hn := hE.1
    have h3 : sI s 4 < i := by rw [lt32]; omega
    rw [w15_2]; simp +decide only [w15_3, w15_4, w15_7, w15_98, w15_99, w15_100, w15_103, w15_104, w15_107, isO_put, isOw_put, sI_uI, true_and, and_true, ↓reduceIte, g4, s12, h3]
    exact hQ s Sp.refl fun j a1 a2 => hd j a1 (by have := (nN_le hE).2; omega)
  | m + 1, i, l2, l3, s, hE, u2, u3, h1, h2, hd, hQ => by
    have hn := hE.1
    obtain ⟨hn1, hn2⟩ := nN_le hE
    have h3 : ¬ sI s 4 < i := by rw [lt32]; omega
    have h4 : (i + 1).toInt = i.toInt + 1 := ia (by simp only [Int32.reduceToInt]; omega) (by simp only [Int32.reduceToInt]; omega)
    have hj : 0 ≤ i.toInt ∧ i.toInt < 33 := by omega
    have ha := hE.2.2.1
    have n0 : ¬ sI s 0 = 0 := by rw [eq32]; simp only [Int32.reduceToInt]; omega
    have nx : ∀ (z : St) (l2 l3 : Slot), us l2 → us l3 → Sp s z → (∀ x, x ≠ i.toNatClampNeg → sA z 5 x = sA s 5 x) → (∀ x, x ≠ i.toNatClampNeg → sA z 6 x = sA s 6 x) → Dp z i.toNatClampNeg → W (pj lw) 15 2 [.val (.ref p), .val (.int (i + 1)), l2, l3] [] k n (ob H p z) Q := fun z l2 l3 u2 u3 hz h5 h6 hdz => by
      have f4 : sI z 4 = sI s 4 := hz.1 _ (by decide)
      refine l15 m (i + 1) l2 l3 z (hz.ev hE) u2 u3 (by rw [f4]; omega) (by omega) (fun j a1 a2 => ?_) fun z2 r1 r2 => ?_
      · by_cases e : j = i.toNatClampNeg
        · subst e; exact hdz
        · rw [cln] at e
          exact Dp_of (j := i.toNatClampNeg) hE hz ⟨a1, by omega, by rw [cln]; omega⟩ h5 h6 (hd j a1 (by omega))
      · rw [f4]; refine hQ z2 (hz.trans r1) fun j a1 a2 => r2 j a1 ?_
        unfold nN; rw [f4]; exact a2
    rw [w15_2]
    by_cases e : sA s 2 i.toNatClampNeg = 0
    · have r1 := al_rg (drv_rg (s := s)) ha
      have fz : ∀ v w x y, Sp s (uA (uI (uA (uI s 3 v) 5 i.toNatClampNeg w) 3 x) 6 i.toNatClampNeg y) := fun v w x y => ((Sp_uI.trans (Sp_uA (by simp))).trans Sp_uI).trans (Sp_uA (by simp))
      have fin : ∀ (v x : Int32) (w y : Int32), (1 ≤ w.toInt ∧ w.toInt ≤ (sI s 0).toInt) → (1 ≤ y.toInt ∧ y.toInt ≤ (sI s 0).toInt) → ∀ l2 l3, us l2 → us l3 → W (pj lw) 15 2 [.val (.ref p), .val (.int (i + 1)), l2, l3] [] k n (ob H p (uA (uI (uA (uI s 3 v) 5 i.toNatClampNeg w) 3 x) 6 i.toNatClampNeg y)) Q := fun v x w y hw hy l2 l3 u2 u3 => by
        refine nx _ l2 l3 u2 u3 (fz v w x y) (fun q hq => by simp +decide only [sA_uA, sA_uI, hq, and_false, false_and, ↓reduceIte]) (fun q hq => by simp +decide only [sA_uA, sA_uI, hq, and_false, false_and, ↓reduceIte]) ?_
        have z0 : sI (uA (uI (uA (uI s 3 v) 5 i.toNatClampNeg w) 3 x) 6 i.toNatClampNeg y) 0 = sI s 0 := (fz v w x y).1 0 (by decide)
        have z2 : sA (uA (uI (uA (uI s 3 v) 5 i.toNatClampNeg w) 3 x) 6 i.toNatClampNeg y) 2 = sA s 2 := (fz v w x y).2.2.1 2 (by decide) (by decide)
        have z5 : sA (uA (uI (uA (uI s 3 v) 5 i.toNatClampNeg w) 3 x) 6 i.toNatClampNeg y) 5 i.toNatClampNeg = w := by simp +decide only [sA_uA, sA_uI, and_self, false_and, ↓reduceIte]
        have z6 : sA (uA (uI (uA (uI s 3 v) 5 i.toNatClampNeg w) 3 x) 6 i.toNatClampNeg y) 6 i.toNatClampNeg = y := by simp +decide only [sA_uA, sA_uI, and_self, ↓reduceIte]
        unfold Dp; rw [z0, z2, z5, z6]
        exact ⟨fun _ => ⟨hw, hy⟩, fun q => absurd e q⟩
      rcases u2 with rfl | ⟨v, rfl⟩ <;> rcases u3 with rfl | ⟨w, rfl⟩ <;> simp +decide only [w15_3, w15_4, w15_7, w15_10, w15_11, w15_14, w15_15, w15_16, w15_19, w15_20, w15_23i, w15_23, w15_24, w15_25, w15_28, w15_29, w15_30, w15_31, w15_32, w15_35, w15_36, w15_37, w15_38, w15_39, w15_42i, w15_42, w15_43, w15_44, w15_47, w15_48, w15_49, w15_50, w15_51, w15_54, w15_55, w15_56, w15_57, w15_92, w15_95, isO_put, sI_uI, sI_uA, Option.toList_some, List.cons_append, List.nil_append, true_and, and_true, not_false_eq_true, ↓reduceIte, g0, g4, g6, g9, g10, ai2, ae2, aw5, as5, aw6, as6, h3, hj, e, t13, n0] <;> exact fin _ _ _ _ (al_rg drv_rg ha) (al_rg drv_rg ha) _ _ us_i us_i
    · have r := par_rg hE (b := i) (by omega) e
      have i1 : 0 ≤ (sA s 2 i.toNatClampNeg).toInt ∧ (sA s 2 i.toNatClampNeg).toInt < 33 := by omega
      have i2 : 0 ≤ (sA s 3 i.toNatClampNeg).toInt ∧ (sA s 3 i.toNatClampNeg).toInt < 33 := by omega
      have fz : ∀ v w x y, Sp s (uA (uI (uA (uI s 3 v) 5 i.toNatClampNeg w) 3 x) 6 i.toNatClampNeg y) := fun v w x y => ((Sp_uI.trans (Sp_uA (by simp))).trans Sp_uI).trans (Sp_uA (by simp))
      have fin : ∀ (v x : Int32) (w y : Int32), (w = sA s 5 (sA s 2 i.toNatClampNeg).toNatClampNeg ∨ w = sA s 6 (sA s 2 i.toNatClampNeg).toNatClampNeg) → (y = sA s 5 (sA s 3 i.toNatClampNeg).toNatClampNeg ∨ y = sA s 6 (sA s 3 i.toNatClampNeg).toNatClampNeg) → W (pj lw) 15 2 [.val (.ref p), .val (.int (i + 1)), l2, l3] [] k n (ob H p (uA (uI (uA (uI s 3 v) 5 i.toNatClampNeg w) 3 x) 6 i.toNatClampNeg y)) Q := fun v x w y hw hy => by
        refine nx _ l2 l3 u2 u3 (fz v w x y) (fun q hq => by simp +decide only [sA_uA, sA_uI, hq, and_false, false_and, ↓reduceIte]) (fun q hq => by simp +decide only [sA_uA, sA_uI, hq, and_false, false_and, ↓reduceIte]) ?_
        have z2 : sA (uA (uI (uA (uI s 3 v) 5 i.toNatClampNeg w) 3 x) 6 i.toNatClampNeg y) 2 = sA s 2 := (fz v w x y).2.2.1 2 (by decide) (by decide)
        have z3 : sA (uA (uI (uA (uI s 3 v) 5 i.toNatClampNeg w) 3 x) 6 i.toNatClampNeg y) 3 = sA s 3 := (fz v w x y).2.2.1 3 (by decide) (by decide)
        have z5 : sA (uA (uI (uA (uI s 3 v) 5 i.toNatClampNeg w) 3 x) 6 i.toNatClampNeg y) 5 i.toNatClampNeg = w := by simp +decide only [sA_uA, sA_uI, and_self, false_and, ↓reduceIte]
        have z6 : sA (uA (uI (uA (uI s 3 v) 5 i.toNatClampNeg w) 3 x) 6 i.toNatClampNeg y) 6 i.toNatClampNeg = y := by simp +decide only [sA_uA, sA_uI, and_self, ↓reduceIte]
        have o5 : ∀ q, q ≠ i.toNatClampNeg → sA (uA (uI (uA (uI s 3 v) 5 i.toNatClampNeg w) 3 x) 6 i.toNatClampNeg y) 5 q = sA s 5 q := fun q hq => by simp +decide only [sA_uA, sA_uI, hq, and_false, false_and, ↓reduceIte]
        have o6 : ∀ q, q ≠ i.toNatClampNeg → sA (uA (uI (uA (uI s 3 v) 5 i.toNatClampNeg w) 3 x) 6 i.toNatClampNeg y) 6 q = sA s 6 q := fun q hq => by simp +decide only [sA_uA, sA_uI, hq, and_false, false_and, ↓reduceIte]
        unfold Dp; rw [z2, z3, z5, z6, o5 _ (nlt r.1), o6 _ (nlt r.1), o5 _ (nlt r.2), o6 _ (nlt r.2)]
        exact ⟨fun q => absurd q e, fun _ => ⟨hw, hy⟩⟩
      have q0 : ∀ v w, sA (uA (uI s 3 v) 5 i.toNatClampNeg w) 3 i.toNatClampNeg = sA s 3 i.toNatClampNeg := fun v w => by simp +decide only [sA_uA, sA_uI, false_and, ↓reduceIte]
      simp +decide only [w15_3, w15_4, w15_7, w15_10, w15_11, w15_14, w15_15, w15_16, w15_60, w15_61, w15_64, w15_65, w15_66, w15_67, w15_70, w15_71, w15_72, w15_75, w15_76, w15_77, w15_80, w15_81, w15_82, w15_83, w15_86, w15_87, w15_88, w15_91, w15_92, w15_95, isO_put, cs_nil, cs_int, cs_ref, Option.toList_some, List.cons_append, List.nil_append, true_and, and_true, ↓reduceIte, Nat.reduceAdd, Int32.reduceAdd, Int64.reduceAdd, Nat.add_zero, Nat.le_refl, g4, g6, g7, g9, g10, ai2, ae2, ai3, ae3, aw5, as5, aw6, as6, h3, hj, e, t14 i1, q0, t14 i2]
      have i5 : ∀ v w, (inh (uA (uI s 3 v) 5 i.toNatClampNeg w) (sA s 3 i.toNatClampNeg) = sA s 5 (sA s 3 i.toNatClampNeg).toNatClampNeg ∨ inh (uA (uI s 3 v) 5 i.toNatClampNeg w) (sA s 3 i.toNatClampNeg) = sA s 6 (sA s 3 i.toNatClampNeg).toNatClampNeg) := fun v w => by
        have hne := nlt r.2
        unfold inh; simp +decide only [sA_uA, sA_uI, hne, and_false, false_and, ↓reduceIte]; split
        · exact Or.inl rfl
        · exact Or.inr rfl
      exact fin _ _ _ _ (by unfold inh; split; exact Or.inl rfl; exact Or.inr rfl) (i5 _ _)
theorem t15 (hE : Ev s) (hQ : ∀ z, Sp s z → (∀ j, 1 ≤ j → j ≤ nN s → Dp z j) → Q (some (.int (sI s 4))) (ob H p (uI z 12 1))) : Cl (pj lw) 15 [.ref p] (ob H p s) Q := by
  rw [c15]; simp +decide only [w15_0, w15_1]
  exact l15 (nN s) 1 .unset .unset s hE us_u us_u (by have := hE.1; unfold nN; simp only [Int32.reduceToInt]; omega) (by decide) (fun j a1 a2 => by simp only [Int32.reduceToInt] at a2; omega) hQ
def odR (s : St) (i : Int32) : Int32 := if vid s i = false then -5 else if sI s 12 = 0 then -7 else 0
def odS (s : St) (i : Int32) : St := if odR s i = 0 then uI (uA s 4 i.toNatClampNeg (sA s 10 (sA s 5 i.toNatClampNeg * 5 + sA s 6 i.toNatClampNeg).toNatClampNeg)) 13 0 else s
theorem t16 {i : Int32} (hE : Ev s) (hd : ¬ sI s 12 = 0 → ∀ j, 1 ≤ j → j ≤ nN s → (0 ≤ (sA s 5 j).toInt ∧ (sA s 5 j).toInt ≤ 4) ∧ (0 ≤ (sA s 6 j).toInt ∧ (sA s 6 j).toInt ≤ 4)) : Cl (pj lw) 16 [.ref p, .int i] (ob H p s) Q ↔ Q (some (.int (odR s i))) (ob H p (odS s i)) := by
  rw [c16]; unfold odS
  cases e2 : vid s i with
  | false =>
    have e : odR s i = -5 := by unfold odR; rw [if_pos e2]
    rw [e, if_neg (by decide)]; simp +decide only [w16_0, w16_1, w16_2, w16_5, w16_8, w16_10, isO_put, Option.toList_some, List.cons_append, List.nil_append, true_and, and_true, ↓reduceIte, t7, e2, bz_f]
  | true =>
    have r := vid_rg e2 hE.1.2
    have hj : 0 ≤ i.toInt ∧ i.toInt < 33 := by omega
    by_cases e3 : sI s 12 = 0
    · have e : odR s i = -7 := by unfold odR; rw [if_neg (by rw [e2]; decide), if_pos e3]
      rw [e, if_neg (by decide)]; simp +decide only [w16_0, w16_1, w16_2, w16_5, w16_11, w16_12, w16_15, w16_18, w16_20, isO_put, Option.toList_some, List.cons_append, List.nil_append, true_and, and_true, ↓reduceIte, g12, t7, e2, e3, bz_t]
    · have q := hd e3 i.toNatClampNeg (by rw [cln]; omega) (by have := (nN_le hE).2; rw [cln]; omega)
      have hx := (ix5 q.1 q.2).1
      have e : odR s i = 0 := by unfold odR; rw [if_neg (by rw [e2]; decide), if_neg e3]
      rw [e, if_pos rfl]; simp +decide only [w16_0, w16_1, w16_2, w16_5, w16_11, w16_12, w16_15, w16_21, w16_22, w16_25, w16_26, w16_27, w16_30, w16_31, w16_34, w16_35, w16_36, w16_37, w16_38, w16_39, w16_42, w16_43, w16_44, w16_45, w16_46, w16_47, w16_48, w16_49, w16_52, w16_53, isO_put, isOw_put, Option.toList_some, List.cons_append, List.nil_append, true_and, and_true, ↓reduceIte, g8, g9, g10, g12, s13, g18, aw4, as4, ai5, ae5, ai6, ae6, ai10, ae10, t7, e2, e3, hj, hx, bz_t]
def dal (s : St) (i w : Int32) : Int32 := if vid s i = true ∧ ¬ sI s 12 = 0 then (if w = 0 then sA s 5 i.toNatClampNeg else if w = 1 then sA s 6 i.toNatClampNeg else 0) else 0
theorem t17 {i w : Int32} (hE : Ev s) : Cl (pj lw) 17 [.ref p, .int i, .int w] (ob H p s) Q ↔ Q (some (.int (dal s i w))) (ob H p s) := by
  rw [c17]; unfold dal
  cases e2 : vid s i with
  | false => simp +decide only [w17_0, w17_1, w17_2, w17_5, w17_15, w17_16, isO_put, Option.toList_some, List.cons_append, List.nil_append, true_and, and_true, false_and, ↓reduceIte, t7, e2, bz_f]
  | true =>
    have r := vid_rg e2 hE.1.2
    have hj : 0 ≤ i.toInt ∧ i.toInt < 33 := by omega
    by_cases e3 : sI s 12 = 0
    · simp +decide only [w17_0, w17_1, w17_2, w17_5, w17_8, w17_9, w17_12, w17_15, w17_16, isO_put, Option.toList_some, List.cons_append, List.nil_append, true_and, and_true, and_false, not_true_eq_false, ↓reduceIte, g12, t7, e2, e3, bz_t]
    · by_cases e4 : w = 0
      · simp +decide only [w17_0, w17_1, w17_2, w17_5, w17_8, w17_9, w17_12, w17_17, w17_18, w17_21, w17_22, w17_25, w17_26, w17_27, isO_put, Option.toList_some, List.cons_append, List.nil_append, true_and, and_true, not_false_eq_true, ↓reduceIte, g9, g12, ai5, ae5, t7, e2, e3, e4, hj, bz_t]
      · by_cases e5 : w = 1 <;> simp +decide only [w17_0, w17_1, w17_2, w17_5, w17_8, w17_9, w17_12, w17_17, w17_18, w17_28, w17_29, w17_30, w17_33, w17_34, w17_37, w17_38, w17_39, w17_40, w17_41, isO_put, Option.toList_some, List.cons_append, List.nil_append, true_and, and_true, not_false_eq_true, ↓reduceIte, g10, g12, ai6, ae6, t7, e2, e3, e4, e5, hj, bz_t]
end F

section G
variable {s s' : St} {x y : Int32} {cc cc' nu : Nat → Int32} {L : List Nat} {D : Dt} {G : Nat → Nat}
theorem shr_bv {g : Nat} (hg : g < 32) : (x >>> (Int32.ofNat g &&& 31)).toBitVec = x.toBitVec.sshiftRight g := by
  have key : ∀ j : Fin 32, ((Int32.ofNat j.val &&& 31).toBitVec.smod 32) = BitVec.ofNat 32 j.val := by decide +kernel
  have hk := key ⟨g, hg⟩
  simp only at hk
  rw [Int32.toBitVec_shiftRight, hk]
  show x.toBitVec.sshiftRight (BitVec.ofNat 32 g).toNat = _
  rw [BitVec.toNat_ofNat, Nat.mod_eq_of_lt (by omega)]
theorem and1_32 : x &&& 1 = 0 ↔ x.toBitVec.getLsbD 0 = false := by
  rw [← Int32.toBitVec_inj, Int32.toBitVec_and]
  have e1 : (1 : Int32).toBitVec = 1#32 := rfl
  have e0 : (0 : Int32).toBitVec = 0#32 := rfl
  rw [e1, e0]
  constructor
  · intro e
    have := congrArg (fun v => v.getLsbD 0) e
    simpa using this
  · intro e
    apply BitVec.eq_of_getLsbD_eq
    intro i hi
    rw [BitVec.getLsbD_and, BitVec.getLsbD_one]
    by_cases g : i = 0
    · subst g; rw [e]; simp
    · simp [g]
theorem btb {g : Nat} (hg : g < 32) : bt x g = x.toBitVec.getLsbD g := by
  unfold bt
  have : (x >>> (Int32.ofNat g &&& 31) &&& 1 = 0) ↔ x.toBitVec.getLsbD g = false := by
    rw [and1_32, shr_bv hg, BitVec.getLsbD_sshiftRight]
    simp [hg]
  by_cases e : x.toBitVec.getLsbD g = true
  · rw [e]; exact decide_eq_true fun q => by rw [this.mp q] at e; cases e
  · have e' : x.toBitVec.getLsbD g = false := by simpa using e
    rw [e']; exact decide_eq_false fun q => q (this.mpr e')
theorem bt_and {g : Nat} (hg : g < 32) : bt (x &&& y) g = (bt x g && bt y g) := by rw [btb hg, btb hg, btb hg, Int32.toBitVec_and, BitVec.getLsbD_and]
theorem bt_or {g : Nat} (hg : g < 32) : bt (x ||| y) g = (bt x g || bt y g) := by rw [btb hg, btb hg, btb hg, Int32.toBitVec_or, BitVec.getLsbD_or]
theorem bt_0 {g : Nat} (hg : g < 32) : bt 0 g = false := by rw [btb hg]; simp
theorem bt_1 {g h : Nat} (hg : g < 32) (hh : h < 32) : bt (1 <<< (Int32.ofNat g &&& 31)) h = decide (h = g) := by
  have key : ∀ (a b : Fin 32), bt (1 <<< (Int32.ofNat a.val &&& 31)) b.val = decide (b.val = a.val) := by decide +kernel
  exact key ⟨g, hg⟩ ⟨h, hh⟩
def Sub (cc cc' : Nat → Int32) : Prop := ∀ i, ∃ v, cc' i = cc i &&& v
theorem Sub.refl : Sub cc cc := fun i => ⟨cc i, (Int32.and_self).symm⟩
theorem Sub.trans {c2 : Nat → Int32} (h : Sub cc cc') (g : Sub cc' c2) : Sub cc c2 := fun i => by
  obtain ⟨v, hv⟩ := h i; obtain ⟨w, hw⟩ := g i
  exact ⟨v &&& w, by rw [hw, hv, Int32.and_assoc]⟩
theorem Sub_up {i : Nat} {v : Int32} : Sub cc (up cc i (cc i &&& v)) := fun j => by
  unfold up; by_cases e : j = i
  · subst e; exact ⟨v, by rw [if_pos rfl]⟩
  · exact ⟨cc j, by rw [if_neg e, Int32.and_self]⟩
theorem Sub_kF : ∀ (L : List Nat) (cc : Nat → Int32), Sub cc (kF nu L cc)
  | [], cc => Sub.refl
  | j :: L, cc => Sub_up.trans (Sub_kF L _)
theorem Sub_rf {f : Nat} : Sub cc (rfC D cc f) := (Sub_up.trans Sub_up).trans (Sub_kF _ _)
theorem Sub_rd1 : ∀ (m f : Nat) (A : (Nat → Int32) × Bool), Sub A.1 (rd1 D f m A).1
  | 0, f, A => Sub.refl
  | m + 1, f, A => by
    rw [rd1]
    by_cases e : fam D f = true
    · rw [if_pos e]; exact Sub_rf.trans (Sub_rd1 m (f + 1) (rfC D A.1 f, A.2 || rfB D A.1 f))
    · rw [if_neg e]; exact Sub_rd1 m (f + 1) A
theorem Sub_rnd : ∀ (m : Nat) (cc : Nat → Int32), Sub cc (rnd D m cc)
  | 0, cc => Sub.refl
  | m + 1, cc => by
    rw [rnd]; have h := Sub_rd1 (D := D) (dn D) 1 (cc, false)
    split
    · exact h.trans (Sub_rnd m _)
    · exact h
theorem Sub_bt {i g : Nat} (h : Sub cc cc') (hg : g < 32) (hb : bt (cc' i) g = true) : bt (cc i) g = true := by
  obtain ⟨v, hv⟩ := h i; rw [hv, bt_and hg, Bool.and_eq_true] at hb; exact hb.1
def WD (D : Dt) : Prop := dn D ≤ 32 ∧ dg D ≤ 10 ∧ ∀ i, 1 ≤ i → i ≤ dn D → ¬ D.1 i = 0 → (1 ≤ dF D i ∧ dF D i < i) ∧ (1 ≤ dM D i ∧ dM D i < i)
theorem Ev.wd (h : Ev s) : WD (dt s) := by
  refine ⟨(nN_le h).1, by show gN s ≤ 10; unfold gN; have := h.2.1; omega, fun i h1 h2 h3 => ?_⟩
  have := (h.2.2.2 i h1 h2).resolve_left (fun q => h3 q.1)
  show (1 ≤ (sA s 2 i).toNatClampNeg ∧ (sA s 2 i).toNatClampNeg < i) ∧ 1 ≤ (sA s 3 i).toNatClampNeg ∧ (sA s 3 i).toNatClampNeg < i
  rw [cln, cln]; omega
def Out (n : Nat) (cc cc' : Nat → Int32) : Prop := ∀ i, ¬ (1 ≤ i ∧ i ≤ n) → cc' i = cc i
theorem Out.trans {n : Nat} {c2 : Nat → Int32} (h : Out n cc cc') (g : Out n cc' c2) : Out n cc c2 := fun i hi => (g i hi).trans (h i hi)
def Le (L : List Nat) (A B : Ac) : Prop := ∀ g, g < 32 → (bt A.1 g = true → bt B.1 g = true) ∧ (bt A.2.1 g = true → bt B.2.1 g = true) ∧ ∀ j, bt (A.2.2 j) g = true → bt (B.2.2 j) g = true
theorem Le.refl {A : Ac} : Le L A A := fun g hg => ⟨id, id, fun j => id⟩
theorem Le.trans {A B C : Ac} (h : Le L A B) (k : Le L B C) : Le L A C := fun g hg => ⟨fun z => (k g hg).1 ((h g hg).1 z), fun z => (k g hg).2.1 ((h g hg).2.1 z), fun j z => (k g hg).2.2 j ((h g hg).2.2 j z)⟩
theorem anyN_iff {f : Nat → Bool} : ∀ (m j : Nat), anyN f j m = true ↔ ∃ i, j ≤ i ∧ i < j + m ∧ f i = true
  | 0, j => by simp [anyN]; intro x h1 h2; omega
  | m + 1, j => by
    rw [anyN, Bool.or_eq_true, anyN_iff m (j + 1)]
    constructor
    · rintro (h | ⟨i, h1, h2, h3⟩)
      · exact ⟨j, by omega, by omega, h⟩
      · exact ⟨i, by omega, by omega, h3⟩
    · rintro ⟨i, h1, h2, h3⟩
      by_cases e : i = j
      · subst e; exact Or.inl h3
      · exact Or.inr ⟨i, by omega, by omega, h3⟩
theorem emp_iff {n : Nat} : emp cc n = true ↔ ∃ i, 1 ≤ i ∧ i ≤ n ∧ cc i = 0 := by
  unfold emp; rw [anyN_iff]
  constructor
  · rintro ⟨i, h1, h2, h3⟩; exact ⟨i, h1, by omega, of_decide_eq_true h3⟩
  · rintro ⟨i, h1, h2, h3⟩; exact ⟨i, h1, by omega, decide_eq_true h3⟩
theorem bs1_fam : ∀ (m f : Nat) (B : Int32 × Int32), (B.1 = 0 ∨ ∃ h, 1 ≤ h ∧ h ≤ dn D ∧ B.1 = Int32.ofNat h ∧ fam D h = true) → ((bs1 D cc f m B).1 = 0 ∨ ∃ h, 1 ≤ h ∧ h ≤ dn D ∧ (bs1 D cc f m B).1 = Int32.ofNat h ∧ fam D h = true)
  | 0, f, B, h => h
  | m + 1, f, B, h => by
    rw [bs1]; refine bs1_fam m (f + 1) _ ?_
    by_cases e : noA D cc f = true
    · rw [if_pos e]
      have hf : fam D f = true := by unfold noA at e; rw [Bool.and_eq_true] at e; exact e.1
      split
      · exact Or.inr ⟨f, (fam_i hf).1.1, (fam_i hf).1.2, rfl, hf⟩
      · exact h
    · rw [if_neg e]; exact h
theorem bsz_ge {f : Nat} (hD : WD D) (hf : fam D f = true) : 3 ≤ (bsz D f).toInt := by
  have h1 := fam_i hf
  have l1 := kl_len (F := D.1) (M := D.2.1) (f := f) hD.1 h1.1.1
  have l2 := List.length_pos_of_mem (kl_self (F := D.1) (M := D.2.1) (f := f) (nn := dn D) h1.1.2)
  unfold bsz dL
  unfold dn at *
  have e := (ofi (j := (kl D.1 D.2.1 D.2.2.2.1 f).length) (by omega)).1
  rw [ia (by rw [e]; simp only [Int32.reduceToInt]; omega) (by rw [e]; simp only [Int32.reduceToInt]; omega), e]; simp only [Int32.reduceToInt]; omega
end G

section HH
variable {s s' : St} {x y a b c d : Int32} {cc cc' : Nat → Int32} {A : Int32}
def gcn (A : Int32) : Int32 := if A = 2 then 3 else if A = 3 then 6 else 10
def gfm (A : Int32) : Int32 := if A = 2 then 7 else if A = 3 then 63 else 1023
def gA (A : Int32) : Nat → Int32 := sA (ini0 A 1) 8
def gB (A : Int32) : Nat → Int32 := sA (ini0 A 1) 9
def gI (A : Int32) : Nat → Int32 := sA (ini0 A 1) 10
def gK (A : Int32) : Nat → Int32 := sA (ini0 A 1) 11
def A4 (A : Int32) : Prop := A = 2 ∨ A = 3 ∨ A = 4
def Tb (s : St) (A : Int32) : Prop := A4 A ∧ sI s 0 = A ∧ sI s 1 = gcn A ∧ sI s 2 = gfm A ∧ sA s 8 = gA A ∧ sA s 9 = gB A ∧ sA s 10 = gI A ∧ sA s 11 = gK A
theorem Tb.of (h : Tb s A) (h0 : sI s' 0 = sI s 0) (h1 : sI s' 1 = sI s 1) (h2 : sI s' 2 = sI s 2) (a8 : sA s' 8 = sA s 8) (a9 : sA s' 9 = sA s 9) (a10 : sA s' 10 = sA s 10) (a11 : sA s' 11 = sA s 11) : Tb s' A := by
  unfold Tb; rw [h0, h1, h2, a8, a9, a10, a11]; exact h
theorem ini_I {g : Int32} {t : Nat} (ht : t = 8 ∨ t = 9 ∨ t = 10 ∨ t = 11) (hA : A4 A) : sA (ini0 A g) t = sA (ini0 A 1) t := by
  rcases hA with rfl | rfl | rfl <;> funext i <;> rcases ht with rfl | rfl | rfl | rfl <;> rfl
theorem Tb_ini {g : Int32} (hA : A4 A) : Tb (ini0 A g) A := by
  refine ⟨hA, ?_, ?_, ?_, ini_I (by simp) hA, ini_I (by simp) hA, ini_I (by simp) hA, ini_I (by simp) hA⟩ <;> rcases hA with rfl | rfl | rfl <;> rfl
theorem gi_rg {u v : Nat} (hA : A4 A) (hu : 1 ≤ u ∧ (u : Int) ≤ A.toInt) (hv : 1 ≤ v ∧ (v : Int) ≤ A.toInt) : (0 ≤ (gI A (u * 5 + v)).toInt ∧ (gI A (u * 5 + v)).toInt < (gcn A).toInt) ∧ gA A (gI A (u * 5 + v)).toNatClampNeg = Int32.ofNat (min u v) ∧ gB A (gI A (u * 5 + v)).toNatClampNeg = Int32.ofNat (max u v) ∧ gI A (v * 5 + u) = gI A (u * 5 + v) := by
  have k2 : ∀ u v : Fin 3, 1 ≤ u.val → 1 ≤ v.val → (0 ≤ (gI 2 (u * 5 + v)).toInt ∧ (gI 2 (u * 5 + v)).toInt < (gcn 2).toInt) ∧ gA 2 (gI 2 (u * 5 + v)).toNatClampNeg = Int32.ofNat (min u v) ∧ gB 2 (gI 2 (u * 5 + v)).toNatClampNeg = Int32.ofNat (max u v) ∧ gI 2 (v * 5 + u) = gI 2 (u * 5 + v) := by decide +kernel
  have k3 : ∀ u v : Fin 4, 1 ≤ u.val → 1 ≤ v.val → (0 ≤ (gI 3 (u * 5 + v)).toInt ∧ (gI 3 (u * 5 + v)).toInt < (gcn 3).toInt) ∧ gA 3 (gI 3 (u * 5 + v)).toNatClampNeg = Int32.ofNat (min u v) ∧ gB 3 (gI 3 (u * 5 + v)).toNatClampNeg = Int32.ofNat (max u v) ∧ gI 3 (v * 5 + u) = gI 3 (u * 5 + v) := by decide +kernel
  have k4 : ∀ u v : Fin 5, 1 ≤ u.val → 1 ≤ v.val → (0 ≤ (gI 4 (u * 5 + v)).toInt ∧ (gI 4 (u * 5 + v)).toInt < (gcn 4).toInt) ∧ gA 4 (gI 4 (u * 5 + v)).toNatClampNeg = Int32.ofNat (min u v) ∧ gB 4 (gI 4 (u * 5 + v)).toNatClampNeg = Int32.ofNat (max u v) ∧ gI 4 (v * 5 + u) = gI 4 (u * 5 + v) := by decide +kernel
  rcases hA with rfl | rfl | rfl <;> simp only [Int32.reduceToInt] at hu hv
  · exact k2 ⟨u, by omega⟩ ⟨v, by omega⟩ hu.1 hv.1
  · exact k3 ⟨u, by omega⟩ ⟨v, by omega⟩ hu.1 hv.1
  · exact k4 ⟨u, by omega⟩ ⟨v, by omega⟩ hu.1 hv.1
theorem gcn_rg (hA : A4 A) : 3 ≤ (gcn A).toInt ∧ (gcn A).toInt ≤ 10 ∧ 2 ≤ A.toInt ∧ A.toInt ≤ 4 := by rcases hA with rfl | rfl | rfl <;> decide
def Ob (s : St) : Prop := ∀ i, 1 ≤ i → i ≤ nN s → -1 ≤ (sA s 4 i).toInt ∧ (sA s 4 i).toInt < (sI s 1).toInt
def Dv (s : St) : Prop := (sI s 12 = 0 ∨ sI s 12 = 1) ∧ (¬ sI s 12 = 0 → ∀ i, 1 ≤ i → i ≤ nN s → Dp s i)
def Iv (s : St) (A : Int32) : Prop := Ev s ∧ Tb s A ∧ Ob s ∧ Dv s
theorem al_in (hE : Ev s) (h : ∀ i, 1 ≤ i → i ≤ nN s → Dp s i) : ∀ (m i : Nat), i ≤ m → 1 ≤ i → i ≤ nN s → (1 ≤ (sA s 5 i).toInt ∧ (sA s 5 i).toInt ≤ (sI s 0).toInt) ∧ (1 ≤ (sA s 6 i).toInt ∧ (sA s 6 i).toInt ≤ (sI s 0).toInt)
  | 0, i, h0, h1, h2 => by omega
  | m + 1, i, h0, h1, h2 => by
    have hd := h i h1 h2
    by_cases e : sA s 2 i = 0
    · exact hd.1 e
    · have r := (hE.2.2.2 i h1 h2).resolve_left (fun q => e q.1)
      have f := al_in hE h m (sA s 2 i).toNatClampNeg (by rw [cln]; omega) (by rw [cln]; omega) (by rw [cln]; omega)
      have g := al_in hE h m (sA s 3 i).toNatClampNeg (by rw [cln]; omega) (by rw [cln]; omega) (by rw [cln]; omega)
      obtain ⟨x1, x2⟩ := hd.2 e
      refine ⟨?_, ?_⟩
      · rcases x1 with x1 | x1 <;> rw [x1]; exact f.1; exact f.2
      · rcases x2 with x2 | x2 <;> rw [x2]; exact g.1; exact g.2
theorem Iv.al (h : Iv s A) (hv : ¬ sI s 12 = 0) {i : Nat} (h1 : 1 ≤ i) (h2 : i ≤ nN s) : (1 ≤ (sA s 5 i).toInt ∧ (sA s 5 i).toInt ≤ A.toInt) ∧ (1 ≤ (sA s 6 i).toInt ∧ (sA s 6 i).toInt ≤ A.toInt) := by
  have := al_in h.1 (h.2.2.2.2 hv) i i (Nat.le_refl _) h1 h2
  rw [h.2.1.2.1] at this; exact this
theorem Iv.al4 (h : Iv s A) (hv : ¬ sI s 12 = 0) : ∀ j, 1 ≤ j → j ≤ nN s → (0 ≤ (sA s 5 j).toInt ∧ (sA s 5 j).toInt ≤ 4) ∧ (0 ≤ (sA s 6 j).toInt ∧ (sA s 6 j).toInt ≤ 4) := fun j h1 h2 => by
  have := h.al hv h1 h2; have := gcn_rg h.2.1.1; omega
theorem gi_i (hT : Tb s A) {u v : Int32} (hu : 1 ≤ u.toInt ∧ u.toInt ≤ A.toInt) (hv : 1 ≤ v.toInt ∧ v.toInt ≤ A.toInt) : sA s 10 (u * 5 + v).toNatClampNeg = gI A (u.toNatClampNeg * 5 + v.toNatClampNeg) ∧ (0 ≤ (sA s 10 (u * 5 + v).toNatClampNeg).toInt ∧ (sA s 10 (u * 5 + v).toNatClampNeg).toInt < (sI s 1).toInt) := by
  have hr := gcn_rg hT.1
  rw [(ix5 (u := u) (v := v) (by omega) (by omega)).2, hT.2.2.2.2.2.2.1, hT.2.2.1]
  exact ⟨rfl, (gi_rg hT.1 (by rw [cln]; omega) (by rw [cln]; omega)).1⟩
theorem gfm_lw (hA : A4 A) {g : Nat} (h0 : 10 ≤ g) (hg : g < 32) : bt (gfm A) g = false := by
  have k2 : ∀ g : Fin 32, 10 ≤ g.val → bt (gfm 2) g.val = false := by decide +kernel
  have k3 : ∀ g : Fin 32, 10 ≤ g.val → bt (gfm 3) g.val = false := by decide +kernel
  have k4 : ∀ g : Fin 32, 10 ≤ g.val → bt (gfm 4) g.val = false := by decide +kernel
  rcases hA with rfl | rfl | rfl
  · exact k2 ⟨g, hg⟩ h0
  · exact k3 ⟨g, hg⟩ h0
  · exact k4 ⟨g, hg⟩ h0
theorem gfm_cnt (hA : A4 A) : (cnt (bt (gfm A)) 0 10 : Int) = (gcn A).toInt := by
  rcases hA with rfl | rfl | rfl <;> decide +kernel
theorem cnt_mono {f g : Nat → Bool} : ∀ (m j : Nat), (∀ i, j ≤ i → i < j + m → f i = true → g i = true) → cnt f j m ≤ cnt g j m
  | 0, j, h => Nat.le_refl _
  | m + 1, j, h => by
    rw [cnt, cnt]; have := cnt_mono m (j + 1) fun i h1 h2 h3 => h i (by omega) (by omega) h3
    by_cases e : f j = true
    · rw [if_pos e, if_pos (h j (by omega) (by omega) e)]; omega
    · rw [if_neg e]; omega
theorem cnt_pos {f : Nat → Bool} {i : Nat} : ∀ (m j : Nat), j ≤ i → i < j + m → f i = true → 1 ≤ cnt f j m
  | 0, j, h1, h2, _ => by omega
  | m + 1, j, h1, h2, h3 => by
    rw [cnt]
    by_cases e : j = i
    · subst e; rw [if_pos h3]; omega
    · have := cnt_pos m (j + 1) (by omega) (by omega) h3; omega
theorem cnt_0 {x : Int32} (hl : ∀ g, 10 ≤ g → g < 32 → bt x g = false) : cnt (bt x) 0 10 = 0 ↔ x = 0 := by
  constructor
  · intro h
    rw [← Int32.toBitVec_inj]
    apply BitVec.eq_of_getLsbD_eq
    intro i hi
    rw [← btb hi]
    have : bt x i = false := by
      by_cases e : i < 10
      · cases z : bt x i with
        | false => rfl
        | true => have := cnt_pos 10 0 (by omega) (by omega) z; omega
      · exact hl i (by omega) hi
    rw [this]; simp
  · intro h; subst h
    exact cnt_none _ _ fun i h1 h2 => bt_0 (by omega)
theorem iv_obs {obs : Nat → Int32} {full : Int32} {i g : Nat} (h0 : 0 ≤ (obs i).toInt ∧ (obs i).toInt < 32) (hg : g < 32) : bt (iv obs full i) g = decide (g = (obs i).toNatClampNeg) := by
  unfold iv; rw [if_neg (by rw [lt32]; simp only [Int32.reduceToInt]; omega)]
  have := bt_1 (g := (obs i).toNatClampNeg) (h := g) (by rw [cln]; omega) hg
  rw [ofn (by omega)] at this; exact this
theorem iv_ok (h : Iv s A) {i : Nat} (h1 : 1 ≤ i) (h2 : i ≤ nN s) : (∀ g, 10 ≤ g → g < 32 → bt (iv (sA s 4) (sI s 2) i) g = false) ∧ (cnt (bt (iv (sA s 4) (sI s 2) i)) 0 10 : Int) ≤ (gcn A).toInt ∧ (0 ≤ (sA s 4 i).toInt → cnt (bt (iv (sA s 4) (sI s 2) i)) 0 10 ≤ 1) := by
  obtain ⟨hE, hT, hO, hD⟩ := h
  have hr := gcn_rg hT.1
  have o := hO i h1 h2
  rw [hT.2.2.1] at o
  by_cases e : 0 ≤ (sA s 4 i).toInt
  · have hb := fun (g : Nat) (hg : g < 32) => iv_obs (obs := sA s 4) (full := sI s 2) (i := i) (g := g) (by omega) hg
    have c1 : cnt (bt (iv (sA s 4) (sI s 2) i)) 0 10 ≤ 1 := by
      have : cnt (bt (iv (sA s 4) (sI s 2) i)) 0 10 = 1 := cnt_one (x := (sA s 4 i).toNatClampNeg) _ _ (by omega) (by rw [cln]; omega) (by rw [hb _ (by rw [cln]; omega)]; exact decide_eq_true rfl) fun g a b c => by rw [hb _ (by omega)]; exact decide_eq_false c
      omega
    exact ⟨fun g a b => by rw [hb g b]; exact decide_eq_false (by rw [cln]; omega), by omega, fun _ => c1⟩
  · have e1 : iv (sA s 4) (sI s 2) i = gfm A := by unfold iv; rw [if_pos (by rw [lt32]; simp only [Int32.reduceToInt]; omega), hT.2.2.2.1]
    rw [e1]
    exact ⟨fun g a b => gfm_lw hT.1 a b, by rw [gfm_cnt hT.1]; exact Int.le_refl _, fun z => absurd z e⟩
theorem c0_i {i : Nat} (h1 : 1 ≤ i) (h2 : i ≤ nN s) : c0 s i = iv (sA s 4) (sI s 2) i := by unfold c0 li; rw [if_pos ⟨h1, h2⟩]
theorem el_sub : Sub (c0 s) (elC s) := Sub_rnd 330 _
theorem el_ok (h : Iv s A) {i : Nat} (h1 : 1 ≤ i) (h2 : i ≤ nN s) : (∀ g, 10 ≤ g → g < 32 → bt (elC s i) g = false) ∧ (cnt (bt (elC s i)) 0 10 : Int) ≤ (gcn A).toInt ∧ (0 ≤ (sA s 4 i).toInt → cnt (bt (elC s i)) 0 10 ≤ 1) := by
  obtain ⟨a, b, c⟩ := iv_ok h h1 h2
  have hs : ∀ g, g < 32 → bt (elC s i) g = true → bt (iv (sA s 4) (sI s 2) i) g = true := fun g hg hb => by
    have := Sub_bt (el_sub (s := s)) hg hb; rw [c0_i h1 h2] at this; exact this
  have hm : cnt (bt (elC s i)) 0 10 ≤ cnt (bt (iv (sA s 4) (sI s 2) i)) 0 10 := cnt_mono _ _ fun g a b c => hs g (by omega) c
  refine ⟨fun g x y => ?_, by omega, fun z => Nat.le_trans hm (c z)⟩
  cases q : bt (elC s i) g with
  | false => rfl
  | true => have := hs g y q; rw [a g x y] at this; cases this
end HH

section II
variable {s s' z : St} {x y a b c d v w : Int32} {A i : Int32}
theorem Iv_of (h : Iv s A) (hI : ∀ x, x = 0 ∨ x = 1 ∨ x = 2 ∨ x = 4 → sI s' x = sI s x) (hA : ∀ t, t = 2 ∨ t = 3 ∨ t = 8 ∨ t = 9 ∨ t = 10 ∨ t = 11 → sA s' t = sA s t) (hO : Ob s') (hD : Dv s') : Iv s' A :=
  ⟨h.1.of (hI 0 (by simp)) (hI 1 (by simp)) (hI 4 (by simp)) (hA 2 (by simp)) (hA 3 (by simp)), h.2.1.of (hI 0 (by simp)) (hI 1 (by simp)) (hI 2 (by simp)) (hA 8 (by simp)) (hA 9 (by simp)) (hA 10 (by simp)) (hA 11 (by simp)), hO, hD⟩
theorem Ob_of (h : Ob s) (h1 : sI s' 1 = sI s 1) (h4 : sI s' 4 = sI s 4) (a4 : sA s' 4 = sA s 4) : Ob s' := by unfold Ob nN at *; rw [h1, h4, a4]; exact h
theorem Dp_of' {j : Nat} (h0 : sI s' 0 = sI s 0) (h : ∀ t, t = 2 ∨ t = 3 ∨ t = 5 ∨ t = 6 → sA s' t = sA s t) (hd : Dp s j) : Dp s' j := by
  unfold Dp; rw [h0, h 2 (by simp), h 3 (by simp), h 5 (by simp), h 6 (by simp)]; exact hd
theorem Dv_of (h : Dv s) (h0 : sI s' 0 = sI s 0) (h4 : sI s' 4 = sI s 4) (h12 : sI s' 12 = sI s 12) (hA : ∀ t, t = 2 ∨ t = 3 ∨ t = 5 ∨ t = 6 → sA s' t = sA s t) : Dv s' := by
  unfold Dv; rw [h12]; refine ⟨h.1, fun q j a b => Dp_of' h0 hA (h.2 q j a ?_)⟩
  unfold nN at *; rw [h4] at b; exact b
theorem Iv_sd (h : Iv s A) : Iv (uI s 3 v) A :=
  Iv_of h (fun x hx => by rw [sI_uI, if_neg (by omega)]) (fun t _ => sA_fI) (Ob_of h.2.2.1 (by rw [sI_uI, if_neg (by decide)]) (by rw [sI_uI, if_neg (by decide)]) sA_fI) (Dv_of h.2.2.2 (by rw [sI_uI, if_neg (by decide)]) (by rw [sI_uI, if_neg (by decide)]) (by rw [sI_uI, if_neg (by decide)]) fun t _ => sA_fI)
def oS (s : St) (j : Nat) (v : Int32) : St := uI (uA s 4 j v) 13 0
theorem oS_I {x : Nat} (hx : x ≠ 13) : sI (oS s b.toNatClampNeg v) x = sI s x := by unfold oS; rw [sI_uI, if_neg hx, sI_uA]
theorem oS_13 {j : Nat} : sI (oS s j v) 13 = 0 := by unfold oS; rw [sI_uI, if_pos rfl]
theorem oS_A {t j : Nat} (ht : t ≠ 4) : sA (oS s j v) t = sA s t := by unfold oS; rw [sA_fI, sA_fun ht]
theorem oS_4 {j : Nat} : sA (oS s j v) 4 = up (sA s 4) j v := by unfold oS; rw [sA_fI, sA_up]
theorem Iv_oS (h : Iv s A) (hv : -1 ≤ v.toInt ∧ v.toInt < (sI s 1).toInt) : Iv (oS s b.toNatClampNeg v) A := by
  refine Iv_of h (fun x hx => oS_I (by omega)) (fun t ht => oS_A (by omega)) (fun j h1 h2 => ?_) (Dv_of h.2.2.2 (oS_I (by decide)) (oS_I (by decide)) (oS_I (by decide)) fun t ht => oS_A (by omega))
  rw [oS_I (by decide), oS_4]; unfold up
  split
  · exact hv
  · refine h.2.2.1 j h1 ?_
    unfold nN at *; rw [oS_I (by decide)] at h2; exact h2
theorem Iv_un (h : Iv s A) : Iv (unS s i) A := by
  unfold unS; split
  · refine Iv_oS h ?_
    have := gcn_rg h.2.1.1; rw [h.2.1.2.2.1]; simp only [Int32.reduceToInt]; omega
  · exact h
theorem Iv_dr (h : Iv s A) (hz : Sp s z) (hd : ∀ j, 1 ≤ j → j ≤ nN s → Dp z j) : Iv (uI z 12 1) A := by
  refine Iv_of h (fun x hx => by rw [sI_uI, if_neg (by omega), hz.1 x (by omega)]) (fun t ht => by rw [sA_fI, hz.2.2.1 t (by omega) (by omega)]) (Ob_of h.2.2.1 (by rw [sI_uI, if_neg (by decide), hz.1 _ (by decide)]) (by rw [sI_uI, if_neg (by decide), hz.1 _ (by decide)]) (by rw [sA_fI, hz.2.2.1 _ (by decide) (by decide)])) ⟨Or.inr (by rw [sI_uI, if_pos rfl]), fun _ j a b => ?_⟩
  refine Dp_of' (s := z) (by rw [sI_uI, if_neg (by decide)]) (fun t _ => sA_fI) (hd j a ?_)
  unfold nN at *; rw [sI_uI, if_neg (by decide), hz.1 _ (by decide)] at b; exact b
def eS (z : St) (u v : Int32) : St := uI (uI (uI z 14 u) 15 v) 13 1
theorem eS_I {x : Nat} {u v : Int32} (hx : x ≠ 13 ∧ x ≠ 14 ∧ x ≠ 15) : sI (eS z u v) x = sI z x := by unfold eS; rw [sI_uI, if_neg hx.1, sI_uI, if_neg hx.2.2, sI_uI, if_neg hx.2.1]
theorem eS_A {t : Nat} {u v : Int32} : sA (eS z u v) t = sA z t := by unfold eS; rw [sA_fI, sA_fI, sA_fI]
theorem eS_f {u v : Int32} : sI (eS z u v) 13 = 1 ∧ sI (eS z u v) 14 = u ∧ sI (eS z u v) 15 = v := by unfold eS; simp +decide only [sI_uI, ↓reduceIte, and_self]
theorem Iv_el {u v : Int32} (h : Iv s A) (hz : Sr s z) : Iv (eS z u v) A :=
  Iv_of h (fun x hx => by rw [eS_I (by omega), hz.1 x (by omega)]) (fun t ht => by rw [eS_A, hz.2.2.1 t (by omega) (by omega) (by omega)]) (Ob_of h.2.2.1 (by rw [eS_I (by decide), hz.1 _ (by decide)]) (by rw [eS_I (by decide), hz.1 _ (by decide)]) (by rw [eS_A, hz.2.2.1 _ (by decide) (by decide) (by decide)])) (Dv_of h.2.2.2 (by rw [eS_I (by decide), hz.1 _ (by decide)]) (by rw [eS_I (by decide), hz.1 _ (by decide)]) (by rw [eS_I (by decide), hz.1 _ (by decide)]) fun t ht => by rw [eS_A, hz.2.2.1 t (by omega) (by omega) (by omega)])
theorem Iv_sr (h : Iv s A) (hz : Sr s z) : Iv z A :=
  Iv_of h (fun x hx => hz.1 x (by omega)) (fun t ht => hz.2.2.1 t (by omega) (by omega) (by omega)) (Ob_of h.2.2.1 (hz.1 _ (by decide)) (hz.1 _ (by decide)) (hz.2.2.1 _ (by decide) (by decide) (by decide))) (Dv_of h.2.2.2 (hz.1 _ (by decide)) (hz.1 _ (by decide)) (hz.1 _ (by decide)) fun t ht => hz.2.2.1 t (by omega) (by omega) (by omega))
theorem ad_f (hE : Ev s) (h : ¬ adR s a b c < 0) : (sI s 4).toInt < 32 ∧ (a = 1 ∨ a = 2) ∧ ((b = 0 ∧ c = 0) ∨ (¬ b = 0 ∧ (1 ≤ b.toInt ∧ b.toInt ≤ (sI s 4).toInt) ∧ (1 ≤ c.toInt ∧ c.toInt ≤ (sI s 4).toInt))) ∧ adR s a b c = sI s 4 + 1 := by
  unfold adR at h ⊢
  by_cases h1 : sI s 4 < 32
  rotate_left
  · rw [if_pos h1] at h; exact absurd (by decide) h
  rw [if_neg (fun q => q h1)] at h ⊢
  by_cases h2 : ¬ a = 1 ∧ ¬ a = 2
  · rw [if_pos h2] at h; exact absurd (by decide) h
  rw [if_neg h2] at h ⊢
  by_cases h3 : (b = 0 ∧ ¬ c = 0) ∨ (¬ b = 0 ∧ c = 0)
  · rw [if_pos h3] at h; exact absurd (by decide) h
  rw [if_neg h3] at h ⊢
  have ha : a = 1 ∨ a = 2 := by
    by_cases q : a = 1
    · exact Or.inl q
    · exact Or.inr (Decidable.byContradiction fun q2 => h2 ⟨q, q2⟩)
  have h1' : (sI s 4).toInt < 32 := by rw [lt32] at h1; exact h1
  by_cases h4 : b = 0
  · rw [if_pos h4]
    refine ⟨h1', ha, Or.inl ⟨h4, Decidable.byContradiction fun q => h3 (Or.inl ⟨h4, q⟩)⟩, rfl⟩
  rw [if_neg h4] at h ⊢
  by_cases h5 : vid s b = false
  · rw [if_pos h5] at h; exact absurd (by decide) h
  rw [if_neg h5] at h ⊢
  by_cases h6 : vid s c = false
  · rw [if_pos h6] at h; exact absurd (by decide) h
  rw [if_neg h6] at h ⊢
  have r1 := vid_rg (s := s) (a := b) (by simpa using h5) hE.1.2
  have r2 := vid_rg (s := s) (a := c) (by simpa using h6) hE.1.2
  refine ⟨h1', ha, Or.inr ⟨h4, by omega, by omega⟩, ?_⟩
  by_cases h7 : ¬ sA s 1 b.toNatClampNeg = 1
  · rw [if_pos h7] at h; exact absurd (by decide) h
  rw [if_neg h7] at h ⊢
  by_cases h8 : ¬ sA s 1 c.toNatClampNeg = 2
  · rw [if_pos h8] at h; exact absurd (by decide) h
  rw [if_neg h8]
theorem adN_k (hE : Ev s) (h : (sI s 4).toInt < 32) : (sI s 4 + 1).toInt = (sI s 4).toInt + 1 ∧ (sI s 4 + 1).toNatClampNeg = nN s + 1 ∧ nN (adN s a b c) = nN s + 1 := by
  have hn := hE.1
  have e : (sI s 4 + 1).toInt = (sI s 4).toInt + 1 := ia (by simp only [Int32.reduceToInt]; omega) (by simp only [Int32.reduceToInt]; omega)
  have i4 : sI (adN s a b c) 4 = sI s 4 + 1 := by simp +decide only [adN, sI_uI, sI_uA, ↓reduceIte]
  refine ⟨e, by unfold nN; rw [cln]; omega, ?_⟩
  unfold nN; rw [i4]; omega
theorem adN_I {x : Nat} (hx : x ≠ 4 ∧ x ≠ 12 ∧ x ≠ 13) : sI (adN s a b c) x = sI s x := by simp only [adN, sI_uI, sI_uA, hx.1, hx.2.1, hx.2.2, if_false]
theorem adN_f : sI (adN s a b c) 4 = sI s 4 + 1 ∧ sI (adN s a b c) 12 = 0 ∧ sI (adN s a b c) 13 = 0 := by simp +decide only [adN, sI_uI, sI_uA, ↓reduceIte, and_self]
theorem adN_A {t : Nat} (ht : t = 0 ∨ 7 ≤ t) : sA (adN s a b c) t = sA s t := by
  unfold adN; rw [sA_fI, sA_fI, sA_fun (by omega), sA_fun (by omega), sA_fun (by omega), sA_fun (by omega), sA_fun (by omega), sA_fun (by omega), sA_fI]
theorem adN_t : sA (adN s a b c) 1 = up (sA s 1) (sI s 4 + 1).toNatClampNeg a ∧ sA (adN s a b c) 2 = up (sA s 2) (sI s 4 + 1).toNatClampNeg b ∧ sA (adN s a b c) 3 = up (sA s 3) (sI s 4 + 1).toNatClampNeg c ∧ sA (adN s a b c) 4 = up (sA s 4) (sI s 4 + 1).toNatClampNeg (-1) := by
  unfold adN
  refine ⟨?_, ?_, ?_, ?_⟩
  · rw [sA_fI, sA_fI, sA_fun (by decide), sA_fun (by decide), sA_fun (by decide), sA_fun (by decide), sA_fun (by decide), sA_up, sA_fI]
  · rw [sA_fI, sA_fI, sA_fun (by decide), sA_fun (by decide), sA_fun (by decide), sA_fun (by decide), sA_up, sA_fun (by decide), sA_fI]
  · rw [sA_fI, sA_fI, sA_fun (by decide), sA_fun (by decide), sA_fun (by decide), sA_up, sA_fun (by decide), sA_fun (by decide), sA_fI]
  · rw [sA_fI, sA_fI, sA_fun (by decide), sA_fun (by decide), sA_up, sA_fun (by decide), sA_fun (by decide), sA_fun (by decide), sA_fI]
theorem up_i {cc : Nat → Int32} {j : Nat} : up cc j v j = v := by unfold up; rw [if_pos rfl]
theorem up_n {cc : Nat → Int32} {j l : Nat} (h : l ≠ j) : up cc j v l = cc l := by unfold up; rw [if_neg h]
theorem Iv_ad (h : Iv s A) : Iv (adS s a b c) A := by
  unfold adS; split
  · exact h
  rename_i e
  obtain ⟨h1, h2, h3, h4⟩ := ad_f h.1 e
  obtain ⟨k1, k2, k3⟩ := adN_k (a := a) (b := b) (c := c) h.1 h1
  obtain ⟨t1', t2', t3', t4'⟩ := adN_t (s := s) (a := a) (b := b) (c := c)
  obtain ⟨f4, f12, f13⟩ := adN_f (s := s) (a := a) (b := b) (c := c)
  have hn := h.1.1
  obtain ⟨hn1, hn2⟩ := nN_le h.1
  refine ⟨⟨?_, ?_, ?_, fun j a1 a2 => ?_⟩, h.2.1.of (adN_I (by decide)) (adN_I (by decide)) (adN_I (by decide)) (adN_A (by decide)) (adN_A (by decide)) (adN_A (by decide)) (adN_A (by decide)), fun j a1 a2 => ?_, ⟨Or.inl f12, fun q => absurd f12 q⟩⟩
  · rw [f4]; omega
  · rw [adN_I (by decide)]; exact h.1.2.1
  · rw [adN_I (by decide)]; exact h.1.2.2.1
  · rw [k3] at a2
    unfold Par; rw [t2', t3', k2]
    by_cases q : j = nN s + 1
    · subst q; rw [up_i, up_i]
      rcases h3 with ⟨u1, u2⟩ | ⟨u1, u2, u3⟩
      · exact Or.inl ⟨u1, u2⟩
      · exact Or.inr (by omega)
    · rw [up_n q, up_n q]; exact h.1.2.2.2 j a1 (by omega)
  · rw [k3] at a2
    rw [t4', k2, adN_I (by decide)]
    by_cases q : j = nN s + 1
    · subst q; rw [up_i]; have := h.1.2.1; simp only [Int32.reduceToInt]; omega
    · rw [up_n q]; exact h.2.2.1 j a1 (by omega)
theorem nN_0 {g : Int32} (hA : A4 A) : sI (ini0 A g) 4 = 0 ∧ sI (ini0 A g) 12 = 0 ∧ sI (ini0 A g) 13 = 0 := by
  rcases hA with rfl | rfl | rfl <;> exact ⟨rfl, rfl, rfl⟩
theorem Iv_ini {g : Int32} (hA : A4 A) : Iv (ini0 A g) A := by
  obtain ⟨f4, f12, f13⟩ := nN_0 (g := g) hA
  have hT := Tb_ini (g := g) hA
  have hr := gcn_rg hA
  have n0 : nN (ini0 A g) = 0 := by unfold nN; rw [f4]; rfl
  refine ⟨⟨by rw [f4]; decide, by rw [hT.2.2.1]; omega, by rw [hT.2.1]; omega, fun j a b => by omega⟩, hT, fun j a b => by omega, ⟨Or.inl f12, fun q => absurd f12 q⟩⟩
theorem cl_A4 : A4 (cl 2 4 a) := by
  have := cl_rg (lo := 2) (hi := 4) a (by decide)
  unfold A4; simp only [eq32, Int32.reduceToInt] at *; omega
end II

section JJ
variable {lw : LW} {H : AH} {p : Nat} {s s' z : St} {Q : Option Value → AH → Prop} {k n : Nat} {A u v : Int32}
section Sc
variable {cc a len : Nat} {f : Nat → Int32}
theorem sc1 (ha : a < p) : (isA (ob (H1 cc a len f) p s) a = true) = True ∧ alen (ob (H1 cc a len f) p s) a = len ∧ (∀ i, (inA (ob (H1 cc a len f) p s) a .int i = true) = (0 ≤ i.toInt ∧ i.toInt < len)) ∧ ∀ i, elt (ob (H1 cc a len f) p s) a i = .int (f i.toNatClampNeg) := by
  unfold ob
  refine ⟨?_, ?_, fun i => ?_, fun i => ?_⟩
  · rw [isA_ot (Or.inl ha), isA_H1]; exact eq_self _ ▸ rfl
  · rw [alen_ot (Or.inl ha), alen_H1]
  · rw [inA_ot (Or.inl ha)]; exact propext inA_H1
  · rw [elt_ot (Or.inl ha), elt_H1]
theorem H1_c {c N : Nat} : (c, (H1 N a len f).2) = H1 c a len f := rfl
end Sc
theorem eS_all (h : Iv s A) (q1 : Sr s z) (q2 : sA z 7 = elC s) : Iv (eS z u v) A ∧ (∀ x, x ≠ 13 → x ≠ 14 → x ≠ 15 → x ≠ 22 → sI (eS z u v) x = sI s x) ∧ sI (eS z u v) 13 = 1 ∧ sI (eS z u v) 14 = u ∧ sI (eS z u v) 15 = v ∧ sA (eS z u v) 7 = elC s ∧ (∀ t, t ≠ 7 → t ≠ 12 → t ≠ 13 → sA (eS z u v) t = sA s t) ∧ dt (eS z u v) = dt s := by
  refine ⟨Iv_el h q1, fun x h1 h2 h3 h4 => by rw [eS_I ⟨h1, h2, h3⟩, q1.1 x h4], eS_f.1, eS_f.2.1, eS_f.2.2, by rw [eS_A, q2], fun t h1 h2 h3 => by rw [eS_A, q1.2.2.1 t h1 h2 h3], ?_⟩
  rw [← q1.dt]; unfold dt nN gN; rw [eS_A, eS_A, eS_A, eS_I (by decide), eS_I (by decide)]
end JJ

end Jvm.JX.Pj
namespace Jvm.JX.Lw
open Jvm Jvm.ClassFile Sem Op Lib Jvm.JX Jvm.JX.Pj
def lr0 : List Row := [(0, .aload_n 0, 1, 0), (1, .arraylength, 1, 0), (2, .ifCond .le 9, 3, 0), (5, .aload_n 0, 1, 0), (6, .iconst 0, 1, 0), (7, .iaload, 1, 0), (8, .goto 4, 3, 0), (11, .iconst 3, 1, 0), (12, .istore_n 1, 1, 0), (13, .iload_n 1, 1, 0), (14, .iconst 2, 1, 0), (15, .if_icmp .ge 7, 3, 0), (18, .iconst 2, 1, 0), (19, .goto 13, 3, 0), (22, .iload_n 1, 1, 0), (23, .iconst 4, 1, 0), (24, .if_icmp .le 7, 3, 0), (27, .iconst 4, 1, 0), (28, .goto 4, 3, 0), (31, .iload_n 1, 1, 0), (32, .istore_n 2, 1, 0), (33, .iload_n 2, 1, 0), (34, .iload_n 2, 1, 0), (35, .iconst 1, 1, 0), (36, .iadd, 1, 0), (37, .imul, 1, 0), (38, .iconst 2, 1, 0), (39, .idiv, 1, 0), (40, .istore_n 3, 1, 0), (41, .new 7, 3, 23), (44, .dup, 1, 0), (45, .iload_n 1, 1, 0), (46, .sipush 777, 3, 0), (49, .invokespecial 9, 3, 1), (52, .astore 4, 2, 0), (54, .iconst 0, 1, 0), (55, .istore 5, 2, 0), (57, .iconst 0, 1, 0), (58, .istore 6, 2, 0), (60, .iconst 0, 1, 0), (61, .istore 7, 2, 0), (63, .iconst 0, 1, 0), (64, .istore 8, 2, 0), (66, .iconst 0, 1, 0), (67, .istore 9, 2, 0), (69, .iconst 0, 1, 0), (70, .istore 10, 2, 0), (72, .iconst 1, 1, 0), (73, .istore 11, 2, 0), (75, .iload 11, 2, 0), (77, .iconst 3, 1, 0), (78, .iadd, 1, 0), (79, .aload_n 0, 1, 0), (80, .arraylength, 1, 0), (81, .if_icmp .ge 941, 3, 0), (84, .aload_n 0, 1, 0), (85, .iload 11, 2, 0), (87, .iaload, 1, 0), (88, .bipush 7, 2, 0), (90, .iand, 1, 0), (91, .istore 12, 2, 0), (93, .aload_n 0, 1, 0), (94, .iload 11, 2, 0), (96, .iconst 1, 1, 0), (97, .iadd, 1, 0), (98, .iaload, 1, 0), (99, .ldc 12, 2, 2147483647), (101, .iand, 1, 0), (102, .istore 13, 2, 0), (104, .aload_n 0, 1, 0), (105, .iload 11, 2, 0), (107, .iconst 2, 1, 0), (108, .iadd, 1, 0), (109, .iaload, 1, 0), (110, .ldc 12, 2, 2147483647), (112, .iand, 1, 0), (113, .istore 14, 2, 0), (115, .aload_n 0, 1, 0), (116, .iload 11, 2, 0), (118, .iconst 3, 1, 0), (119, .iadd, 1, 0), (120, .iaload, 1, 0), (121, .ldc 12, 2, 2147483647), (123, .iand, 1, 0), (124, .istore 15, 2, 0), (126, .iload 13, 2, 0), (128, .iload 5, 2, 0), (130, .iconst 1, 1, 0), (131, .iadd, 1, 0), (132, .irem, 1, 0), (133, .iconst 1, 1, 0), (134, .iadd, 1, 0), (135, .istore 16, 2, 0), (137, .iconst 1, 1, 0), (138, .iload 16, 2, 0), (140, .iconst 1, 1, 0), (141, .isub, 1, 0), (142, .ishl, 1, 0), (143, .istore 17, 2, 0), (145, .iload 12, 2, 0), (147, .iconst 1, 1, 0), (148, .if_icmp .gt 242, 3, 0), (151, .iload 13, 2, 0), (153, .bipush 15, 2, 0), (155, .iand, 1, 0), (156, .bipush 15, 2, 0), (158, .if_icmp .ne 7, 3, 0), (161, .iconst 0, 1, 0), (162, .goto 9, 3, 0), (165, .iconst 1, 1, 0), (166, .iload 13, 2, 0), (168, .iconst 1, 1, 0), (169, .iand, 1, 0), (170, .iadd, 1, 0), (171, .istore 18, 2, 0), (173, .iconst 0, 1, 0), (174, .istore 19, 2, 0), (176, .iconst 0, 1, 0), (177, .istore 20, 2, 0), (179, .iload 13, 2, 0), (181, .iconst 4, 1, 0), (182, .ishr, 1, 0), (183, .iconst 3, 1, 0), (184, .iand, 1, 0), (185, .ifCond .eq 21, 3, 0), (188, .iload 14, 2, 0), (190, .iload 5, 2, 0), (192, .iconst 2, 1, 0), (193, .iadd, 1, 0), (194, .irem, 1, 0), (195, .istore 19, 2, 0), (197, .iload 15, 2, 0), (199, .iload 5, 2, 0), (201, .iconst 2, 1, 0), (202, .iadd, 1, 0), (203, .irem, 1, 0), (204, .istore 20, 2, 0), (206, .iload 5, 2, 0), (208, .iconst 1, 1, 0), (209, .iadd, 1, 0), (210, .istore 21, 2, 0), (212, .iload 5, 2, 0), (214, .bipush 32, 2, 0), (216, .if_icmp .ne 9, 3, 0), (219, .iconst (-1), 1, 0), (220, .istore 21, 2, 0), (222, .goto 104, 3, 0), (225, .iload 18, 2, 0), (227, .ifCond .eq 26, 3, 0), (230, .iload 19, 2, 0), (232, .ifCond .ne 7, 3, 0), (235, .iconst 1, 1, 0), (236, .goto 4, 3, 0), (239, .iconst 0, 1, 0), (240, .iload 20, 2, 0), (242, .ifCond .ne 7, 3, 0), (245, .iconst 1, 1, 0), (246, .goto 4, 3, 0), (249, .iconst 0, 1, 0), (250, .if_icmp .eq 10, 3, 0), (253, .bipush (-2), 2, 0), (255, .istore 21, 2, 0), (257, .goto 69, 3, 0), (260, .iload 19, 2, 0), (262, .iload 5, 2, 0), (264, .if_icmp .gt 10, 3, 0), (267, .iload 20, 2, 0), (269, .iload 5, 2, 0), (271, .if_icmp .le 10, 3, 0), (274, .bipush (-3), 2, 0), (276, .istore 21, 2, 0), (278, .goto 48, 3, 0), (281, .iload 19, 2, 0), (283, .ifCond .eq 22, 3, 0), (286, .iload 6, 2, 0), (288, .iload 19, 2, 0), (290, .iconst 1, 1, 0), (291, .isub, 1, 0), (292, .ishr, 1, 0), (293, .iconst 1, 1, 0), (294, .iand, 1, 0), (295, .ifCond .ne 10, 3, 0), (298, .bipush (-4), 2, 0), (300, .istore 21, 2, 0), (302, .goto 24, 3, 0), (305, .iload 20, 2, 0), (307, .ifCond .eq 19, 3, 0), (310, .iload 6, 2, 0), (312, .iload 20, 2, 0), (314, .iconst 1, 1, 0), (315, .isub, 1, 0), (316, .ishr, 1, 0), (317, .iconst 1, 1, 0), (318, .iand, 1, 0), (319, .ifCond .eq 7, 3, 0), (322, .bipush (-4), 2, 0), (324, .istore 21, 2, 0), (326, .aload 4, 2, 0), (328, .iload 18, 2, 0), (330, .iload 19, 2, 0), (332, .iload 20, 2, 0), (334, .invokevirtual 13, 3, 9), (337, .iload 21, 2, 0), (339, .if_icmp .eq 5, 3, 0), (342, .iconst 0, 1, 0), (343, .ireturn, 1, 0), (344, .iload 21, 2, 0), (346, .ifCond .le 41, 3, 0), (349, .iload 18, 2, 0), (351, .iconst 1, 1, 0), (352, .if_icmp .ne 12, 3, 0), (355, .iload 6, 2, 0), (357, .iconst 1, 1, 0), (358, .iload 5, 2, 0), (360, .ishl, 1, 0), (361, .ior, 1, 0), (362, .istore 6, 2, 0), (364, .iload 19, 2, 0), (366, .ifCond .ne 12, 3, 0), (369, .iload 7, 2, 0), (371, .iconst 1, 1, 0), (372, .iload 5, 2, 0), (374, .ishl, 1, 0), (375, .ior, 1, 0), (376, .istore 7, 2, 0), (378, .iinc 5 1, 3, 0), (381, .iconst 0, 1, 0), (382, .istore 9, 2, 0), (384, .iconst 0, 1, 0), (385, .istore 10, 2, 0), (387, .goto 292, 3, 0), (390, .iload 12, 2, 0), (392, .iconst 2, 1, 0), (393, .if_icmp .ne 89, 3, 0), (396, .iload 14, 2, 0), (398, .iload_n 2, 1, 0), (399, .iconst 1, 1, 0), (400, .iadd, 1, 0), (401, .irem, 1, 0), (402, .iconst 1, 1, 0), (403, .iadd, 1, 0), (404, .istore 18, 2, 0), (406, .iload 15, 2, 0), (408, .iload_n 2, 1, 0), (409, .iconst 1, 1, 0), (410, .iadd, 1, 0), (411, .irem, 1, 0), (412, .istore 19, 2, 0), (414, .iload 16, 2, 0), (416, .iload 5, 2, 0), (418, .if_icmp .le 8, 3, 0), (421, .bipush (-5), 2, 0), (423, .goto 21, 3, 0), (426, .iload 18, 2, 0), (428, .iload_n 2, 1, 0), (429, .if_icmp .gt 9, 3, 0), (432, .iload 19, 2, 0), (434, .iconst 1, 1, 0), (435, .if_icmp .ge 8, 3, 0), (438, .bipush (-6), 2, 0), (440, .goto 4, 3, 0), (443, .iconst 0, 1, 0), (444, .istore 20, 2, 0), (446, .aload 4, 2, 0), (448, .iload 16, 2, 0), (450, .iload 18, 2, 0), (452, .iload 19, 2, 0), (454, .invokevirtual 17, 3, 10), (457, .iload 20, 2, 0), (459, .if_icmp .eq 5, 3, 0), (462, .iconst 0, 1, 0), (463, .ireturn, 1, 0), (464, .iload 20, 2, 0), (466, .ifCond .ne 13, 3, 0), (469, .iload 8, 2, 0), (471, .iload 17, 2, 0), (473, .ior, 1, 0), (474, .istore 8, 2, 0), (476, .iconst 0, 1, 0), (477, .istore 9, 2, 0), (479, .goto 200, 3, 0), (482, .iload 12, 2, 0), (484, .iconst 3, 1, 0), (485, .if_icmp .ne 52, 3, 0), (488, .iload 16, 2, 0), (490, .iload 5, 2, 0), (492, .if_icmp .le 8, 3, 0), (495, .bipush (-5), 2, 0), (497, .goto 4, 3, 0), (500, .iconst 0, 1, 0), (501, .istore 18, 2, 0), (503, .aload 4, 2, 0), (505, .iload 16, 2, 0), (507, .invokevirtual 20, 3, 11), (510, .iload 18, 2, 0), (512, .if_icmp .eq 5, 3, 0), (515, .iconst 0, 1, 0), (516, .ireturn, 1, 0), (517, .iload 18, 2, 0), (519, .ifCond .ne 15, 3, 0), (522, .iload 8, 2, 0), (524, .iload 17, 2, 0), (526, .iconst (-1), 1, 0), (527, .ixor, 1, 0), (528, .iand, 1, 0), (529, .istore 8, 2, 0), (531, .iconst 0, 1, 0), (532, .istore 9, 2, 0), (534, .goto 145, 3, 0), (537, .iload 12, 2, 0), (539, .iconst 4, 1, 0), (540, .if_icmp .ne 17, 3, 0), (543, .aload 4, 2, 0), (545, .aload_n 0, 1, 0), (546, .iload 11, 2, 0), (548, .iconst 1, 1, 0), (549, .iadd, 1, 0), (550, .iaload, 1, 0), (551, .invokevirtual 24, 3, 12), (554, .goto 125, 3, 0), (557, .iload 12, 2, 0), (559, .iconst 5, 1, 0), (560, .if_icmp .ne 21, 3, 0), (563, .aload 4, 2, 0), (565, .invokevirtual 28, 3, 15), (568, .iload 5, 2, 0), (570, .if_icmp .eq 5, 3, 0), (573, .iconst 0, 1, 0), (574, .ireturn, 1, 0), (575, .iconst 1, 1, 0), (576, .istore 10, 2, 0), (578, .goto 101, 3, 0), (581, .iload 12, 2, 0), (583, .bipush 6, 2, 0), (585, .if_icmp .ne 60, 3, 0), (588, .iload 16, 2, 0), (590, .iload 5, 2, 0), (592, .if_icmp .le 8, 3, 0), (595, .bipush (-5), 2, 0), (597, .goto 14, 3, 0), (600, .iload 10, 2, 0), (602, .ifCond .eq 7, 3, 0), (605, .iconst 0, 1, 0), (606, .goto 5, 3, 0), (609, .bipush (-7), 2, 0), (611, .istore 18, 2, 0), (613, .aload 4, 2, 0), (615, .iload 16, 2, 0), (617, .invokevirtual 32, 3, 16), (620, .iload 18, 2, 0), (622, .if_icmp .eq 5, 3, 0), (625, .iconst 0, 1, 0), (626, .ireturn, 1, 0), (627, .iload 18, 2, 0), (629, .ifCond .ne 13, 3, 0), (632, .iload 8, 2, 0), (634, .iload 17, 2, 0), (636, .ior, 1, 0), (637, .istore 8, 2, 0), (639, .iconst 0, 1, 0), (640, .istore 9, 2, 0), (642, .goto 37, 3, 0), (645, .aload 4, 2, 0), (647, .invokevirtual 35, 3, 18), (650, .istore 9, 2, 0), (652, .iload 9, 2, 0), (654, .iconst 1, 1, 0), (655, .if_icmp .eq 11, 3, 0), (658, .iload 9, 2, 0), (660, .iconst 2, 1, 0), (661, .if_icmp .eq 5, 3, 0), (664, .iconst 0, 1, 0), (665, .ireturn, 1, 0), (666, .iload 5, 2, 0), (668, .ifCond .ne 11, 3, 0), (671, .iload 9, 2, 0), (673, .iconst 1, 1, 0), (674, .if_icmp .eq 5, 3, 0), (677, .iconst 0, 1, 0), (678, .ireturn, 1, 0), (679, .aload 4, 2, 0), (681, .invokevirtual 38, 3, 34), (684, .iload 5, 2, 0), (686, .if_icmp .ne 13, 3, 0), (689, .aload 4, 2, 0), (691, .invokevirtual 41, 3, 29), (694, .iload 9, 2, 0), (696, .if_icmp .eq 5, 3, 0), (699, .iconst 0, 1, 0), (700, .ireturn, 1, 0), (701, .aload 4, 2, 0), (703, .iconst 0, 1, 0), (704, .invokevirtual 44, 3, 31), (707, .iconst (-1), 1, 0), (708, .if_icmp .ne 29, 3, 0), (711, .aload 4, 2, 0), (713, .iload 5, 2, 0), (715, .iconst 1, 1, 0), (716, .iadd, 1, 0), (717, .invokevirtual 44, 3, 31), (720, .iconst (-1), 1, 0), (721, .if_icmp .ne 16, 3, 0), (724, .aload 4, 2, 0), (726, .iload 5, 2, 0), (728, .iconst 1, 1, 0), (729, .iadd, 1, 0), (730, .iconst 0, 1, 0), (731, .invokevirtual 47, 3, 17), (734, .ifCond .eq 5, 3, 0), (737, .iconst 0, 1, 0), (738, .ireturn, 1, 0), (739, .aload 4, 2, 0), (741, .invokevirtual 51, 3, 32), (744, .istore 18, 2, 0), (746, .iload 9, 2, 0), (748, .ifCond .ne 11, 3, 0), (751, .iload 18, 2, 0), (753, .iconst (-1), 1, 0), (754, .if_icmp .eq 5, 3, 0), (757, .iconst 0, 1, 0), (758, .ireturn, 1, 0), (759, .iload 9, 2, 0), (761, .iconst 1, 1, 0), (762, .if_icmp .ne 10, 3, 0), (765, .iload 18, 2, 0), (767, .ifCond .eq 5, 3, 0), (770, .iconst 0, 1, 0), (771, .ireturn, 1, 0), (772, .iload 9, 2, 0), (774, .iconst 2, 1, 0), (775, .if_icmp .ne 21, 3, 0), (778, .iload 18, 2, 0), (780, .ifCond .eq 16, 3, 0), (783, .aload 4, 2, 0), (785, .iload 18, 2, 0), (787, .invokevirtual 54, 3, 33), (790, .iconst 3, 1, 0), (791, .if_icmp .ge 5, 3, 0), (794, .iconst 0, 1, 0), (795, .ireturn, 1, 0), (796, .iconst 0, 1, 0), (797, .istore 19, 2, 0), (799, .iconst 1, 1, 0), (800, .istore 20, 2, 0), (802, .iload 20, 2, 0), (804, .iload 5, 2, 0), (806, .if_icmp .gt 184, 3, 0), (809, .iconst 1, 1, 0), (810, .iload 20, 2, 0), (812, .iconst 1, 1, 0), (813, .isub, 1, 0), (814, .ishl, 1, 0), (815, .istore 21, 2, 0), (817, .aload 4, 2, 0), (819, .iload 20, 2, 0), (821, .iconst 0, 1, 0), (822, .invokevirtual 47, 3, 17), (825, .istore 22, 2, 0), (827, .aload 4, 2, 0), (829, .iload 20, 2, 0), (831, .iconst 1, 1, 0), (832, .invokevirtual 47, 3, 17), (835, .istore 23, 2, 0), (837, .iload 10, 2, 0), (839, .ifCond .eq 30, 3, 0), (842, .iload 22, 2, 0), (844, .iconst 1, 1, 0), (845, .if_icmp .lt 34, 3, 0), (848, .iload 22, 2, 0), (850, .iload_n 2, 1, 0), (851, .if_icmp .gt 28, 3, 0), (854, .iload 23, 2, 0), (856, .iconst 1, 1, 0), (857, .if_icmp .lt 22, 3, 0), (860, .iload 23, 2, 0), (862, .iload_n 2, 1, 0), (863, .if_icmp .le 18, 3, 0), (866, .goto 13, 3, 0), (869, .iload 22, 2, 0), (871, .ifCond .ne 8, 3, 0), (874, .iload 23, 2, 0), (876, .ifCond .eq 5, 3, 0), (879, .iconst 0, 1, 0), (880, .ireturn, 1, 0), (881, .aload 4, 2, 0), (883, .iload 20, 2, 0), (885, .iconst 2, 1, 0), (886, .invokevirtual 47, 3, 17), (889, .ifCond .eq 5, 3, 0), (892, .iconst 0, 1, 0), (893, .ireturn, 1, 0), (894, .aload 4, 2, 0), (896, .iload 20, 2, 0), (898, .invokevirtual 54, 3, 33), (901, .istore 24, 2, 0), (903, .iload 24, 2, 0), (905, .ifCond .eq 19, 3, 0), (908, .iload 7, 2, 0), (910, .iload 21, 2, 0), (912, .iand, 1, 0), (913, .ifCond .ne 9, 3, 0), (916, .iload 24, 2, 0), (918, .iconst 3, 1, 0), (919, .if_icmp .ge 5, 3, 0), (922, .iconst 0, 1, 0), (923, .ireturn, 1, 0), (924, .aload 4, 2, 0), (926, .iload 20, 2, 0), (928, .invokevirtual 44, 3, 31), (931, .istore 25, 2, 0), (933, .iload 9, 2, 0), (935, .ifCond .ne 12, 3, 0), (938, .iload 25, 2, 0), (940, .iconst (-1), 1, 0), (941, .if_icmp .eq 19, 3, 0), (944, .goto 14, 3, 0), (947, .iload 25, 2, 0), (949, .ifCond .lt 9, 3, 0), (952, .iload 25, 2, 0), (954, .iload_n 3, 1, 0), (955, .if_icmp .le 5, 3, 0), (958, .iconst 0, 1, 0), (959, .ireturn, 1, 0), (960, .iload 8, 2, 0), (962, .iload 21, 2, 0), (964, .iand, 1, 0), (965, .ifCond .eq 11, 3, 0), (968, .iload 25, 2, 0), (970, .iconst 1, 1, 0), (971, .if_icmp .le 5, 3, 0), (974, .iconst 0, 1, 0), (975, .ireturn, 1, 0), (976, .iload 25, 2, 0), (978, .ifCond .ne 6, 3, 0), (981, .iinc 19 1, 3, 0), (984, .iinc 20 1, 3, 0), (987, .goto (-185), 3, 0), (990, .iload 9, 2, 0), (992, .iconst 2, 1, 0), (993, .if_icmp .ne 7, 3, 0), (996, .iconst 1, 1, 0), (997, .goto 4, 3, 0), (1000, .iconst 0, 1, 0), (1001, .iload 19, 2, 0), (1003, .ifCond .le 7, 3, 0), (1006, .iconst 1, 1, 0), (1007, .goto 4, 3, 0), (1010, .iconst 0, 1, 0), (1011, .if_icmp .eq 5, 3, 0), (1014, .iconst 0, 1, 0), (1015, .ireturn, 1, 0), (1016, .iinc 11 4, 3, 0), (1019, .goto (-944), 3, 0), (1022, .iconst 1, 1, 0), (1023, .ireturn, 1, 0)]
def lrows : List (List Row) := [lr0]
def linfo : List MInfo := [(1, 26, 9, some .boolean, { frames := 7, cells := 40, slots := 1024, locals := 176 })]
def lw : LW := (fun j pc => (lrows.getD j []).lookup pc, fun j => linfo.getD j (0, 0, 9, none, {}))
section LPc
variable {L : List Slot} {S : List Value} {k n : Nat} {H : AH} {Q : Option Value → AH → Prop}
theorem c100 {x0 : Nat} : Cl (pj lw) 100 [.ref x0] H Q ↔ W (pj lw) 100 0 [.val (.ref x0), .unset, .unset, .unset, .unset, .unset, .unset, .unset, .unset, .unset, .unset, .unset, .unset, .unset, .unset, .unset, .unset, .unset, .unset, .unset, .unset, .unset, .unset, .unset, .unset, .unset] [] 0 0 H Q := cl_unf rfl
theorem w100_0 {x : Nat} : W (pj lw) 100 0 (.val (.ref x) :: L) S k n H Q ↔ W (pj lw) 100 1 (.val (.ref x) :: L) (.ref x :: S) k n H Q := W_s (rfl : (pj lw).1 100 0 = some (.aload_n 0, 1, 0)) rfl rfl rfl
theorem w100_1 {a : Nat} : W (pj lw) 100 1 L (.ref a :: S) k n H Q ↔ (isA H a = true ∧ W (pj lw) 100 2 L (.int (alen H a).toInt32 :: S) k n H Q) := W_alen (rfl : (pj lw).1 100 1 = some (.arraylength, 1, 0))
theorem w100_2 {x : Int32} : W (pj lw) 100 2 L (.int x :: S) k n H Q ↔ (if 0 < x then W (pj lw) 100 5 L S k n H Q else W (pj lw) 100 11 L S k n H Q) := W_if_le (rfl : (pj lw).1 100 2 = some (.ifCond .le 9, 3, 0)) rfl
theorem w100_5 {x : Nat} : W (pj lw) 100 5 (.val (.ref x) :: L) S k n H Q ↔ W (pj lw) 100 6 (.val (.ref x) :: L) (.ref x :: S) k n H Q := W_s (rfl : (pj lw).1 100 5 = some (.aload_n 0, 1, 0)) rfl rfl rfl
theorem w100_6 : W (pj lw) 100 6 L S k n H Q ↔ W (pj lw) 100 7 L (.int 0 :: S) k n H Q := W_s (rfl : (pj lw).1 100 6 = some (.iconst 0, 1, 0)) rfl rfl rfl
theorem w100_7 {i : Int32} {a : Nat} : W (pj lw) 100 7 L (.int i :: .ref a :: S) k n H Q ↔ (inA H a .int i = true ∧ W (pj lw) 100 8 L (elt H a i :: S) k n H Q) := W_iaload (rfl : (pj lw).1 100 7 = some (.iaload, 1, 0))
theorem w100_8 : W (pj lw) 100 8 L S k n H Q ↔ W (pj lw) 100 12 L S k n H Q := W_goto (rfl : (pj lw).1 100 8 = some (.goto 4, 3, 0)) rfl
theorem w100_11 : W (pj lw) 100 11 L S k n H Q ↔ W (pj lw) 100 12 L (.int 3 :: S) k n H Q := W_s (rfl : (pj lw).1 100 11 = some (.iconst 3, 1, 0)) rfl rfl rfl
theorem w100_12 {x : Int32} {l0 : Slot} : W (pj lw) 100 12 (l0 :: .unset :: L) (.int x :: S) k n H Q ↔ W (pj lw) 100 13 (l0 :: .val (.int x) :: L) S k n H Q := W_istn (rfl : (pj lw).1 100 12 = some (.istore_n 1, 1, 0)) rfl rfl
theorem w100_13 {x : Int32} {l0 : Slot} : W (pj lw) 100 13 (l0 :: .val (.int x) :: L) S k n H Q ↔ W (pj lw) 100 14 (l0 :: .val (.int x) :: L) (.int x :: S) k n H Q := W_s (rfl : (pj lw).1 100 13 = some (.iload_n 1, 1, 0)) rfl rfl rfl
theorem w100_14 : W (pj lw) 100 14 L S k n H Q ↔ W (pj lw) 100 15 L (.int 2 :: S) k n H Q := W_s (rfl : (pj lw).1 100 14 = some (.iconst 2, 1, 0)) rfl rfl rfl
theorem w100_15 {x y : Int32} : W (pj lw) 100 15 L (.int y :: .int x :: S) k n H Q ↔ (if x < y then W (pj lw) 100 18 L S k n H Q else W (pj lw) 100 22 L S k n H Q) := W_icmp_ge (rfl : (pj lw).1 100 15 = some (.if_icmp .ge 7, 3, 0)) rfl
theorem w100_18 : W (pj lw) 100 18 L S k n H Q ↔ W (pj lw) 100 19 L (.int 2 :: S) k n H Q := W_s (rfl : (pj lw).1 100 18 = some (.iconst 2, 1, 0)) rfl rfl rfl
theorem w100_19 : W (pj lw) 100 19 L S k n H Q ↔ W (pj lw) 100 32 L S k n H Q := W_goto (rfl : (pj lw).1 100 19 = some (.goto 13, 3, 0)) rfl
theorem w100_22 {x : Int32} {l0 : Slot} : W (pj lw) 100 22 (l0 :: .val (.int x) :: L) S k n H Q ↔ W (pj lw) 100 23 (l0 :: .val (.int x) :: L) (.int x :: S) k n H Q := W_s (rfl : (pj lw).1 100 22 = some (.iload_n 1, 1, 0)) rfl rfl rfl
theorem w100_23 : W (pj lw) 100 23 L S k n H Q ↔ W (pj lw) 100 24 L (.int 4 :: S) k n H Q := W_s (rfl : (pj lw).1 100 23 = some (.iconst 4, 1, 0)) rfl rfl rfl
theorem w100_24 {x y : Int32} : W (pj lw) 100 24 L (.int y :: .int x :: S) k n H Q ↔ (if y < x then W (pj lw) 100 27 L S k n H Q else W (pj lw) 100 31 L S k n H Q) := W_icmp_le (rfl : (pj lw).1 100 24 = some (.if_icmp .le 7, 3, 0)) rfl
theorem w100_27 : W (pj lw) 100 27 L S k n H Q ↔ W (pj lw) 100 28 L (.int 4 :: S) k n H Q := W_s (rfl : (pj lw).1 100 27 = some (.iconst 4, 1, 0)) rfl rfl rfl
theorem w100_28 : W (pj lw) 100 28 L S k n H Q ↔ W (pj lw) 100 32 L S k n H Q := W_goto (rfl : (pj lw).1 100 28 = some (.goto 4, 3, 0)) rfl
theorem w100_31 {x : Int32} {l0 : Slot} : W (pj lw) 100 31 (l0 :: .val (.int x) :: L) S k n H Q ↔ W (pj lw) 100 32 (l0 :: .val (.int x) :: L) (.int x :: S) k n H Q := W_s (rfl : (pj lw).1 100 31 = some (.iload_n 1, 1, 0)) rfl rfl rfl
theorem w100_32 {x : Int32} {l0 l1 : Slot} : W (pj lw) 100 32 (l0 :: l1 :: .unset :: L) (.int x :: S) k n H Q ↔ W (pj lw) 100 33 (l0 :: l1 :: .val (.int x) :: L) S k n H Q := W_istn (rfl : (pj lw).1 100 32 = some (.istore_n 2, 1, 0)) rfl rfl
theorem w100_33 {x : Int32} {l0 l1 : Slot} : W (pj lw) 100 33 (l0 :: l1 :: .val (.int x) :: L) S k n H Q ↔ W (pj lw) 100 34 (l0 :: l1 :: .val (.int x) :: L) (.int x :: S) k n H Q := W_s (rfl : (pj lw).1 100 33 = some (.iload_n 2, 1, 0)) rfl rfl rfl
theorem w100_34 {x : Int32} {l0 l1 : Slot} : W (pj lw) 100 34 (l0 :: l1 :: .val (.int x) :: L) S k n H Q ↔ W (pj lw) 100 35 (l0 :: l1 :: .val (.int x) :: L) (.int x :: S) k n H Q := W_s (rfl : (pj lw).1 100 34 = some (.iload_n 2, 1, 0)) rfl rfl rfl
theorem w100_35 : W (pj lw) 100 35 L S k n H Q ↔ W (pj lw) 100 36 L (.int 1 :: S) k n H Q := W_s (rfl : (pj lw).1 100 35 = some (.iconst 1, 1, 0)) rfl rfl rfl
theorem w100_36 {x y : Int32} : W (pj lw) 100 36 L (.int y :: .int x :: S) k n H Q ↔ W (pj lw) 100 37 L (.int (x + y) :: S) k n H Q := W_s (rfl : (pj lw).1 100 36 = some (.iadd, 1, 0)) rfl rfl rfl
theorem w100_37 {x y : Int32} : W (pj lw) 100 37 L (.int y :: .int x :: S) k n H Q ↔ W (pj lw) 100 38 L (.int (x * y) :: S) k n H Q := W_s (rfl : (pj lw).1 100 37 = some (.imul, 1, 0)) rfl rfl rfl
theorem w100_38 : W (pj lw) 100 38 L S k n H Q ↔ W (pj lw) 100 39 L (.int 2 :: S) k n H Q := W_s (rfl : (pj lw).1 100 38 = some (.iconst 2, 1, 0)) rfl rfl rfl
theorem w100_39 {x y : Int32} : W (pj lw) 100 39 L (.int y :: .int x :: S) k n H Q ↔ (¬ y = 0 ∧ W (pj lw) 100 40 L (.int (x / y) :: S) k n H Q) := W_idiv (rfl : (pj lw).1 100 39 = some (.idiv, 1, 0))
theorem w100_40 {x : Int32} {l0 l1 l2 : Slot} : W (pj lw) 100 40 (l0 :: l1 :: l2 :: .unset :: L) (.int x :: S) k n H Q ↔ W (pj lw) 100 41 (l0 :: l1 :: l2 :: .val (.int x) :: L) S k n H Q := W_istn (rfl : (pj lw).1 100 40 = some (.istore_n 3, 1, 0)) rfl rfl
theorem w100_41 : W (pj lw) 100 41 L S k n H Q ↔ ((k + 1 ≤ 40 ∧ n + 23 ≤ 1024) ∧ W (pj lw) 100 44 L (.ref H.1 :: S) (k + 1) (n + 23) (mkO (pj lw) H) Q) := W_new' (rfl : (pj lw).1 100 41 = some (.new 7, 3, 23)) (by decide)
theorem w100_44 {x : Nat} : W (pj lw) 100 44 L (.ref x :: S) k n H Q ↔ W (pj lw) 100 45 L (.ref x :: .ref x :: S) k n H Q := W_s (rfl : (pj lw).1 100 44 = some (.dup, 1, 0)) rfl rfl rfl
theorem w100_45 {x : Int32} {l0 : Slot} : W (pj lw) 100 45 (l0 :: .val (.int x) :: L) S k n H Q ↔ W (pj lw) 100 46 (l0 :: .val (.int x) :: L) (.int x :: S) k n H Q := W_s (rfl : (pj lw).1 100 45 = some (.iload_n 1, 1, 0)) rfl rfl rfl
theorem w100_46 : W (pj lw) 100 46 L S k n H Q ↔ W (pj lw) 100 49 L (.int 777 :: S) k n H Q := W_s (rfl : (pj lw).1 100 46 = some (.sipush 777, 3, 0)) rfl rfl rfl
theorem w100_49 {a : Nat} {x0 : Int32} {x1 : Int32} : W (pj lw) 100 49 L (.int x1 :: .int x0 :: .ref a :: S) k n H Q ↔ ((isO H a = true ∧ cs S + (4 + 11) + 57 ≤ 176 ∧ k + 13 ≤ 40 ∧ n + 440 ≤ 1024) ∧ Cl (pj lw) 1 [.ref a, .int x0, .int x1] H (fun v H => W (pj lw) 100 52 L (v.toList ++ S) (k + 13) (n + 440) H Q)) := W_init (as := [.int x0, .int x1]) (rfl : (pj lw).1 100 49 = some (.invokespecial 9, 3, 1)) rfl rfl rfl (Nat.le_of_ble_eq_true rfl) (Nat.le_of_ble_eq_true rfl) (fun h => absurd (show (13 : Nat) = 0 from h.1) (by decide))
theorem w100_52 {x : Nat} {l0 l1 l2 l3 : Slot} : W (pj lw) 100 52 (l0 :: l1 :: l2 :: l3 :: .unset :: L) (.ref x :: S) k n H Q ↔ W (pj lw) 100 54 (l0 :: l1 :: l2 :: l3 :: .val (.ref x) :: L) S k n H Q := W_ast (rfl : (pj lw).1 100 52 = some (.astore 4, 2, 0)) rfl rfl
theorem w100_54 : W (pj lw) 100 54 L S k n H Q ↔ W (pj lw) 100 55 L (.int 0 :: S) k n H Q := W_s (rfl : (pj lw).1 100 54 = some (.iconst 0, 1, 0)) rfl rfl rfl
theorem w100_55 {x : Int32} {l0 l1 l2 l3 l4 : Slot} : W (pj lw) 100 55 (l0 :: l1 :: l2 :: l3 :: l4 :: .unset :: L) (.int x :: S) k n H Q ↔ W (pj lw) 100 57 (l0 :: l1 :: l2 :: l3 :: l4 :: .val (.int x) :: L) S k n H Q := W_ist (rfl : (pj lw).1 100 55 = some (.istore 5, 2, 0)) rfl rfl
theorem w100_57 : W (pj lw) 100 57 L S k n H Q ↔ W (pj lw) 100 58 L (.int 0 :: S) k n H Q := W_s (rfl : (pj lw).1 100 57 = some (.iconst 0, 1, 0)) rfl rfl rfl
theorem w100_58 {x : Int32} {l0 l1 l2 l3 l4 l5 : Slot} : W (pj lw) 100 58 (l0 :: l1 :: l2 :: l3 :: l4 :: l5 :: .unset :: L) (.int x :: S) k n H Q ↔ W (pj lw) 100 60 (l0 :: l1 :: l2 :: l3 :: l4 :: l5 :: .val (.int x) :: L) S k n H Q := W_ist (rfl : (pj lw).1 100 58 = some (.istore 6, 2, 0)) rfl rfl
theorem w100_60 : W (pj lw) 100 60 L S k n H Q ↔ W (pj lw) 100 61 L (.int 0 :: S) k n H Q := W_s (rfl : (pj lw).1 100 60 = some (.iconst 0, 1, 0)) rfl rfl rfl
theorem w100_61 {x : Int32} {l0 l1 l2 l3 l4 l5 l6 : Slot} : W (pj lw) 100 61 (l0 :: l1 :: l2 :: l3 :: l4 :: l5 :: l6 :: .unset :: L) (.int x :: S) k n H Q ↔ W (pj lw) 100 63 (l0 :: l1 :: l2 :: l3 :: l4 :: l5 :: l6 :: .val (.int x) :: L) S k n H Q := W_ist (rfl : (pj lw).1 100 61 = some (.istore 7, 2, 0)) rfl rfl
theorem w100_63 : W (pj lw) 100 63 L S k n H Q ↔ W (pj lw) 100 64 L (.int 0 :: S) k n H Q := W_s (rfl : (pj lw).1 100 63 = some (.iconst 0, 1, 0)) rfl rfl rfl
theorem w100_64 {x : Int32} {l0 l1 l2 l3 l4 l5 l6 l7 : Slot} : W (pj lw) 100 64 (l0 :: l1 :: l2 :: l3 :: l4 :: l5 :: l6 :: l7 :: .unset :: L) (.int x :: S) k n H Q ↔ W (pj lw) 100 66 (l0 :: l1 :: l2 :: l3 :: l4 :: l5 :: l6 :: l7 :: .val (.int x) :: L) S k n H Q := W_ist (rfl : (pj lw).1 100 64 = some (.istore 8, 2, 0)) rfl rfl
theorem w100_66 : W (pj lw) 100 66 L S k n H Q ↔ W (pj lw) 100 67 L (.int 0 :: S) k n H Q := W_s (rfl : (pj lw).1 100 66 = some (.iconst 0, 1, 0)) rfl rfl rfl
theorem w100_67 {x : Int32} {l0 l1 l2 l3 l4 l5 l6 l7 l8 : Slot} : W (pj lw) 100 67 (l0 :: l1 :: l2 :: l3 :: l4 :: l5 :: l6 :: l7 :: l8 :: .unset :: L) (.int x :: S) k n H Q ↔ W (pj lw) 100 69 (l0 :: l1 :: l2 :: l3 :: l4 :: l5 :: l6 :: l7 :: l8 :: .val (.int x) :: L) S k n H Q := W_ist (rfl : (pj lw).1 100 67 = some (.istore 9, 2, 0)) rfl rfl
theorem w100_69 : W (pj lw) 100 69 L S k n H Q ↔ W (pj lw) 100 70 L (.int 0 :: S) k n H Q := W_s (rfl : (pj lw).1 100 69 = some (.iconst 0, 1, 0)) rfl rfl rfl
theorem w100_70 {x : Int32} {l0 l1 l2 l3 l4 l5 l6 l7 l8 l9 : Slot} : W (pj lw) 100 70 (l0 :: l1 :: l2 :: l3 :: l4 :: l5 :: l6 :: l7 :: l8 :: l9 :: .unset :: L) (.int x :: S) k n H Q ↔ W (pj lw) 100 72 (l0 :: l1 :: l2 :: l3 :: l4 :: l5 :: l6 :: l7 :: l8 :: l9 :: .val (.int x) :: L) S k n H Q := W_ist (rfl : (pj lw).1 100 70 = some (.istore 10, 2, 0)) rfl rfl
theorem w100_72 : W (pj lw) 100 72 L S k n H Q ↔ W (pj lw) 100 73 L (.int 1 :: S) k n H Q := W_s (rfl : (pj lw).1 100 72 = some (.iconst 1, 1, 0)) rfl rfl rfl
theorem w100_73 {x : Int32} {l0 l1 l2 l3 l4 l5 l6 l7 l8 l9 l10 : Slot} : W (pj lw) 100 73 (l0 :: l1 :: l2 :: l3 :: l4 :: l5 :: l6 :: l7 :: l8 :: l9 :: l10 :: .unset :: L) (.int x :: S) k n H Q ↔ W (pj lw) 100 75 (l0 :: l1 :: l2 :: l3 :: l4 :: l5 :: l6 :: l7 :: l8 :: l9 :: l10 :: .val (.int x) :: L) S k n H Q := W_ist (rfl : (pj lw).1 100 73 = some (.istore 11, 2, 0)) rfl rfl
theorem w100_75 {x : Int32} {l0 l1 l2 l3 l4 l5 l6 l7 l8 l9 l10 : Slot} : W (pj lw) 100 75 (l0 :: l1 :: l2 :: l3 :: l4 :: l5 :: l6 :: l7 :: l8 :: l9 :: l10 :: .val (.int x) :: L) S k n H Q ↔ W (pj lw) 100 77 (l0 :: l1 :: l2 :: l3 :: l4 :: l5 :: l6 :: l7 :: l8 :: l9 :: l10 :: .val (.int x) :: L) (.int x :: S) k n H Q := W_s (rfl : (pj lw).1 100 75 = some (.iload 11, 2, 0)) rfl rfl rfl
theorem w100_77 : W (pj lw) 100 77 L S k n H Q ↔ W (pj lw) 100 78 L (.int 3 :: S) k n H Q := W_s (rfl : (pj lw).1 100 77 = some (.iconst 3, 1, 0)) rfl rfl rfl
theorem w100_78 {x y : Int32} : W (pj lw) 100 78 L (.int y :: .int x :: S) k n H Q ↔ W (pj lw) 100 79 L (.int (x + y) :: S) k n H Q := W_s (rfl : (pj lw).1 100 78 = some (.iadd, 1, 0)) rfl rfl rfl
theorem w100_79 {x : Nat} : W (pj lw) 100 79 (.val (.ref x) :: L) S k n H Q ↔ W (pj lw) 100 80 (.val (.ref x) :: L) (.ref x :: S) k n H Q := W_s (rfl : (pj lw).1 100 79 = some (.aload_n 0, 1, 0)) rfl rfl rfl
theorem w100_80 {a : Nat} : W (pj lw) 100 80 L (.ref a :: S) k n H Q ↔ (isA H a = true ∧ W (pj lw) 100 81 L (.int (alen H a).toInt32 :: S) k n H Q) := W_alen (rfl : (pj lw).1 100 80 = some (.arraylength, 1, 0))
theorem w100_81 {x y : Int32} : W (pj lw) 100 81 L (.int y :: .int x :: S) k n H Q ↔ (if x < y then W (pj lw) 100 84 L S k n H Q else W (pj lw) 100 1022 L S k n H Q) := W_icmp_ge (rfl : (pj lw).1 100 81 = some (.if_icmp .ge 941, 3, 0)) rfl
theorem w100_84 {x : Nat} : W (pj lw) 100 84 (.val (.ref x) :: L) S k n H Q ↔ W (pj lw) 100 85 (.val (.ref x) :: L) (.ref x :: S) k n H Q := W_s (rfl : (pj lw).1 100 84 = some (.aload_n 0, 1, 0)) rfl rfl rfl
theorem w100_85 {x : Int32} {l0 l1 l2 l3 l4 l5 l6 l7 l8 l9 l10 : Slot} : W (pj lw) 100 85 (l0 :: l1 :: l2 :: l3 :: l4 :: l5 :: l6 :: l7 :: l8 :: l9 :: l10 :: .val (.int x) :: L) S k n H Q ↔ W (pj lw) 100 87 (l0 :: l1 :: l2 :: l3 :: l4 :: l5 :: l6 :: l7 :: l8 :: l9 :: l10 :: .val (.int x) :: L) (.int x :: S) k n H Q := W_s (rfl : (pj lw).1 100 85 = some (.iload 11, 2, 0)) rfl rfl rfl
theorem w100_87 {i : Int32} {a : Nat} : W (pj lw) 100 87 L (.int i :: .ref a :: S) k n H Q ↔ (inA H a .int i = true ∧ W (pj lw) 100 88 L (elt H a i :: S) k n H Q) := W_iaload (rfl : (pj lw).1 100 87 = some (.iaload, 1, 0))
theorem w100_88 : W (pj lw) 100 88 L S k n H Q ↔ W (pj lw) 100 90 L (.int 7 :: S) k n H Q := W_s (rfl : (pj lw).1 100 88 = some (.bipush 7, 2, 0)) rfl rfl rfl
theorem w100_90 {x y : Int32} : W (pj lw) 100 90 L (.int y :: .int x :: S) k n H Q ↔ W (pj lw) 100 91 L (.int (x &&& y) :: S) k n H Q := W_s (rfl : (pj lw).1 100 90 = some (.iand, 1, 0)) rfl rfl rfl
theorem w100_91 {x : Int32} {l0 l1 l2 l3 l4 l5 l6 l7 l8 l9 l10 l11 : Slot} : W (pj lw) 100 91 (l0 :: l1 :: l2 :: l3 :: l4 :: l5 :: l6 :: l7 :: l8 :: l9 :: l10 :: l11 :: .unset :: L) (.int x :: S) k n H Q ↔ W (pj lw) 100 93 (l0 :: l1 :: l2 :: l3 :: l4 :: l5 :: l6 :: l7 :: l8 :: l9 :: l10 :: l11 :: .val (.int x) :: L) S k n H Q := W_ist (rfl : (pj lw).1 100 91 = some (.istore 12, 2, 0)) rfl rfl
theorem w100_93 {x : Nat} : W (pj lw) 100 93 (.val (.ref x) :: L) S k n H Q ↔ W (pj lw) 100 94 (.val (.ref x) :: L) (.ref x :: S) k n H Q := W_s (rfl : (pj lw).1 100 93 = some (.aload_n 0, 1, 0)) rfl rfl rfl
theorem w100_94 {x : Int32} {l0 l1 l2 l3 l4 l5 l6 l7 l8 l9 l10 : Slot} : W (pj lw) 100 94 (l0 :: l1 :: l2 :: l3 :: l4 :: l5 :: l6 :: l7 :: l8 :: l9 :: l10 :: .val (.int x) :: L) S k n H Q ↔ W (pj lw) 100 96 (l0 :: l1 :: l2 :: l3 :: l4 :: l5 :: l6 :: l7 :: l8 :: l9 :: l10 :: .val (.int x) :: L) (.int x :: S) k n H Q := W_s (rfl : (pj lw).1 100 94 = some (.iload 11, 2, 0)) rfl rfl rfl
theorem w100_96 : W (pj lw) 100 96 L S k n H Q ↔ W (pj lw) 100 97 L (.int 1 :: S) k n H Q := W_s (rfl : (pj lw).1 100 96 = some (.iconst 1, 1, 0)) rfl rfl rfl
theorem w100_97 {x y : Int32} : W (pj lw) 100 97 L (.int y :: .int x :: S) k n H Q ↔ W (pj lw) 100 98 L (.int (x + y) :: S) k n H Q := W_s (rfl : (pj lw).1 100 97 = some (.iadd, 1, 0)) rfl rfl rfl
theorem w100_98 {i : Int32} {a : Nat} : W (pj lw) 100 98 L (.int i :: .ref a :: S) k n H Q ↔ (inA H a .int i = true ∧ W (pj lw) 100 99 L (elt H a i :: S) k n H Q) := W_iaload (rfl : (pj lw).1 100 98 = some (.iaload, 1, 0))
theorem w100_99 : W (pj lw) 100 99 L S k n H Q ↔ W (pj lw) 100 101 L (.int 2147483647 :: S) k n H Q := W_s (rfl : (pj lw).1 100 99 = some (.ldc 12, 2, 2147483647)) rfl rfl rfl
theorem w100_101 {x y : Int32} : W (pj lw) 100 101 L (.int y :: .int x :: S) k n H Q ↔ W (pj lw) 100 102 L (.int (x &&& y) :: S) k n H Q := W_s (rfl : (pj lw).1 100 101 = some (.iand, 1, 0)) rfl rfl rfl
theorem w100_102 {x : Int32} {l0 l1 l2 l3 l4 l5 l6 l7 l8 l9 l10 l11 l12 : Slot} : W (pj lw) 100 102 (l0 :: l1 :: l2 :: l3 :: l4 :: l5 :: l6 :: l7 :: l8 :: l9 :: l10 :: l11 :: l12 :: .unset :: L) (.int x :: S) k n H Q ↔ W (pj lw) 100 104 (l0 :: l1 :: l2 :: l3 :: l4 :: l5 :: l6 :: l7 :: l8 :: l9 :: l10 :: l11 :: l12 :: .val (.int x) :: L) S k n H Q := W_ist (rfl : (pj lw).1 100 102 = some (.istore 13, 2, 0)) rfl rfl
theorem w100_104 {x : Nat} : W (pj lw) 100 104 (.val (.ref x) :: L) S k n H Q ↔ W (pj lw) 100 105 (.val (.ref x) :: L) (.ref x :: S) k n H Q := W_s (rfl : (pj lw).1 100 104 = some (.aload_n 0, 1, 0)) rfl rfl rfl
theorem w100_105 {x : Int32} {l0 l1 l2 l3 l4 l5 l6 l7 l8 l9 l10 : Slot} : W (pj lw) 100 105 (l0 :: l1 :: l2 :: l3 :: l4 :: l5 :: l6 :: l7 :: l8 :: l9 :: l10 :: .val (.int x) :: L) S k n H Q ↔ W (pj lw) 100 107 (l0 :: l1 :: l2 :: l3 :: l4 :: l5 :: l6 :: l7 :: l8 :: l9 :: l10 :: .val (.int x) :: L) (.int x :: S) k n H Q := W_s (rfl : (pj lw).1 100 105 = some (.iload 11, 2, 0)) rfl rfl rfl
theorem w100_107 : W (pj lw) 100 107 L S k n H Q ↔ W (pj lw) 100 108 L (.int 2 :: S) k n H Q := W_s (rfl : (pj lw).1 100 107 = some (.iconst 2, 1, 0)) rfl rfl rfl
theorem w100_108 {x y : Int32} : W (pj lw) 100 108 L (.int y :: .int x :: S) k n H Q ↔ W (pj lw) 100 109 L (.int (x + y) :: S) k n H Q := W_s (rfl : (pj lw).1 100 108 = some (.iadd, 1, 0)) rfl rfl rfl
theorem w100_109 {i : Int32} {a : Nat} : W (pj lw) 100 109 L (.int i :: .ref a :: S) k n H Q ↔ (inA H a .int i = true ∧ W (pj lw) 100 110 L (elt H a i :: S) k n H Q) := W_iaload (rfl : (pj lw).1 100 109 = some (.iaload, 1, 0))
theorem w100_110 : W (pj lw) 100 110 L S k n H Q ↔ W (pj lw) 100 112 L (.int 2147483647 :: S) k n H Q := W_s (rfl : (pj lw).1 100 110 = some (.ldc 12, 2, 2147483647)) rfl rfl rfl
theorem w100_112 {x y : Int32} : W (pj lw) 100 112 L (.int y :: .int x :: S) k n H Q ↔ W (pj lw) 100 113 L (.int (x &&& y) :: S) k n H Q := W_s (rfl : (pj lw).1 100 112 = some (.iand, 1, 0)) rfl rfl rfl
theorem w100_113 {x : Int32} {l0 l1 l2 l3 l4 l5 l6 l7 l8 l9 l10 l11 l12 l13 : Slot} : W (pj lw) 100 113 (l0 :: l1 :: l2 :: l3 :: l4 :: l5 :: l6 :: l7 :: l8 :: l9 :: l10 :: l11 :: l12 :: l13 :: .unset :: L) (.int x :: S) k n H Q ↔ W (pj lw) 100 115 (l0 :: l1 :: l2 :: l3 :: l4 :: l5 :: l6 :: l7 :: l8 :: l9 :: l10 :: l11 :: l12 :: l13 :: .val (.int x) :: L) S k n H Q := W_ist (rfl : (pj lw).1 100 113 = some (.istore 14, 2, 0)) rfl rfl
theorem w100_115 {x : Nat} : W (pj lw) 100 115 (.val (.ref x) :: L) S k n H Q ↔ W (pj lw) 100 116 (.val (.ref x) :: L) (.ref x :: S) k n H Q := W_s (rfl : (pj lw).1 100 115 = some (.aload_n 0, 1, 0)) rfl rfl rfl
theorem w100_116 {x : Int32} {l0 l1 l2 l3 l4 l5 l6 l7 l8 l9 l10 : Slot} : W (pj lw) 100 116 (l0 :: l1 :: l2 :: l3 :: l4 :: l5 :: l6 :: l7 :: l8 :: l9 :: l10 :: .val (.int x) :: L) S k n H Q ↔ W (pj lw) 100 118 (l0 :: l1 :: l2 :: l3 :: l4 :: l5 :: l6 :: l7 :: l8 :: l9 :: l10 :: .val (.int x) :: L) (.int x :: S) k n H Q := W_s (rfl : (pj lw).1 100 116 = some (.iload 11, 2, 0)) rfl rfl rfl
theorem w100_118 : W (pj lw) 100 118 L S k n H Q ↔ W (pj lw) 100 119 L (.int 3 :: S) k n H Q := W_s (rfl : (pj lw).1 100 118 = some (.iconst 3, 1, 0)) rfl rfl rfl
theorem w100_119 {x y : Int32} : W (pj lw) 100 119 L (.int y :: .int x :: S) k n H Q ↔ W (pj lw) 100 120 L (.int (x + y) :: S) k n H Q := W_s (rfl : (pj lw).1 100 119 = some (.iadd, 1, 0)) rfl rfl rfl
theorem w100_120 {i : Int32} {a : Nat} : W (pj lw) 100 120 L (.int i :: .ref a :: S) k n H Q ↔ (inA H a .int i = true ∧ W (pj lw) 100 121 L (elt H a i :: S) k n H Q) := W_iaload (rfl : (pj lw).1 100 120 = some (.iaload, 1, 0))
theorem w100_121 : W (pj lw) 100 121 L S k n H Q ↔ W (pj lw) 100 123 L (.int 2147483647 :: S) k n H Q := W_s (rfl : (pj lw).1 100 121 = some (.ldc 12, 2, 2147483647)) rfl rfl rfl
theorem w100_123 {x y : Int32} : W (pj lw) 100 123 L (.int y :: .int x :: S) k n H Q ↔ W (pj lw) 100 124 L (.int (x &&& y) :: S) k n H Q := W_s (rfl : (pj lw).1 100 123 = some (.iand, 1, 0)) rfl rfl rfl
theorem w100_124 {x : Int32} {l0 l1 l2 l3 l4 l5 l6 l7 l8 l9 l10 l11 l12 l13 l14 : Slot} : W (pj lw) 100 124 (l0 :: l1 :: l2 :: l3 :: l4 :: l5 :: l6 :: l7 :: l8 :: l9 :: l10 :: l11 :: l12 :: l13 :: l14 :: .unset :: L) (.int x :: S) k n H Q ↔ W (pj lw) 100 126 (l0 :: l1 :: l2 :: l3 :: l4 :: l5 :: l6 :: l7 :: l8 :: l9 :: l10 :: l11 :: l12 :: l13 :: l14 :: .val (.int x) :: L) S k n H Q := W_ist (rfl : (pj lw).1 100 124 = some (.istore 15, 2, 0)) rfl rfl
theorem w100_126 {x : Int32} {l0 l1 l2 l3 l4 l5 l6 l7 l8 l9 l10 l11 l12 : Slot} : W (pj lw) 100 126 (l0 :: l1 :: l2 :: l3 :: l4 :: l5 :: l6 :: l7 :: l8 :: l9 :: l10 :: l11 :: l12 :: .val (.int x) :: L) S k n H Q ↔ W (pj lw) 100 128 (l0 :: l1 :: l2 :: l3 :: l4 :: l5 :: l6 :: l7 :: l8 :: l9 :: l10 :: l11 :: l12 :: .val (.int x) :: L) (.int x :: S) k n H Q := W_s (rfl : (pj lw).1 100 126 = some (.iload 13, 2, 0)) rfl rfl rfl
theorem w100_128 {x : Int32} {l0 l1 l2 l3 l4 : Slot} : W (pj lw) 100 128 (l0 :: l1 :: l2 :: l3 :: l4 :: .val (.int x) :: L) S k n H Q ↔ W (pj lw) 100 130 (l0 :: l1 :: l2 :: l3 :: l4 :: .val (.int x) :: L) (.int x :: S) k n H Q := W_s (rfl : (pj lw).1 100 128 = some (.iload 5, 2, 0)) rfl rfl rfl
theorem w100_130 : W (pj lw) 100 130 L S k n H Q ↔ W (pj lw) 100 131 L (.int 1 :: S) k n H Q := W_s (rfl : (pj lw).1 100 130 = some (.iconst 1, 1, 0)) rfl rfl rfl
theorem w100_131 {x y : Int32} : W (pj lw) 100 131 L (.int y :: .int x :: S) k n H Q ↔ W (pj lw) 100 132 L (.int (x + y) :: S) k n H Q := W_s (rfl : (pj lw).1 100 131 = some (.iadd, 1, 0)) rfl rfl rfl
theorem w100_132 {x y : Int32} : W (pj lw) 100 132 L (.int y :: .int x :: S) k n H Q ↔ (¬ y = 0 ∧ W (pj lw) 100 133 L (.int (x % y) :: S) k n H Q) := W_irem (rfl : (pj lw).1 100 132 = some (.irem, 1, 0))
theorem w100_133 : W (pj lw) 100 133 L S k n H Q ↔ W (pj lw) 100 134 L (.int 1 :: S) k n H Q := W_s (rfl : (pj lw).1 100 133 = some (.iconst 1, 1, 0)) rfl rfl rfl
theorem w100_134 {x y : Int32} : W (pj lw) 100 134 L (.int y :: .int x :: S) k n H Q ↔ W (pj lw) 100 135 L (.int (x + y) :: S) k n H Q := W_s (rfl : (pj lw).1 100 134 = some (.iadd, 1, 0)) rfl rfl rfl
theorem w100_135 {x : Int32} {l0 l1 l2 l3 l4 l5 l6 l7 l8 l9 l10 l11 l12 l13 l14 l15 : Slot} : W (pj lw) 100 135 (l0 :: l1 :: l2 :: l3 :: l4 :: l5 :: l6 :: l7 :: l8 :: l9 :: l10 :: l11 :: l12 :: l13 :: l14 :: l15 :: .unset :: L) (.int x :: S) k n H Q ↔ W (pj lw) 100 137 (l0 :: l1 :: l2 :: l3 :: l4 :: l5 :: l6 :: l7 :: l8 :: l9 :: l10 :: l11 :: l12 :: l13 :: l14 :: l15 :: .val (.int x) :: L) S k n H Q := W_ist (rfl : (pj lw).1 100 135 = some (.istore 16, 2, 0)) rfl rfl
theorem w100_137 : W (pj lw) 100 137 L S k n H Q ↔ W (pj lw) 100 138 L (.int 1 :: S) k n H Q := W_s (rfl : (pj lw).1 100 137 = some (.iconst 1, 1, 0)) rfl rfl rfl
theorem w100_138 {x : Int32} {l0 l1 l2 l3 l4 l5 l6 l7 l8 l9 l10 l11 l12 l13 l14 l15 : Slot} : W (pj lw) 100 138 (l0 :: l1 :: l2 :: l3 :: l4 :: l5 :: l6 :: l7 :: l8 :: l9 :: l10 :: l11 :: l12 :: l13 :: l14 :: l15 :: .val (.int x) :: L) S k n H Q ↔ W (pj lw) 100 140 (l0 :: l1 :: l2 :: l3 :: l4 :: l5 :: l6 :: l7 :: l8 :: l9 :: l10 :: l11 :: l12 :: l13 :: l14 :: l15 :: .val (.int x) :: L) (.int x :: S) k n H Q := W_s (rfl : (pj lw).1 100 138 = some (.iload 16, 2, 0)) rfl rfl rfl
theorem w100_140 : W (pj lw) 100 140 L S k n H Q ↔ W (pj lw) 100 141 L (.int 1 :: S) k n H Q := W_s (rfl : (pj lw).1 100 140 = some (.iconst 1, 1, 0)) rfl rfl rfl
theorem w100_141 {x y : Int32} : W (pj lw) 100 141 L (.int y :: .int x :: S) k n H Q ↔ W (pj lw) 100 142 L (.int (x - y) :: S) k n H Q := W_s (rfl : (pj lw).1 100 141 = some (.isub, 1, 0)) rfl rfl rfl
theorem w100_142 {x y : Int32} : W (pj lw) 100 142 L (.int y :: .int x :: S) k n H Q ↔ W (pj lw) 100 143 L (.int (x <<< (y &&& 31)) :: S) k n H Q := W_s (rfl : (pj lw).1 100 142 = some (.ishl, 1, 0)) rfl rfl rfl
theorem w100_143 {x : Int32} {l0 l1 l2 l3 l4 l5 l6 l7 l8 l9 l10 l11 l12 l13 l14 l15 l16 : Slot} : W (pj lw) 100 143 (l0 :: l1 :: l2 :: l3 :: l4 :: l5 :: l6 :: l7 :: l8 :: l9 :: l10 :: l11 :: l12 :: l13 :: l14 :: l15 :: l16 :: .unset :: L) (.int x :: S) k n H Q ↔ W (pj lw) 100 145 (l0 :: l1 :: l2 :: l3 :: l4 :: l5 :: l6 :: l7 :: l8 :: l9 :: l10 :: l11 :: l12 :: l13 :: l14 :: l15 :: l16 :: .val (.int x) :: L) S k n H Q := W_ist (rfl : (pj lw).1 100 143 = some (.istore 17, 2, 0)) rfl rfl
theorem w100_145 {x : Int32} {l0 l1 l2 l3 l4 l5 l6 l7 l8 l9 l10 l11 : Slot} : W (pj lw) 100 145 (l0 :: l1 :: l2 :: l3 :: l4 :: l5 :: l6 :: l7 :: l8 :: l9 :: l10 :: l11 :: .val (.int x) :: L) S k n H Q ↔ W (pj lw) 100 147 (l0 :: l1 :: l2 :: l3 :: l4 :: l5 :: l6 :: l7 :: l8 :: l9 :: l10 :: l11 :: .val (.int x) :: L) (.int x :: S) k n H Q := W_s (rfl : (pj lw).1 100 145 = some (.iload 12, 2, 0)) rfl rfl rfl
theorem w100_147 : W (pj lw) 100 147 L S k n H Q ↔ W (pj lw) 100 148 L (.int 1 :: S) k n H Q := W_s (rfl : (pj lw).1 100 147 = some (.iconst 1, 1, 0)) rfl rfl rfl
theorem w100_148 {x y : Int32} : W (pj lw) 100 148 L (.int y :: .int x :: S) k n H Q ↔ (if y < x then W (pj lw) 100 390 L S k n H Q else W (pj lw) 100 151 L S k n H Q) := W_icmp_gt (rfl : (pj lw).1 100 148 = some (.if_icmp .gt 242, 3, 0)) rfl
theorem w100_151 {x : Int32} {l0 l1 l2 l3 l4 l5 l6 l7 l8 l9 l10 l11 l12 : Slot} : W (pj lw) 100 151 (l0 :: l1 :: l2 :: l3 :: l4 :: l5 :: l6 :: l7 :: l8 :: l9 :: l10 :: l11 :: l12 :: .val (.int x) :: L) S k n H Q ↔ W (pj lw) 100 153 (l0 :: l1 :: l2 :: l3 :: l4 :: l5 :: l6 :: l7 :: l8 :: l9 :: l10 :: l11 :: l12 :: .val (.int x) :: L) (.int x :: S) k n H Q := W_s (rfl : (pj lw).1 100 151 = some (.iload 13, 2, 0)) rfl rfl rfl
theorem w100_153 : W (pj lw) 100 153 L S k n H Q ↔ W (pj lw) 100 155 L (.int 15 :: S) k n H Q := W_s (rfl : (pj lw).1 100 153 = some (.bipush 15, 2, 0)) rfl rfl rfl
theorem w100_155 {x y : Int32} : W (pj lw) 100 155 L (.int y :: .int x :: S) k n H Q ↔ W (pj lw) 100 156 L (.int (x &&& y) :: S) k n H Q := W_s (rfl : (pj lw).1 100 155 = some (.iand, 1, 0)) rfl rfl rfl
theorem w100_156 : W (pj lw) 100 156 L S k n H Q ↔ W (pj lw) 100 158 L (.int 15 :: S) k n H Q := W_s (rfl : (pj lw).1 100 156 = some (.bipush 15, 2, 0)) rfl rfl rfl
theorem w100_158 {x y : Int32} : W (pj lw) 100 158 L (.int y :: .int x :: S) k n H Q ↔ (if x = y then W (pj lw) 100 161 L S k n H Q else W (pj lw) 100 165 L S k n H Q) := W_icmp_ne (rfl : (pj lw).1 100 158 = some (.if_icmp .ne 7, 3, 0)) rfl
theorem w100_161 : W (pj lw) 100 161 L S k n H Q ↔ W (pj lw) 100 162 L (.int 0 :: S) k n H Q := W_s (rfl : (pj lw).1 100 161 = some (.iconst 0, 1, 0)) rfl rfl rfl
theorem w100_162 : W (pj lw) 100 162 L S k n H Q ↔ W (pj lw) 100 171 L S k n H Q := W_goto (rfl : (pj lw).1 100 162 = some (.goto 9, 3, 0)) rfl
theorem w100_165 : W (pj lw) 100 165 L S k n H Q ↔ W (pj lw) 100 166 L (.int 1 :: S) k n H Q := W_s (rfl : (pj lw).1 100 165 = some (.iconst 1, 1, 0)) rfl rfl rfl
theorem w100_166 {x : Int32} {l0 l1 l2 l3 l4 l5 l6 l7 l8 l9 l10 l11 l12 : Slot} : W (pj lw) 100 166 (l0 :: l1 :: l2 :: l3 :: l4 :: l5 :: l6 :: l7 :: l8 :: l9 :: l10 :: l11 :: l12 :: .val (.int x) :: L) S k n H Q ↔ W (pj lw) 100 168 (l0 :: l1 :: l2 :: l3 :: l4 :: l5 :: l6 :: l7 :: l8 :: l9 :: l10 :: l11 :: l12 :: .val (.int x) :: L) (.int x :: S) k n H Q := W_s (rfl : (pj lw).1 100 166 = some (.iload 13, 2, 0)) rfl rfl rfl
theorem w100_168 : W (pj lw) 100 168 L S k n H Q ↔ W (pj lw) 100 169 L (.int 1 :: S) k n H Q := W_s (rfl : (pj lw).1 100 168 = some (.iconst 1, 1, 0)) rfl rfl rfl
theorem w100_169 {x y : Int32} : W (pj lw) 100 169 L (.int y :: .int x :: S) k n H Q ↔ W (pj lw) 100 170 L (.int (x &&& y) :: S) k n H Q := W_s (rfl : (pj lw).1 100 169 = some (.iand, 1, 0)) rfl rfl rfl
theorem w100_170 {x y : Int32} : W (pj lw) 100 170 L (.int y :: .int x :: S) k n H Q ↔ W (pj lw) 100 171 L (.int (x + y) :: S) k n H Q := W_s (rfl : (pj lw).1 100 170 = some (.iadd, 1, 0)) rfl rfl rfl
theorem w100_171 {x : Int32} {l0 l1 l2 l3 l4 l5 l6 l7 l8 l9 l10 l11 l12 l13 l14 l15 l16 l17 : Slot} : W (pj lw) 100 171 (l0 :: l1 :: l2 :: l3 :: l4 :: l5 :: l6 :: l7 :: l8 :: l9 :: l10 :: l11 :: l12 :: l13 :: l14 :: l15 :: l16 :: l17 :: .unset :: L) (.int x :: S) k n H Q ↔ W (pj lw) 100 173 (l0 :: l1 :: l2 :: l3 :: l4 :: l5 :: l6 :: l7 :: l8 :: l9 :: l10 :: l11 :: l12 :: l13 :: l14 :: l15 :: l16 :: l17 :: .val (.int x) :: L) S k n H Q := W_ist (rfl : (pj lw).1 100 171 = some (.istore 18, 2, 0)) rfl rfl
theorem w100_173 : W (pj lw) 100 173 L S k n H Q ↔ W (pj lw) 100 174 L (.int 0 :: S) k n H Q := W_s (rfl : (pj lw).1 100 173 = some (.iconst 0, 1, 0)) rfl rfl rfl
theorem w100_174 {x : Int32} {l0 l1 l2 l3 l4 l5 l6 l7 l8 l9 l10 l11 l12 l13 l14 l15 l16 l17 l18 : Slot} : W (pj lw) 100 174 (l0 :: l1 :: l2 :: l3 :: l4 :: l5 :: l6 :: l7 :: l8 :: l9 :: l10 :: l11 :: l12 :: l13 :: l14 :: l15 :: l16 :: l17 :: l18 :: .unset :: L) (.int x :: S) k n H Q ↔ W (pj lw) 100 176 (l0 :: l1 :: l2 :: l3 :: l4 :: l5 :: l6 :: l7 :: l8 :: l9 :: l10 :: l11 :: l12 :: l13 :: l14 :: l15 :: l16 :: l17 :: l18 :: .val (.int x) :: L) S k n H Q := W_ist (rfl : (pj lw).1 100 174 = some (.istore 19, 2, 0)) rfl rfl
theorem w100_176 : W (pj lw) 100 176 L S k n H Q ↔ W (pj lw) 100 177 L (.int 0 :: S) k n H Q := W_s (rfl : (pj lw).1 100 176 = some (.iconst 0, 1, 0)) rfl rfl rfl
theorem w100_177 {x : Int32} {l0 l1 l2 l3 l4 l5 l6 l7 l8 l9 l10 l11 l12 l13 l14 l15 l16 l17 l18 l19 : Slot} : W (pj lw) 100 177 (l0 :: l1 :: l2 :: l3 :: l4 :: l5 :: l6 :: l7 :: l8 :: l9 :: l10 :: l11 :: l12 :: l13 :: l14 :: l15 :: l16 :: l17 :: l18 :: l19 :: .unset :: L) (.int x :: S) k n H Q ↔ W (pj lw) 100 179 (l0 :: l1 :: l2 :: l3 :: l4 :: l5 :: l6 :: l7 :: l8 :: l9 :: l10 :: l11 :: l12 :: l13 :: l14 :: l15 :: l16 :: l17 :: l18 :: l19 :: .val (.int x) :: L) S k n H Q := W_ist (rfl : (pj lw).1 100 177 = some (.istore 20, 2, 0)) rfl rfl
theorem w100_179 {x : Int32} {l0 l1 l2 l3 l4 l5 l6 l7 l8 l9 l10 l11 l12 : Slot} : W (pj lw) 100 179 (l0 :: l1 :: l2 :: l3 :: l4 :: l5 :: l6 :: l7 :: l8 :: l9 :: l10 :: l11 :: l12 :: .val (.int x) :: L) S k n H Q ↔ W (pj lw) 100 181 (l0 :: l1 :: l2 :: l3 :: l4 :: l5 :: l6 :: l7 :: l8 :: l9 :: l10 :: l11 :: l12 :: .val (.int x) :: L) (.int x :: S) k n H Q := W_s (rfl : (pj lw).1 100 179 = some (.iload 13, 2, 0)) rfl rfl rfl
theorem w100_181 : W (pj lw) 100 181 L S k n H Q ↔ W (pj lw) 100 182 L (.int 4 :: S) k n H Q := W_s (rfl : (pj lw).1 100 181 = some (.iconst 4, 1, 0)) rfl rfl rfl
theorem w100_182 {x y : Int32} : W (pj lw) 100 182 L (.int y :: .int x :: S) k n H Q ↔ W (pj lw) 100 183 L (.int (x >>> (y &&& 31)) :: S) k n H Q := W_s (rfl : (pj lw).1 100 182 = some (.ishr, 1, 0)) rfl rfl rfl
theorem w100_183 : W (pj lw) 100 183 L S k n H Q ↔ W (pj lw) 100 184 L (.int 3 :: S) k n H Q := W_s (rfl : (pj lw).1 100 183 = some (.iconst 3, 1, 0)) rfl rfl rfl
theorem w100_184 {x y : Int32} : W (pj lw) 100 184 L (.int y :: .int x :: S) k n H Q ↔ W (pj lw) 100 185 L (.int (x &&& y) :: S) k n H Q := W_s (rfl : (pj lw).1 100 184 = some (.iand, 1, 0)) rfl rfl rfl
theorem w100_185 {x : Int32} : W (pj lw) 100 185 L (.int x :: S) k n H Q ↔ (if x = 0 then W (pj lw) 100 206 L S k n H Q else W (pj lw) 100 188 L S k n H Q) := W_if_eq (rfl : (pj lw).1 100 185 = some (.ifCond .eq 21, 3, 0)) rfl
theorem w100_188 {x : Int32} {l0 l1 l2 l3 l4 l5 l6 l7 l8 l9 l10 l11 l12 l13 : Slot} : W (pj lw) 100 188 (l0 :: l1 :: l2 :: l3 :: l4 :: l5 :: l6 :: l7 :: l8 :: l9 :: l10 :: l11 :: l12 :: l13 :: .val (.int x) :: L) S k n H Q ↔ W (pj lw) 100 190 (l0 :: l1 :: l2 :: l3 :: l4 :: l5 :: l6 :: l7 :: l8 :: l9 :: l10 :: l11 :: l12 :: l13 :: .val (.int x) :: L) (.int x :: S) k n H Q := W_s (rfl : (pj lw).1 100 188 = some (.iload 14, 2, 0)) rfl rfl rfl
theorem w100_190 {x : Int32} {l0 l1 l2 l3 l4 : Slot} : W (pj lw) 100 190 (l0 :: l1 :: l2 :: l3 :: l4 :: .val (.int x) :: L) S k n H Q ↔ W (pj lw) 100 192 (l0 :: l1 :: l2 :: l3 :: l4 :: .val (.int x) :: L) (.int x :: S) k n H Q := W_s (rfl : (pj lw).1 100 190 = some (.iload 5, 2, 0)) rfl rfl rfl
theorem w100_192 : W (pj lw) 100 192 L S k n H Q ↔ W (pj lw) 100 193 L (.int 2 :: S) k n H Q := W_s (rfl : (pj lw).1 100 192 = some (.iconst 2, 1, 0)) rfl rfl rfl
theorem w100_193 {x y : Int32} : W (pj lw) 100 193 L (.int y :: .int x :: S) k n H Q ↔ W (pj lw) 100 194 L (.int (x + y) :: S) k n H Q := W_s (rfl : (pj lw).1 100 193 = some (.iadd, 1, 0)) rfl rfl rfl
theorem w100_194 {x y : Int32} : W (pj lw) 100 194 L (.int y :: .int x :: S) k n H Q ↔ (¬ y = 0 ∧ W (pj lw) 100 195 L (.int (x % y) :: S) k n H Q) := W_irem (rfl : (pj lw).1 100 194 = some (.irem, 1, 0))
theorem w100_195i {y : Int32} {x : Int32} {l0 l1 l2 l3 l4 l5 l6 l7 l8 l9 l10 l11 l12 l13 l14 l15 l16 l17 l18 : Slot} : W (pj lw) 100 195 (l0 :: l1 :: l2 :: l3 :: l4 :: l5 :: l6 :: l7 :: l8 :: l9 :: l10 :: l11 :: l12 :: l13 :: l14 :: l15 :: l16 :: l17 :: l18 :: .val (.int y) :: L) (.int x :: S) k n H Q ↔ W (pj lw) 100 197 (l0 :: l1 :: l2 :: l3 :: l4 :: l5 :: l6 :: l7 :: l8 :: l9 :: l10 :: l11 :: l12 :: l13 :: l14 :: l15 :: l16 :: l17 :: l18 :: .val (.int x) :: L) S k n H Q := W_ist (rfl : (pj lw).1 100 195 = some (.istore 19, 2, 0)) rfl rfl
theorem w100_197 {x : Int32} {l0 l1 l2 l3 l4 l5 l6 l7 l8 l9 l10 l11 l12 l13 l14 : Slot} : W (pj lw) 100 197 (l0 :: l1 :: l2 :: l3 :: l4 :: l5 :: l6 :: l7 :: l8 :: l9 :: l10 :: l11 :: l12 :: l13 :: l14 :: .val (.int x) :: L) S k n H Q ↔ W (pj lw) 100 199 (l0 :: l1 :: l2 :: l3 :: l4 :: l5 :: l6 :: l7 :: l8 :: l9 :: l10 :: l11 :: l12 :: l13 :: l14 :: .val (.int x) :: L) (.int x :: S) k n H Q := W_s (rfl : (pj lw).1 100 197 = some (.iload 15, 2, 0)) rfl rfl rfl
theorem w100_199 {x : Int32} {l0 l1 l2 l3 l4 : Slot} : W (pj lw) 100 199 (l0 :: l1 :: l2 :: l3 :: l4 :: .val (.int x) :: L) S k n H Q ↔ W (pj lw) 100 201 (l0 :: l1 :: l2 :: l3 :: l4 :: .val (.int x) :: L) (.int x :: S) k n H Q := W_s (rfl : (pj lw).1 100 199 = some (.iload 5, 2, 0)) rfl rfl rfl
theorem w100_201 : W (pj lw) 100 201 L S k n H Q ↔ W (pj lw) 100 202 L (.int 2 :: S) k n H Q := W_s (rfl : (pj lw).1 100 201 = some (.iconst 2, 1, 0)) rfl rfl rfl
theorem w100_202 {x y : Int32} : W (pj lw) 100 202 L (.int y :: .int x :: S) k n H Q ↔ W (pj lw) 100 203 L (.int (x + y) :: S) k n H Q := W_s (rfl : (pj lw).1 100 202 = some (.iadd, 1, 0)) rfl rfl rfl
theorem w100_203 {x y : Int32} : W (pj lw) 100 203 L (.int y :: .int x :: S) k n H Q ↔ (¬ y = 0 ∧ W (pj lw) 100 204 L (.int (x % y) :: S) k n H Q) := W_irem (rfl : (pj lw).1 100 203 = some (.irem, 1, 0))
theorem w100_204i {y : Int32} {x : Int32} {l0 l1 l2 l3 l4 l5 l6 l7 l8 l9 l10 l11 l12 l13 l14 l15 l16 l17 l18 l19 : Slot} : W (pj lw) 100 204 (l0 :: l1 :: l2 :: l3 :: l4 :: l5 :: l6 :: l7 :: l8 :: l9 :: l10 :: l11 :: l12 :: l13 :: l14 :: l15 :: l16 :: l17 :: l18 :: l19 :: .val (.int y) :: L) (.int x :: S) k n H Q ↔ W (pj lw) 100 206 (l0 :: l1 :: l2 :: l3 :: l4 :: l5 :: l6 :: l7 :: l8 :: l9 :: l10 :: l11 :: l12 :: l13 :: l14 :: l15 :: l16 :: l17 :: l18 :: l19 :: .val (.int x) :: L) S k n H Q := W_ist (rfl : (pj lw).1 100 204 = some (.istore 20, 2, 0)) rfl rfl
theorem w100_206 {x : Int32} {l0 l1 l2 l3 l4 : Slot} : W (pj lw) 100 206 (l0 :: l1 :: l2 :: l3 :: l4 :: .val (.int x) :: L) S k n H Q ↔ W (pj lw) 100 208 (l0 :: l1 :: l2 :: l3 :: l4 :: .val (.int x) :: L) (.int x :: S) k n H Q := W_s (rfl : (pj lw).1 100 206 = some (.iload 5, 2, 0)) rfl rfl rfl
theorem w100_208 : W (pj lw) 100 208 L S k n H Q ↔ W (pj lw) 100 209 L (.int 1 :: S) k n H Q := W_s (rfl : (pj lw).1 100 208 = some (.iconst 1, 1, 0)) rfl rfl rfl
theorem w100_209 {x y : Int32} : W (pj lw) 100 209 L (.int y :: .int x :: S) k n H Q ↔ W (pj lw) 100 210 L (.int (x + y) :: S) k n H Q := W_s (rfl : (pj lw).1 100 209 = some (.iadd, 1, 0)) rfl rfl rfl
theorem w100_210 {x : Int32} {l0 l1 l2 l3 l4 l5 l6 l7 l8 l9 l10 l11 l12 l13 l14 l15 l16 l17 l18 l19 l20 : Slot} : W (pj lw) 100 210 (l0 :: l1 :: l2 :: l3 :: l4 :: l5 :: l6 :: l7 :: l8 :: l9 :: l10 :: l11 :: l12 :: l13 :: l14 :: l15 :: l16 :: l17 :: l18 :: l19 :: l20 :: .unset :: L) (.int x :: S) k n H Q ↔ W (pj lw) 100 212 (l0 :: l1 :: l2 :: l3 :: l4 :: l5 :: l6 :: l7 :: l8 :: l9 :: l10 :: l11 :: l12 :: l13 :: l14 :: l15 :: l16 :: l17 :: l18 :: l19 :: l20 :: .val (.int x) :: L) S k n H Q := W_ist (rfl : (pj lw).1 100 210 = some (.istore 21, 2, 0)) rfl rfl
theorem w100_212 {x : Int32} {l0 l1 l2 l3 l4 : Slot} : W (pj lw) 100 212 (l0 :: l1 :: l2 :: l3 :: l4 :: .val (.int x) :: L) S k n H Q ↔ W (pj lw) 100 214 (l0 :: l1 :: l2 :: l3 :: l4 :: .val (.int x) :: L) (.int x :: S) k n H Q := W_s (rfl : (pj lw).1 100 212 = some (.iload 5, 2, 0)) rfl rfl rfl
theorem w100_214 : W (pj lw) 100 214 L S k n H Q ↔ W (pj lw) 100 216 L (.int 32 :: S) k n H Q := W_s (rfl : (pj lw).1 100 214 = some (.bipush 32, 2, 0)) rfl rfl rfl
theorem w100_216 {x y : Int32} : W (pj lw) 100 216 L (.int y :: .int x :: S) k n H Q ↔ (if x = y then W (pj lw) 100 219 L S k n H Q else W (pj lw) 100 225 L S k n H Q) := W_icmp_ne (rfl : (pj lw).1 100 216 = some (.if_icmp .ne 9, 3, 0)) rfl
theorem w100_219 : W (pj lw) 100 219 L S k n H Q ↔ W (pj lw) 100 220 L (.int (-1) :: S) k n H Q := W_s (rfl : (pj lw).1 100 219 = some (.iconst (-1), 1, 0)) rfl rfl rfl
theorem w100_220i {y : Int32} {x : Int32} {l0 l1 l2 l3 l4 l5 l6 l7 l8 l9 l10 l11 l12 l13 l14 l15 l16 l17 l18 l19 l20 : Slot} : W (pj lw) 100 220 (l0 :: l1 :: l2 :: l3 :: l4 :: l5 :: l6 :: l7 :: l8 :: l9 :: l10 :: l11 :: l12 :: l13 :: l14 :: l15 :: l16 :: l17 :: l18 :: l19 :: l20 :: .val (.int y) :: L) (.int x :: S) k n H Q ↔ W (pj lw) 100 222 (l0 :: l1 :: l2 :: l3 :: l4 :: l5 :: l6 :: l7 :: l8 :: l9 :: l10 :: l11 :: l12 :: l13 :: l14 :: l15 :: l16 :: l17 :: l18 :: l19 :: l20 :: .val (.int x) :: L) S k n H Q := W_ist (rfl : (pj lw).1 100 220 = some (.istore 21, 2, 0)) rfl rfl
theorem w100_222 : W (pj lw) 100 222 L S k n H Q ↔ W (pj lw) 100 326 L S k n H Q := W_goto (rfl : (pj lw).1 100 222 = some (.goto 104, 3, 0)) rfl
theorem w100_225 {x : Int32} {l0 l1 l2 l3 l4 l5 l6 l7 l8 l9 l10 l11 l12 l13 l14 l15 l16 l17 : Slot} : W (pj lw) 100 225 (l0 :: l1 :: l2 :: l3 :: l4 :: l5 :: l6 :: l7 :: l8 :: l9 :: l10 :: l11 :: l12 :: l13 :: l14 :: l15 :: l16 :: l17 :: .val (.int x) :: L) S k n H Q ↔ W (pj lw) 100 227 (l0 :: l1 :: l2 :: l3 :: l4 :: l5 :: l6 :: l7 :: l8 :: l9 :: l10 :: l11 :: l12 :: l13 :: l14 :: l15 :: l16 :: l17 :: .val (.int x) :: L) (.int x :: S) k n H Q := W_s (rfl : (pj lw).1 100 225 = some (.iload 18, 2, 0)) rfl rfl rfl
theorem w100_227 {x : Int32} : W (pj lw) 100 227 L (.int x :: S) k n H Q ↔ (if x = 0 then W (pj lw) 100 253 L S k n H Q else W (pj lw) 100 230 L S k n H Q) := W_if_eq (rfl : (pj lw).1 100 227 = some (.ifCond .eq 26, 3, 0)) rfl
theorem w100_230 {x : Int32} {l0 l1 l2 l3 l4 l5 l6 l7 l8 l9 l10 l11 l12 l13 l14 l15 l16 l17 l18 : Slot} : W (pj lw) 100 230 (l0 :: l1 :: l2 :: l3 :: l4 :: l5 :: l6 :: l7 :: l8 :: l9 :: l10 :: l11 :: l12 :: l13 :: l14 :: l15 :: l16 :: l17 :: l18 :: .val (.int x) :: L) S k n H Q ↔ W (pj lw) 100 232 (l0 :: l1 :: l2 :: l3 :: l4 :: l5 :: l6 :: l7 :: l8 :: l9 :: l10 :: l11 :: l12 :: l13 :: l14 :: l15 :: l16 :: l17 :: l18 :: .val (.int x) :: L) (.int x :: S) k n H Q := W_s (rfl : (pj lw).1 100 230 = some (.iload 19, 2, 0)) rfl rfl rfl
theorem w100_232 {x : Int32} : W (pj lw) 100 232 L (.int x :: S) k n H Q ↔ (if x = 0 then W (pj lw) 100 235 L S k n H Q else W (pj lw) 100 239 L S k n H Q) := W_if_ne (rfl : (pj lw).1 100 232 = some (.ifCond .ne 7, 3, 0)) rfl
theorem w100_235 : W (pj lw) 100 235 L S k n H Q ↔ W (pj lw) 100 236 L (.int 1 :: S) k n H Q := W_s (rfl : (pj lw).1 100 235 = some (.iconst 1, 1, 0)) rfl rfl rfl
theorem w100_236 : W (pj lw) 100 236 L S k n H Q ↔ W (pj lw) 100 240 L S k n H Q := W_goto (rfl : (pj lw).1 100 236 = some (.goto 4, 3, 0)) rfl
theorem w100_239 : W (pj lw) 100 239 L S k n H Q ↔ W (pj lw) 100 240 L (.int 0 :: S) k n H Q := W_s (rfl : (pj lw).1 100 239 = some (.iconst 0, 1, 0)) rfl rfl rfl
theorem w100_240 {x : Int32} {l0 l1 l2 l3 l4 l5 l6 l7 l8 l9 l10 l11 l12 l13 l14 l15 l16 l17 l18 l19 : Slot} : W (pj lw) 100 240 (l0 :: l1 :: l2 :: l3 :: l4 :: l5 :: l6 :: l7 :: l8 :: l9 :: l10 :: l11 :: l12 :: l13 :: l14 :: l15 :: l16 :: l17 :: l18 :: l19 :: .val (.int x) :: L) S k n H Q ↔ W (pj lw) 100 242 (l0 :: l1 :: l2 :: l3 :: l4 :: l5 :: l6 :: l7 :: l8 :: l9 :: l10 :: l11 :: l12 :: l13 :: l14 :: l15 :: l16 :: l17 :: l18 :: l19 :: .val (.int x) :: L) (.int x :: S) k n H Q := W_s (rfl : (pj lw).1 100 240 = some (.iload 20, 2, 0)) rfl rfl rfl
theorem w100_242 {x : Int32} : W (pj lw) 100 242 L (.int x :: S) k n H Q ↔ (if x = 0 then W (pj lw) 100 245 L S k n H Q else W (pj lw) 100 249 L S k n H Q) := W_if_ne (rfl : (pj lw).1 100 242 = some (.ifCond .ne 7, 3, 0)) rfl
theorem w100_245 : W (pj lw) 100 245 L S k n H Q ↔ W (pj lw) 100 246 L (.int 1 :: S) k n H Q := W_s (rfl : (pj lw).1 100 245 = some (.iconst 1, 1, 0)) rfl rfl rfl
theorem w100_246 : W (pj lw) 100 246 L S k n H Q ↔ W (pj lw) 100 250 L S k n H Q := W_goto (rfl : (pj lw).1 100 246 = some (.goto 4, 3, 0)) rfl
theorem w100_249 : W (pj lw) 100 249 L S k n H Q ↔ W (pj lw) 100 250 L (.int 0 :: S) k n H Q := W_s (rfl : (pj lw).1 100 249 = some (.iconst 0, 1, 0)) rfl rfl rfl
theorem w100_250 {x y : Int32} : W (pj lw) 100 250 L (.int y :: .int x :: S) k n H Q ↔ (if x = y then W (pj lw) 100 260 L S k n H Q else W (pj lw) 100 253 L S k n H Q) := W_icmp_eq (rfl : (pj lw).1 100 250 = some (.if_icmp .eq 10, 3, 0)) rfl
theorem w100_253 : W (pj lw) 100 253 L S k n H Q ↔ W (pj lw) 100 255 L (.int (-2) :: S) k n H Q := W_s (rfl : (pj lw).1 100 253 = some (.bipush (-2), 2, 0)) rfl rfl rfl
theorem w100_255i {y : Int32} {x : Int32} {l0 l1 l2 l3 l4 l5 l6 l7 l8 l9 l10 l11 l12 l13 l14 l15 l16 l17 l18 l19 l20 : Slot} : W (pj lw) 100 255 (l0 :: l1 :: l2 :: l3 :: l4 :: l5 :: l6 :: l7 :: l8 :: l9 :: l10 :: l11 :: l12 :: l13 :: l14 :: l15 :: l16 :: l17 :: l18 :: l19 :: l20 :: .val (.int y) :: L) (.int x :: S) k n H Q ↔ W (pj lw) 100 257 (l0 :: l1 :: l2 :: l3 :: l4 :: l5 :: l6 :: l7 :: l8 :: l9 :: l10 :: l11 :: l12 :: l13 :: l14 :: l15 :: l16 :: l17 :: l18 :: l19 :: l20 :: .val (.int x) :: L) S k n H Q := W_ist (rfl : (pj lw).1 100 255 = some (.istore 21, 2, 0)) rfl rfl
theorem w100_257 : W (pj lw) 100 257 L S k n H Q ↔ W (pj lw) 100 326 L S k n H Q := W_goto (rfl : (pj lw).1 100 257 = some (.goto 69, 3, 0)) rfl
theorem w100_260 {x : Int32} {l0 l1 l2 l3 l4 l5 l6 l7 l8 l9 l10 l11 l12 l13 l14 l15 l16 l17 l18 : Slot} : W (pj lw) 100 260 (l0 :: l1 :: l2 :: l3 :: l4 :: l5 :: l6 :: l7 :: l8 :: l9 :: l10 :: l11 :: l12 :: l13 :: l14 :: l15 :: l16 :: l17 :: l18 :: .val (.int x) :: L) S k n H Q ↔ W (pj lw) 100 262 (l0 :: l1 :: l2 :: l3 :: l4 :: l5 :: l6 :: l7 :: l8 :: l9 :: l10 :: l11 :: l12 :: l13 :: l14 :: l15 :: l16 :: l17 :: l18 :: .val (.int x) :: L) (.int x :: S) k n H Q := W_s (rfl : (pj lw).1 100 260 = some (.iload 19, 2, 0)) rfl rfl rfl
theorem w100_262 {x : Int32} {l0 l1 l2 l3 l4 : Slot} : W (pj lw) 100 262 (l0 :: l1 :: l2 :: l3 :: l4 :: .val (.int x) :: L) S k n H Q ↔ W (pj lw) 100 264 (l0 :: l1 :: l2 :: l3 :: l4 :: .val (.int x) :: L) (.int x :: S) k n H Q := W_s (rfl : (pj lw).1 100 262 = some (.iload 5, 2, 0)) rfl rfl rfl
theorem w100_264 {x y : Int32} : W (pj lw) 100 264 L (.int y :: .int x :: S) k n H Q ↔ (if y < x then W (pj lw) 100 274 L S k n H Q else W (pj lw) 100 267 L S k n H Q) := W_icmp_gt (rfl : (pj lw).1 100 264 = some (.if_icmp .gt 10, 3, 0)) rfl
theorem w100_267 {x : Int32} {l0 l1 l2 l3 l4 l5 l6 l7 l8 l9 l10 l11 l12 l13 l14 l15 l16 l17 l18 l19 : Slot} : W (pj lw) 100 267 (l0 :: l1 :: l2 :: l3 :: l4 :: l5 :: l6 :: l7 :: l8 :: l9 :: l10 :: l11 :: l12 :: l13 :: l14 :: l15 :: l16 :: l17 :: l18 :: l19 :: .val (.int x) :: L) S k n H Q ↔ W (pj lw) 100 269 (l0 :: l1 :: l2 :: l3 :: l4 :: l5 :: l6 :: l7 :: l8 :: l9 :: l10 :: l11 :: l12 :: l13 :: l14 :: l15 :: l16 :: l17 :: l18 :: l19 :: .val (.int x) :: L) (.int x :: S) k n H Q := W_s (rfl : (pj lw).1 100 267 = some (.iload 20, 2, 0)) rfl rfl rfl
theorem w100_269 {x : Int32} {l0 l1 l2 l3 l4 : Slot} : W (pj lw) 100 269 (l0 :: l1 :: l2 :: l3 :: l4 :: .val (.int x) :: L) S k n H Q ↔ W (pj lw) 100 271 (l0 :: l1 :: l2 :: l3 :: l4 :: .val (.int x) :: L) (.int x :: S) k n H Q := W_s (rfl : (pj lw).1 100 269 = some (.iload 5, 2, 0)) rfl rfl rfl
theorem w100_271 {x y : Int32} : W (pj lw) 100 271 L (.int y :: .int x :: S) k n H Q ↔ (if y < x then W (pj lw) 100 274 L S k n H Q else W (pj lw) 100 281 L S k n H Q) := W_icmp_le (rfl : (pj lw).1 100 271 = some (.if_icmp .le 10, 3, 0)) rfl
theorem w100_274 : W (pj lw) 100 274 L S k n H Q ↔ W (pj lw) 100 276 L (.int (-3) :: S) k n H Q := W_s (rfl : (pj lw).1 100 274 = some (.bipush (-3), 2, 0)) rfl rfl rfl
theorem w100_276i {y : Int32} {x : Int32} {l0 l1 l2 l3 l4 l5 l6 l7 l8 l9 l10 l11 l12 l13 l14 l15 l16 l17 l18 l19 l20 : Slot} : W (pj lw) 100 276 (l0 :: l1 :: l2 :: l3 :: l4 :: l5 :: l6 :: l7 :: l8 :: l9 :: l10 :: l11 :: l12 :: l13 :: l14 :: l15 :: l16 :: l17 :: l18 :: l19 :: l20 :: .val (.int y) :: L) (.int x :: S) k n H Q ↔ W (pj lw) 100 278 (l0 :: l1 :: l2 :: l3 :: l4 :: l5 :: l6 :: l7 :: l8 :: l9 :: l10 :: l11 :: l12 :: l13 :: l14 :: l15 :: l16 :: l17 :: l18 :: l19 :: l20 :: .val (.int x) :: L) S k n H Q := W_ist (rfl : (pj lw).1 100 276 = some (.istore 21, 2, 0)) rfl rfl
theorem w100_278 : W (pj lw) 100 278 L S k n H Q ↔ W (pj lw) 100 326 L S k n H Q := W_goto (rfl : (pj lw).1 100 278 = some (.goto 48, 3, 0)) rfl
theorem w100_281 {x : Int32} {l0 l1 l2 l3 l4 l5 l6 l7 l8 l9 l10 l11 l12 l13 l14 l15 l16 l17 l18 : Slot} : W (pj lw) 100 281 (l0 :: l1 :: l2 :: l3 :: l4 :: l5 :: l6 :: l7 :: l8 :: l9 :: l10 :: l11 :: l12 :: l13 :: l14 :: l15 :: l16 :: l17 :: l18 :: .val (.int x) :: L) S k n H Q ↔ W (pj lw) 100 283 (l0 :: l1 :: l2 :: l3 :: l4 :: l5 :: l6 :: l7 :: l8 :: l9 :: l10 :: l11 :: l12 :: l13 :: l14 :: l15 :: l16 :: l17 :: l18 :: .val (.int x) :: L) (.int x :: S) k n H Q := W_s (rfl : (pj lw).1 100 281 = some (.iload 19, 2, 0)) rfl rfl rfl
theorem w100_283 {x : Int32} : W (pj lw) 100 283 L (.int x :: S) k n H Q ↔ (if x = 0 then W (pj lw) 100 305 L S k n H Q else W (pj lw) 100 286 L S k n H Q) := W_if_eq (rfl : (pj lw).1 100 283 = some (.ifCond .eq 22, 3, 0)) rfl
theorem w100_286 {x : Int32} {l0 l1 l2 l3 l4 l5 : Slot} : W (pj lw) 100 286 (l0 :: l1 :: l2 :: l3 :: l4 :: l5 :: .val (.int x) :: L) S k n H Q ↔ W (pj lw) 100 288 (l0 :: l1 :: l2 :: l3 :: l4 :: l5 :: .val (.int x) :: L) (.int x :: S) k n H Q := W_s (rfl : (pj lw).1 100 286 = some (.iload 6, 2, 0)) rfl rfl rfl
theorem w100_288 {x : Int32} {l0 l1 l2 l3 l4 l5 l6 l7 l8 l9 l10 l11 l12 l13 l14 l15 l16 l17 l18 : Slot} : W (pj lw) 100 288 (l0 :: l1 :: l2 :: l3 :: l4 :: l5 :: l6 :: l7 :: l8 :: l9 :: l10 :: l11 :: l12 :: l13 :: l14 :: l15 :: l16 :: l17 :: l18 :: .val (.int x) :: L) S k n H Q ↔ W (pj lw) 100 290 (l0 :: l1 :: l2 :: l3 :: l4 :: l5 :: l6 :: l7 :: l8 :: l9 :: l10 :: l11 :: l12 :: l13 :: l14 :: l15 :: l16 :: l17 :: l18 :: .val (.int x) :: L) (.int x :: S) k n H Q := W_s (rfl : (pj lw).1 100 288 = some (.iload 19, 2, 0)) rfl rfl rfl
theorem w100_290 : W (pj lw) 100 290 L S k n H Q ↔ W (pj lw) 100 291 L (.int 1 :: S) k n H Q := W_s (rfl : (pj lw).1 100 290 = some (.iconst 1, 1, 0)) rfl rfl rfl
theorem w100_291 {x y : Int32} : W (pj lw) 100 291 L (.int y :: .int x :: S) k n H Q ↔ W (pj lw) 100 292 L (.int (x - y) :: S) k n H Q := W_s (rfl : (pj lw).1 100 291 = some (.isub, 1, 0)) rfl rfl rfl
theorem w100_292 {x y : Int32} : W (pj lw) 100 292 L (.int y :: .int x :: S) k n H Q ↔ W (pj lw) 100 293 L (.int (x >>> (y &&& 31)) :: S) k n H Q := W_s (rfl : (pj lw).1 100 292 = some (.ishr, 1, 0)) rfl rfl rfl
theorem w100_293 : W (pj lw) 100 293 L S k n H Q ↔ W (pj lw) 100 294 L (.int 1 :: S) k n H Q := W_s (rfl : (pj lw).1 100 293 = some (.iconst 1, 1, 0)) rfl rfl rfl
theorem w100_294 {x y : Int32} : W (pj lw) 100 294 L (.int y :: .int x :: S) k n H Q ↔ W (pj lw) 100 295 L (.int (x &&& y) :: S) k n H Q := W_s (rfl : (pj lw).1 100 294 = some (.iand, 1, 0)) rfl rfl rfl
theorem w100_295 {x : Int32} : W (pj lw) 100 295 L (.int x :: S) k n H Q ↔ (if x = 0 then W (pj lw) 100 298 L S k n H Q else W (pj lw) 100 305 L S k n H Q) := W_if_ne (rfl : (pj lw).1 100 295 = some (.ifCond .ne 10, 3, 0)) rfl
theorem w100_298 : W (pj lw) 100 298 L S k n H Q ↔ W (pj lw) 100 300 L (.int (-4) :: S) k n H Q := W_s (rfl : (pj lw).1 100 298 = some (.bipush (-4), 2, 0)) rfl rfl rfl
theorem w100_300i {y : Int32} {x : Int32} {l0 l1 l2 l3 l4 l5 l6 l7 l8 l9 l10 l11 l12 l13 l14 l15 l16 l17 l18 l19 l20 : Slot} : W (pj lw) 100 300 (l0 :: l1 :: l2 :: l3 :: l4 :: l5 :: l6 :: l7 :: l8 :: l9 :: l10 :: l11 :: l12 :: l13 :: l14 :: l15 :: l16 :: l17 :: l18 :: l19 :: l20 :: .val (.int y) :: L) (.int x :: S) k n H Q ↔ W (pj lw) 100 302 (l0 :: l1 :: l2 :: l3 :: l4 :: l5 :: l6 :: l7 :: l8 :: l9 :: l10 :: l11 :: l12 :: l13 :: l14 :: l15 :: l16 :: l17 :: l18 :: l19 :: l20 :: .val (.int x) :: L) S k n H Q := W_ist (rfl : (pj lw).1 100 300 = some (.istore 21, 2, 0)) rfl rfl
theorem w100_302 : W (pj lw) 100 302 L S k n H Q ↔ W (pj lw) 100 326 L S k n H Q := W_goto (rfl : (pj lw).1 100 302 = some (.goto 24, 3, 0)) rfl
theorem w100_305 {x : Int32} {l0 l1 l2 l3 l4 l5 l6 l7 l8 l9 l10 l11 l12 l13 l14 l15 l16 l17 l18 l19 : Slot} : W (pj lw) 100 305 (l0 :: l1 :: l2 :: l3 :: l4 :: l5 :: l6 :: l7 :: l8 :: l9 :: l10 :: l11 :: l12 :: l13 :: l14 :: l15 :: l16 :: l17 :: l18 :: l19 :: .val (.int x) :: L) S k n H Q ↔ W (pj lw) 100 307 (l0 :: l1 :: l2 :: l3 :: l4 :: l5 :: l6 :: l7 :: l8 :: l9 :: l10 :: l11 :: l12 :: l13 :: l14 :: l15 :: l16 :: l17 :: l18 :: l19 :: .val (.int x) :: L) (.int x :: S) k n H Q := W_s (rfl : (pj lw).1 100 305 = some (.iload 20, 2, 0)) rfl rfl rfl
theorem w100_307 {x : Int32} : W (pj lw) 100 307 L (.int x :: S) k n H Q ↔ (if x = 0 then W (pj lw) 100 326 L S k n H Q else W (pj lw) 100 310 L S k n H Q) := W_if_eq (rfl : (pj lw).1 100 307 = some (.ifCond .eq 19, 3, 0)) rfl
theorem w100_310 {x : Int32} {l0 l1 l2 l3 l4 l5 : Slot} : W (pj lw) 100 310 (l0 :: l1 :: l2 :: l3 :: l4 :: l5 :: .val (.int x) :: L) S k n H Q ↔ W (pj lw) 100 312 (l0 :: l1 :: l2 :: l3 :: l4 :: l5 :: .val (.int x) :: L) (.int x :: S) k n H Q := W_s (rfl : (pj lw).1 100 310 = some (.iload 6, 2, 0)) rfl rfl rfl
theorem w100_312 {x : Int32} {l0 l1 l2 l3 l4 l5 l6 l7 l8 l9 l10 l11 l12 l13 l14 l15 l16 l17 l18 l19 : Slot} : W (pj lw) 100 312 (l0 :: l1 :: l2 :: l3 :: l4 :: l5 :: l6 :: l7 :: l8 :: l9 :: l10 :: l11 :: l12 :: l13 :: l14 :: l15 :: l16 :: l17 :: l18 :: l19 :: .val (.int x) :: L) S k n H Q ↔ W (pj lw) 100 314 (l0 :: l1 :: l2 :: l3 :: l4 :: l5 :: l6 :: l7 :: l8 :: l9 :: l10 :: l11 :: l12 :: l13 :: l14 :: l15 :: l16 :: l17 :: l18 :: l19 :: .val (.int x) :: L) (.int x :: S) k n H Q := W_s (rfl : (pj lw).1 100 312 = some (.iload 20, 2, 0)) rfl rfl rfl
theorem w100_314 : W (pj lw) 100 314 L S k n H Q ↔ W (pj lw) 100 315 L (.int 1 :: S) k n H Q := W_s (rfl : (pj lw).1 100 314 = some (.iconst 1, 1, 0)) rfl rfl rfl
theorem w100_315 {x y : Int32} : W (pj lw) 100 315 L (.int y :: .int x :: S) k n H Q ↔ W (pj lw) 100 316 L (.int (x - y) :: S) k n H Q := W_s (rfl : (pj lw).1 100 315 = some (.isub, 1, 0)) rfl rfl rfl
theorem w100_316 {x y : Int32} : W (pj lw) 100 316 L (.int y :: .int x :: S) k n H Q ↔ W (pj lw) 100 317 L (.int (x >>> (y &&& 31)) :: S) k n H Q := W_s (rfl : (pj lw).1 100 316 = some (.ishr, 1, 0)) rfl rfl rfl
theorem w100_317 : W (pj lw) 100 317 L S k n H Q ↔ W (pj lw) 100 318 L (.int 1 :: S) k n H Q := W_s (rfl : (pj lw).1 100 317 = some (.iconst 1, 1, 0)) rfl rfl rfl
theorem w100_318 {x y : Int32} : W (pj lw) 100 318 L (.int y :: .int x :: S) k n H Q ↔ W (pj lw) 100 319 L (.int (x &&& y) :: S) k n H Q := W_s (rfl : (pj lw).1 100 318 = some (.iand, 1, 0)) rfl rfl rfl
theorem w100_319 {x : Int32} : W (pj lw) 100 319 L (.int x :: S) k n H Q ↔ (if x = 0 then W (pj lw) 100 326 L S k n H Q else W (pj lw) 100 322 L S k n H Q) := W_if_eq (rfl : (pj lw).1 100 319 = some (.ifCond .eq 7, 3, 0)) rfl
theorem w100_322 : W (pj lw) 100 322 L S k n H Q ↔ W (pj lw) 100 324 L (.int (-4) :: S) k n H Q := W_s (rfl : (pj lw).1 100 322 = some (.bipush (-4), 2, 0)) rfl rfl rfl
theorem w100_324i {y : Int32} {x : Int32} {l0 l1 l2 l3 l4 l5 l6 l7 l8 l9 l10 l11 l12 l13 l14 l15 l16 l17 l18 l19 l20 : Slot} : W (pj lw) 100 324 (l0 :: l1 :: l2 :: l3 :: l4 :: l5 :: l6 :: l7 :: l8 :: l9 :: l10 :: l11 :: l12 :: l13 :: l14 :: l15 :: l16 :: l17 :: l18 :: l19 :: l20 :: .val (.int y) :: L) (.int x :: S) k n H Q ↔ W (pj lw) 100 326 (l0 :: l1 :: l2 :: l3 :: l4 :: l5 :: l6 :: l7 :: l8 :: l9 :: l10 :: l11 :: l12 :: l13 :: l14 :: l15 :: l16 :: l17 :: l18 :: l19 :: l20 :: .val (.int x) :: L) S k n H Q := W_ist (rfl : (pj lw).1 100 324 = some (.istore 21, 2, 0)) rfl rfl
theorem w100_326 {x : Nat} {l0 l1 l2 l3 : Slot} : W (pj lw) 100 326 (l0 :: l1 :: l2 :: l3 :: .val (.ref x) :: L) S k n H Q ↔ W (pj lw) 100 328 (l0 :: l1 :: l2 :: l3 :: .val (.ref x) :: L) (.ref x :: S) k n H Q := W_s (rfl : (pj lw).1 100 326 = some (.aload 4, 2, 0)) rfl rfl rfl
theorem w100_328 {x : Int32} {l0 l1 l2 l3 l4 l5 l6 l7 l8 l9 l10 l11 l12 l13 l14 l15 l16 l17 : Slot} : W (pj lw) 100 328 (l0 :: l1 :: l2 :: l3 :: l4 :: l5 :: l6 :: l7 :: l8 :: l9 :: l10 :: l11 :: l12 :: l13 :: l14 :: l15 :: l16 :: l17 :: .val (.int x) :: L) S k n H Q ↔ W (pj lw) 100 330 (l0 :: l1 :: l2 :: l3 :: l4 :: l5 :: l6 :: l7 :: l8 :: l9 :: l10 :: l11 :: l12 :: l13 :: l14 :: l15 :: l16 :: l17 :: .val (.int x) :: L) (.int x :: S) k n H Q := W_s (rfl : (pj lw).1 100 328 = some (.iload 18, 2, 0)) rfl rfl rfl
theorem w100_330 {x : Int32} {l0 l1 l2 l3 l4 l5 l6 l7 l8 l9 l10 l11 l12 l13 l14 l15 l16 l17 l18 : Slot} : W (pj lw) 100 330 (l0 :: l1 :: l2 :: l3 :: l4 :: l5 :: l6 :: l7 :: l8 :: l9 :: l10 :: l11 :: l12 :: l13 :: l14 :: l15 :: l16 :: l17 :: l18 :: .val (.int x) :: L) S k n H Q ↔ W (pj lw) 100 332 (l0 :: l1 :: l2 :: l3 :: l4 :: l5 :: l6 :: l7 :: l8 :: l9 :: l10 :: l11 :: l12 :: l13 :: l14 :: l15 :: l16 :: l17 :: l18 :: .val (.int x) :: L) (.int x :: S) k n H Q := W_s (rfl : (pj lw).1 100 330 = some (.iload 19, 2, 0)) rfl rfl rfl
theorem w100_332 {x : Int32} {l0 l1 l2 l3 l4 l5 l6 l7 l8 l9 l10 l11 l12 l13 l14 l15 l16 l17 l18 l19 : Slot} : W (pj lw) 100 332 (l0 :: l1 :: l2 :: l3 :: l4 :: l5 :: l6 :: l7 :: l8 :: l9 :: l10 :: l11 :: l12 :: l13 :: l14 :: l15 :: l16 :: l17 :: l18 :: l19 :: .val (.int x) :: L) S k n H Q ↔ W (pj lw) 100 334 (l0 :: l1 :: l2 :: l3 :: l4 :: l5 :: l6 :: l7 :: l8 :: l9 :: l10 :: l11 :: l12 :: l13 :: l14 :: l15 :: l16 :: l17 :: l18 :: l19 :: .val (.int x) :: L) (.int x :: S) k n H Q := W_s (rfl : (pj lw).1 100 332 = some (.iload 20, 2, 0)) rfl rfl rfl
theorem w100_334 {a : Nat} {x0 : Int32} {x1 : Int32} {x2 : Int32} : W (pj lw) 100 334 L (.int x2 :: .int x1 :: .int x0 :: .ref a :: S) k n H Q ↔ ((isO H a = true ∧ cs S + (4 + 11) + 13 ≤ 176) ∧ Cl (pj lw) 9 [.ref a, .int x0, .int x1, .int x2] H (fun v H => W (pj lw) 100 337 L (v.toList ++ S) k n H Q)) := W_inst (as := [.int x0, .int x1, .int x2]) (rfl : (pj lw).1 100 334 = some (.invokevirtual 13, 3, 9)) rfl rfl rfl (Nat.le_of_ble_eq_true rfl) (Nat.le_of_ble_eq_true rfl) ⟨rfl, rfl⟩
theorem w100_337 {x : Int32} {l0 l1 l2 l3 l4 l5 l6 l7 l8 l9 l10 l11 l12 l13 l14 l15 l16 l17 l18 l19 l20 : Slot} : W (pj lw) 100 337 (l0 :: l1 :: l2 :: l3 :: l4 :: l5 :: l6 :: l7 :: l8 :: l9 :: l10 :: l11 :: l12 :: l13 :: l14 :: l15 :: l16 :: l17 :: l18 :: l19 :: l20 :: .val (.int x) :: L) S k n H Q ↔ W (pj lw) 100 339 (l0 :: l1 :: l2 :: l3 :: l4 :: l5 :: l6 :: l7 :: l8 :: l9 :: l10 :: l11 :: l12 :: l13 :: l14 :: l15 :: l16 :: l17 :: l18 :: l19 :: l20 :: .val (.int x) :: L) (.int x :: S) k n H Q := W_s (rfl : (pj lw).1 100 337 = some (.iload 21, 2, 0)) rfl rfl rfl
theorem w100_339 {x y : Int32} : W (pj lw) 100 339 L (.int y :: .int x :: S) k n H Q ↔ (if x = y then W (pj lw) 100 344 L S k n H Q else W (pj lw) 100 342 L S k n H Q) := W_icmp_eq (rfl : (pj lw).1 100 339 = some (.if_icmp .eq 5, 3, 0)) rfl
theorem w100_344 {x : Int32} {l0 l1 l2 l3 l4 l5 l6 l7 l8 l9 l10 l11 l12 l13 l14 l15 l16 l17 l18 l19 l20 : Slot} : W (pj lw) 100 344 (l0 :: l1 :: l2 :: l3 :: l4 :: l5 :: l6 :: l7 :: l8 :: l9 :: l10 :: l11 :: l12 :: l13 :: l14 :: l15 :: l16 :: l17 :: l18 :: l19 :: l20 :: .val (.int x) :: L) S k n H Q ↔ W (pj lw) 100 346 (l0 :: l1 :: l2 :: l3 :: l4 :: l5 :: l6 :: l7 :: l8 :: l9 :: l10 :: l11 :: l12 :: l13 :: l14 :: l15 :: l16 :: l17 :: l18 :: l19 :: l20 :: .val (.int x) :: L) (.int x :: S) k n H Q := W_s (rfl : (pj lw).1 100 344 = some (.iload 21, 2, 0)) rfl rfl rfl
theorem w100_346 {x : Int32} : W (pj lw) 100 346 L (.int x :: S) k n H Q ↔ (if 0 < x then W (pj lw) 100 349 L S k n H Q else W (pj lw) 100 387 L S k n H Q) := W_if_le (rfl : (pj lw).1 100 346 = some (.ifCond .le 41, 3, 0)) rfl
theorem w100_349 {x : Int32} {l0 l1 l2 l3 l4 l5 l6 l7 l8 l9 l10 l11 l12 l13 l14 l15 l16 l17 : Slot} : W (pj lw) 100 349 (l0 :: l1 :: l2 :: l3 :: l4 :: l5 :: l6 :: l7 :: l8 :: l9 :: l10 :: l11 :: l12 :: l13 :: l14 :: l15 :: l16 :: l17 :: .val (.int x) :: L) S k n H Q ↔ W (pj lw) 100 351 (l0 :: l1 :: l2 :: l3 :: l4 :: l5 :: l6 :: l7 :: l8 :: l9 :: l10 :: l11 :: l12 :: l13 :: l14 :: l15 :: l16 :: l17 :: .val (.int x) :: L) (.int x :: S) k n H Q := W_s (rfl : (pj lw).1 100 349 = some (.iload 18, 2, 0)) rfl rfl rfl
theorem w100_351 : W (pj lw) 100 351 L S k n H Q ↔ W (pj lw) 100 352 L (.int 1 :: S) k n H Q := W_s (rfl : (pj lw).1 100 351 = some (.iconst 1, 1, 0)) rfl rfl rfl
theorem w100_352 {x y : Int32} : W (pj lw) 100 352 L (.int y :: .int x :: S) k n H Q ↔ (if x = y then W (pj lw) 100 355 L S k n H Q else W (pj lw) 100 364 L S k n H Q) := W_icmp_ne (rfl : (pj lw).1 100 352 = some (.if_icmp .ne 12, 3, 0)) rfl
theorem w100_355 {x : Int32} {l0 l1 l2 l3 l4 l5 : Slot} : W (pj lw) 100 355 (l0 :: l1 :: l2 :: l3 :: l4 :: l5 :: .val (.int x) :: L) S k n H Q ↔ W (pj lw) 100 357 (l0 :: l1 :: l2 :: l3 :: l4 :: l5 :: .val (.int x) :: L) (.int x :: S) k n H Q := W_s (rfl : (pj lw).1 100 355 = some (.iload 6, 2, 0)) rfl rfl rfl
theorem w100_357 : W (pj lw) 100 357 L S k n H Q ↔ W (pj lw) 100 358 L (.int 1 :: S) k n H Q := W_s (rfl : (pj lw).1 100 357 = some (.iconst 1, 1, 0)) rfl rfl rfl
theorem w100_358 {x : Int32} {l0 l1 l2 l3 l4 : Slot} : W (pj lw) 100 358 (l0 :: l1 :: l2 :: l3 :: l4 :: .val (.int x) :: L) S k n H Q ↔ W (pj lw) 100 360 (l0 :: l1 :: l2 :: l3 :: l4 :: .val (.int x) :: L) (.int x :: S) k n H Q := W_s (rfl : (pj lw).1 100 358 = some (.iload 5, 2, 0)) rfl rfl rfl
theorem w100_360 {x y : Int32} : W (pj lw) 100 360 L (.int y :: .int x :: S) k n H Q ↔ W (pj lw) 100 361 L (.int (x <<< (y &&& 31)) :: S) k n H Q := W_s (rfl : (pj lw).1 100 360 = some (.ishl, 1, 0)) rfl rfl rfl
theorem w100_361 {x y : Int32} : W (pj lw) 100 361 L (.int y :: .int x :: S) k n H Q ↔ W (pj lw) 100 362 L (.int (x ||| y) :: S) k n H Q := W_s (rfl : (pj lw).1 100 361 = some (.ior, 1, 0)) rfl rfl rfl
theorem w100_362i {y : Int32} {x : Int32} {l0 l1 l2 l3 l4 l5 : Slot} : W (pj lw) 100 362 (l0 :: l1 :: l2 :: l3 :: l4 :: l5 :: .val (.int y) :: L) (.int x :: S) k n H Q ↔ W (pj lw) 100 364 (l0 :: l1 :: l2 :: l3 :: l4 :: l5 :: .val (.int x) :: L) S k n H Q := W_ist (rfl : (pj lw).1 100 362 = some (.istore 6, 2, 0)) rfl rfl
theorem w100_364 {x : Int32} {l0 l1 l2 l3 l4 l5 l6 l7 l8 l9 l10 l11 l12 l13 l14 l15 l16 l17 l18 : Slot} : W (pj lw) 100 364 (l0 :: l1 :: l2 :: l3 :: l4 :: l5 :: l6 :: l7 :: l8 :: l9 :: l10 :: l11 :: l12 :: l13 :: l14 :: l15 :: l16 :: l17 :: l18 :: .val (.int x) :: L) S k n H Q ↔ W (pj lw) 100 366 (l0 :: l1 :: l2 :: l3 :: l4 :: l5 :: l6 :: l7 :: l8 :: l9 :: l10 :: l11 :: l12 :: l13 :: l14 :: l15 :: l16 :: l17 :: l18 :: .val (.int x) :: L) (.int x :: S) k n H Q := W_s (rfl : (pj lw).1 100 364 = some (.iload 19, 2, 0)) rfl rfl rfl
theorem w100_366 {x : Int32} : W (pj lw) 100 366 L (.int x :: S) k n H Q ↔ (if x = 0 then W (pj lw) 100 369 L S k n H Q else W (pj lw) 100 378 L S k n H Q) := W_if_ne (rfl : (pj lw).1 100 366 = some (.ifCond .ne 12, 3, 0)) rfl
theorem w100_369 {x : Int32} {l0 l1 l2 l3 l4 l5 l6 : Slot} : W (pj lw) 100 369 (l0 :: l1 :: l2 :: l3 :: l4 :: l5 :: l6 :: .val (.int x) :: L) S k n H Q ↔ W (pj lw) 100 371 (l0 :: l1 :: l2 :: l3 :: l4 :: l5 :: l6 :: .val (.int x) :: L) (.int x :: S) k n H Q := W_s (rfl : (pj lw).1 100 369 = some (.iload 7, 2, 0)) rfl rfl rfl
theorem w100_371 : W (pj lw) 100 371 L S k n H Q ↔ W (pj lw) 100 372 L (.int 1 :: S) k n H Q := W_s (rfl : (pj lw).1 100 371 = some (.iconst 1, 1, 0)) rfl rfl rfl
theorem w100_372 {x : Int32} {l0 l1 l2 l3 l4 : Slot} : W (pj lw) 100 372 (l0 :: l1 :: l2 :: l3 :: l4 :: .val (.int x) :: L) S k n H Q ↔ W (pj lw) 100 374 (l0 :: l1 :: l2 :: l3 :: l4 :: .val (.int x) :: L) (.int x :: S) k n H Q := W_s (rfl : (pj lw).1 100 372 = some (.iload 5, 2, 0)) rfl rfl rfl
theorem w100_374 {x y : Int32} : W (pj lw) 100 374 L (.int y :: .int x :: S) k n H Q ↔ W (pj lw) 100 375 L (.int (x <<< (y &&& 31)) :: S) k n H Q := W_s (rfl : (pj lw).1 100 374 = some (.ishl, 1, 0)) rfl rfl rfl
theorem w100_375 {x y : Int32} : W (pj lw) 100 375 L (.int y :: .int x :: S) k n H Q ↔ W (pj lw) 100 376 L (.int (x ||| y) :: S) k n H Q := W_s (rfl : (pj lw).1 100 375 = some (.ior, 1, 0)) rfl rfl rfl
theorem w100_376i {y : Int32} {x : Int32} {l0 l1 l2 l3 l4 l5 l6 : Slot} : W (pj lw) 100 376 (l0 :: l1 :: l2 :: l3 :: l4 :: l5 :: l6 :: .val (.int y) :: L) (.int x :: S) k n H Q ↔ W (pj lw) 100 378 (l0 :: l1 :: l2 :: l3 :: l4 :: l5 :: l6 :: .val (.int x) :: L) S k n H Q := W_ist (rfl : (pj lw).1 100 376 = some (.istore 7, 2, 0)) rfl rfl
theorem w100_378 {x : Int32} {l0 l1 l2 l3 l4 : Slot} : W (pj lw) 100 378 (l0 :: l1 :: l2 :: l3 :: l4 :: .val (.int x) :: L) S k n H Q ↔ W (pj lw) 100 381 (l0 :: l1 :: l2 :: l3 :: l4 :: .val (.int (x + 1)) :: L) S k n H Q := W_s (rfl : (pj lw).1 100 378 = some (.iinc 5 1, 3, 0)) rfl rfl rfl
theorem w100_381 : W (pj lw) 100 381 L S k n H Q ↔ W (pj lw) 100 382 L (.int 0 :: S) k n H Q := W_s (rfl : (pj lw).1 100 381 = some (.iconst 0, 1, 0)) rfl rfl rfl
theorem w100_382i {y : Int32} {x : Int32} {l0 l1 l2 l3 l4 l5 l6 l7 l8 : Slot} : W (pj lw) 100 382 (l0 :: l1 :: l2 :: l3 :: l4 :: l5 :: l6 :: l7 :: l8 :: .val (.int y) :: L) (.int x :: S) k n H Q ↔ W (pj lw) 100 384 (l0 :: l1 :: l2 :: l3 :: l4 :: l5 :: l6 :: l7 :: l8 :: .val (.int x) :: L) S k n H Q := W_ist (rfl : (pj lw).1 100 382 = some (.istore 9, 2, 0)) rfl rfl
theorem w100_384 : W (pj lw) 100 384 L S k n H Q ↔ W (pj lw) 100 385 L (.int 0 :: S) k n H Q := W_s (rfl : (pj lw).1 100 384 = some (.iconst 0, 1, 0)) rfl rfl rfl
theorem w100_385i {y : Int32} {x : Int32} {l0 l1 l2 l3 l4 l5 l6 l7 l8 l9 : Slot} : W (pj lw) 100 385 (l0 :: l1 :: l2 :: l3 :: l4 :: l5 :: l6 :: l7 :: l8 :: l9 :: .val (.int y) :: L) (.int x :: S) k n H Q ↔ W (pj lw) 100 387 (l0 :: l1 :: l2 :: l3 :: l4 :: l5 :: l6 :: l7 :: l8 :: l9 :: .val (.int x) :: L) S k n H Q := W_ist (rfl : (pj lw).1 100 385 = some (.istore 10, 2, 0)) rfl rfl
theorem w100_387 : W (pj lw) 100 387 L S k n H Q ↔ W (pj lw) 100 679 L S k n H Q := W_goto (rfl : (pj lw).1 100 387 = some (.goto 292, 3, 0)) rfl
theorem w100_390 {x : Int32} {l0 l1 l2 l3 l4 l5 l6 l7 l8 l9 l10 l11 : Slot} : W (pj lw) 100 390 (l0 :: l1 :: l2 :: l3 :: l4 :: l5 :: l6 :: l7 :: l8 :: l9 :: l10 :: l11 :: .val (.int x) :: L) S k n H Q ↔ W (pj lw) 100 392 (l0 :: l1 :: l2 :: l3 :: l4 :: l5 :: l6 :: l7 :: l8 :: l9 :: l10 :: l11 :: .val (.int x) :: L) (.int x :: S) k n H Q := W_s (rfl : (pj lw).1 100 390 = some (.iload 12, 2, 0)) rfl rfl rfl
theorem w100_392 : W (pj lw) 100 392 L S k n H Q ↔ W (pj lw) 100 393 L (.int 2 :: S) k n H Q := W_s (rfl : (pj lw).1 100 392 = some (.iconst 2, 1, 0)) rfl rfl rfl
theorem w100_393 {x y : Int32} : W (pj lw) 100 393 L (.int y :: .int x :: S) k n H Q ↔ (if x = y then W (pj lw) 100 396 L S k n H Q else W (pj lw) 100 482 L S k n H Q) := W_icmp_ne (rfl : (pj lw).1 100 393 = some (.if_icmp .ne 89, 3, 0)) rfl
theorem w100_396 {x : Int32} {l0 l1 l2 l3 l4 l5 l6 l7 l8 l9 l10 l11 l12 l13 : Slot} : W (pj lw) 100 396 (l0 :: l1 :: l2 :: l3 :: l4 :: l5 :: l6 :: l7 :: l8 :: l9 :: l10 :: l11 :: l12 :: l13 :: .val (.int x) :: L) S k n H Q ↔ W (pj lw) 100 398 (l0 :: l1 :: l2 :: l3 :: l4 :: l5 :: l6 :: l7 :: l8 :: l9 :: l10 :: l11 :: l12 :: l13 :: .val (.int x) :: L) (.int x :: S) k n H Q := W_s (rfl : (pj lw).1 100 396 = some (.iload 14, 2, 0)) rfl rfl rfl
theorem w100_398 {x : Int32} {l0 l1 : Slot} : W (pj lw) 100 398 (l0 :: l1 :: .val (.int x) :: L) S k n H Q ↔ W (pj lw) 100 399 (l0 :: l1 :: .val (.int x) :: L) (.int x :: S) k n H Q := W_s (rfl : (pj lw).1 100 398 = some (.iload_n 2, 1, 0)) rfl rfl rfl
theorem w100_399 : W (pj lw) 100 399 L S k n H Q ↔ W (pj lw) 100 400 L (.int 1 :: S) k n H Q := W_s (rfl : (pj lw).1 100 399 = some (.iconst 1, 1, 0)) rfl rfl rfl
theorem w100_400 {x y : Int32} : W (pj lw) 100 400 L (.int y :: .int x :: S) k n H Q ↔ W (pj lw) 100 401 L (.int (x + y) :: S) k n H Q := W_s (rfl : (pj lw).1 100 400 = some (.iadd, 1, 0)) rfl rfl rfl
theorem w100_401 {x y : Int32} : W (pj lw) 100 401 L (.int y :: .int x :: S) k n H Q ↔ (¬ y = 0 ∧ W (pj lw) 100 402 L (.int (x % y) :: S) k n H Q) := W_irem (rfl : (pj lw).1 100 401 = some (.irem, 1, 0))
theorem w100_402 : W (pj lw) 100 402 L S k n H Q ↔ W (pj lw) 100 403 L (.int 1 :: S) k n H Q := W_s (rfl : (pj lw).1 100 402 = some (.iconst 1, 1, 0)) rfl rfl rfl
theorem w100_403 {x y : Int32} : W (pj lw) 100 403 L (.int y :: .int x :: S) k n H Q ↔ W (pj lw) 100 404 L (.int (x + y) :: S) k n H Q := W_s (rfl : (pj lw).1 100 403 = some (.iadd, 1, 0)) rfl rfl rfl
theorem w100_404 {x : Int32} {l0 l1 l2 l3 l4 l5 l6 l7 l8 l9 l10 l11 l12 l13 l14 l15 l16 l17 : Slot} : W (pj lw) 100 404 (l0 :: l1 :: l2 :: l3 :: l4 :: l5 :: l6 :: l7 :: l8 :: l9 :: l10 :: l11 :: l12 :: l13 :: l14 :: l15 :: l16 :: l17 :: .unset :: L) (.int x :: S) k n H Q ↔ W (pj lw) 100 406 (l0 :: l1 :: l2 :: l3 :: l4 :: l5 :: l6 :: l7 :: l8 :: l9 :: l10 :: l11 :: l12 :: l13 :: l14 :: l15 :: l16 :: l17 :: .val (.int x) :: L) S k n H Q := W_ist (rfl : (pj lw).1 100 404 = some (.istore 18, 2, 0)) rfl rfl
theorem w100_406 {x : Int32} {l0 l1 l2 l3 l4 l5 l6 l7 l8 l9 l10 l11 l12 l13 l14 : Slot} : W (pj lw) 100 406 (l0 :: l1 :: l2 :: l3 :: l4 :: l5 :: l6 :: l7 :: l8 :: l9 :: l10 :: l11 :: l12 :: l13 :: l14 :: .val (.int x) :: L) S k n H Q ↔ W (pj lw) 100 408 (l0 :: l1 :: l2 :: l3 :: l4 :: l5 :: l6 :: l7 :: l8 :: l9 :: l10 :: l11 :: l12 :: l13 :: l14 :: .val (.int x) :: L) (.int x :: S) k n H Q := W_s (rfl : (pj lw).1 100 406 = some (.iload 15, 2, 0)) rfl rfl rfl
theorem w100_408 {x : Int32} {l0 l1 : Slot} : W (pj lw) 100 408 (l0 :: l1 :: .val (.int x) :: L) S k n H Q ↔ W (pj lw) 100 409 (l0 :: l1 :: .val (.int x) :: L) (.int x :: S) k n H Q := W_s (rfl : (pj lw).1 100 408 = some (.iload_n 2, 1, 0)) rfl rfl rfl
theorem w100_409 : W (pj lw) 100 409 L S k n H Q ↔ W (pj lw) 100 410 L (.int 1 :: S) k n H Q := W_s (rfl : (pj lw).1 100 409 = some (.iconst 1, 1, 0)) rfl rfl rfl
theorem w100_410 {x y : Int32} : W (pj lw) 100 410 L (.int y :: .int x :: S) k n H Q ↔ W (pj lw) 100 411 L (.int (x + y) :: S) k n H Q := W_s (rfl : (pj lw).1 100 410 = some (.iadd, 1, 0)) rfl rfl rfl
theorem w100_411 {x y : Int32} : W (pj lw) 100 411 L (.int y :: .int x :: S) k n H Q ↔ (¬ y = 0 ∧ W (pj lw) 100 412 L (.int (x % y) :: S) k n H Q) := W_irem (rfl : (pj lw).1 100 411 = some (.irem, 1, 0))
theorem w100_412 {x : Int32} {l0 l1 l2 l3 l4 l5 l6 l7 l8 l9 l10 l11 l12 l13 l14 l15 l16 l17 l18 : Slot} : W (pj lw) 100 412 (l0 :: l1 :: l2 :: l3 :: l4 :: l5 :: l6 :: l7 :: l8 :: l9 :: l10 :: l11 :: l12 :: l13 :: l14 :: l15 :: l16 :: l17 :: l18 :: .unset :: L) (.int x :: S) k n H Q ↔ W (pj lw) 100 414 (l0 :: l1 :: l2 :: l3 :: l4 :: l5 :: l6 :: l7 :: l8 :: l9 :: l10 :: l11 :: l12 :: l13 :: l14 :: l15 :: l16 :: l17 :: l18 :: .val (.int x) :: L) S k n H Q := W_ist (rfl : (pj lw).1 100 412 = some (.istore 19, 2, 0)) rfl rfl
theorem w100_414 {x : Int32} {l0 l1 l2 l3 l4 l5 l6 l7 l8 l9 l10 l11 l12 l13 l14 l15 : Slot} : W (pj lw) 100 414 (l0 :: l1 :: l2 :: l3 :: l4 :: l5 :: l6 :: l7 :: l8 :: l9 :: l10 :: l11 :: l12 :: l13 :: l14 :: l15 :: .val (.int x) :: L) S k n H Q ↔ W (pj lw) 100 416 (l0 :: l1 :: l2 :: l3 :: l4 :: l5 :: l6 :: l7 :: l8 :: l9 :: l10 :: l11 :: l12 :: l13 :: l14 :: l15 :: .val (.int x) :: L) (.int x :: S) k n H Q := W_s (rfl : (pj lw).1 100 414 = some (.iload 16, 2, 0)) rfl rfl rfl
theorem w100_416 {x : Int32} {l0 l1 l2 l3 l4 : Slot} : W (pj lw) 100 416 (l0 :: l1 :: l2 :: l3 :: l4 :: .val (.int x) :: L) S k n H Q ↔ W (pj lw) 100 418 (l0 :: l1 :: l2 :: l3 :: l4 :: .val (.int x) :: L) (.int x :: S) k n H Q := W_s (rfl : (pj lw).1 100 416 = some (.iload 5, 2, 0)) rfl rfl rfl
theorem w100_418 {x y : Int32} : W (pj lw) 100 418 L (.int y :: .int x :: S) k n H Q ↔ (if y < x then W (pj lw) 100 421 L S k n H Q else W (pj lw) 100 426 L S k n H Q) := W_icmp_le (rfl : (pj lw).1 100 418 = some (.if_icmp .le 8, 3, 0)) rfl
theorem w100_421 : W (pj lw) 100 421 L S k n H Q ↔ W (pj lw) 100 423 L (.int (-5) :: S) k n H Q := W_s (rfl : (pj lw).1 100 421 = some (.bipush (-5), 2, 0)) rfl rfl rfl
theorem w100_423 : W (pj lw) 100 423 L S k n H Q ↔ W (pj lw) 100 444 L S k n H Q := W_goto (rfl : (pj lw).1 100 423 = some (.goto 21, 3, 0)) rfl
theorem w100_426 {x : Int32} {l0 l1 l2 l3 l4 l5 l6 l7 l8 l9 l10 l11 l12 l13 l14 l15 l16 l17 : Slot} : W (pj lw) 100 426 (l0 :: l1 :: l2 :: l3 :: l4 :: l5 :: l6 :: l7 :: l8 :: l9 :: l10 :: l11 :: l12 :: l13 :: l14 :: l15 :: l16 :: l17 :: .val (.int x) :: L) S k n H Q ↔ W (pj lw) 100 428 (l0 :: l1 :: l2 :: l3 :: l4 :: l5 :: l6 :: l7 :: l8 :: l9 :: l10 :: l11 :: l12 :: l13 :: l14 :: l15 :: l16 :: l17 :: .val (.int x) :: L) (.int x :: S) k n H Q := W_s (rfl : (pj lw).1 100 426 = some (.iload 18, 2, 0)) rfl rfl rfl
theorem w100_428 {x : Int32} {l0 l1 : Slot} : W (pj lw) 100 428 (l0 :: l1 :: .val (.int x) :: L) S k n H Q ↔ W (pj lw) 100 429 (l0 :: l1 :: .val (.int x) :: L) (.int x :: S) k n H Q := W_s (rfl : (pj lw).1 100 428 = some (.iload_n 2, 1, 0)) rfl rfl rfl
theorem w100_429 {x y : Int32} : W (pj lw) 100 429 L (.int y :: .int x :: S) k n H Q ↔ (if y < x then W (pj lw) 100 438 L S k n H Q else W (pj lw) 100 432 L S k n H Q) := W_icmp_gt (rfl : (pj lw).1 100 429 = some (.if_icmp .gt 9, 3, 0)) rfl
theorem w100_432 {x : Int32} {l0 l1 l2 l3 l4 l5 l6 l7 l8 l9 l10 l11 l12 l13 l14 l15 l16 l17 l18 : Slot} : W (pj lw) 100 432 (l0 :: l1 :: l2 :: l3 :: l4 :: l5 :: l6 :: l7 :: l8 :: l9 :: l10 :: l11 :: l12 :: l13 :: l14 :: l15 :: l16 :: l17 :: l18 :: .val (.int x) :: L) S k n H Q ↔ W (pj lw) 100 434 (l0 :: l1 :: l2 :: l3 :: l4 :: l5 :: l6 :: l7 :: l8 :: l9 :: l10 :: l11 :: l12 :: l13 :: l14 :: l15 :: l16 :: l17 :: l18 :: .val (.int x) :: L) (.int x :: S) k n H Q := W_s (rfl : (pj lw).1 100 432 = some (.iload 19, 2, 0)) rfl rfl rfl
theorem w100_434 : W (pj lw) 100 434 L S k n H Q ↔ W (pj lw) 100 435 L (.int 1 :: S) k n H Q := W_s (rfl : (pj lw).1 100 434 = some (.iconst 1, 1, 0)) rfl rfl rfl
theorem w100_435 {x y : Int32} : W (pj lw) 100 435 L (.int y :: .int x :: S) k n H Q ↔ (if x < y then W (pj lw) 100 438 L S k n H Q else W (pj lw) 100 443 L S k n H Q) := W_icmp_ge (rfl : (pj lw).1 100 435 = some (.if_icmp .ge 8, 3, 0)) rfl
theorem w100_438 : W (pj lw) 100 438 L S k n H Q ↔ W (pj lw) 100 440 L (.int (-6) :: S) k n H Q := W_s (rfl : (pj lw).1 100 438 = some (.bipush (-6), 2, 0)) rfl rfl rfl
theorem w100_440 : W (pj lw) 100 440 L S k n H Q ↔ W (pj lw) 100 444 L S k n H Q := W_goto (rfl : (pj lw).1 100 440 = some (.goto 4, 3, 0)) rfl
theorem w100_443 : W (pj lw) 100 443 L S k n H Q ↔ W (pj lw) 100 444 L (.int 0 :: S) k n H Q := W_s (rfl : (pj lw).1 100 443 = some (.iconst 0, 1, 0)) rfl rfl rfl
theorem w100_444 {x : Int32} {l0 l1 l2 l3 l4 l5 l6 l7 l8 l9 l10 l11 l12 l13 l14 l15 l16 l17 l18 l19 : Slot} : W (pj lw) 100 444 (l0 :: l1 :: l2 :: l3 :: l4 :: l5 :: l6 :: l7 :: l8 :: l9 :: l10 :: l11 :: l12 :: l13 :: l14 :: l15 :: l16 :: l17 :: l18 :: l19 :: .unset :: L) (.int x :: S) k n H Q ↔ W (pj lw) 100 446 (l0 :: l1 :: l2 :: l3 :: l4 :: l5 :: l6 :: l7 :: l8 :: l9 :: l10 :: l11 :: l12 :: l13 :: l14 :: l15 :: l16 :: l17 :: l18 :: l19 :: .val (.int x) :: L) S k n H Q := W_ist (rfl : (pj lw).1 100 444 = some (.istore 20, 2, 0)) rfl rfl
theorem w100_446 {x : Nat} {l0 l1 l2 l3 : Slot} : W (pj lw) 100 446 (l0 :: l1 :: l2 :: l3 :: .val (.ref x) :: L) S k n H Q ↔ W (pj lw) 100 448 (l0 :: l1 :: l2 :: l3 :: .val (.ref x) :: L) (.ref x :: S) k n H Q := W_s (rfl : (pj lw).1 100 446 = some (.aload 4, 2, 0)) rfl rfl rfl
theorem w100_448 {x : Int32} {l0 l1 l2 l3 l4 l5 l6 l7 l8 l9 l10 l11 l12 l13 l14 l15 : Slot} : W (pj lw) 100 448 (l0 :: l1 :: l2 :: l3 :: l4 :: l5 :: l6 :: l7 :: l8 :: l9 :: l10 :: l11 :: l12 :: l13 :: l14 :: l15 :: .val (.int x) :: L) S k n H Q ↔ W (pj lw) 100 450 (l0 :: l1 :: l2 :: l3 :: l4 :: l5 :: l6 :: l7 :: l8 :: l9 :: l10 :: l11 :: l12 :: l13 :: l14 :: l15 :: .val (.int x) :: L) (.int x :: S) k n H Q := W_s (rfl : (pj lw).1 100 448 = some (.iload 16, 2, 0)) rfl rfl rfl
theorem w100_450 {x : Int32} {l0 l1 l2 l3 l4 l5 l6 l7 l8 l9 l10 l11 l12 l13 l14 l15 l16 l17 : Slot} : W (pj lw) 100 450 (l0 :: l1 :: l2 :: l3 :: l4 :: l5 :: l6 :: l7 :: l8 :: l9 :: l10 :: l11 :: l12 :: l13 :: l14 :: l15 :: l16 :: l17 :: .val (.int x) :: L) S k n H Q ↔ W (pj lw) 100 452 (l0 :: l1 :: l2 :: l3 :: l4 :: l5 :: l6 :: l7 :: l8 :: l9 :: l10 :: l11 :: l12 :: l13 :: l14 :: l15 :: l16 :: l17 :: .val (.int x) :: L) (.int x :: S) k n H Q := W_s (rfl : (pj lw).1 100 450 = some (.iload 18, 2, 0)) rfl rfl rfl
theorem w100_452 {x : Int32} {l0 l1 l2 l3 l4 l5 l6 l7 l8 l9 l10 l11 l12 l13 l14 l15 l16 l17 l18 : Slot} : W (pj lw) 100 452 (l0 :: l1 :: l2 :: l3 :: l4 :: l5 :: l6 :: l7 :: l8 :: l9 :: l10 :: l11 :: l12 :: l13 :: l14 :: l15 :: l16 :: l17 :: l18 :: .val (.int x) :: L) S k n H Q ↔ W (pj lw) 100 454 (l0 :: l1 :: l2 :: l3 :: l4 :: l5 :: l6 :: l7 :: l8 :: l9 :: l10 :: l11 :: l12 :: l13 :: l14 :: l15 :: l16 :: l17 :: l18 :: .val (.int x) :: L) (.int x :: S) k n H Q := W_s (rfl : (pj lw).1 100 452 = some (.iload 19, 2, 0)) rfl rfl rfl
theorem w100_454 {a : Nat} {x0 : Int32} {x1 : Int32} {x2 : Int32} : W (pj lw) 100 454 L (.int x2 :: .int x1 :: .int x0 :: .ref a :: S) k n H Q ↔ ((isO H a = true ∧ cs S + (4 + 11) + 13 ≤ 176) ∧ Cl (pj lw) 10 [.ref a, .int x0, .int x1, .int x2] H (fun v H => W (pj lw) 100 457 L (v.toList ++ S) k n H Q)) := W_inst (as := [.int x0, .int x1, .int x2]) (rfl : (pj lw).1 100 454 = some (.invokevirtual 17, 3, 10)) rfl rfl rfl (Nat.le_of_ble_eq_true rfl) (Nat.le_of_ble_eq_true rfl) ⟨rfl, rfl⟩
theorem w100_457 {x : Int32} {l0 l1 l2 l3 l4 l5 l6 l7 l8 l9 l10 l11 l12 l13 l14 l15 l16 l17 l18 l19 : Slot} : W (pj lw) 100 457 (l0 :: l1 :: l2 :: l3 :: l4 :: l5 :: l6 :: l7 :: l8 :: l9 :: l10 :: l11 :: l12 :: l13 :: l14 :: l15 :: l16 :: l17 :: l18 :: l19 :: .val (.int x) :: L) S k n H Q ↔ W (pj lw) 100 459 (l0 :: l1 :: l2 :: l3 :: l4 :: l5 :: l6 :: l7 :: l8 :: l9 :: l10 :: l11 :: l12 :: l13 :: l14 :: l15 :: l16 :: l17 :: l18 :: l19 :: .val (.int x) :: L) (.int x :: S) k n H Q := W_s (rfl : (pj lw).1 100 457 = some (.iload 20, 2, 0)) rfl rfl rfl
theorem w100_459 {x y : Int32} : W (pj lw) 100 459 L (.int y :: .int x :: S) k n H Q ↔ (if x = y then W (pj lw) 100 464 L S k n H Q else W (pj lw) 100 462 L S k n H Q) := W_icmp_eq (rfl : (pj lw).1 100 459 = some (.if_icmp .eq 5, 3, 0)) rfl
theorem w100_464 {x : Int32} {l0 l1 l2 l3 l4 l5 l6 l7 l8 l9 l10 l11 l12 l13 l14 l15 l16 l17 l18 l19 : Slot} : W (pj lw) 100 464 (l0 :: l1 :: l2 :: l3 :: l4 :: l5 :: l6 :: l7 :: l8 :: l9 :: l10 :: l11 :: l12 :: l13 :: l14 :: l15 :: l16 :: l17 :: l18 :: l19 :: .val (.int x) :: L) S k n H Q ↔ W (pj lw) 100 466 (l0 :: l1 :: l2 :: l3 :: l4 :: l5 :: l6 :: l7 :: l8 :: l9 :: l10 :: l11 :: l12 :: l13 :: l14 :: l15 :: l16 :: l17 :: l18 :: l19 :: .val (.int x) :: L) (.int x :: S) k n H Q := W_s (rfl : (pj lw).1 100 464 = some (.iload 20, 2, 0)) rfl rfl rfl
theorem w100_466 {x : Int32} : W (pj lw) 100 466 L (.int x :: S) k n H Q ↔ (if x = 0 then W (pj lw) 100 469 L S k n H Q else W (pj lw) 100 479 L S k n H Q) := W_if_ne (rfl : (pj lw).1 100 466 = some (.ifCond .ne 13, 3, 0)) rfl
theorem w100_469 {x : Int32} {l0 l1 l2 l3 l4 l5 l6 l7 : Slot} : W (pj lw) 100 469 (l0 :: l1 :: l2 :: l3 :: l4 :: l5 :: l6 :: l7 :: .val (.int x) :: L) S k n H Q ↔ W (pj lw) 100 471 (l0 :: l1 :: l2 :: l3 :: l4 :: l5 :: l6 :: l7 :: .val (.int x) :: L) (.int x :: S) k n H Q := W_s (rfl : (pj lw).1 100 469 = some (.iload 8, 2, 0)) rfl rfl rfl
theorem w100_471 {x : Int32} {l0 l1 l2 l3 l4 l5 l6 l7 l8 l9 l10 l11 l12 l13 l14 l15 l16 : Slot} : W (pj lw) 100 471 (l0 :: l1 :: l2 :: l3 :: l4 :: l5 :: l6 :: l7 :: l8 :: l9 :: l10 :: l11 :: l12 :: l13 :: l14 :: l15 :: l16 :: .val (.int x) :: L) S k n H Q ↔ W (pj lw) 100 473 (l0 :: l1 :: l2 :: l3 :: l4 :: l5 :: l6 :: l7 :: l8 :: l9 :: l10 :: l11 :: l12 :: l13 :: l14 :: l15 :: l16 :: .val (.int x) :: L) (.int x :: S) k n H Q := W_s (rfl : (pj lw).1 100 471 = some (.iload 17, 2, 0)) rfl rfl rfl
theorem w100_473 {x y : Int32} : W (pj lw) 100 473 L (.int y :: .int x :: S) k n H Q ↔ W (pj lw) 100 474 L (.int (x ||| y) :: S) k n H Q := W_s (rfl : (pj lw).1 100 473 = some (.ior, 1, 0)) rfl rfl rfl
theorem w100_474i {y : Int32} {x : Int32} {l0 l1 l2 l3 l4 l5 l6 l7 : Slot} : W (pj lw) 100 474 (l0 :: l1 :: l2 :: l3 :: l4 :: l5 :: l6 :: l7 :: .val (.int y) :: L) (.int x :: S) k n H Q ↔ W (pj lw) 100 476 (l0 :: l1 :: l2 :: l3 :: l4 :: l5 :: l6 :: l7 :: .val (.int x) :: L) S k n H Q := W_ist (rfl : (pj lw).1 100 474 = some (.istore 8, 2, 0)) rfl rfl
theorem w100_476 : W (pj lw) 100 476 L S k n H Q ↔ W (pj lw) 100 477 L (.int 0 :: S) k n H Q := W_s (rfl : (pj lw).1 100 476 = some (.iconst 0, 1, 0)) rfl rfl rfl
theorem w100_477i {y : Int32} {x : Int32} {l0 l1 l2 l3 l4 l5 l6 l7 l8 : Slot} : W (pj lw) 100 477 (l0 :: l1 :: l2 :: l3 :: l4 :: l5 :: l6 :: l7 :: l8 :: .val (.int y) :: L) (.int x :: S) k n H Q ↔ W (pj lw) 100 479 (l0 :: l1 :: l2 :: l3 :: l4 :: l5 :: l6 :: l7 :: l8 :: .val (.int x) :: L) S k n H Q := W_ist (rfl : (pj lw).1 100 477 = some (.istore 9, 2, 0)) rfl rfl
theorem w100_479 : W (pj lw) 100 479 L S k n H Q ↔ W (pj lw) 100 679 L S k n H Q := W_goto (rfl : (pj lw).1 100 479 = some (.goto 200, 3, 0)) rfl
theorem w100_482 {x : Int32} {l0 l1 l2 l3 l4 l5 l6 l7 l8 l9 l10 l11 : Slot} : W (pj lw) 100 482 (l0 :: l1 :: l2 :: l3 :: l4 :: l5 :: l6 :: l7 :: l8 :: l9 :: l10 :: l11 :: .val (.int x) :: L) S k n H Q ↔ W (pj lw) 100 484 (l0 :: l1 :: l2 :: l3 :: l4 :: l5 :: l6 :: l7 :: l8 :: l9 :: l10 :: l11 :: .val (.int x) :: L) (.int x :: S) k n H Q := W_s (rfl : (pj lw).1 100 482 = some (.iload 12, 2, 0)) rfl rfl rfl
theorem w100_484 : W (pj lw) 100 484 L S k n H Q ↔ W (pj lw) 100 485 L (.int 3 :: S) k n H Q := W_s (rfl : (pj lw).1 100 484 = some (.iconst 3, 1, 0)) rfl rfl rfl
theorem w100_485 {x y : Int32} : W (pj lw) 100 485 L (.int y :: .int x :: S) k n H Q ↔ (if x = y then W (pj lw) 100 488 L S k n H Q else W (pj lw) 100 537 L S k n H Q) := W_icmp_ne (rfl : (pj lw).1 100 485 = some (.if_icmp .ne 52, 3, 0)) rfl
theorem w100_488 {x : Int32} {l0 l1 l2 l3 l4 l5 l6 l7 l8 l9 l10 l11 l12 l13 l14 l15 : Slot} : W (pj lw) 100 488 (l0 :: l1 :: l2 :: l3 :: l4 :: l5 :: l6 :: l7 :: l8 :: l9 :: l10 :: l11 :: l12 :: l13 :: l14 :: l15 :: .val (.int x) :: L) S k n H Q ↔ W (pj lw) 100 490 (l0 :: l1 :: l2 :: l3 :: l4 :: l5 :: l6 :: l7 :: l8 :: l9 :: l10 :: l11 :: l12 :: l13 :: l14 :: l15 :: .val (.int x) :: L) (.int x :: S) k n H Q := W_s (rfl : (pj lw).1 100 488 = some (.iload 16, 2, 0)) rfl rfl rfl
theorem w100_490 {x : Int32} {l0 l1 l2 l3 l4 : Slot} : W (pj lw) 100 490 (l0 :: l1 :: l2 :: l3 :: l4 :: .val (.int x) :: L) S k n H Q ↔ W (pj lw) 100 492 (l0 :: l1 :: l2 :: l3 :: l4 :: .val (.int x) :: L) (.int x :: S) k n H Q := W_s (rfl : (pj lw).1 100 490 = some (.iload 5, 2, 0)) rfl rfl rfl
theorem w100_492 {x y : Int32} : W (pj lw) 100 492 L (.int y :: .int x :: S) k n H Q ↔ (if y < x then W (pj lw) 100 495 L S k n H Q else W (pj lw) 100 500 L S k n H Q) := W_icmp_le (rfl : (pj lw).1 100 492 = some (.if_icmp .le 8, 3, 0)) rfl
theorem w100_495 : W (pj lw) 100 495 L S k n H Q ↔ W (pj lw) 100 497 L (.int (-5) :: S) k n H Q := W_s (rfl : (pj lw).1 100 495 = some (.bipush (-5), 2, 0)) rfl rfl rfl
theorem w100_497 : W (pj lw) 100 497 L S k n H Q ↔ W (pj lw) 100 501 L S k n H Q := W_goto (rfl : (pj lw).1 100 497 = some (.goto 4, 3, 0)) rfl
theorem w100_500 : W (pj lw) 100 500 L S k n H Q ↔ W (pj lw) 100 501 L (.int 0 :: S) k n H Q := W_s (rfl : (pj lw).1 100 500 = some (.iconst 0, 1, 0)) rfl rfl rfl
theorem w100_501 {x : Int32} {l0 l1 l2 l3 l4 l5 l6 l7 l8 l9 l10 l11 l12 l13 l14 l15 l16 l17 : Slot} : W (pj lw) 100 501 (l0 :: l1 :: l2 :: l3 :: l4 :: l5 :: l6 :: l7 :: l8 :: l9 :: l10 :: l11 :: l12 :: l13 :: l14 :: l15 :: l16 :: l17 :: .unset :: L) (.int x :: S) k n H Q ↔ W (pj lw) 100 503 (l0 :: l1 :: l2 :: l3 :: l4 :: l5 :: l6 :: l7 :: l8 :: l9 :: l10 :: l11 :: l12 :: l13 :: l14 :: l15 :: l16 :: l17 :: .val (.int x) :: L) S k n H Q := W_ist (rfl : (pj lw).1 100 501 = some (.istore 18, 2, 0)) rfl rfl
theorem w100_503 {x : Nat} {l0 l1 l2 l3 : Slot} : W (pj lw) 100 503 (l0 :: l1 :: l2 :: l3 :: .val (.ref x) :: L) S k n H Q ↔ W (pj lw) 100 505 (l0 :: l1 :: l2 :: l3 :: .val (.ref x) :: L) (.ref x :: S) k n H Q := W_s (rfl : (pj lw).1 100 503 = some (.aload 4, 2, 0)) rfl rfl rfl
theorem w100_505 {x : Int32} {l0 l1 l2 l3 l4 l5 l6 l7 l8 l9 l10 l11 l12 l13 l14 l15 : Slot} : W (pj lw) 100 505 (l0 :: l1 :: l2 :: l3 :: l4 :: l5 :: l6 :: l7 :: l8 :: l9 :: l10 :: l11 :: l12 :: l13 :: l14 :: l15 :: .val (.int x) :: L) S k n H Q ↔ W (pj lw) 100 507 (l0 :: l1 :: l2 :: l3 :: l4 :: l5 :: l6 :: l7 :: l8 :: l9 :: l10 :: l11 :: l12 :: l13 :: l14 :: l15 :: .val (.int x) :: L) (.int x :: S) k n H Q := W_s (rfl : (pj lw).1 100 505 = some (.iload 16, 2, 0)) rfl rfl rfl
theorem w100_507 {a : Nat} {x0 : Int32} : W (pj lw) 100 507 L (.int x0 :: .ref a :: S) k n H Q ↔ ((isO H a = true ∧ cs S + (2 + 11) + 13 ≤ 176) ∧ Cl (pj lw) 11 [.ref a, .int x0] H (fun v H => W (pj lw) 100 510 L (v.toList ++ S) k n H Q)) := W_inst (as := [.int x0]) (rfl : (pj lw).1 100 507 = some (.invokevirtual 20, 3, 11)) rfl rfl rfl (Nat.le_of_ble_eq_true rfl) (Nat.le_of_ble_eq_true rfl) ⟨rfl, rfl⟩
theorem w100_510 {x : Int32} {l0 l1 l2 l3 l4 l5 l6 l7 l8 l9 l10 l11 l12 l13 l14 l15 l16 l17 : Slot} : W (pj lw) 100 510 (l0 :: l1 :: l2 :: l3 :: l4 :: l5 :: l6 :: l7 :: l8 :: l9 :: l10 :: l11 :: l12 :: l13 :: l14 :: l15 :: l16 :: l17 :: .val (.int x) :: L) S k n H Q ↔ W (pj lw) 100 512 (l0 :: l1 :: l2 :: l3 :: l4 :: l5 :: l6 :: l7 :: l8 :: l9 :: l10 :: l11 :: l12 :: l13 :: l14 :: l15 :: l16 :: l17 :: .val (.int x) :: L) (.int x :: S) k n H Q := W_s (rfl : (pj lw).1 100 510 = some (.iload 18, 2, 0)) rfl rfl rfl
theorem w100_512 {x y : Int32} : W (pj lw) 100 512 L (.int y :: .int x :: S) k n H Q ↔ (if x = y then W (pj lw) 100 517 L S k n H Q else W (pj lw) 100 515 L S k n H Q) := W_icmp_eq (rfl : (pj lw).1 100 512 = some (.if_icmp .eq 5, 3, 0)) rfl
theorem w100_517 {x : Int32} {l0 l1 l2 l3 l4 l5 l6 l7 l8 l9 l10 l11 l12 l13 l14 l15 l16 l17 : Slot} : W (pj lw) 100 517 (l0 :: l1 :: l2 :: l3 :: l4 :: l5 :: l6 :: l7 :: l8 :: l9 :: l10 :: l11 :: l12 :: l13 :: l14 :: l15 :: l16 :: l17 :: .val (.int x) :: L) S k n H Q ↔ W (pj lw) 100 519 (l0 :: l1 :: l2 :: l3 :: l4 :: l5 :: l6 :: l7 :: l8 :: l9 :: l10 :: l11 :: l12 :: l13 :: l14 :: l15 :: l16 :: l17 :: .val (.int x) :: L) (.int x :: S) k n H Q := W_s (rfl : (pj lw).1 100 517 = some (.iload 18, 2, 0)) rfl rfl rfl
theorem w100_519 {x : Int32} : W (pj lw) 100 519 L (.int x :: S) k n H Q ↔ (if x = 0 then W (pj lw) 100 522 L S k n H Q else W (pj lw) 100 534 L S k n H Q) := W_if_ne (rfl : (pj lw).1 100 519 = some (.ifCond .ne 15, 3, 0)) rfl
theorem w100_522 {x : Int32} {l0 l1 l2 l3 l4 l5 l6 l7 : Slot} : W (pj lw) 100 522 (l0 :: l1 :: l2 :: l3 :: l4 :: l5 :: l6 :: l7 :: .val (.int x) :: L) S k n H Q ↔ W (pj lw) 100 524 (l0 :: l1 :: l2 :: l3 :: l4 :: l5 :: l6 :: l7 :: .val (.int x) :: L) (.int x :: S) k n H Q := W_s (rfl : (pj lw).1 100 522 = some (.iload 8, 2, 0)) rfl rfl rfl
theorem w100_524 {x : Int32} {l0 l1 l2 l3 l4 l5 l6 l7 l8 l9 l10 l11 l12 l13 l14 l15 l16 : Slot} : W (pj lw) 100 524 (l0 :: l1 :: l2 :: l3 :: l4 :: l5 :: l6 :: l7 :: l8 :: l9 :: l10 :: l11 :: l12 :: l13 :: l14 :: l15 :: l16 :: .val (.int x) :: L) S k n H Q ↔ W (pj lw) 100 526 (l0 :: l1 :: l2 :: l3 :: l4 :: l5 :: l6 :: l7 :: l8 :: l9 :: l10 :: l11 :: l12 :: l13 :: l14 :: l15 :: l16 :: .val (.int x) :: L) (.int x :: S) k n H Q := W_s (rfl : (pj lw).1 100 524 = some (.iload 17, 2, 0)) rfl rfl rfl
theorem w100_526 : W (pj lw) 100 526 L S k n H Q ↔ W (pj lw) 100 527 L (.int (-1) :: S) k n H Q := W_s (rfl : (pj lw).1 100 526 = some (.iconst (-1), 1, 0)) rfl rfl rfl
theorem w100_527 {x y : Int32} : W (pj lw) 100 527 L (.int y :: .int x :: S) k n H Q ↔ W (pj lw) 100 528 L (.int (x ^^^ y) :: S) k n H Q := W_s (rfl : (pj lw).1 100 527 = some (.ixor, 1, 0)) rfl rfl rfl
theorem w100_528 {x y : Int32} : W (pj lw) 100 528 L (.int y :: .int x :: S) k n H Q ↔ W (pj lw) 100 529 L (.int (x &&& y) :: S) k n H Q := W_s (rfl : (pj lw).1 100 528 = some (.iand, 1, 0)) rfl rfl rfl
theorem w100_529i {y : Int32} {x : Int32} {l0 l1 l2 l3 l4 l5 l6 l7 : Slot} : W (pj lw) 100 529 (l0 :: l1 :: l2 :: l3 :: l4 :: l5 :: l6 :: l7 :: .val (.int y) :: L) (.int x :: S) k n H Q ↔ W (pj lw) 100 531 (l0 :: l1 :: l2 :: l3 :: l4 :: l5 :: l6 :: l7 :: .val (.int x) :: L) S k n H Q := W_ist (rfl : (pj lw).1 100 529 = some (.istore 8, 2, 0)) rfl rfl
theorem w100_531 : W (pj lw) 100 531 L S k n H Q ↔ W (pj lw) 100 532 L (.int 0 :: S) k n H Q := W_s (rfl : (pj lw).1 100 531 = some (.iconst 0, 1, 0)) rfl rfl rfl
theorem w100_532i {y : Int32} {x : Int32} {l0 l1 l2 l3 l4 l5 l6 l7 l8 : Slot} : W (pj lw) 100 532 (l0 :: l1 :: l2 :: l3 :: l4 :: l5 :: l6 :: l7 :: l8 :: .val (.int y) :: L) (.int x :: S) k n H Q ↔ W (pj lw) 100 534 (l0 :: l1 :: l2 :: l3 :: l4 :: l5 :: l6 :: l7 :: l8 :: .val (.int x) :: L) S k n H Q := W_ist (rfl : (pj lw).1 100 532 = some (.istore 9, 2, 0)) rfl rfl
theorem w100_534 : W (pj lw) 100 534 L S k n H Q ↔ W (pj lw) 100 679 L S k n H Q := W_goto (rfl : (pj lw).1 100 534 = some (.goto 145, 3, 0)) rfl
theorem w100_537 {x : Int32} {l0 l1 l2 l3 l4 l5 l6 l7 l8 l9 l10 l11 : Slot} : W (pj lw) 100 537 (l0 :: l1 :: l2 :: l3 :: l4 :: l5 :: l6 :: l7 :: l8 :: l9 :: l10 :: l11 :: .val (.int x) :: L) S k n H Q ↔ W (pj lw) 100 539 (l0 :: l1 :: l2 :: l3 :: l4 :: l5 :: l6 :: l7 :: l8 :: l9 :: l10 :: l11 :: .val (.int x) :: L) (.int x :: S) k n H Q := W_s (rfl : (pj lw).1 100 537 = some (.iload 12, 2, 0)) rfl rfl rfl
theorem w100_539 : W (pj lw) 100 539 L S k n H Q ↔ W (pj lw) 100 540 L (.int 4 :: S) k n H Q := W_s (rfl : (pj lw).1 100 539 = some (.iconst 4, 1, 0)) rfl rfl rfl
theorem w100_540 {x y : Int32} : W (pj lw) 100 540 L (.int y :: .int x :: S) k n H Q ↔ (if x = y then W (pj lw) 100 543 L S k n H Q else W (pj lw) 100 557 L S k n H Q) := W_icmp_ne (rfl : (pj lw).1 100 540 = some (.if_icmp .ne 17, 3, 0)) rfl
theorem w100_543 {x : Nat} {l0 l1 l2 l3 : Slot} : W (pj lw) 100 543 (l0 :: l1 :: l2 :: l3 :: .val (.ref x) :: L) S k n H Q ↔ W (pj lw) 100 545 (l0 :: l1 :: l2 :: l3 :: .val (.ref x) :: L) (.ref x :: S) k n H Q := W_s (rfl : (pj lw).1 100 543 = some (.aload 4, 2, 0)) rfl rfl rfl
theorem w100_545 {x : Nat} : W (pj lw) 100 545 (.val (.ref x) :: L) S k n H Q ↔ W (pj lw) 100 546 (.val (.ref x) :: L) (.ref x :: S) k n H Q := W_s (rfl : (pj lw).1 100 545 = some (.aload_n 0, 1, 0)) rfl rfl rfl
theorem w100_546 {x : Int32} {l0 l1 l2 l3 l4 l5 l6 l7 l8 l9 l10 : Slot} : W (pj lw) 100 546 (l0 :: l1 :: l2 :: l3 :: l4 :: l5 :: l6 :: l7 :: l8 :: l9 :: l10 :: .val (.int x) :: L) S k n H Q ↔ W (pj lw) 100 548 (l0 :: l1 :: l2 :: l3 :: l4 :: l5 :: l6 :: l7 :: l8 :: l9 :: l10 :: .val (.int x) :: L) (.int x :: S) k n H Q := W_s (rfl : (pj lw).1 100 546 = some (.iload 11, 2, 0)) rfl rfl rfl
theorem w100_548 : W (pj lw) 100 548 L S k n H Q ↔ W (pj lw) 100 549 L (.int 1 :: S) k n H Q := W_s (rfl : (pj lw).1 100 548 = some (.iconst 1, 1, 0)) rfl rfl rfl
theorem w100_549 {x y : Int32} : W (pj lw) 100 549 L (.int y :: .int x :: S) k n H Q ↔ W (pj lw) 100 550 L (.int (x + y) :: S) k n H Q := W_s (rfl : (pj lw).1 100 549 = some (.iadd, 1, 0)) rfl rfl rfl
theorem w100_550 {i : Int32} {a : Nat} : W (pj lw) 100 550 L (.int i :: .ref a :: S) k n H Q ↔ (inA H a .int i = true ∧ W (pj lw) 100 551 L (elt H a i :: S) k n H Q) := W_iaload (rfl : (pj lw).1 100 550 = some (.iaload, 1, 0))
theorem w100_551 {a : Nat} {x0 : Int32} : W (pj lw) 100 551 L (.int x0 :: .ref a :: S) k n H Q ↔ ((isO H a = true ∧ cs S + (2 + 11) + 14 ≤ 176) ∧ Cl (pj lw) 12 [.ref a, .int x0] H (fun v H => W (pj lw) 100 554 L (v.toList ++ S) k n H Q)) := W_inst (as := [.int x0]) (rfl : (pj lw).1 100 551 = some (.invokevirtual 24, 3, 12)) rfl rfl rfl (Nat.le_of_ble_eq_true rfl) (Nat.le_of_ble_eq_true rfl) ⟨rfl, rfl⟩
theorem w100_554 : W (pj lw) 100 554 L S k n H Q ↔ W (pj lw) 100 679 L S k n H Q := W_goto (rfl : (pj lw).1 100 554 = some (.goto 125, 3, 0)) rfl
theorem w100_557 {x : Int32} {l0 l1 l2 l3 l4 l5 l6 l7 l8 l9 l10 l11 : Slot} : W (pj lw) 100 557 (l0 :: l1 :: l2 :: l3 :: l4 :: l5 :: l6 :: l7 :: l8 :: l9 :: l10 :: l11 :: .val (.int x) :: L) S k n H Q ↔ W (pj lw) 100 559 (l0 :: l1 :: l2 :: l3 :: l4 :: l5 :: l6 :: l7 :: l8 :: l9 :: l10 :: l11 :: .val (.int x) :: L) (.int x :: S) k n H Q := W_s (rfl : (pj lw).1 100 557 = some (.iload 12, 2, 0)) rfl rfl rfl
theorem w100_559 : W (pj lw) 100 559 L S k n H Q ↔ W (pj lw) 100 560 L (.int 5 :: S) k n H Q := W_s (rfl : (pj lw).1 100 559 = some (.iconst 5, 1, 0)) rfl rfl rfl
theorem w100_560 {x y : Int32} : W (pj lw) 100 560 L (.int y :: .int x :: S) k n H Q ↔ (if x = y then W (pj lw) 100 563 L S k n H Q else W (pj lw) 100 581 L S k n H Q) := W_icmp_ne (rfl : (pj lw).1 100 560 = some (.if_icmp .ne 21, 3, 0)) rfl
theorem w100_563 {x : Nat} {l0 l1 l2 l3 : Slot} : W (pj lw) 100 563 (l0 :: l1 :: l2 :: l3 :: .val (.ref x) :: L) S k n H Q ↔ W (pj lw) 100 565 (l0 :: l1 :: l2 :: l3 :: .val (.ref x) :: L) (.ref x :: S) k n H Q := W_s (rfl : (pj lw).1 100 563 = some (.aload 4, 2, 0)) rfl rfl rfl
theorem w100_565 {a : Nat} : W (pj lw) 100 565 L (.ref a :: S) k n H Q ↔ ((isO H a = true ∧ cs S + (4 + 11) + 28 ≤ 176) ∧ Cl (pj lw) 15 [.ref a] H (fun v H => W (pj lw) 100 568 L (v.toList ++ S) k n H Q)) := W_inst (as := []) (rfl : (pj lw).1 100 565 = some (.invokevirtual 28, 3, 15)) rfl rfl rfl (Nat.le_of_ble_eq_true rfl) (Nat.le_of_ble_eq_true rfl) ⟨rfl, rfl⟩
theorem w100_568 {x : Int32} {l0 l1 l2 l3 l4 : Slot} : W (pj lw) 100 568 (l0 :: l1 :: l2 :: l3 :: l4 :: .val (.int x) :: L) S k n H Q ↔ W (pj lw) 100 570 (l0 :: l1 :: l2 :: l3 :: l4 :: .val (.int x) :: L) (.int x :: S) k n H Q := W_s (rfl : (pj lw).1 100 568 = some (.iload 5, 2, 0)) rfl rfl rfl
theorem w100_570 {x y : Int32} : W (pj lw) 100 570 L (.int y :: .int x :: S) k n H Q ↔ (if x = y then W (pj lw) 100 575 L S k n H Q else W (pj lw) 100 573 L S k n H Q) := W_icmp_eq (rfl : (pj lw).1 100 570 = some (.if_icmp .eq 5, 3, 0)) rfl
theorem w100_575 : W (pj lw) 100 575 L S k n H Q ↔ W (pj lw) 100 576 L (.int 1 :: S) k n H Q := W_s (rfl : (pj lw).1 100 575 = some (.iconst 1, 1, 0)) rfl rfl rfl
theorem w100_576i {y : Int32} {x : Int32} {l0 l1 l2 l3 l4 l5 l6 l7 l8 l9 : Slot} : W (pj lw) 100 576 (l0 :: l1 :: l2 :: l3 :: l4 :: l5 :: l6 :: l7 :: l8 :: l9 :: .val (.int y) :: L) (.int x :: S) k n H Q ↔ W (pj lw) 100 578 (l0 :: l1 :: l2 :: l3 :: l4 :: l5 :: l6 :: l7 :: l8 :: l9 :: .val (.int x) :: L) S k n H Q := W_ist (rfl : (pj lw).1 100 576 = some (.istore 10, 2, 0)) rfl rfl
theorem w100_578 : W (pj lw) 100 578 L S k n H Q ↔ W (pj lw) 100 679 L S k n H Q := W_goto (rfl : (pj lw).1 100 578 = some (.goto 101, 3, 0)) rfl
theorem w100_581 {x : Int32} {l0 l1 l2 l3 l4 l5 l6 l7 l8 l9 l10 l11 : Slot} : W (pj lw) 100 581 (l0 :: l1 :: l2 :: l3 :: l4 :: l5 :: l6 :: l7 :: l8 :: l9 :: l10 :: l11 :: .val (.int x) :: L) S k n H Q ↔ W (pj lw) 100 583 (l0 :: l1 :: l2 :: l3 :: l4 :: l5 :: l6 :: l7 :: l8 :: l9 :: l10 :: l11 :: .val (.int x) :: L) (.int x :: S) k n H Q := W_s (rfl : (pj lw).1 100 581 = some (.iload 12, 2, 0)) rfl rfl rfl
theorem w100_583 : W (pj lw) 100 583 L S k n H Q ↔ W (pj lw) 100 585 L (.int 6 :: S) k n H Q := W_s (rfl : (pj lw).1 100 583 = some (.bipush 6, 2, 0)) rfl rfl rfl
theorem w100_585 {x y : Int32} : W (pj lw) 100 585 L (.int y :: .int x :: S) k n H Q ↔ (if x = y then W (pj lw) 100 588 L S k n H Q else W (pj lw) 100 645 L S k n H Q) := W_icmp_ne (rfl : (pj lw).1 100 585 = some (.if_icmp .ne 60, 3, 0)) rfl
theorem w100_588 {x : Int32} {l0 l1 l2 l3 l4 l5 l6 l7 l8 l9 l10 l11 l12 l13 l14 l15 : Slot} : W (pj lw) 100 588 (l0 :: l1 :: l2 :: l3 :: l4 :: l5 :: l6 :: l7 :: l8 :: l9 :: l10 :: l11 :: l12 :: l13 :: l14 :: l15 :: .val (.int x) :: L) S k n H Q ↔ W (pj lw) 100 590 (l0 :: l1 :: l2 :: l3 :: l4 :: l5 :: l6 :: l7 :: l8 :: l9 :: l10 :: l11 :: l12 :: l13 :: l14 :: l15 :: .val (.int x) :: L) (.int x :: S) k n H Q := W_s (rfl : (pj lw).1 100 588 = some (.iload 16, 2, 0)) rfl rfl rfl
theorem w100_590 {x : Int32} {l0 l1 l2 l3 l4 : Slot} : W (pj lw) 100 590 (l0 :: l1 :: l2 :: l3 :: l4 :: .val (.int x) :: L) S k n H Q ↔ W (pj lw) 100 592 (l0 :: l1 :: l2 :: l3 :: l4 :: .val (.int x) :: L) (.int x :: S) k n H Q := W_s (rfl : (pj lw).1 100 590 = some (.iload 5, 2, 0)) rfl rfl rfl
theorem w100_592 {x y : Int32} : W (pj lw) 100 592 L (.int y :: .int x :: S) k n H Q ↔ (if y < x then W (pj lw) 100 595 L S k n H Q else W (pj lw) 100 600 L S k n H Q) := W_icmp_le (rfl : (pj lw).1 100 592 = some (.if_icmp .le 8, 3, 0)) rfl
theorem w100_595 : W (pj lw) 100 595 L S k n H Q ↔ W (pj lw) 100 597 L (.int (-5) :: S) k n H Q := W_s (rfl : (pj lw).1 100 595 = some (.bipush (-5), 2, 0)) rfl rfl rfl
theorem w100_597 : W (pj lw) 100 597 L S k n H Q ↔ W (pj lw) 100 611 L S k n H Q := W_goto (rfl : (pj lw).1 100 597 = some (.goto 14, 3, 0)) rfl
theorem w100_600 {x : Int32} {l0 l1 l2 l3 l4 l5 l6 l7 l8 l9 : Slot} : W (pj lw) 100 600 (l0 :: l1 :: l2 :: l3 :: l4 :: l5 :: l6 :: l7 :: l8 :: l9 :: .val (.int x) :: L) S k n H Q ↔ W (pj lw) 100 602 (l0 :: l1 :: l2 :: l3 :: l4 :: l5 :: l6 :: l7 :: l8 :: l9 :: .val (.int x) :: L) (.int x :: S) k n H Q := W_s (rfl : (pj lw).1 100 600 = some (.iload 10, 2, 0)) rfl rfl rfl
theorem w100_602 {x : Int32} : W (pj lw) 100 602 L (.int x :: S) k n H Q ↔ (if x = 0 then W (pj lw) 100 609 L S k n H Q else W (pj lw) 100 605 L S k n H Q) := W_if_eq (rfl : (pj lw).1 100 602 = some (.ifCond .eq 7, 3, 0)) rfl
theorem w100_605 : W (pj lw) 100 605 L S k n H Q ↔ W (pj lw) 100 606 L (.int 0 :: S) k n H Q := W_s (rfl : (pj lw).1 100 605 = some (.iconst 0, 1, 0)) rfl rfl rfl
theorem w100_606 : W (pj lw) 100 606 L S k n H Q ↔ W (pj lw) 100 611 L S k n H Q := W_goto (rfl : (pj lw).1 100 606 = some (.goto 5, 3, 0)) rfl
theorem w100_609 : W (pj lw) 100 609 L S k n H Q ↔ W (pj lw) 100 611 L (.int (-7) :: S) k n H Q := W_s (rfl : (pj lw).1 100 609 = some (.bipush (-7), 2, 0)) rfl rfl rfl
theorem w100_611 {x : Int32} {l0 l1 l2 l3 l4 l5 l6 l7 l8 l9 l10 l11 l12 l13 l14 l15 l16 l17 : Slot} : W (pj lw) 100 611 (l0 :: l1 :: l2 :: l3 :: l4 :: l5 :: l6 :: l7 :: l8 :: l9 :: l10 :: l11 :: l12 :: l13 :: l14 :: l15 :: l16 :: l17 :: .unset :: L) (.int x :: S) k n H Q ↔ W (pj lw) 100 613 (l0 :: l1 :: l2 :: l3 :: l4 :: l5 :: l6 :: l7 :: l8 :: l9 :: l10 :: l11 :: l12 :: l13 :: l14 :: l15 :: l16 :: l17 :: .val (.int x) :: L) S k n H Q := W_ist (rfl : (pj lw).1 100 611 = some (.istore 18, 2, 0)) rfl rfl
theorem w100_613 {x : Nat} {l0 l1 l2 l3 : Slot} : W (pj lw) 100 613 (l0 :: l1 :: l2 :: l3 :: .val (.ref x) :: L) S k n H Q ↔ W (pj lw) 100 615 (l0 :: l1 :: l2 :: l3 :: .val (.ref x) :: L) (.ref x :: S) k n H Q := W_s (rfl : (pj lw).1 100 613 = some (.aload 4, 2, 0)) rfl rfl rfl
theorem w100_615 {x : Int32} {l0 l1 l2 l3 l4 l5 l6 l7 l8 l9 l10 l11 l12 l13 l14 l15 : Slot} : W (pj lw) 100 615 (l0 :: l1 :: l2 :: l3 :: l4 :: l5 :: l6 :: l7 :: l8 :: l9 :: l10 :: l11 :: l12 :: l13 :: l14 :: l15 :: .val (.int x) :: L) S k n H Q ↔ W (pj lw) 100 617 (l0 :: l1 :: l2 :: l3 :: l4 :: l5 :: l6 :: l7 :: l8 :: l9 :: l10 :: l11 :: l12 :: l13 :: l14 :: l15 :: .val (.int x) :: L) (.int x :: S) k n H Q := W_s (rfl : (pj lw).1 100 615 = some (.iload 16, 2, 0)) rfl rfl rfl
theorem w100_617 {a : Nat} {x0 : Int32} : W (pj lw) 100 617 L (.int x0 :: .ref a :: S) k n H Q ↔ ((isO H a = true ∧ cs S + (2 + 11) + 13 ≤ 176) ∧ Cl (pj lw) 16 [.ref a, .int x0] H (fun v H => W (pj lw) 100 620 L (v.toList ++ S) k n H Q)) := W_inst (as := [.int x0]) (rfl : (pj lw).1 100 617 = some (.invokevirtual 32, 3, 16)) rfl rfl rfl (Nat.le_of_ble_eq_true rfl) (Nat.le_of_ble_eq_true rfl) ⟨rfl, rfl⟩
theorem w100_620 {x : Int32} {l0 l1 l2 l3 l4 l5 l6 l7 l8 l9 l10 l11 l12 l13 l14 l15 l16 l17 : Slot} : W (pj lw) 100 620 (l0 :: l1 :: l2 :: l3 :: l4 :: l5 :: l6 :: l7 :: l8 :: l9 :: l10 :: l11 :: l12 :: l13 :: l14 :: l15 :: l16 :: l17 :: .val (.int x) :: L) S k n H Q ↔ W (pj lw) 100 622 (l0 :: l1 :: l2 :: l3 :: l4 :: l5 :: l6 :: l7 :: l8 :: l9 :: l10 :: l11 :: l12 :: l13 :: l14 :: l15 :: l16 :: l17 :: .val (.int x) :: L) (.int x :: S) k n H Q := W_s (rfl : (pj lw).1 100 620 = some (.iload 18, 2, 0)) rfl rfl rfl
theorem w100_622 {x y : Int32} : W (pj lw) 100 622 L (.int y :: .int x :: S) k n H Q ↔ (if x = y then W (pj lw) 100 627 L S k n H Q else W (pj lw) 100 625 L S k n H Q) := W_icmp_eq (rfl : (pj lw).1 100 622 = some (.if_icmp .eq 5, 3, 0)) rfl
theorem w100_627 {x : Int32} {l0 l1 l2 l3 l4 l5 l6 l7 l8 l9 l10 l11 l12 l13 l14 l15 l16 l17 : Slot} : W (pj lw) 100 627 (l0 :: l1 :: l2 :: l3 :: l4 :: l5 :: l6 :: l7 :: l8 :: l9 :: l10 :: l11 :: l12 :: l13 :: l14 :: l15 :: l16 :: l17 :: .val (.int x) :: L) S k n H Q ↔ W (pj lw) 100 629 (l0 :: l1 :: l2 :: l3 :: l4 :: l5 :: l6 :: l7 :: l8 :: l9 :: l10 :: l11 :: l12 :: l13 :: l14 :: l15 :: l16 :: l17 :: .val (.int x) :: L) (.int x :: S) k n H Q := W_s (rfl : (pj lw).1 100 627 = some (.iload 18, 2, 0)) rfl rfl rfl
theorem w100_629 {x : Int32} : W (pj lw) 100 629 L (.int x :: S) k n H Q ↔ (if x = 0 then W (pj lw) 100 632 L S k n H Q else W (pj lw) 100 642 L S k n H Q) := W_if_ne (rfl : (pj lw).1 100 629 = some (.ifCond .ne 13, 3, 0)) rfl
theorem w100_632 {x : Int32} {l0 l1 l2 l3 l4 l5 l6 l7 : Slot} : W (pj lw) 100 632 (l0 :: l1 :: l2 :: l3 :: l4 :: l5 :: l6 :: l7 :: .val (.int x) :: L) S k n H Q ↔ W (pj lw) 100 634 (l0 :: l1 :: l2 :: l3 :: l4 :: l5 :: l6 :: l7 :: .val (.int x) :: L) (.int x :: S) k n H Q := W_s (rfl : (pj lw).1 100 632 = some (.iload 8, 2, 0)) rfl rfl rfl
theorem w100_634 {x : Int32} {l0 l1 l2 l3 l4 l5 l6 l7 l8 l9 l10 l11 l12 l13 l14 l15 l16 : Slot} : W (pj lw) 100 634 (l0 :: l1 :: l2 :: l3 :: l4 :: l5 :: l6 :: l7 :: l8 :: l9 :: l10 :: l11 :: l12 :: l13 :: l14 :: l15 :: l16 :: .val (.int x) :: L) S k n H Q ↔ W (pj lw) 100 636 (l0 :: l1 :: l2 :: l3 :: l4 :: l5 :: l6 :: l7 :: l8 :: l9 :: l10 :: l11 :: l12 :: l13 :: l14 :: l15 :: l16 :: .val (.int x) :: L) (.int x :: S) k n H Q := W_s (rfl : (pj lw).1 100 634 = some (.iload 17, 2, 0)) rfl rfl rfl
theorem w100_636 {x y : Int32} : W (pj lw) 100 636 L (.int y :: .int x :: S) k n H Q ↔ W (pj lw) 100 637 L (.int (x ||| y) :: S) k n H Q := W_s (rfl : (pj lw).1 100 636 = some (.ior, 1, 0)) rfl rfl rfl
theorem w100_637i {y : Int32} {x : Int32} {l0 l1 l2 l3 l4 l5 l6 l7 : Slot} : W (pj lw) 100 637 (l0 :: l1 :: l2 :: l3 :: l4 :: l5 :: l6 :: l7 :: .val (.int y) :: L) (.int x :: S) k n H Q ↔ W (pj lw) 100 639 (l0 :: l1 :: l2 :: l3 :: l4 :: l5 :: l6 :: l7 :: .val (.int x) :: L) S k n H Q := W_ist (rfl : (pj lw).1 100 637 = some (.istore 8, 2, 0)) rfl rfl
theorem w100_639 : W (pj lw) 100 639 L S k n H Q ↔ W (pj lw) 100 640 L (.int 0 :: S) k n H Q := W_s (rfl : (pj lw).1 100 639 = some (.iconst 0, 1, 0)) rfl rfl rfl
theorem w100_640i {y : Int32} {x : Int32} {l0 l1 l2 l3 l4 l5 l6 l7 l8 : Slot} : W (pj lw) 100 640 (l0 :: l1 :: l2 :: l3 :: l4 :: l5 :: l6 :: l7 :: l8 :: .val (.int y) :: L) (.int x :: S) k n H Q ↔ W (pj lw) 100 642 (l0 :: l1 :: l2 :: l3 :: l4 :: l5 :: l6 :: l7 :: l8 :: .val (.int x) :: L) S k n H Q := W_ist (rfl : (pj lw).1 100 640 = some (.istore 9, 2, 0)) rfl rfl
theorem w100_642 : W (pj lw) 100 642 L S k n H Q ↔ W (pj lw) 100 679 L S k n H Q := W_goto (rfl : (pj lw).1 100 642 = some (.goto 37, 3, 0)) rfl
theorem w100_645 {x : Nat} {l0 l1 l2 l3 : Slot} : W (pj lw) 100 645 (l0 :: l1 :: l2 :: l3 :: .val (.ref x) :: L) S k n H Q ↔ W (pj lw) 100 647 (l0 :: l1 :: l2 :: l3 :: .val (.ref x) :: L) (.ref x :: S) k n H Q := W_s (rfl : (pj lw).1 100 645 = some (.aload 4, 2, 0)) rfl rfl rfl
theorem w100_647 {a : Nat} : W (pj lw) 100 647 L (.ref a :: S) k n H Q ↔ ((isO H a = true ∧ cs S + (5 + 11) + 55 ≤ 176) ∧ Cl (pj lw) 18 [.ref a] H (fun v H => W (pj lw) 100 650 L (v.toList ++ S) k n H Q)) := W_inst (as := []) (rfl : (pj lw).1 100 647 = some (.invokevirtual 35, 3, 18)) rfl rfl rfl (Nat.le_of_ble_eq_true rfl) (Nat.le_of_ble_eq_true rfl) ⟨rfl, rfl⟩
theorem w100_650i {y : Int32} {x : Int32} {l0 l1 l2 l3 l4 l5 l6 l7 l8 : Slot} : W (pj lw) 100 650 (l0 :: l1 :: l2 :: l3 :: l4 :: l5 :: l6 :: l7 :: l8 :: .val (.int y) :: L) (.int x :: S) k n H Q ↔ W (pj lw) 100 652 (l0 :: l1 :: l2 :: l3 :: l4 :: l5 :: l6 :: l7 :: l8 :: .val (.int x) :: L) S k n H Q := W_ist (rfl : (pj lw).1 100 650 = some (.istore 9, 2, 0)) rfl rfl
theorem w100_652 {x : Int32} {l0 l1 l2 l3 l4 l5 l6 l7 l8 : Slot} : W (pj lw) 100 652 (l0 :: l1 :: l2 :: l3 :: l4 :: l5 :: l6 :: l7 :: l8 :: .val (.int x) :: L) S k n H Q ↔ W (pj lw) 100 654 (l0 :: l1 :: l2 :: l3 :: l4 :: l5 :: l6 :: l7 :: l8 :: .val (.int x) :: L) (.int x :: S) k n H Q := W_s (rfl : (pj lw).1 100 652 = some (.iload 9, 2, 0)) rfl rfl rfl
theorem w100_654 : W (pj lw) 100 654 L S k n H Q ↔ W (pj lw) 100 655 L (.int 1 :: S) k n H Q := W_s (rfl : (pj lw).1 100 654 = some (.iconst 1, 1, 0)) rfl rfl rfl
theorem w100_655 {x y : Int32} : W (pj lw) 100 655 L (.int y :: .int x :: S) k n H Q ↔ (if x = y then W (pj lw) 100 666 L S k n H Q else W (pj lw) 100 658 L S k n H Q) := W_icmp_eq (rfl : (pj lw).1 100 655 = some (.if_icmp .eq 11, 3, 0)) rfl
theorem w100_658 {x : Int32} {l0 l1 l2 l3 l4 l5 l6 l7 l8 : Slot} : W (pj lw) 100 658 (l0 :: l1 :: l2 :: l3 :: l4 :: l5 :: l6 :: l7 :: l8 :: .val (.int x) :: L) S k n H Q ↔ W (pj lw) 100 660 (l0 :: l1 :: l2 :: l3 :: l4 :: l5 :: l6 :: l7 :: l8 :: .val (.int x) :: L) (.int x :: S) k n H Q := W_s (rfl : (pj lw).1 100 658 = some (.iload 9, 2, 0)) rfl rfl rfl
theorem w100_660 : W (pj lw) 100 660 L S k n H Q ↔ W (pj lw) 100 661 L (.int 2 :: S) k n H Q := W_s (rfl : (pj lw).1 100 660 = some (.iconst 2, 1, 0)) rfl rfl rfl
theorem w100_661 {x y : Int32} : W (pj lw) 100 661 L (.int y :: .int x :: S) k n H Q ↔ (if x = y then W (pj lw) 100 666 L S k n H Q else W (pj lw) 100 664 L S k n H Q) := W_icmp_eq (rfl : (pj lw).1 100 661 = some (.if_icmp .eq 5, 3, 0)) rfl
theorem w100_666 {x : Int32} {l0 l1 l2 l3 l4 : Slot} : W (pj lw) 100 666 (l0 :: l1 :: l2 :: l3 :: l4 :: .val (.int x) :: L) S k n H Q ↔ W (pj lw) 100 668 (l0 :: l1 :: l2 :: l3 :: l4 :: .val (.int x) :: L) (.int x :: S) k n H Q := W_s (rfl : (pj lw).1 100 666 = some (.iload 5, 2, 0)) rfl rfl rfl
theorem w100_668 {x : Int32} : W (pj lw) 100 668 L (.int x :: S) k n H Q ↔ (if x = 0 then W (pj lw) 100 671 L S k n H Q else W (pj lw) 100 679 L S k n H Q) := W_if_ne (rfl : (pj lw).1 100 668 = some (.ifCond .ne 11, 3, 0)) rfl
theorem w100_671 {x : Int32} {l0 l1 l2 l3 l4 l5 l6 l7 l8 : Slot} : W (pj lw) 100 671 (l0 :: l1 :: l2 :: l3 :: l4 :: l5 :: l6 :: l7 :: l8 :: .val (.int x) :: L) S k n H Q ↔ W (pj lw) 100 673 (l0 :: l1 :: l2 :: l3 :: l4 :: l5 :: l6 :: l7 :: l8 :: .val (.int x) :: L) (.int x :: S) k n H Q := W_s (rfl : (pj lw).1 100 671 = some (.iload 9, 2, 0)) rfl rfl rfl
theorem w100_673 : W (pj lw) 100 673 L S k n H Q ↔ W (pj lw) 100 674 L (.int 1 :: S) k n H Q := W_s (rfl : (pj lw).1 100 673 = some (.iconst 1, 1, 0)) rfl rfl rfl
theorem w100_674 {x y : Int32} : W (pj lw) 100 674 L (.int y :: .int x :: S) k n H Q ↔ (if x = y then W (pj lw) 100 679 L S k n H Q else W (pj lw) 100 677 L S k n H Q) := W_icmp_eq (rfl : (pj lw).1 100 674 = some (.if_icmp .eq 5, 3, 0)) rfl
theorem w100_679 {x : Nat} {l0 l1 l2 l3 : Slot} : W (pj lw) 100 679 (l0 :: l1 :: l2 :: l3 :: .val (.ref x) :: L) S k n H Q ↔ W (pj lw) 100 681 (l0 :: l1 :: l2 :: l3 :: .val (.ref x) :: L) (.ref x :: S) k n H Q := W_s (rfl : (pj lw).1 100 679 = some (.aload 4, 2, 0)) rfl rfl rfl
theorem w100_681 {a : Nat} : W (pj lw) 100 681 L (.ref a :: S) k n H Q ↔ ((isO H a = true ∧ cs S + (1 + 11) + 0 ≤ 176) ∧ Cl (pj lw) 34 [.ref a] H (fun v H => W (pj lw) 100 684 L (v.toList ++ S) k n H Q)) := W_inst (as := []) (rfl : (pj lw).1 100 681 = some (.invokevirtual 38, 3, 34)) rfl rfl rfl (Nat.le_of_ble_eq_true rfl) (Nat.le_of_ble_eq_true rfl) ⟨rfl, rfl⟩
theorem w100_684 {x : Int32} {l0 l1 l2 l3 l4 : Slot} : W (pj lw) 100 684 (l0 :: l1 :: l2 :: l3 :: l4 :: .val (.int x) :: L) S k n H Q ↔ W (pj lw) 100 686 (l0 :: l1 :: l2 :: l3 :: l4 :: .val (.int x) :: L) (.int x :: S) k n H Q := W_s (rfl : (pj lw).1 100 684 = some (.iload 5, 2, 0)) rfl rfl rfl
theorem w100_686 {x y : Int32} : W (pj lw) 100 686 L (.int y :: .int x :: S) k n H Q ↔ (if x = y then W (pj lw) 100 689 L S k n H Q else W (pj lw) 100 699 L S k n H Q) := W_icmp_ne (rfl : (pj lw).1 100 686 = some (.if_icmp .ne 13, 3, 0)) rfl
theorem w100_689 {x : Nat} {l0 l1 l2 l3 : Slot} : W (pj lw) 100 689 (l0 :: l1 :: l2 :: l3 :: .val (.ref x) :: L) S k n H Q ↔ W (pj lw) 100 691 (l0 :: l1 :: l2 :: l3 :: .val (.ref x) :: L) (.ref x :: S) k n H Q := W_s (rfl : (pj lw).1 100 689 = some (.aload 4, 2, 0)) rfl rfl rfl
theorem w100_691 {a : Nat} : W (pj lw) 100 691 L (.ref a :: S) k n H Q ↔ ((isO H a = true ∧ cs S + (1 + 11) + 0 ≤ 176) ∧ Cl (pj lw) 29 [.ref a] H (fun v H => W (pj lw) 100 694 L (v.toList ++ S) k n H Q)) := W_inst (as := []) (rfl : (pj lw).1 100 691 = some (.invokevirtual 41, 3, 29)) rfl rfl rfl (Nat.le_of_ble_eq_true rfl) (Nat.le_of_ble_eq_true rfl) ⟨rfl, rfl⟩
theorem w100_694 {x : Int32} {l0 l1 l2 l3 l4 l5 l6 l7 l8 : Slot} : W (pj lw) 100 694 (l0 :: l1 :: l2 :: l3 :: l4 :: l5 :: l6 :: l7 :: l8 :: .val (.int x) :: L) S k n H Q ↔ W (pj lw) 100 696 (l0 :: l1 :: l2 :: l3 :: l4 :: l5 :: l6 :: l7 :: l8 :: .val (.int x) :: L) (.int x :: S) k n H Q := W_s (rfl : (pj lw).1 100 694 = some (.iload 9, 2, 0)) rfl rfl rfl
theorem w100_696 {x y : Int32} : W (pj lw) 100 696 L (.int y :: .int x :: S) k n H Q ↔ (if x = y then W (pj lw) 100 701 L S k n H Q else W (pj lw) 100 699 L S k n H Q) := W_icmp_eq (rfl : (pj lw).1 100 696 = some (.if_icmp .eq 5, 3, 0)) rfl
theorem w100_701 {x : Nat} {l0 l1 l2 l3 : Slot} : W (pj lw) 100 701 (l0 :: l1 :: l2 :: l3 :: .val (.ref x) :: L) S k n H Q ↔ W (pj lw) 100 703 (l0 :: l1 :: l2 :: l3 :: .val (.ref x) :: L) (.ref x :: S) k n H Q := W_s (rfl : (pj lw).1 100 701 = some (.aload 4, 2, 0)) rfl rfl rfl
theorem w100_703 : W (pj lw) 100 703 L S k n H Q ↔ W (pj lw) 100 704 L (.int 0 :: S) k n H Q := W_s (rfl : (pj lw).1 100 703 = some (.iconst 0, 1, 0)) rfl rfl rfl
theorem w100_704 {a : Nat} {x0 : Int32} : W (pj lw) 100 704 L (.int x0 :: .ref a :: S) k n H Q ↔ ((isO H a = true ∧ cs S + (5 + 11) + 13 ≤ 176) ∧ Cl (pj lw) 31 [.ref a, .int x0] H (fun v H => W (pj lw) 100 707 L (v.toList ++ S) k n H Q)) := W_inst (as := [.int x0]) (rfl : (pj lw).1 100 704 = some (.invokevirtual 44, 3, 31)) rfl rfl rfl (Nat.le_of_ble_eq_true rfl) (Nat.le_of_ble_eq_true rfl) ⟨rfl, rfl⟩
theorem w100_707 : W (pj lw) 100 707 L S k n H Q ↔ W (pj lw) 100 708 L (.int (-1) :: S) k n H Q := W_s (rfl : (pj lw).1 100 707 = some (.iconst (-1), 1, 0)) rfl rfl rfl
theorem w100_708 {x y : Int32} : W (pj lw) 100 708 L (.int y :: .int x :: S) k n H Q ↔ (if x = y then W (pj lw) 100 711 L S k n H Q else W (pj lw) 100 737 L S k n H Q) := W_icmp_ne (rfl : (pj lw).1 100 708 = some (.if_icmp .ne 29, 3, 0)) rfl
theorem w100_711 {x : Nat} {l0 l1 l2 l3 : Slot} : W (pj lw) 100 711 (l0 :: l1 :: l2 :: l3 :: .val (.ref x) :: L) S k n H Q ↔ W (pj lw) 100 713 (l0 :: l1 :: l2 :: l3 :: .val (.ref x) :: L) (.ref x :: S) k n H Q := W_s (rfl : (pj lw).1 100 711 = some (.aload 4, 2, 0)) rfl rfl rfl
theorem w100_713 {x : Int32} {l0 l1 l2 l3 l4 : Slot} : W (pj lw) 100 713 (l0 :: l1 :: l2 :: l3 :: l4 :: .val (.int x) :: L) S k n H Q ↔ W (pj lw) 100 715 (l0 :: l1 :: l2 :: l3 :: l4 :: .val (.int x) :: L) (.int x :: S) k n H Q := W_s (rfl : (pj lw).1 100 713 = some (.iload 5, 2, 0)) rfl rfl rfl
theorem w100_715 : W (pj lw) 100 715 L S k n H Q ↔ W (pj lw) 100 716 L (.int 1 :: S) k n H Q := W_s (rfl : (pj lw).1 100 715 = some (.iconst 1, 1, 0)) rfl rfl rfl
theorem w100_716 {x y : Int32} : W (pj lw) 100 716 L (.int y :: .int x :: S) k n H Q ↔ W (pj lw) 100 717 L (.int (x + y) :: S) k n H Q := W_s (rfl : (pj lw).1 100 716 = some (.iadd, 1, 0)) rfl rfl rfl
theorem w100_717 {a : Nat} {x0 : Int32} : W (pj lw) 100 717 L (.int x0 :: .ref a :: S) k n H Q ↔ ((isO H a = true ∧ cs S + (5 + 11) + 13 ≤ 176) ∧ Cl (pj lw) 31 [.ref a, .int x0] H (fun v H => W (pj lw) 100 720 L (v.toList ++ S) k n H Q)) := W_inst (as := [.int x0]) (rfl : (pj lw).1 100 717 = some (.invokevirtual 44, 3, 31)) rfl rfl rfl (Nat.le_of_ble_eq_true rfl) (Nat.le_of_ble_eq_true rfl) ⟨rfl, rfl⟩
theorem w100_720 : W (pj lw) 100 720 L S k n H Q ↔ W (pj lw) 100 721 L (.int (-1) :: S) k n H Q := W_s (rfl : (pj lw).1 100 720 = some (.iconst (-1), 1, 0)) rfl rfl rfl
theorem w100_721 {x y : Int32} : W (pj lw) 100 721 L (.int y :: .int x :: S) k n H Q ↔ (if x = y then W (pj lw) 100 724 L S k n H Q else W (pj lw) 100 737 L S k n H Q) := W_icmp_ne (rfl : (pj lw).1 100 721 = some (.if_icmp .ne 16, 3, 0)) rfl
theorem w100_724 {x : Nat} {l0 l1 l2 l3 : Slot} : W (pj lw) 100 724 (l0 :: l1 :: l2 :: l3 :: .val (.ref x) :: L) S k n H Q ↔ W (pj lw) 100 726 (l0 :: l1 :: l2 :: l3 :: .val (.ref x) :: L) (.ref x :: S) k n H Q := W_s (rfl : (pj lw).1 100 724 = some (.aload 4, 2, 0)) rfl rfl rfl
theorem w100_726 {x : Int32} {l0 l1 l2 l3 l4 : Slot} : W (pj lw) 100 726 (l0 :: l1 :: l2 :: l3 :: l4 :: .val (.int x) :: L) S k n H Q ↔ W (pj lw) 100 728 (l0 :: l1 :: l2 :: l3 :: l4 :: .val (.int x) :: L) (.int x :: S) k n H Q := W_s (rfl : (pj lw).1 100 726 = some (.iload 5, 2, 0)) rfl rfl rfl
theorem w100_728 : W (pj lw) 100 728 L S k n H Q ↔ W (pj lw) 100 729 L (.int 1 :: S) k n H Q := W_s (rfl : (pj lw).1 100 728 = some (.iconst 1, 1, 0)) rfl rfl rfl
theorem w100_729 {x y : Int32} : W (pj lw) 100 729 L (.int y :: .int x :: S) k n H Q ↔ W (pj lw) 100 730 L (.int (x + y) :: S) k n H Q := W_s (rfl : (pj lw).1 100 729 = some (.iadd, 1, 0)) rfl rfl rfl
theorem w100_730 : W (pj lw) 100 730 L S k n H Q ↔ W (pj lw) 100 731 L (.int 0 :: S) k n H Q := W_s (rfl : (pj lw).1 100 730 = some (.iconst 0, 1, 0)) rfl rfl rfl
theorem w100_731 {a : Nat} {x0 : Int32} {x1 : Int32} : W (pj lw) 100 731 L (.int x1 :: .int x0 :: .ref a :: S) k n H Q ↔ ((isO H a = true ∧ cs S + (3 + 11) + 13 ≤ 176) ∧ Cl (pj lw) 17 [.ref a, .int x0, .int x1] H (fun v H => W (pj lw) 100 734 L (v.toList ++ S) k n H Q)) := W_inst (as := [.int x0, .int x1]) (rfl : (pj lw).1 100 731 = some (.invokevirtual 47, 3, 17)) rfl rfl rfl (Nat.le_of_ble_eq_true rfl) (Nat.le_of_ble_eq_true rfl) ⟨rfl, rfl⟩
theorem w100_734 {x : Int32} : W (pj lw) 100 734 L (.int x :: S) k n H Q ↔ (if x = 0 then W (pj lw) 100 739 L S k n H Q else W (pj lw) 100 737 L S k n H Q) := W_if_eq (rfl : (pj lw).1 100 734 = some (.ifCond .eq 5, 3, 0)) rfl
theorem w100_739 {x : Nat} {l0 l1 l2 l3 : Slot} : W (pj lw) 100 739 (l0 :: l1 :: l2 :: l3 :: .val (.ref x) :: L) S k n H Q ↔ W (pj lw) 100 741 (l0 :: l1 :: l2 :: l3 :: .val (.ref x) :: L) (.ref x :: S) k n H Q := W_s (rfl : (pj lw).1 100 739 = some (.aload 4, 2, 0)) rfl rfl rfl
theorem w100_741 {a : Nat} : W (pj lw) 100 741 L (.ref a :: S) k n H Q ↔ ((isO H a = true ∧ cs S + (1 + 11) + 0 ≤ 176) ∧ Cl (pj lw) 32 [.ref a] H (fun v H => W (pj lw) 100 744 L (v.toList ++ S) k n H Q)) := W_inst (as := []) (rfl : (pj lw).1 100 741 = some (.invokevirtual 51, 3, 32)) rfl rfl rfl (Nat.le_of_ble_eq_true rfl) (Nat.le_of_ble_eq_true rfl) ⟨rfl, rfl⟩
theorem w100_744 {x : Int32} {l0 l1 l2 l3 l4 l5 l6 l7 l8 l9 l10 l11 l12 l13 l14 l15 l16 l17 : Slot} : W (pj lw) 100 744 (l0 :: l1 :: l2 :: l3 :: l4 :: l5 :: l6 :: l7 :: l8 :: l9 :: l10 :: l11 :: l12 :: l13 :: l14 :: l15 :: l16 :: l17 :: .unset :: L) (.int x :: S) k n H Q ↔ W (pj lw) 100 746 (l0 :: l1 :: l2 :: l3 :: l4 :: l5 :: l6 :: l7 :: l8 :: l9 :: l10 :: l11 :: l12 :: l13 :: l14 :: l15 :: l16 :: l17 :: .val (.int x) :: L) S k n H Q := W_ist (rfl : (pj lw).1 100 744 = some (.istore 18, 2, 0)) rfl rfl
theorem w100_746 {x : Int32} {l0 l1 l2 l3 l4 l5 l6 l7 l8 : Slot} : W (pj lw) 100 746 (l0 :: l1 :: l2 :: l3 :: l4 :: l5 :: l6 :: l7 :: l8 :: .val (.int x) :: L) S k n H Q ↔ W (pj lw) 100 748 (l0 :: l1 :: l2 :: l3 :: l4 :: l5 :: l6 :: l7 :: l8 :: .val (.int x) :: L) (.int x :: S) k n H Q := W_s (rfl : (pj lw).1 100 746 = some (.iload 9, 2, 0)) rfl rfl rfl
theorem w100_748 {x : Int32} : W (pj lw) 100 748 L (.int x :: S) k n H Q ↔ (if x = 0 then W (pj lw) 100 751 L S k n H Q else W (pj lw) 100 759 L S k n H Q) := W_if_ne (rfl : (pj lw).1 100 748 = some (.ifCond .ne 11, 3, 0)) rfl
theorem w100_751 {x : Int32} {l0 l1 l2 l3 l4 l5 l6 l7 l8 l9 l10 l11 l12 l13 l14 l15 l16 l17 : Slot} : W (pj lw) 100 751 (l0 :: l1 :: l2 :: l3 :: l4 :: l5 :: l6 :: l7 :: l8 :: l9 :: l10 :: l11 :: l12 :: l13 :: l14 :: l15 :: l16 :: l17 :: .val (.int x) :: L) S k n H Q ↔ W (pj lw) 100 753 (l0 :: l1 :: l2 :: l3 :: l4 :: l5 :: l6 :: l7 :: l8 :: l9 :: l10 :: l11 :: l12 :: l13 :: l14 :: l15 :: l16 :: l17 :: .val (.int x) :: L) (.int x :: S) k n H Q := W_s (rfl : (pj lw).1 100 751 = some (.iload 18, 2, 0)) rfl rfl rfl
theorem w100_753 : W (pj lw) 100 753 L S k n H Q ↔ W (pj lw) 100 754 L (.int (-1) :: S) k n H Q := W_s (rfl : (pj lw).1 100 753 = some (.iconst (-1), 1, 0)) rfl rfl rfl
theorem w100_754 {x y : Int32} : W (pj lw) 100 754 L (.int y :: .int x :: S) k n H Q ↔ (if x = y then W (pj lw) 100 759 L S k n H Q else W (pj lw) 100 757 L S k n H Q) := W_icmp_eq (rfl : (pj lw).1 100 754 = some (.if_icmp .eq 5, 3, 0)) rfl
theorem w100_759 {x : Int32} {l0 l1 l2 l3 l4 l5 l6 l7 l8 : Slot} : W (pj lw) 100 759 (l0 :: l1 :: l2 :: l3 :: l4 :: l5 :: l6 :: l7 :: l8 :: .val (.int x) :: L) S k n H Q ↔ W (pj lw) 100 761 (l0 :: l1 :: l2 :: l3 :: l4 :: l5 :: l6 :: l7 :: l8 :: .val (.int x) :: L) (.int x :: S) k n H Q := W_s (rfl : (pj lw).1 100 759 = some (.iload 9, 2, 0)) rfl rfl rfl
theorem w100_761 : W (pj lw) 100 761 L S k n H Q ↔ W (pj lw) 100 762 L (.int 1 :: S) k n H Q := W_s (rfl : (pj lw).1 100 761 = some (.iconst 1, 1, 0)) rfl rfl rfl
theorem w100_762 {x y : Int32} : W (pj lw) 100 762 L (.int y :: .int x :: S) k n H Q ↔ (if x = y then W (pj lw) 100 765 L S k n H Q else W (pj lw) 100 772 L S k n H Q) := W_icmp_ne (rfl : (pj lw).1 100 762 = some (.if_icmp .ne 10, 3, 0)) rfl
theorem w100_765 {x : Int32} {l0 l1 l2 l3 l4 l5 l6 l7 l8 l9 l10 l11 l12 l13 l14 l15 l16 l17 : Slot} : W (pj lw) 100 765 (l0 :: l1 :: l2 :: l3 :: l4 :: l5 :: l6 :: l7 :: l8 :: l9 :: l10 :: l11 :: l12 :: l13 :: l14 :: l15 :: l16 :: l17 :: .val (.int x) :: L) S k n H Q ↔ W (pj lw) 100 767 (l0 :: l1 :: l2 :: l3 :: l4 :: l5 :: l6 :: l7 :: l8 :: l9 :: l10 :: l11 :: l12 :: l13 :: l14 :: l15 :: l16 :: l17 :: .val (.int x) :: L) (.int x :: S) k n H Q := W_s (rfl : (pj lw).1 100 765 = some (.iload 18, 2, 0)) rfl rfl rfl
theorem w100_767 {x : Int32} : W (pj lw) 100 767 L (.int x :: S) k n H Q ↔ (if x = 0 then W (pj lw) 100 772 L S k n H Q else W (pj lw) 100 770 L S k n H Q) := W_if_eq (rfl : (pj lw).1 100 767 = some (.ifCond .eq 5, 3, 0)) rfl
theorem w100_772 {x : Int32} {l0 l1 l2 l3 l4 l5 l6 l7 l8 : Slot} : W (pj lw) 100 772 (l0 :: l1 :: l2 :: l3 :: l4 :: l5 :: l6 :: l7 :: l8 :: .val (.int x) :: L) S k n H Q ↔ W (pj lw) 100 774 (l0 :: l1 :: l2 :: l3 :: l4 :: l5 :: l6 :: l7 :: l8 :: .val (.int x) :: L) (.int x :: S) k n H Q := W_s (rfl : (pj lw).1 100 772 = some (.iload 9, 2, 0)) rfl rfl rfl
theorem w100_774 : W (pj lw) 100 774 L S k n H Q ↔ W (pj lw) 100 775 L (.int 2 :: S) k n H Q := W_s (rfl : (pj lw).1 100 774 = some (.iconst 2, 1, 0)) rfl rfl rfl
theorem w100_775 {x y : Int32} : W (pj lw) 100 775 L (.int y :: .int x :: S) k n H Q ↔ (if x = y then W (pj lw) 100 778 L S k n H Q else W (pj lw) 100 796 L S k n H Q) := W_icmp_ne (rfl : (pj lw).1 100 775 = some (.if_icmp .ne 21, 3, 0)) rfl
theorem w100_778 {x : Int32} {l0 l1 l2 l3 l4 l5 l6 l7 l8 l9 l10 l11 l12 l13 l14 l15 l16 l17 : Slot} : W (pj lw) 100 778 (l0 :: l1 :: l2 :: l3 :: l4 :: l5 :: l6 :: l7 :: l8 :: l9 :: l10 :: l11 :: l12 :: l13 :: l14 :: l15 :: l16 :: l17 :: .val (.int x) :: L) S k n H Q ↔ W (pj lw) 100 780 (l0 :: l1 :: l2 :: l3 :: l4 :: l5 :: l6 :: l7 :: l8 :: l9 :: l10 :: l11 :: l12 :: l13 :: l14 :: l15 :: l16 :: l17 :: .val (.int x) :: L) (.int x :: S) k n H Q := W_s (rfl : (pj lw).1 100 778 = some (.iload 18, 2, 0)) rfl rfl rfl
theorem w100_780 {x : Int32} : W (pj lw) 100 780 L (.int x :: S) k n H Q ↔ (if x = 0 then W (pj lw) 100 796 L S k n H Q else W (pj lw) 100 783 L S k n H Q) := W_if_eq (rfl : (pj lw).1 100 780 = some (.ifCond .eq 16, 3, 0)) rfl
theorem w100_783 {x : Nat} {l0 l1 l2 l3 : Slot} : W (pj lw) 100 783 (l0 :: l1 :: l2 :: l3 :: .val (.ref x) :: L) S k n H Q ↔ W (pj lw) 100 785 (l0 :: l1 :: l2 :: l3 :: .val (.ref x) :: L) (.ref x :: S) k n H Q := W_s (rfl : (pj lw).1 100 783 = some (.aload 4, 2, 0)) rfl rfl rfl
theorem w100_785 {x : Int32} {l0 l1 l2 l3 l4 l5 l6 l7 l8 l9 l10 l11 l12 l13 l14 l15 l16 l17 : Slot} : W (pj lw) 100 785 (l0 :: l1 :: l2 :: l3 :: l4 :: l5 :: l6 :: l7 :: l8 :: l9 :: l10 :: l11 :: l12 :: l13 :: l14 :: l15 :: l16 :: l17 :: .val (.int x) :: L) S k n H Q ↔ W (pj lw) 100 787 (l0 :: l1 :: l2 :: l3 :: l4 :: l5 :: l6 :: l7 :: l8 :: l9 :: l10 :: l11 :: l12 :: l13 :: l14 :: l15 :: l16 :: l17 :: .val (.int x) :: L) (.int x :: S) k n H Q := W_s (rfl : (pj lw).1 100 785 = some (.iload 18, 2, 0)) rfl rfl rfl
theorem w100_787 {a : Nat} {x0 : Int32} : W (pj lw) 100 787 L (.int x0 :: .ref a :: S) k n H Q ↔ ((isO H a = true ∧ cs S + (2 + 11) + 29 ≤ 176) ∧ Cl (pj lw) 33 [.ref a, .int x0] H (fun v H => W (pj lw) 100 790 L (v.toList ++ S) k n H Q)) := W_inst (as := [.int x0]) (rfl : (pj lw).1 100 787 = some (.invokevirtual 54, 3, 33)) rfl rfl rfl (Nat.le_of_ble_eq_true rfl) (Nat.le_of_ble_eq_true rfl) ⟨rfl, rfl⟩
theorem w100_790 : W (pj lw) 100 790 L S k n H Q ↔ W (pj lw) 100 791 L (.int 3 :: S) k n H Q := W_s (rfl : (pj lw).1 100 790 = some (.iconst 3, 1, 0)) rfl rfl rfl
theorem w100_791 {x y : Int32} : W (pj lw) 100 791 L (.int y :: .int x :: S) k n H Q ↔ (if x < y then W (pj lw) 100 794 L S k n H Q else W (pj lw) 100 796 L S k n H Q) := W_icmp_ge (rfl : (pj lw).1 100 791 = some (.if_icmp .ge 5, 3, 0)) rfl
theorem w100_796 : W (pj lw) 100 796 L S k n H Q ↔ W (pj lw) 100 797 L (.int 0 :: S) k n H Q := W_s (rfl : (pj lw).1 100 796 = some (.iconst 0, 1, 0)) rfl rfl rfl
theorem w100_797 {x : Int32} {l0 l1 l2 l3 l4 l5 l6 l7 l8 l9 l10 l11 l12 l13 l14 l15 l16 l17 l18 : Slot} : W (pj lw) 100 797 (l0 :: l1 :: l2 :: l3 :: l4 :: l5 :: l6 :: l7 :: l8 :: l9 :: l10 :: l11 :: l12 :: l13 :: l14 :: l15 :: l16 :: l17 :: l18 :: .unset :: L) (.int x :: S) k n H Q ↔ W (pj lw) 100 799 (l0 :: l1 :: l2 :: l3 :: l4 :: l5 :: l6 :: l7 :: l8 :: l9 :: l10 :: l11 :: l12 :: l13 :: l14 :: l15 :: l16 :: l17 :: l18 :: .val (.int x) :: L) S k n H Q := W_ist (rfl : (pj lw).1 100 797 = some (.istore 19, 2, 0)) rfl rfl
theorem w100_799 : W (pj lw) 100 799 L S k n H Q ↔ W (pj lw) 100 800 L (.int 1 :: S) k n H Q := W_s (rfl : (pj lw).1 100 799 = some (.iconst 1, 1, 0)) rfl rfl rfl
theorem w100_800 {x : Int32} {l0 l1 l2 l3 l4 l5 l6 l7 l8 l9 l10 l11 l12 l13 l14 l15 l16 l17 l18 l19 : Slot} : W (pj lw) 100 800 (l0 :: l1 :: l2 :: l3 :: l4 :: l5 :: l6 :: l7 :: l8 :: l9 :: l10 :: l11 :: l12 :: l13 :: l14 :: l15 :: l16 :: l17 :: l18 :: l19 :: .unset :: L) (.int x :: S) k n H Q ↔ W (pj lw) 100 802 (l0 :: l1 :: l2 :: l3 :: l4 :: l5 :: l6 :: l7 :: l8 :: l9 :: l10 :: l11 :: l12 :: l13 :: l14 :: l15 :: l16 :: l17 :: l18 :: l19 :: .val (.int x) :: L) S k n H Q := W_ist (rfl : (pj lw).1 100 800 = some (.istore 20, 2, 0)) rfl rfl
theorem w100_802 {x : Int32} {l0 l1 l2 l3 l4 l5 l6 l7 l8 l9 l10 l11 l12 l13 l14 l15 l16 l17 l18 l19 : Slot} : W (pj lw) 100 802 (l0 :: l1 :: l2 :: l3 :: l4 :: l5 :: l6 :: l7 :: l8 :: l9 :: l10 :: l11 :: l12 :: l13 :: l14 :: l15 :: l16 :: l17 :: l18 :: l19 :: .val (.int x) :: L) S k n H Q ↔ W (pj lw) 100 804 (l0 :: l1 :: l2 :: l3 :: l4 :: l5 :: l6 :: l7 :: l8 :: l9 :: l10 :: l11 :: l12 :: l13 :: l14 :: l15 :: l16 :: l17 :: l18 :: l19 :: .val (.int x) :: L) (.int x :: S) k n H Q := W_s (rfl : (pj lw).1 100 802 = some (.iload 20, 2, 0)) rfl rfl rfl
theorem w100_804 {x : Int32} {l0 l1 l2 l3 l4 : Slot} : W (pj lw) 100 804 (l0 :: l1 :: l2 :: l3 :: l4 :: .val (.int x) :: L) S k n H Q ↔ W (pj lw) 100 806 (l0 :: l1 :: l2 :: l3 :: l4 :: .val (.int x) :: L) (.int x :: S) k n H Q := W_s (rfl : (pj lw).1 100 804 = some (.iload 5, 2, 0)) rfl rfl rfl
theorem w100_806 {x y : Int32} : W (pj lw) 100 806 L (.int y :: .int x :: S) k n H Q ↔ (if y < x then W (pj lw) 100 990 L S k n H Q else W (pj lw) 100 809 L S k n H Q) := W_icmp_gt (rfl : (pj lw).1 100 806 = some (.if_icmp .gt 184, 3, 0)) rfl
theorem w100_809 : W (pj lw) 100 809 L S k n H Q ↔ W (pj lw) 100 810 L (.int 1 :: S) k n H Q := W_s (rfl : (pj lw).1 100 809 = some (.iconst 1, 1, 0)) rfl rfl rfl
theorem w100_810 {x : Int32} {l0 l1 l2 l3 l4 l5 l6 l7 l8 l9 l10 l11 l12 l13 l14 l15 l16 l17 l18 l19 : Slot} : W (pj lw) 100 810 (l0 :: l1 :: l2 :: l3 :: l4 :: l5 :: l6 :: l7 :: l8 :: l9 :: l10 :: l11 :: l12 :: l13 :: l14 :: l15 :: l16 :: l17 :: l18 :: l19 :: .val (.int x) :: L) S k n H Q ↔ W (pj lw) 100 812 (l0 :: l1 :: l2 :: l3 :: l4 :: l5 :: l6 :: l7 :: l8 :: l9 :: l10 :: l11 :: l12 :: l13 :: l14 :: l15 :: l16 :: l17 :: l18 :: l19 :: .val (.int x) :: L) (.int x :: S) k n H Q := W_s (rfl : (pj lw).1 100 810 = some (.iload 20, 2, 0)) rfl rfl rfl
theorem w100_812 : W (pj lw) 100 812 L S k n H Q ↔ W (pj lw) 100 813 L (.int 1 :: S) k n H Q := W_s (rfl : (pj lw).1 100 812 = some (.iconst 1, 1, 0)) rfl rfl rfl
theorem w100_813 {x y : Int32} : W (pj lw) 100 813 L (.int y :: .int x :: S) k n H Q ↔ W (pj lw) 100 814 L (.int (x - y) :: S) k n H Q := W_s (rfl : (pj lw).1 100 813 = some (.isub, 1, 0)) rfl rfl rfl
theorem w100_814 {x y : Int32} : W (pj lw) 100 814 L (.int y :: .int x :: S) k n H Q ↔ W (pj lw) 100 815 L (.int (x <<< (y &&& 31)) :: S) k n H Q := W_s (rfl : (pj lw).1 100 814 = some (.ishl, 1, 0)) rfl rfl rfl
theorem w100_815 {x : Int32} {l0 l1 l2 l3 l4 l5 l6 l7 l8 l9 l10 l11 l12 l13 l14 l15 l16 l17 l18 l19 l20 : Slot} : W (pj lw) 100 815 (l0 :: l1 :: l2 :: l3 :: l4 :: l5 :: l6 :: l7 :: l8 :: l9 :: l10 :: l11 :: l12 :: l13 :: l14 :: l15 :: l16 :: l17 :: l18 :: l19 :: l20 :: .unset :: L) (.int x :: S) k n H Q ↔ W (pj lw) 100 817 (l0 :: l1 :: l2 :: l3 :: l4 :: l5 :: l6 :: l7 :: l8 :: l9 :: l10 :: l11 :: l12 :: l13 :: l14 :: l15 :: l16 :: l17 :: l18 :: l19 :: l20 :: .val (.int x) :: L) S k n H Q := W_ist (rfl : (pj lw).1 100 815 = some (.istore 21, 2, 0)) rfl rfl
theorem w100_817 {x : Nat} {l0 l1 l2 l3 : Slot} : W (pj lw) 100 817 (l0 :: l1 :: l2 :: l3 :: .val (.ref x) :: L) S k n H Q ↔ W (pj lw) 100 819 (l0 :: l1 :: l2 :: l3 :: .val (.ref x) :: L) (.ref x :: S) k n H Q := W_s (rfl : (pj lw).1 100 817 = some (.aload 4, 2, 0)) rfl rfl rfl
theorem w100_819 {x : Int32} {l0 l1 l2 l3 l4 l5 l6 l7 l8 l9 l10 l11 l12 l13 l14 l15 l16 l17 l18 l19 : Slot} : W (pj lw) 100 819 (l0 :: l1 :: l2 :: l3 :: l4 :: l5 :: l6 :: l7 :: l8 :: l9 :: l10 :: l11 :: l12 :: l13 :: l14 :: l15 :: l16 :: l17 :: l18 :: l19 :: .val (.int x) :: L) S k n H Q ↔ W (pj lw) 100 821 (l0 :: l1 :: l2 :: l3 :: l4 :: l5 :: l6 :: l7 :: l8 :: l9 :: l10 :: l11 :: l12 :: l13 :: l14 :: l15 :: l16 :: l17 :: l18 :: l19 :: .val (.int x) :: L) (.int x :: S) k n H Q := W_s (rfl : (pj lw).1 100 819 = some (.iload 20, 2, 0)) rfl rfl rfl
theorem w100_821 : W (pj lw) 100 821 L S k n H Q ↔ W (pj lw) 100 822 L (.int 0 :: S) k n H Q := W_s (rfl : (pj lw).1 100 821 = some (.iconst 0, 1, 0)) rfl rfl rfl
theorem w100_822 {a : Nat} {x0 : Int32} {x1 : Int32} : W (pj lw) 100 822 L (.int x1 :: .int x0 :: .ref a :: S) k n H Q ↔ ((isO H a = true ∧ cs S + (3 + 11) + 13 ≤ 176) ∧ Cl (pj lw) 17 [.ref a, .int x0, .int x1] H (fun v H => W (pj lw) 100 825 L (v.toList ++ S) k n H Q)) := W_inst (as := [.int x0, .int x1]) (rfl : (pj lw).1 100 822 = some (.invokevirtual 47, 3, 17)) rfl rfl rfl (Nat.le_of_ble_eq_true rfl) (Nat.le_of_ble_eq_true rfl) ⟨rfl, rfl⟩
theorem w100_825 {x : Int32} {l0 l1 l2 l3 l4 l5 l6 l7 l8 l9 l10 l11 l12 l13 l14 l15 l16 l17 l18 l19 l20 l21 : Slot} : W (pj lw) 100 825 (l0 :: l1 :: l2 :: l3 :: l4 :: l5 :: l6 :: l7 :: l8 :: l9 :: l10 :: l11 :: l12 :: l13 :: l14 :: l15 :: l16 :: l17 :: l18 :: l19 :: l20 :: l21 :: .unset :: L) (.int x :: S) k n H Q ↔ W (pj lw) 100 827 (l0 :: l1 :: l2 :: l3 :: l4 :: l5 :: l6 :: l7 :: l8 :: l9 :: l10 :: l11 :: l12 :: l13 :: l14 :: l15 :: l16 :: l17 :: l18 :: l19 :: l20 :: l21 :: .val (.int x) :: L) S k n H Q := W_ist (rfl : (pj lw).1 100 825 = some (.istore 22, 2, 0)) rfl rfl
theorem w100_827 {x : Nat} {l0 l1 l2 l3 : Slot} : W (pj lw) 100 827 (l0 :: l1 :: l2 :: l3 :: .val (.ref x) :: L) S k n H Q ↔ W (pj lw) 100 829 (l0 :: l1 :: l2 :: l3 :: .val (.ref x) :: L) (.ref x :: S) k n H Q := W_s (rfl : (pj lw).1 100 827 = some (.aload 4, 2, 0)) rfl rfl rfl
theorem w100_829 {x : Int32} {l0 l1 l2 l3 l4 l5 l6 l7 l8 l9 l10 l11 l12 l13 l14 l15 l16 l17 l18 l19 : Slot} : W (pj lw) 100 829 (l0 :: l1 :: l2 :: l3 :: l4 :: l5 :: l6 :: l7 :: l8 :: l9 :: l10 :: l11 :: l12 :: l13 :: l14 :: l15 :: l16 :: l17 :: l18 :: l19 :: .val (.int x) :: L) S k n H Q ↔ W (pj lw) 100 831 (l0 :: l1 :: l2 :: l3 :: l4 :: l5 :: l6 :: l7 :: l8 :: l9 :: l10 :: l11 :: l12 :: l13 :: l14 :: l15 :: l16 :: l17 :: l18 :: l19 :: .val (.int x) :: L) (.int x :: S) k n H Q := W_s (rfl : (pj lw).1 100 829 = some (.iload 20, 2, 0)) rfl rfl rfl
theorem w100_831 : W (pj lw) 100 831 L S k n H Q ↔ W (pj lw) 100 832 L (.int 1 :: S) k n H Q := W_s (rfl : (pj lw).1 100 831 = some (.iconst 1, 1, 0)) rfl rfl rfl
theorem w100_832 {a : Nat} {x0 : Int32} {x1 : Int32} : W (pj lw) 100 832 L (.int x1 :: .int x0 :: .ref a :: S) k n H Q ↔ ((isO H a = true ∧ cs S + (3 + 11) + 13 ≤ 176) ∧ Cl (pj lw) 17 [.ref a, .int x0, .int x1] H (fun v H => W (pj lw) 100 835 L (v.toList ++ S) k n H Q)) := W_inst (as := [.int x0, .int x1]) (rfl : (pj lw).1 100 832 = some (.invokevirtual 47, 3, 17)) rfl rfl rfl (Nat.le_of_ble_eq_true rfl) (Nat.le_of_ble_eq_true rfl) ⟨rfl, rfl⟩
theorem w100_835 {x : Int32} {l0 l1 l2 l3 l4 l5 l6 l7 l8 l9 l10 l11 l12 l13 l14 l15 l16 l17 l18 l19 l20 l21 l22 : Slot} : W (pj lw) 100 835 (l0 :: l1 :: l2 :: l3 :: l4 :: l5 :: l6 :: l7 :: l8 :: l9 :: l10 :: l11 :: l12 :: l13 :: l14 :: l15 :: l16 :: l17 :: l18 :: l19 :: l20 :: l21 :: l22 :: .unset :: L) (.int x :: S) k n H Q ↔ W (pj lw) 100 837 (l0 :: l1 :: l2 :: l3 :: l4 :: l5 :: l6 :: l7 :: l8 :: l9 :: l10 :: l11 :: l12 :: l13 :: l14 :: l15 :: l16 :: l17 :: l18 :: l19 :: l20 :: l21 :: l22 :: .val (.int x) :: L) S k n H Q := W_ist (rfl : (pj lw).1 100 835 = some (.istore 23, 2, 0)) rfl rfl
theorem w100_837 {x : Int32} {l0 l1 l2 l3 l4 l5 l6 l7 l8 l9 : Slot} : W (pj lw) 100 837 (l0 :: l1 :: l2 :: l3 :: l4 :: l5 :: l6 :: l7 :: l8 :: l9 :: .val (.int x) :: L) S k n H Q ↔ W (pj lw) 100 839 (l0 :: l1 :: l2 :: l3 :: l4 :: l5 :: l6 :: l7 :: l8 :: l9 :: .val (.int x) :: L) (.int x :: S) k n H Q := W_s (rfl : (pj lw).1 100 837 = some (.iload 10, 2, 0)) rfl rfl rfl
theorem w100_839 {x : Int32} : W (pj lw) 100 839 L (.int x :: S) k n H Q ↔ (if x = 0 then W (pj lw) 100 869 L S k n H Q else W (pj lw) 100 842 L S k n H Q) := W_if_eq (rfl : (pj lw).1 100 839 = some (.ifCond .eq 30, 3, 0)) rfl
theorem w100_842 {x : Int32} {l0 l1 l2 l3 l4 l5 l6 l7 l8 l9 l10 l11 l12 l13 l14 l15 l16 l17 l18 l19 l20 l21 : Slot} : W (pj lw) 100 842 (l0 :: l1 :: l2 :: l3 :: l4 :: l5 :: l6 :: l7 :: l8 :: l9 :: l10 :: l11 :: l12 :: l13 :: l14 :: l15 :: l16 :: l17 :: l18 :: l19 :: l20 :: l21 :: .val (.int x) :: L) S k n H Q ↔ W (pj lw) 100 844 (l0 :: l1 :: l2 :: l3 :: l4 :: l5 :: l6 :: l7 :: l8 :: l9 :: l10 :: l11 :: l12 :: l13 :: l14 :: l15 :: l16 :: l17 :: l18 :: l19 :: l20 :: l21 :: .val (.int x) :: L) (.int x :: S) k n H Q := W_s (rfl : (pj lw).1 100 842 = some (.iload 22, 2, 0)) rfl rfl rfl
theorem w100_844 : W (pj lw) 100 844 L S k n H Q ↔ W (pj lw) 100 845 L (.int 1 :: S) k n H Q := W_s (rfl : (pj lw).1 100 844 = some (.iconst 1, 1, 0)) rfl rfl rfl
theorem w100_845 {x y : Int32} : W (pj lw) 100 845 L (.int y :: .int x :: S) k n H Q ↔ (if x < y then W (pj lw) 100 879 L S k n H Q else W (pj lw) 100 848 L S k n H Q) := W_icmp_lt (rfl : (pj lw).1 100 845 = some (.if_icmp .lt 34, 3, 0)) rfl
theorem w100_848 {x : Int32} {l0 l1 l2 l3 l4 l5 l6 l7 l8 l9 l10 l11 l12 l13 l14 l15 l16 l17 l18 l19 l20 l21 : Slot} : W (pj lw) 100 848 (l0 :: l1 :: l2 :: l3 :: l4 :: l5 :: l6 :: l7 :: l8 :: l9 :: l10 :: l11 :: l12 :: l13 :: l14 :: l15 :: l16 :: l17 :: l18 :: l19 :: l20 :: l21 :: .val (.int x) :: L) S k n H Q ↔ W (pj lw) 100 850 (l0 :: l1 :: l2 :: l3 :: l4 :: l5 :: l6 :: l7 :: l8 :: l9 :: l10 :: l11 :: l12 :: l13 :: l14 :: l15 :: l16 :: l17 :: l18 :: l19 :: l20 :: l21 :: .val (.int x) :: L) (.int x :: S) k n H Q := W_s (rfl : (pj lw).1 100 848 = some (.iload 22, 2, 0)) rfl rfl rfl
theorem w100_850 {x : Int32} {l0 l1 : Slot} : W (pj lw) 100 850 (l0 :: l1 :: .val (.int x) :: L) S k n H Q ↔ W (pj lw) 100 851 (l0 :: l1 :: .val (.int x) :: L) (.int x :: S) k n H Q := W_s (rfl : (pj lw).1 100 850 = some (.iload_n 2, 1, 0)) rfl rfl rfl
theorem w100_851 {x y : Int32} : W (pj lw) 100 851 L (.int y :: .int x :: S) k n H Q ↔ (if y < x then W (pj lw) 100 879 L S k n H Q else W (pj lw) 100 854 L S k n H Q) := W_icmp_gt (rfl : (pj lw).1 100 851 = some (.if_icmp .gt 28, 3, 0)) rfl
theorem w100_854 {x : Int32} {l0 l1 l2 l3 l4 l5 l6 l7 l8 l9 l10 l11 l12 l13 l14 l15 l16 l17 l18 l19 l20 l21 l22 : Slot} : W (pj lw) 100 854 (l0 :: l1 :: l2 :: l3 :: l4 :: l5 :: l6 :: l7 :: l8 :: l9 :: l10 :: l11 :: l12 :: l13 :: l14 :: l15 :: l16 :: l17 :: l18 :: l19 :: l20 :: l21 :: l22 :: .val (.int x) :: L) S k n H Q ↔ W (pj lw) 100 856 (l0 :: l1 :: l2 :: l3 :: l4 :: l5 :: l6 :: l7 :: l8 :: l9 :: l10 :: l11 :: l12 :: l13 :: l14 :: l15 :: l16 :: l17 :: l18 :: l19 :: l20 :: l21 :: l22 :: .val (.int x) :: L) (.int x :: S) k n H Q := W_s (rfl : (pj lw).1 100 854 = some (.iload 23, 2, 0)) rfl rfl rfl
theorem w100_856 : W (pj lw) 100 856 L S k n H Q ↔ W (pj lw) 100 857 L (.int 1 :: S) k n H Q := W_s (rfl : (pj lw).1 100 856 = some (.iconst 1, 1, 0)) rfl rfl rfl
theorem w100_857 {x y : Int32} : W (pj lw) 100 857 L (.int y :: .int x :: S) k n H Q ↔ (if x < y then W (pj lw) 100 879 L S k n H Q else W (pj lw) 100 860 L S k n H Q) := W_icmp_lt (rfl : (pj lw).1 100 857 = some (.if_icmp .lt 22, 3, 0)) rfl
theorem w100_860 {x : Int32} {l0 l1 l2 l3 l4 l5 l6 l7 l8 l9 l10 l11 l12 l13 l14 l15 l16 l17 l18 l19 l20 l21 l22 : Slot} : W (pj lw) 100 860 (l0 :: l1 :: l2 :: l3 :: l4 :: l5 :: l6 :: l7 :: l8 :: l9 :: l10 :: l11 :: l12 :: l13 :: l14 :: l15 :: l16 :: l17 :: l18 :: l19 :: l20 :: l21 :: l22 :: .val (.int x) :: L) S k n H Q ↔ W (pj lw) 100 862 (l0 :: l1 :: l2 :: l3 :: l4 :: l5 :: l6 :: l7 :: l8 :: l9 :: l10 :: l11 :: l12 :: l13 :: l14 :: l15 :: l16 :: l17 :: l18 :: l19 :: l20 :: l21 :: l22 :: .val (.int x) :: L) (.int x :: S) k n H Q := W_s (rfl : (pj lw).1 100 860 = some (.iload 23, 2, 0)) rfl rfl rfl
theorem w100_862 {x : Int32} {l0 l1 : Slot} : W (pj lw) 100 862 (l0 :: l1 :: .val (.int x) :: L) S k n H Q ↔ W (pj lw) 100 863 (l0 :: l1 :: .val (.int x) :: L) (.int x :: S) k n H Q := W_s (rfl : (pj lw).1 100 862 = some (.iload_n 2, 1, 0)) rfl rfl rfl
theorem w100_863 {x y : Int32} : W (pj lw) 100 863 L (.int y :: .int x :: S) k n H Q ↔ (if y < x then W (pj lw) 100 866 L S k n H Q else W (pj lw) 100 881 L S k n H Q) := W_icmp_le (rfl : (pj lw).1 100 863 = some (.if_icmp .le 18, 3, 0)) rfl
theorem w100_869 {x : Int32} {l0 l1 l2 l3 l4 l5 l6 l7 l8 l9 l10 l11 l12 l13 l14 l15 l16 l17 l18 l19 l20 l21 : Slot} : W (pj lw) 100 869 (l0 :: l1 :: l2 :: l3 :: l4 :: l5 :: l6 :: l7 :: l8 :: l9 :: l10 :: l11 :: l12 :: l13 :: l14 :: l15 :: l16 :: l17 :: l18 :: l19 :: l20 :: l21 :: .val (.int x) :: L) S k n H Q ↔ W (pj lw) 100 871 (l0 :: l1 :: l2 :: l3 :: l4 :: l5 :: l6 :: l7 :: l8 :: l9 :: l10 :: l11 :: l12 :: l13 :: l14 :: l15 :: l16 :: l17 :: l18 :: l19 :: l20 :: l21 :: .val (.int x) :: L) (.int x :: S) k n H Q := W_s (rfl : (pj lw).1 100 869 = some (.iload 22, 2, 0)) rfl rfl rfl
theorem w100_871 {x : Int32} : W (pj lw) 100 871 L (.int x :: S) k n H Q ↔ (if x = 0 then W (pj lw) 100 874 L S k n H Q else W (pj lw) 100 879 L S k n H Q) := W_if_ne (rfl : (pj lw).1 100 871 = some (.ifCond .ne 8, 3, 0)) rfl
theorem w100_874 {x : Int32} {l0 l1 l2 l3 l4 l5 l6 l7 l8 l9 l10 l11 l12 l13 l14 l15 l16 l17 l18 l19 l20 l21 l22 : Slot} : W (pj lw) 100 874 (l0 :: l1 :: l2 :: l3 :: l4 :: l5 :: l6 :: l7 :: l8 :: l9 :: l10 :: l11 :: l12 :: l13 :: l14 :: l15 :: l16 :: l17 :: l18 :: l19 :: l20 :: l21 :: l22 :: .val (.int x) :: L) S k n H Q ↔ W (pj lw) 100 876 (l0 :: l1 :: l2 :: l3 :: l4 :: l5 :: l6 :: l7 :: l8 :: l9 :: l10 :: l11 :: l12 :: l13 :: l14 :: l15 :: l16 :: l17 :: l18 :: l19 :: l20 :: l21 :: l22 :: .val (.int x) :: L) (.int x :: S) k n H Q := W_s (rfl : (pj lw).1 100 874 = some (.iload 23, 2, 0)) rfl rfl rfl
theorem w100_876 {x : Int32} : W (pj lw) 100 876 L (.int x :: S) k n H Q ↔ (if x = 0 then W (pj lw) 100 881 L S k n H Q else W (pj lw) 100 879 L S k n H Q) := W_if_eq (rfl : (pj lw).1 100 876 = some (.ifCond .eq 5, 3, 0)) rfl
theorem w100_881 {x : Nat} {l0 l1 l2 l3 : Slot} : W (pj lw) 100 881 (l0 :: l1 :: l2 :: l3 :: .val (.ref x) :: L) S k n H Q ↔ W (pj lw) 100 883 (l0 :: l1 :: l2 :: l3 :: .val (.ref x) :: L) (.ref x :: S) k n H Q := W_s (rfl : (pj lw).1 100 881 = some (.aload 4, 2, 0)) rfl rfl rfl
theorem w100_883 {x : Int32} {l0 l1 l2 l3 l4 l5 l6 l7 l8 l9 l10 l11 l12 l13 l14 l15 l16 l17 l18 l19 : Slot} : W (pj lw) 100 883 (l0 :: l1 :: l2 :: l3 :: l4 :: l5 :: l6 :: l7 :: l8 :: l9 :: l10 :: l11 :: l12 :: l13 :: l14 :: l15 :: l16 :: l17 :: l18 :: l19 :: .val (.int x) :: L) S k n H Q ↔ W (pj lw) 100 885 (l0 :: l1 :: l2 :: l3 :: l4 :: l5 :: l6 :: l7 :: l8 :: l9 :: l10 :: l11 :: l12 :: l13 :: l14 :: l15 :: l16 :: l17 :: l18 :: l19 :: .val (.int x) :: L) (.int x :: S) k n H Q := W_s (rfl : (pj lw).1 100 883 = some (.iload 20, 2, 0)) rfl rfl rfl
theorem w100_885 : W (pj lw) 100 885 L S k n H Q ↔ W (pj lw) 100 886 L (.int 2 :: S) k n H Q := W_s (rfl : (pj lw).1 100 885 = some (.iconst 2, 1, 0)) rfl rfl rfl
theorem w100_886 {a : Nat} {x0 : Int32} {x1 : Int32} : W (pj lw) 100 886 L (.int x1 :: .int x0 :: .ref a :: S) k n H Q ↔ ((isO H a = true ∧ cs S + (3 + 11) + 13 ≤ 176) ∧ Cl (pj lw) 17 [.ref a, .int x0, .int x1] H (fun v H => W (pj lw) 100 889 L (v.toList ++ S) k n H Q)) := W_inst (as := [.int x0, .int x1]) (rfl : (pj lw).1 100 886 = some (.invokevirtual 47, 3, 17)) rfl rfl rfl (Nat.le_of_ble_eq_true rfl) (Nat.le_of_ble_eq_true rfl) ⟨rfl, rfl⟩
theorem w100_889 {x : Int32} : W (pj lw) 100 889 L (.int x :: S) k n H Q ↔ (if x = 0 then W (pj lw) 100 894 L S k n H Q else W (pj lw) 100 892 L S k n H Q) := W_if_eq (rfl : (pj lw).1 100 889 = some (.ifCond .eq 5, 3, 0)) rfl
theorem w100_894 {x : Nat} {l0 l1 l2 l3 : Slot} : W (pj lw) 100 894 (l0 :: l1 :: l2 :: l3 :: .val (.ref x) :: L) S k n H Q ↔ W (pj lw) 100 896 (l0 :: l1 :: l2 :: l3 :: .val (.ref x) :: L) (.ref x :: S) k n H Q := W_s (rfl : (pj lw).1 100 894 = some (.aload 4, 2, 0)) rfl rfl rfl
theorem w100_896 {x : Int32} {l0 l1 l2 l3 l4 l5 l6 l7 l8 l9 l10 l11 l12 l13 l14 l15 l16 l17 l18 l19 : Slot} : W (pj lw) 100 896 (l0 :: l1 :: l2 :: l3 :: l4 :: l5 :: l6 :: l7 :: l8 :: l9 :: l10 :: l11 :: l12 :: l13 :: l14 :: l15 :: l16 :: l17 :: l18 :: l19 :: .val (.int x) :: L) S k n H Q ↔ W (pj lw) 100 898 (l0 :: l1 :: l2 :: l3 :: l4 :: l5 :: l6 :: l7 :: l8 :: l9 :: l10 :: l11 :: l12 :: l13 :: l14 :: l15 :: l16 :: l17 :: l18 :: l19 :: .val (.int x) :: L) (.int x :: S) k n H Q := W_s (rfl : (pj lw).1 100 896 = some (.iload 20, 2, 0)) rfl rfl rfl
theorem w100_898 {a : Nat} {x0 : Int32} : W (pj lw) 100 898 L (.int x0 :: .ref a :: S) k n H Q ↔ ((isO H a = true ∧ cs S + (2 + 11) + 29 ≤ 176) ∧ Cl (pj lw) 33 [.ref a, .int x0] H (fun v H => W (pj lw) 100 901 L (v.toList ++ S) k n H Q)) := W_inst (as := [.int x0]) (rfl : (pj lw).1 100 898 = some (.invokevirtual 54, 3, 33)) rfl rfl rfl (Nat.le_of_ble_eq_true rfl) (Nat.le_of_ble_eq_true rfl) ⟨rfl, rfl⟩
theorem w100_901 {x : Int32} {l0 l1 l2 l3 l4 l5 l6 l7 l8 l9 l10 l11 l12 l13 l14 l15 l16 l17 l18 l19 l20 l21 l22 l23 : Slot} : W (pj lw) 100 901 (l0 :: l1 :: l2 :: l3 :: l4 :: l5 :: l6 :: l7 :: l8 :: l9 :: l10 :: l11 :: l12 :: l13 :: l14 :: l15 :: l16 :: l17 :: l18 :: l19 :: l20 :: l21 :: l22 :: l23 :: .unset :: L) (.int x :: S) k n H Q ↔ W (pj lw) 100 903 (l0 :: l1 :: l2 :: l3 :: l4 :: l5 :: l6 :: l7 :: l8 :: l9 :: l10 :: l11 :: l12 :: l13 :: l14 :: l15 :: l16 :: l17 :: l18 :: l19 :: l20 :: l21 :: l22 :: l23 :: .val (.int x) :: L) S k n H Q := W_ist (rfl : (pj lw).1 100 901 = some (.istore 24, 2, 0)) rfl rfl
theorem w100_903 {x : Int32} {l0 l1 l2 l3 l4 l5 l6 l7 l8 l9 l10 l11 l12 l13 l14 l15 l16 l17 l18 l19 l20 l21 l22 l23 : Slot} : W (pj lw) 100 903 (l0 :: l1 :: l2 :: l3 :: l4 :: l5 :: l6 :: l7 :: l8 :: l9 :: l10 :: l11 :: l12 :: l13 :: l14 :: l15 :: l16 :: l17 :: l18 :: l19 :: l20 :: l21 :: l22 :: l23 :: .val (.int x) :: L) S k n H Q ↔ W (pj lw) 100 905 (l0 :: l1 :: l2 :: l3 :: l4 :: l5 :: l6 :: l7 :: l8 :: l9 :: l10 :: l11 :: l12 :: l13 :: l14 :: l15 :: l16 :: l17 :: l18 :: l19 :: l20 :: l21 :: l22 :: l23 :: .val (.int x) :: L) (.int x :: S) k n H Q := W_s (rfl : (pj lw).1 100 903 = some (.iload 24, 2, 0)) rfl rfl rfl
theorem w100_905 {x : Int32} : W (pj lw) 100 905 L (.int x :: S) k n H Q ↔ (if x = 0 then W (pj lw) 100 924 L S k n H Q else W (pj lw) 100 908 L S k n H Q) := W_if_eq (rfl : (pj lw).1 100 905 = some (.ifCond .eq 19, 3, 0)) rfl
theorem w100_908 {x : Int32} {l0 l1 l2 l3 l4 l5 l6 : Slot} : W (pj lw) 100 908 (l0 :: l1 :: l2 :: l3 :: l4 :: l5 :: l6 :: .val (.int x) :: L) S k n H Q ↔ W (pj lw) 100 910 (l0 :: l1 :: l2 :: l3 :: l4 :: l5 :: l6 :: .val (.int x) :: L) (.int x :: S) k n H Q := W_s (rfl : (pj lw).1 100 908 = some (.iload 7, 2, 0)) rfl rfl rfl
theorem w100_910 {x : Int32} {l0 l1 l2 l3 l4 l5 l6 l7 l8 l9 l10 l11 l12 l13 l14 l15 l16 l17 l18 l19 l20 : Slot} : W (pj lw) 100 910 (l0 :: l1 :: l2 :: l3 :: l4 :: l5 :: l6 :: l7 :: l8 :: l9 :: l10 :: l11 :: l12 :: l13 :: l14 :: l15 :: l16 :: l17 :: l18 :: l19 :: l20 :: .val (.int x) :: L) S k n H Q ↔ W (pj lw) 100 912 (l0 :: l1 :: l2 :: l3 :: l4 :: l5 :: l6 :: l7 :: l8 :: l9 :: l10 :: l11 :: l12 :: l13 :: l14 :: l15 :: l16 :: l17 :: l18 :: l19 :: l20 :: .val (.int x) :: L) (.int x :: S) k n H Q := W_s (rfl : (pj lw).1 100 910 = some (.iload 21, 2, 0)) rfl rfl rfl
theorem w100_912 {x y : Int32} : W (pj lw) 100 912 L (.int y :: .int x :: S) k n H Q ↔ W (pj lw) 100 913 L (.int (x &&& y) :: S) k n H Q := W_s (rfl : (pj lw).1 100 912 = some (.iand, 1, 0)) rfl rfl rfl
theorem w100_913 {x : Int32} : W (pj lw) 100 913 L (.int x :: S) k n H Q ↔ (if x = 0 then W (pj lw) 100 916 L S k n H Q else W (pj lw) 100 922 L S k n H Q) := W_if_ne (rfl : (pj lw).1 100 913 = some (.ifCond .ne 9, 3, 0)) rfl
theorem w100_916 {x : Int32} {l0 l1 l2 l3 l4 l5 l6 l7 l8 l9 l10 l11 l12 l13 l14 l15 l16 l17 l18 l19 l20 l21 l22 l23 : Slot} : W (pj lw) 100 916 (l0 :: l1 :: l2 :: l3 :: l4 :: l5 :: l6 :: l7 :: l8 :: l9 :: l10 :: l11 :: l12 :: l13 :: l14 :: l15 :: l16 :: l17 :: l18 :: l19 :: l20 :: l21 :: l22 :: l23 :: .val (.int x) :: L) S k n H Q ↔ W (pj lw) 100 918 (l0 :: l1 :: l2 :: l3 :: l4 :: l5 :: l6 :: l7 :: l8 :: l9 :: l10 :: l11 :: l12 :: l13 :: l14 :: l15 :: l16 :: l17 :: l18 :: l19 :: l20 :: l21 :: l22 :: l23 :: .val (.int x) :: L) (.int x :: S) k n H Q := W_s (rfl : (pj lw).1 100 916 = some (.iload 24, 2, 0)) rfl rfl rfl
theorem w100_918 : W (pj lw) 100 918 L S k n H Q ↔ W (pj lw) 100 919 L (.int 3 :: S) k n H Q := W_s (rfl : (pj lw).1 100 918 = some (.iconst 3, 1, 0)) rfl rfl rfl
theorem w100_919 {x y : Int32} : W (pj lw) 100 919 L (.int y :: .int x :: S) k n H Q ↔ (if x < y then W (pj lw) 100 922 L S k n H Q else W (pj lw) 100 924 L S k n H Q) := W_icmp_ge (rfl : (pj lw).1 100 919 = some (.if_icmp .ge 5, 3, 0)) rfl
theorem w100_924 {x : Nat} {l0 l1 l2 l3 : Slot} : W (pj lw) 100 924 (l0 :: l1 :: l2 :: l3 :: .val (.ref x) :: L) S k n H Q ↔ W (pj lw) 100 926 (l0 :: l1 :: l2 :: l3 :: .val (.ref x) :: L) (.ref x :: S) k n H Q := W_s (rfl : (pj lw).1 100 924 = some (.aload 4, 2, 0)) rfl rfl rfl
theorem w100_926 {x : Int32} {l0 l1 l2 l3 l4 l5 l6 l7 l8 l9 l10 l11 l12 l13 l14 l15 l16 l17 l18 l19 : Slot} : W (pj lw) 100 926 (l0 :: l1 :: l2 :: l3 :: l4 :: l5 :: l6 :: l7 :: l8 :: l9 :: l10 :: l11 :: l12 :: l13 :: l14 :: l15 :: l16 :: l17 :: l18 :: l19 :: .val (.int x) :: L) S k n H Q ↔ W (pj lw) 100 928 (l0 :: l1 :: l2 :: l3 :: l4 :: l5 :: l6 :: l7 :: l8 :: l9 :: l10 :: l11 :: l12 :: l13 :: l14 :: l15 :: l16 :: l17 :: l18 :: l19 :: .val (.int x) :: L) (.int x :: S) k n H Q := W_s (rfl : (pj lw).1 100 926 = some (.iload 20, 2, 0)) rfl rfl rfl
theorem w100_928 {a : Nat} {x0 : Int32} : W (pj lw) 100 928 L (.int x0 :: .ref a :: S) k n H Q ↔ ((isO H a = true ∧ cs S + (5 + 11) + 13 ≤ 176) ∧ Cl (pj lw) 31 [.ref a, .int x0] H (fun v H => W (pj lw) 100 931 L (v.toList ++ S) k n H Q)) := W_inst (as := [.int x0]) (rfl : (pj lw).1 100 928 = some (.invokevirtual 44, 3, 31)) rfl rfl rfl (Nat.le_of_ble_eq_true rfl) (Nat.le_of_ble_eq_true rfl) ⟨rfl, rfl⟩
theorem w100_931 {x : Int32} {l0 l1 l2 l3 l4 l5 l6 l7 l8 l9 l10 l11 l12 l13 l14 l15 l16 l17 l18 l19 l20 l21 l22 l23 l24 : Slot} : W (pj lw) 100 931 (l0 :: l1 :: l2 :: l3 :: l4 :: l5 :: l6 :: l7 :: l8 :: l9 :: l10 :: l11 :: l12 :: l13 :: l14 :: l15 :: l16 :: l17 :: l18 :: l19 :: l20 :: l21 :: l22 :: l23 :: l24 :: .unset :: L) (.int x :: S) k n H Q ↔ W (pj lw) 100 933 (l0 :: l1 :: l2 :: l3 :: l4 :: l5 :: l6 :: l7 :: l8 :: l9 :: l10 :: l11 :: l12 :: l13 :: l14 :: l15 :: l16 :: l17 :: l18 :: l19 :: l20 :: l21 :: l22 :: l23 :: l24 :: .val (.int x) :: L) S k n H Q := W_ist (rfl : (pj lw).1 100 931 = some (.istore 25, 2, 0)) rfl rfl
theorem w100_933 {x : Int32} {l0 l1 l2 l3 l4 l5 l6 l7 l8 : Slot} : W (pj lw) 100 933 (l0 :: l1 :: l2 :: l3 :: l4 :: l5 :: l6 :: l7 :: l8 :: .val (.int x) :: L) S k n H Q ↔ W (pj lw) 100 935 (l0 :: l1 :: l2 :: l3 :: l4 :: l5 :: l6 :: l7 :: l8 :: .val (.int x) :: L) (.int x :: S) k n H Q := W_s (rfl : (pj lw).1 100 933 = some (.iload 9, 2, 0)) rfl rfl rfl
theorem w100_935 {x : Int32} : W (pj lw) 100 935 L (.int x :: S) k n H Q ↔ (if x = 0 then W (pj lw) 100 938 L S k n H Q else W (pj lw) 100 947 L S k n H Q) := W_if_ne (rfl : (pj lw).1 100 935 = some (.ifCond .ne 12, 3, 0)) rfl
theorem w100_938 {x : Int32} {l0 l1 l2 l3 l4 l5 l6 l7 l8 l9 l10 l11 l12 l13 l14 l15 l16 l17 l18 l19 l20 l21 l22 l23 l24 : Slot} : W (pj lw) 100 938 (l0 :: l1 :: l2 :: l3 :: l4 :: l5 :: l6 :: l7 :: l8 :: l9 :: l10 :: l11 :: l12 :: l13 :: l14 :: l15 :: l16 :: l17 :: l18 :: l19 :: l20 :: l21 :: l22 :: l23 :: l24 :: .val (.int x) :: L) S k n H Q ↔ W (pj lw) 100 940 (l0 :: l1 :: l2 :: l3 :: l4 :: l5 :: l6 :: l7 :: l8 :: l9 :: l10 :: l11 :: l12 :: l13 :: l14 :: l15 :: l16 :: l17 :: l18 :: l19 :: l20 :: l21 :: l22 :: l23 :: l24 :: .val (.int x) :: L) (.int x :: S) k n H Q := W_s (rfl : (pj lw).1 100 938 = some (.iload 25, 2, 0)) rfl rfl rfl
theorem w100_940 : W (pj lw) 100 940 L S k n H Q ↔ W (pj lw) 100 941 L (.int (-1) :: S) k n H Q := W_s (rfl : (pj lw).1 100 940 = some (.iconst (-1), 1, 0)) rfl rfl rfl
theorem w100_941 {x y : Int32} : W (pj lw) 100 941 L (.int y :: .int x :: S) k n H Q ↔ (if x = y then W (pj lw) 100 960 L S k n H Q else W (pj lw) 100 944 L S k n H Q) := W_icmp_eq (rfl : (pj lw).1 100 941 = some (.if_icmp .eq 19, 3, 0)) rfl
theorem w100_947 {x : Int32} {l0 l1 l2 l3 l4 l5 l6 l7 l8 l9 l10 l11 l12 l13 l14 l15 l16 l17 l18 l19 l20 l21 l22 l23 l24 : Slot} : W (pj lw) 100 947 (l0 :: l1 :: l2 :: l3 :: l4 :: l5 :: l6 :: l7 :: l8 :: l9 :: l10 :: l11 :: l12 :: l13 :: l14 :: l15 :: l16 :: l17 :: l18 :: l19 :: l20 :: l21 :: l22 :: l23 :: l24 :: .val (.int x) :: L) S k n H Q ↔ W (pj lw) 100 949 (l0 :: l1 :: l2 :: l3 :: l4 :: l5 :: l6 :: l7 :: l8 :: l9 :: l10 :: l11 :: l12 :: l13 :: l14 :: l15 :: l16 :: l17 :: l18 :: l19 :: l20 :: l21 :: l22 :: l23 :: l24 :: .val (.int x) :: L) (.int x :: S) k n H Q := W_s (rfl : (pj lw).1 100 947 = some (.iload 25, 2, 0)) rfl rfl rfl
theorem w100_949 {x : Int32} : W (pj lw) 100 949 L (.int x :: S) k n H Q ↔ (if x < 0 then W (pj lw) 100 958 L S k n H Q else W (pj lw) 100 952 L S k n H Q) := W_if_lt (rfl : (pj lw).1 100 949 = some (.ifCond .lt 9, 3, 0)) rfl
theorem w100_952 {x : Int32} {l0 l1 l2 l3 l4 l5 l6 l7 l8 l9 l10 l11 l12 l13 l14 l15 l16 l17 l18 l19 l20 l21 l22 l23 l24 : Slot} : W (pj lw) 100 952 (l0 :: l1 :: l2 :: l3 :: l4 :: l5 :: l6 :: l7 :: l8 :: l9 :: l10 :: l11 :: l12 :: l13 :: l14 :: l15 :: l16 :: l17 :: l18 :: l19 :: l20 :: l21 :: l22 :: l23 :: l24 :: .val (.int x) :: L) S k n H Q ↔ W (pj lw) 100 954 (l0 :: l1 :: l2 :: l3 :: l4 :: l5 :: l6 :: l7 :: l8 :: l9 :: l10 :: l11 :: l12 :: l13 :: l14 :: l15 :: l16 :: l17 :: l18 :: l19 :: l20 :: l21 :: l22 :: l23 :: l24 :: .val (.int x) :: L) (.int x :: S) k n H Q := W_s (rfl : (pj lw).1 100 952 = some (.iload 25, 2, 0)) rfl rfl rfl
theorem w100_954 {x : Int32} {l0 l1 l2 : Slot} : W (pj lw) 100 954 (l0 :: l1 :: l2 :: .val (.int x) :: L) S k n H Q ↔ W (pj lw) 100 955 (l0 :: l1 :: l2 :: .val (.int x) :: L) (.int x :: S) k n H Q := W_s (rfl : (pj lw).1 100 954 = some (.iload_n 3, 1, 0)) rfl rfl rfl
theorem w100_955 {x y : Int32} : W (pj lw) 100 955 L (.int y :: .int x :: S) k n H Q ↔ (if y < x then W (pj lw) 100 958 L S k n H Q else W (pj lw) 100 960 L S k n H Q) := W_icmp_le (rfl : (pj lw).1 100 955 = some (.if_icmp .le 5, 3, 0)) rfl
theorem w100_960 {x : Int32} {l0 l1 l2 l3 l4 l5 l6 l7 : Slot} : W (pj lw) 100 960 (l0 :: l1 :: l2 :: l3 :: l4 :: l5 :: l6 :: l7 :: .val (.int x) :: L) S k n H Q ↔ W (pj lw) 100 962 (l0 :: l1 :: l2 :: l3 :: l4 :: l5 :: l6 :: l7 :: .val (.int x) :: L) (.int x :: S) k n H Q := W_s (rfl : (pj lw).1 100 960 = some (.iload 8, 2, 0)) rfl rfl rfl
theorem w100_962 {x : Int32} {l0 l1 l2 l3 l4 l5 l6 l7 l8 l9 l10 l11 l12 l13 l14 l15 l16 l17 l18 l19 l20 : Slot} : W (pj lw) 100 962 (l0 :: l1 :: l2 :: l3 :: l4 :: l5 :: l6 :: l7 :: l8 :: l9 :: l10 :: l11 :: l12 :: l13 :: l14 :: l15 :: l16 :: l17 :: l18 :: l19 :: l20 :: .val (.int x) :: L) S k n H Q ↔ W (pj lw) 100 964 (l0 :: l1 :: l2 :: l3 :: l4 :: l5 :: l6 :: l7 :: l8 :: l9 :: l10 :: l11 :: l12 :: l13 :: l14 :: l15 :: l16 :: l17 :: l18 :: l19 :: l20 :: .val (.int x) :: L) (.int x :: S) k n H Q := W_s (rfl : (pj lw).1 100 962 = some (.iload 21, 2, 0)) rfl rfl rfl
theorem w100_964 {x y : Int32} : W (pj lw) 100 964 L (.int y :: .int x :: S) k n H Q ↔ W (pj lw) 100 965 L (.int (x &&& y) :: S) k n H Q := W_s (rfl : (pj lw).1 100 964 = some (.iand, 1, 0)) rfl rfl rfl
theorem w100_965 {x : Int32} : W (pj lw) 100 965 L (.int x :: S) k n H Q ↔ (if x = 0 then W (pj lw) 100 976 L S k n H Q else W (pj lw) 100 968 L S k n H Q) := W_if_eq (rfl : (pj lw).1 100 965 = some (.ifCond .eq 11, 3, 0)) rfl
theorem w100_968 {x : Int32} {l0 l1 l2 l3 l4 l5 l6 l7 l8 l9 l10 l11 l12 l13 l14 l15 l16 l17 l18 l19 l20 l21 l22 l23 l24 : Slot} : W (pj lw) 100 968 (l0 :: l1 :: l2 :: l3 :: l4 :: l5 :: l6 :: l7 :: l8 :: l9 :: l10 :: l11 :: l12 :: l13 :: l14 :: l15 :: l16 :: l17 :: l18 :: l19 :: l20 :: l21 :: l22 :: l23 :: l24 :: .val (.int x) :: L) S k n H Q ↔ W (pj lw) 100 970 (l0 :: l1 :: l2 :: l3 :: l4 :: l5 :: l6 :: l7 :: l8 :: l9 :: l10 :: l11 :: l12 :: l13 :: l14 :: l15 :: l16 :: l17 :: l18 :: l19 :: l20 :: l21 :: l22 :: l23 :: l24 :: .val (.int x) :: L) (.int x :: S) k n H Q := W_s (rfl : (pj lw).1 100 968 = some (.iload 25, 2, 0)) rfl rfl rfl
theorem w100_970 : W (pj lw) 100 970 L S k n H Q ↔ W (pj lw) 100 971 L (.int 1 :: S) k n H Q := W_s (rfl : (pj lw).1 100 970 = some (.iconst 1, 1, 0)) rfl rfl rfl
theorem w100_971 {x y : Int32} : W (pj lw) 100 971 L (.int y :: .int x :: S) k n H Q ↔ (if y < x then W (pj lw) 100 974 L S k n H Q else W (pj lw) 100 976 L S k n H Q) := W_icmp_le (rfl : (pj lw).1 100 971 = some (.if_icmp .le 5, 3, 0)) rfl
theorem w100_976 {x : Int32} {l0 l1 l2 l3 l4 l5 l6 l7 l8 l9 l10 l11 l12 l13 l14 l15 l16 l17 l18 l19 l20 l21 l22 l23 l24 : Slot} : W (pj lw) 100 976 (l0 :: l1 :: l2 :: l3 :: l4 :: l5 :: l6 :: l7 :: l8 :: l9 :: l10 :: l11 :: l12 :: l13 :: l14 :: l15 :: l16 :: l17 :: l18 :: l19 :: l20 :: l21 :: l22 :: l23 :: l24 :: .val (.int x) :: L) S k n H Q ↔ W (pj lw) 100 978 (l0 :: l1 :: l2 :: l3 :: l4 :: l5 :: l6 :: l7 :: l8 :: l9 :: l10 :: l11 :: l12 :: l13 :: l14 :: l15 :: l16 :: l17 :: l18 :: l19 :: l20 :: l21 :: l22 :: l23 :: l24 :: .val (.int x) :: L) (.int x :: S) k n H Q := W_s (rfl : (pj lw).1 100 976 = some (.iload 25, 2, 0)) rfl rfl rfl
theorem w100_978 {x : Int32} : W (pj lw) 100 978 L (.int x :: S) k n H Q ↔ (if x = 0 then W (pj lw) 100 981 L S k n H Q else W (pj lw) 100 984 L S k n H Q) := W_if_ne (rfl : (pj lw).1 100 978 = some (.ifCond .ne 6, 3, 0)) rfl
theorem w100_981 {x : Int32} {l0 l1 l2 l3 l4 l5 l6 l7 l8 l9 l10 l11 l12 l13 l14 l15 l16 l17 l18 : Slot} : W (pj lw) 100 981 (l0 :: l1 :: l2 :: l3 :: l4 :: l5 :: l6 :: l7 :: l8 :: l9 :: l10 :: l11 :: l12 :: l13 :: l14 :: l15 :: l16 :: l17 :: l18 :: .val (.int x) :: L) S k n H Q ↔ W (pj lw) 100 984 (l0 :: l1 :: l2 :: l3 :: l4 :: l5 :: l6 :: l7 :: l8 :: l9 :: l10 :: l11 :: l12 :: l13 :: l14 :: l15 :: l16 :: l17 :: l18 :: .val (.int (x + 1)) :: L) S k n H Q := W_s (rfl : (pj lw).1 100 981 = some (.iinc 19 1, 3, 0)) rfl rfl rfl
theorem w100_984 {x : Int32} {l0 l1 l2 l3 l4 l5 l6 l7 l8 l9 l10 l11 l12 l13 l14 l15 l16 l17 l18 l19 : Slot} : W (pj lw) 100 984 (l0 :: l1 :: l2 :: l3 :: l4 :: l5 :: l6 :: l7 :: l8 :: l9 :: l10 :: l11 :: l12 :: l13 :: l14 :: l15 :: l16 :: l17 :: l18 :: l19 :: .val (.int x) :: L) S k n H Q ↔ W (pj lw) 100 987 (l0 :: l1 :: l2 :: l3 :: l4 :: l5 :: l6 :: l7 :: l8 :: l9 :: l10 :: l11 :: l12 :: l13 :: l14 :: l15 :: l16 :: l17 :: l18 :: l19 :: .val (.int (x + 1)) :: L) S k n H Q := W_s (rfl : (pj lw).1 100 984 = some (.iinc 20 1, 3, 0)) rfl rfl rfl
theorem w100_987 : W (pj lw) 100 987 L S k n H Q ↔ W (pj lw) 100 802 L S k n H Q := W_goto (rfl : (pj lw).1 100 987 = some (.goto (-185), 3, 0)) rfl
theorem w100_990 {x : Int32} {l0 l1 l2 l3 l4 l5 l6 l7 l8 : Slot} : W (pj lw) 100 990 (l0 :: l1 :: l2 :: l3 :: l4 :: l5 :: l6 :: l7 :: l8 :: .val (.int x) :: L) S k n H Q ↔ W (pj lw) 100 992 (l0 :: l1 :: l2 :: l3 :: l4 :: l5 :: l6 :: l7 :: l8 :: .val (.int x) :: L) (.int x :: S) k n H Q := W_s (rfl : (pj lw).1 100 990 = some (.iload 9, 2, 0)) rfl rfl rfl
theorem w100_992 : W (pj lw) 100 992 L S k n H Q ↔ W (pj lw) 100 993 L (.int 2 :: S) k n H Q := W_s (rfl : (pj lw).1 100 992 = some (.iconst 2, 1, 0)) rfl rfl rfl
theorem w100_993 {x y : Int32} : W (pj lw) 100 993 L (.int y :: .int x :: S) k n H Q ↔ (if x = y then W (pj lw) 100 996 L S k n H Q else W (pj lw) 100 1000 L S k n H Q) := W_icmp_ne (rfl : (pj lw).1 100 993 = some (.if_icmp .ne 7, 3, 0)) rfl
theorem w100_996 : W (pj lw) 100 996 L S k n H Q ↔ W (pj lw) 100 997 L (.int 1 :: S) k n H Q := W_s (rfl : (pj lw).1 100 996 = some (.iconst 1, 1, 0)) rfl rfl rfl
theorem w100_997 : W (pj lw) 100 997 L S k n H Q ↔ W (pj lw) 100 1001 L S k n H Q := W_goto (rfl : (pj lw).1 100 997 = some (.goto 4, 3, 0)) rfl
theorem w100_1000 : W (pj lw) 100 1000 L S k n H Q ↔ W (pj lw) 100 1001 L (.int 0 :: S) k n H Q := W_s (rfl : (pj lw).1 100 1000 = some (.iconst 0, 1, 0)) rfl rfl rfl
theorem w100_1001 {x : Int32} {l0 l1 l2 l3 l4 l5 l6 l7 l8 l9 l10 l11 l12 l13 l14 l15 l16 l17 l18 : Slot} : W (pj lw) 100 1001 (l0 :: l1 :: l2 :: l3 :: l4 :: l5 :: l6 :: l7 :: l8 :: l9 :: l10 :: l11 :: l12 :: l13 :: l14 :: l15 :: l16 :: l17 :: l18 :: .val (.int x) :: L) S k n H Q ↔ W (pj lw) 100 1003 (l0 :: l1 :: l2 :: l3 :: l4 :: l5 :: l6 :: l7 :: l8 :: l9 :: l10 :: l11 :: l12 :: l13 :: l14 :: l15 :: l16 :: l17 :: l18 :: .val (.int x) :: L) (.int x :: S) k n H Q := W_s (rfl : (pj lw).1 100 1001 = some (.iload 19, 2, 0)) rfl rfl rfl
theorem w100_1003 {x : Int32} : W (pj lw) 100 1003 L (.int x :: S) k n H Q ↔ (if 0 < x then W (pj lw) 100 1006 L S k n H Q else W (pj lw) 100 1010 L S k n H Q) := W_if_le (rfl : (pj lw).1 100 1003 = some (.ifCond .le 7, 3, 0)) rfl
theorem w100_1006 : W (pj lw) 100 1006 L S k n H Q ↔ W (pj lw) 100 1007 L (.int 1 :: S) k n H Q := W_s (rfl : (pj lw).1 100 1006 = some (.iconst 1, 1, 0)) rfl rfl rfl
theorem w100_1007 : W (pj lw) 100 1007 L S k n H Q ↔ W (pj lw) 100 1011 L S k n H Q := W_goto (rfl : (pj lw).1 100 1007 = some (.goto 4, 3, 0)) rfl
theorem w100_1010 : W (pj lw) 100 1010 L S k n H Q ↔ W (pj lw) 100 1011 L (.int 0 :: S) k n H Q := W_s (rfl : (pj lw).1 100 1010 = some (.iconst 0, 1, 0)) rfl rfl rfl
theorem w100_1011 {x y : Int32} : W (pj lw) 100 1011 L (.int y :: .int x :: S) k n H Q ↔ (if x = y then W (pj lw) 100 1016 L S k n H Q else W (pj lw) 100 1014 L S k n H Q) := W_icmp_eq (rfl : (pj lw).1 100 1011 = some (.if_icmp .eq 5, 3, 0)) rfl
theorem w100_1016 {x : Int32} {l0 l1 l2 l3 l4 l5 l6 l7 l8 l9 l10 : Slot} : W (pj lw) 100 1016 (l0 :: l1 :: l2 :: l3 :: l4 :: l5 :: l6 :: l7 :: l8 :: l9 :: l10 :: .val (.int x) :: L) S k n H Q ↔ W (pj lw) 100 1019 (l0 :: l1 :: l2 :: l3 :: l4 :: l5 :: l6 :: l7 :: l8 :: l9 :: l10 :: .val (.int (x + 4)) :: L) S k n H Q := W_s (rfl : (pj lw).1 100 1016 = some (.iinc 11 4, 3, 0)) rfl rfl rfl
theorem w100_1019 : W (pj lw) 100 1019 L S k n H Q ↔ W (pj lw) 100 75 L S k n H Q := W_goto (rfl : (pj lw).1 100 1019 = some (.goto (-944), 3, 0)) rfl
theorem w100_1022 : W (pj lw) 100 1022 L S k n H Q ↔ W (pj lw) 100 1023 L (.int 1 :: S) k n H Q := W_s (rfl : (pj lw).1 100 1022 = some (.iconst 1, 1, 0)) rfl rfl rfl
theorem w100_1023 {x : Int32} : W (pj lw) 100 1023 L (.int x :: S) k n H Q ↔ ((x = 0 ∨ x = 1) ∧ Q (some (.int x)) H) := W_rz (rfl : (pj lw).1 100 1023 = some (.ireturn, 1, 0)) rfl
end LPc
section X8
variable {H : AH} {p : Nat} {s s' : St} {Q : Option Value → AH → Prop} {k n : Nat} {x y z w A : Int32} {mm fo oo al t : Int32} {a : Nat}
theorem bt_1' {q : Int32} {h : Nat} (hq : 0 ≤ q.toInt ∧ q.toInt < 32) (hh : h < 32) : bt (1 <<< (q &&& 31)) h = decide (h = q.toNatClampNeg) := by
  have := bt_1 (g := q.toNatClampNeg) (h := h) (by rw [cln]; omega) hh
  rw [ofn (by omega)] at this; exact this
theorem bt_ext {x : Int32} (h : ∀ g, g < 32 → bt x g = false) : x = 0 := by
  rw [← Int32.toBitVec_inj]
  apply BitVec.eq_of_getLsbD_eq
  intro i hi
  rw [← btb hi, h i hi]; simp
theorem and_1 {v q : Int32} (hq : 0 ≤ q.toInt ∧ q.toInt < 32) : v &&& 1 <<< (q &&& 31) = 0 ↔ bt v q.toNatClampNeg = false := by
  have hq' : q.toNatClampNeg < 32 := by rw [cln]; omega
  constructor
  · intro h
    have := bt_and (x := v) (y := 1 <<< (q &&& 31)) hq'
    rw [h, bt_0 hq', bt_1' hq hq', decide_eq_true rfl, Bool.and_true] at this
    exact this.symm
  · intro h
    refine bt_ext fun g hg => ?_
    rw [bt_and hg, bt_1' hq hg]
    by_cases e : g = q.toNatClampNeg
    · rw [e, h]; rfl
    · rw [decide_eq_false e, Bool.and_false]
theorem shr_1 {v q : Int32} (hq : 0 ≤ q.toInt ∧ q.toInt < 32) : (v >>> (q &&& 31)) &&& 1 = 0 ↔ bt v q.toNatClampNeg = false := by
  rw [bt_i (by omega)]
  constructor
  · intro h; exact decide_eq_false fun g => g h
  · intro h; exact Decidable.byContradiction fun g => by rw [decide_eq_true g] at h; cases h
theorem bt_not {v : Int32} {g : Nat} (hg : g < 32) : bt (v ^^^ -1) g = !bt v g := by
  rw [btb hg, btb hg, Int32.toBitVec_xor, BitVec.getLsbD_xor]
  have : ((-1 : Int32).toBitVec).getLsbD g = true := by
    have key : ∀ j : Fin 32, ((-1 : Int32).toBitVec).getLsbD j.val = true := by decide +kernel
    exact key ⟨g, hg⟩
  rw [this]; simp
def Eo (s : St) (A : Int32) : Prop := (sI s 14 = 1 ∨ sI s 14 = 2) ∧ (∀ i, 1 ≤ i → i ≤ nN s → (∀ g, 10 ≤ g → g < 32 → bt (sA s 7 i) g = false) ∧ (cnt (bt (sA s 7 i)) 0 10 : Int) ≤ (gcn A).toInt ∧ (0 ≤ (sA s 4 i).toInt → cnt (bt (sA s 7 i)) 0 10 ≤ 1)) ∧ (sI s 14 = 2 ↔ ∃ i, 1 ≤ i ∧ i ≤ nN s ∧ sA s 7 i = 0) ∧ (sI s 14 = 1 → sI s 15 = 0) ∧ (sI s 15 = 0 ∨ ∃ h, 1 ≤ h ∧ h ≤ nN s ∧ sI s 15 = Int32.ofNat h ∧ fam (dt s) h = true)
def Ce (s : St) (A : Int32) : Prop := sI s 13 = 0 ∨ (sI s 13 = 1 ∧ Eo s A)
def Bi (s : St) (mm fo oo : Int32) : Prop := (∀ i, 1 ≤ i → i ≤ nN s → (sA s 1 i = 1 ∨ sA s 1 i = 2) ∧ bt mm (i - 1) = decide (sA s 1 i = 1) ∧ bt fo (i - 1) = decide (sA s 2 i = 0) ∧ bt oo (i - 1) = decide (0 ≤ (sA s 4 i).toInt)) ∧ ∀ g, nN s ≤ g → g < 32 → bt mm g = false ∧ bt fo g = false ∧ bt oo g = false
def I8 (s : St) (A mm fo oo : Int32) : Prop := Iv s A ∧ Ce s A ∧ Bi s mm fo oo
theorem Eo_of (h : Eo s A) (hI : ∀ x, x = 1 ∨ x = 4 ∨ x = 14 ∨ x = 15 → sI s' x = sI s x) (hA : ∀ t, t = 2 ∨ t = 3 ∨ t = 4 ∨ t = 7 ∨ t = 11 → sA s' t = sA s t) : Eo s' A := by
  have hn : nN s' = nN s := by unfold nN; rw [hI 4 (by simp)]
  have hd : dt s' = dt s := by unfold dt gN; rw [hn, hI 1 (by simp), hA 2 (by simp), hA 3 (by simp), hA 11 (by simp)]
  unfold Eo; rw [hn, hd, hI 14 (by simp), hI 15 (by simp), hA 7 (by simp), hA 4 (by simp)]; exact h
theorem Ce_of (h : Ce s A) (hI : ∀ x, x = 1 ∨ x = 4 ∨ x = 13 ∨ x = 14 ∨ x = 15 → sI s' x = sI s x) (hA : ∀ t, t = 2 ∨ t = 3 ∨ t = 4 ∨ t = 7 ∨ t = 11 → sA s' t = sA s t) : Ce s' A := by
  unfold Ce; rw [hI 13 (by simp)]
  exact h.imp id fun q => ⟨q.1, Eo_of q.2 (fun x hx => hI x (by omega)) hA⟩
theorem Bi_of (h : Bi s mm fo oo) (h4 : sI s' 4 = sI s 4) (hA : ∀ t, t = 1 ∨ t = 2 ∨ t = 4 → sA s' t = sA s t) : Bi s' mm fo oo := by
  have hn : nN s' = nN s := by unfold nN; rw [h4]
  unfold Bi; rw [hn, hA 1 (by simp), hA 2 (by simp), hA 4 (by simp)]; exact h
def Sx (s z : St) : Prop := Sr s z ∧ sA z 7 = sA s 7
theorem Sx.arr {z : St} (h : Sx s z) {t : Nat} (h1 : t ≠ 12) (h2 : t ≠ 13) : sA z t = sA s t := by
  by_cases e : t = 7
  · subst e; exact h.2
  · exact h.1.2.2.1 t e h1 h2
theorem Sx.trans {z v : St} (h : Sx s z) (g : Sx z v) : Sx s v := ⟨h.1.trans g.1, g.2.trans h.2⟩
theorem I8_sx {z : St} (h : I8 s A mm fo oo) (hz : Sx s z) : I8 z A mm fo oo :=
  ⟨Iv_sr h.1 hz.1, Ce_of h.2.1 (fun x hx => hz.1.1 x (by omega)) (fun t ht => hz.arr (by omega) (by omega)), Bi_of h.2.2 (hz.1.1 4 (by decide)) fun t ht => hz.arr (by omega) (by omega)⟩
theorem sta_sx {z : St} (hz : Sx s z) : sta z = sta s ∧ cfl z = cfl s ∧ sI z 12 = sI s 12 ∧ sI z 4 = sI s 4 ∧ (∀ i w, dal z i w = dal s i w) ∧ ∀ i, cct z i = cct s i := by
  have e := hz.1.1
  have e5 : sA z 5 = sA s 5 := hz.arr (by decide) (by decide)
  have e6 : sA z 6 = sA s 6 := hz.arr (by decide) (by decide)
  have ev : ∀ i, vid z i = vid s i := fun i => by unfold vid; rw [e 4 (by decide)]
  refine ⟨by unfold sta; rw [e 13 (by decide), e 14 (by decide)], by unfold cfl; rw [e 13 (by decide), e 15 (by decide)], e 12 (by decide), e 4 (by decide), fun i w => ?_, fun i => ?_⟩
  · unfold dal; rw [ev, e 12 (by decide), e5, e6]
  · unfold cct; rw [ev, e 13 (by decide), hz.2]
theorem vid_i (hE : Ev s) {i : Int32} (h : 1 ≤ i.toInt ∧ i.toInt ≤ (sI s 4).toInt) : vid s i = true ∧ (1 ≤ i.toNatClampNeg ∧ i.toNatClampNeg ≤ nN s) := by
  have := nN_le hE
  exact ⟨by rw [vid_n hE]; exact decide_eq_true (by omega), by rw [cln]; omega⟩
theorem vid_no (hE : Ev s) {i : Int32} (h : ¬ (1 ≤ i.toInt ∧ i.toInt ≤ (sI s 4).toInt)) : vid s i = false := by
  have := nN_le hE
  rw [vid_n hE]; exact decide_eq_false (by omega)
theorem ev_i {i : Int32} (h : I8 s A mm fo oo) (hi : 1 ≤ i.toInt ∧ i.toInt ≤ (sI s 4).toInt) : (sta s = 0 ∧ cct s i = -1) ∨ (¬ sta s = 0 ∧ ¬ cct s i < 0 ∧ ¬ gcn A < cct s i ∧ (cct s i = 0 ↔ sA s 7 i.toNatClampNeg = 0) ∧ (0 ≤ (sA s 4 i.toNatClampNeg).toInt → ¬ 1 < cct s i)) := by
  obtain ⟨hv, hb⟩ := vid_i h.1.1 hi
  rcases h.2.1 with e | ⟨e, q1, q2, q3, q4, q5⟩
  · left; exact ⟨by unfold sta; rw [if_pos e], by unfold cct; rw [if_neg (fun q => q.1 e)]⟩
  · right
    have n13 : ¬ sI s 13 = 0 := by rw [e]; decide
    obtain ⟨a1, a2, a3⟩ := q2 _ hb.1 hb.2
    have ec : cct s i = Int32.ofNat (cnt (bt (sA s 7 i.toNatClampNeg)) 0 10) := by unfold cct; rw [if_pos ⟨n13, hv⟩]
    have l10 : cnt (bt (sA s 7 i.toNatClampNeg)) 0 10 ≤ 10 := cnt_le _ _
    have eo := (ofi (j := cnt (bt (sA s 7 i.toNatClampNeg)) 0 10) (by omega)).1
    rw [ec]
    refine ⟨?_, ?_, ?_, ?_, fun z => ?_⟩
    · unfold sta; rw [if_neg n13]; rcases q1 with q | q <;> rw [q] <;> decide
    · rw [lt32, eo]; simp only [Int32.reduceToInt]; omega
    · rw [lt32, eo]; omega
    · rw [← cnt_0 a1, eq32, eo]; simp only [Int32.reduceToInt]; omega
    · have := a3 z; rw [lt32, eo]; simp only [Int32.reduceToInt]; omega
theorem dal_i {i : Int32} (h : Iv s A) (hi : 1 ≤ i.toInt ∧ i.toInt ≤ (sI s 4).toInt) : dal s i 2 = 0 ∧ (sI s 12 = 0 → dal s i 0 = 0 ∧ dal s i 1 = 0) ∧ (¬ sI s 12 = 0 → (¬ dal s i 0 < 1 ∧ ¬ A < dal s i 0) ∧ (¬ dal s i 1 < 1 ∧ ¬ A < dal s i 1)) := by
  obtain ⟨hv, hb⟩ := vid_i h.1 hi
  refine ⟨?_, fun e => ?_, fun e => ?_⟩
  · unfold dal; split
    · rw [if_neg (by decide), if_neg (by decide)]
    · rfl
  · unfold dal; rw [if_neg (fun q => q.2 e), if_neg (fun q => q.2 e)]; exact ⟨rfl, rfl⟩
  · have al := h.al e hb.1 hb.2
    have e0 : dal s i 0 = sA s 5 i.toNatClampNeg := by unfold dal; rw [if_pos ⟨hv, e⟩, if_pos rfl]
    have e1 : dal s i 1 = sA s 6 i.toNatClampNeg := by unfold dal; rw [if_pos ⟨hv, e⟩, if_neg (by decide), if_pos rfl]
    rw [e0, e1, lt32, lt32, lt32, lt32]; simp only [Int32.reduceToInt]; omega
set_option maxRecDepth 100000 in
set_option maxHeartbeats 1000000 in
theorem l802 (hI : I8 s A mm fo oo) (hQ : ∀ z zc, Sx s z → (0 < zc ↔ ∃ j : Nat, 1 ≤ j ∧ j ≤ nN s ∧ cct s (Int32.ofNat j) = 0) → W (pj lw) 100 990 [.val (.ref a), .val (.int al), .val (.int A), .val (.int (gcn A)), .val (.ref p), .val (.int (sI s 4)), .val (.int mm), .val (.int fo), .val (.int oo), .val (.int (sta s)), .val (.int (sI s 12)), .val (.int t), .unset, .unset, .unset, .unset, .unset, .unset, .unset, .val (.int zc), .unset, .unset, .unset, .unset, .unset, .unset] [] k n (ob H p z) Q) : ∀ (m : Nat) (i zc : Int32) (z : St), Sx s z → i.toInt = (sI s 4).toInt + 1 - m → 1 ≤ i.toInt → 0 ≤ zc.toInt → zc.toInt < i.toInt → (0 < zc.toInt ↔ ∃ j : Nat, 1 ≤ j ∧ (j : Int) < i.toInt ∧ cct s (Int32.ofNat j) = 0) →
    W (pj lw) 100 802 [.val (.ref a), .val (.int al), .val (.int A), .val (.int (gcn A)), .val (.ref p), .val (.int (sI s 4)), .val (.int mm), .val (.int fo), .val (.int oo), .val (.int (sta s)), .val (.int (sI s 12)), .val (.int t), .unset, .unset, .unset, .unset, .unset, .unset, .unset, .val (.int zc), .val (.int i), .unset, .unset, .unset, .unset, .unset] [] k n (ob H p z) Q
  | 0, i, zc, z, hz, h1, h2, z1, z2, z3 => by
    obtain ⟨hn1, hn2⟩ := nN_le hI.1.1
    have h3 : sI s 4 < i := by rw [lt32]; omega
    rw [w100_802]; simp +decide only [w100_804, w100_806, ↓reduceIte, h3]
    refine W_fa 20 rfl (hQ z zc hz ?_)
    rw [lt32]; simp only [Int32.reduceToInt]; rw [z3]
    constructor
    · rintro ⟨j, a, b, c⟩; exact ⟨j, a, by omega, c⟩
    · rintro ⟨j, a, b, c⟩; exact ⟨j, a, by omega, c⟩
  | m + 1, i, zc, z, hz, h1, h2, z1, z2, z3 => by
    have hE := hI.1.1
    have hn := hE.1
    have hEz := hz.1.ev hE
    have h3 : ¬ sI s 4 < i := by rw [lt32]; omega
    have h4 : (i + 1).toInt = i.toInt + 1 := ia (by simp only [Int32.reduceToInt]; omega) (by simp only [Int32.reduceToInt]; omega)
    have hi : 1 ≤ i.toInt ∧ i.toInt ≤ (sI s 4).toInt := by omega
    obtain ⟨hv, hb⟩ := vid_i hE hi
    have im : (i - 1).toInt = i.toInt - 1 := isb (by simp only [Int32.reduceToInt]; omega) (by simp only [Int32.reduceToInt]; omega)
    have imn : (i - 1).toNatClampNeg = i.toNatClampNeg - 1 := by rw [cln, cln]; omega
    obtain ⟨b1, b2, b3, b4⟩ := hI.2.2.1 _ hb.1 hb.2
    obtain ⟨t1', t2', t3', t4', t5', t6'⟩ := sta_sx hz
    obtain ⟨d2, dz, dn'⟩ := dal_i hI.1 hi
    have ofo : fo &&& 1 <<< ((i - 1) &&& 31) = 0 ↔ ¬ sA s 2 i.toNatClampNeg = 0 := by
      rw [and_1 (by omega), imn, b3]
      constructor
      · intro h q; rw [decide_eq_true q] at h; cases h
      · intro h; exact decide_eq_false h
    have ooo : oo &&& 1 <<< ((i - 1) &&& 31) = 0 ↔ ¬ 0 ≤ (sA s 4 i.toNatClampNeg).toInt := by
      rw [and_1 (by omega), imn, b4]
      constructor
      · intro h q; rw [decide_eq_true q] at h; cases h
      · intro h; exact decide_eq_false h
    have key := fun zc z hz => l802 hI hQ m (i + 1) zc z hz (by omega) (by omega)
    have cnt' : ∀ z2, Sx s z2 → W (pj lw) 100 924 [.val (.ref a), .val (.int al), .val (.int A), .val (.int (gcn A)), .val (.ref p), .val (.int (sI s 4)), .val (.int mm), .val (.int fo), .val (.int oo), .val (.int (sta s)), .val (.int (sI s 12)), .val (.int t), .unset, .unset, .unset, .unset, .unset, .unset, .unset, .val (.int zc), .val (.int i), .val (.int (1 <<< ((i - 1) &&& 31))), .val (.int (dal s i 0)), .val (.int (dal s i 1)), .val (.int (if fam (dt s) i.toNatClampNeg = true then bsz (dt s) i.toNatClampNeg else 0)), .unset] [] k n (ob H p z2) Q := fun z2 hz2 => by
      obtain ⟨r1, r2, r3, r4, r5, r6⟩ := sta_sx hz2
      have hE2 := hz2.1.ev hE
      have oi := ofn (i := i) (by omega)
      rcases ev_i hI hi with ⟨e1, e2⟩ | ⟨e1, e2, e3, e4, e5⟩
      · have nz : (0 < zc.toInt ↔ ∃ j : Nat, 1 ≤ j ∧ (j : Int) < (i + 1).toInt ∧ cct s (Int32.ofNat j) = 0) := by
          rw [z3]; constructor
          · rintro ⟨j, a, b, c⟩; exact ⟨j, a, by omega, c⟩
          · rintro ⟨j, a, b, c⟩
            by_cases q : (j : Int) < i.toInt
            · exact ⟨j, a, q, c⟩
            · have : j = i.toNatClampNeg := by rw [cln]; omega
              rw [this, oi, e2] at c; exact absurd c (by decide)
        have e1' := eq_true e1
        by_cases q : oo &&& 1 <<< ((i - 1) &&& 31) = 0 <;> simp +decide only [w100_924, w100_926, w100_928, w100_931, w100_933, w100_935, w100_938, w100_940, w100_941, w100_960, w100_962, w100_964, w100_965, w100_968, w100_970, w100_971, w100_976, w100_978, w100_984, w100_987, isO_put, Option.toList_some, List.cons_append, List.nil_append, true_and, and_true, ↓reduceIte, t31 hE2, r6, e1', e2, q] <;> exact W_fa 21 rfl (key zc z2 hz2 z1 (by omega) nz)
      · by_cases c0 : cct s i = 0
        · have zc1 : (zc + 1).toInt = zc.toInt + 1 := ia (by simp only [Int32.reduceToInt]; omega) (by simp only [Int32.reduceToInt]; omega)
          have nz : (0 < (zc + 1).toInt ↔ ∃ j : Nat, 1 ≤ j ∧ (j : Int) < (i + 1).toInt ∧ cct s (Int32.ofNat j) = 0) :=
            ⟨fun _ => ⟨i.toNatClampNeg, hb.1, by rw [cln]; omega, by rw [oi]; exact c0⟩, fun _ => by omega⟩
          have g3 : ¬ gcn A < 0 := by rw [c0] at e3; exact e3
          by_cases q : oo &&& 1 <<< ((i - 1) &&& 31) = 0 <;> simp +decide only [w100_924, w100_926, w100_928, w100_931, w100_933, w100_935, w100_947, w100_949, w100_952, w100_954, w100_955, w100_960, w100_962, w100_964, w100_965, w100_968, w100_970, w100_971, w100_976, w100_978, w100_981, w100_984, w100_987, isO_put, Option.toList_some, List.cons_append, List.nil_append, true_and, and_true, ↓reduceIte, t31 hE2, r6, e1, c0, g3, q] <;> exact W_fa 21 rfl (key (zc + 1) z2 hz2 (by omega) (by omega) nz)
        · have nz : (0 < zc.toInt ↔ ∃ j : Nat, 1 ≤ j ∧ (j : Int) < (i + 1).toInt ∧ cct s (Int32.ofNat j) = 0) := by
            rw [z3]; constructor
            · rintro ⟨j, a, b, c⟩; exact ⟨j, a, by omega, c⟩
            · rintro ⟨j, a, b, c⟩
              by_cases q : (j : Int) < i.toInt
              · exact ⟨j, a, q, c⟩
              · have : j = i.toNatClampNeg := by rw [cln]; omega
                rw [this, oi] at c; exact absurd c c0
          by_cases q : oo &&& 1 <<< ((i - 1) &&& 31) = 0
          · simp +decide only [w100_924, w100_926, w100_928, w100_931, w100_933, w100_935, w100_947, w100_949, w100_952, w100_954, w100_955, w100_960, w100_962, w100_964, w100_965, w100_976, w100_978, w100_984, w100_987, isO_put, Option.toList_some, List.cons_append, List.nil_append, true_and, and_true, ↓reduceIte, t31 hE2, r6, e1, e2, e3, c0, q]
            exact W_fa 21 rfl (key zc z2 hz2 z1 (by omega) nz)
          · have o1 : ¬ 1 < cct s i := e5 (Decidable.byContradiction fun g => q (ooo.mpr g))
            simp +decide only [w100_924, w100_926, w100_928, w100_931, w100_933, w100_935, w100_947, w100_949, w100_952, w100_954, w100_955, w100_960, w100_962, w100_964, w100_965, w100_968, w100_970, w100_971, w100_976, w100_978, w100_984, w100_987, isO_put, Option.toList_some, List.cons_append, List.nil_append, true_and, and_true, ↓reduceIte, t31 hE2, r6, e1, e2, e3, c0, q, o1]
            exact W_fa 21 rfl (key zc z2 hz2 z1 (by omega) nz)
    have fs : W (pj lw) 100 894 [.val (.ref a), .val (.int al), .val (.int A), .val (.int (gcn A)), .val (.ref p), .val (.int (sI s 4)), .val (.int mm), .val (.int fo), .val (.int oo), .val (.int (sta s)), .val (.int (sI s 12)), .val (.int t), .unset, .unset, .unset, .unset, .unset, .unset, .unset, .val (.int zc), .val (.int i), .val (.int (1 <<< ((i - 1) &&& 31))), .val (.int (dal s i 0)), .val (.int (dal s i 1)), .unset, .unset] [] k n (ob H p z) Q := by
      simp +decide only [w100_894, w100_896, w100_898, isO_put, true_and, and_true]
      refine t33 hEz (by omega) fun z2 q1 q2 => ?_
      rw [hz.1.dt]
      have hz2 := hz.trans ⟨q1, q2⟩
      have ct2 := cnt' z2 hz2
      cases e : fam (dt s) i.toNatClampNeg with
      | false =>
        rw [e] at ct2
        simp +decide only [w100_901, w100_903, w100_905, Option.toList_some, List.cons_append, List.nil_append, ↓reduceIte] at ct2 ⊢
        exact ct2
      | true =>
        rw [e] at ct2
        have b3' := bsz_ge hE.wd e
        have f1 : ¬ bsz (dt s) i.toNatClampNeg = 0 := by rw [eq32]; simp only [Int32.reduceToInt]; omega
        have f2 : ¬ bsz (dt s) i.toNatClampNeg < 3 := by rw [lt32]; simp only [Int32.reduceToInt]; omega
        have f3 : fo &&& 1 <<< ((i - 1) &&& 31) = 0 := ofo.mpr (fam_i e).2
        simp +decide only [w100_901, w100_903, w100_905, w100_908, w100_910, w100_912, w100_913, w100_916, w100_918, w100_919, Option.toList_some, List.cons_append, List.nil_append, ↓reduceIte, f1, f2, f3] at ct2 ⊢
        exact ct2
    rw [w100_802]
    by_cases v0 : sI s 12 = 0
    · obtain ⟨x1, x2⟩ := dz v0
      rw [x1, x2] at fs
      rw [v0] at fs ⊢
      simp +decide only [w100_804, w100_806, w100_809, w100_810, w100_812, w100_813, w100_814, w100_815, w100_817, w100_819, w100_821, w100_822, w100_825, w100_827, w100_829, w100_831, w100_832, w100_835, w100_837, w100_839, w100_869, w100_871, w100_874, w100_876, w100_881, w100_883, w100_885, w100_886, w100_889, isO_put, Option.toList_some, List.cons_append, List.nil_append, true_and, and_true, ↓reduceIte, h3, t17 hEz, t5', x1, x2, d2]
      exact fs
    · obtain ⟨⟨x1, x2⟩, x3, x4⟩ := dn' v0
      simp +decide only [w100_804, w100_806, w100_809, w100_810, w100_812, w100_813, w100_814, w100_815, w100_817, w100_819, w100_821, w100_822, w100_825, w100_827, w100_829, w100_831, w100_832, w100_835, w100_837, w100_839, w100_842, w100_844, w100_845, w100_848, w100_850, w100_851, w100_854, w100_856, w100_857, w100_860, w100_862, w100_863, w100_881, w100_883, w100_885, w100_886, w100_889, isO_put, Option.toList_some, List.cons_append, List.nil_append, true_and, and_true, ↓reduceIte, h3, t17 hEz, t5', v0, x1, x2, x3, x4, d2]
      exact fs
set_option maxRecDepth 100000 in
set_option maxHeartbeats 1000000 in
theorem chk (hI : I8 s A mm fo oo) (hQ : ∀ z, Sx s z → W (pj lw) 100 1016 [.val (.ref a), .val (.int al), .val (.int A), .val (.int (gcn A)), .val (.ref p), .val (.int (sI s 4)), .val (.int mm), .val (.int fo), .val (.int oo), .val (.int (sta s)), .val (.int (sI s 12)), .val (.int t), .unset, .unset, .unset, .unset, .unset, .unset, .unset, .unset, .unset, .unset, .unset, .unset, .unset, .unset] [] k n (ob H p z) Q) : W (pj lw) 100 679 [.val (.ref a), .val (.int al), .val (.int A), .val (.int (gcn A)), .val (.ref p), .val (.int (sI s 4)), .val (.int mm), .val (.int fo), .val (.int oo), .val (.int (sta s)), .val (.int (sI s 12)), .val (.int t), .unset, .unset, .unset, .unset, .unset, .unset, .unset, .unset, .unset, .unset, .unset, .unset, .unset, .unset] [] k n (ob H p s) Q := by
  have hE := hI.1.1
  have hn := hE.1
  obtain ⟨hn1, hn2⟩ := nN_le hE
  have n1 : (sI s 4 + 1).toInt = (sI s 4).toInt + 1 := ia (by simp only [Int32.reduceToInt]; omega) (by simp only [Int32.reduceToInt]; omega)
  have c0 : cct s 0 = -1 := by unfold cct; rw [if_neg (fun q => by rw [vid_no hE (by simp only [Int32.reduceToInt]; omega)] at q; exact absurd q.2 (by decide))]
  have c1 : cct s (sI s 4 + 1) = -1 := by unfold cct; rw [if_neg (fun q => by rw [vid_no hE (by omega)] at q; exact absurd q.2 (by decide))]
  have d1 : dal s (sI s 4 + 1) 0 = 0 := by unfold dal; rw [if_neg (fun q => by rw [vid_no hE (by omega)] at q; exact absurd q.1 (by decide))]
  have ex : (sta s = 2 ↔ ∃ j : Nat, 1 ≤ j ∧ j ≤ nN s ∧ cct s (Int32.ofNat j) = 0) := by
    have cj : ∀ j : Nat, 1 ≤ j → j ≤ nN s → (1 ≤ (Int32.ofNat j).toInt ∧ (Int32.ofNat j).toInt ≤ (sI s 4).toInt) ∧ (Int32.ofNat j).toNatClampNeg = j := fun j a b => by
      have := ofi (j := j) (by omega); omega
    rcases hI.2.1 with e | ⟨e, q1, q2, q3, q4, q5⟩
    · have : sta s = 0 := by unfold sta; rw [if_pos e]
      rw [this]
      constructor
      · intro h; exact absurd h (by decide)
      · rintro ⟨j, a, b, c⟩
        rcases ev_i hI (cj j a b).1 with ⟨-, u⟩ | ⟨u, -⟩
        · rw [u] at c; exact absurd c (by decide)
        · exact absurd this u
    · have st : sta s = sI s 14 := by unfold sta; rw [if_neg (by rw [e]; decide)]
      rw [st, q3]
      constructor
      · rintro ⟨j, a, b, c⟩
        refine ⟨j, a, b, ?_⟩
        rcases ev_i hI (cj j a b).1 with ⟨u, -⟩ | ⟨-, -, -, u, -⟩
        · rw [st] at u; rcases q1 with q | q <;> rw [q] at u <;> exact absurd u (by decide)
        · rw [(cj j a b).2] at u; exact u.mpr c
      · rintro ⟨j, a, b, c⟩
        refine ⟨j, a, b, ?_⟩
        rcases ev_i hI (cj j a b).1 with ⟨u, -⟩ | ⟨-, -, -, u, -⟩
        · rw [st] at u; rcases q1 with q | q <;> rw [q] at u <;> exact absurd u (by decide)
        · rw [(cj j a b).2] at u; exact u.mp c
  have fin : ∀ (z : St) (zc : Int32), Sx s z → (0 < zc ↔ ∃ j : Nat, 1 ≤ j ∧ j ≤ nN s ∧ cct s (Int32.ofNat j) = 0) → W (pj lw) 100 990 [.val (.ref a), .val (.int al), .val (.int A), .val (.int (gcn A)), .val (.ref p), .val (.int (sI s 4)), .val (.int mm), .val (.int fo), .val (.int oo), .val (.int (sta s)), .val (.int (sI s 12)), .val (.int t), .unset, .unset, .unset, .unset, .unset, .unset, .unset, .val (.int zc), .unset, .unset, .unset, .unset, .unset, .unset] [] k n (ob H p z) Q := fun z zc hz hc => by
    rw [← ex] at hc
    have := hQ z hz
    by_cases e : sta s = 2
    · have hc' := hc.mpr e
      simp +decide only [w100_990, w100_992, w100_993, w100_996, w100_997, w100_1001, w100_1003, w100_1006, w100_1007, w100_1011, ↓reduceIte, e, hc'] at this ⊢
      exact W_fa 12 rfl this
    · have hc' : ¬ 0 < zc := fun q => e (hc.mp q)
      simp +decide only [w100_990, w100_992, w100_993, w100_1000, w100_1001, w100_1003, w100_1010, w100_1011, ↓reduceIte, e, hc']
      exact W_fa 12 rfl this
  have lo : ∀ (z : St) (cf : Int32), Sx s z → W (pj lw) 100 796 [.val (.ref a), .val (.int al), .val (.int A), .val (.int (gcn A)), .val (.ref p), .val (.int (sI s 4)), .val (.int mm), .val (.int fo), .val (.int oo), .val (.int (sta s)), .val (.int (sI s 12)), .val (.int t), .unset, .unset, .unset, .unset, .unset, .unset, .val (.int cf), .unset, .unset, .unset, .unset, .unset, .unset, .unset] [] k n (ob H p z) Q := fun z cf hz => by
    refine W_fa 18 rfl ?_
    show W (pj lw) 100 796 [.val (.ref a), .val (.int al), .val (.int A), .val (.int (gcn A)), .val (.ref p), .val (.int (sI s 4)), .val (.int mm), .val (.int fo), .val (.int oo), .val (.int (sta s)), .val (.int (sI s 12)), .val (.int t), .unset, .unset, .unset, .unset, .unset, .unset, .unset, .unset, .unset, .unset, .unset, .unset, .unset, .unset] [] k n (ob H p z) Q
    simp +decide only [w100_796, w100_797, w100_799, w100_800]
    refine l802 hI fin (nN s) 1 0 z hz (by simp only [Int32.reduceToInt]; omega) (by decide) (by decide) (by decide) ⟨fun q => by simp only [Int32.reduceToInt] at q; omega, fun q => ?_⟩
    obtain ⟨j, a, b, c⟩ := q; simp only [Int32.reduceToInt] at b; omega
  have sr0 : Sx s s := ⟨Sr.refl, rfl⟩
  rcases hI.2.1 with e | ⟨e, q1, q2, q3, q4, q5⟩
  · have st : sta s = 0 := by unfold sta; rw [if_pos e]
    have cf : cfl s = -1 := by unfold cfl; rw [if_pos e]
    have := lo s (-1) sr0
    rw [st] at this ⊢
    simp +decide only [w100_679, w100_681, w100_684, w100_686, w100_689, w100_691, w100_694, w100_696, w100_701, w100_703, w100_704, w100_707, w100_708, w100_711, w100_713, w100_715, w100_716, w100_717, w100_720, w100_721, w100_724, w100_726, w100_728, w100_729, w100_730, w100_731, w100_734, w100_739, w100_741, w100_744, w100_746, w100_748, w100_751, w100_753, w100_754, w100_759, w100_761, w100_762, w100_772, w100_774, w100_775, isO_put, Option.toList_some, List.cons_append, List.nil_append, true_and, and_true, ↓reduceIte, t34, t29, st, t31 hE, c0, c1, t17 hE, d1, t32, cf]
    exact this
  · have st : sta s = sI s 14 := by unfold sta; rw [if_neg (by rw [e]; decide)]
    have cf : cfl s = sI s 15 := by unfold cfl; rw [if_neg (by rw [e]; decide)]
    rcases q1 with q | q
    · have k15 := q4 q
      have := lo s 0 sr0
      rw [q] at st
      rw [st] at this ⊢
      simp +decide only [w100_679, w100_681, w100_684, w100_686, w100_689, w100_691, w100_694, w100_696, w100_701, w100_703, w100_704, w100_707, w100_708, w100_711, w100_713, w100_715, w100_716, w100_717, w100_720, w100_721, w100_724, w100_726, w100_728, w100_729, w100_730, w100_731, w100_734, w100_739, w100_741, w100_744, w100_746, w100_748, w100_759, w100_761, w100_762, w100_765, w100_767, w100_772, w100_774, w100_775, isO_put, Option.toList_some, List.cons_append, List.nil_append, true_and, and_true, ↓reduceIte, t34, t29, st, t31 hE, c0, c1, t17 hE, d1, t32, cf, k15]
      exact this
    · rw [q] at st
      by_cases k15 : sI s 15 = 0
      · have := lo s 0 sr0
        rw [st] at this ⊢
        simp +decide only [w100_679, w100_681, w100_684, w100_686, w100_689, w100_691, w100_694, w100_696, w100_701, w100_703, w100_704, w100_707, w100_708, w100_711, w100_713, w100_715, w100_716, w100_717, w100_720, w100_721, w100_724, w100_726, w100_728, w100_729, w100_730, w100_731, w100_734, w100_739, w100_741, w100_744, w100_746, w100_748, w100_759, w100_761, w100_762, w100_772, w100_774, w100_775, w100_778, w100_780, isO_put, Option.toList_some, List.cons_append, List.nil_append, true_and, and_true, ↓reduceIte, t34, t29, st, t31 hE, c0, c1, t17 hE, d1, t32, cf, k15]
        exact this
      · obtain ⟨h, g1, g2, g3, g4⟩ := q5.resolve_left k15
        have oh := ofi (j := h) (by omega)
        have lo2 := fun z hz => lo z (sI s 15) hz
        rw [st] at lo2 ⊢
        simp +decide only [w100_679, w100_681, w100_684, w100_686, w100_689, w100_691, w100_694, w100_696, w100_701, w100_703, w100_704, w100_707, w100_708, w100_711, w100_713, w100_715, w100_716, w100_717, w100_720, w100_721, w100_724, w100_726, w100_728, w100_729, w100_730, w100_731, w100_734, w100_739, w100_741, w100_744, w100_746, w100_748, w100_759, w100_761, w100_762, w100_772, w100_774, w100_775, w100_778, w100_780, w100_783, w100_785, w100_787, isO_put, Option.toList_some, List.cons_append, List.nil_append, true_and, and_true, ↓reduceIte, t34, t29, st, t31 hE, c0, c1, t17 hE, d1, t32, cf, k15]
        refine t33 hE (by rw [g3]; omega) fun z r1 r2 => ?_
        have eh : (sI s 15).toNatClampNeg = h := by rw [g3]; exact oh.2
        rw [eh, if_pos g4]
        have b3' := bsz_ge hE.wd g4
        have f2 : ¬ bsz (dt s) h < 3 := by rw [lt32]; simp only [Int32.reduceToInt]; omega
        simp +decide only [w100_790, w100_791, Option.toList_some, List.cons_append, List.nil_append, ↓reduceIte, f2]
        exact lo2 z ⟨r1, r2⟩
theorem I8_oS {i v : Int32} (h : I8 s A mm fo oo) (hi : 1 ≤ i.toInt ∧ i.toInt ≤ (sI s 4).toInt) (hv : 0 ≤ v.toInt) (hI : Iv (oS s i.toNatClampNeg v) A) : I8 (oS s i.toNatClampNeg v) A mm fo (oo ||| 1 <<< ((i - 1) &&& 31)) := by
  obtain ⟨hn1, hn2⟩ := nN_le h.1.1
  have im : (i - 1).toInt = i.toInt - 1 := isb (by simp only [Int32.reduceToInt]; omega) (by simp only [Int32.reduceToInt]; omega)
  have imn : (i - 1).toNatClampNeg = i.toNatClampNeg - 1 := by rw [cln, cln]; omega
  have icl : i.toNatClampNeg = i.toInt.toNat := rfl
  have en : nN (oS s i.toNatClampNeg v) = nN s := by unfold nN; rw [oS_I (by decide)]
  refine ⟨hI, Or.inl oS_13, fun j a b => ?_, fun g a b => ?_⟩
  · rw [en] at b
    obtain ⟨b1, b2, b3, b4⟩ := h.2.2.1 j a b
    rw [oS_A (by decide), oS_A (by decide), oS_4, bt_or (by omega), bt_1' (by omega) (by omega), imn]
    refine ⟨b1, b2, b3, ?_⟩
    by_cases e : j = i.toNatClampNeg
    · subst e; rw [up_i, decide_eq_true rfl, Bool.or_true]; exact (decide_eq_true hv).symm
    · rw [up_n e, b4, show decide (j - 1 = i.toNatClampNeg - 1) = false from decide_eq_false (by omega), Bool.or_false]
  · rw [en] at a
    obtain ⟨b1, b2, b3⟩ := h.2.2.2 g a b
    refine ⟨b1, b2, ?_⟩
    rw [bt_or b, b3, bt_1' (by omega) b, imn, decide_eq_false (by omega)]; rfl
theorem I8_un {i : Int32} (h : I8 s A mm fo oo) (hi : 1 ≤ i.toInt ∧ i.toInt ≤ (sI s 4).toInt) (hI : Iv (oS s i.toNatClampNeg (-1)) A) : I8 (oS s i.toNatClampNeg (-1)) A mm fo (oo &&& (1 <<< ((i - 1) &&& 31) ^^^ -1)) := by
  obtain ⟨hn1, hn2⟩ := nN_le h.1.1
  have im : (i - 1).toInt = i.toInt - 1 := isb (by simp only [Int32.reduceToInt]; omega) (by simp only [Int32.reduceToInt]; omega)
  have imn : (i - 1).toNatClampNeg = i.toNatClampNeg - 1 := by rw [cln, cln]; omega
  have icl : i.toNatClampNeg = i.toInt.toNat := rfl
  have en : nN (oS s i.toNatClampNeg (-1)) = nN s := by unfold nN; rw [oS_I (by decide)]
  refine ⟨hI, Or.inl oS_13, fun j a b => ?_, fun g a b => ?_⟩
  · rw [en] at b
    obtain ⟨b1, b2, b3, b4⟩ := h.2.2.1 j a b
    rw [oS_A (by decide), oS_A (by decide), oS_4, bt_and (by omega), bt_not (by omega), bt_1' (by omega) (by omega), imn]
    refine ⟨b1, b2, b3, ?_⟩
    by_cases e : j = i.toNatClampNeg
    · subst e; rw [up_i, decide_eq_true rfl]; simp
    · rw [up_n e, b4, show decide (j - 1 = i.toNatClampNeg - 1) = false from decide_eq_false (by omega)]; simp
  · rw [en] at a
    obtain ⟨b1, b2, b3⟩ := h.2.2.2 g a b
    refine ⟨b1, b2, ?_⟩
    rw [bt_and b, b3, Bool.false_and]
theorem sta_oS {i v : Int32} : sta (oS s i.toNatClampNeg v) = 0 ∧ sI (oS s i.toNatClampNeg v) 4 = sI s 4 ∧ sI (oS s i.toNatClampNeg v) 12 = sI s 12 := by
  refine ⟨by unfold sta; rw [if_pos oS_13], oS_I (by decide), oS_I (by decide)⟩
theorem I8_sd {v : Int32} (h : I8 s A mm fo oo) : I8 (uI s 3 v) A mm fo oo ∧ sta (uI s 3 v) = sta s ∧ sI (uI s 3 v) 4 = sI s 4 ∧ sI (uI s 3 v) 12 = sI s 12 := by
  have e : ∀ x, x ≠ 3 → sI (uI s 3 v) x = sI s x := fun x hx => by rw [sI_uI, if_neg hx]
  exact ⟨⟨Iv_sd h.1, Ce_of h.2.1 (fun x hx => e x (by omega)) fun t _ => sA_fI, Bi_of h.2.2 (e 4 (by decide)) fun t _ => sA_fI⟩, by unfold sta; rw [e 13 (by decide), e 14 (by decide)], e 4 (by decide), e 12 (by decide)⟩
theorem I8_dr {z : St} (h : I8 s A mm fo oo) (hz : Sp s z) (hd : ∀ j, 1 ≤ j → j ≤ nN s → Dp z j) : I8 (uI z 12 1) A mm fo oo ∧ sta (uI z 12 1) = sta s ∧ sI (uI z 12 1) 4 = sI s 4 ∧ sI (uI z 12 1) 12 = 1 := by
  have e : ∀ x, x ≠ 3 → x ≠ 12 → sI (uI z 12 1) x = sI s x := fun x hx h2 => by rw [sI_uI, if_neg h2, hz.1 x hx]
  have f : ∀ t, t ≠ 5 → t ≠ 6 → sA (uI z 12 1) t = sA s t := fun t h1 h2 => by rw [sA_fI, hz.2.2.1 t h1 h2]
  exact ⟨⟨Iv_dr h.1 hz hd, Ce_of h.2.1 (fun x hx => e x (by omega) (by omega)) fun t ht => f t (by omega) (by omega), Bi_of h.2.2 (e 4 (by decide) (by decide)) fun t ht => f t (by omega) (by omega)⟩, by unfold sta; rw [e 13 (by decide) (by decide), e 14 (by decide) (by decide)], e 4 (by decide) (by decide), by rw [sI_uI, if_pos rfl]⟩
theorem I8_el {z : St} (h : I8 s A mm fo oo) (q1 : Sr s z) (q2 : sA z 7 = elC s) : I8 (eS z (elS s) (elF s)) A mm fo oo ∧ sta (eS z (elS s) (elF s)) = elS s ∧ sI (eS z (elS s) (elF s)) 4 = sI s 4 ∧ sI (eS z (elS s) (elF s)) 12 = sI s 12 := by
  obtain ⟨Ie, eI, e13, e14, e15, e7, eA, ed⟩ := eS_all (u := elS s) (v := elF s) h.1 q1 q2
  have e4 : sI (eS z (elS s) (elF s)) 4 = sI s 4 := eI 4 (by decide) (by decide) (by decide) (by decide)
  have en : nN (eS z (elS s) (elF s)) = nN s := by unfold nN; rw [e4]
  refine ⟨⟨Ie, Or.inr ⟨e13, ?_⟩, Bi_of h.2.2 e4 fun t ht => eA t (by omega) (by omega) (by omega)⟩, by unfold sta; rw [if_neg (by rw [e13]; decide), e14], e4, eI 12 (by decide) (by decide) (by decide) (by decide)⟩
  unfold Eo
  rw [e14, e15, e7, en, ed, eA 4 (by decide) (by decide) (by decide)]
  refine ⟨by unfold elS; split <;> simp, fun i a b => el_ok h.1 a b, ?_, ?_, ?_⟩
  · have : elS s = 2 ↔ elB s = true := by unfold elS; split <;> simp_all
    rw [this]; exact emp_iff
  · unfold elS elF; cases elB s
    · intro _; rfl
    · intro q; exact absurd q (by decide)
  · unfold elF; split
    · exact bs1_fam (D := dt s) (cc := c0 s) (nN s) 1 (0, 0) (Or.inl rfl)
    · exact Or.inl rfl
theorem I8_ad {a b c : Int32} (h : I8 s A mm fo oo) (hr : ¬ adR s a b c < 0) : I8 (adN s a b c) A (if a = 1 then mm ||| 1 <<< (sI s 4 &&& 31) else mm) (if b = 0 then fo ||| 1 <<< (sI s 4 &&& 31) else fo) oo ∧ sta (adN s a b c) = 0 := by
  obtain ⟨h1, h2, h3, h4⟩ := ad_f h.1.1 hr
  obtain ⟨k1, k2, k3⟩ := adN_k (a := a) (b := b) (c := c) h.1.1 h1
  obtain ⟨t1', t2', t3', t4'⟩ := adN_t (s := s) (a := a) (b := b) (c := c)
  obtain ⟨f4, f12, f13⟩ := adN_f (s := s) (a := a) (b := b) (c := c)
  obtain ⟨hn1, hn2⟩ := nN_le h.1.1
  have hI : Iv (adN s a b c) A := by have := Iv_ad (a := a) (b := b) (c := c) h.1; unfold adS at this; rw [if_neg hr] at this; exact this
  have cn : (sI s 4).toNatClampNeg = nN s := rfl
  have bm : ∀ g, g < 32 → bt (if a = 1 then mm ||| 1 <<< (sI s 4 &&& 31) else mm) g = (bt mm g || (decide (a = 1) && decide (g = nN s))) := fun g hg => by
    by_cases e : a = 1
    · rw [if_pos e, bt_or hg, bt_1' (by omega) hg, cn, decide_eq_true e, Bool.true_and]
    · rw [if_neg e, decide_eq_false e, Bool.false_and, Bool.or_false]
  have bf : ∀ g, g < 32 → bt (if b = 0 then fo ||| 1 <<< (sI s 4 &&& 31) else fo) g = (bt fo g || (decide (b = 0) && decide (g = nN s))) := fun g hg => by
    by_cases e : b = 0
    · rw [if_pos e, bt_or hg, bt_1' (by omega) hg, cn, decide_eq_true e, Bool.true_and]
    · rw [if_neg e, decide_eq_false e, Bool.false_and, Bool.or_false]
  refine ⟨⟨hI, Or.inl f13, fun j a1 a2 => ?_, fun g a1 a2 => ?_⟩, by unfold sta; rw [if_pos f13]⟩
  · rw [k3] at a2
    rw [t1', t2', t4', k2, bm _ (by omega), bf _ (by omega)]
    by_cases q : j = nN s + 1
    · subst q
      obtain ⟨z1, z2, z3⟩ := h.2.2.2 (nN s) (Nat.le_refl _) (by omega)
      rw [up_i, up_i, up_i, Nat.add_sub_cancel, z1, z2, z3]
      refine ⟨h2, by simp, by simp, by simp⟩
    · obtain ⟨b1, b2, b3, b4⟩ := h.2.2.1 j a1 (by omega)
      have hj : ¬ j - 1 = nN s := by omega
      rw [up_n q, up_n q, up_n q, b2, b3, b4]
      refine ⟨b1, by simp [hj], by simp [hj], rfl⟩
  · rw [k3] at a1
    obtain ⟨z1, z2, z3⟩ := h.2.2.2 g (by omega) a2
    have hj : ¬ g = nN s := by omega
    rw [bm g a2, bf g a2, z1, z2, z3]
    simp [hj]
set_option maxRecDepth 100000 in
set_option maxHeartbeats 8000000 in
theorem lp {len : Nat} {f : Nat → Int32} {c : Nat} (ha : a < p) (hl : len ≤ 260) (m : Nat) : ∀ (t : Int32) (s : St) (mm fo oo : Int32), I8 s A mm fo oo → 1 ≤ t.toInt → t.toInt ≤ len + 4 → len + 4 ≤ t.toInt + m →
    W (pj lw) 100 75 [.val (.ref a), .val (.int al), .val (.int A), .val (.int (gcn A)), .val (.ref p), .val (.int (sI s 4)), .val (.int mm), .val (.int fo), .val (.int oo), .val (.int (sta s)), .val (.int (sI s 12)), .val (.int t), .unset, .unset, .unset, .unset, .unset, .unset, .unset, .unset, .unset, .unset, .unset, .unset, .unset, .unset] [] k n (ob (H1 c a len f) p s) (fun v _ => v = some (.int 1)) := by
  have hlen : (len.toInt32).toInt = len := len32 (by omega)
  induction m with
  | zero =>
    intro t s mm fo oo hI h0 h4 hm
    obtain ⟨y1, y2, y3, y4⟩ := sc1 (cc := c) (len := len) (f := f) (s := s) ha
    have h3 : (t + 3).toInt = t.toInt + 3 := ia (by simp only [Int32.reduceToInt]; omega) (by simp only [Int32.reduceToInt]; omega)
    have hlt : ¬ t + 3 < len.toInt32 := by rw [lt32]; omega
    rw [w100_75]; simp +decide only [w100_77, w100_78, w100_79, w100_80, w100_81, w100_1022, w100_1023, and_true, ↓reduceIte, y1, y2, hlt]
  | succ m ih =>
    intro t s mm fo oo hI h0 h4 hm
    obtain ⟨y1, y2, y3, y4⟩ := sc1 (cc := c) (len := len) (f := f) (s := s) ha
    have h1 : (t + 1).toInt = t.toInt + 1 := ia (by simp only [Int32.reduceToInt]; omega) (by simp only [Int32.reduceToInt]; omega)
    have h2 : (t + 2).toInt = t.toInt + 2 := ia (by simp only [Int32.reduceToInt]; omega) (by simp only [Int32.reduceToInt]; omega)
    have h3 : (t + 3).toInt = t.toInt + 3 := ia (by simp only [Int32.reduceToInt]; omega) (by simp only [Int32.reduceToInt]; omega)
    have h5 : (t + 4).toInt = t.toInt + 4 := ia (by simp only [Int32.reduceToInt]; omega) (by simp only [Int32.reduceToInt]; omega)
    by_cases hlt : t + 3 < len.toInt32
    rotate_left
    · rw [w100_75]; simp +decide only [w100_77, w100_78, w100_79, w100_80, w100_81, w100_1022, w100_1023, and_true, ↓reduceIte, y1, y2, hlt]
    have hlt' := hlt; rw [lt32] at hlt'
    have hE := hI.1.1
    have hT := hI.1.2.1
    have hn := hE.1
    have hr := gcn_rg hT.1
    have K : ∀ (s : St) (v5 mm fo oo v9 v10 : Int32), I8 s A mm fo oo → v5 = sI s 4 → v9 = sta s → v10 = sI s 12 → W (pj lw) 100 679 [.val (.ref a), .val (.int al), .val (.int A), .val (.int (gcn A)), .val (.ref p), .val (.int v5), .val (.int mm), .val (.int fo), .val (.int oo), .val (.int v9), .val (.int v10), .val (.int t), .unset, .unset, .unset, .unset, .unset, .unset, .unset, .unset, .unset, .unset, .unset, .unset, .unset, .unset] [] k n (ob (H1 c a len f) p s) (fun v _ => v = some (.int 1)) := by
      intro s v5 mm fo oo v9 v10 hI e5 e9 e10
      subst e5 e9 e10
      refine chk hI fun z hz => ?_
      obtain ⟨r1, r2, r3, r4, r5, r6⟩ := sta_sx hz
      have := ih (t + 4) z mm fo oo (I8_sx hI hz) (by omega) (by omega) (by omega)
      rw [r1, r3, r4] at this
      simp +decide only [w100_1016, w100_1019]
      exact this
    clear ih
    have KN := K s (sI s 4) mm fo oo (sta s) (sI s 12) hI rfl rfl rfl
    have b0 : 0 ≤ t.toInt ∧ t.toInt < (len : Int) := by omega
    have b1 : 0 ≤ (t + 1).toInt ∧ (t + 1).toInt < (len : Int) := by omega
    have b2 : 0 ≤ (t + 2).toInt ∧ (t + 2).toInt < (len : Int) := by omega
    have b3 : 0 ≤ (t + 3).toInt ∧ (t + 3).toInt < (len : Int) := by omega
    have v1 : (sI s 4 + 1).toInt = (sI s 4).toInt + 1 := ia (by simp only [Int32.reduceToInt]; omega) (by simp only [Int32.reduceToInt]; omega)
    have v2 : (sI s 4 + 2).toInt = (sI s 4).toInt + 2 := ia (by simp only [Int32.reduceToInt]; omega) (by simp only [Int32.reduceToInt]; omega)
    have vA : (A + 1).toInt = A.toInt + 1 := ia (by simp only [Int32.reduceToInt]; omega) (by simp only [Int32.reduceToInt]; omega)
    have n1 : ¬ sI s 4 + 1 = 0 := by rw [eq32]; simp only [Int32.reduceToInt]; omega
    have n2 : ¬ sI s 4 + 2 = 0 := by rw [eq32]; simp only [Int32.reduceToInt]; omega
    have nA : ¬ A + 1 = 0 := by rw [eq32]; simp only [Int32.reduceToInt]; omega
    have R1 := and_rg (x := f (t + 1).toNatClampNeg) (m := 2147483647) (by decide)
    have R2 := and_rg (x := f (t + 2).toNatClampNeg) (m := 2147483647) (by decide)
    have R3 := and_rg (x := f (t + 3).toNatClampNeg) (m := 2147483647) (by decide)
    rw [w100_75]; simp +decide only [w100_77, w100_78, w100_79, w100_80, w100_81, w100_84, w100_85, w100_87, w100_88, w100_90, w100_91, w100_93, w100_94, w100_96, w100_97, w100_98, w100_99, w100_101, w100_102, w100_104, w100_105, w100_107, w100_108, w100_109, w100_110, w100_112, w100_113, w100_115, w100_116, w100_118, w100_119, w100_120, w100_121, w100_123, w100_124, w100_126, w100_128, w100_130, w100_131, w100_132, w100_133, w100_134, w100_135, w100_137, w100_138, w100_140, w100_141, w100_142, w100_143, true_and, and_true, not_false_eq_true, ↓reduceIte, y1, y2, y3, y4, hlt, b0, b1, b2, b3, n1]
    generalize f t.toNatClampNeg &&& 7 = o
    generalize f (t + 1).toNatClampNeg &&& 2147483647 = c1' at *
    generalize f (t + 2).toNatClampNeg &&& 2147483647 = c2' at *
    generalize f (t + 3).toNatClampNeg &&& 2147483647 = c3' at *
    have rid := rem_rg (x := c1') (m := sI s 4 + 1) R1.1 (by omega)
    have rid' : (c1' % (sI s 4 + 1) + 1).toInt = (c1' % (sI s 4 + 1)).toInt + 1 := ia (by simp only [Int32.reduceToInt]; omega) (by simp only [Int32.reduceToInt]; omega)
    have hid : 1 ≤ (c1' % (sI s 4 + 1) + 1).toInt ∧ (c1' % (sI s 4 + 1) + 1).toInt ≤ (sI s 4).toInt + 1 := by omega
    clear rid rid'
    generalize c1' % (sI s 4 + 1) + 1 = id at *
    by_cases o1 : 1 < o
    rotate_left
    · have O1 : ∀ sx fa mo : Int32, (sx = 0 ∨ sx = 1 ∨ sx = 2) → (0 ≤ fa.toInt ∧ fa.toInt ≤ (sI s 4).toInt + 1) → (0 ≤ mo.toInt ∧ mo.toInt ≤ (sI s 4).toInt + 1) →
          W (pj lw) 100 206 [.val (.ref a), .val (.int al), .val (.int A), .val (.int (gcn A)), .val (.ref p), .val (.int (sI s 4)), .val (.int mm), .val (.int fo), .val (.int oo), .val (.int (sta s)), .val (.int (sI s 12)), .val (.int t), .val (.int o), .val (.int c1'), .val (.int c2'), .val (.int c3'), .val (.int id), .val (.int (1 <<< ((id - 1) &&& 31))), .val (.int sx), .val (.int fa), .val (.int mo), .unset, .unset, .unset, .unset, .unset] [] k n (ob (H1 c a len f) p s) (fun v _ => v = some (.int 1)) := by
        intro sx fa mo hsx hfa hmo
        have K1 : ∀ e, e = adR s sx fa mo → W (pj lw) 100 326 [.val (.ref a), .val (.int al), .val (.int A), .val (.int (gcn A)), .val (.ref p), .val (.int (sI s 4)), .val (.int mm), .val (.int fo), .val (.int oo), .val (.int (sta s)), .val (.int (sI s 12)), .val (.int t), .val (.int o), .val (.int c1'), .val (.int c2'), .val (.int c3'), .val (.int id), .val (.int (1 <<< ((id - 1) &&& 31))), .val (.int sx), .val (.int fa), .val (.int mo), .val (.int e), .unset, .unset, .unset, .unset] [] k n (ob (H1 c a len f) p s) (fun v _ => v = some (.int 1)) := by
          intro e he
          by_cases hneg : adR s sx fa mo < 0
          · have eS' : adS s sx fa mo = s := if_pos hneg
            have g0 : ¬ 0 < e := by rw [he, lt32]; rw [lt32] at hneg; simp only [Int32.reduceToInt] at *; omega
            simp +decide only [w100_326, w100_328, w100_330, w100_332, w100_334, w100_337, w100_339, w100_344, w100_346, w100_387, isO_put, Option.toList_some, List.cons_append, List.nil_append, true_and, and_true, ↓reduceIte, t9 hE, eS', ← he, g0]
            exact W_fa 12 rfl KN
          · have eS' : adS s sx fa mo = adN s sx fa mo := if_neg hneg
            obtain ⟨z1, z2, z3, z4⟩ := ad_f hE hneg
            obtain ⟨I1, st1⟩ := I8_ad hI hneg
            obtain ⟨f4, f12, f13⟩ := adN_f (s := s) (a := sx) (b := fa) (c := mo)
            have g0 : 0 < e := by rw [he, z4, lt32]; simp only [Int32.reduceToInt]; omega
            have KK := fun mm fo I => K (adN s sx fa mo) (sI s 4 + 1) mm fo oo 0 0 I f4.symm st1.symm f12.symm
            by_cases x1 : sx = 1
            · have x1' := eq_true x1
              by_cases x2 : fa = 0
              · have x2' := eq_true x2
                rw [if_pos x1, if_pos x2] at I1
                simp +decide only [w100_326, w100_328, w100_330, w100_332, w100_334, w100_337, w100_339, w100_344, w100_346, w100_349, w100_351, w100_352, w100_355, w100_357, w100_358, w100_360, w100_361, w100_362i, w100_364, w100_366, w100_369, w100_371, w100_372, w100_374, w100_375, w100_376i, w100_378, w100_381, w100_382i, w100_384, w100_385i, w100_387, isO_put, Option.toList_some, List.cons_append, List.nil_append, true_and, and_true, ↓reduceIte, t9 hE, eS', ← he, g0, x1', x2']
                exact W_fa 12 rfl (KK _ _ I1)
              · rw [if_pos x1, if_neg x2] at I1
                simp +decide only [w100_326, w100_328, w100_330, w100_332, w100_334, w100_337, w100_339, w100_344, w100_346, w100_349, w100_351, w100_352, w100_355, w100_357, w100_358, w100_360, w100_361, w100_362i, w100_364, w100_366, w100_378, w100_381, w100_382i, w100_384, w100_385i, w100_387, isO_put, Option.toList_some, List.cons_append, List.nil_append, true_and, and_true, ↓reduceIte, t9 hE, eS', ← he, g0, x1', x2]
                exact W_fa 12 rfl (KK _ _ I1)
            · by_cases x2 : fa = 0
              · have x2' := eq_true x2
                rw [if_neg x1, if_pos x2] at I1
                simp +decide only [w100_326, w100_328, w100_330, w100_332, w100_334, w100_337, w100_339, w100_344, w100_346, w100_349, w100_351, w100_352, w100_364, w100_366, w100_369, w100_371, w100_372, w100_374, w100_375, w100_376i, w100_378, w100_381, w100_382i, w100_384, w100_385i, w100_387, isO_put, Option.toList_some, List.cons_append, List.nil_append, true_and, and_true, ↓reduceIte, t9 hE, eS', ← he, g0, x1, x2']
                exact W_fa 12 rfl (KK _ _ I1)
              · rw [if_neg x1, if_neg x2] at I1
                simp +decide only [w100_326, w100_328, w100_330, w100_332, w100_334, w100_337, w100_339, w100_344, w100_346, w100_349, w100_351, w100_352, w100_364, w100_366, w100_378, w100_381, w100_382i, w100_384, w100_385i, w100_387, isO_put, Option.toList_some, List.cons_append, List.nil_append, true_and, and_true, ↓reduceIte, t9 hE, eS', ← he, g0, x1, x2]
                exact W_fa 12 rfl (KK _ _ I1)
        by_cases c32 : sI s 4 = 32
        · have e : adR s sx fa mo = -1 := by unfold adR; rw [if_pos (by rw [c32]; decide)]
          have K1' := K1 _ e.symm
          have c32' := eq_true c32
          simp +decide only [w100_206, w100_208, w100_209, w100_210, w100_212, w100_214, w100_216, w100_219, w100_220i, w100_222, ↓reduceIte, c32']
          exact K1'
        have l32 : ¬ ¬ sI s 4 < 32 := fun q => c32 (by rw [eq32]; rw [lt32] at q; simp only [Int32.reduceToInt] at *; omega)
        by_cases x0 : sx = 0
        · have e : adR s sx fa mo = -2 := by unfold adR; rw [if_neg l32, if_pos (by rw [x0]; decide)]
          have K1' := K1 _ e.symm
          have x0' := eq_true x0
          simp +decide only [w100_206, w100_208, w100_209, w100_210, w100_212, w100_214, w100_216, w100_225, w100_227, w100_253, w100_255i, w100_257, ↓reduceIte, c32, x0']
          exact K1'
        have x12 : ¬ (¬ sx = 1 ∧ ¬ sx = 2) := fun q => by rcases hsx with h | h | h; exact x0 h; exact q.1 h; exact q.2 h
        have en : ∀ q : Int32, 0 ≤ q.toInt ∧ q.toInt ≤ (sI s 4).toInt + 1 → ¬ q = 0 → ((sI s 4 < q) → vid s q = false) ∧ (¬ sI s 4 < q → vid s q = true ∧ (1 ≤ q.toInt ∧ q.toInt ≤ (sI s 4).toInt)) := fun q hq h0 => by
          have : 1 ≤ q.toInt := by rw [eq32] at h0; simp only [Int32.reduceToInt] at h0; omega
          refine ⟨fun g => vid_no hE (by rw [lt32] at g; omega), fun g => ?_⟩
          have g' : 1 ≤ q.toInt ∧ q.toInt ≤ (sI s 4).toInt := by rw [lt32] at g; omega
          exact ⟨(vid_i hE g').1, g'⟩
        have mbit : ∀ q : Int32, 1 ≤ q.toInt ∧ q.toInt ≤ (sI s 4).toInt → (mm >>> ((q - 1) &&& 31) &&& 1 = 0 ↔ ¬ sA s 1 q.toNatClampNeg = 1) ∧ (sA s 1 q.toNatClampNeg = 1 ∨ sA s 1 q.toNatClampNeg = 2) := fun q hq => by
          have im : (q - 1).toInt = q.toInt - 1 := isb (by simp only [Int32.reduceToInt]; omega) (by simp only [Int32.reduceToInt]; omega)
          have imn : (q - 1).toNatClampNeg = q.toNatClampNeg - 1 := by rw [cln, cln]; omega
          obtain ⟨u1, u2, u3, u4⟩ := hI.2.2.1 q.toNatClampNeg (vid_i hE hq).2.1 (vid_i hE hq).2.2
          refine ⟨?_, u1⟩
          rw [shr_1 (by omega), imn, u2]
          exact ⟨fun g q => (by rw [decide_eq_true q] at g; cases g), fun g => decide_eq_false g⟩
        have ngt : ¬ sI s 4 < 0 := by rw [lt32]; simp only [Int32.reduceToInt]; omega
        by_cases f0 : fa = 0
        · by_cases m0 : mo = 0
          · have e : adR s sx fa mo = sI s 4 + 1 := by unfold adR; rw [if_neg l32, if_neg x12, if_neg (fun q => q.elim (fun z => z.2 m0) (fun z => z.1 f0)), if_pos f0]
            have K1' := K1 _ e.symm
            subst f0 m0
            simp +decide only [w100_206, w100_208, w100_209, w100_210, w100_212, w100_214, w100_216, w100_225, w100_227, w100_230, w100_232, w100_235, w100_236, w100_240, w100_242, w100_245, w100_246, w100_250, w100_260, w100_262, w100_264, w100_267, w100_269, w100_271, w100_281, w100_283, w100_305, w100_307, ↓reduceIte, c32, x0, ngt]
            exact K1'
          · have e : adR s sx fa mo = -2 := by unfold adR; rw [if_neg l32, if_neg x12, if_pos (Or.inl ⟨f0, m0⟩)]
            have K1' := K1 _ e.symm
            have f0' := eq_true f0
            simp +decide only [w100_206, w100_208, w100_209, w100_210, w100_212, w100_214, w100_216, w100_225, w100_227, w100_230, w100_232, w100_235, w100_236, w100_240, w100_242, w100_249, w100_250, w100_253, w100_255i, w100_257, ↓reduceIte, c32, x0, f0', m0]
            exact K1'
        by_cases m0 : mo = 0
        · have e : adR s sx fa mo = -2 := by unfold adR; rw [if_neg l32, if_neg x12, if_pos (Or.inr ⟨f0, m0⟩)]
          have K1' := K1 _ e.symm
          have m0' := eq_true m0
          simp +decide only [w100_206, w100_208, w100_209, w100_210, w100_212, w100_214, w100_216, w100_225, w100_227, w100_230, w100_232, w100_239, w100_240, w100_242, w100_245, w100_246, w100_250, w100_253, w100_255i, w100_257, ↓reduceIte, c32, x0, f0, m0']
          exact K1'
        have e0 : adR s sx fa mo = if vid s fa = false then -3 else if vid s mo = false then -3 else if ¬ sA s 1 fa.toNatClampNeg = 1 then -4 else if ¬ sA s 1 mo.toNatClampNeg = 2 then -4 else sI s 4 + 1 := by
          unfold adR; rw [if_neg l32, if_neg x12, if_neg (fun q => q.elim (fun z => f0 z.1) (fun z => m0 z.2)), if_neg f0]
        by_cases gf : sI s 4 < fa
        · have e : adR s sx fa mo = -3 := by rw [e0, if_pos ((en fa hfa f0).1 gf)]
          have K1' := K1 _ e.symm
          simp +decide only [w100_206, w100_208, w100_209, w100_210, w100_212, w100_214, w100_216, w100_225, w100_227, w100_230, w100_232, w100_239, w100_240, w100_242, w100_249, w100_250, w100_260, w100_262, w100_264, w100_274, w100_276i, w100_278, ↓reduceIte, c32, x0, f0, m0, gf]
          exact K1'
        obtain ⟨vf, rf⟩ := (en fa hfa f0).2 gf
        by_cases gm : sI s 4 < mo
        · have e : adR s sx fa mo = -3 := by rw [e0, if_neg (by rw [vf]; decide), if_pos ((en mo hmo m0).1 gm)]
          have K1' := K1 _ e.symm
          simp +decide only [w100_206, w100_208, w100_209, w100_210, w100_212, w100_214, w100_216, w100_225, w100_227, w100_230, w100_232, w100_239, w100_240, w100_242, w100_249, w100_250, w100_260, w100_262, w100_264, w100_267, w100_269, w100_271, w100_274, w100_276i, w100_278, ↓reduceIte, c32, x0, f0, m0, gf, gm]
          exact K1'
        obtain ⟨vm, rm⟩ := (en mo hmo m0).2 gm
        rw [if_neg (by rw [vf]; decide), if_neg (by rw [vm]; decide)] at e0
        obtain ⟨mf1, mf2⟩ := mbit fa rf
        obtain ⟨mm1, mm2⟩ := mbit mo rm
        by_cases bf : mm >>> ((fa - 1) &&& 31) &&& 1 = 0
        · have e : adR s sx fa mo = -4 := by rw [e0, if_pos (mf1.mp bf)]
          have K1' := K1 _ e.symm
          simp +decide only [w100_206, w100_208, w100_209, w100_210, w100_212, w100_214, w100_216, w100_225, w100_227, w100_230, w100_232, w100_239, w100_240, w100_242, w100_249, w100_250, w100_260, w100_262, w100_264, w100_267, w100_269, w100_271, w100_281, w100_283, w100_286, w100_288, w100_290, w100_291, w100_292, w100_293, w100_294, w100_295, w100_298, w100_300i, w100_302, ↓reduceIte, c32, x0, f0, m0, gf, gm, bf]
          exact K1'
        have sf : ¬ ¬ sA s 1 fa.toNatClampNeg = 1 := fun q => bf (mf1.mpr q)
        by_cases bm : mm >>> ((mo - 1) &&& 31) &&& 1 = 0
        · have e : adR s sx fa mo = sI s 4 + 1 := by rw [e0, if_neg sf, if_neg (fun q => q (mm2.resolve_left (mm1.mp bm)))]
          have K1' := K1 _ e.symm
          simp +decide only [w100_206, w100_208, w100_209, w100_210, w100_212, w100_214, w100_216, w100_225, w100_227, w100_230, w100_232, w100_239, w100_240, w100_242, w100_249, w100_250, w100_260, w100_262, w100_264, w100_267, w100_269, w100_271, w100_281, w100_283, w100_286, w100_288, w100_290, w100_291, w100_292, w100_293, w100_294, w100_295, w100_305, w100_307, w100_310, w100_312, w100_314, w100_315, w100_316, w100_317, w100_318, w100_319, ↓reduceIte, c32, x0, f0, m0, gf, gm, bf, bm]
          exact K1'
        · have sm : sA s 1 mo.toNatClampNeg = 1 := Decidable.byContradiction fun q => bm (mm1.mpr q)
          have e : adR s sx fa mo = -4 := by rw [e0, if_neg sf, if_pos (by rw [sm]; decide)]
          have K1' := K1 _ e.symm
          simp +decide only [w100_206, w100_208, w100_209, w100_210, w100_212, w100_214, w100_216, w100_225, w100_227, w100_230, w100_232, w100_239, w100_240, w100_242, w100_249, w100_250, w100_260, w100_262, w100_264, w100_267, w100_269, w100_271, w100_281, w100_283, w100_286, w100_288, w100_290, w100_291, w100_292, w100_293, w100_294, w100_295, w100_305, w100_307, w100_310, w100_312, w100_314, w100_315, w100_316, w100_317, w100_318, w100_319, w100_322, w100_324i, ↓reduceIte, c32, x0, f0, m0, gf, gm, bf, bm]
          exact K1'
      have r2' := rem_rg (x := c2') (m := sI s 4 + 2) R2.1 (by omega)
      have r3' := rem_rg (x := c3') (m := sI s 4 + 2) R3.1 (by omega)
      have rs : (1 : Int32) + (c1' &&& 1) = 1 ∨ (1 : Int32) + (c1' &&& 1) = 2 := by
        have := and_rg (x := c1') (m := 1) (by decide)
        simp only [Int32.reduceToInt] at this
        have e : ((1 : Int32) + (c1' &&& 1)).toInt = 1 + (c1' &&& 1).toInt := ia (by simp only [Int32.reduceToInt]; omega) (by simp only [Int32.reduceToInt]; omega)
        rw [eq32, eq32, e]; simp only [Int32.reduceToInt]; omega
      have z0' : 0 ≤ (0 : Int32).toInt ∧ (0 : Int32).toInt ≤ (sI s 4).toInt + 1 := by simp only [Int32.reduceToInt]; omega
      by_cases e1 : c1' &&& 15 = 15 <;> by_cases e2 : c1' >>> (4 &&& 31) &&& 3 = 0 <;> simp +decide only [w100_145, w100_147, w100_148, w100_151, w100_153, w100_155, w100_156, w100_158, w100_161, w100_162, w100_165, w100_166, w100_168, w100_169, w100_170, w100_171, w100_173, w100_174, w100_176, w100_177, w100_179, w100_181, w100_182, w100_183, w100_184, w100_185, w100_188, w100_190, w100_192, w100_193, w100_194, w100_195i, w100_197, w100_199, w100_201, w100_202, w100_203, w100_204i, true_and, not_false_eq_true, ↓reduceIte, o1, e1, e2, n2]
      · exact O1 _ _ _ (Or.inl rfl) z0' z0'
      · exact O1 _ _ _ (Or.inl rfl) (by omega) (by omega)
      · exact O1 _ _ _ (Or.inr rs) z0' z0'
      · exact O1 _ _ _ (Or.inr rs) (by omega) (by omega)
    by_cases o2 : o = 2
    · subst o2
      have ra := rem_rg (x := c2') (m := A + 1) R2.1 (by omega)
      have ra' : (c2' % (A + 1) + 1).toInt = (c2' % (A + 1)).toInt + 1 := ia (by simp only [Int32.reduceToInt]; omega) (by simp only [Int32.reduceToInt]; omega)
      have rb := rem_rg (x := c3') (m := A + 1) R3.1 (by omega)
      simp +decide only [w100_145, w100_147, w100_148, w100_390, w100_392, w100_393, w100_396, w100_398, w100_399, w100_400, w100_401, w100_402, w100_403, w100_404, w100_406, w100_408, w100_409, w100_410, w100_411, w100_412, true_and, not_false_eq_true, ↓reduceIte, nA]
      generalize c2' % (A + 1) + 1 = xa at *
      generalize c3' % (A + 1) = xb at *
      by_cases g1 : sI s 4 < id
      · have vi := vid_no hE (i := id) (by rw [lt32] at g1; omega)
        have e : obR s id xa xb = -5 := by unfold obR; rw [if_pos vi]
        have eS' : obS s id xa xb = s := if_neg (by rw [e]; decide)
        simp +decide only [w100_414, w100_416, w100_418, w100_421, w100_423, w100_444, w100_446, w100_448, w100_450, w100_452, w100_454, w100_457, w100_459, w100_464, w100_466, w100_479, isO_put, Option.toList_some, List.cons_append, List.nil_append, true_and, and_true, ↓reduceIte, g1, t10 hE, e, eS']
        exact W_fa 12 rfl KN
      have hid' : 1 ≤ id.toInt ∧ id.toInt ≤ (sI s 4).toInt := by rw [lt32] at g1; omega
      obtain ⟨vi, bi⟩ := vid_i hE hid'
      by_cases g2 : A < xa
      · have e : obR s id xa xb = -6 := by unfold obR; rw [if_neg (by rw [vi]; decide), if_neg (fun q => by have := of_decide_eq_true q.1; rw [hT.2.1] at this; exact this.2 g2)]
        have eS' : obS s id xa xb = s := if_neg (by rw [e]; decide)
        simp +decide only [w100_414, w100_416, w100_418, w100_426, w100_428, w100_429, w100_438, w100_440, w100_444, w100_446, w100_448, w100_450, w100_452, w100_454, w100_457, w100_459, w100_464, w100_466, w100_479, isO_put, Option.toList_some, List.cons_append, List.nil_append, true_and, and_true, ↓reduceIte, g1, g2, t10 hE, e, eS']
        exact W_fa 12 rfl KN
      by_cases g3 : xb < 1
      · have e : obR s id xa xb = -6 := by unfold obR; rw [if_neg (by rw [vi]; decide), if_neg (fun q => by have := of_decide_eq_true q.2; exact this.1 g3)]
        have eS' : obS s id xa xb = s := if_neg (by rw [e]; decide)
        simp +decide only [w100_414, w100_416, w100_418, w100_426, w100_428, w100_429, w100_432, w100_434, w100_435, w100_438, w100_440, w100_444, w100_446, w100_448, w100_450, w100_452, w100_454, w100_457, w100_459, w100_464, w100_466, w100_479, isO_put, Option.toList_some, List.cons_append, List.nil_append, true_and, and_true, ↓reduceIte, g1, g2, g3, t10 hE, e, eS']
        exact W_fa 12 rfl KN
      have g2' := g2; have g3' := g3
      rw [lt32] at g2' g3'; simp only [Int32.reduceToInt] at g3'
      have e : obR s id xa xb = 0 := by
        unfold obR; rw [if_neg (by rw [vi]; decide), if_pos ⟨decide_eq_true ⟨by rw [lt32]; simp only [Int32.reduceToInt]; omega, by rw [hT.2.1]; exact g2⟩, decide_eq_true ⟨g3, by rw [hT.2.1, lt32]; omega⟩⟩]
      have eS' : obS s id xa xb = oS s id.toNatClampNeg (sA s 10 (xa * 5 + xb).toNatClampNeg) := if_pos e
      have gi := (gi_i hT (u := xa) (v := xb) (by omega) (by omega)).2
      have I1 := I8_oS (i := id) (v := sA s 10 (xa * 5 + xb).toNatClampNeg) hI hid' gi.1 (Iv_oS hI.1 (by omega))
      obtain ⟨s1', s2', s3'⟩ := sta_oS (s := s) (i := id) (v := sA s 10 (xa * 5 + xb).toNatClampNeg)
      simp +decide only [w100_414, w100_416, w100_418, w100_426, w100_428, w100_429, w100_432, w100_434, w100_435, w100_443, w100_444, w100_446, w100_448, w100_450, w100_452, w100_454, w100_457, w100_459, w100_464, w100_466, w100_469, w100_471, w100_473, w100_474i, w100_476, w100_477i, w100_479, isO_put, Option.toList_some, List.cons_append, List.nil_append, true_and, and_true, ↓reduceIte, g1, g2, g3, t10 hE, e, eS']
      exact W_fa 12 rfl (K _ _ _ _ _ _ _ I1 s2'.symm s1'.symm s3'.symm)
    by_cases o3 : o = 3
    · subst o3
      by_cases g1 : sI s 4 < id
      · have vi := vid_no hE (i := id) (by rw [lt32] at g1; omega)
        have e : unR s id = -5 := by unfold unR; rw [if_neg (by rw [vi]; decide)]
        have eS' : unS s id = s := if_neg (by rw [vi]; decide)
        simp +decide only [w100_145, w100_147, w100_148, w100_390, w100_392, w100_393, w100_482, w100_484, w100_485, w100_488, w100_490, w100_492, w100_495, w100_497, w100_501, w100_503, w100_505, w100_507, w100_510, w100_512, w100_517, w100_519, w100_534, isO_put, Option.toList_some, List.cons_append, List.nil_append, true_and, and_true, ↓reduceIte, g1, t11 hE, e, eS']
        exact W_fa 12 rfl KN
      have hid' : 1 ≤ id.toInt ∧ id.toInt ≤ (sI s 4).toInt := by rw [lt32] at g1; omega
      obtain ⟨vi, bi⟩ := vid_i hE hid'
      have e : unR s id = 0 := if_pos vi
      have eS' : unS s id = oS s id.toNatClampNeg (-1) := if_pos vi
      have Iu := Iv_un (i := id) hI.1
      rw [eS'] at Iu
      have I1 := I8_un (i := id) hI hid' Iu
      obtain ⟨s1', s2', s3'⟩ := sta_oS (s := s) (i := id) (v := -1)
      simp +decide only [w100_145, w100_147, w100_148, w100_390, w100_392, w100_393, w100_482, w100_484, w100_485, w100_488, w100_490, w100_492, w100_500, w100_501, w100_503, w100_505, w100_507, w100_510, w100_512, w100_517, w100_519, w100_522, w100_524, w100_526, w100_527, w100_528, w100_529i, w100_531, w100_532i, w100_534, isO_put, Option.toList_some, List.cons_append, List.nil_append, true_and, and_true, ↓reduceIte, g1, t11 hE, e, eS']
      exact W_fa 12 rfl (K _ _ _ _ _ _ _ I1 s2'.symm s1'.symm s3'.symm)
    by_cases o4 : o = 4
    · subst o4
      obtain ⟨I1, q1, q2, q3⟩ := I8_sd (v := csd (f (t + 1).toNatClampNeg)) hI
      simp +decide only [w100_145, w100_147, w100_148, w100_390, w100_392, w100_393, w100_482, w100_484, w100_485, w100_537, w100_539, w100_540, w100_543, w100_545, w100_546, w100_548, w100_549, w100_550, w100_551, w100_554, isO_put, Option.toList_none, List.nil_append, true_and, and_true, ↓reduceIte, y3, y4, b1, t12]
      exact W_fa 12 rfl (K _ _ _ _ _ _ _ I1 q2.symm q1.symm q3.symm)
    by_cases o5 : o = 5
    · subst o5
      simp +decide only [w100_145, w100_147, w100_148, w100_390, w100_392, w100_393, w100_482, w100_484, w100_485, w100_537, w100_539, w100_540, w100_557, w100_559, w100_560, w100_563, w100_565, isO_put, true_and, and_true, ↓reduceIte]
      refine t15 hE fun z q1 q2 => ?_
      obtain ⟨I1, r1, r2, r3⟩ := I8_dr hI q1 q2
      simp +decide only [w100_568, w100_570, w100_575, w100_576i, w100_578, Option.toList_some, List.cons_append, List.nil_append, ↓reduceIte]
      exact W_fa 12 rfl (K _ _ _ _ _ _ _ I1 r2.symm r1.symm r3.symm)
    by_cases o6 : o = 6
    · subst o6
      have T := fun (Q : Option Value → AH → Prop) => t16 (lw := lw) (H := H1 c a len f) (p := p) (Q := Q) (i := id) hE hI.1.al4
      by_cases g1 : sI s 4 < id
      · have vi := vid_no hE (i := id) (by rw [lt32] at g1; omega)
        have e : odR s id = -5 := by unfold odR; rw [if_pos vi]
        have eS' : odS s id = s := if_neg (by rw [e]; decide)
        simp +decide only [w100_145, w100_147, w100_148, w100_390, w100_392, w100_393, w100_482, w100_484, w100_485, w100_537, w100_539, w100_540, w100_557, w100_559, w100_560, w100_581, w100_583, w100_585, w100_588, w100_590, w100_592, w100_595, w100_597, w100_611, w100_613, w100_615, w100_617, w100_620, w100_622, w100_627, w100_629, w100_642, isO_put, Option.toList_some, List.cons_append, List.nil_append, true_and, and_true, ↓reduceIte, g1, T, e, eS']
        exact W_fa 12 rfl KN
      have hid' : 1 ≤ id.toInt ∧ id.toInt ≤ (sI s 4).toInt := by rw [lt32] at g1; omega
      obtain ⟨vi, bi⟩ := vid_i hE hid'
      by_cases g2 : sI s 12 = 0
      · have e : odR s id = -7 := by unfold odR; rw [if_neg (by rw [vi]; decide), if_pos g2]
        have eS' : odS s id = s := if_neg (by rw [e]; decide)
        have g2' := eq_true g2
        simp +decide only [w100_145, w100_147, w100_148, w100_390, w100_392, w100_393, w100_482, w100_484, w100_485, w100_537, w100_539, w100_540, w100_557, w100_559, w100_560, w100_581, w100_583, w100_585, w100_588, w100_590, w100_592, w100_600, w100_602, w100_609, w100_611, w100_613, w100_615, w100_617, w100_620, w100_622, w100_627, w100_629, w100_642, isO_put, Option.toList_some, List.cons_append, List.nil_append, true_and, and_true, ↓reduceIte, g1, g2', T, e, eS']
        exact W_fa 12 rfl KN
      have e : odR s id = 0 := by unfold odR; rw [if_neg (by rw [vi]; decide), if_neg g2]
      have eS' : odS s id = oS s id.toNatClampNeg (sA s 10 (sA s 5 id.toNatClampNeg * 5 + sA s 6 id.toNatClampNeg).toNatClampNeg) := if_pos e
      have al' := hI.1.al g2 bi.1 bi.2
      have gi := (gi_i hT al'.1 al'.2).2
      have I1 := I8_oS (i := id) (v := sA s 10 (sA s 5 id.toNatClampNeg * 5 + sA s 6 id.toNatClampNeg).toNatClampNeg) hI hid' gi.1 (Iv_oS hI.1 (by omega))
      obtain ⟨s1', s2', s3'⟩ := sta_oS (s := s) (i := id) (v := sA s 10 (sA s 5 id.toNatClampNeg * 5 + sA s 6 id.toNatClampNeg).toNatClampNeg)
      simp +decide only [w100_145, w100_147, w100_148, w100_390, w100_392, w100_393, w100_482, w100_484, w100_485, w100_537, w100_539, w100_540, w100_557, w100_559, w100_560, w100_581, w100_583, w100_585, w100_588, w100_590, w100_592, w100_600, w100_602, w100_605, w100_606, w100_611, w100_613, w100_615, w100_617, w100_620, w100_622, w100_627, w100_629, w100_632, w100_634, w100_636, w100_637i, w100_639, w100_640i, w100_642, isO_put, Option.toList_some, List.cons_append, List.nil_append, true_and, and_true, ↓reduceIte, g1, g2, T, e, eS']
      exact W_fa 12 rfl (K _ _ _ _ _ _ _ I1 s2'.symm s1'.symm s3'.symm)
    simp +decide only [w100_145, w100_147, w100_148, w100_390, w100_392, w100_393, w100_482, w100_484, w100_485, w100_537, w100_539, w100_540, w100_557, w100_559, w100_560, w100_581, w100_583, w100_585, w100_645, w100_647, isO_put, true_and, and_true, ↓reduceIte, o1, o2, o3, o4, o5, o6]
    refine t18 hE fun z q1 q2 => ?_
    obtain ⟨I1, r1, r2, r3⟩ := I8_el hI q1 q2
    rw [show uI (uI (uI z 14 (elS s)) 15 (elF s)) 13 1 = eS z (elS s) (elF s) from rfl]
    have KK := K _ (sI s 4) mm fo oo (elS s) (sI s 12) I1 r2.symm r1.symm r3.symm
    by_cases b : elB s = true
    · have e : elS s = 2 := if_pos b
      have nz : ¬ sI s 4 = 0 := fun q => by
        obtain ⟨i, a1, a2, -⟩ := emp_iff.mp b
        unfold nN at a2; rw [q] at a2; simp only [Int32.reduceToInt] at a2; omega
      rw [e] at KK ⊢
      simp +decide only [w100_650i, w100_652, w100_654, w100_655, w100_658, w100_660, w100_661, w100_666, w100_668, Option.toList_some, List.cons_append, List.nil_append, ↓reduceIte, nz]
      exact W_fa 12 rfl KK
    · have e : elS s = 1 := if_neg b
      rw [e] at KK ⊢
      by_cases nz : sI s 4 = 0
      · have nz' := eq_true nz
        simp +decide only [w100_650i, w100_652, w100_654, w100_655, w100_666, w100_668, w100_671, w100_673, w100_674, Option.toList_some, List.cons_append, List.nil_append, ↓reduceIte, nz']
        exact W_fa 12 rfl KK
      · simp +decide only [w100_650i, w100_652, w100_654, w100_655, w100_666, w100_668, Option.toList_some, List.cons_append, List.nil_append, ↓reduceIte, nz]
        exact W_fa 12 rfl KK
theorem I8_ini {g : Int32} (hA : A4 A) : I8 (ini0 A g) A 0 0 0 ∧ sta (ini0 A g) = 0 ∧ sI (ini0 A g) 4 = 0 ∧ sI (ini0 A g) 12 = 0 := by
  obtain ⟨f4, f12, f13⟩ := nN_0 (g := g) hA
  have n0 : nN (ini0 A g) = 0 := by unfold nN; rw [f4]; rfl
  refine ⟨⟨Iv_ini hA, Or.inl f13, fun j a b => by omega, fun g a b => ⟨bt_0 b, bt_0 b, bt_0 b⟩⟩, by unfold sta; rw [if_pos f13], f4, f12⟩
set_option maxRecDepth 100000 in
set_option maxHeartbeats 1000000 in
theorem law_ok (N a len : Nat) (f : Nat → Int32) (ha : a < N) (hl : len ≤ 260) : Cl (pj lw) 100 [.ref a] (H1 N a len f) (fun v _ => v = some (.int 1)) := by
  have hlen : (len.toInt32).toInt = len := len32 (by omega)
  have y1 : (isA (H1 N a len f) a = true) = True := by rw [isA_H1]; exact eq_self _ ▸ rfl
  have y2 : alen (H1 N a len f) a = len := alen_H1
  have y3 : ∀ i, (inA (H1 N a len f) a .int i = true) = (0 ≤ i.toInt ∧ i.toInt < len) := fun i => propext inA_H1
  have y4 : ∀ i, elt (H1 N a len f) a i = .int (f i.toNatClampNeg) := fun i => elt_H1
  have e1 : (H1 N a len f).1 = N := rfl
  have main : ∀ al : Int32, W (pj lw) 100 12 [.val (.ref a), .unset, .unset, .unset, .unset, .unset, .unset, .unset, .unset, .unset, .unset, .unset, .unset, .unset, .unset, .unset, .unset, .unset, .unset, .unset, .unset, .unset, .unset, .unset, .unset, .unset] [.int al] 0 0 (H1 N a len f) (fun v _ => v = some (.int 1)) := fun al => by
    have go : W (pj lw) 100 33 [.val (.ref a), .val (.int al), .val (.int (cl 2 4 al)), .unset, .unset, .unset, .unset, .unset, .unset, .unset, .unset, .unset, .unset, .unset, .unset, .unset, .unset, .unset, .unset, .unset, .unset, .unset, .unset, .unset, .unset, .unset] [] 0 0 (H1 N a len f) (fun v _ => v = some (.int 1)) := by
      have hA : A4 (cl 2 4 al) := cl_A4
      have hg : cl 2 4 al * (cl 2 4 al + 1) / 2 = gcn (cl 2 4 al) := by rcases hA with h | h | h <;> rw [h] <;> decide
      have n2 : ¬ (2 : Int32) = 0 := by decide
      obtain ⟨I0, i1, i2, i3⟩ := I8_ini (g := 777) hA
      have L := lp (p := N) (c := N + 14) (f := f) (k := 14) (n := 463) (al := al) ha hl (len + 4) 1 (ini0 (cl 2 4 al) 777) 0 0 0 I0 (by decide) (by simp only [Int32.reduceToInt]; omega) (by simp only [Int32.reduceToInt]; omega)
      rw [i1, i2, i3] at L
      simp +decide only [w100_33, w100_34, w100_35, w100_36, w100_37, w100_38, w100_39, w100_40, w100_41, w100_44, w100_45, w100_46, w100_49, w100_52, w100_54, w100_55, w100_57, w100_58, w100_60, w100_61, w100_63, w100_64, w100_66, w100_67, w100_69, w100_70, w100_72, w100_73, isO_put, cs_nil, cs_ref, Option.toList_none, List.nil_append, true_and, and_true, ↓reduceIte, Nat.reduceAdd, Nat.reduceLeDiff, Int32.reduceAdd, Int64.reduceAdd, Nat.add_zero, Nat.zero_add, hg, mkO_ob, e1, t1]
      simp only [H1_c]
      exact L
    by_cases g1 : al < 2
    · have ec : cl 2 4 al = 2 := by unfold cl; rw [if_pos g1]
      rw [ec] at go
      simp +decide only [w100_12, w100_13, w100_14, w100_15, w100_18, w100_19, w100_32, ↓reduceIte, g1]; exact go
    · by_cases g2 : 4 < al
      · have ec : cl 2 4 al = 4 := by unfold cl; rw [if_neg g1, if_pos g2]
        rw [ec] at go
        simp +decide only [w100_12, w100_13, w100_14, w100_15, w100_22, w100_23, w100_24, w100_27, w100_28, w100_32, ↓reduceIte, g1, g2]; exact go
      · have ec : cl 2 4 al = al := by unfold cl; rw [if_neg g1, if_neg g2]
        rw [ec] at go
        simp +decide only [w100_12, w100_13, w100_14, w100_15, w100_22, w100_23, w100_24, w100_31, w100_32, ↓reduceIte, g1, g2]; exact go
  rw [c100]
  by_cases l0 : 0 < len.toInt32
  · have l0' := l0; rw [lt32] at l0'; simp only [Int32.reduceToInt] at l0'
    have b0 : 0 ≤ (0 : Int32).toInt ∧ (0 : Int32).toInt < (len : Int) := by simp only [Int32.reduceToInt]; omega
    have y30 : inA (H1 N a len f) a .int 0 = true := by rw [y3]; exact b0
    simp +decide only [w100_0, w100_1, w100_2, w100_5, w100_6, w100_7, w100_8, true_and, ↓reduceIte, Int32.reduceToNatClampNeg, y1, y2, y30, y4, l0]
    exact main _
  · simp +decide only [w100_0, w100_1, w100_2, w100_11, true_and, ↓reduceIte, y1, y2, l0]
    exact main 3
end X8

end Jvm.JX.Lw
namespace Jvm.Pilot.@@N@@
open Jvm Jvm.ClassFile Sem Op Lib Jvm.Free Jvm.Stand Jvm.LawKit Jvm.RoadKit Bundle Jvm.Pilot.@@N@@.Jvm.D Jvm.JX Jvm.JX.Pj Jvm.JX.Lw
def nmL : List (Nat × MethodName) := [(1, ⟨"PedigreeCheck", "<init>", "(II)V"⟩), (2, ⟨"PedigreeCheck", "clampSeed", "(I)I"⟩), (3, ⟨"PedigreeCheck", "buildGenotypes", "()V"⟩), (4, ⟨"PedigreeCheck", "buildKidMasks", "()V"⟩), (5, ⟨"PedigreeCheck", "childMaskFor", "(II)I"⟩), (6, ⟨"PedigreeCheck", "compatible", "(III)Z"⟩), (7, ⟨"PedigreeCheck", "validId", "(I)Z"⟩), (8, ⟨"PedigreeCheck", "validAllele", "(I)Z"⟩), (9, ⟨"PedigreeCheck", "addIndividual", "(III)I"⟩), (10, ⟨"PedigreeCheck", "observe", "(III)I"⟩), (11, ⟨"PedigreeCheck", "unobserve", "(I)I"⟩), (12, ⟨"PedigreeCheck", "setSeed", "(I)V"⟩), (13, ⟨"PedigreeCheck", "nextDraw", "()I"⟩), (14, ⟨"PedigreeCheck", "inherit", "(I)I"⟩), (15, ⟨"PedigreeCheck", "drop", "()I"⟩), (16, ⟨"PedigreeCheck", "observeDropped", "(I)I"⟩), (17, ⟨"PedigreeCheck", "droppedAllele", "(II)I"⟩), (18, ⟨"PedigreeCheck", "eliminate", "()I"⟩), (19, ⟨"PedigreeCheck", "loadInit", "()V"⟩), (20, ⟨"PedigreeCheck", "runElimination", "()V"⟩), (21, ⟨"PedigreeCheck", "anyEmpty", "()Z"⟩), (22, ⟨"PedigreeCheck", "isFamilyNumber", "(I)Z"⟩), (23, ⟨"PedigreeCheck", "collectKids", "(I)V"⟩), (24, ⟨"PedigreeCheck", "kidsFit", "(I)Z"⟩), (25, ⟨"PedigreeCheck", "addKidSupport", "(I)V"⟩), (26, ⟨"PedigreeCheck", "hasAssignment", "(I)Z"⟩), (27, ⟨"PedigreeCheck", "reduceFamily", "(I)Z"⟩), (28, ⟨"PedigreeCheck", "applySupport", "(IIII)Z"⟩), (29, ⟨"PedigreeCheck", "status", "()I"⟩), (31, ⟨"PedigreeCheck", "candidateCount", "(I)I"⟩), (32, ⟨"PedigreeCheck", "conflictFamily", "()I"⟩), (33, ⟨"PedigreeCheck", "familySize", "(I)I"⟩), (34, ⟨"PedigreeCheck", "individualCount", "()I"⟩), (100, ⟨"PedigreeCheckL6", "law", "([I)Z"⟩)]
def nm (m : Nat) : MethodName := (nmL.lookup m).getD ⟨"", "", ""⟩
def btL : List (Nat × ByteArray) := [(1, prog_1_method_1_code), (2, prog_1_method_2_code), (3, prog_1_method_3_code), (4, prog_1_method_4_code), (5, prog_1_method_5_code), (6, prog_1_method_6_code), (7, prog_1_method_7_code), (8, prog_1_method_8_code), (9, prog_1_method_9_code), (10, prog_1_method_10_code), (11, prog_1_method_11_code), (12, prog_1_method_12_code), (13, prog_1_method_13_code), (14, prog_1_method_14_code), (15, prog_1_method_15_code), (16, prog_1_method_16_code), (17, prog_1_method_17_code), (18, prog_1_method_18_code), (19, prog_1_method_19_code), (20, prog_1_method_20_code), (21, prog_1_method_21_code), (22, prog_1_method_22_code), (23, prog_1_method_23_code), (24, prog_1_method_24_code), (25, prog_1_method_25_code), (26, prog_1_method_26_code), (27, prog_1_method_27_code), (28, prog_1_method_28_code), (29, prog_1_method_29_code), (31, prog_1_method_31_code), (32, prog_1_method_32_code), (33, prog_1_method_33_code), (34, prog_1_method_34_code), (100, code)]
def bt (m : Nat) : ByteArray := (btL.lookup m).getD ⟨#[]⟩
def fnL : List (String × String) := [("alleleCount", "I"), ("genoCount", "I"), ("fullMask", "I"), ("gen", "I"), ("n", "I"), ("sexOf", "[I"), ("fatherOf", "[I"), ("motherOf", "[I"), ("obsG", "[I"), ("dropP", "[I"), ("dropM", "[I"), ("cand", "[I"), ("dropValid", "Z"), ("candValid", "Z"), ("lastStatus", "I"), ("conflict", "I"), ("genoA", "[I"), ("genoB", "[I"), ("genoIndex", "[I"), ("kidMask", "[I"), ("kidBuf", "[I"), ("newKid", "[I"), ("kidCount", "I")]
def fn (k : Nat) : String × String := fnL.getD k ("", "")
def RL : List Nat := [1, 2, 3, 4, 5, 6, 7, 8, 9, 10, 11, 12, 13, 14, 15, 16, 17, 18, 19, 20, 21, 22, 23, 24, 25, 26, 27, 28, 29, 31, 32, 33, 34, 100]
def FS : List Nat := [0, 1, 2, 3, 4, 5, 6, 7, 8, 9, 10, 11, 12, 13, 14, 15, 16, 17, 18, 19, 20, 21, 22]
def WF : List Nat := [0, 1, 2, 3, 4, 12, 13, 14, 15, 22]
def FL : List (Nat × Nat × Nat) := [(0, 7, 5), (0, 13, 6), (0, 16, 7), (0, 19, 8), (0, 22, 9), (0, 25, 10), (0, 28, 11), (0, 31, 16), (0, 34, 17), (0, 37, 18), (0, 40, 19), (0, 43, 20), (0, 46, 21), (0, 49, 0), (0, 57, 3), (0, 66, 4), (0, 69, 12), (0, 73, 13), (0, 76, 14), (0, 79, 15), (0, 82, 22), (0, 85, 1), (0, 88, 2)]
def ML : List (Nat × Nat × Nat) := [(0, 53, 2), (0, 60, 3), (0, 63, 4), (0, 91, 5), (0, 95, 6), (0, 99, 7), (0, 103, 8), (0, 107, 13), (0, 111, 14), (0, 114, 19), (0, 117, 22), (0, 120, 26), (0, 123, 20), (0, 126, 21), (0, 130, 27), (0, 133, 23), (0, 137, 24), (0, 140, 25), (0, 143, 28), (1, 9, 1), (1, 13, 9), (1, 17, 10), (1, 20, 11), (1, 24, 12), (1, 28, 15), (1, 32, 16), (1, 35, 18), (1, 38, 34), (1, 41, 29), (1, 44, 31), (1, 47, 17), (1, 51, 32), (1, 54, 33)]
def KI : List (Nat × Nat × Int) := [(0, 106, 1103515245), (1, 12, 2147483647)]
def KJ : List (Nat × Nat × Int) := []
def ATL : List FieldType := [.int]
def cn (j : Nat) : String := if j = 0 then "PedigreeCheck" else "PedigreeCheckL6"
def own (m : Nat) : Nat := if m < 100 then 0 else 1
def ini (m : Nat) : Bool := m == 1
def rowsOf (m : Nat) : List Jvm.JX.Row := if m < 100 then prows.getD m [] else lrows.getD (m - 100) []
theorem hFL : ∀ t ∈ FL, t.2.2 ∈ FS ∧ Jvm.Cond.fieldLink (cn t.1) t.2.1 "PedigreeCheck" (fn t.2.2).1 (fn t.2.2).2 ∈ tables_1 := (faS ⟨by decide, (List.mem_of_getElem? (i := 10) rfl)⟩ (faS ⟨by decide, (List.mem_of_getElem? (i := 12) rfl)⟩ (faS ⟨by decide, (List.mem_of_getElem? (i := 14) rfl)⟩ (faS ⟨by decide, (List.mem_of_getElem? (i := 16) rfl)⟩ (faS ⟨by decide, (List.mem_of_getElem? (i := 18) rfl)⟩ (faS ⟨by decide, (List.mem_of_getElem? (i := 20) rfl)⟩ (faS ⟨by decide, (List.mem_of_getElem? (i := 22) rfl)⟩ (faS ⟨by decide, (List.mem_of_getElem? (i := 24) rfl)⟩ (faS ⟨by decide, (List.mem_of_getElem? (i := 26) rfl)⟩ (faS ⟨by decide, (List.mem_of_getElem? (i := 28) rfl)⟩ (faS ⟨by decide, (List.mem_of_getElem? (i := 30) rfl)⟩ (faS ⟨by decide, (List.mem_of_getElem? (i := 32) rfl)⟩ (faS ⟨by decide, (List.mem_of_getElem? (i := 34) rfl)⟩ (faS ⟨by decide, (List.mem_of_getElem? (i := 36) rfl)⟩ (faS ⟨by decide, (List.mem_of_getElem? (i := 42) rfl)⟩ (faS ⟨by decide, (List.mem_of_getElem? (i := 64) rfl)⟩ (faS ⟨by decide, (List.mem_of_getElem? (i := 66) rfl)⟩ (faS ⟨by decide, (List.mem_of_getElem? (i := 68) rfl)⟩ (faS ⟨by decide, (List.mem_of_getElem? (i := 70) rfl)⟩ (faS ⟨by decide, (List.mem_of_getElem? (i := 72) rfl)⟩ (faS ⟨by decide, (List.mem_of_getElem? (i := 74) rfl)⟩ (faS ⟨by decide, (List.mem_of_getElem? (i := 48) rfl)⟩ (faS ⟨by decide, (List.mem_of_getElem? (i := 50) rfl)⟩ fa0)))))))))))))))))))))))
theorem hWF : ∀ k ∈ WF, Jvm.Cond.lays "PedigreeCheck" "PedigreeCheck" (fn k).1 (fn k).2 ∈ tables_1 := (faS (List.mem_of_getElem? (i := 37) rfl) (faS (List.mem_of_getElem? (i := 49) rfl) (faS (List.mem_of_getElem? (i := 51) rfl) (faS (List.mem_of_getElem? (i := 43) rfl) (faS (List.mem_of_getElem? (i := 65) rfl) (faS (List.mem_of_getElem? (i := 67) rfl) (faS (List.mem_of_getElem? (i := 69) rfl) (faS (List.mem_of_getElem? (i := 71) rfl) (faS (List.mem_of_getElem? (i := 73) rfl) (faS (List.mem_of_getElem? (i := 75) rfl) fa0))))))))))
theorem hML : ∀ t ∈ ML, t.2.2 ∈ RL ∧ Jvm.Cond.methodLink (cn t.1) t.2.1 (nm t.2.2) ∈ tables_1 := (faS ⟨by decide, (List.mem_of_getElem? (i := 38) rfl)⟩ (faS ⟨by decide, (List.mem_of_getElem? (i := 44) rfl)⟩ (faS ⟨by decide, (List.mem_of_getElem? (i := 52) rfl)⟩ (faS ⟨by decide, (List.mem_of_getElem? (i := 56) rfl)⟩ (faS ⟨by decide, (List.mem_of_getElem? (i := 60) rfl)⟩ (faS ⟨by decide, (List.mem_of_getElem? (i := 82) rfl)⟩ (faS ⟨by decide, (List.mem_of_getElem? (i := 125) rfl)⟩ (faS ⟨by decide, (List.mem_of_getElem? (i := 149) rfl)⟩ (faS ⟨by decide, (List.mem_of_getElem? (i := 175) rfl)⟩ (faS ⟨by decide, (List.mem_of_getElem? (i := 159) rfl)⟩ (faS ⟨by decide, (List.mem_of_getElem? (i := 121) rfl)⟩ (faS ⟨by decide, (List.mem_of_getElem? (i := 179) rfl)⟩ (faS ⟨by decide, (List.mem_of_getElem? (i := 163) rfl)⟩ (faS ⟨by decide, (List.mem_of_getElem? (i := 167) rfl)⟩ (faS ⟨by decide, (List.mem_of_getElem? (i := 187) rfl)⟩ (faS ⟨by decide, (List.mem_of_getElem? (i := 171) rfl)⟩ (faS ⟨by decide, (List.mem_of_getElem? (i := 183) rfl)⟩ (faS ⟨by decide, (List.mem_of_getElem? (i := 191) rfl)⟩ (faS ⟨by decide, (List.mem_of_getElem? (i := 195) rfl)⟩ (faS ⟨by decide, (List.mem_of_getElem? (i := 3) rfl)⟩ (faS ⟨by decide, (List.mem_of_getElem? (i := 111) rfl)⟩ (faS ⟨by decide, (List.mem_of_getElem? (i := 77) rfl)⟩ (faS ⟨by decide, (List.mem_of_getElem? (i := 129) rfl)⟩ (faS ⟨by decide, (List.mem_of_getElem? (i := 134) rfl)⟩ (faS ⟨by decide, (List.mem_of_getElem? (i := 139) rfl)⟩ (faS ⟨by decide, (List.mem_of_getElem? (i := 144) rfl)⟩ (faS ⟨by decide, (List.mem_of_getElem? (i := 154) rfl)⟩ (faS ⟨by decide, (List.mem_of_getElem? (i := 86) rfl)⟩ (faS ⟨by decide, (List.mem_of_getElem? (i := 91) rfl)⟩ (faS ⟨by decide, (List.mem_of_getElem? (i := 96) rfl)⟩ (faS ⟨by decide, (List.mem_of_getElem? (i := 101) rfl)⟩ (faS ⟨by decide, (List.mem_of_getElem? (i := 106) rfl)⟩ (faS ⟨by decide, (List.mem_of_getElem? (i := 116) rfl)⟩ fa0)))))))))))))))))))))))))))))))))
theorem hKI : ∀ t ∈ KI, Jvm.Cond.constant (cn t.1) t.2.1 (Int32.ofInt t.2.2) ∈ tables_1 := (faS (List.mem_of_getElem? (i := 153) rfl) (faS (List.mem_of_getElem? (i := 76) rfl) fa0))
theorem hKJ : ∀ t ∈ KJ, Jvm.Cond.constantLong (cn t.1) t.2.1 (Int64.ofInt t.2.2) ∈ tables_1 := fa0
theorem hAT : ∀ t ∈ ATL, Jvm.Cond.arrayClass t ∈ tables_1 := (faS (List.mem_of_getElem? (i := 9) rfl) fa0)
theorem hr1x0 : ((rowsOf 1).take 40).all (rowOne FL ML KI KJ ATL WF 23 7 bt own ini 1) = true := by decide +kernel
theorem hr1x1 : (((rowsOf 1).drop 40).take 40).all (rowOne FL ML KI KJ ATL WF 23 7 bt own ini 1) = true := by decide +kernel
theorem hr1x2 : (((rowsOf 1).drop 40).drop 40).all (rowOne FL ML KI KJ ATL WF 23 7 bt own ini 1) = true := by decide +kernel
theorem hr1 : (rowsOf 1).all (rowOne FL ML KI KJ ATL WF 23 7 bt own ini 1) = true := (all_td 40 hr1x0 (all_td 40 hr1x1 hr1x2))
theorem hr2 : (rowsOf 2).all (rowOne FL ML KI KJ ATL WF 23 7 bt own ini 2) = true := by decide +kernel
theorem hr3 : (rowsOf 3).all (rowOne FL ML KI KJ ATL WF 23 7 bt own ini 3) = true := by decide +kernel
theorem hr4 : (rowsOf 4).all (rowOne FL ML KI KJ ATL WF 23 7 bt own ini 4) = true := by decide +kernel
theorem hr5 : (rowsOf 5).all (rowOne FL ML KI KJ ATL WF 23 7 bt own ini 5) = true := by decide +kernel
theorem hr6x0 : ((rowsOf 6).take 40).all (rowOne FL ML KI KJ ATL WF 23 7 bt own ini 6) = true := by decide +kernel
theorem hr6x1 : (((rowsOf 6).drop 40).take 40).all (rowOne FL ML KI KJ ATL WF 23 7 bt own ini 6) = true := by decide +kernel
theorem hr6x2 : (((rowsOf 6).drop 40).drop 40).all (rowOne FL ML KI KJ ATL WF 23 7 bt own ini 6) = true := by decide +kernel
theorem hr6 : (rowsOf 6).all (rowOne FL ML KI KJ ATL WF 23 7 bt own ini 6) = true := (all_td 40 hr6x0 (all_td 40 hr6x1 hr6x2))
theorem hr7 : (rowsOf 7).all (rowOne FL ML KI KJ ATL WF 23 7 bt own ini 7) = true := by decide +kernel
theorem hr8 : (rowsOf 8).all (rowOne FL ML KI KJ ATL WF 23 7 bt own ini 8) = true := by decide +kernel
theorem hr9x0 : ((rowsOf 9).take 40).all (rowOne FL ML KI KJ ATL WF 23 7 bt own ini 9) = true := by decide +kernel
theorem hr9x1 : (((rowsOf 9).drop 40).take 40).all (rowOne FL ML KI KJ ATL WF 23 7 bt own ini 9) = true := by decide +kernel
theorem hr9x2 : (((rowsOf 9).drop 40).drop 40).all (rowOne FL ML KI KJ ATL WF 23 7 bt own ini 9) = true := by decide +kernel
theorem hr9 : (rowsOf 9).all (rowOne FL ML KI KJ ATL WF 23 7 bt own ini 9) = true := (all_td 40 hr9x0 (all_td 40 hr9x1 hr9x2))
theorem hr10 : (rowsOf 10).all (rowOne FL ML KI KJ ATL WF 23 7 bt own ini 10) = true := by decide +kernel
theorem hr11 : (rowsOf 11).all (rowOne FL ML KI KJ ATL WF 23 7 bt own ini 11) = true := by decide +kernel
theorem hr12 : (rowsOf 12).all (rowOne FL ML KI KJ ATL WF 23 7 bt own ini 12) = true := by decide +kernel
theorem hr13 : (rowsOf 13).all (rowOne FL ML KI KJ ATL WF 23 7 bt own ini 13) = true := by decide +kernel
theorem hr14 : (rowsOf 14).all (rowOne FL ML KI KJ ATL WF 23 7 bt own ini 14) = true := by decide +kernel
theorem hr15x0 : ((rowsOf 15).take 40).all (rowOne FL ML KI KJ ATL WF 23 7 bt own ini 15) = true := by decide +kernel
theorem hr15x1 : ((rowsOf 15).drop 40).all (rowOne FL ML KI KJ ATL WF 23 7 bt own ini 15) = true := by decide +kernel
theorem hr15 : (rowsOf 15).all (rowOne FL ML KI KJ ATL WF 23 7 bt own ini 15) = true := (all_td 40 hr15x0 hr15x1)
theorem hr16 : (rowsOf 16).all (rowOne FL ML KI KJ ATL WF 23 7 bt own ini 16) = true := by decide +kernel
theorem hr17 : (rowsOf 17).all (rowOne FL ML KI KJ ATL WF 23 7 bt own ini 17) = true := by decide +kernel
theorem hr18x0 : ((rowsOf 18).take 40).all (rowOne FL ML KI KJ ATL WF 23 7 bt own ini 18) = true := by decide +kernel
theorem hr18x1 : ((rowsOf 18).drop 40).all (rowOne FL ML KI KJ ATL WF 23 7 bt own ini 18) = true := by decide +kernel
theorem hr18 : (rowsOf 18).all (rowOne FL ML KI KJ ATL WF 23 7 bt own ini 18) = true := (all_td 40 hr18x0 hr18x1)
theorem hr19 : (rowsOf 19).all (rowOne FL ML KI KJ ATL WF 23 7 bt own ini 19) = true := by decide +kernel
theorem hr20 : (rowsOf 20).all (rowOne FL ML KI KJ ATL WF 23 7 bt own ini 20) = true := by decide +kernel
theorem hr21 : (rowsOf 21).all (rowOne FL ML KI KJ ATL WF 23 7 bt own ini 21) = true := by decide +kernel
theorem hr22 : (rowsOf 22).all (rowOne FL ML KI KJ ATL WF 23 7 bt own ini 22) = true := by decide +kernel
theorem hr23 : (rowsOf 23).all (rowOne FL ML KI KJ ATL WF 23 7 bt own ini 23) = true := by decide +kernel
theorem hr24 : (rowsOf 24).all (rowOne FL ML KI KJ ATL WF 23 7 bt own ini 24) = true := by decide +kernel
theorem hr25 : (rowsOf 25).all (rowOne FL ML KI KJ ATL WF 23 7 bt own ini 25) = true := by decide +kernel
theorem hr26x0 : ((rowsOf 26).take 40).all (rowOne FL ML KI KJ ATL WF 23 7 bt own ini 26) = true := by decide +kernel
theorem hr26x1 : ((rowsOf 26).drop 40).all (rowOne FL ML KI KJ ATL WF 23 7 bt own ini 26) = true := by decide +kernel
theorem hr26 : (rowsOf 26).all (rowOne FL ML KI KJ ATL WF 23 7 bt own ini 26) = true := (all_td 40 hr26x0 hr26x1)
theorem hr27x0 : ((rowsOf 27).take 40).all (rowOne FL ML KI KJ ATL WF 23 7 bt own ini 27) = true := by decide +kernel
theorem hr27x1 : (((rowsOf 27).drop 40).take 40).all (rowOne FL ML KI KJ ATL WF 23 7 bt own ini 27) = true := by decide +kernel
theorem hr27x2 : (((rowsOf 27).drop 40).drop 40).all (rowOne FL ML KI KJ ATL WF 23 7 bt own ini 27) = true := by decide +kernel
theorem hr27 : (rowsOf 27).all (rowOne FL ML KI KJ ATL WF 23 7 bt own ini 27) = true := (all_td 40 hr27x0 (all_td 40 hr27x1 hr27x2))
theorem hr28x0 : ((rowsOf 28).take 40).all (rowOne FL ML KI KJ ATL WF 23 7 bt own ini 28) = true := by decide +kernel
theorem hr28x1 : (((rowsOf 28).drop 40).take 40).all (rowOne FL ML KI KJ ATL WF 23 7 bt own ini 28) = true := by decide +kernel
theorem hr28x2 : (((rowsOf 28).drop 40).drop 40).all (rowOne FL ML KI KJ ATL WF 23 7 bt own ini 28) = true := by decide +kernel
theorem hr28 : (rowsOf 28).all (rowOne FL ML KI KJ ATL WF 23 7 bt own ini 28) = true := (all_td 40 hr28x0 (all_td 40 hr28x1 hr28x2))
theorem hr29 : (rowsOf 29).all (rowOne FL ML KI KJ ATL WF 23 7 bt own ini 29) = true := by decide +kernel
theorem hr31 : (rowsOf 31).all (rowOne FL ML KI KJ ATL WF 23 7 bt own ini 31) = true := by decide +kernel
theorem hr32 : (rowsOf 32).all (rowOne FL ML KI KJ ATL WF 23 7 bt own ini 32) = true := by decide +kernel
theorem hr33 : (rowsOf 33).all (rowOne FL ML KI KJ ATL WF 23 7 bt own ini 33) = true := by decide +kernel
theorem hr34 : (rowsOf 34).all (rowOne FL ML KI KJ ATL WF 23 7 bt own ini 34) = true := by decide +kernel
theorem hr100x0 : ((rowsOf 100).take 40).all (rowOne FL ML KI KJ ATL WF 23 7 bt own ini 100) = true := by decide +kernel
theorem hr100x1 : (((rowsOf 100).drop 40).take 40).all (rowOne FL ML KI KJ ATL WF 23 7 bt own ini 100) = true := by decide +kernel
theorem hr100x2 : ((((rowsOf 100).drop 40).drop 40).take 40).all (rowOne FL ML KI KJ ATL WF 23 7 bt own ini 100) = true := by decide +kernel
theorem hr100x3 : (((((rowsOf 100).drop 40).drop 40).drop 40).take 40).all (rowOne FL ML KI KJ ATL WF 23 7 bt own ini 100) = true := by decide +kernel
theorem hr100x4 : ((((((rowsOf 100).drop 40).drop 40).drop 40).drop 40).take 40).all (rowOne FL ML KI KJ ATL WF 23 7 bt own ini 100) = true := by decide +kernel
theorem hr100x5 : (((((((rowsOf 100).drop 40).drop 40).drop 40).drop 40).drop 40).take 40).all (rowOne FL ML KI KJ ATL WF 23 7 bt own ini 100) = true := by decide +kernel
theorem hr100x6 : ((((((((rowsOf 100).drop 40).drop 40).drop 40).drop 40).drop 40).drop 40).take 40).all (rowOne FL ML KI KJ ATL WF 23 7 bt own ini 100) = true := by decide +kernel
theorem hr100x7 : (((((((((rowsOf 100).drop 40).drop 40).drop 40).drop 40).drop 40).drop 40).drop 40).take 40).all (rowOne FL ML KI KJ ATL WF 23 7 bt own ini 100) = true := by decide +kernel
theorem hr100x8 : ((((((((((rowsOf 100).drop 40).drop 40).drop 40).drop 40).drop 40).drop 40).drop 40).drop 40).take 40).all (rowOne FL ML KI KJ ATL WF 23 7 bt own ini 100) = true := by decide +kernel
theorem hr100x9 : (((((((((((rowsOf 100).drop 40).drop 40).drop 40).drop 40).drop 40).drop 40).drop 40).drop 40).drop 40).take 40).all (rowOne FL ML KI KJ ATL WF 23 7 bt own ini 100) = true := by decide +kernel
theorem hr100x10 : ((((((((((((rowsOf 100).drop 40).drop 40).drop 40).drop 40).drop 40).drop 40).drop 40).drop 40).drop 40).drop 40).take 40).all (rowOne FL ML KI KJ ATL WF 23 7 bt own ini 100) = true := by decide +kernel
theorem hr100x11 : (((((((((((((rowsOf 100).drop 40).drop 40).drop 40).drop 40).drop 40).drop 40).drop 40).drop 40).drop 40).drop 40).drop 40).take 40).all (rowOne FL ML KI KJ ATL WF 23 7 bt own ini 100) = true := by decide +kernel
theorem hr100x12 : ((((((((((((((rowsOf 100).drop 40).drop 40).drop 40).drop 40).drop 40).drop 40).drop 40).drop 40).drop 40).drop 40).drop 40).drop 40).take 40).all (rowOne FL ML KI KJ ATL WF 23 7 bt own ini 100) = true := by decide +kernel
theorem hr100x13 : ((((((((((((((rowsOf 100).drop 40).drop 40).drop 40).drop 40).drop 40).drop 40).drop 40).drop 40).drop 40).drop 40).drop 40).drop 40).drop 40).all (rowOne FL ML KI KJ ATL WF 23 7 bt own ini 100) = true := by decide +kernel
theorem hr100 : (rowsOf 100).all (rowOne FL ML KI KJ ATL WF 23 7 bt own ini 100) = true := (all_td 40 hr100x0 (all_td 40 hr100x1 (all_td 40 hr100x2 (all_td 40 hr100x3 (all_td 40 hr100x4 (all_td 40 hr100x5 (all_td 40 hr100x6 (all_td 40 hr100x7 (all_td 40 hr100x8 (all_td 40 hr100x9 (all_td 40 hr100x10 (all_td 40 hr100x11 (all_td 40 hr100x12 hr100x13)))))))))))))
theorem hrows : RL.all (fun m => (rowsOf m).all (rowOne FL ML KI KJ ATL WF 23 7 bt own ini m)) = true := (all_c hr1 (all_c hr2 (all_c hr3 (all_c hr4 (all_c hr5 (all_c hr6 (all_c hr7 (all_c hr8 (all_c hr9 (all_c hr10 (all_c hr11 (all_c hr12 (all_c hr13 (all_c hr14 (all_c hr15 (all_c hr16 (all_c hr17 (all_c hr18 (all_c hr19 (all_c hr20 (all_c hr21 (all_c hr22 (all_c hr23 (all_c hr24 (all_c hr25 (all_c hr26 (all_c hr27 (all_c hr28 (all_c hr29 (all_c hr31 (all_c hr32 (all_c hr33 (all_c hr34 (all_c hr100 all_n))))))))))))))))))))))))))))))))))
theorem cal1 : CalOk (pj lw) tables_1 "PedigreeCheck" nm bt 1 := ⟨(List.mem_of_getElem? (i := 5) rfl), (List.mem_of_getElem? (i := 2) rfl), ⟨[.int, .int], none, by decide +kernel, rfl⟩, fun h => absurd h (by decide), fun _ => ⟨rfl, (List.mem_of_getElem? (i := 4) rfl)⟩, fun h => absurd h (by decide), fun h => absurd h (by decide), fun _ => ⟨rfl, rfl⟩⟩
theorem cal2 : CalOk (pj lw) tables_1 "PedigreeCheck" nm bt 2 := ⟨(List.mem_of_getElem? (i := 41) rfl), (List.mem_of_getElem? (i := 2) rfl), ⟨[.int], some .int, by decide +kernel, rfl⟩, fun h => absurd h (by decide), fun _ => ⟨rfl, (List.mem_of_getElem? (i := 39) rfl)⟩, fun h => absurd h (by decide), fun _ => (List.mem_of_getElem? (i := 40) rfl), fun h => absurd h (by decide)⟩
theorem cal3 : CalOk (pj lw) tables_1 "PedigreeCheck" nm bt 3 := ⟨(List.mem_of_getElem? (i := 47) rfl), (List.mem_of_getElem? (i := 2) rfl), ⟨[], none, by decide +kernel, rfl⟩, fun h => absurd h (by decide), fun _ => ⟨rfl, (List.mem_of_getElem? (i := 45) rfl)⟩, fun h => absurd h (by decide), fun _ => (List.mem_of_getElem? (i := 46) rfl), fun h => absurd h (by decide)⟩
theorem cal4 : CalOk (pj lw) tables_1 "PedigreeCheck" nm bt 4 := ⟨(List.mem_of_getElem? (i := 55) rfl), (List.mem_of_getElem? (i := 2) rfl), ⟨[], none, by decide +kernel, rfl⟩, fun h => absurd h (by decide), fun _ => ⟨rfl, (List.mem_of_getElem? (i := 53) rfl)⟩, fun h => absurd h (by decide), fun _ => (List.mem_of_getElem? (i := 54) rfl), fun h => absurd h (by decide)⟩
theorem cal5 : CalOk (pj lw) tables_1 "PedigreeCheck" nm bt 5 := ⟨(List.mem_of_getElem? (i := 59) rfl), (List.mem_of_getElem? (i := 2) rfl), ⟨[.int, .int], some .int, by decide +kernel, rfl⟩, fun h => absurd h (by decide), fun _ => ⟨rfl, (List.mem_of_getElem? (i := 57) rfl)⟩, fun h => absurd h (by decide), fun _ => (List.mem_of_getElem? (i := 58) rfl), fun h => absurd h (by decide)⟩
theorem cal6 : CalOk (pj lw) tables_1 "PedigreeCheck" nm bt 6 := ⟨(List.mem_of_getElem? (i := 63) rfl), (List.mem_of_getElem? (i := 2) rfl), ⟨[.int, .int, .int], some .boolean, by decide +kernel, rfl⟩, fun h => absurd h (by decide), fun _ => ⟨rfl, (List.mem_of_getElem? (i := 61) rfl)⟩, fun h => absurd h (by decide), fun _ => (List.mem_of_getElem? (i := 62) rfl), fun h => absurd h (by decide)⟩
theorem cal7 : CalOk (pj lw) tables_1 "PedigreeCheck" nm bt 7 := ⟨(List.mem_of_getElem? (i := 85) rfl), (List.mem_of_getElem? (i := 2) rfl), ⟨[.int], some .boolean, by decide +kernel, rfl⟩, fun h => absurd h (by decide), fun _ => ⟨rfl, (List.mem_of_getElem? (i := 83) rfl)⟩, fun h => absurd h (by decide), fun _ => (List.mem_of_getElem? (i := 84) rfl), fun h => absurd h (by decide)⟩
theorem cal8 : CalOk (pj lw) tables_1 "PedigreeCheck" nm bt 8 := ⟨(List.mem_of_getElem? (i := 128) rfl), (List.mem_of_getElem? (i := 2) rfl), ⟨[.int], some .boolean, by decide +kernel, rfl⟩, fun h => absurd h (by decide), fun _ => ⟨rfl, (List.mem_of_getElem? (i := 126) rfl)⟩, fun h => absurd h (by decide), fun _ => (List.mem_of_getElem? (i := 127) rfl), fun h => absurd h (by decide)⟩
theorem cal9 : CalOk (pj lw) tables_1 "PedigreeCheck" nm bt 9 := ⟨(List.mem_of_getElem? (i := 115) rfl), (List.mem_of_getElem? (i := 2) rfl), ⟨[.int, .int, .int], some .int, by decide +kernel, rfl⟩, fun h => absurd h (by decide), fun _ => ⟨rfl, (List.mem_of_getElem? (i := 113) rfl)⟩, fun _ => ⟨(List.mem_of_getElem? (i := 112) rfl), (List.mem_of_getElem? (i := 114) rfl)⟩, fun h => absurd h (by decide), fun h => absurd h (by decide)⟩
theorem cal10 : CalOk (pj lw) tables_1 "PedigreeCheck" nm bt 10 := ⟨(List.mem_of_getElem? (i := 81) rfl), (List.mem_of_getElem? (i := 2) rfl), ⟨[.int, .int, .int], some .int, by decide +kernel, rfl⟩, fun h => absurd h (by decide), fun _ => ⟨rfl, (List.mem_of_getElem? (i := 79) rfl)⟩, fun _ => ⟨(List.mem_of_getElem? (i := 78) rfl), (List.mem_of_getElem? (i := 80) rfl)⟩, fun h => absurd h (by decide), fun h => absurd h (by decide)⟩
theorem cal11 : CalOk (pj lw) tables_1 "PedigreeCheck" nm bt 11 := ⟨(List.mem_of_getElem? (i := 133) rfl), (List.mem_of_getElem? (i := 2) rfl), ⟨[.int], some .int, by decide +kernel, rfl⟩, fun h => absurd h (by decide), fun _ => ⟨rfl, (List.mem_of_getElem? (i := 131) rfl)⟩, fun _ => ⟨(List.mem_of_getElem? (i := 130) rfl), (List.mem_of_getElem? (i := 132) rfl)⟩, fun h => absurd h (by decide), fun h => absurd h (by decide)⟩
theorem cal12 : CalOk (pj lw) tables_1 "PedigreeCheck" nm bt 12 := ⟨(List.mem_of_getElem? (i := 138) rfl), (List.mem_of_getElem? (i := 2) rfl), ⟨[.int], none, by decide +kernel, rfl⟩, fun h => absurd h (by decide), fun _ => ⟨rfl, (List.mem_of_getElem? (i := 136) rfl)⟩, fun _ => ⟨(List.mem_of_getElem? (i := 135) rfl), (List.mem_of_getElem? (i := 137) rfl)⟩, fun h => absurd h (by decide), fun h => absurd h (by decide)⟩
theorem cal13 : CalOk (pj lw) tables_1 "PedigreeCheck" nm bt 13 := ⟨(List.mem_of_getElem? (i := 152) rfl), (List.mem_of_getElem? (i := 2) rfl), ⟨[], some .int, by decide +kernel, rfl⟩, fun h => absurd h (by decide), fun _ => ⟨rfl, (List.mem_of_getElem? (i := 150) rfl)⟩, fun h => absurd h (by decide), fun _ => (List.mem_of_getElem? (i := 151) rfl), fun h => absurd h (by decide)⟩
theorem cal14 : CalOk (pj lw) tables_1 "PedigreeCheck" nm bt 14 := ⟨(List.mem_of_getElem? (i := 178) rfl), (List.mem_of_getElem? (i := 2) rfl), ⟨[.int], some .int, by decide +kernel, rfl⟩, fun h => absurd h (by decide), fun _ => ⟨rfl, (List.mem_of_getElem? (i := 176) rfl)⟩, fun h => absurd h (by decide), fun _ => (List.mem_of_getElem? (i := 177) rfl), fun h => absurd h (by decide)⟩
theorem cal15 : CalOk (pj lw) tables_1 "PedigreeCheck" nm bt 15 := ⟨(List.mem_of_getElem? (i := 143) rfl), (List.mem_of_getElem? (i := 2) rfl), ⟨[], some .int, by decide +kernel, rfl⟩, fun h => absurd h (by decide), fun _ => ⟨rfl, (List.mem_of_getElem? (i := 141) rfl)⟩, fun _ => ⟨(List.mem_of_getElem? (i := 140) rfl), (List.mem_of_getElem? (i := 142) rfl)⟩, fun h => absurd h (by decide), fun h => absurd h (by decide)⟩
theorem cal16 : CalOk (pj lw) tables_1 "PedigreeCheck" nm bt 16 := ⟨(List.mem_of_getElem? (i := 148) rfl), (List.mem_of_getElem? (i := 2) rfl), ⟨[.int], some .int, by decide +kernel, rfl⟩, fun h => absurd h (by decide), fun _ => ⟨rfl, (List.mem_of_getElem? (i := 146) rfl)⟩, fun _ => ⟨(List.mem_of_getElem? (i := 145) rfl), (List.mem_of_getElem? (i := 147) rfl)⟩, fun h => absurd h (by decide), fun h => absurd h (by decide)⟩
theorem cal17 : CalOk (pj lw) tables_1 "PedigreeCheck" nm bt 17 := ⟨(List.mem_of_getElem? (i := 105) rfl), (List.mem_of_getElem? (i := 2) rfl), ⟨[.int, .int], some .int, by decide +kernel, rfl⟩, fun h => absurd h (by decide), fun _ => ⟨rfl, (List.mem_of_getElem? (i := 103) rfl)⟩, fun _ => ⟨(List.mem_of_getElem? (i := 102) rfl), (List.mem_of_getElem? (i := 104) rfl)⟩, fun h => absurd h (by decide), fun h => absurd h (by decide)⟩
theorem cal18 : CalOk (pj lw) tables_1 "PedigreeCheck" nm bt 18 := ⟨(List.mem_of_getElem? (i := 158) rfl), (List.mem_of_getElem? (i := 2) rfl), ⟨[], some .int, by decide +kernel, rfl⟩, fun h => absurd h (by decide), fun _ => ⟨rfl, (List.mem_of_getElem? (i := 156) rfl)⟩, fun _ => ⟨(List.mem_of_getElem? (i := 155) rfl), (List.mem_of_getElem? (i := 157) rfl)⟩, fun h => absurd h (by decide), fun h => absurd h (by decide)⟩
theorem cal19 : CalOk (pj lw) tables_1 "PedigreeCheck" nm bt 19 := ⟨(List.mem_of_getElem? (i := 162) rfl), (List.mem_of_getElem? (i := 2) rfl), ⟨[], none, by decide +kernel, rfl⟩, fun h => absurd h (by decide), fun _ => ⟨rfl, (List.mem_of_getElem? (i := 160) rfl)⟩, fun h => absurd h (by decide), fun _ => (List.mem_of_getElem? (i := 161) rfl), fun h => absurd h (by decide)⟩
theorem cal20 : CalOk (pj lw) tables_1 "PedigreeCheck" nm bt 20 := ⟨(List.mem_of_getElem? (i := 166) rfl), (List.mem_of_getElem? (i := 2) rfl), ⟨[], none, by decide +kernel, rfl⟩, fun h => absurd h (by decide), fun _ => ⟨rfl, (List.mem_of_getElem? (i := 164) rfl)⟩, fun h => absurd h (by decide), fun _ => (List.mem_of_getElem? (i := 165) rfl), fun h => absurd h (by decide)⟩
theorem cal21 : CalOk (pj lw) tables_1 "PedigreeCheck" nm bt 21 := ⟨(List.mem_of_getElem? (i := 170) rfl), (List.mem_of_getElem? (i := 2) rfl), ⟨[], some .boolean, by decide +kernel, rfl⟩, fun h => absurd h (by decide), fun _ => ⟨rfl, (List.mem_of_getElem? (i := 168) rfl)⟩, fun h => absurd h (by decide), fun _ => (List.mem_of_getElem? (i := 169) rfl), fun h => absurd h (by decide)⟩
theorem cal22 : CalOk (pj lw) tables_1 "PedigreeCheck" nm bt 22 := ⟨(List.mem_of_getElem? (i := 124) rfl), (List.mem_of_getElem? (i := 2) rfl), ⟨[.int], some .boolean, by decide +kernel, rfl⟩, fun h => absurd h (by decide), fun _ => ⟨rfl, (List.mem_of_getElem? (i := 122) rfl)⟩, fun h => absurd h (by decide), fun _ => (List.mem_of_getElem? (i := 123) rfl), fun h => absurd h (by decide)⟩
theorem cal23 : CalOk (pj lw) tables_1 "PedigreeCheck" nm bt 23 := ⟨(List.mem_of_getElem? (i := 174) rfl), (List.mem_of_getElem? (i := 2) rfl), ⟨[.int], none, by decide +kernel, rfl⟩, fun h => absurd h (by decide), fun _ => ⟨rfl, (List.mem_of_getElem? (i := 172) rfl)⟩, fun h => absurd h (by decide), fun _ => (List.mem_of_getElem? (i := 173) rfl), fun h => absurd h (by decide)⟩
theorem cal24 : CalOk (pj lw) tables_1 "PedigreeCheck" nm bt 24 := ⟨(List.mem_of_getElem? (i := 186) rfl), (List.mem_of_getElem? (i := 2) rfl), ⟨[.int], some .boolean, by decide +kernel, rfl⟩, fun h => absurd h (by decide), fun _ => ⟨rfl, (List.mem_of_getElem? (i := 184) rfl)⟩, fun h => absurd h (by decide), fun _ => (List.mem_of_getElem? (i := 185) rfl), fun h => absurd h (by decide)⟩
theorem cal25 : CalOk (pj lw) tables_1 "PedigreeCheck" nm bt 25 := ⟨(List.mem_of_getElem? (i := 194) rfl), (List.mem_of_getElem? (i := 2) rfl), ⟨[.int], none, by decide +kernel, rfl⟩, fun h => absurd h (by decide), fun _ => ⟨rfl, (List.mem_of_getElem? (i := 192) rfl)⟩, fun h => absurd h (by decide), fun _ => (List.mem_of_getElem? (i := 193) rfl), fun h => absurd h (by decide)⟩
theorem cal26 : CalOk (pj lw) tables_1 "PedigreeCheck" nm bt 26 := ⟨(List.mem_of_getElem? (i := 182) rfl), (List.mem_of_getElem? (i := 2) rfl), ⟨[.int], some .boolean, by decide +kernel, rfl⟩, fun h => absurd h (by decide), fun _ => ⟨rfl, (List.mem_of_getElem? (i := 180) rfl)⟩, fun h => absurd h (by decide), fun _ => (List.mem_of_getElem? (i := 181) rfl), fun h => absurd h (by decide)⟩
theorem cal27 : CalOk (pj lw) tables_1 "PedigreeCheck" nm bt 27 := ⟨(List.mem_of_getElem? (i := 190) rfl), (List.mem_of_getElem? (i := 2) rfl), ⟨[.int], some .boolean, by decide +kernel, rfl⟩, fun h => absurd h (by decide), fun _ => ⟨rfl, (List.mem_of_getElem? (i := 188) rfl)⟩, fun h => absurd h (by decide), fun _ => (List.mem_of_getElem? (i := 189) rfl), fun h => absurd h (by decide)⟩
theorem cal28 : CalOk (pj lw) tables_1 "PedigreeCheck" nm bt 28 := ⟨(List.mem_of_getElem? (i := 198) rfl), (List.mem_of_getElem? (i := 2) rfl), ⟨[.int, .int, .int, .int], some .boolean, by decide +kernel, rfl⟩, fun h => absurd h (by decide), fun _ => ⟨rfl, (List.mem_of_getElem? (i := 196) rfl)⟩, fun h => absurd h (by decide), fun _ => (List.mem_of_getElem? (i := 197) rfl), fun h => absurd h (by decide)⟩
theorem cal29 : CalOk (pj lw) tables_1 "PedigreeCheck" nm bt 29 := ⟨(List.mem_of_getElem? (i := 95) rfl), (List.mem_of_getElem? (i := 2) rfl), ⟨[], some .int, by decide +kernel, rfl⟩, fun h => absurd h (by decide), fun _ => ⟨rfl, (List.mem_of_getElem? (i := 93) rfl)⟩, fun _ => ⟨(List.mem_of_getElem? (i := 92) rfl), (List.mem_of_getElem? (i := 94) rfl)⟩, fun h => absurd h (by decide), fun h => absurd h (by decide)⟩
theorem cal31 : CalOk (pj lw) tables_1 "PedigreeCheck" nm bt 31 := ⟨(List.mem_of_getElem? (i := 100) rfl), (List.mem_of_getElem? (i := 2) rfl), ⟨[.int], some .int, by decide +kernel, rfl⟩, fun h => absurd h (by decide), fun _ => ⟨rfl, (List.mem_of_getElem? (i := 98) rfl)⟩, fun _ => ⟨(List.mem_of_getElem? (i := 97) rfl), (List.mem_of_getElem? (i := 99) rfl)⟩, fun h => absurd h (by decide), fun h => absurd h (by decide)⟩
theorem cal32 : CalOk (pj lw) tables_1 "PedigreeCheck" nm bt 32 := ⟨(List.mem_of_getElem? (i := 110) rfl), (List.mem_of_getElem? (i := 2) rfl), ⟨[], some .int, by decide +kernel, rfl⟩, fun h => absurd h (by decide), fun _ => ⟨rfl, (List.mem_of_getElem? (i := 108) rfl)⟩, fun _ => ⟨(List.mem_of_getElem? (i := 107) rfl), (List.mem_of_getElem? (i := 109) rfl)⟩, fun h => absurd h (by decide), fun h => absurd h (by decide)⟩
theorem cal33 : CalOk (pj lw) tables_1 "PedigreeCheck" nm bt 33 := ⟨(List.mem_of_getElem? (i := 120) rfl), (List.mem_of_getElem? (i := 2) rfl), ⟨[.int], some .int, by decide +kernel, rfl⟩, fun h => absurd h (by decide), fun _ => ⟨rfl, (List.mem_of_getElem? (i := 118) rfl)⟩, fun _ => ⟨(List.mem_of_getElem? (i := 117) rfl), (List.mem_of_getElem? (i := 119) rfl)⟩, fun h => absurd h (by decide), fun h => absurd h (by decide)⟩
theorem cal34 : CalOk (pj lw) tables_1 "PedigreeCheck" nm bt 34 := ⟨(List.mem_of_getElem? (i := 90) rfl), (List.mem_of_getElem? (i := 2) rfl), ⟨[], some .int, by decide +kernel, rfl⟩, fun h => absurd h (by decide), fun _ => ⟨rfl, (List.mem_of_getElem? (i := 88) rfl)⟩, fun _ => ⟨(List.mem_of_getElem? (i := 87) rfl), (List.mem_of_getElem? (i := 89) rfl)⟩, fun h => absurd h (by decide), fun h => absurd h (by decide)⟩
theorem hcal : ∀ m ∈ RL, m ≠ 100 → CalOk (pj lw) tables_1 "PedigreeCheck" nm bt m := (faS (fun _ => cal1) (faS (fun _ => cal2) (faS (fun _ => cal3) (faS (fun _ => cal4) (faS (fun _ => cal5) (faS (fun _ => cal6) (faS (fun _ => cal7) (faS (fun _ => cal8) (faS (fun _ => cal9) (faS (fun _ => cal10) (faS (fun _ => cal11) (faS (fun _ => cal12) (faS (fun _ => cal13) (faS (fun _ => cal14) (faS (fun _ => cal15) (faS (fun _ => cal16) (faS (fun _ => cal17) (faS (fun _ => cal18) (faS (fun _ => cal19) (faS (fun _ => cal20) (faS (fun _ => cal21) (faS (fun _ => cal22) (faS (fun _ => cal23) (faS (fun _ => cal24) (faS (fun _ => cal25) (faS (fun _ => cal26) (faS (fun _ => cal27) (faS (fun _ => cal28) (faS (fun _ => cal29) (faS (fun _ => cal31) (faS (fun _ => cal32) (faS (fun _ => cal33) (faS (fun _ => cal34) (faS (fun h => absurd rfl h) fa0))))))))))))))))))))))))))))))))))
theorem hfld : ∀ k ∈ FS, parseFieldDescriptor (fn k).2 = some ((pj lw).2.2.1 k) ∧ (Jvm.Cond.lays "PedigreeCheck" "PedigreeCheck" (fn k).1 (fn k).2 ∈ tables_1 ∨ Jvm.Cond.laysFinal "PedigreeCheck" "PedigreeCheck" (fn k).1 (fn k).2 ∈ tables_1) := (faS ⟨by decide +kernel, Or.inl (List.mem_of_getElem? (i := 37) rfl)⟩ (faS ⟨by decide +kernel, Or.inl (List.mem_of_getElem? (i := 49) rfl)⟩ (faS ⟨by decide +kernel, Or.inl (List.mem_of_getElem? (i := 51) rfl)⟩ (faS ⟨by decide +kernel, Or.inl (List.mem_of_getElem? (i := 43) rfl)⟩ (faS ⟨by decide +kernel, Or.inl (List.mem_of_getElem? (i := 65) rfl)⟩ (faS ⟨by decide +kernel, Or.inr (List.mem_of_getElem? (i := 11) rfl)⟩ (faS ⟨by decide +kernel, Or.inr (List.mem_of_getElem? (i := 13) rfl)⟩ (faS ⟨by decide +kernel, Or.inr (List.mem_of_getElem? (i := 15) rfl)⟩ (faS ⟨by decide +kernel, Or.inr (List.mem_of_getElem? (i := 17) rfl)⟩ (faS ⟨by decide +kernel, Or.inr (List.mem_of_getElem? (i := 19) rfl)⟩ (faS ⟨by decide +kernel, Or.inr (List.mem_of_getElem? (i := 21) rfl)⟩ (faS ⟨by decide +kernel, Or.inr (List.mem_of_getElem? (i := 23) rfl)⟩ (faS ⟨by decide +kernel, Or.inl (List.mem_of_getElem? (i := 67) rfl)⟩ (faS ⟨by decide +kernel, Or.inl (List.mem_of_getElem? (i := 69) rfl)⟩ (faS ⟨by decide +kernel, Or.inl (List.mem_of_getElem? (i := 71) rfl)⟩ (faS ⟨by decide +kernel, Or.inl (List.mem_of_getElem? (i := 73) rfl)⟩ (faS ⟨by decide +kernel, Or.inr (List.mem_of_getElem? (i := 25) rfl)⟩ (faS ⟨by decide +kernel, Or.inr (List.mem_of_getElem? (i := 27) rfl)⟩ (faS ⟨by decide +kernel, Or.inr (List.mem_of_getElem? (i := 29) rfl)⟩ (faS ⟨by decide +kernel, Or.inr (List.mem_of_getElem? (i := 31) rfl)⟩ (faS ⟨by decide +kernel, Or.inr (List.mem_of_getElem? (i := 33) rfl)⟩ (faS ⟨by decide +kernel, Or.inr (List.mem_of_getElem? (i := 35) rfl)⟩ (faS ⟨by decide +kernel, Or.inl (List.mem_of_getElem? (i := 75) rfl)⟩ fa0)))))))))))))))))))))))
theorem good : Good (pj lw) tables_1 "PedigreeCheck" fn FS 23 nm bt RL 100 := by
  refine ⟨(List.mem_of_getElem? (i := 1) rfl), (List.mem_of_getElem? (i := 2) rfl), hfld, by decide +kernel, fun m hm => ?_, hcal, fun m _ pc ins len aux _ _ => by cases ins <;> rfl⟩
  have hpl : plainName "PedigreeCheck" = true ∧ plainName "PedigreeCheckL6" = true := ⟨by first | (simp [plainName, overriddenIn]; done) | decide +kernel, by first | (simp [plainName, overriddenIn]; done) | decide +kernel⟩
  have hcn : ∀ m ∈ RL, (nm m).cls = cn (own m) := by decide +kernel
  have hin : ∀ m ∈ RL, ini m = true → (nm m).cls = "PedigreeCheck" ∧ (nm m).name = "<init>" := by decide +kernel
  have hor : (nm m).cls = "PedigreeCheck" ∨ (nm m).cls = "PedigreeCheckL6" := by rw [hcn m hm]; unfold cn; split <;> simp
  refine ⟨by rcases hor with h | h <;> rw [h] <;> simp [hpl], by rcases hor with h | h <;> rw [h] <;> decide, fun pc ins len aux h => ?_⟩
  have hmem : (pc, ins, len, aux) ∈ rowsOf m := by
    unfold rowsOf
    by_cases g : m < 100
    · rw [if_pos g]; exact lookup_mem (by simpa [pj, g] using h)
    · rw [if_neg g]; exact lookup_mem (by simpa [pj, lw, g] using h)
  have hrow := List.all_eq_true.mp (List.all_eq_true.mp hrows m hm) _ hmem
  simp only [rowOne, Bool.and_eq_true, decide_eq_true_eq] at hrow
  exact ⟨hrow.1.1, hrow.1.2, row_ok (hcn m hm) (hin m hm) hFL hWF hML hKI hKJ hAT (List.mem_of_getElem? (i := 0) rfl) ⟨(List.mem_of_getElem? (i := 6) rfl), (List.mem_of_getElem? (i := 7) rfl), (List.mem_of_getElem? (i := 8) rfl)⟩ hrow.2⟩
set_option maxRecDepth 65536 in
set_option maxHeartbeats 40000000 in
theorem comes_1 {Post : Tables → Env → Array Value → State → Outcome → State → Prop} (hpost : ∀ tb e args s v u, (limb_1_1.after args s (.returned v) u = true ∧ limb_1_2.after args s (.returned v) u = true ∧ True) → FrameEnd s (.returned v) u (Jvm.fieldLocs frame_1_writes args s ++ Jvm.arrayLocs frame_1_arrays args s ++ Jvm.staticLocs frame_1_statics s) 40 1024 → Post tb e args s (.returned v) u) :
    ArmFor flags0 classFile x code maxLocals ret World_1 tables_1 room_1 Calls_1 rest_1 Pre_1 Post := by
  intro l hfl _ _ p e ha hc hk s m args below hf hA hF happ hP
  obtain ⟨hcalls, hrest, hpre⟩ := hP
  obtain ⟨-, -, -, hnamed, -, -, -, hat⟩ := (Spec.applies_iff hf).mp happ
  obtain ⟨hg, hn⟩ := and_e (Cond.before_iff.mp (show (Jvm.Cond.and given_1 narrow_1).before args s = true from hpre))
  have hw := fun d (hd : d ∈ tables_1) => atoms_spec (ws := Jvm.Cond.code x code maxLocals ret :: tables_1) hat d (List.mem_cons_of_mem _ hd)
  obtain ⟨g0, r0⟩ := and_e hg
  obtain ⟨w0, rfl⟩ : ∃ w0 : Value, args = #[w0] := by
    have hs : args.size = 1 := by simpa [Cond.value, given_1] using g0
    obtain ⟨L⟩ := args
    match L, hs with
    | [w0], _ => exact ⟨w0, rfl⟩
  have hfit : Fit s := fun {y c} hc i hi => by
    obtain ⟨ha, rfl⟩ := Array.getElem?_eq_some_iff.mp hc
    have q := List.all_eq_true.mp ((Array.all_eq_true_iff_forall_mem.mp hF) _ (Array.getElem_mem ha)) i (List.mem_range.mpr hi)
    simpa [Array.getElem?_eq_getElem hi] using q
  obtain ⟨n1, n2⟩ := and_e (show (Jvm.Cond.and (Jvm.Cond.arrayOf (Jvm.Term.arg 0) .int) (Jvm.Cond.le (Jvm.Term.length (Jvm.Term.arg 0)) (Jvm.Term.int 260))).value #[w0] s none s [] = some true from hn)
  obtain ⟨a, ea⟩ := arr_v n1
  obtain rfl : w0 = .ref a := Option.some.inj ea
  obtain ⟨cl, A⟩ := Arr.start ea n1
  have hlen : cl.slots.size < 2 ^ 31 ∧ cl.slots.size ≤ 260 := by
    obtain ⟨x, y, h1, h2, -, -⟩ := cmp_v (Or.inr (Or.inr n2))
    have hA0 := A.fin (Vm.Alike.refl _)
    by_cases hs : cl.slots.size < 2 ^ 31
    · refine ⟨hs, ?_⟩
      have e1 := len_f (args := #[.ref a]) (first := s) (o := none) (idx := []) ea hA0 hs
      have e2 : (Term.int (260 : Int32)).eval #[.ref a] s none [] s = some (.int 260) := rfl
      simp only [Cond.value, e1, e2] at n2
      have n3 : cl.slots.size.toInt32 ≤ (260 : Int32) := by simpa using n2
      rw [Int32.le_iff_toInt_le, len_toInt hs] at n3
      have : ((260 : Int32)).toInt = 260 := by decide
      omega
    · exfalso; simp [Term.eval, hA0, hs, ea] at h1
  obtain ⟨f, hR⟩ := rel_H1 (C := "PedigreeCheck") (fn := fn) (F := FS) hfit A hlen.1
  obtain ⟨n, o, h1, h2, h3, _, L, rfl, ⟨N, H2, rfl⟩, hq⟩ := law_met (l := l) (Z := s) (a0 := _) (n0 := s.heap.size) good hw (as := [.ref a]) (h := s.heap) tables_1 (by decide) (by simp [Sym.laidSlots, Value.category]; decide) hR (law_ok s.heap.size a cl.slots.size f A.lt hlen.2) p e ha hc hk s m _ below hf ((Spec.applies_iff_loose hf).mp happ).1 ⟨rfl, State.Warmed39.refl s, rfl⟩ trivial
  exact ⟨n, _, h1, h2, h3, hpost _ _ _ _ _ _ ⟨Cond.after_iff.mpr rfl, Cond.after_iff.mpr (eq_i res_at (Term.int_eval (1)) rfl), trivial⟩ ⟨hq.1, hq.2.1, (hq.2.2.sift fun y hy => Or.inr (N y hy)).mono (by decide) (by decide)⟩⟩
theorem main_1_1 : Claimed_1_1 := comes_1 fun _ _ _ _ _ _ h hF => ⟨h.1, hF⟩
theorem main_1_2 : Claimed_1_2 := comes_1 fun _ _ _ _ _ _ h hF => ⟨h.2.1, hF⟩
end Jvm.Pilot.@@N@@
namespace Jvm.Pilot.@@N@@
open Jvm Jvm.ClassFile Sem Op Lib Jvm.Free Jvm.Stand Jvm.Pilot.@@N@@.Jvm.D
/-! MADE BY PROGRAM (witnessworld.py) out of the Statement's table words and the real class files: 9 classes; the members and pool entries that the words name. The judged class is class 1, her method 1. -/
namespace start1
open Jvm.ClassFile
def u (s : String) : CpInfo := .utf8 (stringToUtf16 s)
/-- a pool by its gaps: so many unusable entries, then the entry; so many at the end -/
def gap : Nat → List CpInfo → List CpInfo
  | 0, r => r
  | n + 1, r => .unusable :: gap n r
def poolList (es : List (Nat × CpInfo)) (last : Nat) : List CpInfo := es.foldr (fun e r => gap e.1 (e.2 :: r)) (gap last [])
def pool (es : List (Nat × CpInfo)) (last : Nat) : Array CpInfo := ⟨poolList es last⟩
def fileOf (pool : Array CpInfo) (this : Nat) (attrs : Array Attribute := #[]) (ms : Array MethodInfo := #[]) (fl : Nat := 33) (sup : Nat := 0) (ifs : Array Nat := #[]) (fds : Array FieldInfo := #[]) : ClassFile where
  minorVersion := 0
  majorVersion := 65
  constantPool := pool
  accessFlags := fl
  thisClass := this
  superClass := sup
  interfaces := ifs
  fields := fds
  methods := ms
  attributes := attrs
def plain (name : String) (sup : Option ClassId) : Class where
  name := name
  kind := .ordinary
  loader := none
  accessFlags := 33
  super := sup
  interfaces := #[]
  cf := none
  fields := #[]
  methods := #[]
  instanceTypes := #[]
  staticTypes := #[]
  resolved := #[]
  callSites := []
  init := .initialized
  statics := none
  mirror := none

def pool0 : Array CpInfo := pool [(5, u "<init>"), (0, u "()V"), (1, .class_ 10), (1, u "java/lang/Object")] 113

def k0c0 : Code := { maxStack := 0, maxLocals := 1, code := object_method_1_code, exceptionTable := #[], attributes := #[] }
def k0m0 : Method := { name := "<init>", desc := "()V", sig := { parameters := [], returnType := none }, accessFlags := 1, code := some k0c0 }
/-- java/lang/Object -/
def k0 : Class := { plain "java/lang/Object" none with
  accessFlags := 33
  interfaces := #[]
  cf := some (fileOf pool0 8 #[] #[{ accessFlags := 1, nameIndex := 5, descriptorIndex := 6, attributes := #[] }] 33 0 #[] #[])
  fields := #[]
  methods := #[k0m0]
  instanceTypes := #[]
  staticTypes := #[]
  resolved := Array.replicate 124 none
  statics := none }

def pool1 : Array CpInfo := pool [(2, .class_ 4), (1, u "java/lang/Object"), (0, u "<init>"), (0, u "()V"), (0, .class_ 8), (0, u "PedigreeCheck"), (0, .methodref 7 10), (0, .nameAndType 5 11), (0, u "(II)V"), (0, .integer 2147483647), (0, .methodref 7 14), (0, .nameAndType 15 16), (0, u "addIndividual"), (0, u "(III)I"), (0, .methodref 7 18), (0, .nameAndType 19 16), (0, u "observe"), (0, .methodref 7 21), (0, .nameAndType 22 23), (0, u "unobserve"), (0, u "(I)I"), (0, .methodref 7 25), (0, .nameAndType 26 27), (0, u "setSeed"), (0, u "(I)V"), (0, .methodref 7 29), (0, .nameAndType 30 31), (0, u "drop"), (0, u "()I"), (0, .methodref 7 33), (0, .nameAndType 34 23), (0, u "observeDropped"), (0, .methodref 7 36), (0, .nameAndType 37 31), (0, u "eliminate"), (0, .methodref 7 39), (0, .nameAndType 40 31), (0, u "individualCount"), (0, .methodref 7 42), (0, .nameAndType 43 31), (0, u "status"), (0, .methodref 7 45), (0, .nameAndType 46 23), (0, u "candidateCount"), (0, .methodref 7 48), (0, .nameAndType 49 50), (0, u "droppedAllele"), (0, u "(II)I"), (0, .methodref 7 52), (0, .nameAndType 53 31), (0, u "conflictFamily"), (0, .methodref 7 55), (0, .nameAndType 56 23), (0, u "familySize"), (0, .class_ 58), (0, u "PedigreeCheckL6"), (2, u "law"), (0, u "([I)Z")] 5

def k1m0 : Method := { name := "<init>", desc := "()V", sig := { parameters := [], returnType := none }, accessFlags := 1, code := none }
def k1c1 : Code := { maxStack := 4, maxLocals := 26, code := code, exceptionTable := #[], attributes := #[] }
def k1m1 : Method := { name := "law", desc := "([I)Z", sig := { parameters := [(.array .int)], returnType := some .boolean }, accessFlags := 9, code := some k1c1 }
/-- PedigreeCheckL6 -/
def k1 : Class := { plain "PedigreeCheckL6" (some 0) with
  accessFlags := 33
  interfaces := #[]
  cf := some (fileOf pool1 57 #[] #[{ accessFlags := 1, nameIndex := 5, descriptorIndex := 6, attributes := #[] }, { accessFlags := 9, nameIndex := 61, descriptorIndex := 62, attributes := #[] }] 33 2 #[] #[])
  fields := #[]
  methods := #[k1m0, k1m1]
  instanceTypes := #[]
  staticTypes := #[]
  resolved := Array.replicate 68 none
  statics := none }

def pool2 : Array CpInfo := pool [(1, .methodref 2 3), (0, .class_ 4), (0, .nameAndType 5 6), (0, u "java/lang/Object"), (0, u "<init>"), (0, u "()V"), (0, .fieldref 8 9), (0, .class_ 10), (0, .nameAndType 11 12), (0, u "PedigreeCheck"), (0, u "sexOf"), (0, u "[I"), (0, .fieldref 8 14), (0, .nameAndType 15 12), (0, u "fatherOf"), (0, .fieldref 8 17), (0, .nameAndType 18 12), (0, u "motherOf"), (0, .fieldref 8 20), (0, .nameAndType 21 12), (0, u "obsG"), (0, .fieldref 8 23), (0, .nameAndType 24 12), (0, u "dropP"), (0, .fieldref 8 26), (0, .nameAndType 27 12), (0, u "dropM"), (0, .fieldref 8 29), (0, .nameAndType 30 12), (0, u "cand"), (0, .fieldref 8 32), (0, .nameAndType 33 12), (0, u "genoA"), (0, .fieldref 8 35), (0, .nameAndType 36 12), (0, u "genoB"), (0, .fieldref 8 38), (0, .nameAndType 39 12), (0, u "genoIndex"), (0, .fieldref 8 41), (0, .nameAndType 42 12), (0, u "kidMask"), (0, .fieldref 8 44), (0, .nameAndType 45 12), (0, u "kidBuf"), (0, .fieldref 8 47), (0, .nameAndType 48 12), (0, u "newKid"), (0, .fieldref 8 50), (0, .nameAndType 51 52), (0, u "alleleCount"), (0, u "I"), (0, .methodref 8 54), (0, .nameAndType 55 56), (0, u "clampSeed"), (0, u "(I)I"), (0, .fieldref 8 58), (0, .nameAndType 59 52), (0, u "gen"), (0, .methodref 8 61), (0, .nameAndType 62 6), (0, u "buildGenotypes"), (0, .methodref 8 64), (0, .nameAndType 65 6), (0, u "buildKidMasks"), (0, .fieldref 8 67), (0, .nameAndType 68 52), (0, u "n"), (0, .fieldref 8 70), (0, .nameAndType 71 72), (0, u "dropValid"), (0, u "Z"), (0, .fieldref 8 74), (0, .nameAndType 75 72), (0, u "candValid"), (0, .fieldref 8 77), (0, .nameAndType 78 52), (0, u "lastStatus"), (0, .fieldref 8 80), (0, .nameAndType 81 52), (0, u "conflict"), (0, .fieldref 8 83), (0, .nameAndType 84 52), (0, u "kidCount"), (0, .fieldref 8 86), (0, .nameAndType 87 52), (0, u "genoCount"), (0, .fieldref 8 89), (0, .nameAndType 90 52), (0, u "fullMask"), (0, .methodref 8 92), (0, .nameAndType 93 94), (0, u "childMaskFor"), (0, u "(II)I"), (0, .methodref 8 96), (0, .nameAndType 97 98), (0, u "compatible"), (0, u "(III)Z"), (0, .methodref 8 100), (0, .nameAndType 101 102), (0, u "validId"), (0, u "(I)Z"), (0, .methodref 8 104), (0, .nameAndType 105 102), (0, u "validAllele"), (0, .integer 1103515245), (0, .methodref 8 108), (0, .nameAndType 109 110), (0, u "nextDraw"), (0, u "()I"), (0, .methodref 8 112), (0, .nameAndType 113 56), (0, u "inherit"), (0, .methodref 8 115), (0, .nameAndType 116 6), (0, u "loadInit"), (0, .methodref 8 118), (0, .nameAndType 119 102), (0, u "isFamilyNumber"), (0, .methodref 8 121), (0, .nameAndType 122 102), (0, u "hasAssignment"), (0, .methodref 8 124), (0, .nameAndType 125 6), (0, u "runElimination"), (0, .methodref 8 127), (0, .nameAndType 128 129), (0, u "anyEmpty"), (0, u "()Z"), (0, .methodref 8 131), (0, .nameAndType 132 102), (0, u "reduceFamily"), (0, .methodref 8 134), (0, .nameAndType 135 136), (0, u "collectKids"), (0, u "(I)V"), (0, .methodref 8 138), (0, .nameAndType 139 102), (0, u "kidsFit"), (0, .methodref 8 141), (0, .nameAndType 142 136), (0, u "addKidSupport"), (0, .methodref 8 144), (0, .nameAndType 145 146), (0, u "applySupport"), (0, u "(IIII)Z"), (0, u "MAX_INDIVIDUALS"), (2, u "MALE"), (1, u "FEMALE"), (1, u "OK"), (1, u "ERR_FULL"), (1, u "ERR_ARG"), (1, u "ERR_NO_PARENT"), (1, u "ERR_SEX"), (1, u "ERR_NO_ID"), (1, u "ERR_ALLELE"), (1, u "ERR_NO_DROP"), (1, u "NOT_EVALUATED"), (0, u "CONSISTENT"), (0, u "INCONSISTENT"), (0, u "MAX_ROUNDS"), (1, u "(II)V"), (3, u "addIndividual"), (0, u "(III)I"), (0, u "observe"), (0, u "unobserve"), (0, u "setSeed"), (0, u "drop"), (0, u "observeDropped"), (0, u "droppedAllele"), (0, u "eliminate"), (1, u "status"), (1, u "candidateCount"), (0, u "conflictFamily"), (0, u "familySize"), (0, u "individualCount")] 2

def k2c0 : Code := { maxStack := 3, maxLocals := 4, code := prog_1_method_1_code, exceptionTable := #[], attributes := #[] }
def k2m0 : Method := { name := "<init>", desc := "(II)V", sig := { parameters := [.int, .int], returnType := none }, accessFlags := 1, code := some k2c0 }
def k2c1 : Code := { maxStack := 2, maxLocals := 2, code := prog_1_method_2_code, exceptionTable := #[], attributes := #[] }
def k2m1 : Method := { name := "clampSeed", desc := "(I)I", sig := { parameters := [.int], returnType := some .int }, accessFlags := 2, code := some k2c1 }
def k2c2 : Code := { maxStack := 3, maxLocals := 4, code := prog_1_method_3_code, exceptionTable := #[], attributes := #[] }
def k2m2 : Method := { name := "buildGenotypes", desc := "()V", sig := { parameters := [], returnType := none }, accessFlags := 2, code := some k2c2 }
def k2c3 : Code := { maxStack := 5, maxLocals := 3, code := prog_1_method_4_code, exceptionTable := #[], attributes := #[] }
def k2m3 : Method := { name := "buildKidMasks", desc := "()V", sig := { parameters := [], returnType := none }, accessFlags := 2, code := some k2c3 }
def k2c4 : Code := { maxStack := 4, maxLocals := 5, code := prog_1_method_5_code, exceptionTable := #[], attributes := #[] }
def k2m4 : Method := { name := "childMaskFor", desc := "(II)I", sig := { parameters := [.int, .int], returnType := some .int }, accessFlags := 2, code := some k2c4 }
def k2c5 : Code := { maxStack := 2, maxLocals := 14, code := prog_1_method_6_code, exceptionTable := #[], attributes := #[] }
def k2m5 : Method := { name := "compatible", desc := "(III)Z", sig := { parameters := [.int, .int, .int], returnType := some .boolean }, accessFlags := 2, code := some k2c5 }
def k2c6 : Code := { maxStack := 2, maxLocals := 2, code := prog_1_method_7_code, exceptionTable := #[], attributes := #[] }
def k2m6 : Method := { name := "validId", desc := "(I)Z", sig := { parameters := [.int], returnType := some .boolean }, accessFlags := 2, code := some k2c6 }
def k2c7 : Code := { maxStack := 2, maxLocals := 2, code := prog_1_method_8_code, exceptionTable := #[], attributes := #[] }
def k2m7 : Method := { name := "validAllele", desc := "(I)Z", sig := { parameters := [.int], returnType := some .boolean }, accessFlags := 2, code := some k2c7 }
def k2c8 : Code := { maxStack := 3, maxLocals := 4, code := prog_1_method_9_code, exceptionTable := #[], attributes := #[] }
def k2m8 : Method := { name := "addIndividual", desc := "(III)I", sig := { parameters := [.int, .int, .int], returnType := some .int }, accessFlags := 1, code := some k2c8 }
def k2c9 : Code := { maxStack := 5, maxLocals := 4, code := prog_1_method_10_code, exceptionTable := #[], attributes := #[] }
def k2m9 : Method := { name := "observe", desc := "(III)I", sig := { parameters := [.int, .int, .int], returnType := some .int }, accessFlags := 1, code := some k2c9 }
def k2c10 : Code := { maxStack := 3, maxLocals := 2, code := prog_1_method_11_code, exceptionTable := #[], attributes := #[] }
def k2m10 : Method := { name := "unobserve", desc := "(I)I", sig := { parameters := [.int], returnType := some .int }, accessFlags := 1, code := some k2c10 }
def k2c11 : Code := { maxStack := 3, maxLocals := 2, code := prog_1_method_12_code, exceptionTable := #[], attributes := #[] }
def k2m11 : Method := { name := "setSeed", desc := "(I)V", sig := { parameters := [.int], returnType := none }, accessFlags := 1, code := some k2c11 }
def k2c12 : Code := { maxStack := 3, maxLocals := 1, code := prog_1_method_13_code, exceptionTable := #[], attributes := #[] }
def k2m12 : Method := { name := "nextDraw", desc := "()I", sig := { parameters := [], returnType := some .int }, accessFlags := 2, code := some k2c12 }
def k2c13 : Code := { maxStack := 2, maxLocals := 3, code := prog_1_method_14_code, exceptionTable := #[], attributes := #[] }
def k2m13 : Method := { name := "inherit", desc := "(I)I", sig := { parameters := [.int], returnType := some .int }, accessFlags := 2, code := some k2c13 }
def k2c14 : Code := { maxStack := 5, maxLocals := 4, code := prog_1_method_15_code, exceptionTable := #[], attributes := #[] }
def k2m14 : Method := { name := "drop", desc := "()I", sig := { parameters := [], returnType := some .int }, accessFlags := 1, code := some k2c14 }
def k2c15 : Code := { maxStack := 6, maxLocals := 2, code := prog_1_method_16_code, exceptionTable := #[], attributes := #[] }
def k2m15 : Method := { name := "observeDropped", desc := "(I)I", sig := { parameters := [.int], returnType := some .int }, accessFlags := 1, code := some k2c15 }
def k2c16 : Code := { maxStack := 2, maxLocals := 3, code := prog_1_method_17_code, exceptionTable := #[], attributes := #[] }
def k2m16 : Method := { name := "droppedAllele", desc := "(II)I", sig := { parameters := [.int, .int], returnType := some .int }, accessFlags := 1, code := some k2c16 }
def k2c17 : Code := { maxStack := 2, maxLocals := 5, code := prog_1_method_18_code, exceptionTable := #[], attributes := #[] }
def k2m17 : Method := { name := "eliminate", desc := "()I", sig := { parameters := [], returnType := some .int }, accessFlags := 1, code := some k2c17 }
def k2c18 : Code := { maxStack := 5, maxLocals := 2, code := prog_1_method_19_code, exceptionTable := #[], attributes := #[] }
def k2m18 : Method := { name := "loadInit", desc := "()V", sig := { parameters := [], returnType := none }, accessFlags := 2, code := some k2c18 }
def k2c19 : Code := { maxStack := 3, maxLocals := 4, code := prog_1_method_20_code, exceptionTable := #[], attributes := #[] }
def k2m19 : Method := { name := "runElimination", desc := "()V", sig := { parameters := [], returnType := none }, accessFlags := 2, code := some k2c19 }
def k2c20 : Code := { maxStack := 2, maxLocals := 2, code := prog_1_method_21_code, exceptionTable := #[], attributes := #[] }
def k2m20 : Method := { name := "anyEmpty", desc := "()Z", sig := { parameters := [], returnType := some .boolean }, accessFlags := 2, code := some k2c20 }
def k2c21 : Code := { maxStack := 2, maxLocals := 5, code := prog_1_method_22_code, exceptionTable := #[], attributes := #[] }
def k2m21 : Method := { name := "isFamilyNumber", desc := "(I)Z", sig := { parameters := [.int], returnType := some .boolean }, accessFlags := 2, code := some k2c21 }
def k2c22 : Code := { maxStack := 3, maxLocals := 5, code := prog_1_method_23_code, exceptionTable := #[], attributes := #[] }
def k2m22 : Method := { name := "collectKids", desc := "(I)V", sig := { parameters := [.int], returnType := none }, accessFlags := 2, code := some k2c22 }
def k2c23 : Code := { maxStack := 3, maxLocals := 3, code := prog_1_method_24_code, exceptionTable := #[], attributes := #[] }
def k2m23 : Method := { name := "kidsFit", desc := "(I)Z", sig := { parameters := [.int], returnType := some .boolean }, accessFlags := 2, code := some k2c23 }
def k2c24 : Code := { maxStack := 6, maxLocals := 3, code := prog_1_method_25_code, exceptionTable := #[], attributes := #[] }
def k2m24 : Method := { name := "addKidSupport", desc := "(I)V", sig := { parameters := [.int], returnType := none }, accessFlags := 2, code := some k2c24 }
def k2c25 : Code := { maxStack := 4, maxLocals := 6, code := prog_1_method_26_code, exceptionTable := #[], attributes := #[] }
def k2m25 : Method := { name := "hasAssignment", desc := "(I)Z", sig := { parameters := [.int], returnType := some .boolean }, accessFlags := 2, code := some k2c25 }
def k2c26 : Code := { maxStack := 5, maxLocals := 9, code := prog_1_method_27_code, exceptionTable := #[], attributes := #[] }
def k2m26 : Method := { name := "reduceFamily", desc := "(I)Z", sig := { parameters := [.int], returnType := some .boolean }, accessFlags := 2, code := some k2c26 }
def k2c27 : Code := { maxStack := 5, maxLocals := 8, code := prog_1_method_28_code, exceptionTable := #[], attributes := #[] }
def k2m27 : Method := { name := "applySupport", desc := "(IIII)Z", sig := { parameters := [.int, .int, .int, .int], returnType := some .boolean }, accessFlags := 2, code := some k2c27 }
def k2c28 : Code := { maxStack := 1, maxLocals := 1, code := prog_1_method_29_code, exceptionTable := #[], attributes := #[] }
def k2m28 : Method := { name := "status", desc := "()I", sig := { parameters := [], returnType := some .int }, accessFlags := 1, code := some k2c28 }
def k2c29 : Code := { maxStack := 2, maxLocals := 5, code := prog_1_method_31_code, exceptionTable := #[], attributes := #[] }
def k2m29 : Method := { name := "candidateCount", desc := "(I)I", sig := { parameters := [.int], returnType := some .int }, accessFlags := 1, code := some k2c29 }
def k2c30 : Code := { maxStack := 1, maxLocals := 1, code := prog_1_method_32_code, exceptionTable := #[], attributes := #[] }
def k2m30 : Method := { name := "conflictFamily", desc := "()I", sig := { parameters := [], returnType := some .int }, accessFlags := 1, code := some k2c30 }
def k2c31 : Code := { maxStack := 2, maxLocals := 2, code := prog_1_method_33_code, exceptionTable := #[], attributes := #[] }
def k2m31 : Method := { name := "familySize", desc := "(I)I", sig := { parameters := [.int], returnType := some .int }, accessFlags := 1, code := some k2c31 }
def k2c32 : Code := { maxStack := 1, maxLocals := 1, code := prog_1_method_34_code, exceptionTable := #[], attributes := #[] }
def k2m32 : Method := { name := "individualCount", desc := "()I", sig := { parameters := [], returnType := some .int }, accessFlags := 1, code := some k2c32 }
/-- PedigreeCheck -/
def k2 : Class := { plain "PedigreeCheck" (some 0) with
  accessFlags := 49
  interfaces := #[]
  cf := some (fileOf pool2 8 #[] #[{ accessFlags := 1, nameIndex := 5, descriptorIndex := 175, attributes := #[] }, { accessFlags := 2, nameIndex := 55, descriptorIndex := 56, attributes := #[] }, { accessFlags := 2, nameIndex := 62, descriptorIndex := 6, attributes := #[] }, { accessFlags := 2, nameIndex := 65, descriptorIndex := 6, attributes := #[] }, { accessFlags := 2, nameIndex := 93, descriptorIndex := 94, attributes := #[] }, { accessFlags := 2, nameIndex := 97, descriptorIndex := 98, attributes := #[] }, { accessFlags := 2, nameIndex := 101, descriptorIndex := 102, attributes := #[] }, { accessFlags := 2, nameIndex := 105, descriptorIndex := 102, attributes := #[] }, { accessFlags := 1, nameIndex := 179, descriptorIndex := 180, attributes := #[] }, { accessFlags := 1, nameIndex := 181, descriptorIndex := 180, attributes := #[] }, { accessFlags := 1, nameIndex := 182, descriptorIndex := 56, attributes := #[] }, { accessFlags := 1, nameIndex := 183, descriptorIndex := 136, attributes := #[] }, { accessFlags := 2, nameIndex := 109, descriptorIndex := 110, attributes := #[] }, { accessFlags := 2, nameIndex := 113, descriptorIndex := 56, attributes := #[] }, { accessFlags := 1, nameIndex := 184, descriptorIndex := 110, attributes := #[] }, { accessFlags := 1, nameIndex := 185, descriptorIndex := 56, attributes := #[] }, { accessFlags := 1, nameIndex := 186, descriptorIndex := 94, attributes := #[] }, { accessFlags := 1, nameIndex := 187, descriptorIndex := 110, attributes := #[] }, { accessFlags := 2, nameIndex := 116, descriptorIndex := 6, attributes := #[] }, { accessFlags := 2, nameIndex := 125, descriptorIndex := 6, attributes := #[] }, { accessFlags := 2, nameIndex := 128, descriptorIndex := 129, attributes := #[] }, { accessFlags := 2, nameIndex := 119, descriptorIndex := 102, attributes := #[] }, { accessFlags := 2, nameIndex := 135, descriptorIndex := 136, attributes := #[] }, { accessFlags := 2, nameIndex := 139, descriptorIndex := 102, attributes := #[] }, { accessFlags := 2, nameIndex := 142, descriptorIndex := 136, attributes := #[] }, { accessFlags := 2, nameIndex := 122, descriptorIndex := 102, attributes := #[] }, { accessFlags := 2, nameIndex := 132, descriptorIndex := 102, attributes := #[] }, { accessFlags := 2, nameIndex := 145, descriptorIndex := 146, attributes := #[] }, { accessFlags := 1, nameIndex := 189, descriptorIndex := 110, attributes := #[] }, { accessFlags := 1, nameIndex := 191, descriptorIndex := 56, attributes := #[] }, { accessFlags := 1, nameIndex := 192, descriptorIndex := 110, attributes := #[] }, { accessFlags := 1, nameIndex := 193, descriptorIndex := 56, attributes := #[] }, { accessFlags := 1, nameIndex := 194, descriptorIndex := 110, attributes := #[] }] 49 2 #[] #[{ accessFlags := 25, nameIndex := 147, descriptorIndex := 52, attributes := #[] }, { accessFlags := 25, nameIndex := 150, descriptorIndex := 52, attributes := #[] }, { accessFlags := 25, nameIndex := 152, descriptorIndex := 52, attributes := #[] }, { accessFlags := 25, nameIndex := 154, descriptorIndex := 52, attributes := #[] }, { accessFlags := 25, nameIndex := 156, descriptorIndex := 52, attributes := #[] }, { accessFlags := 25, nameIndex := 158, descriptorIndex := 52, attributes := #[] }, { accessFlags := 25, nameIndex := 160, descriptorIndex := 52, attributes := #[] }, { accessFlags := 25, nameIndex := 162, descriptorIndex := 52, attributes := #[] }, { accessFlags := 25, nameIndex := 164, descriptorIndex := 52, attributes := #[] }, { accessFlags := 25, nameIndex := 166, descriptorIndex := 52, attributes := #[] }, { accessFlags := 25, nameIndex := 168, descriptorIndex := 52, attributes := #[] }, { accessFlags := 25, nameIndex := 170, descriptorIndex := 52, attributes := #[] }, { accessFlags := 25, nameIndex := 171, descriptorIndex := 52, attributes := #[] }, { accessFlags := 25, nameIndex := 172, descriptorIndex := 52, attributes := #[] }, { accessFlags := 26, nameIndex := 173, descriptorIndex := 52, attributes := #[] }, { accessFlags := 2, nameIndex := 51, descriptorIndex := 52, attributes := #[] }, { accessFlags := 2, nameIndex := 87, descriptorIndex := 52, attributes := #[] }, { accessFlags := 2, nameIndex := 90, descriptorIndex := 52, attributes := #[] }, { accessFlags := 2, nameIndex := 59, descriptorIndex := 52, attributes := #[] }, { accessFlags := 2, nameIndex := 68, descriptorIndex := 52, attributes := #[] }, { accessFlags := 18, nameIndex := 11, descriptorIndex := 12, attributes := #[] }, { accessFlags := 18, nameIndex := 15, descriptorIndex := 12, attributes := #[] }, { accessFlags := 18, nameIndex := 18, descriptorIndex := 12, attributes := #[] }, { accessFlags := 18, nameIndex := 21, descriptorIndex := 12, attributes := #[] }, { accessFlags := 18, nameIndex := 24, descriptorIndex := 12, attributes := #[] }, { accessFlags := 18, nameIndex := 27, descriptorIndex := 12, attributes := #[] }, { accessFlags := 18, nameIndex := 30, descriptorIndex := 12, attributes := #[] }, { accessFlags := 2, nameIndex := 71, descriptorIndex := 72, attributes := #[] }, { accessFlags := 2, nameIndex := 75, descriptorIndex := 72, attributes := #[] }, { accessFlags := 2, nameIndex := 78, descriptorIndex := 52, attributes := #[] }, { accessFlags := 2, nameIndex := 81, descriptorIndex := 52, attributes := #[] }, { accessFlags := 18, nameIndex := 33, descriptorIndex := 12, attributes := #[] }, { accessFlags := 18, nameIndex := 36, descriptorIndex := 12, attributes := #[] }, { accessFlags := 18, nameIndex := 39, descriptorIndex := 12, attributes := #[] }, { accessFlags := 18, nameIndex := 42, descriptorIndex := 12, attributes := #[] }, { accessFlags := 18, nameIndex := 45, descriptorIndex := 12, attributes := #[] }, { accessFlags := 18, nameIndex := 48, descriptorIndex := 12, attributes := #[] }, { accessFlags := 2, nameIndex := 84, descriptorIndex := 52, attributes := #[] }])
  fields := #[{ name := "MAX_INDIVIDUALS", type := .int, accessFlags := 25, slot := 0, constantValue := 0 }, { name := "MALE", type := .int, accessFlags := 25, slot := 1, constantValue := 0 }, { name := "FEMALE", type := .int, accessFlags := 25, slot := 2, constantValue := 0 }, { name := "OK", type := .int, accessFlags := 25, slot := 3, constantValue := 0 }, { name := "ERR_FULL", type := .int, accessFlags := 25, slot := 4, constantValue := 0 }, { name := "ERR_ARG", type := .int, accessFlags := 25, slot := 5, constantValue := 0 }, { name := "ERR_NO_PARENT", type := .int, accessFlags := 25, slot := 6, constantValue := 0 }, { name := "ERR_SEX", type := .int, accessFlags := 25, slot := 7, constantValue := 0 }, { name := "ERR_NO_ID", type := .int, accessFlags := 25, slot := 8, constantValue := 0 }, { name := "ERR_ALLELE", type := .int, accessFlags := 25, slot := 9, constantValue := 0 }, { name := "ERR_NO_DROP", type := .int, accessFlags := 25, slot := 10, constantValue := 0 }, { name := "NOT_EVALUATED", type := .int, accessFlags := 25, slot := 11, constantValue := 0 }, { name := "CONSISTENT", type := .int, accessFlags := 25, slot := 12, constantValue := 0 }, { name := "INCONSISTENT", type := .int, accessFlags := 25, slot := 13, constantValue := 0 }, { name := "MAX_ROUNDS", type := .int, accessFlags := 26, slot := 14, constantValue := 0 }, { name := "alleleCount", type := .int, accessFlags := 2, slot := 0, constantValue := 0 }, { name := "genoCount", type := .int, accessFlags := 2, slot := 1, constantValue := 0 }, { name := "fullMask", type := .int, accessFlags := 2, slot := 2, constantValue := 0 }, { name := "gen", type := .int, accessFlags := 2, slot := 3, constantValue := 0 }, { name := "n", type := .int, accessFlags := 2, slot := 4, constantValue := 0 }, { name := "sexOf", type := (.array .int), accessFlags := 18, slot := 5, constantValue := 0 }, { name := "fatherOf", type := (.array .int), accessFlags := 18, slot := 6, constantValue := 0 }, { name := "motherOf", type := (.array .int), accessFlags := 18, slot := 7, constantValue := 0 }, { name := "obsG", type := (.array .int), accessFlags := 18, slot := 8, constantValue := 0 }, { name := "dropP", type := (.array .int), accessFlags := 18, slot := 9, constantValue := 0 }, { name := "dropM", type := (.array .int), accessFlags := 18, slot := 10, constantValue := 0 }, { name := "cand", type := (.array .int), accessFlags := 18, slot := 11, constantValue := 0 }, { name := "dropValid", type := .boolean, accessFlags := 2, slot := 12, constantValue := 0 }, { name := "candValid", type := .boolean, accessFlags := 2, slot := 13, constantValue := 0 }, { name := "lastStatus", type := .int, accessFlags := 2, slot := 14, constantValue := 0 }, { name := "conflict", type := .int, accessFlags := 2, slot := 15, constantValue := 0 }, { name := "genoA", type := (.array .int), accessFlags := 18, slot := 16, constantValue := 0 }, { name := "genoB", type := (.array .int), accessFlags := 18, slot := 17, constantValue := 0 }, { name := "genoIndex", type := (.array .int), accessFlags := 18, slot := 18, constantValue := 0 }, { name := "kidMask", type := (.array .int), accessFlags := 18, slot := 19, constantValue := 0 }, { name := "kidBuf", type := (.array .int), accessFlags := 18, slot := 20, constantValue := 0 }, { name := "newKid", type := (.array .int), accessFlags := 18, slot := 21, constantValue := 0 }, { name := "kidCount", type := .int, accessFlags := 2, slot := 22, constantValue := 0 }]
  methods := #[k2m0, k2m1, k2m2, k2m3, k2m4, k2m5, k2m6, k2m7, k2m8, k2m9, k2m10, k2m11, k2m12, k2m13, k2m14, k2m15, k2m16, k2m17, k2m18, k2m19, k2m20, k2m21, k2m22, k2m23, k2m24, k2m25, k2m26, k2m27, k2m28, k2m29, k2m30, k2m31, k2m32]
  instanceTypes := #[.int, .int, .int, .int, .int, (.array .int), (.array .int), (.array .int), (.array .int), (.array .int), (.array .int), (.array .int), .boolean, .boolean, .int, .int, (.array .int), (.array .int), (.array .int), (.array .int), (.array .int), (.array .int), .int]
  staticTypes := #[.int, .int, .int, .int, .int, .int, .int, .int, .int, .int, .int, .int, .int, .int, .int]
  resolved := Array.replicate 197 none
  statics := none }

def pool3 : Array CpInfo := pool [(1, u "java/lang/Cloneable"), (0, .class_ 1), (0, u "java/lang/Object"), (0, .class_ 3)] 3

/-- java/lang/Cloneable -/
def k3 : Class := { plain "java/lang/Cloneable" (some 0) with
  accessFlags := 1537
  interfaces := #[]
  cf := some (fileOf pool3 2 #[] #[] 1537 4 #[] #[])
  fields := #[]
  methods := #[]
  instanceTypes := #[]
  staticTypes := #[]
  resolved := Array.replicate 8 none
  statics := none }

def pool4 : Array CpInfo := pool [(1, u "java/io/Serializable"), (0, .class_ 1), (0, u "java/lang/Object"), (0, .class_ 3)] 3

/-- java/io/Serializable -/
def k4 : Class := { plain "java/io/Serializable" (some 0) with
  accessFlags := 1537
  interfaces := #[]
  cf := some (fileOf pool4 2 #[] #[] 1537 4 #[] #[])
  fields := #[]
  methods := #[]
  instanceTypes := #[]
  staticTypes := #[]
  resolved := Array.replicate 8 none
  statics := none }

/-- the primitive byte -/
def k5 : Class := { plain "byte" none with kind := .primitive 'B', accessFlags := 0x411 }
/-- [B -/
def k6 : Class := { plain "[B" (some 0) with kind := .array 5 .byte, interfaces := #[3, 4], accessFlags := 1041 }

/-- the primitive int -/
def k7 : Class := { plain "int" none with kind := .primitive 'I', accessFlags := 0x411 }
/-- [I -/
def k8 : Class := { plain "[I" (some 0) with kind := .array 7 .int, interfaces := #[3, 4], accessFlags := 1041 }

def heap : Heap := #[{ cls := 8, slots := #[.int 0, .int 3, .int 5, .int 1], vm := .none }]
def classes : Array Class := #[k0, k1, k2, k3, k4, k5, k6, k7, k8]
def interned : List (Array UInt16 × Addr) := []
def slotsUsed : Nat := 4
def theMethod : MethodId := ⟨1, 1⟩
def args0 : Array Value := #[.ref 0]
def aboutOver (below : List Frame) : State where
  vm := { classes := classes, interned := interned.toArray }
  heap := heap
  slotsUsed := slotsUsed
  threads := #[{ frames := .invoking theMethod args0 :: below }]
def below0 : List Frame := [.native { method := ⟨0, 0⟩, args := #[] }]
def about1 : State := aboutOver below0
def p0 : Program := .bare "" "" ""
def e0 : Env := launch0.env 0 0 0
theorem w_frames : about1.frames = Frame.invoking theMethod args0 :: below0 := rfl
set_option maxRecDepth 65536 in
theorem w_args : argsFit about1.vm theMethod args0 = true := by decide +kernel
set_option maxRecDepth 65536 in
theorem w_heap : heapFits about1 = true := by decide +kernel
set_option maxRecDepth 65536 in
theorem w_runnable : about1.curStatus? = some .runnable := by decide +kernel
set_option maxRecDepth 65536 in
theorem w_alone : about1.alone = true := by decide +kernel
set_option maxRecDepth 65536 in
theorem w_named : about1.methodNamed? x = some theMethod := by decide +kernel
set_option maxRecDepth 65536 in
theorem w_hears : about1.hears theMethod below0 = true := by decide +kernel
set_option maxRecDepth 65536 in
theorem w_ripe : about1.ripe theMethod args0 below0 = true := by decide +kernel
theorem w_running : about1.status = .running := rfl
set_option maxRecDepth 65536 in
theorem w_room : about1.hasRoom e0.platform room_1 = true :=
  launch0.hasRoom_least _ room_1 (by decide +kernel) (by decide +kernel) (by decide +kernel) (by decide +kernel) (by decide +kernel) (by decide +kernel)
theorem allAtoms_all (ts : List Jvm.Cond) (a : Array Jvm.Value) (st : Jvm.State) : (allAtoms ts).before a st = ts.all (fun c => c.before a st) := by
  induction ts with
  | nil => rfl
  | cons c t ih =>
    show (Jvm.Cond.and c (allAtoms t)).before a st = _
    rw [Jvm.Cond.before_and, ih, List.all_cons]
def words1 : List Jvm.Cond := Jvm.Cond.code x code maxLocals ret :: tables_1
/-- a 'code' word, met by the world's own term for the bytes: nothing is compared byte by byte -/
theorem code_word {y : MethodName} {bytes : ByteArray} {mx : Nat} {rt : Option FieldType} {a : Array Value} {s : State} {m : MethodId} {meth : Method} {c : Code} (h1 : s.methodNamed? y = some m) (h2 : s.vm.method? m = some meth) (h3 : meth.code = some c) (h4 : c.code = bytes)
    (h5 : (c.maxLocals == mx && c.exceptionTable.isEmpty && decide (c.maxStack ≤ mostOperands) && decide (meth.sig.returnType = rt) && !meth.locks && decide (parseMethodDescriptor y.desc = some meth.sig)) = true) : (Jvm.Cond.code y bytes mx rt).before a s = true := by
  simp only [Bool.and_eq_true, beq_iff_eq, Bool.not_eq_true', decide_eq_true_eq] at h5
  obtain ⟨⟨⟨⟨⟨g1, g2⟩, g3⟩, g4⟩, g5⟩, g6⟩ := h5
  simp [Cond.before, Cond.holds, Cond.value, h1, h2, h3, h4, g1, g2, g3, g4, g5, g6]
def isCode : Jvm.Cond → Bool
  | .code _ _ _ _ => true
  | _ => false
theorem all_split {L : List Jvm.Cond} {P : Jvm.Cond → Bool} (h1 : L.all (fun c => isCode c || P c) = true) (h2 : ∀ c ∈ L.filter isCode, P c = true) : L.all P = true := by
  refine List.all_eq_true.mpr fun c hc => ?_
  have h := List.all_eq_true.mp h1 c hc
  rcases Bool.eq_false_or_eq_true (isCode c) with hi | hi
  · exact h2 c (List.mem_filter.mpr ⟨hc, hi⟩)
  · simpa [hi] using h
set_option maxRecDepth 65536 in
theorem w_c0 : (Jvm.Cond.code x code maxLocals ret).before args0 about1 = true := code_word (m := ⟨1, 1⟩) (meth := k1m1) (c := k1c1) (by decide +kernel) rfl rfl rfl (by decide +kernel)
set_option maxRecDepth 65536 in
theorem w_c1 : (Jvm.Cond.code ({ cls := "PedigreeCheck", name := "<init>", desc := "(II)V" } : Jvm.MethodName) prog_1_method_1_code (4 : Nat) (Option.none : Option Jvm.ClassFile.FieldType)).before args0 about1 = true := code_word (m := ⟨2, 0⟩) (meth := k2m0) (c := k2c0) (by decide +kernel) rfl rfl rfl (by decide +kernel)
set_option maxRecDepth 65536 in
theorem w_c2 : (Jvm.Cond.code ({ cls := "java/lang/Object", name := "<init>", desc := "()V" } : Jvm.MethodName) object_method_1_code (1 : Nat) (Option.none : Option Jvm.ClassFile.FieldType)).before args0 about1 = true := code_word (m := ⟨0, 0⟩) (meth := k0m0) (c := k0c0) (by decide +kernel) rfl rfl rfl (by decide +kernel)
set_option maxRecDepth 65536 in
theorem w_c3 : (Jvm.Cond.code ({ cls := "PedigreeCheck", name := "clampSeed", desc := "(I)I" } : Jvm.MethodName) prog_1_method_2_code (2 : Nat) (Option.some Jvm.ClassFile.FieldType.int)).before args0 about1 = true := code_word (m := ⟨2, 1⟩) (meth := k2m1) (c := k2c1) (by decide +kernel) rfl rfl rfl (by decide +kernel)
set_option maxRecDepth 65536 in
theorem w_c4 : (Jvm.Cond.code ({ cls := "PedigreeCheck", name := "buildGenotypes", desc := "()V" } : Jvm.MethodName) prog_1_method_3_code (4 : Nat) (Option.none : Option Jvm.ClassFile.FieldType)).before args0 about1 = true := code_word (m := ⟨2, 2⟩) (meth := k2m2) (c := k2c2) (by decide +kernel) rfl rfl rfl (by decide +kernel)
set_option maxRecDepth 65536 in
theorem w_c5 : (Jvm.Cond.code ({ cls := "PedigreeCheck", name := "buildKidMasks", desc := "()V" } : Jvm.MethodName) prog_1_method_4_code (3 : Nat) (Option.none : Option Jvm.ClassFile.FieldType)).before args0 about1 = true := code_word (m := ⟨2, 3⟩) (meth := k2m3) (c := k2c3) (by decide +kernel) rfl rfl rfl (by decide +kernel)
set_option maxRecDepth 65536 in
theorem w_c6 : (Jvm.Cond.code ({ cls := "PedigreeCheck", name := "childMaskFor", desc := "(II)I" } : Jvm.MethodName) prog_1_method_5_code (5 : Nat) (Option.some Jvm.ClassFile.FieldType.int)).before args0 about1 = true := code_word (m := ⟨2, 4⟩) (meth := k2m4) (c := k2c4) (by decide +kernel) rfl rfl rfl (by decide +kernel)
set_option maxRecDepth 65536 in
theorem w_c7 : (Jvm.Cond.code ({ cls := "PedigreeCheck", name := "compatible", desc := "(III)Z" } : Jvm.MethodName) prog_1_method_6_code (14 : Nat) (Option.some Jvm.ClassFile.FieldType.boolean)).before args0 about1 = true := code_word (m := ⟨2, 5⟩) (meth := k2m5) (c := k2c5) (by decide +kernel) rfl rfl rfl (by decide +kernel)
set_option maxRecDepth 65536 in
theorem w_c8 : (Jvm.Cond.code ({ cls := "PedigreeCheck", name := "observe", desc := "(III)I" } : Jvm.MethodName) prog_1_method_10_code (4 : Nat) (Option.some Jvm.ClassFile.FieldType.int)).before args0 about1 = true := code_word (m := ⟨2, 9⟩) (meth := k2m9) (c := k2c9) (by decide +kernel) rfl rfl rfl (by decide +kernel)
set_option maxRecDepth 65536 in
theorem w_c9 : (Jvm.Cond.code ({ cls := "PedigreeCheck", name := "validId", desc := "(I)Z" } : Jvm.MethodName) prog_1_method_7_code (2 : Nat) (Option.some Jvm.ClassFile.FieldType.boolean)).before args0 about1 = true := code_word (m := ⟨2, 6⟩) (meth := k2m6) (c := k2c6) (by decide +kernel) rfl rfl rfl (by decide +kernel)
set_option maxRecDepth 65536 in
theorem w_c10 : (Jvm.Cond.code ({ cls := "PedigreeCheck", name := "individualCount", desc := "()I" } : Jvm.MethodName) prog_1_method_34_code (1 : Nat) (Option.some Jvm.ClassFile.FieldType.int)).before args0 about1 = true := code_word (m := ⟨2, 32⟩) (meth := k2m32) (c := k2c32) (by decide +kernel) rfl rfl rfl (by decide +kernel)
set_option maxRecDepth 65536 in
theorem w_c11 : (Jvm.Cond.code ({ cls := "PedigreeCheck", name := "status", desc := "()I" } : Jvm.MethodName) prog_1_method_29_code (1 : Nat) (Option.some Jvm.ClassFile.FieldType.int)).before args0 about1 = true := code_word (m := ⟨2, 28⟩) (meth := k2m28) (c := k2c28) (by decide +kernel) rfl rfl rfl (by decide +kernel)
set_option maxRecDepth 65536 in
theorem w_c12 : (Jvm.Cond.code ({ cls := "PedigreeCheck", name := "candidateCount", desc := "(I)I" } : Jvm.MethodName) prog_1_method_31_code (5 : Nat) (Option.some Jvm.ClassFile.FieldType.int)).before args0 about1 = true := code_word (m := ⟨2, 29⟩) (meth := k2m29) (c := k2c29) (by decide +kernel) rfl rfl rfl (by decide +kernel)
set_option maxRecDepth 65536 in
theorem w_c13 : (Jvm.Cond.code ({ cls := "PedigreeCheck", name := "droppedAllele", desc := "(II)I" } : Jvm.MethodName) prog_1_method_17_code (3 : Nat) (Option.some Jvm.ClassFile.FieldType.int)).before args0 about1 = true := code_word (m := ⟨2, 16⟩) (meth := k2m16) (c := k2c16) (by decide +kernel) rfl rfl rfl (by decide +kernel)
set_option maxRecDepth 65536 in
theorem w_c14 : (Jvm.Cond.code ({ cls := "PedigreeCheck", name := "conflictFamily", desc := "()I" } : Jvm.MethodName) prog_1_method_32_code (1 : Nat) (Option.some Jvm.ClassFile.FieldType.int)).before args0 about1 = true := code_word (m := ⟨2, 30⟩) (meth := k2m30) (c := k2c30) (by decide +kernel) rfl rfl rfl (by decide +kernel)
set_option maxRecDepth 65536 in
theorem w_c15 : (Jvm.Cond.code ({ cls := "PedigreeCheck", name := "addIndividual", desc := "(III)I" } : Jvm.MethodName) prog_1_method_9_code (4 : Nat) (Option.some Jvm.ClassFile.FieldType.int)).before args0 about1 = true := code_word (m := ⟨2, 8⟩) (meth := k2m8) (c := k2c8) (by decide +kernel) rfl rfl rfl (by decide +kernel)
set_option maxRecDepth 65536 in
theorem w_c16 : (Jvm.Cond.code ({ cls := "PedigreeCheck", name := "familySize", desc := "(I)I" } : Jvm.MethodName) prog_1_method_33_code (2 : Nat) (Option.some Jvm.ClassFile.FieldType.int)).before args0 about1 = true := code_word (m := ⟨2, 31⟩) (meth := k2m31) (c := k2c31) (by decide +kernel) rfl rfl rfl (by decide +kernel)
set_option maxRecDepth 65536 in
theorem w_c17 : (Jvm.Cond.code ({ cls := "PedigreeCheck", name := "isFamilyNumber", desc := "(I)Z" } : Jvm.MethodName) prog_1_method_22_code (5 : Nat) (Option.some Jvm.ClassFile.FieldType.boolean)).before args0 about1 = true := code_word (m := ⟨2, 21⟩) (meth := k2m21) (c := k2c21) (by decide +kernel) rfl rfl rfl (by decide +kernel)
set_option maxRecDepth 65536 in
theorem w_c18 : (Jvm.Cond.code ({ cls := "PedigreeCheck", name := "validAllele", desc := "(I)Z" } : Jvm.MethodName) prog_1_method_8_code (2 : Nat) (Option.some Jvm.ClassFile.FieldType.boolean)).before args0 about1 = true := code_word (m := ⟨2, 7⟩) (meth := k2m7) (c := k2c7) (by decide +kernel) rfl rfl rfl (by decide +kernel)
set_option maxRecDepth 65536 in
theorem w_c19 : (Jvm.Cond.code ({ cls := "PedigreeCheck", name := "unobserve", desc := "(I)I" } : Jvm.MethodName) prog_1_method_11_code (2 : Nat) (Option.some Jvm.ClassFile.FieldType.int)).before args0 about1 = true := code_word (m := ⟨2, 10⟩) (meth := k2m10) (c := k2c10) (by decide +kernel) rfl rfl rfl (by decide +kernel)
set_option maxRecDepth 65536 in
theorem w_c20 : (Jvm.Cond.code ({ cls := "PedigreeCheck", name := "setSeed", desc := "(I)V" } : Jvm.MethodName) prog_1_method_12_code (2 : Nat) (Option.none : Option Jvm.ClassFile.FieldType)).before args0 about1 = true := code_word (m := ⟨2, 11⟩) (meth := k2m11) (c := k2c11) (by decide +kernel) rfl rfl rfl (by decide +kernel)
set_option maxRecDepth 65536 in
theorem w_c21 : (Jvm.Cond.code ({ cls := "PedigreeCheck", name := "drop", desc := "()I" } : Jvm.MethodName) prog_1_method_15_code (4 : Nat) (Option.some Jvm.ClassFile.FieldType.int)).before args0 about1 = true := code_word (m := ⟨2, 14⟩) (meth := k2m14) (c := k2c14) (by decide +kernel) rfl rfl rfl (by decide +kernel)
set_option maxRecDepth 65536 in
theorem w_c22 : (Jvm.Cond.code ({ cls := "PedigreeCheck", name := "observeDropped", desc := "(I)I" } : Jvm.MethodName) prog_1_method_16_code (2 : Nat) (Option.some Jvm.ClassFile.FieldType.int)).before args0 about1 = true := code_word (m := ⟨2, 15⟩) (meth := k2m15) (c := k2c15) (by decide +kernel) rfl rfl rfl (by decide +kernel)
set_option maxRecDepth 65536 in
theorem w_c23 : (Jvm.Cond.code ({ cls := "PedigreeCheck", name := "nextDraw", desc := "()I" } : Jvm.MethodName) prog_1_method_13_code (1 : Nat) (Option.some Jvm.ClassFile.FieldType.int)).before args0 about1 = true := code_word (m := ⟨2, 12⟩) (meth := k2m12) (c := k2c12) (by decide +kernel) rfl rfl rfl (by decide +kernel)
set_option maxRecDepth 65536 in
theorem w_c24 : (Jvm.Cond.code ({ cls := "PedigreeCheck", name := "eliminate", desc := "()I" } : Jvm.MethodName) prog_1_method_18_code (5 : Nat) (Option.some Jvm.ClassFile.FieldType.int)).before args0 about1 = true := code_word (m := ⟨2, 17⟩) (meth := k2m17) (c := k2c17) (by decide +kernel) rfl rfl rfl (by decide +kernel)
set_option maxRecDepth 65536 in
theorem w_c25 : (Jvm.Cond.code ({ cls := "PedigreeCheck", name := "loadInit", desc := "()V" } : Jvm.MethodName) prog_1_method_19_code (2 : Nat) (Option.none : Option Jvm.ClassFile.FieldType)).before args0 about1 = true := code_word (m := ⟨2, 18⟩) (meth := k2m18) (c := k2c18) (by decide +kernel) rfl rfl rfl (by decide +kernel)
set_option maxRecDepth 65536 in
theorem w_c26 : (Jvm.Cond.code ({ cls := "PedigreeCheck", name := "runElimination", desc := "()V" } : Jvm.MethodName) prog_1_method_20_code (4 : Nat) (Option.none : Option Jvm.ClassFile.FieldType)).before args0 about1 = true := code_word (m := ⟨2, 19⟩) (meth := k2m19) (c := k2c19) (by decide +kernel) rfl rfl rfl (by decide +kernel)
set_option maxRecDepth 65536 in
theorem w_c27 : (Jvm.Cond.code ({ cls := "PedigreeCheck", name := "anyEmpty", desc := "()Z" } : Jvm.MethodName) prog_1_method_21_code (2 : Nat) (Option.some Jvm.ClassFile.FieldType.boolean)).before args0 about1 = true := code_word (m := ⟨2, 20⟩) (meth := k2m20) (c := k2c20) (by decide +kernel) rfl rfl rfl (by decide +kernel)
set_option maxRecDepth 65536 in
theorem w_c28 : (Jvm.Cond.code ({ cls := "PedigreeCheck", name := "collectKids", desc := "(I)V" } : Jvm.MethodName) prog_1_method_23_code (5 : Nat) (Option.none : Option Jvm.ClassFile.FieldType)).before args0 about1 = true := code_word (m := ⟨2, 22⟩) (meth := k2m22) (c := k2c22) (by decide +kernel) rfl rfl rfl (by decide +kernel)
set_option maxRecDepth 65536 in
theorem w_c29 : (Jvm.Cond.code ({ cls := "PedigreeCheck", name := "inherit", desc := "(I)I" } : Jvm.MethodName) prog_1_method_14_code (3 : Nat) (Option.some Jvm.ClassFile.FieldType.int)).before args0 about1 = true := code_word (m := ⟨2, 13⟩) (meth := k2m13) (c := k2c13) (by decide +kernel) rfl rfl rfl (by decide +kernel)
set_option maxRecDepth 65536 in
theorem w_c30 : (Jvm.Cond.code ({ cls := "PedigreeCheck", name := "hasAssignment", desc := "(I)Z" } : Jvm.MethodName) prog_1_method_26_code (6 : Nat) (Option.some Jvm.ClassFile.FieldType.boolean)).before args0 about1 = true := code_word (m := ⟨2, 25⟩) (meth := k2m25) (c := k2c25) (by decide +kernel) rfl rfl rfl (by decide +kernel)
set_option maxRecDepth 65536 in
theorem w_c31 : (Jvm.Cond.code ({ cls := "PedigreeCheck", name := "kidsFit", desc := "(I)Z" } : Jvm.MethodName) prog_1_method_24_code (3 : Nat) (Option.some Jvm.ClassFile.FieldType.boolean)).before args0 about1 = true := code_word (m := ⟨2, 23⟩) (meth := k2m23) (c := k2c23) (by decide +kernel) rfl rfl rfl (by decide +kernel)
set_option maxRecDepth 65536 in
theorem w_c32 : (Jvm.Cond.code ({ cls := "PedigreeCheck", name := "reduceFamily", desc := "(I)Z" } : Jvm.MethodName) prog_1_method_27_code (9 : Nat) (Option.some Jvm.ClassFile.FieldType.boolean)).before args0 about1 = true := code_word (m := ⟨2, 26⟩) (meth := k2m26) (c := k2c26) (by decide +kernel) rfl rfl rfl (by decide +kernel)
set_option maxRecDepth 65536 in
theorem w_c33 : (Jvm.Cond.code ({ cls := "PedigreeCheck", name := "addKidSupport", desc := "(I)V" } : Jvm.MethodName) prog_1_method_25_code (3 : Nat) (Option.none : Option Jvm.ClassFile.FieldType)).before args0 about1 = true := code_word (m := ⟨2, 24⟩) (meth := k2m24) (c := k2c24) (by decide +kernel) rfl rfl rfl (by decide +kernel)
set_option maxRecDepth 65536 in
theorem w_c34 : (Jvm.Cond.code ({ cls := "PedigreeCheck", name := "applySupport", desc := "(IIII)Z" } : Jvm.MethodName) prog_1_method_28_code (8 : Nat) (Option.some Jvm.ClassFile.FieldType.boolean)).before args0 about1 = true := code_word (m := ⟨2, 27⟩) (meth := k2m27) (c := k2c27) (by decide +kernel) rfl rfl rfl (by decide +kernel)
def codes1 : List Jvm.Cond := [Jvm.Cond.code x code maxLocals ret, Jvm.Cond.code ({ cls := "PedigreeCheck", name := "<init>", desc := "(II)V" } : Jvm.MethodName) prog_1_method_1_code (4 : Nat) (Option.none : Option Jvm.ClassFile.FieldType), Jvm.Cond.code ({ cls := "java/lang/Object", name := "<init>", desc := "()V" } : Jvm.MethodName) object_method_1_code (1 : Nat) (Option.none : Option Jvm.ClassFile.FieldType), Jvm.Cond.code ({ cls := "PedigreeCheck", name := "clampSeed", desc := "(I)I" } : Jvm.MethodName) prog_1_method_2_code (2 : Nat) (Option.some Jvm.ClassFile.FieldType.int), Jvm.Cond.code ({ cls := "PedigreeCheck", name := "buildGenotypes", desc := "()V" } : Jvm.MethodName) prog_1_method_3_code (4 : Nat) (Option.none : Option Jvm.ClassFile.FieldType), Jvm.Cond.code ({ cls := "PedigreeCheck", name := "buildKidMasks", desc := "()V" } : Jvm.MethodName) prog_1_method_4_code (3 : Nat) (Option.none : Option Jvm.ClassFile.FieldType), Jvm.Cond.code ({ cls := "PedigreeCheck", name := "childMaskFor", desc := "(II)I" } : Jvm.MethodName) prog_1_method_5_code (5 : Nat) (Option.some Jvm.ClassFile.FieldType.int), Jvm.Cond.code ({ cls := "PedigreeCheck", name := "compatible", desc := "(III)Z" } : Jvm.MethodName) prog_1_method_6_code (14 : Nat) (Option.some Jvm.ClassFile.FieldType.boolean), Jvm.Cond.code ({ cls := "PedigreeCheck", name := "observe", desc := "(III)I" } : Jvm.MethodName) prog_1_method_10_code (4 : Nat) (Option.some Jvm.ClassFile.FieldType.int), Jvm.Cond.code ({ cls := "PedigreeCheck", name := "validId", desc := "(I)Z" } : Jvm.MethodName) prog_1_method_7_code (2 : Nat) (Option.some Jvm.ClassFile.FieldType.boolean), Jvm.Cond.code ({ cls := "PedigreeCheck", name := "individualCount", desc := "()I" } : Jvm.MethodName) prog_1_method_34_code (1 : Nat) (Option.some Jvm.ClassFile.FieldType.int), Jvm.Cond.code ({ cls := "PedigreeCheck", name := "status", desc := "()I" } : Jvm.MethodName) prog_1_method_29_code (1 : Nat) (Option.some Jvm.ClassFile.FieldType.int), Jvm.Cond.code ({ cls := "PedigreeCheck", name := "candidateCount", desc := "(I)I" } : Jvm.MethodName) prog_1_method_31_code (5 : Nat) (Option.some Jvm.ClassFile.FieldType.int), Jvm.Cond.code ({ cls := "PedigreeCheck", name := "droppedAllele", desc := "(II)I" } : Jvm.MethodName) prog_1_method_17_code (3 : Nat) (Option.some Jvm.ClassFile.FieldType.int), Jvm.Cond.code ({ cls := "PedigreeCheck", name := "conflictFamily", desc := "()I" } : Jvm.MethodName) prog_1_method_32_code (1 : Nat) (Option.some Jvm.ClassFile.FieldType.int), Jvm.Cond.code ({ cls := "PedigreeCheck", name := "addIndividual", desc := "(III)I" } : Jvm.MethodName) prog_1_method_9_code (4 : Nat) (Option.some Jvm.ClassFile.FieldType.int), Jvm.Cond.code ({ cls := "PedigreeCheck", name := "familySize", desc := "(I)I" } : Jvm.MethodName) prog_1_method_33_code (2 : Nat) (Option.some Jvm.ClassFile.FieldType.int), Jvm.Cond.code ({ cls := "PedigreeCheck", name := "isFamilyNumber", desc := "(I)Z" } : Jvm.MethodName) prog_1_method_22_code (5 : Nat) (Option.some Jvm.ClassFile.FieldType.boolean), Jvm.Cond.code ({ cls := "PedigreeCheck", name := "validAllele", desc := "(I)Z" } : Jvm.MethodName) prog_1_method_8_code (2 : Nat) (Option.some Jvm.ClassFile.FieldType.boolean), Jvm.Cond.code ({ cls := "PedigreeCheck", name := "unobserve", desc := "(I)I" } : Jvm.MethodName) prog_1_method_11_code (2 : Nat) (Option.some Jvm.ClassFile.FieldType.int), Jvm.Cond.code ({ cls := "PedigreeCheck", name := "setSeed", desc := "(I)V" } : Jvm.MethodName) prog_1_method_12_code (2 : Nat) (Option.none : Option Jvm.ClassFile.FieldType), Jvm.Cond.code ({ cls := "PedigreeCheck", name := "drop", desc := "()I" } : Jvm.MethodName) prog_1_method_15_code (4 : Nat) (Option.some Jvm.ClassFile.FieldType.int), Jvm.Cond.code ({ cls := "PedigreeCheck", name := "observeDropped", desc := "(I)I" } : Jvm.MethodName) prog_1_method_16_code (2 : Nat) (Option.some Jvm.ClassFile.FieldType.int), Jvm.Cond.code ({ cls := "PedigreeCheck", name := "nextDraw", desc := "()I" } : Jvm.MethodName) prog_1_method_13_code (1 : Nat) (Option.some Jvm.ClassFile.FieldType.int), Jvm.Cond.code ({ cls := "PedigreeCheck", name := "eliminate", desc := "()I" } : Jvm.MethodName) prog_1_method_18_code (5 : Nat) (Option.some Jvm.ClassFile.FieldType.int), Jvm.Cond.code ({ cls := "PedigreeCheck", name := "loadInit", desc := "()V" } : Jvm.MethodName) prog_1_method_19_code (2 : Nat) (Option.none : Option Jvm.ClassFile.FieldType), Jvm.Cond.code ({ cls := "PedigreeCheck", name := "runElimination", desc := "()V" } : Jvm.MethodName) prog_1_method_20_code (4 : Nat) (Option.none : Option Jvm.ClassFile.FieldType), Jvm.Cond.code ({ cls := "PedigreeCheck", name := "anyEmpty", desc := "()Z" } : Jvm.MethodName) prog_1_method_21_code (2 : Nat) (Option.some Jvm.ClassFile.FieldType.boolean), Jvm.Cond.code ({ cls := "PedigreeCheck", name := "collectKids", desc := "(I)V" } : Jvm.MethodName) prog_1_method_23_code (5 : Nat) (Option.none : Option Jvm.ClassFile.FieldType), Jvm.Cond.code ({ cls := "PedigreeCheck", name := "inherit", desc := "(I)I" } : Jvm.MethodName) prog_1_method_14_code (3 : Nat) (Option.some Jvm.ClassFile.FieldType.int), Jvm.Cond.code ({ cls := "PedigreeCheck", name := "hasAssignment", desc := "(I)Z" } : Jvm.MethodName) prog_1_method_26_code (6 : Nat) (Option.some Jvm.ClassFile.FieldType.boolean), Jvm.Cond.code ({ cls := "PedigreeCheck", name := "kidsFit", desc := "(I)Z" } : Jvm.MethodName) prog_1_method_24_code (3 : Nat) (Option.some Jvm.ClassFile.FieldType.boolean), Jvm.Cond.code ({ cls := "PedigreeCheck", name := "reduceFamily", desc := "(I)Z" } : Jvm.MethodName) prog_1_method_27_code (9 : Nat) (Option.some Jvm.ClassFile.FieldType.boolean), Jvm.Cond.code ({ cls := "PedigreeCheck", name := "addKidSupport", desc := "(I)V" } : Jvm.MethodName) prog_1_method_25_code (3 : Nat) (Option.none : Option Jvm.ClassFile.FieldType), Jvm.Cond.code ({ cls := "PedigreeCheck", name := "applySupport", desc := "(IIII)Z" } : Jvm.MethodName) prog_1_method_28_code (8 : Nat) (Option.some Jvm.ClassFile.FieldType.boolean)]
set_option maxRecDepth 65536 in
theorem codes_eq : words1.filter isCode = codes1 := rfl
theorem w_codes : ∀ c ∈ words1.filter isCode, c.before args0 about1 = true := by
  rw [codes_eq]
  intro c hc
  simp only [codes1, List.mem_cons, List.not_mem_nil, or_false] at hc
  rcases hc with rfl | rfl | rfl | rfl | rfl | rfl | rfl | rfl | rfl | rfl | rfl | rfl | rfl | rfl | rfl | rfl | rfl | rfl | rfl | rfl | rfl | rfl | rfl | rfl | rfl | rfl | rfl | rfl | rfl | rfl | rfl | rfl | rfl | rfl | rfl
  · exact w_c0
  · exact w_c1
  · exact w_c2
  · exact w_c3
  · exact w_c4
  · exact w_c5
  · exact w_c6
  · exact w_c7
  · exact w_c8
  · exact w_c9
  · exact w_c10
  · exact w_c11
  · exact w_c12
  · exact w_c13
  · exact w_c14
  · exact w_c15
  · exact w_c16
  · exact w_c17
  · exact w_c18
  · exact w_c19
  · exact w_c20
  · exact w_c21
  · exact w_c22
  · exact w_c23
  · exact w_c24
  · exact w_c25
  · exact w_c26
  · exact w_c27
  · exact w_c28
  · exact w_c29
  · exact w_c30
  · exact w_c31
  · exact w_c32
  · exact w_c33
  · exact w_c34
set_option maxRecDepth 65536 in
theorem w_t1 : (words1.take 24).all (fun c => isCode c || c.before args0 about1) = true := by decide +kernel
set_option maxRecDepth 65536 in
theorem w_t2 : ((words1.drop 24).take 24).all (fun c => isCode c || c.before args0 about1) = true := by decide +kernel
set_option maxRecDepth 65536 in
theorem w_t3 : (((words1.drop 24).drop 24).take 24).all (fun c => isCode c || c.before args0 about1) = true := by decide +kernel
set_option maxRecDepth 65536 in
theorem w_t4 : ((((words1.drop 24).drop 24).drop 24).take 24).all (fun c => isCode c || c.before args0 about1) = true := by decide +kernel
set_option maxRecDepth 65536 in
theorem w_t5 : (((((words1.drop 24).drop 24).drop 24).drop 24).take 24).all (fun c => isCode c || c.before args0 about1) = true := by decide +kernel
set_option maxRecDepth 65536 in
theorem w_t6 : ((((((words1.drop 24).drop 24).drop 24).drop 24).drop 24).take 24).all (fun c => isCode c || c.before args0 about1) = true := by decide +kernel
set_option maxRecDepth 65536 in
theorem w_t7 : (((((((words1.drop 24).drop 24).drop 24).drop 24).drop 24).drop 24).take 24).all (fun c => isCode c || c.before args0 about1) = true := by decide +kernel
set_option maxRecDepth 65536 in
theorem w_t8 : ((((((((words1.drop 24).drop 24).drop 24).drop 24).drop 24).drop 24).drop 24).take 24).all (fun c => isCode c || c.before args0 about1) = true := by decide +kernel
set_option maxRecDepth 65536 in
theorem w_t9 : ((((((((words1.drop 24).drop 24).drop 24).drop 24).drop 24).drop 24).drop 24).drop 24).all (fun c => isCode c || c.before args0 about1) = true := by decide +kernel
theorem w_tables : (allAtoms (Jvm.Cond.code x code maxLocals ret :: tables_1)).before args0 about1 = true := by
  rw [allAtoms_all]
  show words1.all (fun c => c.before args0 about1) = true
  refine all_split ?_ w_codes
  rw [← List.take_append_drop 24 words1, List.all_append, w_t1, ← List.take_append_drop 24 (words1.drop 24), List.all_append, w_t2, ← List.take_append_drop 24 ((words1.drop 24).drop 24), List.all_append, w_t3, ← List.take_append_drop 24 (((words1.drop 24).drop 24).drop 24), List.all_append, w_t4, ← List.take_append_drop 24 ((((words1.drop 24).drop 24).drop 24).drop 24), List.all_append, w_t5, ← List.take_append_drop 24 (((((words1.drop 24).drop 24).drop 24).drop 24).drop 24), List.all_append, w_t6, ← List.take_append_drop 24 ((((((words1.drop 24).drop 24).drop 24).drop 24).drop 24).drop 24), List.all_append, w_t7, ← List.take_append_drop 24 (((((((words1.drop 24).drop 24).drop 24).drop 24).drop 24).drop 24).drop 24), List.all_append, w_t8, w_t9]
  rfl
set_option maxRecDepth 65536 in
theorem w_rest : rest_1_c.before args0 about1 = true := by decide +kernel
set_option maxRecDepth 65536 in
theorem w_case : (Jvm.Cond.and given_1 narrow_1).before args0 about1 = true := by decide +kernel
theorem w_applies : (headSpec (Jvm.Cond.code x code maxLocals ret :: tables_1) room_1).applies x e0.platform about1 = true :=
  (Spec.applies_iff w_frames).mpr ⟨w_running, w_runnable, w_alone, w_named, w_hears, w_ripe, w_room, w_tables⟩
theorem atStart : AtStart classFile x code maxLocals ret World_1 tables_1 room_1 Calls_1 rest_1 Pre_1 launch0 p0 e0 about1 theMethod args0 below0 :=
  ⟨lists_1, trivial, launch0.admits_env _ _ _, launch0.least_env, fairChoices_fair.cas, fairChoices_fair.clock, w_frames, w_args, w_heap, w_applies, trivial, w_rest, w_case⟩
end start1
theorem witness_1 : WitnessClaimed_1 := ⟨start1.p0, start1.e0, start1.about1, start1.theMethod, start1.args0, start1.below0, start1.atStart⟩
end Jvm.Pilot.@@N@@
