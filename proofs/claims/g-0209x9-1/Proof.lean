import JvmDerived
import JvmDerived.Pilot.@@N@@Statement
import JvmDerived.Pilot.@@N@@Code
set_option linter.unusedVariables false
set_option linter.unusedSimpArgs false
set_option maxRecDepth 20000
namespace Jvm.JX
open Sem ClassFile Op Lib
abbrev Cel : Type := FieldType × Nat × Bool × (Nat → Value)
abbrev AH : Type := Nat × (Nat → Cel)
abbrev MInfo : Type := Nat × Nat × Nat × Option FieldType × Jvm.Room
abbrev Prog : Type := (Nat → Nat → Option (Instr × Nat × Int)) × (Nat → MInfo) × (Nat → FieldType) × Nat
abbrev Fm : Type := Nat × List Slot × List Value × Nat × Nat × AH
def na (P : Prog) (m : Nat) : Nat := (P.2.1 m).1
def ml (P : Prog) (m : Nat) : Nat := (P.2.1 m).2.1
def kd (P : Prog) (m : Nat) : Nat := (P.2.1 m).2.2.1
def rt (P : Prog) (m : Nat) : Option FieldType := (P.2.1 m).2.2.2.1
def rm (P : Prog) (m : Nat) : Jvm.Room := (P.2.1 m).2.2.2.2
def isO (H : AH) (a : Nat) : Bool := match (H.2 a).1 with | .object _ => true | _ => false
def isOw (H : AH) (a : Nat) : Bool := isO H a && (H.2 a).2.2.1
def inA (H : AH) (a : Nat) (t : FieldType) (i : Int32) : Bool := decide ((H.2 a).1 = .array t) && !decide (i < 0) && decide (i.toNatClampNeg < (H.2 a).2.1)
def inAw (H : AH) (a : Nat) (t : FieldType) (i : Int32) : Bool := inA H a t i && (H.2 a).2.2.1
def isA (H : AH) (a : Nat) : Bool := match (H.2 a).1 with | .array _ => true | _ => false
def elt (H : AH) (a : Nat) (i : Int32) : Value := (H.2 a).2.2.2 i.toNatClampNeg
def fld (H : AH) (a k : Nat) : Value := (H.2 a).2.2.2 k
def alen (H : AH) (a : Nat) : Nat := (H.2 a).2.1
def wr (H : AH) (a j : Nat) (v : Value) : AH := (H.1, fun b => if b = a then ((H.2 a).1, (H.2 a).2.1, (H.2 a).2.2.1, fun i => if i = j then v else (H.2 a).2.2.2 i) else H.2 b)
def okv : FieldType → Value → Bool
  | .int, .int _ => true
  | .boolean, .int z => z == 0 || z == 1
  | .byte, .int z => z.toInt8.toInt32 == z
  | .long, .long _ => true
  | .array _, .ref _ => true
  | _, _ => false
def mkO (P : Prog) (H : AH) : AH := (H.1 + 1, fun b => if b = H.1 then (.object "", P.2.2.2, true, fun k => defaultValue (P.2.2.1 k)) else H.2 b)
def mkA (t : FieldType) (n : Nat) (H : AH) : AH := (H.1 + 1, fun b => if b = H.1 then (.array t, n, true, fun _ => defaultValue t) else H.2 b)
def cat1 : Slot → Bool | .unset => true | .val v => v.category == 1 | .second => false
def cs (S : List Value) : Nat := (S.map fun v => v.category).sum
def stl (L : List Slot) (i : Nat) (v : Value) : Option (List Slot) :=
  match L[i]? with
  | some .unset => some (L.set i (.val v))
  | some (.val w) => if w.category = 1 then some (L.set i (.val v)) else if i + 1 < L.length then some ((L.set (i + 1) .unset).set i (.val v)) else none
  | some .second => if 1 ≤ i then some ((L.set (i - 1) .unset).set i (.val v)) else none
  | none => none
def lng : Slot → Bool | .val v => v.category == 2 | _ => false
def stL (L : List Slot) (i : Nat) (v : Value) : Option (List Slot) :=
  match L[i]?, L[i + 1]? with
  | some (.val w), some o2 => if w.category = 2 then some ((L.set i (.val v)).set (i + 1) .second) else if cat1 o2 = true then some ((L.set i (.val v)).set (i + 1) .second) else if lng o2 = true ∧ i + 2 < L.length then some (((L.set i (.val v)).set (i + 2) .unset).set (i + 1) .second) else none
  | some .unset, some o2 => if cat1 o2 = true then some ((L.set i (.val v)).set (i + 1) .second) else if lng o2 = true ∧ i + 2 < L.length then some (((L.set i (.val v)).set (i + 2) .unset).set (i + 1) .second) else none
  | some .second, some o2 => if 1 ≤ i then (if cat1 o2 = true then some (((L.set (i - 1) .unset).set i (.val v)).set (i + 1) .second) else if lng o2 = true ∧ i + 2 < L.length then some ((((L.set (i - 1) .unset).set i (.val v)).set (i + 2) .unset).set (i + 1) .second) else none) else none
  | _, _ => none
def ent (P : Prog) (m : Nat) (a : List Value) : List Slot := Sym.laidSlots a ++ List.replicate (ml P m - (Sym.laidSlots a).length) .unset
def ilen : Instr → Nat
  | .bipush _ | .iload _ | .istore _ | .aload _ | .astore _ | .lload _ | .lstore _ | .newarray _ | .ldc _ => 2
  | .sipush _ | .getfield _ | .putfield _ | .new _ | .invokevirtual _ | .invokestatic _ | .invokespecial _ | .ldc2_w _ | .goto _ | .ifCond _ _ | .if_icmp _ _ | .iinc _ _ => 3
  | _ => 1
def ldI (L : List Slot) (i : Nat) : Option Value := match L[i]? with | some (.val (.int x)) => some (.int x) | _ => none
def ldJ (L : List Slot) (i : Nat) : Option Value := match L[i]? with | some (.val (.long x)) => some (.long x) | _ => none
def ldR (L : List Slot) (i : Nat) : Option Value := match L[i]? with | some (.val (.ref x)) => some (.ref x) | _ => none
def jmp (pc : Nat) (o : Int) : Option Nat := if 0 ≤ (pc : Int) + o then some ((pc : Int) + o).toNat else none
def ret (P : Prog) (m : Nat) (ins : Instr) (S : List Value) : Option (Option Value) :=
  match ins with
  | .return_ => if rt P m = none ∧ S = [] then some none else none
  | .ireturn => match S, rt P m with
    | .int z :: _, some .int => some (some (.int z))
    | .int z :: _, some .boolean => if z = 0 ∨ z = 1 then some (some (.int z)) else none
    | _, _ => none
  | .lreturn => match S, rt P m with
    | .long z :: _, some .long => some (some (.long z))
    | _, _ => none
  | _ => none
def rcv (H : AH) : List Value → Bool | .ref a :: _ => isO H a | _ => false
def may (P : Prog) (m m' : Nat) (a r : List Value) (k n : Nat) (H : AH) : Bool :=
  decide ((Sym.laidSlots a).length ≤ ml P m') && decide (a.length = na P m') && decide ((rm P m').frames + 1 ≤ (rm P m).frames) && decide (cs r + (ml P m' + 11) + (rm P m').locals ≤ (rm P m).locals)
    && (decide ((rm P m').cells = 0 ∧ (rm P m').slots = 0) || decide (k + (rm P m').cells ≤ (rm P m).cells ∧ n + (rm P m').slots ≤ (rm P m).slots))
    && (decide (kd P m' = 0) || rcv H a)
def kindOk : Instr → Nat → Bool
  | .invokevirtual _, k => k == 1 || k == 2
  | .invokestatic _, k => k == 0
  | .invokespecial _, k => k == 3
  | _, _ => false
def cal1 (P : Prog) (m : Nat) (ins : Instr) (aux : Int) (S : List Value) (k n : Nat) (H : AH) : Option (Nat × List Value × List Value) :=
  if 0 ≤ aux ∧ kindOk ins (kd P aux.toNat) = true ∧ may P m aux.toNat (S.take (na P aux.toNat)).reverse (S.drop (na P aux.toNat)) k n H = true
  then some (aux.toNat, (S.take (na P aux.toNat)).reverse, S.drop (na P aux.toNat)) else none
def cal (P : Prog) (m : Nat) (ins : Instr) (aux : Int) (S : List Value) (k n : Nat) (H : AH) : Option (Nat × List Value × List Value) :=
  match ins with
  | .invokevirtual _ | .invokestatic _ | .invokespecial _ => cal1 P m ins aux S k n H
  | _ => none
def opI : Instr → Option (Int32 → Int32 → Int32)
  | .iadd => some fun x y => x + y
  | .isub => some fun x y => x - y
  | .imul => some fun x y => x * y
  | .iand => some fun x y => x &&& y
  | .ior => some fun x y => x ||| y
  | .ixor => some fun x y => x ^^^ y
  | .ishl => some fun x y => x <<< (y &&& 31)
  | .ishr => some fun x y => x >>> (y &&& 31)
  | .iushr => some Jvm.Free.XT.ushr
  | _ => none
def opJ : Instr → Option (Int64 → Int64 → Int64)
  | .ladd => some fun x y => x + y
  | .lsub => some fun x y => x - y
  | .lmul => some fun x y => x * y
  | .land => some fun x y => x &&& y
  | .lor => some fun x y => x ||| y
  | .lxor => some fun x y => x ^^^ y
  | _ => none
def opS : Instr → Option (Int64 → Int32 → Int64)
  | .lshl => some fun x y => x <<< (y.toInt64 &&& 63)
  | .lshr => some fun x y => x >>> (y.toInt64 &&& 63)
  | .lushr => some Jvm.Free.XT.ushrL
  | _ => none
def stp (P : Prog) (m : Nat) (ins : Instr) (len : Nat) (aux : Int) (pc : Nat) (L : List Slot) (S : List Value) (k n : Nat) (H : AH) : Option Fm :=
  match ins with
  | .iconst i => some (pc + len, L, .int (Int32.ofInt i) :: S, k, n, H)
  | .bipush i => some (pc + len, L, .int (Int8.ofInt i).toInt32 :: S, k, n, H)
  | .sipush i => some (pc + len, L, .int (Int16.ofInt i).toInt32 :: S, k, n, H)
  | .lconst i => some (pc + len, L, .long (Int64.ofNat i) :: S, k, n, H)
  | .ldc _ => some (pc + len, L, .int (Int32.ofInt aux) :: S, k, n, H)
  | .ldc2_w _ => some (pc + len, L, .long (Int64.ofInt aux) :: S, k, n, H)
  | .iload i => (ldI L i).map fun v => (pc + len, L, v :: S, k, n, H)
  | .iload_n i => (ldI L i.val).map fun v => (pc + len, L, v :: S, k, n, H)
  | .lload i => (ldJ L i).map fun v => (pc + len, L, v :: S, k, n, H)
  | .lload_n i => (ldJ L i.val).map fun v => (pc + len, L, v :: S, k, n, H)
  | .aload i => (ldR L i).map fun v => (pc + len, L, v :: S, k, n, H)
  | .aload_n i => (ldR L i.val).map fun v => (pc + len, L, v :: S, k, n, H)
  | .istore i => match S with | .int x :: S => (stl L i (.int x)).map fun L => (pc + len, L, S, k, n, H) | _ => none
  | .istore_n i => match S with | .int x :: S => (stl L i.val (.int x)).map fun L => (pc + len, L, S, k, n, H) | _ => none
  | .astore i => match S with | .ref x :: S => (stl L i (.ref x)).map fun L => (pc + len, L, S, k, n, H) | _ => none
  | .astore_n i => match S with | .ref x :: S => (stl L i.val (.ref x)).map fun L => (pc + len, L, S, k, n, H) | _ => none
  | .lstore i => match S with | .long x :: S => (stL L i (.long x)).map fun L => (pc + len, L, S, k, n, H) | _ => none
  | .lstore_n i => match S with | .long x :: S => (stL L i.val (.long x)).map fun L => (pc + len, L, S, k, n, H) | _ => none
  | .iinc i c => match L[i]? with | some (.val (.int x)) => some (pc + len, L.set i (.val (.int (x + Int32.ofInt c))), S, k, n, H) | _ => none
  | .iadd | .isub | .imul | .iand | .ior | .ixor | .ishl | .ishr | .iushr => match S with | .int y :: .int x :: S => (opI ins).map fun f => (pc + len, L, .int (f x y) :: S, k, n, H) | _ => none
  | .ladd | .lsub | .lmul | .land | .lor | .lxor => match S with | .long y :: .long x :: S => (opJ ins).map fun f => (pc + len, L, .long (f x y) :: S, k, n, H) | _ => none
  | .lshl | .lshr | .lushr => match S with | .int y :: .long x :: S => (opS ins).map fun f => (pc + len, L, .long (f x y) :: S, k, n, H) | _ => none
  | .idiv => match S with | .int y :: .int x :: S => if y = 0 then none else some (pc + len, L, .int (x / y) :: S, k, n, H) | _ => none
  | .irem => match S with | .int y :: .int x :: S => if y = 0 then none else some (pc + len, L, .int (x % y) :: S, k, n, H) | _ => none
  | .ldiv => match S with | .long y :: .long x :: S => if y = 0 then none else some (pc + len, L, .long (x / y) :: S, k, n, H) | _ => none
  | .lrem => match S with | .long y :: .long x :: S => if y = 0 then none else some (pc + len, L, .long (x % y) :: S, k, n, H) | _ => none
  | .ineg => match S with | .int x :: S => some (pc + len, L, .int (-x) :: S, k, n, H) | _ => none
  | .lneg => match S with | .long x :: S => some (pc + len, L, .long (-x) :: S, k, n, H) | _ => none
  | .i2l => match S with | .int x :: S => some (pc + len, L, .long x.toInt64 :: S, k, n, H) | _ => none
  | .l2i => match S with | .long x :: S => some (pc + len, L, .int x.toInt32 :: S, k, n, H) | _ => none
  | .i2b => match S with | .int x :: S => some (pc + len, L, .int x.toInt8.toInt32 :: S, k, n, H) | _ => none
  | .lcmp => match S with | .long y :: .long x :: S => some (pc + len, L, .int (Jvm.Free.XT.cmpL x y) :: S, k, n, H) | _ => none
  | .dup => match S with | v :: S => if v.category = 1 then some (pc + len, L, v :: v :: S, k, n, H) else none | _ => none
  | .dup2 => match S with
    | .long x :: S => some (pc + len, L, .long x :: .long x :: S, k, n, H)
    | v :: w :: S => if v.category = 1 ∧ w.category = 1 then some (pc + len, L, v :: w :: v :: w :: S, k, n, H) else none
    | _ => none
  | .pop => match S with | v :: S => if v.category = 1 then some (pc + len, L, S, k, n, H) else none | _ => none
  | .goto o => (jmp pc o).map fun q => (q, L, S, k, n, H)
  | .ifCond c o => match S with | .int x :: S => if ifCond.holds c x = true then (jmp pc o).map fun q => (q, L, S, k, n, H) else some (pc + len, L, S, k, n, H) | _ => none
  | .if_icmp c o => match S with | .int y :: .int x :: S => if if_icmp.holds c x y = true then (jmp pc o).map fun q => (q, L, S, k, n, H) else some (pc + len, L, S, k, n, H) | _ => none
  | .tableswitch d lo hi os => match S with
    | .int x :: S => if x.toInt < lo ∨ x.toInt > hi then (jmp pc d).map fun q => (q, L, S, k, n, H) else (os[(x.toInt - lo).toNat]?).bind fun o => (jmp pc o).map fun q => (q, L, S, k, n, H)
    | _ => none
  | .getfield _ => match S with | .ref a :: S => if isO H a = true then some (pc + len, L, fld H a aux.toNat :: S, k, n, H) else none | _ => none
  | .putfield _ => match S with | v :: .ref a :: S => if isOw H a = true ∧ okv (P.2.2.1 aux.toNat) v = true then some (pc + len, L, S, k, n, wr H a aux.toNat v) else none | _ => none
  | .iaload => match S with | .int i :: .ref a :: S => if inA H a .int i = true then some (pc + len, L, elt H a i :: S, k, n, H) else none | _ => none
  | .laload => match S with | .int i :: .ref a :: S => if inA H a .long i = true then some (pc + len, L, elt H a i :: S, k, n, H) else none | _ => none
  | .baload => match S with | .int i :: .ref a :: S => if inA H a .byte i = true ∨ inA H a .boolean i = true then some (pc + len, L, elt H a i :: S, k, n, H) else none | _ => none
  | .iastore => match S with | .int x :: .int i :: .ref a :: S => if inAw H a .int i = true then some (pc + len, L, S, k, n, wr H a i.toNatClampNeg (.int x)) else none | _ => none
  | .lastore => match S with | .long x :: .int i :: .ref a :: S => if inAw H a .long i = true then some (pc + len, L, S, k, n, wr H a i.toNatClampNeg (.long x)) else none | _ => none
  | .bastore => match S with
    | .int x :: .int i :: .ref a :: S => if (inAw H a .byte i = true ∧ okv .byte (.int x) = true) ∨ (inAw H a .boolean i = true ∧ okv .boolean (.int x) = true) then some (pc + len, L, S, k, n, wr H a i.toNatClampNeg (.int x)) else none
    | _ => none
  | .arraylength => match S with | .ref a :: S => if isA H a = true then some (pc + len, L, .int (alen H a).toInt32 :: S, k, n, H) else none | _ => none
  | .newarray t => match S with | .int c :: S => if ¬ c < 0 ∧ c.toNatClampNeg * 8 ≤ 536870912 ∧ k + 1 ≤ (rm P m).cells ∧ n + c.toNatClampNeg ≤ (rm P m).slots then some (pc + len, L, .ref H.1 :: S, k + 1, n + c.toNatClampNeg, mkA (newarray.typeOf t) c.toNatClampNeg H) else none | _ => none
  | .new _ => if 0 ≤ aux ∧ k + 1 ≤ (rm P m).cells ∧ n + aux.toNat ≤ (rm P m).slots then some (pc + len, L, .ref H.1 :: S, k + 1, n + aux.toNat, mkO P H) else none
  | .invokespecial _ => match S with | .ref a :: S => if aux = -1 ∧ 1 ≤ (rm P m).frames ∧ cs S + 12 ≤ (rm P m).locals then some (pc + len, L, S, k, n, H) else none | _ => none
  | _ => none
def run (P : Prog) : Nat → Nat → Nat → List Slot → List Value → Nat → Nat → AH → Option (Option Value × AH)
  | 0, _, _, _, _, _, _, _ => none
  | f + 1, m, pc, L, S, k, n, H =>
    match P.1 m pc with
    | none => none
    | some d =>
      match ret P m d.1 S with
      | some v => some (v, H)
      | none => match cal P m d.1 d.2.2 S k n H with
        | some c => match run P f c.1 0 (ent P c.1 c.2.1) [] 0 0 H with
          | none => none
          | some r => run P f m (pc + d.2.1) L (r.1.toList ++ c.2.2) (k + (rm P c.1).cells) (n + (rm P c.1).slots) r.2
        | none => match stp P m d.1 d.2.1 d.2.2 pc L S k n H with
          | none => none
          | some q => run P f m q.1 q.2.1 q.2.2.1 q.2.2.2.1 q.2.2.2.2.1 q.2.2.2.2.2
end Jvm.JX

namespace Jvm.JX
open Sem ClassFile Op Lib
section
variable {P : Prog}
theorem run_succ (f m pc : Nat) (L : List Slot) (S : List Value) (k n : Nat) (H : AH) : run P (f + 1) m pc L S k n H =
    match P.1 m pc with
    | none => none
    | some d =>
      match ret P m d.1 S with
      | some v => some (v, H)
      | none => match cal P m d.1 d.2.2 S k n H with
        | some c => match run P f c.1 0 (ent P c.1 c.2.1) [] 0 0 H with
          | none => none
          | some r => run P f m (pc + d.2.1) L (r.1.toList ++ c.2.2) (k + (rm P c.1).cells) (n + (rm P c.1).slots) r.2
        | none => match stp P m d.1 d.2.1 d.2.2 pc L S k n H with
          | none => none
          | some q => run P f m q.1 q.2.1 q.2.2.1 q.2.2.2.1 q.2.2.2.2.1 q.2.2.2.2.2 := rfl
theorem run_mono : ∀ (f m pc : Nat) (L : List Slot) (S : List Value) (k n : Nat) (H : AH) (r : Option Value × AH), run P f m pc L S k n H = some r → run P (f + 1) m pc L S k n H = some r := by
  intro f
  induction f with
  | zero => intro m pc L S k n H r h; cases h
  | succ f ih =>
    intro m pc L S k n H r h
    rw [run_succ] at h ⊢
    cases hd : P.1 m pc with
    | none => rw [hd] at h; cases h
    | some d =>
      rw [hd] at h
      simp only at h ⊢
      cases hr : ret P m d.1 S with
      | some v => rw [hr] at h; exact h
      | none =>
        rw [hr] at h
        simp only at h ⊢
        cases hc : cal P m d.1 d.2.2 S k n H with
        | some c =>
          rw [hc] at h
          simp only at h ⊢
          cases hq : run P f c.1 0 (ent P c.1 c.2.1) [] 0 0 H with
          | none => rw [hq] at h; cases h
          | some q =>
            rw [hq] at h
            rw [ih _ _ _ _ _ _ _ _ hq]
            exact ih _ _ _ _ _ _ _ _ h
        | none =>
          rw [hc] at h
          simp only at h ⊢
          cases hs : stp P m d.1 d.2.1 d.2.2 pc L S k n H with
          | none => rw [hs] at h; cases h
          | some q => rw [hs] at h; exact ih _ _ _ _ _ _ _ _ h
theorem run_le {f g : Nat} (hfg : f ≤ g) {m pc : Nat} {L : List Slot} {S : List Value} {k n : Nat} {H : AH} {r : Option Value × AH} (h : run P f m pc L S k n H = some r) : run P g m pc L S k n H = some r := by
  induction hfg with
  | refl => exact h
  | step _ ih => exact run_mono _ _ _ _ _ _ _ _ _ ih
end
def W (P : Prog) (m pc : Nat) (L : List Slot) (S : List Value) (k n : Nat) (H : AH) (Q : Option Value → AH → Prop) : Prop := ∃ f v H', run P f m pc L S k n H = some (v, H') ∧ Q v H'
def Cl (P : Prog) (m : Nat) (a : List Value) (H : AH) (Q : Option Value → AH → Prop) : Prop := W P m 0 (ent P m a) [] 0 0 H Q
section Rules
variable {P : Prog} {m pc : Nat} {L : List Slot} {S : List Value} {k n : Nat} {H : AH} {Q : Option Value → AH → Prop} {ins : Instr} {len : Nat} {aux : Int}
theorem W_r {v : Option Value} (hd : P.1 m pc = some (ins, len, aux)) (hr : ret P m ins S = some v) : W P m pc L S k n H Q ↔ Q v H := by
  constructor
  · rintro ⟨f, v', H', h1, h2⟩
    cases f with
    | zero => cases h1
    | succ f => rw [run_succ, hd] at h1; simp only [hr] at h1; cases h1; exact h2
  · intro h
    refine ⟨1, v, H, ?_, h⟩
    rw [run_succ, hd]; simp only [hr]
theorem W_c {m' : Nat} {a r : List Value} (hd : P.1 m pc = some (ins, len, aux)) (hr : ret P m ins S = none) (hc : cal P m ins aux S k n H = some (m', a, r)) :
    W P m pc L S k n H Q ↔ Cl P m' a H (fun v H' => W P m (pc + len) L (v.toList ++ r) (k + (rm P m').cells) (n + (rm P m').slots) H' Q) := by
  constructor
  · rintro ⟨f, v', H', h1, h2⟩
    cases f with
    | zero => cases h1
    | succ f =>
      rw [run_succ, hd] at h1; simp only [hr, hc] at h1
      cases hq : run P f m' 0 (ent P m' a) [] 0 0 H with
      | none => rw [hq] at h1; cases h1
      | some q => rw [hq] at h1; exact ⟨f, q.1, q.2, hq, f, v', H', h1, h2⟩
  · rintro ⟨f, v, H', h1, g, v', H'', h2, h3⟩
    refine ⟨max f g + 1, v', H'', ?_, h3⟩
    rw [run_succ, hd]; simp only [hr, hc]
    rw [run_le (Nat.le_max_left f g) h1]
    exact run_le (Nat.le_max_right f g) h2
theorem W_q (hd : P.1 m pc = some (ins, len, aux)) (hr : ret P m ins S = none) (hc : cal P m ins aux S k n H = none) :
    W P m pc L S k n H Q ↔ ∃ q, stp P m ins len aux pc L S k n H = some q ∧ W P m q.1 q.2.1 q.2.2.1 q.2.2.2.1 q.2.2.2.2.1 q.2.2.2.2.2 Q := by
  constructor
  · rintro ⟨f, v', H', h1, h2⟩
    cases f with
    | zero => cases h1
    | succ f =>
      rw [run_succ, hd] at h1; simp only [hr, hc] at h1
      cases hq : stp P m ins len aux pc L S k n H with
      | none => rw [hq] at h1; cases h1
      | some q => rw [hq] at h1; exact ⟨q, rfl, f, v', H', h1, h2⟩
  · rintro ⟨q, hq, f, v', H', h1, h2⟩
    refine ⟨f + 1, v', H', ?_, h2⟩
    rw [run_succ, hd]; simp only [hr, hc, hq]; exact h1
theorem W_s {pc' : Nat} {L' : List Slot} {S' : List Value} {k' n' : Nat} {H' : AH} (hd : P.1 m pc = some (ins, len, aux)) (hr : ret P m ins S = none) (hc : cal P m ins aux S k n H = none)
    (hs : stp P m ins len aux pc L S k n H = some (pc', L', S', k', n', H')) : W P m pc L S k n H Q ↔ W P m pc' L' S' k' n' H' Q := by
  rw [W_q hd hr hc, hs]
  exact ⟨fun ⟨q, e, h⟩ => by cases e; exact h, fun h => ⟨_, rfl, h⟩⟩
theorem W_g {G : Prop} [Decidable G] {pc' : Nat} {L' : List Slot} {S' : List Value} {k' n' : Nat} {H' : AH} (hd : P.1 m pc = some (ins, len, aux)) (hr : ret P m ins S = none) (hc : cal P m ins aux S k n H = none)
    (hs : stp P m ins len aux pc L S k n H = if G then some (pc', L', S', k', n', H') else none) : W P m pc L S k n H Q ↔ (G ∧ W P m pc' L' S' k' n' H' Q) := by
  rw [W_q hd hr hc, hs]
  by_cases g : G
  · rw [if_pos g]; exact ⟨fun ⟨q, e, h⟩ => by cases e; exact ⟨g, h⟩, fun h => ⟨_, rfl, h.2⟩⟩
  · rw [if_neg g]; exact ⟨fun ⟨q, e, h⟩ => (by cases e), fun h => absurd h.1 g⟩
theorem W_n {G : Prop} [Decidable G] {pc' : Nat} {L' : List Slot} {S' : List Value} {k' n' : Nat} {H' : AH} (hd : P.1 m pc = some (ins, len, aux)) (hr : ret P m ins S = none) (hc : cal P m ins aux S k n H = none)
    (hs : stp P m ins len aux pc L S k n H = if G then none else some (pc', L', S', k', n', H')) : W P m pc L S k n H Q ↔ (¬ G ∧ W P m pc' L' S' k' n' H' Q) := by
  rw [W_q hd hr hc, hs]
  by_cases g : G
  · rw [if_pos g]; exact ⟨fun ⟨q, e, h⟩ => (by cases e), fun h => absurd g h.1⟩
  · rw [if_neg g]; exact ⟨fun ⟨q, e, h⟩ => by cases e; exact ⟨g, h⟩, fun h => ⟨_, rfl, h.2⟩⟩
theorem W_f {G : Prop} [Decidable G] {q1 q2 : Fm} (hd : P.1 m pc = some (ins, len, aux)) (hr : ret P m ins S = none) (hc : cal P m ins aux S k n H = none)
    (hs : stp P m ins len aux pc L S k n H = if G then some q1 else some q2) : W P m pc L S k n H Q ↔ (if G then W P m q1.1 q1.2.1 q1.2.2.1 q1.2.2.2.1 q1.2.2.2.2.1 q1.2.2.2.2.2 Q else W P m q2.1 q2.2.1 q2.2.2.1 q2.2.2.2.1 q2.2.2.2.2.1 q2.2.2.2.2.2 Q) := by
  rw [W_q hd hr hc, hs]
  by_cases g : G
  · rw [if_pos g, if_pos g]; exact ⟨fun ⟨q, e, h⟩ => by cases e; exact h, fun h => ⟨_, rfl, h⟩⟩
  · rw [if_neg g, if_neg g]; exact ⟨fun ⟨q, e, h⟩ => by cases e; exact h, fun h => ⟨_, rfl, h⟩⟩
section Cmp
variable {x y : Int32} {o : Int} {q : Nat}
theorem W_icmp_eq (hd : P.1 m pc = some (.if_icmp .eq o, len, aux)) (hj : jmp pc o = some q) : W P m pc L (.int y :: .int x :: S) k n H Q ↔ (if x = y then W P m q L S k n H Q else W P m (pc + len) L S k n H Q) :=
  W_f (G := x = y) (q1 := (q, L, S, k, n, H)) (q2 := (pc + len, L, S, k, n, H)) hd rfl rfl (by simp only [stp, hj, if_icmp.holds]; by_cases h : x = y <;> simp [h])
theorem W_icmp_ne (hd : P.1 m pc = some (.if_icmp .ne o, len, aux)) (hj : jmp pc o = some q) : W P m pc L (.int y :: .int x :: S) k n H Q ↔ (if x = y then W P m (pc + len) L S k n H Q else W P m q L S k n H Q) :=
  W_f (G := x = y) (q1 := (pc + len, L, S, k, n, H)) (q2 := (q, L, S, k, n, H)) hd rfl rfl (by simp only [stp, hj, if_icmp.holds]; by_cases h : x = y <;> simp [h])
theorem W_icmp_lt (hd : P.1 m pc = some (.if_icmp .lt o, len, aux)) (hj : jmp pc o = some q) : W P m pc L (.int y :: .int x :: S) k n H Q ↔ (if x < y then W P m q L S k n H Q else W P m (pc + len) L S k n H Q) :=
  W_f (G := x < y) (q1 := (q, L, S, k, n, H)) (q2 := (pc + len, L, S, k, n, H)) hd rfl rfl (by
    by_cases h : x < y
    · simp [stp, hj, Jvm.Free.XT.ii_lt_t h, h]
    · simp [stp, hj, Jvm.Free.XT.ii_lt_f h, h])
theorem W_icmp_ge (hd : P.1 m pc = some (.if_icmp .ge o, len, aux)) (hj : jmp pc o = some q) : W P m pc L (.int y :: .int x :: S) k n H Q ↔ (if x < y then W P m (pc + len) L S k n H Q else W P m q L S k n H Q) :=
  W_f (G := x < y) (q1 := (pc + len, L, S, k, n, H)) (q2 := (q, L, S, k, n, H)) hd rfl rfl (by
    by_cases h : x < y
    · simp [stp, hj, Jvm.Free.XT.ii_ge_f h, h]
    · simp [stp, hj, Jvm.Free.XT.ii_ge_t h, h])
theorem W_icmp_gt (hd : P.1 m pc = some (.if_icmp .gt o, len, aux)) (hj : jmp pc o = some q) : W P m pc L (.int y :: .int x :: S) k n H Q ↔ (if y < x then W P m q L S k n H Q else W P m (pc + len) L S k n H Q) :=
  W_f (G := y < x) (q1 := (q, L, S, k, n, H)) (q2 := (pc + len, L, S, k, n, H)) hd rfl rfl (by
    by_cases h : y < x
    · simp [stp, hj, Jvm.Free.XT.ii_gt_t h, h]
    · simp [stp, hj, Jvm.Free.XT.ii_gt_f h, h])
theorem W_icmp_le (hd : P.1 m pc = some (.if_icmp .le o, len, aux)) (hj : jmp pc o = some q) : W P m pc L (.int y :: .int x :: S) k n H Q ↔ (if y < x then W P m (pc + len) L S k n H Q else W P m q L S k n H Q) :=
  W_f (G := y < x) (q1 := (pc + len, L, S, k, n, H)) (q2 := (q, L, S, k, n, H)) hd rfl rfl (by
    by_cases h : y < x
    · simp [stp, hj, Jvm.Free.XT.ii_le_f h, h]
    · simp [stp, hj, Jvm.Free.XT.ii_le_t h, h])
theorem W_if_eq (hd : P.1 m pc = some (.ifCond .eq o, len, aux)) (hj : jmp pc o = some q) : W P m pc L (.int x :: S) k n H Q ↔ (if x = 0 then W P m q L S k n H Q else W P m (pc + len) L S k n H Q) :=
  W_f (G := x = 0) (q1 := (q, L, S, k, n, H)) (q2 := (pc + len, L, S, k, n, H)) hd rfl rfl (by
    by_cases h : x = 0
    · have e := Jvm.Free.XT.i0_eq_t h; simp only [stp, hj, e, if_pos h, if_true, Option.map_some]
    · simp [stp, hj, Jvm.Free.XT.i0_eq_f h, h])
theorem W_if_ne (hd : P.1 m pc = some (.ifCond .ne o, len, aux)) (hj : jmp pc o = some q) : W P m pc L (.int x :: S) k n H Q ↔ (if x = 0 then W P m (pc + len) L S k n H Q else W P m q L S k n H Q) :=
  W_f (G := x = 0) (q1 := (pc + len, L, S, k, n, H)) (q2 := (q, L, S, k, n, H)) hd rfl rfl (by
    by_cases h : x = 0
    · have e := Jvm.Free.XT.i0_ne_f h; simp only [stp, hj, e, if_pos h, Bool.false_eq_true, if_false]
    · simp [stp, hj, Jvm.Free.XT.i0_ne_t h, h])
theorem W_if_lt (hd : P.1 m pc = some (.ifCond .lt o, len, aux)) (hj : jmp pc o = some q) : W P m pc L (.int x :: S) k n H Q ↔ (if x < 0 then W P m q L S k n H Q else W P m (pc + len) L S k n H Q) :=
  W_f (G := x < 0) (q1 := (q, L, S, k, n, H)) (q2 := (pc + len, L, S, k, n, H)) hd rfl rfl (by
    by_cases h : x < 0
    · simp [stp, hj, Jvm.Free.XT.i0_lt_t h, h]
    · simp [stp, hj, Jvm.Free.XT.i0_lt_f h, h])
theorem W_if_le (hd : P.1 m pc = some (.ifCond .le o, len, aux)) (hj : jmp pc o = some q) : W P m pc L (.int x :: S) k n H Q ↔ (if 0 < x then W P m (pc + len) L S k n H Q else W P m q L S k n H Q) :=
  W_f (G := 0 < x) (q1 := (pc + len, L, S, k, n, H)) (q2 := (q, L, S, k, n, H)) hd rfl rfl (by
    by_cases h : 0 < x
    · simp [stp, hj, Jvm.Free.XT.i0_le_f h, h]
    · simp [stp, hj, Jvm.Free.XT.i0_le_t h, h])
theorem W_goto (hd : P.1 m pc = some (.goto o, len, aux)) (hj : jmp pc o = some q) : W P m pc L S k n H Q ↔ W P m q L S k n H Q := W_s hd rfl rfl (by simp [stp, hj])
end Cmp
section Sto
variable {i : Nat} {o o2 : Slot} {x y : Int32} {v : Value} {l : Int64} {a : Nat}
theorem stl_plain (h : L[i]? = some o) (ho : cat1 o = true) : stl L i v = some (L.set i (.val v)) := by
  unfold stl
  rw [h]
  cases o with
  | unset => rfl
  | second => cases ho
  | val w => simp only [cat1, beq_iff_eq] at ho; simp [ho]
theorem stL_plain (h : L[i]? = some o) (h2 : L[i + 1]? = some o2) (ho : cat1 o = true) (ho2 : cat1 o2 = true) : stL L i v = some ((L.set i (.val v)).set (i + 1) .second) := by
  unfold stL
  rw [h, h2]
  cases o with
  | unset => simp [ho2]
  | second => cases ho
  | val w => simp only [cat1, beq_iff_eq] at ho; simp [ho, ho2]
theorem stL_again (h : L[i]? = some (.val (.long l))) (h2 : L[i + 1]? = some o2) : stL L i v = some ((L.set i (.val v)).set (i + 1) .second) := by
  unfold stL
  rw [h, h2]; simp [Value.category]
theorem W_ist (hd : P.1 m pc = some (.istore i, len, aux)) (h : L[i]? = some o) (ho : cat1 o = true) : W P m pc L (.int x :: S) k n H Q ↔ W P m (pc + len) (L.set i (.val (.int x))) S k n H Q := W_s hd rfl rfl (by simp [stp, stl_plain h ho])
theorem W_istn {i : Fin 4} (hd : P.1 m pc = some (.istore_n i, len, aux)) (h : L[i.val]? = some o) (ho : cat1 o = true) : W P m pc L (.int x :: S) k n H Q ↔ W P m (pc + len) (L.set i.val (.val (.int x))) S k n H Q := W_s hd rfl rfl (by simp [stp, stl_plain h ho])
theorem W_astn {i : Fin 4} (hd : P.1 m pc = some (.astore_n i, len, aux)) (h : L[i.val]? = some o) (ho : cat1 o = true) : W P m pc L (.ref a :: S) k n H Q ↔ W P m (pc + len) (L.set i.val (.val (.ref a))) S k n H Q := W_s hd rfl rfl (by simp [stp, stl_plain h ho])
theorem W_lst (hd : P.1 m pc = some (.lstore i, len, aux)) (h : L[i]? = some o) (h2 : L[i + 1]? = some o2) (ho : cat1 o = true) (ho2 : cat1 o2 = true) : W P m pc L (.long l :: S) k n H Q ↔ W P m (pc + len) ((L.set i (.val (.long l))).set (i + 1) .second) S k n H Q := W_s hd rfl rfl (by simp [stp, stL_plain h h2 ho ho2])
theorem W_lstn {i : Fin 4} (hd : P.1 m pc = some (.lstore_n i, len, aux)) (h : L[i.val]? = some o) (h2 : L[i.val + 1]? = some o2) (ho : cat1 o = true) (ho2 : cat1 o2 = true) : W P m pc L (.long l :: S) k n H Q ↔ W P m (pc + len) ((L.set i.val (.val (.long l))).set (i.val + 1) .second) S k n H Q := W_s hd rfl rfl (by simp [stp, stL_plain h h2 ho ho2])
theorem W_lstn' {l' : Int64} {i : Fin 4} (hd : P.1 m pc = some (.lstore_n i, len, aux)) (h : L[i.val]? = some (.val (.long l'))) (h2 : L[i.val + 1]? = some o2) : W P m pc L (.long l :: S) k n H Q ↔ W P m (pc + len) ((L.set i.val (.val (.long l))).set (i.val + 1) .second) S k n H Q := W_s hd rfl rfl (by simp [stp, stL_again h h2])
theorem cs_nil : cs [] = 0 := by simp [cs]
theorem cs_int : cs (.int x :: S) = 1 + cs S := by simp [cs, Value.category]
theorem cs_ref : cs (.ref a :: S) = 1 + cs S := by simp [cs, Value.category]
theorem cs_long : cs (.long l :: S) = 2 + cs S := by simp [cs, Value.category]
end Sto
section Heap
variable {a j : Nat} {i x c : Int32} {v : Value} {l : Int64}
theorem W_getf {ix : Nat} (hd : P.1 m pc = some (.getfield ix, len, aux)) : W P m pc L (.ref a :: S) k n H Q ↔ (isO H a = true ∧ W P m (pc + len) L (fld H a aux.toNat :: S) k n H Q) := W_g hd rfl rfl rfl
theorem W_putf {ix : Nat} (hd : P.1 m pc = some (.putfield ix, len, aux)) : W P m pc L (v :: .ref a :: S) k n H Q ↔ ((isOw H a = true ∧ okv (P.2.2.1 aux.toNat) v = true) ∧ W P m (pc + len) L S k n (wr H a aux.toNat v) Q) := W_g hd rfl rfl rfl
theorem W_iaload (hd : P.1 m pc = some (.iaload, len, aux)) : W P m pc L (.int i :: .ref a :: S) k n H Q ↔ (inA H a .int i = true ∧ W P m (pc + len) L (elt H a i :: S) k n H Q) := W_g hd rfl rfl rfl
theorem W_iastore (hd : P.1 m pc = some (.iastore, len, aux)) : W P m pc L (.int x :: .int i :: .ref a :: S) k n H Q ↔ (inAw H a .int i = true ∧ W P m (pc + len) L S k n (wr H a i.toNatClampNeg (.int x)) Q) := W_g hd rfl rfl rfl
theorem W_alen (hd : P.1 m pc = some (.arraylength, len, aux)) : W P m pc L (.ref a :: S) k n H Q ↔ (isA H a = true ∧ W P m (pc + len) L (.int (alen H a).toInt32 :: S) k n H Q) := W_g hd rfl rfl rfl
theorem W_newarr {t : ArrayType} (hd : P.1 m pc = some (.newarray t, len, aux)) : W P m pc L (.int c :: S) k n H Q ↔ ((¬ c < 0 ∧ c.toNatClampNeg * 8 ≤ 536870912 ∧ k + 1 ≤ (rm P m).cells ∧ n + c.toNatClampNeg ≤ (rm P m).slots) ∧ W P m (pc + len) L (.ref H.1 :: S) (k + 1) (n + c.toNatClampNeg) (mkA (newarray.typeOf t) c.toNatClampNeg H) Q) := W_g hd rfl rfl rfl
theorem W_new {ix : Nat} (hd : P.1 m pc = some (.new ix, len, aux)) : W P m pc L S k n H Q ↔ ((0 ≤ aux ∧ k + 1 ≤ (rm P m).cells ∧ n + aux.toNat ≤ (rm P m).slots) ∧ W P m (pc + len) L (.ref H.1 :: S) (k + 1) (n + aux.toNat) (mkO P H) Q) := W_g hd rfl rfl rfl
theorem W_oinit {ix : Nat} (hd : P.1 m pc = some (.invokespecial ix, len, -1)) : W P m pc L (.ref a :: S) k n H Q ↔ ((1 ≤ (rm P m).frames ∧ cs S + 12 ≤ (rm P m).locals) ∧ W P m (pc + len) L S k n H Q) :=
  W_g (G := 1 ≤ (rm P m).frames ∧ cs S + 12 ≤ (rm P m).locals) hd rfl (by simp [cal, cal1]) (by simp [stp])
theorem W_irem {y : Int32} (hd : P.1 m pc = some (.irem, len, aux)) : W P m pc L (.int y :: .int x :: S) k n H Q ↔ (¬ y = 0 ∧ W P m (pc + len) L (.int (x % y) :: S) k n H Q) := W_n hd rfl rfl rfl
end Heap
section Call
variable {m' : Nat} {a r : List Value} {b : Nat}
theorem cal_eq (hk : kindOk ins (kd P m') = true) (hl : a.length = na P m') : cal P m ins (m' : Int) (a.reverse ++ r) k n H = if may P m m' a r k n H = true then some (m', a, r) else none := by
  have e1 : (a.reverse ++ r).take (na P m') = a.reverse := by rw [← hl, ← List.length_reverse (as := a)]; exact List.take_left ..
  have e2 : (a.reverse ++ r).drop (na P m') = r := by rw [← hl, ← List.length_reverse (as := a)]; exact List.drop_left ..
  have key : cal1 P m ins (m' : Int) (a.reverse ++ r) k n H = if may P m m' a r k n H = true then some (m', a, r) else none := by
    unfold cal1
    rw [Int.toNat_natCast, e1, e2, List.reverse_reverse]
    simp [hk]
  cases ins <;> first | exact key | (cases hk)
theorem W_call (hd : P.1 m pc = some (ins, len, (m' : Int))) (hr : ret P m ins S = none) (hk : kindOk ins (kd P m') = true) (hl : a.length = na P m') (hS : S = a.reverse ++ r) (hns : stp P m ins len (m' : Int) pc L S k n H = none) :
    W P m pc L S k n H Q ↔ (may P m m' a r k n H = true ∧ Cl P m' a H (fun v H' => W P m (pc + len) L (v.toList ++ r) (k + (rm P m').cells) (n + (rm P m').slots) H' Q)) := by
  have hc : cal P m ins (m' : Int) S k n H = if may P m m' a r k n H = true then some (m', a, r) else none := by rw [hS]; exact cal_eq hk hl
  by_cases g : may P m m' a r k n H = true
  · rw [if_pos g] at hc
    rw [W_c hd hr hc]; simp [g]
  · rw [if_neg g] at hc
    rw [W_q hd hr hc, hns]
    exact ⟨fun ⟨q, e, h⟩ => (by cases e), fun h => absurd h.1 g⟩
theorem W_inst {ix : Nat} {as : List Value} (hd : P.1 m pc = some (.invokevirtual ix, len, (m' : Int))) (hk : kindOk (.invokevirtual ix) (kd P m') = true) (hl : as.length + 1 = na P m') (hS : S = as.reverse ++ .ref b :: r)
    (h1 : (Sym.laidSlots (.ref b :: as)).length ≤ ml P m') (h2 : (rm P m').frames + 1 ≤ (rm P m).frames) (h3 : (rm P m').cells = 0 ∧ (rm P m').slots = 0) :
    W P m pc L S k n H Q ↔ ((isO H b = true ∧ cs r + (ml P m' + 11) + (rm P m').locals ≤ (rm P m).locals) ∧ Cl P m' (.ref b :: as) H (fun v H' => W P m (pc + len) L (v.toList ++ r) k n H' Q)) := by
  rw [W_call (a := .ref b :: as) (r := r) hd rfl hk hl (by rw [hS]; simp) rfl]
  have e : may P m m' (.ref b :: as) r k n H = true ↔ (isO H b = true ∧ cs r + (ml P m' + 11) + (rm P m').locals ≤ (rm P m).locals) := by
    have hk0 : kd P m' ≠ 0 := by intro h; rw [h] at hk; cases hk
    simp [may, rcv, h1, h2, h3, ← hl, hk0]; exact And.comm
  rw [e, h3.1, h3.2]; rfl
theorem W_stat {ix : Nat} (hd : P.1 m pc = some (.invokestatic ix, len, (m' : Int))) (hk : kindOk (.invokestatic ix) (kd P m') = true) (hl : a.length = na P m') (hS : S = a.reverse ++ r)
    (h1 : (Sym.laidSlots a).length ≤ ml P m') (h2 : (rm P m').frames + 1 ≤ (rm P m).frames) (h3 : (rm P m').cells = 0 ∧ (rm P m').slots = 0) :
    W P m pc L S k n H Q ↔ ((cs r + (ml P m' + 11) + (rm P m').locals ≤ (rm P m).locals) ∧ Cl P m' a H (fun v H' => W P m (pc + len) L (v.toList ++ r) k n H' Q)) := by
  rw [W_call (a := a) (r := r) hd rfl hk hl hS rfl]
  have e : may P m m' a r k n H = true ↔ (cs r + (ml P m' + 11) + (rm P m').locals ≤ (rm P m).locals) := by
    have hk0 : kd P m' = 0 := by simpa [kindOk] using hk
    simp [may, h1, h2, h3, hl, hk0]
  rw [e, h3.1, h3.2]; rfl
theorem W_init {ix : Nat} {as : List Value} (hd : P.1 m pc = some (.invokespecial ix, len, (m' : Int))) (hk : kindOk (.invokespecial ix) (kd P m') = true) (hl : as.length + 1 = na P m') (hS : S = as.reverse ++ .ref b :: r)
    (h1 : (Sym.laidSlots (.ref b :: as)).length ≤ ml P m') (h2 : (rm P m').frames + 1 ≤ (rm P m).frames) (h3 : ¬ ((rm P m').cells = 0 ∧ (rm P m').slots = 0)) :
    W P m pc L S k n H Q ↔ ((isO H b = true ∧ cs r + (ml P m' + 11) + (rm P m').locals ≤ (rm P m).locals ∧ k + (rm P m').cells ≤ (rm P m).cells ∧ n + (rm P m').slots ≤ (rm P m).slots) ∧ Cl P m' (.ref b :: as) H (fun v H' => W P m (pc + len) L (v.toList ++ r) (k + (rm P m').cells) (n + (rm P m').slots) H' Q)) := by
  have hns : stp P m (.invokespecial ix) len (m' : Int) pc L S k n H = none := by
    dsimp only [stp]
    split
    · rw [if_neg]; omega
    · rfl
  rw [W_call (a := .ref b :: as) (r := r) hd rfl hk hl (by rw [hS]; simp) hns]
  have e : may P m m' (.ref b :: as) r k n H = true ↔ (isO H b = true ∧ cs r + (ml P m' + 11) + (rm P m').locals ≤ (rm P m).locals ∧ k + (rm P m').cells ≤ (rm P m).cells ∧ n + (rm P m').slots ≤ (rm P m).slots) := by
    have hk0 : kd P m' ≠ 0 := by intro h; rw [h] at hk; cases hk
    simp only [may, rcv, h1, h2, h3, ← hl, hk0, List.length_cons, decide_true, decide_false, Bool.true_and, Bool.false_or, Bool.and_eq_true, decide_eq_true_eq]
    constructor
    · rintro ⟨⟨q1, q2⟩, q3⟩; exact ⟨q3, q1, q2⟩
    · rintro ⟨q3, q1, q2⟩; exact ⟨⟨q1, q2⟩, q3⟩
  rw [e]
end Call
section Last
theorem W_rz {x : Int32} (hd : P.1 m pc = some (.ireturn, len, aux)) (hr : rt P m = some .boolean) : W P m pc L (.int x :: S) k n H Q ↔ ((x = 0 ∨ x = 1) ∧ Q (some (.int x)) H) := by
  by_cases g : x = 0 ∨ x = 1
  · rw [W_r hd (by simp only [ret, hr]; rw [if_pos g])]; simp [g]
  · rw [W_q hd (by simp only [ret, hr]; rw [if_neg g]) rfl]
    constructor
    · rintro ⟨q, e, -⟩; cases e
    · intro h; exact absurd h.1 g
theorem W_newarr' {t : ArrayType} {c : Int32} {N : Nat} (hd : P.1 m pc = some (.newarray t, len, aux)) (hN : c.toNatClampNeg = N) (h1 : ¬ c < 0) (h2 : N * 8 ≤ 536870912) :
    W P m pc L (.int c :: S) k n H Q ↔ ((k + 1 ≤ (rm P m).cells ∧ n + N ≤ (rm P m).slots) ∧ W P m (pc + len) L (.ref H.1 :: S) (k + 1) (n + N) (mkA (newarray.typeOf t) N H) Q) := by
  rw [W_newarr hd, hN]; simp [h1, h2]
theorem W_new' {ix : Nat} (hd : P.1 m pc = some (.new ix, len, aux)) (h0 : 0 ≤ aux) : W P m pc L S k n H Q ↔ ((k + 1 ≤ (rm P m).cells ∧ n + aux.toNat ≤ (rm P m).slots) ∧ W P m (pc + len) L (.ref H.1 :: S) (k + 1) (n + aux.toNat) (mkO P H) Q) := by
  rw [W_new hd]; simp [h0]
theorem cmpL_eq {x y : Int64} : Jvm.Free.XT.cmpL x y = 0 ↔ x = y := by
  unfold Jvm.Free.XT.cmpL
  by_cases h1 : y < x
  · rw [if_pos h1]; exact ⟨fun h => absurd h (by decide), fun h => by subst h; rw [Int64.lt_iff_toInt_lt] at h1; omega⟩
  · rw [if_neg h1]
    by_cases h2 : x = y
    · rw [if_pos h2]; exact ⟨fun _ => h2, fun _ => rfl⟩
    · rw [if_neg h2]; exact ⟨fun h => absurd h (by decide), fun h => absurd h h2⟩
end Last
end Rules
abbrev LW : Type := (Nat → Nat → Option (Instr × Nat × Int)) × (Nat → MInfo)
abbrev Row : Type := Nat × Instr × Nat × Int
end Jvm.JX

namespace Jvm.JX
open Sem ClassFile Op Lib
abbrev St : Type := (Nat → Int32) × (Nat → Int64) × (Nat → Nat → Int32) × (Nat → Nat → Int64)
abbrev Lay : Type := List (FieldType × Nat) × List (FieldType × Nat)
def sI (s : St) (k : Nat) : Int32 := s.1 k
def sJ (s : St) (k : Nat) : Int64 := s.2.1 k
def sA (s : St) (t i : Nat) : Int32 := s.2.2.1 t i
def sB (s : St) (t i : Nat) : Int64 := s.2.2.2 t i
def uI (s : St) (k : Nat) (v : Int32) : St := (fun j => if j = k then v else s.1 j, s.2.1, s.2.2.1, s.2.2.2)
def uJ (s : St) (k : Nat) (v : Int64) : St := (s.1, fun j => if j = k then v else s.2.1 j, s.2.2.1, s.2.2.2)
def uA (s : St) (t i : Nat) (v : Int32) : St := (s.1, s.2.1, fun t' i' => if t' = t ∧ i' = i then v else s.2.2.1 t' i', s.2.2.2)
def uB (s : St) (t i : Nat) (v : Int64) : St := (s.1, s.2.1, s.2.2.1, fun t' i' => if t' = t ∧ i' = i then v else s.2.2.2 t' i')
def z0 : St := (fun _ => 0, fun _ => 0, fun _ _ => 0, fun _ _ => 0)
section St
variable {s : St} {k j t i t' i' : Nat} {v : Int32} {w : Int64}
theorem sI_uI : sI (uI s k v) j = if j = k then v else sI s j := by simp [sI, sJ, sA, sB, uI, uJ, uA, uB, z0]
theorem sI_uA : sI (uA s t i v) j = sI s j := by simp [sI, sJ, sA, sB, uI, uJ, uA, uB, z0]
theorem sJ_uI : sJ (uI s k v) j = sJ s j := by simp [sI, sJ, sA, sB, uI, uJ, uA, uB, z0]
theorem sJ_uA : sJ (uA s t i v) j = sJ s j := by simp [sI, sJ, sA, sB, uI, uJ, uA, uB, z0]
theorem sA_uI : sA (uI s k v) t' i' = sA s t' i' := by simp [sI, sJ, sA, sB, uI, uJ, uA, uB, z0]
theorem sA_uA : sA (uA s t i v) t' i' = if t' = t ∧ i' = i then v else sA s t' i' := by simp [sI, sJ, sA, sB, uI, uJ, uA, uB, z0]
theorem sB_uI : sB (uI s k v) t' i' = sB s t' i' := by simp [sI, sJ, sA, sB, uI, uJ, uA, uB, z0]
theorem sB_uA : sB (uA s t i v) t' i' = sB s t' i' := by simp [sI, sJ, sA, sB, uI, uJ, uA, uB, z0]
theorem sA_z0 : sA z0 t i = 0 := by simp [sI, sJ, sA, sB, uI, uJ, uA, uB, z0]
theorem sB_z0 : sB z0 t i = 0 := by simp [sI, sJ, sA, sB, uI, uJ, uA, uB, z0]
theorem St_ext {s s' : St} (h1 : ∀ k, sI s k = sI s' k) (h2 : ∀ k, sJ s k = sJ s' k) (h3 : ∀ t i, sA s t i = sA s' t i) (h4 : ∀ t i, sB s t i = sB s' t i) : s = s' :=
  Prod.ext (funext h1) (Prod.ext (funext h2) (Prod.ext (funext fun t => funext (h3 t)) (funext fun t => funext (h4 t))))
end St
def zr (s : St) (t : Nat) : Prop := (∀ i, sA s t i = 0) ∧ ∀ i, sB s t i = 0
theorem zr_z0 {t : Nat} : zr z0 t = True := by simp [zr, sA_z0, sB_z0]
def fvl (y : Lay) (j p : Nat) (s : St) (k : Nat) : Value := match y.1[k]? with
  | some (.long, _) => .long (sJ s k)
  | some (.array _, t) => if t ≤ j then .ref (p + t) else .null
  | _ => .int (sI s k)
def blk (y : Lay) (j p : Nat) (s : St) : Nat → Cel
  | 0 => (.object "", y.1.length, true, fvl y j p s)
  | t + 1 => match y.2[t]? with
    | some (.long, n) => (.array .long, n, true, fun i => .long (sB s (t + 1) i))
    | some (ty, n) => (.array ty, n, true, fun i => .int (sA s (t + 1) i))
    | none => (.char, 0, false, fun _ => .null)
def put (y : Lay) (j : Nat) (H : AH) (p : Nat) (s : St) : AH := (H.1, fun a => if p ≤ a ∧ a ≤ p + j then blk y j p s (a - p) else H.2 a)
section Put
variable {y : Lay} {j : Nat} {H : AH} {p : Nat} {s : St} {k t n : Nat} {ty : FieldType} {i : Int32}
theorem put_0 : (put y j H p s).2 p = (.object "", y.1.length, true, fvl y j p s) := by simp [put, blk]
theorem put_t (ht : t ≤ j) : (put y j H p s).2 (p + t) = blk y j p s t := by simp [put, ht]
theorem put_ot {a : Nat} (h : a < p ∨ p + j < a) : (put y j H p s).2 a = H.2 a := by
  have : ¬ (p ≤ a ∧ a ≤ p + j) := by omega
  simp [put, this]
theorem isO_put : isO (put y j H p s) p = true := by simp [isO, put_0]
theorem isOw_put : isOw (put y j H p s) p = true := by simp [isOw, isO_put, put_0]
theorem fld_I (h : y.1[k]? = some (ty, t)) (hl : ty ≠ .long) (ha : ∀ e, ty ≠ .array e) : fld (put y j H p s) p k = .int (sI s k) := by
  simp only [fld, put_0, fvl, h]; cases ty <;> first | rfl | exact absurd rfl hl | exact absurd rfl (ha _)
theorem fld_R (h : y.1[k]? = some (.array ty, t)) (ht : t ≤ j) : fld (put y j H p s) p k = .ref (p + t) := by simp only [fld, put_0, fvl, h, ht, if_true]
theorem blk_I (h : y.2[t]? = some (ty, n)) (hl : ty ≠ .long) : blk y j p s (t + 1) = (.array ty, n, true, fun i => .int (sA s (t + 1) i)) := by
  simp only [blk, h]
theorem clamp_lt {i : Int32} {n : Nat} : (¬ i < 0 ∧ i.toNatClampNeg < n) ↔ (0 ≤ i.toInt ∧ i.toInt < n) := by
  simp only [Int32.lt_iff_toInt_lt, Int32.toNatClampNeg, Int32.reduceToInt]; omega
theorem inA_I (h : y.2[t]? = some (ty, n)) (hl : ty ≠ .long) (ht : t + 1 ≤ j) : inA (put y j H p s) (p + (t + 1)) ty i = true ↔ (0 ≤ i.toInt ∧ i.toInt < n) := by
  rw [← clamp_lt]; simp [inA, put_t ht, blk_I h hl]
theorem inAw_I (h : y.2[t]? = some (ty, n)) (hl : ty ≠ .long) (ht : t + 1 ≤ j) : inAw (put y j H p s) (p + (t + 1)) ty i = true ↔ (0 ≤ i.toInt ∧ i.toInt < n) := by
  rw [← inA_I (H := H) (p := p) (s := s) h hl ht]; simp [inAw, put_t ht, blk_I h hl]
theorem elt_I (h : y.2[t]? = some (ty, n)) (hl : ty ≠ .long) (ht : t + 1 ≤ j) : elt (put y j H p s) (p + (t + 1)) i = .int (sA s (t + 1) i.toNatClampNeg) := by
  simp only [elt, put_t ht, blk_I h hl]
theorem put_wr {s' : St} {t q : Nat} {v : Value} (ht : t ≤ j) (hb : ∀ t', blk y j p s' t' = if t' = t then ((blk y j p s t).1, (blk y j p s t).2.1, (blk y j p s t).2.2.1, fun i => if i = q then v else (blk y j p s t).2.2.2 i) else blk y j p s t') :
    wr (put y j H p s) (p + t) q v = put y j H p s' := by
  refine Prod.ext rfl (funext fun a => ?_)
  simp only [wr, put_t ht]
  by_cases e : a = p + t
  · subst e; simp [put, ht, hb]
  · simp only [e, if_false, put]
    by_cases g : p ≤ a ∧ a ≤ p + j
    · have : a - p ≠ t := by omega
      simp [g, hb, this]
    · simp [g]
theorem fvl_uI {v : Int32} (h : y.1[k]? = some (ty, t)) (hl : ty ≠ .long) (ha : ∀ e, ty ≠ .array e) (i : Nat) : fvl y j p (uI s k v) i = if i = k then .int v else fvl y j p s i := by
  by_cases e : i = k
  · subst e; simp only [fvl, h, if_true]; cases ty <;> first | (simp [sI_uI]; done) | exact absurd rfl hl | exact absurd rfl (ha _)
  · simp only [fvl, e, if_false, sI_uI, sJ_uI]
theorem wr_I {v : Int32} (h : y.1[k]? = some (ty, t)) (hl : ty ≠ .long) (ha : ∀ e, ty ≠ .array e) : wr (put y j H p s) p k (.int v) = put y j H p (uI s k v) := by
  refine put_wr (t := 0) (Nat.zero_le _) fun t' => ?_
  cases t' with
  | zero => simp only [blk, if_true]; exact congrArg (fun f => (_, _, _, f)) (funext fun i => fvl_uI h hl ha i)
  | succ t' => simp [blk, sA_uI, sB_uI]
theorem wr_A {v : Int32} {q : Nat} (h : y.2[t]? = some (ty, n)) (hl : ty ≠ .long) (ht : t + 1 ≤ j) : wr (put y j H p s) (p + (t + 1)) q (.int v) = put y j H p (uA s (t + 1) q v) := by
  refine put_wr ht fun t' => ?_
  by_cases e : t' = t + 1
  · subst e
    simp only [blk_I h hl, if_true, sA_uA, true_and]
    exact congrArg (fun f => (_, _, _, f)) (funext fun i => by split <;> rfl)
  · simp only [e, if_false]
    cases t' with
    | zero => rfl
    | succ t' => have : ¬ t' = t := fun q => e (by rw [q]); simp [blk, sA_uA, sB_uA, this]
theorem mkO_put {P : Prog} (hn : P.2.2.2 = y.1.length) (hf : ∀ k, defaultValue (P.2.2.1 k) = fvl y 0 H.1 z0 k) : mkO P H = put y 0 (H.1 + 1, H.2) H.1 z0 := by
  refine Prod.ext rfl (funext fun a => ?_)
  by_cases e : a = H.1
  · subst e; simp only [mkO, if_true, put_0, hn]; exact congrArg (fun f => (_, _, _, f)) (funext fun k => hf k)
  · have : ¬ (H.1 ≤ a ∧ a ≤ H.1 + 0) := by omega
    simp only [mkO, put, e, if_false, if_neg this]
theorem mkA_put {h : Nat → Cel} (h1 : y.1[k]? = some (.array ty, j + 1)) (h2 : y.2[j]? = some (ty, n)) (hu : (List.range y.1.length).all (fun k' => decide (k' = k) || ((y.1.getD k' (.int, 0)).2 != j + 1)) = true) (hz : ∀ i, sA s (j + 1) i = 0) (hz' : ∀ i, sB s (j + 1) i = 0) (hty : ty = .int ∨ ty = .long ∨ ty = .byte ∨ ty = .boolean) :
    wr (mkA ty n (put y j (p + (j + 1), h) p s)) p k (.ref (p + (j + 1))) = put y (j + 1) (p + (j + 1) + 1, h) p s := by
  refine Prod.ext rfl (funext fun a => ?_)
  have hp : ¬ p = p + (j + 1) := by omega
  have hN : (put y j (p + (j + 1), h) p s).1 = p + (j + 1) := rfl
  by_cases e : a = p
  · subst e
    simp only [wr, mkA, hN, if_true, hp, if_false, put_0]
    refine congrArg (fun f => (_, _, _, f)) (funext fun i => ?_)
    by_cases e2 : i = k
    · subst e2; simp [fvl, h1]
    · simp only [e2, if_false, fvl]
      cases hq : y.1[i]? with
      | none => rfl
      | some x =>
        obtain ⟨x1, x2⟩ := x
        cases x1 <;> try rfl
        rename_i el
        have : x2 ≠ j + 1 := fun q => by
          have hlt : i < y.1.length := (List.getElem?_eq_some_iff.mp hq).1
          have u := List.all_eq_true.mp hu i (List.mem_range.mpr hlt)
          simp [e2, hq, q] at u
        have : (x2 ≤ j + 1) = (x2 ≤ j) := propext ⟨fun _ => by omega, fun _ => by omega⟩
        simp [this]
  · simp only [wr, mkA, hN, e, if_false]
    by_cases e2 : a = p + (j + 1)
    · subst e2
      simp only [if_true, put_t (Nat.le_refl (j + 1))]
      rcases hty with rfl | rfl | rfl | rfl
      · simp only [blk, h2, hz]; rfl
      · simp only [blk, h2, hz']; rfl
      · simp only [blk, h2, hz]; rfl
      · simp only [blk, h2, hz]; rfl
    · simp only [e2, if_false, put]
      by_cases g : p ≤ a ∧ a ≤ p + j
      · have g2 : p ≤ a ∧ a ≤ p + (j + 1) := by omega
        simp only [g, g2, and_self, if_true]
        obtain ⟨t, ht⟩ : ∃ t, a - p = t + 1 := ⟨a - p - 1, by omega⟩
        rw [ht]; rfl
      · have g2 : ¬ (p ≤ a ∧ a ≤ p + (j + 1)) := by omega
        simp only [g, g2, if_false]
theorem isOw_mk {h : Nat → Cel} {c : Nat} : isOw (mkA ty n (put y j (p + (c + 1), h) p s)) p = true := by
  have : ¬ p = p + (c + 1) := by omega
  have hN : (put y j (p + (c + 1), h) p s).1 = p + (c + 1) := rfl
  simp [isOw, isO, mkA, hN, this, put_0]
theorem put_fst : (put y j H p s).1 = H.1 := by simp [put]
theorem cl_unf {P : Prog} {m : Nat} {a : List Value} {L : List Slot} {Q : Option Value → AH → Prop} (h : ent P m a = L) : Cl P m a H Q ↔ W P m 0 L [] 0 0 H Q := by unfold Cl; rw [h]
theorem inA_ot {a : Nat} (h : a < p ∨ p + j < a) : inA (put y j H p s) a ty i = inA H a ty i := by simp only [inA, put_ot h]
theorem isA_ot {a : Nat} (h : a < p ∨ p + j < a) : isA (put y j H p s) a = isA H a := by simp only [isA, put_ot h]
theorem elt_ot {a : Nat} (h : a < p ∨ p + j < a) : elt (put y j H p s) a i = elt H a i := by simp only [elt, put_ot h]
theorem alen_ot {a : Nat} (h : a < p ∨ p + j < a) : alen (put y j H p s) a = alen H a := by simp only [alen, put_ot h]
end Put
def noc : Cel := (.char, 0, false, fun _ => .null)
def H1 (n a len : Nat) (f : Nat → Int32) : AH := (n, fun b => if b = a then (.array .int, len, false, fun i => .int (f i)) else noc)
theorem isA_H1 {n a len : Nat} {f : Nat → Int32} : isA (H1 n a len f) a = true := by simp [isA, H1]
theorem alen_H1 {n a len : Nat} {f : Nat → Int32} : alen (H1 n a len f) a = len := by simp [alen, H1]
theorem inA_H1 {n a len : Nat} {f : Nat → Int32} {i : Int32} : inA (H1 n a len f) a .int i = true ↔ (0 ≤ i.toInt ∧ i.toInt < len) := by rw [← clamp_lt]; simp [inA, H1]
theorem elt_H1 {n a len : Nat} {f : Nat → Int32} {i : Int32} : elt (H1 n a len f) a i = .int (f i.toNatClampNeg) := by simp [elt, H1]
def cl (lo hi v : Int32) : Int32 := if v < lo then lo else if hi < v then hi else v
theorem cl3 {lo hi : Int32} (v : Int32) (h : ¬ hi < lo) : (v < lo ∧ ¬ hi < v) ∨ (¬ v < lo ∧ hi < v) ∨ (¬ v < lo ∧ ¬ hi < v) := by
  by_cases h1 : v < lo
  · exact Or.inl ⟨h1, fun h2 => h (by rw [Int32.lt_iff_toInt_lt] at *; omega)⟩
  · by_cases h2 : hi < v
    · exact Or.inr (Or.inl ⟨h1, h2⟩)
    · exact Or.inr (Or.inr ⟨h1, h2⟩)
section Okv
variable {x : Int32} {l : Int64} {a : Nat} {t : FieldType}
theorem okv_int : (okv .int (.int x) = true) = True := by simp [okv]
theorem okv_ref : (okv (.array t) (.ref a) = true) = True := by simp [okv]
end Okv
end Jvm.JX

namespace Jvm.JX
open Sem ClassFile Op Lib
section Num
theorem ia {x y : Int32} (h1 : -2147483648 ≤ x.toInt + y.toInt) (h2 : x.toInt + y.toInt ≤ 2147483647) : (x + y).toInt = x.toInt + y.toInt := by
  rw [Int32.toInt_add]; exact Int.bmod_eq_of_le (by omega) (by omega)
theorem isb {x y : Int32} (h1 : -2147483648 ≤ x.toInt - y.toInt) (h2 : x.toInt - y.toInt ≤ 2147483647) : (x - y).toInt = x.toInt - y.toInt := by
  rw [Int32.toInt_sub]; exact Int.bmod_eq_of_le (by omega) (by omega)
theorem im {x y : Int32} (h1 : -2147483648 ≤ x.toInt * y.toInt) (h2 : x.toInt * y.toInt ≤ 2147483647) : (x * y).toInt = x.toInt * y.toInt := by
  rw [Int32.toInt_mul]; exact Int.bmod_eq_of_le (by omega) (by omega)
theorem lt32 {x y : Int32} : x < y ↔ x.toInt < y.toInt := Int32.lt_iff_toInt_lt
theorem eq32 {x y : Int32} : x = y ↔ x.toInt = y.toInt := Int32.toInt_inj.symm
theorem rg32 (x : Int32) : -2147483648 ≤ x.toInt ∧ x.toInt ≤ 2147483647 := ⟨Int32.le_toInt x, by have := Int32.toInt_lt x; omega⟩
theorem cln {i : Int32} : i.toNatClampNeg = i.toInt.toNat := rfl
theorem idx2 {u v : Int32} {a b : Int} (c : Int32) (hc : 0 ≤ c.toInt ∧ c.toInt ≤ 1000) (hu : 0 ≤ u.toInt ∧ u.toInt < a) (hv : 0 ≤ v.toInt ∧ v.toInt < b) (ha : a ≤ 1000) (hb : b ≤ 1000) : (u * c + v).toInt = u.toInt * c.toInt + v.toInt := by
  have h1 : u.toInt * c.toInt ≤ 1000 * 1000 := Int.mul_le_mul (by omega) (by omega) (by omega) (by omega)
  have h0 : 0 ≤ u.toInt * c.toInt := Int.mul_nonneg (by omega) (by omega)
  have e : (u * c).toInt = u.toInt * c.toInt := im (by omega) (by omega)
  rw [ia (by rw [e]; omega) (by rw [e]; omega), e]
theorem cl_rg {lo hi : Int32} (v : Int32) (h : lo.toInt ≤ hi.toInt) : lo.toInt ≤ (cl lo hi v).toInt ∧ (cl lo hi v).toInt ≤ hi.toInt := by
  unfold cl
  by_cases h1 : v < lo
  · rw [if_pos h1]; omega
  · rw [if_neg h1]
    by_cases h2 : hi < v
    · rw [if_pos h2]; omega
    · rw [if_neg h2]; rw [lt32] at h1 h2; omega
end Num
section Fill
variable {s : St} {t lo hi k i t' : Nat} {v : Int32}
end Fill
section Cnt
def cnt (f : Nat → Bool) : Nat → Nat → Nat
  | _, 0 => 0
  | j, k + 1 => (if f j = true then 1 else 0) + cnt f (j + 1) k
theorem cnt_none {f : Nat → Bool} : ∀ (k j : Nat), (∀ i, j ≤ i → i < j + k → f i = false) → cnt f j k = 0
  | 0, _, _ => rfl
  | k + 1, j, h => by
    have h1 := h j (Nat.le_refl _) (by omega)
    simp only [cnt, h1]
    rw [cnt_none k (j + 1) fun i a b => h i (by omega) (by omega)]; rfl
theorem cnt_one {f : Nat → Bool} {x : Nat} : ∀ (k j : Nat), j ≤ x → x < j + k → f x = true → (∀ i, j ≤ i → i < j + k → i ≠ x → f i = false) → cnt f j k = 1
  | 0, j, h1, h2, _, _ => by omega
  | k + 1, j, h1, h2, hx, h => by
    simp only [cnt]
    by_cases e : j = x
    · subst e
      rw [hx, cnt_none k (j + 1) fun i a b => h i (by omega) (by omega) (by omega)]; rfl
    · rw [h j (Nat.le_refl _) (by omega) e, cnt_one k (j + 1) (by omega) (by omega) hx fun i a b c => h i (by omega) (by omega) c]; rfl
theorem ofNat_one_add (c : Int32) (x : Nat) : c + 1 + Int32.ofNat x = c + Int32.ofNat (1 + x) := by
  rw [Int32.ofNat_add, Int32.add_assoc]; rfl
theorem add_ofNat_zero (c : Int32) : c + Int32.ofNat 0 = c := Int32.add_zero c
end Cnt
section Ite
variable {P : Prog} {m pc : Nat} {L : List Slot} {S : List Value} {k n : Nat} {H : AH} {Q : Option Value → AH → Prop} {c : Prop} [Decidable c]
theorem W_ite {x y : Int32} : (if c then W P m pc L (.int x :: S) k n H Q else W P m pc L (.int y :: S) k n H Q) ↔ W P m pc L (.int (if c then x else y) :: S) k n H Q := by
  by_cases h : c <;> simp [h]
end Ite
end Jvm.JX

namespace Jvm.JX
open Sem ClassFile Op Lib
section Forget
variable {P : Prog} {m pc len k n i : Nat} {aux : Int} {ins : Instr} {L L' M : List Slot} {S : List Value} {H : AH} {v : Value} {Q : Option Value → AH → Prop}
def lel (L L' : List Slot) : Prop := ∀ i : Nat, L[i]? = L'[i]? ∨ (L[i]? = some .unset ∧ ∃ o, L'[i]? = some o ∧ cat1 o = true)
theorem lel_refl : lel L L := fun _ => Or.inl rfl
theorem lel_cons {a : Slot} (h : lel L L') : lel (a :: L) (a :: L') := fun i => by cases i with
  | zero => exact Or.inl rfl
  | succ i => simpa using h i
theorem lel_un {o : Slot} (ho : cat1 o = true) (h : lel L L') : lel (.unset :: L) (o :: L') := fun i => by cases i with
  | zero => exact Or.inr ⟨rfl, o, rfl, ho⟩
  | succ i => simpa using h i
theorem lel_len (h : lel L L') : L.length = L'.length := by
  rcases Nat.lt_trichotomy L.length L'.length with g | g | g
  · have h1 : L[L.length]? = none := List.getElem?_eq_none (Nat.le_refl _)
    rcases h L.length with e | ⟨e, -⟩
    · rw [h1] at e; have := List.getElem?_eq_none_iff.mp e.symm; omega
    · rw [h1] at e; cases e
  · exact g
  · have h1 : L'[L'.length]? = none := List.getElem?_eq_none (Nat.le_refl _)
    rcases h L'.length with e | ⟨-, o, e, -⟩
    · rw [h1] at e; have := List.getElem?_eq_none_iff.mp e; omega
    · rw [h1] at e; cases e
theorem lel_set {a : Slot} (h : lel L L') : lel (L.set i a) (L'.set i a) := fun j => by
  rw [List.getElem?_set, List.getElem?_set, lel_len h]
  by_cases e : i = j
  · rw [if_pos e, if_pos e]; exact Or.inl rfl
  · rw [if_neg e, if_neg e]; exact h j
theorem ldI_le (h : lel L L') (e : ldI L i = some v) : ldI L' i = some v := by
  unfold ldI at *; rcases h i with g | ⟨g, -⟩
  · rw [← g]; exact e
  · rw [g] at e; cases e
theorem ldJ_le (h : lel L L') (e : ldJ L i = some v) : ldJ L' i = some v := by
  unfold ldJ at *; rcases h i with g | ⟨g, -⟩
  · rw [← g]; exact e
  · rw [g] at e; cases e
theorem ldR_le (h : lel L L') (e : ldR L i = some v) : ldR L' i = some v := by
  unfold ldR at *; rcases h i with g | ⟨g, -⟩
  · rw [← g]; exact e
  · rw [g] at e; cases e
theorem stl_le (h : lel L L') (e : stl L i v = some M) : ∃ M', stl L' i v = some M' ∧ lel M M' := by
  unfold stl at *
  rcases h i with g | ⟨g, o, g', ho⟩
  · rw [← g, ← lel_len h]
    revert e; generalize L[i]? = x; intro e
    match x, e with
    | some .unset, e => cases e; exact ⟨_, rfl, lel_set h⟩
    | some (.val w), e =>
      simp only at e ⊢
      by_cases c : w.category = 1
      · simp only [c, if_true] at e ⊢; cases e; exact ⟨_, rfl, lel_set h⟩
      · simp only [c, if_false] at e ⊢
        by_cases d : i + 1 < L.length
        · simp only [d, if_true] at e ⊢; cases e; exact ⟨_, rfl, lel_set (lel_set h)⟩
        · simp only [d, if_false] at e; cases e
    | some .second, e =>
      simp only at e ⊢
      by_cases d : 1 ≤ i
      · simp only [d, if_true] at e ⊢; cases e; exact ⟨_, rfl, lel_set (lel_set h)⟩
      · simp only [d, if_false] at e; cases e
    | none, e => cases e
  · rw [g] at e; cases e; rw [g']
    match o, ho with
    | .unset, _ => exact ⟨_, rfl, lel_set h⟩
    | .val w, ho =>
      have c : w.category = 1 := by simpa [cat1] using ho
      simp only [c, if_true]; exact ⟨_, rfl, lel_set h⟩
theorem stL_le (h : lel L L') (e : stL L i v = some M) : ∃ M', stL L' i v = some M' ∧ lel M M' := by
  have key : ∀ o2, L[i + 1]? = some o2 → ∃ o3, L'[i + 1]? = some o3 ∧ (cat1 o2 = true → cat1 o3 = true) ∧ (cat1 o2 = false → o3 = o2) := by
    intro o2 e2
    rcases h (i + 1) with g | ⟨g, o, g', ho⟩
    · exact ⟨o2, by rw [← g]; exact e2, id, fun _ => rfl⟩
    · exact ⟨o, g', fun _ => ho, fun z => by rw [e2] at g; cases g; cases z⟩
  unfold stL at *
  have hs : lel ((L.set i (.val v)).set (i + 1) .second) ((L'.set i (.val v)).set (i + 1) .second) := lel_set (lel_set h)
  have hs3 : lel (((L.set i (.val v)).set (i + 2) .unset).set (i + 1) .second) (((L'.set i (.val v)).set (i + 2) .unset).set (i + 1) .second) := lel_set (lel_set (lel_set h))
  cases e2 : L[i + 1]? with
  | none => rw [e2] at e; revert e; cases L[i]? with
    | none => intro e; cases e
    | some o => intro e; cases o <;> cases e
  | some o2 =>
    obtain ⟨o3, g3, c3, c4⟩ := key o2 e2
    rw [e2] at e; rw [g3, ← lel_len h]
    rcases h i with g | ⟨g, o, g', ho⟩
    · rw [← g]
      revert e; generalize L[i]? = x; intro e
      match x, e with
      | some .unset, e =>
        simp only at e ⊢
        by_cases c : cat1 o2 = true
        · simp only [c, if_true] at e; cases e; simp only [c3 c, if_true]; exact ⟨_, rfl, hs⟩
        · rw [if_neg c] at e
          have c' : cat1 o2 = false := by simpa using c
          rw [c4 c', if_neg c]
          by_cases l3 : lng o2 = true ∧ i + 2 < L.length
          · rw [if_pos l3] at e; cases e; rw [if_pos l3]; exact ⟨_, rfl, hs3⟩
          · rw [if_neg l3] at e; cases e
      | some (.val w), e =>
        simp only at e ⊢
        by_cases d : w.category = 2
        · simp only [d, if_true] at e ⊢; cases e; exact ⟨_, rfl, hs⟩
        · rw [if_neg d] at e ⊢
          by_cases c : cat1 o2 = true
          · simp only [c, if_true] at e; cases e; simp only [c3 c, if_true]; exact ⟨_, rfl, hs⟩
          · rw [if_neg c] at e
            have c' : cat1 o2 = false := by simpa using c
            rw [c4 c', if_neg c]
            by_cases l3 : lng o2 = true ∧ i + 2 < L.length
            · rw [if_pos l3] at e; cases e; rw [if_pos l3]; exact ⟨_, rfl, hs3⟩
            · rw [if_neg l3] at e; cases e
      | some .second, e =>
        simp only at e ⊢
        by_cases d : 1 ≤ i
        · rw [if_pos d] at e ⊢
          by_cases c : cat1 o2 = true
          · rw [if_pos c] at e; cases e; rw [if_pos (c3 c)]; exact ⟨_, rfl, lel_set (lel_set (lel_set h))⟩
          · rw [if_neg c] at e
            have c' : cat1 o2 = false := by simpa using c
            rw [c4 c', if_neg c]
            by_cases l3 : lng o2 = true ∧ i + 2 < L.length
            · rw [if_pos l3] at e; cases e; rw [if_pos l3]; exact ⟨_, rfl, lel_set (lel_set (lel_set (lel_set h)))⟩
            · rw [if_neg l3] at e; cases e
        · rw [if_neg d] at e; cases e
      | none, e => cases e
    · rw [g] at e; rw [g']
      simp only at e
      by_cases c : cat1 o2 = true
      · simp only [c, if_true] at e; cases e
        match o, ho with
        | .unset, _ => simp only [c3 c, if_true]; exact ⟨_, rfl, hs⟩
        | .val w, ho =>
          by_cases d : w.category = 2
          · simp only [d, if_true]; exact ⟨_, rfl, hs⟩
          · simp only [d, if_false, c3 c, if_true]; exact ⟨_, rfl, hs⟩
      · rw [if_neg c] at e
        have c' : cat1 o2 = false := by simpa using c
        rw [c4 c']
        by_cases l3 : lng o2 = true ∧ i + 2 < L.length
        · rw [if_pos l3] at e; cases e
          match o, ho with
          | .unset, _ => simp only [if_neg c, if_pos l3]; exact ⟨_, rfl, hs3⟩
          | .val w, ho =>
            have d : ¬ w.category = 2 := by simp only [cat1, beq_iff_eq] at ho; omega
            simp only [if_neg d, if_neg c, if_pos l3]; exact ⟨_, rfl, hs3⟩
        · rw [if_neg l3] at e; cases e
def loc : Instr → Bool
  | .iload _ | .iload_n _ | .lload _ | .lload_n _ | .aload _ | .aload_n _ | .istore _ | .istore_n _ | .astore _ | .astore_n _ | .lstore _ | .lstore_n _ | .iinc _ _ => true
  | _ => false
theorem stp_fr {q : Fm} (hl : loc ins = false) (e : stp P m ins len aux pc L S k n H = some q) : q.2.1 = L ∧ stp P m ins len aux pc L' S k n H = some (q.1, L', q.2.2) := by
  cases ins <;> first
    | (cases hl; done)
    | (simp only [stp] at e ⊢; cases e; done)
    | (simp only [stp] at e ⊢; cases e; exact ⟨rfl, rfl⟩)
    | (simp only [stp, Option.map_eq_some_iff] at e ⊢; (repeat' split at e) <;> first
        | (cases e; done)
        | (cases e; exact ⟨rfl, rfl⟩)
        | (obtain ⟨w, h1, h2⟩ := e; subst h2; exact ⟨rfl, w, h1, rfl⟩)
        | (simp_all; done)
        | (simp_all; subst e; simp; done)
        | (simp_all; obtain ⟨e1, e2, e3⟩ := e; subst e3; simp_all; done)
        | (simp only [Option.bind_eq_some_iff, Option.map_eq_some_iff] at e; obtain ⟨w, h1, u, h2, h3⟩ := e; subst h3; simp_all; done)
        | (simp only [Option.bind_eq_some_iff, Option.map_eq_some_iff] at e; obtain ⟨w, h1, u, h2, h3⟩ := e; subst h3; simp_all; omega))
theorem stp_le {q : Fm} (h : lel L L') (e : stp P m ins len aux pc L S k n H = some q) : ∃ M, stp P m ins len aux pc L' S k n H = some (q.1, M, q.2.2) ∧ lel q.2.1 M := by
  cases hl : loc ins with
  | false =>
    obtain ⟨h1, h2⟩ := stp_fr (L' := L') hl e
    exact ⟨L', h2, by rw [h1]; exact h⟩
  | true =>
    cases ins <;> first
      | (cases hl; done)
      | (simp only [stp, Option.map_eq_some_iff] at e ⊢; obtain ⟨w, h1, h2⟩ := e; subst h2; first
          | exact ⟨L', ⟨w, ldI_le h h1, rfl⟩, h⟩
          | exact ⟨L', ⟨w, ldJ_le h h1, rfl⟩, h⟩
          | exact ⟨L', ⟨w, ldR_le h h1, rfl⟩, h⟩)
      | (simp only [stp] at e ⊢; split at e
         · simp only [Option.map_eq_some_iff] at e ⊢
           obtain ⟨w, h1, h2⟩ := e; subst h2
           first
            | (obtain ⟨M, g1, g2⟩ := stl_le h h1; exact ⟨M, ⟨M, g1, rfl⟩, g2⟩)
            | (obtain ⟨M, g1, g2⟩ := stL_le h h1; exact ⟨M, ⟨M, g1, rfl⟩, g2⟩)
         · cases e)
      | (simp only [stp] at e ⊢; rename_i i c; rcases h i with g | ⟨g, -⟩
         · rw [← g]; revert e; generalize L[i]? = x; intro e
           split at e
           · cases e; exact ⟨_, rfl, lel_set h⟩
           · cases e
         · rw [g] at e; cases e)
theorem run_fg : ∀ (f m pc : Nat) (L L' : List Slot) (S : List Value) (k n : Nat) (H : AH) (r : Option Value × AH), lel L L' → run P f m pc L S k n H = some r → run P f m pc L' S k n H = some r
  | 0, _, _, _, _, _, _, _, _, _, _, e => by cases e
  | f + 1, m, pc, L, L', S, k, n, H, r, h, e => by
    unfold run at e ⊢
    cases hd : P.1 m pc with
    | none => rw [hd] at e; cases e
    | some d =>
      rw [hd] at e; simp only at e ⊢
      cases hr : ret P m d.1 S with
      | some v => rw [hr] at e; exact e
      | none =>
        rw [hr] at e; simp only at e ⊢
        cases hc : cal P m d.1 d.2.2 S k n H with
        | some c =>
          rw [hc] at e; simp only at e ⊢
          cases hx : run P f c.1 0 (ent P c.1 c.2.1) [] 0 0 H with
          | none => rw [hx] at e; cases e
          | some y => rw [hx] at e; simp only at e ⊢; exact run_fg f _ _ _ _ _ _ _ _ _ h e
        | none =>
          rw [hc] at e; simp only at e ⊢
          cases hs : stp P m d.1 d.2.1 d.2.2 pc L S k n H with
          | none => rw [hs] at e; cases e
          | some q =>
            rw [hs] at e; simp only at e
            obtain ⟨M, g1, g2⟩ := stp_le h hs
            rw [g1]; exact run_fg f _ _ _ _ _ _ _ _ _ g2 e
theorem W_fg (h : lel L L') (w : W P m pc L S k n H Q) : W P m pc L' S k n H Q := by
  obtain ⟨f, v, H', e, q⟩ := w
  exact ⟨f, v, H', run_fg f m pc L L' S k n H _ h e, q⟩
end Forget
section ForgetL
variable {P : Prog} {m pc len k n i j : Nat} {aux : Int} {ins : Instr} {L M N : List Slot} {S : List Value} {H : AH} {v : Value} {a : Slot} {Q : Option Value → AH → Prop}
def ff (j : Nat) (M : List Slot) : List Slot := (M.set j .unset).set (j + 1) .unset
def Gl (j : Nat) (M : List Slot) : Prop := (∃ w : Value, M[j]? = some (.val w) ∧ w.category = 2) ∧ M[j + 1]? = some .second ∧ (∀ i o, i + 1 = j → M[i]? = some o → lng o = false) ∧ M[j + 2]? ≠ some .second
def lfr (j : Nat) (L M : List Slot) : Prop := L = M ∨ (L = ff j M ∧ Gl j M)
theorem ff_set (h1 : i ≠ j) (h2 : i ≠ j + 1) : (ff j M).set i a = ff j (M.set i a) := by
  unfold ff; rw [List.set_comm _ _ (Ne.symm h2), List.set_comm _ _ (Ne.symm h1)]
theorem ff_get (h1 : i ≠ j) (h2 : i ≠ j + 1) : (ff j M)[i]? = M[i]? := by
  unfold ff; rw [List.getElem?_set_ne (Ne.symm h2), List.getElem?_set_ne (Ne.symm h1)]
theorem ff_len : (ff j M).length = M.length := by simp [ff]
theorem Gl_set (h : Gl j M) (h1 : i ≠ j) (h2 : i ≠ j + 1) (h3 : i + 1 = j → lng a = false) (h4 : i = j + 2 → a ≠ .second) : Gl j (M.set i a) := by
  obtain ⟨⟨w, g1, g2⟩, g3, g4, g5⟩ := h
  refine ⟨⟨w, ?_, g2⟩, ?_, ?_, ?_⟩
  · rw [List.getElem?_set_ne h1]; exact g1
  · rw [List.getElem?_set_ne h2]; exact g3
  · intro i' o e h
    by_cases c : i = i'
    · subst c
      rw [List.getElem?_set] at h
      simp only [if_true] at h
      split at h
      · cases h; exact h3 e
      · cases h
    · rw [List.getElem?_set_ne c] at h; exact g4 i' o e h
  · by_cases c : i = j + 2
    · rw [List.getElem?_set]; simp only [c, if_true]
      split
      · intro e; cases e; exact h4 c rfl
      · intro e; cases e
    · rw [List.getElem?_set_ne c]; exact g5
theorem Gl_lt (h : Gl j M) : j + 1 < M.length := (List.getElem?_eq_some_iff.mp h.2.1).1
theorem ff_j (h : Gl j M) : (ff j M)[j]? = some .unset ∧ (ff j M)[j + 1]? = some .unset := by
  have := Gl_lt h
  unfold ff; constructor
  · rw [List.getElem?_set_ne (by omega), List.getElem?_set]; simp only [if_true]; rw [if_pos (by omega)]
  · rw [List.getElem?_set]; simp only [if_true, List.length_set]; rw [if_pos (by omega)]
theorem ff_0 {b : Slot} : (ff j M).set j b = (M.set (j + 1) .unset).set j b := by
  unfold ff; rw [List.set_comm _ _ (by omega : j ≠ j + 1), List.set_set]
theorem ff_1 {b : Slot} : (ff j M).set (j + 1) b = (M.set j .unset).set (j + 1) b := by
  unfold ff; rw [List.set_set]
theorem stl_fr (hv : v.category = 1) (h : lfr j L M) (e : stl L i v = some N) : ∃ N', stl M i v = some N' ∧ lfr j N N' := by
  rcases h with rfl | ⟨rfl, h⟩
  · exact ⟨N, e, Or.inl rfl⟩
  have lv : lng (.val v) = false := by simp [lng, hv]
  obtain ⟨⟨w, g1, g2⟩, g3, g4, g5⟩ := id h
  have hl := Gl_lt h
  unfold stl at e ⊢
  by_cases c1 : i = j
  · subst c1
    rw [(ff_j h).1] at e; cases e
    rw [g1]; simp only [g2, hl, if_true]
    exact ⟨_, rfl, Or.inl ff_0⟩
  by_cases c2 : i = j + 1
  · subst c2
    rw [(ff_j h).2] at e; cases e
    rw [g3]; simp only [Nat.le_add_left, if_true]
    exact ⟨_, rfl, Or.inl ff_1⟩
  rw [ff_get c1 c2, ff_len] at e
  revert e; cases hx : M[i]? with
  | none => intro e; cases e
  | some o =>
    intro e
    have s1 : ∀ {M}, Gl j M → Gl j (M.set i (.val v)) := fun h => Gl_set h c1 c2 (fun _ => lv) (fun _ => by intro z; cases z)
    cases o with
    | unset => cases e; exact ⟨_, rfl, Or.inr ⟨ff_set c1 c2, s1 h⟩⟩
    | second =>
      simp only at e ⊢
      by_cases d : 1 ≤ i
      · rw [if_pos d] at e ⊢; cases e
        have c3 : i - 1 ≠ j := by omega
        have c4 : i - 1 ≠ j + 1 := by intro z; exact g5 (by rw [← hx]; congr 1; omega)
        exact ⟨_, rfl, Or.inr ⟨by rw [ff_set c3 c4, ff_set c1 c2], s1 (Gl_set h c3 c4 (fun _ => rfl) (fun _ => by intro z; cases z))⟩⟩
      · rw [if_neg d] at e; cases e
    | val x =>
      simp only at e ⊢
      by_cases d : x.category = 1
      · rw [if_pos d] at e ⊢; cases e; exact ⟨_, rfl, Or.inr ⟨ff_set c1 c2, s1 h⟩⟩
      · rw [if_neg d] at e ⊢
        by_cases d2 : i + 1 < M.length
        · rw [if_pos d2] at e ⊢; cases e
          have d3 : x.category = 2 := by cases x <;> simp [Value.category] at d ⊢
          have c3 : i + 1 ≠ j := by intro z; have := g4 i _ z hx; simp [lng, d3] at this
          exact ⟨_, rfl, Or.inr ⟨by rw [ff_set c3 (by omega), ff_set c1 c2], s1 (Gl_set h c3 (by omega) (fun _ => rfl) (fun _ => by intro z; cases z))⟩⟩
        · rw [if_neg d2] at e; cases e
theorem stL_fr (h : lfr j L M) (e : stL L i v = some N) : ∃ N', stL M i v = some N' ∧ lfr j N N' := by
  rcases h with rfl | ⟨rfl, h⟩
  · exact ⟨N, e, Or.inl rfl⟩
  obtain ⟨⟨w, g1, g2⟩, g3, g4, g5⟩ := id h
  have hl := Gl_lt h
  unfold stL at e ⊢
  by_cases c1 : i = j
  · subst c1
    rw [(ff_j h).1, (ff_j h).2] at e; simp only [cat1, if_true] at e; cases e
    rw [g1, g3]; simp only [g2, if_true]
    exact ⟨_, rfl, Or.inl (by rw [ff_0, List.set_comm _ _ (by omega : i + 1 ≠ i), List.set_set])⟩
  by_cases c2 : i = j + 1
  · subst c2
    rw [(ff_j h).2, ff_get (i := j + 1 + 1) (by omega) (by omega), ff_len, ff_1] at e
    rw [g3]
    revert e; cases hy : M[j + 1 + 1]? with
    | none => intro e; cases e
    | some o2 =>
      intro e; simp only [Nat.le_add_left, if_true, Nat.add_sub_cancel] at e ⊢
      exact ⟨N, e, Or.inl rfl⟩
  by_cases c3 : i + 1 = j
  · subst c3
    rw [ff_get c1 c2, (ff_j h).1] at e
    rw [g1]
    have w1 : ¬ cat1 (.val w) = true := by simp [cat1, g2]
    have w2 : lng (.val w) = true ∧ i + 2 < M.length := ⟨by simp [lng, g2], hl⟩
    have en : ∀ b : Slot, ((ff (i + 1) M).set i b).set (i + 1) .second = ((M.set i b).set (i + 2) .unset).set (i + 1) .second := fun b => by
      rw [ff_set (by omega) (by omega), ff_0]
    revert e; cases hx : M[i]? with
    | none => intro e; cases e
    | some o =>
      intro e
      have lo := g4 i o rfl hx
      cases o with
      | unset => simp only [cat1, if_true] at e; cases e; simp only [if_neg w1, if_pos w2]; exact ⟨_, rfl, Or.inl (en _)⟩
      | val x =>
        have x2 : ¬ x.category = 2 := by simpa [lng] using lo
        simp only [cat1, if_true, if_neg x2] at e; cases e; simp only [if_neg w1, if_pos w2, if_neg x2]; exact ⟨_, rfl, Or.inl (en _)⟩
      | second =>
        simp only [cat1, if_true] at e
        by_cases d : 1 ≤ i
        · simp only [if_pos d, if_neg w1, if_pos w2] at e ⊢; cases e
          exact ⟨_, rfl, Or.inl (by rw [ff_set (by omega) (by omega), ff_set (by omega) (by omega), ff_0])⟩
        · rw [if_neg d] at e; cases e
  rw [ff_get c1 c2, ff_get (i := i + 1) c3 (by omega), ff_len] at e
  revert e; cases hx : M[i]? with
  | none => intro e; cases e
  | some o =>
    cases hy : M[i + 1]? with
    | none => intro e; cases o <;> cases e
    | some o2 =>
      intro e
      have s1 : ∀ {M}, Gl j M → Gl j (M.set i (.val v)) := fun h => Gl_set h c1 c2 (fun z => absurd z c3) (fun _ => by intro z; cases z)
      have s2 : ∀ {M}, Gl j M → Gl j (M.set (i + 1) .second) := fun h => Gl_set h c3 (by omega) (fun _ => rfl) (fun z => absurd z (by omega))
      have f1 : ∀ {M : List Slot}, (ff j M).set i (.val v) = ff j (M.set i (.val v)) := ff_set c1 c2
      have f2 : ∀ {M : List Slot}, (ff j M).set (i + 1) .second = ff j (M.set (i + 1) .second) := ff_set c3 (by omega)
      have t3 : lng o2 = true → i + 2 ≠ j := fun l z => by have := g4 (i + 1) o2 (by omega) hy; rw [l] at this; cases this
      have s3 : lng o2 = true → ∀ {M}, Gl j M → Gl j (M.set (i + 2) .unset) := fun l _ h => Gl_set h (t3 l) (by omega) (fun _ => rfl) (fun _ => by intro z; cases z)
      have f3 : lng o2 = true → ∀ {M : List Slot}, (ff j M).set (i + 2) .unset = ff j (M.set (i + 2) .unset) := fun l _ => ff_set (t3 l) (by omega)
      cases o with
      | unset =>
        simp only at e ⊢
        by_cases c : cat1 o2 = true
        · rw [if_pos c] at e ⊢; cases e; exact ⟨_, rfl, Or.inr ⟨by rw [f1, f2], s2 (s1 h)⟩⟩
        · rw [if_neg c] at e ⊢
          by_cases l : lng o2 = true ∧ i + 2 < M.length
          · rw [if_pos l] at e ⊢; cases e; exact ⟨_, rfl, Or.inr ⟨by rw [f1, f3 l.1, f2], s2 (s3 l.1 (s1 h))⟩⟩
          · rw [if_neg l] at e; cases e
      | val x =>
        simp only at e ⊢
        by_cases d : x.category = 2
        · rw [if_pos d] at e ⊢; cases e; exact ⟨_, rfl, Or.inr ⟨by rw [f1, f2], s2 (s1 h)⟩⟩
        rw [if_neg d] at e ⊢
        by_cases c : cat1 o2 = true
        · rw [if_pos c] at e ⊢; cases e; exact ⟨_, rfl, Or.inr ⟨by rw [f1, f2], s2 (s1 h)⟩⟩
        · rw [if_neg c] at e ⊢
          by_cases l : lng o2 = true ∧ i + 2 < M.length
          · rw [if_pos l] at e ⊢; cases e; exact ⟨_, rfl, Or.inr ⟨by rw [f1, f3 l.1, f2], s2 (s3 l.1 (s1 h))⟩⟩
          · rw [if_neg l] at e; cases e
      | second =>
        simp only at e ⊢
        by_cases d : 1 ≤ i
        · rw [if_pos d] at e ⊢
          have t0 : i - 1 ≠ j := by omega
          have t1 : i - 1 ≠ j + 1 := by intro z; exact g5 (by rw [← hx]; congr 1; omega)
          have f0 : (ff j M).set (i - 1) .unset = ff j (M.set (i - 1) .unset) := ff_set t0 t1
          have s0 : Gl j (M.set (i - 1) .unset) := Gl_set h t0 t1 (fun _ => rfl) (fun _ => by intro z; cases z)
          by_cases c : cat1 o2 = true
          · rw [if_pos c] at e ⊢; cases e; exact ⟨_, rfl, Or.inr ⟨by rw [f0, f1, f2], s2 (s1 s0)⟩⟩
          · rw [if_neg c] at e ⊢
            by_cases l : lng o2 = true ∧ i + 2 < M.length
            · rw [if_pos l] at e ⊢; cases e; exact ⟨_, rfl, Or.inr ⟨by rw [f0, f1, f3 l.1, f2], s2 (s3 l.1 (s1 s0))⟩⟩
            · rw [if_neg l] at e; cases e
        · rw [if_neg d] at e; cases e
theorem get_fr {o : Slot} (h : lfr j L M) (e : L[i]? = some o) (ho : o ≠ .unset) : M[i]? = some o := by
  rcases h with rfl | ⟨rfl, h⟩
  · exact e
  by_cases c1 : i = j
  · subst c1; rw [(ff_j h).1] at e; cases e; exact absurd rfl ho
  by_cases c2 : i = j + 1
  · subst c2; rw [(ff_j h).2] at e; cases e; exact absurd rfl ho
  rw [ff_get c1 c2] at e; exact e
theorem ldI_fr (h : lfr j L M) (e : ldI L i = some v) : ldI M i = some v := by
  unfold ldI at *
  split at e
  · rename_i g; rw [get_fr h g (by intro z; cases z)]; exact e
  · cases e
theorem ldJ_fr (h : lfr j L M) (e : ldJ L i = some v) : ldJ M i = some v := by
  unfold ldJ at *
  split at e
  · rename_i g; rw [get_fr h g (by intro z; cases z)]; exact e
  · cases e
theorem ldR_fr (h : lfr j L M) (e : ldR L i = some v) : ldR M i = some v := by
  unfold ldR at *
  split at e
  · rename_i g; rw [get_fr h g (by intro z; cases z)]; exact e
  · cases e
theorem inc_fr {x : Int32} {b : Value} (hb : b.category = 1) (h : lfr j L M) (e : L[i]? = some (.val (.int x))) : lfr j (L.set i (.val b)) (M.set i (.val b)) := by
  have e' := get_fr h e (by intro z; cases z)
  rcases h with rfl | ⟨rfl, h⟩
  · exact Or.inl rfl
  have c1 : i ≠ j := by intro z; subst z; rw [(ff_j h).1] at e; cases e
  have c2 : i ≠ j + 1 := by intro z; subst z; rw [(ff_j h).2] at e; cases e
  exact Or.inr ⟨ff_set c1 c2, Gl_set h c1 c2 (fun _ => by simp [lng, hb]) (fun _ => by intro z; cases z)⟩
theorem stp_fl {q : Fm} (h : lfr j L M) (e : stp P m ins len aux pc L S k n H = some q) : ∃ M', stp P m ins len aux pc M S k n H = some (q.1, M', q.2.2) ∧ lfr j q.2.1 M' := by
  cases hl : loc ins with
  | false =>
    obtain ⟨h1, h2⟩ := stp_fr (L' := M) hl e
    exact ⟨M, h2, by rw [h1]; exact h⟩
  | true =>
    cases ins <;> first
      | (cases hl; done)
      | (simp only [stp, Option.map_eq_some_iff] at e ⊢; obtain ⟨w, h1, h2⟩ := e; subst h2; first
          | exact ⟨M, ⟨w, ldI_fr h h1, rfl⟩, h⟩
          | exact ⟨M, ⟨w, ldJ_fr h h1, rfl⟩, h⟩
          | exact ⟨M, ⟨w, ldR_fr h h1, rfl⟩, h⟩)
      | (simp only [stp] at e ⊢; split at e
         · simp only [Option.map_eq_some_iff] at e ⊢
           obtain ⟨w, h1, h2⟩ := e; subst h2
           first
            | (obtain ⟨M, g1, g2⟩ := stl_fr rfl h h1; exact ⟨M, ⟨M, g1, rfl⟩, g2⟩)
            | (obtain ⟨M, g1, g2⟩ := stL_fr h h1; exact ⟨M, ⟨M, g1, rfl⟩, g2⟩)
         · cases e)
      | (simp only [stp] at e ⊢; rename_i i c
         revert e; cases hx : L[i]? with
         | none => intro e; cases e
         | some o =>
           intro e
           split at e
           · rename_i x g; cases g
             rw [get_fr h hx (by intro z; cases z)]
             cases e; exact ⟨_, rfl, inc_fr rfl h hx⟩
           · cases e)
theorem run_fl : ∀ (f m pc : Nat) (L L' : List Slot) (S : List Value) (k n : Nat) (H : AH) (r : Option Value × AH), lfr j L L' → run P f m pc L S k n H = some r → run P f m pc L' S k n H = some r
  | 0, _, _, _, _, _, _, _, _, _, _, e => by cases e
  | f + 1, m, pc, L, L', S, k, n, H, r, h, e => by
    unfold run at e ⊢
    cases hd : P.1 m pc with
    | none => rw [hd] at e; cases e
    | some d =>
      rw [hd] at e; simp only at e ⊢
      cases hr : ret P m d.1 S with
      | some v => rw [hr] at e; exact e
      | none =>
        rw [hr] at e; simp only at e ⊢
        cases hc : cal P m d.1 d.2.2 S k n H with
        | some c =>
          rw [hc] at e; simp only at e ⊢
          cases hx : run P f c.1 0 (ent P c.1 c.2.1) [] 0 0 H with
          | none => rw [hx] at e; cases e
          | some y => rw [hx] at e; simp only at e ⊢; exact run_fl f _ _ _ _ _ _ _ _ _ h e
        | none =>
          rw [hc] at e; simp only at e ⊢
          cases hs : stp P m d.1 d.2.1 d.2.2 pc L S k n H with
          | none => rw [hs] at e; cases e
          | some q =>
            rw [hs] at e; simp only at e
            obtain ⟨M, g1, g2⟩ := stp_fl h hs
            rw [g1]; exact run_fl f _ _ _ _ _ _ _ _ _ g2 e
theorem W_fl (j : Nat) (h : Gl j L) (w : W P m pc (ff j L) S k n H Q) : W P m pc L S k n H Q := by
  obtain ⟨f, v, H', e, q⟩ := w
  exact ⟨f, v, H', run_fl f m pc _ L S k n H _ (Or.inr ⟨rfl, h⟩) e, q⟩
def wfb : List Slot → Bool
  | [] => true
  | .second :: _ => false
  | .unset :: L => wfb L
  | .val v :: L => if v.category = 2 then (match L with | .second :: L => wfb L | _ => false) else if v.category = 1 then wfb L else false
theorem lel_app : ∀ (A : List Slot) {C D : List Slot}, lel C D → lel (A ++ C) (A ++ D)
  | [], _, _, h => h
  | a :: A, _, _, h => lel_cons (lel_app A h)
theorem ff_app {A B : List Slot} {x y : Slot} : ff A.length (A ++ x :: y :: B) = A ++ .unset :: .unset :: B := by
  unfold ff
  rw [List.set_append_right _ _ (Nat.le_refl _), List.set_append_right _ _ (by omega)]
  simp
theorem wfb_hd {B : List Slot} (h : wfb B = true) : B[0]? ≠ some .second := by
  cases B with
  | nil => intro e; cases e
  | cons b B => intro e; cases b <;> cases e; cases h
theorem W_fB : ∀ (c : Nat) (A B : List Slot), B.length ≤ c → wfb B = true → (∀ i o, i + 1 = A.length → A[i]? = some o → lng o = false) → W P m pc (A ++ B.map fun _ => .unset) S k n H Q → W P m pc (A ++ B) S k n H Q
  | 0, A, B, hc, hw, ha, w => by
    have : B = [] := List.eq_nil_of_length_eq_zero (by omega)
    subst this; exact w
  | c + 1, A, [], hc, hw, ha, w => w
  | c + 1, A, .second :: B, hc, hw, ha, w => by cases hw
  | c + 1, A, .unset :: B, hc, hw, ha, w => by
    have := W_fB c (A ++ [.unset]) B (by simpa using hc) hw (fun i o e h => by
      rw [List.length_append, List.length_singleton] at e
      have : i = A.length := by omega
      subst this; rw [List.getElem?_concat_length] at h; cases h; rfl) (by simpa using w)
    simpa using this
  | c + 1, A, .val v :: B, hc, hw, ha, w => by
    by_cases d : v.category = 2
    · unfold wfb at hw; rw [if_pos d] at hw
      cases B with
      | nil => cases hw
      | cons b B =>
        cases b with
        | unset => cases hw
        | val u => cases hw
        | second =>
          simp only at hw
          refine W_fl A.length ⟨⟨v, by simp, d⟩, by simp, fun i o e h => ?_, ?_⟩ ?_
          · rw [List.getElem?_append_left (by omega)] at h; exact ha i o e h
          · have := wfb_hd hw
            rw [List.getElem?_append_right (by omega)]; simpa using this
          · rw [ff_app]
            have := W_fB c (A ++ [.unset, .unset]) B (by simp only [List.length_cons] at hc; omega) hw (fun i o e h => by
              rw [List.length_append] at e; simp only [List.length_cons, List.length_nil] at e
              have : i = A.length + 1 := by omega
              subst this; rw [List.getElem?_append_right (by omega)] at h; simp at h; subst h; rfl) (by simpa using w)
            simpa using this
    · have d1 : v.category = 1 := by cases v <;> simp [Value.category] at d ⊢
      unfold wfb at hw; rw [if_neg d, if_pos d1] at hw
      have := W_fB c (A ++ [.val v]) B (by simpa using hc) (by simpa using hw) (fun i o e h => by
        rw [List.length_append, List.length_singleton] at e
        have : i = A.length := by omega
        subst this; rw [List.getElem?_concat_length] at h; cases h; simp [lng, d1]) (by
          rw [List.append_assoc]
          refine W_fg (lel_app A ?_) w
          exact lel_un (by simp [cat1, d1]) lel_refl)
      simpa using this
def okf (c : Nat) (L : List Slot) : Bool := decide (c ≤ L.length) && (wfb (L.drop c) && (match c with | 0 => true | c + 1 => match L[c]? with | some o => !lng o | none => true))
theorem W_fa (c : Nat) (h : okf c L = true) (w : W P m pc (L.take c ++ (L.drop c).map fun _ => .unset) S k n H Q) : W P m pc L S k n H Q := by
  unfold okf at h; rw [Bool.and_eq_true, Bool.and_eq_true, decide_eq_true_eq] at h
  have := W_fB _ (L.take c) (L.drop c) (Nat.le_refl _) h.2.1 (fun i o e h' => by
    rw [List.length_take, Nat.min_eq_left h.1] at e; subst e
    rw [List.getElem?_take_of_lt (by omega)] at h'
    have h2 := h.2.2; simp only [h'] at h2; simpa using h2) w
  rwa [List.take_append_drop] at this
end ForgetL
section Ist
variable {P : Prog} {m pc len k n i : Nat} {aux : Int} {L : List Slot} {S : List Value} {H : AH} {Q : Option Value → AH → Prop} {x : Int32} {l : Int64}
end Ist
section Num2
theorem nn32 {x : Int32} (h : 0 ≤ x.toInt) : x.toInt = (x.toBitVec.toNat : Int) ∧ x.toBitVec.toNat < 2147483648 := by
  have e : x.toInt = x.toBitVec.toInt := rfl
  rw [e, BitVec.toInt_eq_toNat_cond] at h ⊢
  have := x.toBitVec.isLt
  split at h
  · rename_i g; rw [if_pos g]; exact ⟨rfl, by omega⟩
  · omega
theorem of_nn {x : Int32} (h : x.toBitVec.toNat < 2147483648) : x.toInt = (x.toBitVec.toNat : Int) := by
  have e : x.toInt = x.toBitVec.toInt := rfl
  rw [e, BitVec.toInt_eq_toNat_cond, if_pos (by omega)]
theorem and_rg {x m : Int32} (h : 0 ≤ m.toInt) : 0 ≤ (x &&& m).toInt ∧ (x &&& m).toInt ≤ m.toInt := by
  obtain ⟨e, hm⟩ := nn32 h
  have h1 : (x &&& m).toBitVec.toNat ≤ m.toBitVec.toNat := by
    rw [Int32.toBitVec_and, BitVec.toNat_and]; exact Nat.and_le_right
  rw [of_nn (x := x &&& m) (by omega), e]; omega
theorem len32 {n : Nat} (h : n < 2147483648) : (n.toInt32).toInt = n := by
  rw [show n.toInt32 = Int32.ofNat n from rfl, Int32.toInt_ofNat_of_lt (by omega)]
end Num2
end Jvm.JX

namespace Jvm.JX
open Sem ClassFile Op Lib
theorem rem_rg {x m : Int32} (hx : 0 ≤ x.toInt) (hm : 0 < m.toInt) : 0 ≤ (x % m).toInt ∧ (x % m).toInt < m.toInt := by
  rw [Int32.toInt_mod]
  exact ⟨Int.tmod_nonneg _ hx, Int.tmod_lt_of_pos _ hm⟩
end Jvm.JX

namespace Jvm.JX
open Sem ClassFile Op Lib Jvm.Stand Jvm.Free Jvm.LawKit Jvm.RoadKit
def CRel (C : String) (fn : Nat → String × String) (F : List Nat) (Z : State) (n0 : Nat) (h : Heap) (a : Nat) (c : Cel) : Prop :=
  (c.2.2.1 = true → n0 ≤ a) ∧
  match c.1 with
  | .object _ => Exa Z h a C ∧ ∀ k ∈ F, Fld Z h a C (fn k).1 (fn k).2 (c.2.2.2 k)
  | .array t => c.2.1 < 2 ^ 31 ∧ ∃ cl : Cell, Arr Z h a cl t ∧ cl.slots.size = c.2.1 ∧ ∀ i, i < c.2.1 → cl.slots[i]? = some (c.2.2.2 i)
  | _ => True
def RelH (C : String) (fn : Nat → String × String) (F : List Nat) (Z : State) (n0 : Nat) (h : Heap) (H : AH) : Prop := h.size = H.1 ∧ n0 ≤ H.1 ∧ ∀ a, CRel C fn F Z n0 h a (H.2 a)
def ilen2 : Instr → Nat → Nat
  | .tableswitch _ _ _ _, l => l
  | i, _ => ilen i
def RowOk (P : Prog) (tb : List Jvm.Cond) (C : String) (fn : Nat → String × String) (F : List Nat) (nsl : Nat) (nm : Nat → MethodName) (R : List Nat) (m : Nat) (ins : Instr) (aux : Int) : Prop :=
  match ins with
  | .getfield i => aux.toNat ∈ F ∧ Jvm.Cond.fieldLink (nm m).cls i C (fn aux.toNat).1 (fn aux.toNat).2 ∈ tb
  | .putfield i => aux.toNat ∈ F ∧ Jvm.Cond.fieldLink (nm m).cls i C (fn aux.toNat).1 (fn aux.toNat).2 ∈ tb ∧ (Jvm.Cond.lays C C (fn aux.toNat).1 (fn aux.toNat).2 ∈ tb ∨ (nm m).cls = C ∧ (nm m).name = "<init>")
  | .new i => aux.toNat = nsl ∧ Jvm.Cond.classLink (nm m).cls i C ∈ tb
  | .newarray t => Jvm.Cond.arrayClass (newarray.typeOf t) ∈ tb
  | .ldc i => Jvm.Cond.constant (nm m).cls i (Int32.ofInt aux) ∈ tb
  | .ldc2_w i => Jvm.Cond.constantLong (nm m).cls i (Int64.ofInt aux) ∈ tb
  | .invokevirtual i => aux.toNat ∈ R ∧ Jvm.Cond.methodLink (nm m).cls i (nm aux.toNat) ∈ tb
  | .invokestatic i => aux.toNat ∈ R ∧ Jvm.Cond.methodLink (nm m).cls i (nm aux.toNat) ∈ tb
  | .invokespecial i => (aux = -1 → Jvm.Cond.methodLink (nm m).cls i Lib.objectInit ∈ tb ∧ Jvm.Cond.instanceMethod Lib.objectInit ∈ tb ∧ Jvm.Cond.code Lib.objectInit ⟨#[0xb1]⟩ 1 none ∈ tb) ∧ (0 ≤ aux → aux.toNat ∈ R ∧ Jvm.Cond.methodLink (nm m).cls i (nm aux.toNat) ∈ tb)
  | _ => True
def CalOk (P : Prog) (tb : List Jvm.Cond) (C : String) (nm : Nat → MethodName) (bt : Nat → ByteArray) (m : Nat) : Prop :=
  Jvm.Cond.code (nm m) (bt m) (ml P m) (rt P m) ∈ tb ∧ Jvm.Cond.initialized (nm m).cls ∈ tb ∧ (∃ ps r, parseMethodDescriptor (nm m).desc = some ⟨ps, r⟩ ∧ ps.length + (if kd P m = 0 then 0 else 1) = na P m) ∧
  (kd P m = 0 → Jvm.Cond.static (nm m) ∈ tb) ∧
  (kd P m ≠ 0 → (nm m).cls = C ∧ Jvm.Cond.instanceMethod (nm m) ∈ tb) ∧
  (kd P m = 1 → Jvm.Cond.declares (nm m) ∈ tb ∧ Jvm.Cond.selects C (nm m) (nm m) ∈ tb) ∧
  (kd P m = 2 → Jvm.Cond.privateMethod (nm m) ∈ tb) ∧
  (kd P m = 3 → (nm m).name = "<init>" ∧ rt P m = none)
def Good (P : Prog) (tb : List Jvm.Cond) (C : String) (fn : Nat → String × String) (F : List Nat) (nsl : Nat) (nm : Nat → MethodName) (bt : Nat → ByteArray) (R : List Nat) (top : Nat) : Prop :=
  Jvm.Cond.instantiable C nsl ∈ tb ∧ Jvm.Cond.initialized C ∈ tb ∧
  (∀ k ∈ F, parseFieldDescriptor (fn k).2 = some (P.2.2.1 k) ∧ (Jvm.Cond.lays C C (fn k).1 (fn k).2 ∈ tb ∨ Jvm.Cond.laysFinal C C (fn k).1 (fn k).2 ∈ tb)) ∧
  (∀ j ∈ F, ∀ k ∈ F, (fn j).1 = (fn k).1 → j = k) ∧
  (∀ m ∈ R, plainName (nm m).cls = true ∧ ((nm m).cls ≠ "java/lang/invoke/MethodHandle" ∧ (nm m).cls ≠ "java/lang/invoke/VarHandle") ∧
    ∀ pc ins len aux, P.1 m pc = some (ins, len, aux) → decode (bt m) pc = .ok (ins, len) ∧ len = ilen2 ins len ∧ RowOk P tb C fn F nsl nm R m ins aux) ∧
  (∀ m ∈ R, m ≠ top → CalOk P tb C nm bt m) ∧
  (∀ m ∈ R, ∀ pc ins len aux, P.1 m pc = some (ins, len, aux) → aux = (top : Int) → kindOk ins (kd P top) = false)
section Rel
variable {C : String} {fn : Nat → String × String} {F : List Nat} {Z : State} {n0 : Nat} {h h' : Heap} {H : AH}
theorem RelH.obj (r : RelH C fn F Z n0 h H) {a : Nat} (ha : isO H a = true) : Exa Z h a C ∧ ∀ k ∈ F, Fld Z h a C (fn k).1 (fn k).2 (fld H a k) := by
  have q := (r.2.2 a).2
  unfold isO at ha
  cases hk : (H.2 a).1 <;> rw [hk] at ha <;> first | (cases ha; done) | (simp only [hk] at q; exact q)
theorem RelH.own (r : RelH C fn F Z n0 h H) {a : Nat} (ha : (H.2 a).2.2.1 = true) : n0 ≤ a := (r.2.2 a).1 ha
theorem RelH.arr (r : RelH C fn F Z n0 h H) {a : Nat} {t : FieldType} (ha : (H.2 a).1 = .array t) : (H.2 a).2.1 < 2 ^ 31 ∧ ∃ cl : Cell, Arr Z h a cl t ∧ cl.slots.size = (H.2 a).2.1 ∧ ∀ i, i < (H.2 a).2.1 → cl.slots[i]? = some ((H.2 a).2.2.2 i) := by
  have q := (r.2.2 a).2
  simp only [ha] at q; exact q
theorem RelH.ext (r : RelH C fn F Z n0 h H) (E : Ext h h') {c : Cel} (hs : h'.size = h.size + 1) (hc : CRel C fn F Z n0 h' h.size c) : RelH C fn F Z n0 h' (H.1 + 1, fun b => if b = H.1 then c else H.2 b) := by
  refine ⟨by rw [hs, r.1], Nat.le_succ_of_le r.2.1, fun a => ?_⟩
  by_cases e : a = H.1
  · subst e; simp only [if_true]; rw [← r.1]; exact hc
  · simp only [e, if_false]
    obtain ⟨q1, q2⟩ := r.2.2 a
    refine ⟨q1, ?_⟩
    cases hk : (H.2 a).1 <;> simp only [hk] at q2 ⊢
    · exact ⟨q2.1.ext E, fun k hk => (q2.2 k hk).ext E⟩
    · obtain ⟨q3, cl, q4, q5⟩ := q2; exact ⟨q3, cl, q4.ext E, q5⟩
end Rel
def Go (C : String) (fn : Nat → String × String) (F : List Nat) (Z : State) (n0 : Nat) (p : Program) (l : Launch) (e : Env) (R : Jvm.Room) (s : State) (mid : MethodId) (args : Array Value) (below : List Frame) (meth : Method) (c : Code) (start : State) (nl : Nat) (q : Fm) : Prop :=
  ∃ T' locs', Stand p l e R s mid args below meth c T' locs' q.2.2.2.1 q.2.2.2.2.1 ∧ RelH C fn F Z n0 T'.heap q.2.2.2.2.2 ∧ Fr n0 locs' ∧ q.2.2.2.1 ≤ R.cells ∧ q.2.2.2.2.1 ≤ R.slots ∧ q.2.1.length = nl ∧
    ∀ target, Steps p.tables e below (T'.setTop (mkF mid q.1 q.2.1.toArray q.2.2.1)) target → Steps p.tables e below start target
theorem lrem_mod (x y : Int64) : x - (x / y) * y = x % y := by
  apply Int64.toInt_inj.mp
  have h1 := Int64.le_toInt (x % y)
  have h2 := Int64.toInt_lt (x % y)
  rw [Int64.toInt_sub, Int64.toInt_mul, Int64.toInt_div, Int.bmod_mul_bmod, Int.sub_bmod_bmod, Int.mul_comm (x.toInt.tdiv y.toInt), ← Int.tmod_def, ← Int64.toInt_mod]
  exact Int.bmod_eq_of_le_mul_two (by omega) (by omega)
theorem arr_get {L : List Slot} {i : Nat} {o : Slot} (h : L[i]? = some o) : L.toArray[i]? = some o := by simpa using h
theorem stl_ok {L L' : List Slot} {i : Nat} {v : Value} (hv : v.category = 1) (h : stl L i v = some L') : storeLocals L.toArray i v = some L'.toArray ∧ L'.length = L.length := by
  unfold stl at h
  unfold storeLocals
  cases hi : L[i]? with
  | none => rw [hi] at h; cases h
  | some o =>
    have hlt : i < L.length := (List.getElem?_eq_some_iff.mp hi).1
    rw [hi] at h
    rw [arr_get hi]
    cases o with
    | unset => cases h; simp [storeSelf, setAt, hlt, hv]
    | second =>
      simp only at h
      split at h
      · cases h; simp [storeSelf, setAt, hv, hlt, Nat.lt_of_le_of_lt (Nat.sub_le i 1) hlt]
      · cases h
    | val w =>
      simp only at h
      split at h
      · rename_i hw; cases h; simp [storeSelf, setAt, hv, hlt, hw]
      · rename_i hw
        split at h
        · rename_i h1
          have hw2 : w.category = 2 := by cases w <;> simp [Value.category] at hw ⊢
          cases h; simp [storeSelf, setAt, hv, hlt, hw2, h1]
        · cases h
theorem stL_ok {L L' : List Slot} {i : Nat} {v : Value} (hv : v.category = 2) (h : stL L i v = some L') : storeLocals L.toArray i v = some L'.toArray ∧ L'.length = L.length := by
  unfold stL at h
  unfold storeLocals
  cases hi : L[i]? with
  | none => rw [hi] at h; cases h
  | some o =>
    cases hi2 : L[i + 1]? with
    | none => rw [hi, hi2] at h; cases o <;> cases h
    | some o2 =>
      have hlt : i < L.length := (List.getElem?_eq_some_iff.mp hi).1
      have hlt2 : i + 1 < L.length := (List.getElem?_eq_some_iff.mp hi2).1
      rw [hi, hi2] at h
      rw [arr_get hi]
      have g2 : (L.set i (.val v))[i + 1]? = some o2 := by rw [List.getElem?_set_ne (by omega)]; exact hi2
      have g4 : L[i + 1] = o2 := (List.getElem?_eq_some_iff.mp hi2).2
      cases o with
      | second =>
        simp only at h
        have h0 : i - 1 < L.length := by omega
        split at h
        · rename_i h1
          have g2' : ((L.set (i - 1) .unset).set i (.val v))[i + 1]? = some o2 := by rw [List.getElem?_set_ne (by omega), List.getElem?_set_ne (by omega)]; exact hi2
          have g4' : ((L.set (i - 1) .unset).set i (.val v))[i + 1]'(by simpa using hlt2) = o2 := (List.getElem?_eq_some_iff.mp g2').2
          split at h
          · rename_i hc
            cases h
            cases o2 with
            | second => cases hc
            | unset => simp [storeSelf, setAt, hv, hlt, hlt2, h0, g4']
            | val w => simp only [cat1, beq_iff_eq] at hc; simp [storeSelf, setAt, hv, hlt, hlt2, h0, g4', hc]
          · split at h
            · rename_i hc
              cases h
              obtain ⟨hc, hlt3⟩ := hc
              cases o2 with
              | second => cases hc
              | unset => cases hc
              | val w => simp only [lng, beq_iff_eq] at hc; simp [storeSelf, setAt, hv, hlt, hlt2, hlt3, h0, g4', hc]
            · cases h
        · cases h
      | unset =>
        simp only at h
        split at h
        · rename_i hc
          cases h
          cases o2 with
          | second => cases hc
          | unset => simp [storeSelf, setAt, hv, hlt, hlt2, g2, g4]
          | val w => simp only [cat1, beq_iff_eq] at hc; simp [storeSelf, setAt, hv, hlt, hlt2, g2, g4, hc]
        · split at h
          · rename_i hc
            cases h
            obtain ⟨hc, hlt3⟩ := hc
            cases o2 with
            | second => cases hc
            | unset => cases hc
            | val w => simp only [lng, beq_iff_eq] at hc; simp [storeSelf, setAt, hv, hlt, hlt2, hlt3, g2, g4, hc]
          · cases h
      | val w =>
        simp only at h
        split at h
        · rename_i hw
          cases h
          have g3 : ((L.set (i + 1) .unset).set i (.val v))[i + 1]? = some .unset := by rw [List.getElem?_set_ne (by omega)]; simp [hlt2]
          simp [storeSelf, setAt, hv, hlt, hlt2, hw, g3]
          rw [List.set_comm _ _ (by omega), List.set_set, List.set_comm _ _ (by omega)]
        · rename_i hw
          have hw1 : ¬ w.category = 2 := hw
          split at h
          · rename_i hc
            cases h
            cases o2 with
            | second => cases hc
            | unset => simp [storeSelf, setAt, hv, hlt, hlt2, g2, g4, hw1]
            | val w => simp only [cat1, beq_iff_eq] at hc; simp [storeSelf, setAt, hv, hlt, hlt2, g2, g4, hw1, hc]
          · split at h
            · rename_i hc
              cases h
              obtain ⟨hc, hlt3⟩ := hc
              cases o2 with
              | second => cases hc
              | unset => cases hc
              | val w2 => simp only [lng, beq_iff_eq] at hc; simp [storeSelf, setAt, hv, hlt, hlt2, hlt3, g2, g4, hw1, hc]
            · cases h
theorem jmp_ok {pc q : Nat} {o : Int} (h : jmp pc o = some q) : 0 ≤ (pc : Int) + o ∧ ((pc : Int) + o).toNat = q := by
  unfold jmp at h
  split at h
  · rename_i g; cases h; exact ⟨g, rfl⟩
  · cases h
theorem ldI_ok {L : List Slot} {i : Nat} {v : Value} (h : ldI L i = some v) : ∃ x, v = .int x ∧ L.toArray[i]? = some (.val (.int x)) := by
  unfold ldI at h
  split at h
  · rename_i x e; cases h; exact ⟨x, rfl, arr_get e⟩
  · cases h
theorem ldJ_ok {L : List Slot} {i : Nat} {v : Value} (h : ldJ L i = some v) : ∃ x, v = .long x ∧ L.toArray[i]? = some (.val (.long x)) := by
  unfold ldJ at h
  split at h
  · rename_i x e; cases h; exact ⟨x, rfl, arr_get e⟩
  · cases h
theorem ldR_ok {L : List Slot} {i : Nat} {v : Value} (h : ldR L i = some v) : ∃ x, v = .ref x ∧ L.toArray[i]? = some (.val (.ref x)) := by
  unfold ldR at h
  split at h
  · rename_i x e; cases h; exact ⟨x, rfl, arr_get e⟩
  · cases h
theorem okv_ok {t : FieldType} {v : Value} (h : okv t v = true) : narrow t v = v ∧ fits t v = true := by
  unfold okv at h
  split at h
  · exact ⟨rfl, rfl⟩
  · rename_i z
    simp only [Bool.or_eq_true, beq_iff_eq] at h
    rcases h with rfl | rfl <;> exact ⟨rfl, rfl⟩
  · rename_i z
    simp only [beq_iff_eq] at h
    have q := fits_nar_byte z
    rw [h] at q
    exact ⟨by show Value.int _ = _; rw [h], q⟩
  · exact ⟨rfl, rfl⟩
  · exact ⟨rfl, rfl⟩
  · cases h
end Jvm.JX

namespace Jvm.JX
open Sem ClassFile Op Lib Jvm.Stand Jvm.Free Jvm.LawKit Jvm.RoadKit
section Step
variable {P : Prog} {tb : List Jvm.Cond} {C : String} {fn : Nat → String × String} {F : List Nat} {nsl : Nat} {nm : Nat → MethodName} {bt : Nat → ByteArray} {R : List Nat} {top : Nat}
variable {l : Launch} {Z : State} {a0 : Array Value} {n0 : Nat} {m pc len k n : Nat} {aux : Int} {L : List Slot} {S : List Value} {H : AH} {ins : Instr} {q : Fm}
variable {p : Program} {e : Env} {s : State} {mid : MethodId} {args : Array Value} {below : List Frame} {meth : Method} {c : Code} {T : State} {locs : List Loc} {Rm : Jvm.Room}
theorem go_same {start : State} {nl pc' : Nat} {L' : List Slot} {S' : List Value} (X : Stand p l e Rm s mid args below meth c T locs k n) (r : RelH C fn F Z n0 T.heap H) (N : Fr n0 locs) (hk : k ≤ Rm.cells) (hn : n ≤ Rm.slots) (hL : L'.length = nl)
    (st : ∀ target, Steps p.tables e below (T.setTop (mkF mid pc' L'.toArray S')) target → Steps p.tables e below start target) : Go C fn F Z n0 p l e Rm s mid args below meth c start nl (pc', L', S', k, n, H) := ⟨T, locs, X, r, N, hk, hn, hL, st⟩
theorem go_heap {start : State} {nl pc' : Nat} {L' : List Slot} {S' : List Value} {T' : State} (X : Stand p l e Rm s mid args below meth c T' locs k n) (r : RelH C fn F Z n0 T.heap H) (hh : T'.heap = T.heap) (N : Fr n0 locs) (hk : k ≤ Rm.cells) (hn : n ≤ Rm.slots) (hL : L'.length = nl)
    (st : ∀ target, Steps p.tables e below (T'.setTop (mkF mid pc' L'.toArray S')) target → Steps p.tables e below start target) : Go C fn F Z n0 p l e Rm s mid args below meth c start nl (pc', L', S', k, n, H) := ⟨T', locs, X, by rw [hh]; exact r, N, hk, hn, hL, st⟩
theorem idx_not {i : Int32} {n : Nat} (h1 : ¬ i < 0) (h2 : i.toNatClampNeg < n) : ¬ (i < 0 ∨ n ≤ i.toNatClampNeg) := fun h => h.elim h1 (Nat.not_le.mpr h2)
theorem inA_ok {a : Nat} {t : FieldType} {i : Int32} (h : inA H a t i = true) : (H.2 a).1 = .array t ∧ ¬ i < 0 ∧ i.toNatClampNeg < (H.2 a).2.1 := by
  simpa [inA, and_assoc] using h
theorem inAw_ok {a : Nat} {t : FieldType} {i : Int32} (h : inAw H a t i = true) : inA H a t i = true ∧ (H.2 a).2.2.1 = true := by
  simpa [inAw] using h
theorem isOw_ok {a : Nat} (h : isOw H a = true) : isO H a = true ∧ (H.2 a).2.2.1 = true := by simpa [isOw] using h
theorem RelH.wrF {h h' : Heap} {a j : Nat} {v : Value} (hG : Good P tb C fn F nsl nm bt R top) (hw : ∀ d ∈ tb, d.before a0 Z = true) (r : RelH C fn F Z n0 h H) (ha : isO H a = true) (hj : j ∈ F) (Wt : Wr h h' a (Jvm.RoadKit.slotOf Z C (fn j).1 (fn j).2) v) : RelH C fn F Z n0 h' (wr H a j v) := by
  refine ⟨by rw [Wt.size]; exact r.1, r.2.1, fun b => ?_⟩
  by_cases e : b = a
  · subst e
    obtain ⟨q1, q2⟩ := r.2.2 b
    obtain ⟨E, Fs⟩ := r.obj ha
    simp only [wr, if_true]
    refine ⟨q1, ?_⟩
    unfold isO at ha
    cases hk : (H.2 b).1 <;> rw [hk] at ha <;> try (cases ha; done)
    simp only
    refine ⟨E.wr Wt, fun i hi => ?_⟩
    by_cases e2 : i = j
    · subst e2; simp only [if_true]; exact (Fs i hi).same Wt
    · simp only [e2, if_false]
      refine (Fs i hi).other Wt (Or.inr ?_)
      have lw : ∀ k ∈ F, Laid Z a0 C C (fn k).1 (fn k).2 := fun k hk => ((hG.2.2.1 k hk).2).imp (hw _) (hw _)
      exact slot_ne (lw i hi) (lw j hj) (fun q => e2 (hG.2.2.2.1 i hi j hj q)) (hG.2.2.1 i hi).1 (hG.2.2.1 j hj).1
  · simp only [wr, e, if_false]
    obtain ⟨q1, q2⟩ := r.2.2 b
    refine ⟨q1, ?_⟩
    cases hk : (H.2 b).1 <;> simp only [hk] at q2 ⊢
    · exact ⟨q2.1.wr Wt, fun k hk => (q2.2 k hk).other Wt (Or.inl e)⟩
    · obtain ⟨q3, cl, q4, q5⟩ := q2; exact ⟨q3, cl, q4.other Wt e, q5⟩
theorem RelH.wrA {h h' : Heap} {a j : Nat} {t : FieldType} {v : Value} (r : RelH C fn F Z n0 h H) (ha : (H.2 a).1 = .array t) (hj : j < (H.2 a).2.1) (Wt : Wr h h' a j v) : RelH C fn F Z n0 h' (wr H a j v) := by
  refine ⟨by rw [Wt.size]; exact r.1, r.2.1, fun b => ?_⟩
  by_cases e : b = a
  · subst e
    obtain ⟨q1, q2⟩ := r.2.2 b
    obtain ⟨g1, cl, g2, g3, g4⟩ := r.arr ha
    simp only [wr, if_true]
    refine ⟨q1, ?_⟩
    simp only [ha]
    refine ⟨g1, cl.setSlot j v, g2.same Wt, by rw [sz_set]; exact g3, fun i hi => ?_⟩
    by_cases e2 : i = j
    · subst e2; simp [Cell.setSlot, g3, hj]
    · simp only [e2, if_false]; rw [← g4 i hi]; exact Array.getElem?_setIfInBounds_ne (Ne.symm e2)
  · simp only [wr, e, if_false]
    obtain ⟨q1, q2⟩ := r.2.2 b
    refine ⟨q1, ?_⟩
    cases hk : (H.2 b).1 <;> simp only [hk] at q2 ⊢
    · exact ⟨q2.1.wr Wt, fun k hk => (q2.2 k hk).other Wt (Or.inl e)⟩
    · obtain ⟨q3, cl, q4, q5⟩ := q2; exact ⟨q3, cl, q4.other Wt e, q5⟩
theorem ext_push (h : Heap) (x : Cell) : Ext h (h.push x) := ⟨by simp, fun a c q => by rw [Array.getElem?_push_lt (Array.getElem?_eq_some_iff.mp q).1]; exact (Array.getElem?_eq_getElem _).symm.trans q⟩
theorem made_obj {h : Heap} {cC : ClassId} {kC : Class} (hZ : Z.Warmed39 s.vm) (h1 : s.vm.findClass C = some cC) (h2 : s.vm.classes[cC]? = some kC) :
    Exa Z (h.push { cls := cC, slots := kC.instanceTypes.map defaultValue, vm := .none }) h.size C ∧ ∀ {nm d : String} {ty : FieldType}, Laid Z a0 C C nm d → parseFieldDescriptor d = some ty → Fld Z (h.push { cls := cC, slots := kC.instanceTypes.map defaultValue, vm := .none }) h.size C nm d (defaultValue ty) := by
  rw [hZ.alike.findClass] at h1
  obtain ⟨kZ, z1, -⟩ := Vm.findClass_spec h1
  obtain ⟨k', z2, z3⟩ := hZ.alike.2.2 _ _ z1
  cases h2.symm.trans z2
  have ei : kC.instanceTypes = kZ.instanceTypes := by rw [z3]
  have hN : ∀ x : Cell, (h.push x)[h.size]? = some x := fun x => by simp
  refine ⟨⟨_, kZ, hN _, h1, z1, rfl, fun _ => by simp [ei]⟩, fun {nm d ty} lw ht => ?_⟩
  obtain ⟨c1, k1, cf, kf, i, f, a1, a2, a3, a4, a5, a6, -⟩ := lw.spec
  cases h1.symm.trans a1
  cases z1.symm.trans a2
  exact ⟨_, cf, kf, i, f, hN _, a3, a4, by simp, rfl, a5, by simp [ei, a6, (State.fieldFound?_type a3 ht).2]⟩
theorem made_arr {h : Heap} {t : FieldType} {cA comp : ClassId} {kA : Class} {xs : Array Value} (hZ : Z.Warmed39 s.vm) (h1 : s.vm.findClass ("[" ++ t.toString) = some cA) (h2 : s.vm.classes[cA]? = some kA) (h3 : kA.kind = .array comp t) : Arr Z (h.push { cls := cA, slots := xs, vm := .none }) h.size { cls := cA, slots := xs, vm := .none } t := by
  rw [hZ.alike.findClass] at h1
  obtain ⟨kZ, z1, -⟩ := Vm.findClass_spec h1
  obtain ⟨k', z2, z3⟩ := hZ.alike.2.2 _ _ z1
  cases h2.symm.trans z2
  exact ⟨by simp, ⟨by simp, kZ, z1, comp, by rw [← h3, z3]⟩, by simp⟩
set_option maxHeartbeats 4000000 in
theorem stp_go (hG : Good P tb C fn F nsl nm bt R top) (hw : ∀ d ∈ tb, d.before a0 Z = true) (hm : m ∈ R) (hrow : P.1 m pc = some (ins, len, aux)) (h : stp P m ins len aux pc L S k n H = some q) (X : Stand p l e (rm P m) s mid args below meth c T locs k n) (hx : p.tables.exec = Jvm.exec) (hZ : Z.Warmed39 s.vm)
    (hby : c.code = bt m) (hml : c.maxLocals = ml P m) (hown : s.vm.findClass (nm m).cls = some mid.cls) (hnm : meth.name = (nm m).name) (hL : L.length = ml P m) (r : RelH C fn F Z n0 T.heap H) (N : Fr n0 locs) (hk : k ≤ (rm P m).cells) (hn : n ≤ (rm P m).slots) :
    Go C fn F Z n0 p l e (rm P m) s mid args below meth c (T.setTop (mkF mid pc L.toArray S)) (ml P m) q := by
  obtain ⟨hd, hl, ho⟩ := (hG.2.2.2.2.1 m hm).2.2 pc ins len aux hrow
  replace hd := hb hby hd
  cases ins with
  | iconst i =>
    have hl : len = 1 := hl; subst hl
    obtain rfl := Option.some.inj h
    exact go_same X r N hk hn hL fun t g => XS.iconst X.here hx rfl hd g
  | bipush i =>
    have hl : len = 2 := hl; subst hl
    obtain rfl := Option.some.inj h
    exact go_same X r N hk hn hL fun t g => XS.bipush X.here hx rfl hd g
  | sipush i =>
    have hl : len = 3 := hl; subst hl
    obtain rfl := Option.some.inj h
    exact go_same X r N hk hn hL fun t g => XS.sipush X.here hx rfl hd g
  | lconst i =>
    have hl : len = 1 := hl; subst hl
    obtain rfl := Option.some.inj h
    exact go_same X r N hk hn hL fun t g => XT.lconst X.here hx rfl hd g
  | ldc i =>
    have hl : len = 2 := hl; subst hl
    obtain rfl := Option.some.inj h
    exact go_same X r N hk hn hL fun t g => X.ldcI hx hown (mv hZ (hw _ ho)) rfl hd g
  | ldc2_w i =>
    have hl : len = 3 := hl; subst hl
    obtain rfl := Option.some.inj h
    exact go_same X r N hk hn hL fun t g => X.ldc2J hx hown (mv hZ (hw _ ho)) rfl hd g
  | iload i =>
    have hl : len = 2 := hl; subst hl
    obtain ⟨v, hv, rfl⟩ := Option.map_eq_some_iff.mp h
    obtain ⟨x, rfl, hg⟩ := ldI_ok hv
    exact go_same X r N hk hn hL fun t g => XS.iload X.here hx rfl hd hg g
  | iload_n i =>
    have hl : len = 1 := hl; subst hl
    obtain ⟨v, hv, rfl⟩ := Option.map_eq_some_iff.mp h
    obtain ⟨x, rfl, hg⟩ := ldI_ok hv
    exact go_same X r N hk hn hL fun t g => XS.iloadN X.here hx rfl hd hg g
  | lload i =>
    have hl : len = 2 := hl; subst hl
    obtain ⟨v, hv, rfl⟩ := Option.map_eq_some_iff.mp h
    obtain ⟨x, rfl, hg⟩ := ldJ_ok hv
    exact go_same X r N hk hn hL fun t g => XT.lload X.here hx rfl hd hg g
  | lload_n i =>
    have hl : len = 1 := hl; subst hl
    obtain ⟨v, hv, rfl⟩ := Option.map_eq_some_iff.mp h
    obtain ⟨x, rfl, hg⟩ := ldJ_ok hv
    exact go_same X r N hk hn hL fun t g => XT.lloadN X.here hx rfl hd hg g
  | aload i =>
    have hl : len = 2 := hl; subst hl
    obtain ⟨v, hv, rfl⟩ := Option.map_eq_some_iff.mp h
    obtain ⟨x, rfl, hg⟩ := ldR_ok hv
    exact go_same X r N hk hn hL fun t g => XS.aload X.here hx rfl hd hg rfl g
  | aload_n i =>
    have hl : len = 1 := hl; subst hl
    obtain ⟨v, hv, rfl⟩ := Option.map_eq_some_iff.mp h
    obtain ⟨x, rfl, hg⟩ := ldR_ok hv
    exact go_same X r N hk hn hL fun t g => XS.aloadN X.here hx rfl hd hg rfl g
  | istore i =>
    have hl : len = 2 := hl; subst hl
    dsimp only [stp] at h
    split at h
    · rename_i x S'
      obtain ⟨L', hv, rfl⟩ := Option.map_eq_some_iff.mp h
      obtain ⟨g1, g2⟩ := stl_ok rfl hv
      exact go_same X r N hk hn (g2.trans hL) fun t g => XS.istore X.here hx rfl hd rfl g1 g
    · cases h
  | istore_n i =>
    have hl : len = 1 := hl; subst hl
    dsimp only [stp] at h
    split at h
    · rename_i x S'
      obtain ⟨L', hv, rfl⟩ := Option.map_eq_some_iff.mp h
      obtain ⟨g1, g2⟩ := stl_ok rfl hv
      exact go_same X r N hk hn (g2.trans hL) fun t g => XS.istoreN X.here hx rfl hd rfl g1 g
    · cases h
  | astore i =>
    have hl : len = 2 := hl; subst hl
    dsimp only [stp] at h
    split at h
    · rename_i x S'
      obtain ⟨L', hv, rfl⟩ := Option.map_eq_some_iff.mp h
      obtain ⟨g1, g2⟩ := stl_ok rfl hv
      exact go_same X r N hk hn (g2.trans hL) fun t g => XS.astore X.here hx rfl hd rfl rfl g1 g
    · cases h
  | astore_n i =>
    have hl : len = 1 := hl; subst hl
    dsimp only [stp] at h
    split at h
    · rename_i x S'
      obtain ⟨L', hv, rfl⟩ := Option.map_eq_some_iff.mp h
      obtain ⟨g1, g2⟩ := stl_ok rfl hv
      exact go_same X r N hk hn (g2.trans hL) fun t g => XS.astoreN X.here hx rfl hd rfl rfl g1 g
    · cases h
  | lstore i =>
    have hl : len = 2 := hl; subst hl
    dsimp only [stp] at h
    split at h
    · rename_i x S'
      obtain ⟨L', hv, rfl⟩ := Option.map_eq_some_iff.mp h
      obtain ⟨g1, g2⟩ := stL_ok rfl hv
      exact go_same X r N hk hn (g2.trans hL) fun t g => XT.lstore X.here hx rfl hd rfl g1 g
    · cases h
  | lstore_n i =>
    have hl : len = 1 := hl; subst hl
    dsimp only [stp] at h
    split at h
    · rename_i x S'
      obtain ⟨L', hv, rfl⟩ := Option.map_eq_some_iff.mp h
      obtain ⟨g1, g2⟩ := stL_ok rfl hv
      exact go_same X r N hk hn (g2.trans hL) fun t g => XT.lstoreN X.here hx rfl hd rfl g1 g
    · cases h
  | iinc i cst =>
    have hl : len = 3 := hl; subst hl
    dsimp only [stp] at h
    split at h
    · rename_i x hx1
      obtain rfl := Option.some.inj h
      have g1 : storeLocals L.toArray i (.int (x + Int32.ofInt cst)) = some (L.set i (.val (.int (x + Int32.ofInt cst)))).toArray := (stl_ok rfl (stl_plain hx1 rfl)).1
      exact go_same X r N hk hn (by simpa using hL) fun t g => XS.iinc X.here hx rfl hd (arr_get hx1) g1 g
    · cases h
  | iadd =>
    have hl : len = 1 := hl; subst hl
    dsimp only [stp] at h
    split at h
    · rename_i y x S'
      obtain rfl := Option.some.inj h
      exact go_same X r N hk hn hL fun t g => XS.iadd X.here hx rfl hd rfl g
    · cases h
  | isub =>
    have hl : len = 1 := hl; subst hl
    dsimp only [stp] at h
    split at h
    · rename_i y x S'
      obtain rfl := Option.some.inj h
      exact go_same X r N hk hn hL fun t g => XS.isub X.here hx rfl hd rfl g
    · cases h
  | imul =>
    have hl : len = 1 := hl; subst hl
    dsimp only [stp] at h
    split at h
    · rename_i y x S'
      obtain rfl := Option.some.inj h
      exact go_same X r N hk hn hL fun t g => XS.imul X.here hx rfl hd rfl g
    · cases h
  | iand =>
    have hl : len = 1 := hl; subst hl
    dsimp only [stp] at h
    split at h
    · rename_i y x S'
      obtain rfl := Option.some.inj h
      exact go_same X r N hk hn hL fun t g => XS.iand X.here hx rfl hd rfl g
    · cases h
  | ior =>
    have hl : len = 1 := hl; subst hl
    dsimp only [stp] at h
    split at h
    · rename_i y x S'
      obtain rfl := Option.some.inj h
      exact go_same X r N hk hn hL fun t g => XT.ior X.here hx rfl hd rfl g
    · cases h
  | ixor =>
    have hl : len = 1 := hl; subst hl
    dsimp only [stp] at h
    split at h
    · rename_i y x S'
      obtain rfl := Option.some.inj h
      exact go_same X r N hk hn hL fun t g => XT.ixor X.here hx rfl hd rfl g
    · cases h
  | ishl =>
    have hl : len = 1 := hl; subst hl
    dsimp only [stp] at h
    split at h
    · rename_i y x S'
      obtain rfl := Option.some.inj h
      exact go_same X r N hk hn hL fun t g => XT.ishl X.here hx rfl hd rfl g
    · cases h
  | ishr =>
    have hl : len = 1 := hl; subst hl
    dsimp only [stp] at h
    split at h
    · rename_i y x S'
      obtain rfl := Option.some.inj h
      exact go_same X r N hk hn hL fun t g => XT.ishr X.here hx rfl hd rfl g
    · cases h
  | iushr =>
    have hl : len = 1 := hl; subst hl
    dsimp only [stp] at h
    split at h
    · rename_i y x S'
      obtain rfl := Option.some.inj h
      exact go_same X r N hk hn hL fun t g => XT.iushr X.here hx rfl hd rfl g
    · cases h
  | ladd =>
    have hl : len = 1 := hl; subst hl
    dsimp only [stp] at h
    split at h
    · rename_i y x S'
      obtain rfl := Option.some.inj h
      exact go_same X r N hk hn hL fun t g => XT.ladd X.here hx rfl hd rfl g
    · cases h
  | lsub =>
    have hl : len = 1 := hl; subst hl
    dsimp only [stp] at h
    split at h
    · rename_i y x S'
      obtain rfl := Option.some.inj h
      exact go_same X r N hk hn hL fun t g => XT.lsub X.here hx rfl hd rfl g
    · cases h
  | lmul =>
    have hl : len = 1 := hl; subst hl
    dsimp only [stp] at h
    split at h
    · rename_i y x S'
      obtain rfl := Option.some.inj h
      exact go_same X r N hk hn hL fun t g => XT.lmul X.here hx rfl hd rfl g
    · cases h
  | land =>
    have hl : len = 1 := hl; subst hl
    dsimp only [stp] at h
    split at h
    · rename_i y x S'
      obtain rfl := Option.some.inj h
      exact go_same X r N hk hn hL fun t g => XT.land X.here hx rfl hd rfl g
    · cases h
  | lor =>
    have hl : len = 1 := hl; subst hl
    dsimp only [stp] at h
    split at h
    · rename_i y x S'
      obtain rfl := Option.some.inj h
      exact go_same X r N hk hn hL fun t g => XT.lor X.here hx rfl hd rfl g
    · cases h
  | lxor =>
    have hl : len = 1 := hl; subst hl
    dsimp only [stp] at h
    split at h
    · rename_i y x S'
      obtain rfl := Option.some.inj h
      exact go_same X r N hk hn hL fun t g => XT.lxor X.here hx rfl hd rfl g
    · cases h
  | lshl =>
    have hl : len = 1 := hl; subst hl
    dsimp only [stp] at h
    split at h
    · rename_i y x S'
      obtain rfl := Option.some.inj h
      exact go_same X r N hk hn hL fun t g => XT.lshl X.here hx rfl hd rfl g
    · cases h
  | lshr =>
    have hl : len = 1 := hl; subst hl
    dsimp only [stp] at h
    split at h
    · rename_i y x S'
      obtain rfl := Option.some.inj h
      exact go_same X r N hk hn hL fun t g => XT.lshr X.here hx rfl hd rfl g
    · cases h
  | lushr =>
    have hl : len = 1 := hl; subst hl
    dsimp only [stp] at h
    split at h
    · rename_i y x S'
      obtain rfl := Option.some.inj h
      exact go_same X r N hk hn hL fun t g => XT.lushr X.here hx rfl hd rfl g
    · cases h
  | idiv =>
    have hl : len = 1 := hl; subst hl
    dsimp only [stp] at h
    split at h
    · rename_i y x S'
      split at h
      · cases h
      · rename_i g0
        obtain rfl := Option.some.inj h
        exact go_same X r N hk hn hL fun t g => XS.idiv X.here hx rfl hd rfl g0 g
    · cases h
  | irem =>
    have hl : len = 1 := hl; subst hl
    dsimp only [stp] at h
    split at h
    · rename_i y x S'
      split at h
      · cases h
      · rename_i g0
        obtain rfl := Option.some.inj h
        exact go_same X r N hk hn hL fun t g => iremM X hx rfl hd rfl g0 g
    · cases h
  | ldiv =>
    have hl : len = 1 := hl; subst hl
    dsimp only [stp] at h
    split at h
    · rename_i y x S'
      split at h
      · cases h
      · rename_i g0
        obtain rfl := Option.some.inj h
        exact go_same X r N hk hn hL fun t g => XT.ldiv X.here hx rfl hd rfl g0 g
    · cases h
  | lrem =>
    have hl : len = 1 := hl; subst hl
    dsimp only [stp] at h
    split at h
    · rename_i y x S'
      split at h
      · cases h
      · rename_i g0
        obtain rfl := Option.some.inj h
        exact go_same X r N hk hn hL fun t g => XT.lrem X.here hx rfl hd rfl g0 (by rw [lrem_mod]; exact g)
    · cases h
  | ineg =>
    have hl : len = 1 := hl; subst hl
    dsimp only [stp] at h
    split at h
    · rename_i x S'
      obtain rfl := Option.some.inj h
      exact go_same X r N hk hn hL fun t g => XS.ineg X.here hx rfl hd rfl g
    · cases h
  | lneg =>
    have hl : len = 1 := hl; subst hl
    dsimp only [stp] at h
    split at h
    · rename_i x S'
      obtain rfl := Option.some.inj h
      exact go_same X r N hk hn hL fun t g => XT.lneg X.here hx rfl hd rfl g
    · cases h
  | i2l =>
    have hl : len = 1 := hl; subst hl
    dsimp only [stp] at h
    split at h
    · rename_i x S'
      obtain rfl := Option.some.inj h
      exact go_same X r N hk hn hL fun t g => XT.i2l X.here hx rfl hd rfl g
    · cases h
  | l2i =>
    have hl : len = 1 := hl; subst hl
    dsimp only [stp] at h
    split at h
    · rename_i x S'
      obtain rfl := Option.some.inj h
      exact go_same X r N hk hn hL fun t g => XT.l2i X.here hx rfl hd rfl g
    · cases h
  | i2b =>
    have hl : len = 1 := hl; subst hl
    dsimp only [stp] at h
    split at h
    · rename_i x S'
      obtain rfl := Option.some.inj h
      exact go_same X r N hk hn hL fun t g => XT.i2b X.here hx rfl hd rfl g
    · cases h
  | lcmp =>
    have hl : len = 1 := hl; subst hl
    dsimp only [stp] at h
    split at h
    · rename_i y x S'
      obtain rfl := Option.some.inj h
      exact go_same X r N hk hn hL fun t g => XT.lcmp X.here hx rfl hd rfl g
    · cases h
  | dup =>
    have hl : len = 1 := hl; subst hl
    dsimp only [stp] at h
    split at h
    · rename_i v S'
      split at h
      · rename_i g0
        obtain rfl := Option.some.inj h
        exact go_same X r N hk hn hL fun t g => XS.dup X.here hx rfl hd rfl g0 g
      · cases h
    · cases h
  | pop =>
    have hl : len = 1 := hl; subst hl
    dsimp only [stp] at h
    split at h
    · rename_i v S'
      split at h
      · rename_i g0
        obtain rfl := Option.some.inj h
        exact go_same X r N hk hn hL fun t g => XT.pop X.here hx rfl hd rfl g0 g
      · cases h
    · cases h
  | dup2 =>
    have hl : len = 1 := hl; subst hl
    dsimp only [stp] at h
    split at h
    · rename_i x S'
      obtain rfl := Option.some.inj h
      exact go_same X r N hk hn hL fun t g => XT.dup2L X.here hx rfl hd rfl g
    · rename_i v w S' _
      split at h
      · rename_i g0
        obtain rfl := Option.some.inj h
        exact go_same X r N hk hn hL fun t g => XT.dup2 X.here hx rfl hd rfl g0.1 g0.2 g
      · cases h
    · cases h
  | goto o =>
    have hl : len = 3 := hl; subst hl
    obtain ⟨v, hv, rfl⟩ := Option.map_eq_some_iff.mp h
    obtain ⟨g1, g2⟩ := jmp_ok hv
    exact go_same X r N hk hn hL fun t g => XS.goto X.here hx rfl rfl hd g1 g2 g
  | ifCond cd o =>
    have hl : len = 3 := hl; subst hl
    dsimp only [stp] at h
    split at h
    · rename_i x S'
      split at h
      · rename_i g0
        obtain ⟨v, hv, rfl⟩ := Option.map_eq_some_iff.mp h
        obtain ⟨g1, g2⟩ := jmp_ok hv
        exact go_same X r N hk hn hL fun t g => XS.ifYes X.here hx rfl rfl hd rfl g0 g1 g2 g
      · rename_i g0
        obtain rfl := Option.some.inj h
        exact go_same X r N hk hn hL fun t g => XS.ifNo X.here hx rfl hd rfl (by simpa using g0) g
    · cases h
  | if_icmp cd o =>
    have hl : len = 3 := hl; subst hl
    dsimp only [stp] at h
    split at h
    · rename_i y x S'
      split at h
      · rename_i g0
        obtain ⟨v, hv, rfl⟩ := Option.map_eq_some_iff.mp h
        obtain ⟨g1, g2⟩ := jmp_ok hv
        exact go_same X r N hk hn hL fun t g => XS.icmpYes X.here hx rfl rfl hd rfl g0 g1 g2 g
      · rename_i g0
        obtain rfl := Option.some.inj h
        exact go_same X r N hk hn hL fun t g => XS.icmpNo X.here hx rfl hd rfl (by simpa using g0) g
    · cases h
  | tableswitch d lo hi os =>
    dsimp only [stp] at h
    split at h
    · rename_i x S'
      split at h
      · rename_i g0
        obtain ⟨v, hv, rfl⟩ := Option.map_eq_some_iff.mp h
        obtain ⟨g1, g2⟩ := jmp_ok hv
        exact go_same X r N hk hn hL fun t g => XS.tswOut X.here hx rfl rfl hd rfl g0 g1 g2 g
      · rename_i g0
        obtain ⟨o, ho1, h⟩ := Option.bind_eq_some_iff.mp h
        obtain ⟨v, hv, rfl⟩ := Option.map_eq_some_iff.mp h
        obtain ⟨g1, g2⟩ := jmp_ok hv
        exact go_same X r N hk hn hL fun t g => XS.tswIn X.here hx rfl rfl hd rfl g0 ho1 g1 g2 g
    · cases h
  | getfield i =>
    have hl : len = 3 := hl; subst hl
    dsimp only [stp] at h
    split at h
    · rename_i a S'
      split at h
      · rename_i g0
        obtain rfl := Option.some.inj h
        obtain ⟨T1, X1, e1, st1⟩ := getF X hx hZ hown (host := "") (Or.inl (hw _ ho.2)) Via.refl rfl ((r.obj g0).2 _ ho.1) (g := mkF mid pc L.toArray (.ref a :: S')) rfl rfl hd
        exact go_heap X1 r e1 N hk hn hL fun t g => st1 t g
      · cases h
    · cases h
  | putfield i =>
    have hl : len = 3 := hl; subst hl
    dsimp only [stp] at h
    split at h
    · rename_i v a S'
      split at h
      · rename_i g0
        obtain rfl := Option.some.inj h
        obtain ⟨o1, o2, o3⟩ := ho
        obtain ⟨w1, w2⟩ := isOw_ok g0.1
        obtain ⟨n1, n2⟩ := okv_ok g0.2
        have hlay : (Jvm.Cond.lays C C (fn aux.toNat).1 (fn aux.toNat).2).before a0 Z = true ∨ ((Jvm.Cond.laysFinal C C (fn aux.toNat).1 (fn aux.toNat).2).before a0 Z = true ∧ (nm m).cls = C ∧ meth.name = "<init>") := by
          rcases o3 with q | ⟨q1, q2⟩
          · exact Or.inl (hw _ q)
          · rcases (hG.2.2.1 _ o1).2 with q | q
            · exact Or.inl (hw _ q)
            · exact Or.inr ⟨hw _ q, q1, hnm.trans q2⟩
        obtain ⟨T1, h1, X1, e1, W1, st1⟩ := putF X hx hZ hown (host := "") (Or.inl (hw _ o2)) Via.refl rfl ((r.obj w1).2 _ o1) (r.obj w1).1 hlay (hw _ hG.1) (hG.2.2.1 _ o1).1 n1 n2 (g := mkF mid pc L.toArray (v :: .ref a :: S')) rfl rfl hd
        exact ⟨T1, _, X1, by rw [e1]; exact r.wrF hG hw w1 o1 W1, Fr.snoc X1 N (r.own w2), hk, hn, hL, st1⟩
      · cases h
    · cases h
  | iaload =>
    have hl : len = 1 := hl; subst hl
    dsimp only [stp] at h
    split at h
    · rename_i i a S'
      split at h
      · rename_i g0
        obtain rfl := Option.some.inj h
        obtain ⟨w1, w2, w3⟩ := inA_ok g0
        obtain ⟨b1, cl, b2, b3, b4⟩ := r.arr w1
        exact go_same X r N hk hn hL fun t g => X.iaload hx (g := mkF mid pc L.toArray (.int i :: .ref a :: S')) b2.1 (State.isArrayOf_alike hZ.alike b2.2.1) b2.2.2 (by rw [b3]; exact idx_not w2 w3) (b4 _ w3) rfl rfl hd t g
      · cases h
    · cases h
  | laload =>
    have hl : len = 1 := hl; subst hl
    dsimp only [stp] at h
    split at h
    · rename_i i a S'
      split at h
      · rename_i g0
        obtain rfl := Option.some.inj h
        obtain ⟨w1, w2, w3⟩ := inA_ok g0
        obtain ⟨b1, cl, b2, b3, b4⟩ := r.arr w1
        exact go_same X r N hk hn hL fun t g => X.laload hx (g := mkF mid pc L.toArray (.int i :: .ref a :: S')) b2.1 (State.isArrayOf_alike hZ.alike b2.2.1) b2.2.2 (by rw [b3]; exact idx_not w2 w3) (b4 _ w3) rfl rfl hd t g
      · cases h
    · cases h
  | baload =>
    have hl : len = 1 := hl; subst hl
    dsimp only [stp] at h
    split at h
    · rename_i i a S'
      split at h
      · rename_i g0
        obtain rfl := Option.some.inj h
        rcases g0 with g0 | g0
        · obtain ⟨w1, w2, w3⟩ := inA_ok g0
          obtain ⟨b1, cl, b2, b3, b4⟩ := r.arr w1
          exact go_same X r N hk hn hL fun t g => X.baloadBytes hx (g := mkF mid pc L.toArray (.int i :: .ref a :: S')) b2.1 (State.isArrayOf_alike hZ.alike b2.2.1) b2.2.2 (by rw [b3]; exact idx_not w2 w3) (b4 _ w3) rfl rfl hd t g
        · obtain ⟨w1, w2, w3⟩ := inA_ok g0
          obtain ⟨b1, cl, b2, b3, b4⟩ := r.arr w1
          exact go_same X r N hk hn hL fun t g => X.baloadBooleans hx (g := mkF mid pc L.toArray (.int i :: .ref a :: S')) b2.1 (State.isArrayOf_alike hZ.alike b2.2.1) b2.2.2 (by rw [b3]; exact idx_not w2 w3) (b4 _ w3) rfl rfl hd t g
      · cases h
    · cases h
  | iastore =>
    have hl : len = 1 := hl; subst hl
    dsimp only [stp] at h
    split at h
    · rename_i x i a S'
      split at h
      · rename_i g0
        obtain rfl := Option.some.inj h
        obtain ⟨g1, g2⟩ := inAw_ok g0
        obtain ⟨w1, w2, w3⟩ := inA_ok g1
        obtain ⟨b1, cl, b2, b3, b4⟩ := r.arr w1
        obtain ⟨T1, h1, X1, e1, W1, st1⟩ := stI X hx hZ rfl b2 (j := i) (x := x) (by rw [b3]; exact idx_not w2 w3) (g := mkF mid pc L.toArray (.int x :: .int i :: .ref a :: S')) rfl rfl hd
        exact ⟨T1, _, X1, by rw [e1]; exact r.wrA w1 w3 W1, Fr.snoc X1 N (r.own g2), hk, hn, hL, st1⟩
      · cases h
    · cases h
  | lastore =>
    have hl : len = 1 := hl; subst hl
    dsimp only [stp] at h
    split at h
    · rename_i x i a S'
      split at h
      · rename_i g0
        obtain rfl := Option.some.inj h
        obtain ⟨g1, g2⟩ := inAw_ok g0
        obtain ⟨w1, w2, w3⟩ := inA_ok g1
        obtain ⟨b1, cl, b2, b3, b4⟩ := r.arr w1
        obtain ⟨T1, h1, X1, e1, W1, st1⟩ := stJ X hx hZ rfl b2 (j := i) (x := x) (by rw [b3]; exact idx_not w2 w3) (g := mkF mid pc L.toArray (.long x :: .int i :: .ref a :: S')) rfl rfl hd
        exact ⟨T1, _, X1, by rw [e1]; exact r.wrA w1 w3 W1, Fr.snoc X1 N (r.own g2), hk, hn, hL, st1⟩
      · cases h
    · cases h
  | bastore =>
    have hl : len = 1 := hl; subst hl
    dsimp only [stp] at h
    split at h
    · rename_i x i a S'
      split at h
      · rename_i g0
        obtain rfl := Option.some.inj h
        rcases g0 with ⟨g0, gx⟩ | ⟨g0, gx⟩
        · obtain ⟨g1, g2⟩ := inAw_ok g0
          obtain ⟨w1, w2, w3⟩ := inA_ok g1
          obtain ⟨b1, cl, b2, b3, b4⟩ := r.arr w1
          have hx2 : nar .byte x = x := Value.int.inj (okv_ok gx).1
          obtain ⟨T1, h1, X1, e1, W1, st1⟩ := stB X hx hZ rfl b2 (j := i) (x := x) (by rw [b3]; exact idx_not w2 w3) (g := mkF mid pc L.toArray (.int x :: .int i :: .ref a :: S')) rfl rfl hd
          rw [hx2] at W1
          exact ⟨T1, _, X1, by rw [e1]; exact r.wrA w1 w3 W1, Fr.snoc X1 N (r.own g2), hk, hn, hL, st1⟩
        · obtain ⟨g1, g2⟩ := inAw_ok g0
          obtain ⟨w1, w2, w3⟩ := inA_ok g1
          obtain ⟨b1, cl, b2, b3, b4⟩ := r.arr w1
          have hx2 : nar .boolean x = x := Value.int.inj (okv_ok gx).1
          obtain ⟨T1, h1, X1, e1, W1, st1⟩ := stZ X hx hZ rfl b2 (j := i) (x := x) (by rw [b3]; exact idx_not w2 w3) (g := mkF mid pc L.toArray (.int x :: .int i :: .ref a :: S')) rfl rfl hd
          rw [hx2] at W1
          exact ⟨T1, _, X1, by rw [e1]; exact r.wrA w1 w3 W1, Fr.snoc X1 N (r.own g2), hk, hn, hL, st1⟩
      · cases h
    · cases h
  | arraylength =>
    have hl : len = 1 := hl; subst hl
    dsimp only [stp] at h
    split at h
    · rename_i a S'
      split at h
      · rename_i g0
        obtain rfl := Option.some.inj h
        obtain ⟨t0, w1⟩ : ∃ t0, (H.2 a).1 = .array t0 := by unfold isA at g0; cases hq : (H.2 a).1 <;> rw [hq] at g0 <;> first | (cases g0; done) | exact ⟨_, rfl⟩
        obtain ⟨b1, cl, b2, b3, b4⟩ := r.arr w1
        refine go_same X r N hk hn hL fun t g => X.arraylength hx (g := mkF mid pc L.toArray (.ref a :: S')) b2.1 (State.isArrayOf_alike hZ.alike b2.2.1) rfl rfl hd t ?_
        rw [b3]; exact g
      · cases h
    · cases h
  | newarray t =>
    have hl : len = 2 := hl; subst hl
    dsimp only [stp] at h
    split at h
    · rename_i cnt S'
      split at h
      · rename_i g0
        obtain rfl := Option.some.inj h
        obtain ⟨z1, z2, z3, z4⟩ := g0
        have hcb : componentBytes (newarray.typeOf t) ≤ 8 := by cases t <;> decide
        obtain ⟨cA, kA, comp, h1, h2, h3, X1, st1⟩ := X.newarrayPrim hx (mvA hZ (hw _ ho)) (g := mkF mid pc L.toArray (.int cnt :: S')) rfl hd rfl z1 (Nat.le_trans (Nat.mul_le_mul_left _ hcb) z2) z3 z4
        refine ⟨_, locs, X1, ?_, N, z3, z4, hL, fun t g => st1 t (by rw [r.1]; exact g)⟩
        exact r.ext (ext_push _ _) (by show (T.heap.push _).size = _; simp) ⟨fun _ => by rw [r.1]; exact r.2.1, (back32 z1).2, _, made_arr hZ h1 h2 h3, by simp, fun i hi => by simp [hi]⟩
      · cases h
    · cases h
  | new i =>
    have hl : len = 3 := hl; subst hl
    dsimp only [stp] at h
    split at h
    · rename_i g0
      obtain rfl := Option.some.inj h
      obtain ⟨z1, z2, z3⟩ := g0
      rw [ho.1] at z3 ⊢
      obtain ⟨vm1, cC, kC, h1, h2, h3, h4, X1, st1⟩ := X.newCold hx hown (mv hZ (hw _ ho.2)) (mv hZ (hw _ hG.1)) (mv hZ (hw _ hG.2.1)) (g := mkF mid pc L.toArray S) rfl hd z2 z3
      obtain ⟨A1, D1⟩ := made_obj (h := T.heap) (a0 := a0) hZ h1 h2
      refine ⟨_, locs, X1, ?_, N, z2, z3, hL, fun t g => st1 t (by rw [r.1]; exact g)⟩
      exact r.ext (ext_push _ _) (by show (T.heap.push _).size = _; simp) ⟨fun _ => by rw [r.1]; exact r.2.1, A1, fun j hj => D1 (((hG.2.2.1 j hj).2).imp (hw _) (hw _)) (hG.2.2.1 j hj).1⟩
    · cases h
  | invokespecial i =>
    have hl : len = 3 := hl; subst hl
    dsimp only [stp] at h
    split at h
    · rename_i a S'
      split at h
      · rename_i g0
        obtain rfl := Option.some.inj h
        obtain ⟨rfl, z2, z3⟩ := g0
        obtain ⟨o1, o2, o3⟩ := ho.1 rfl
        obtain ⟨T1, X1, e1, st1⟩ := initO X hx hZ hown (hw _ o1) (hw _ o2) (hw _ o3) rfl (g := mkF mid pc L.toArray (.ref a :: S')) rfl (by rw [hml, ← hL]; simp) rfl hd z2 (W := cs S') (by show 2 * 0 + _ ≤ _; exact Nat.le_of_eq (Nat.zero_add _)) z3
        exact go_heap X1 r e1 N hk hn hL fun t g => st1 t g
      · cases h
    · cases h
  | _ => exact absurd (show (none : Option Fm) = some q from h) (by simp)
end Step
end Jvm.JX

namespace Jvm.JX
open Sem ClassFile Op Lib Jvm.Stand Jvm.Free Jvm.LawKit Jvm.RoadKit
section Sound
variable {P : Prog} {tb : List Jvm.Cond} {C : String} {fn : Nat → String × String} {F : List Nat} {nsl : Nat} {nm : Nat → MethodName} {bt : Nat → ByteArray} {R : List Nat} {top : Nat}
variable {l : Launch} {Z : State} {a0 : Array Value} {n0 : Nat}
def Endd (C : String) (fn : Nat → String × String) (F : List Nat) (Z : State) (n0 : Nat) (p : Program) (l : Launch) (e : Env) (Rm : Jvm.Room) (s : State) (mid : MethodId) (args : Array Value) (below : List Frame) (meth : Method) (c : Code) (rt0 : Option FieldType) (start : State) (v : Option Value) (H' : AH) : Prop :=
  ∃ T' locs' k' n', Stand p l e Rm s mid args below meth c T' locs' k' n' ∧ RelH C fn F Z n0 T'.heap H' ∧ Fr n0 locs' ∧ k' ≤ Rm.cells ∧ n' ≤ Rm.slots ∧ (rt0 = none → v = none) ∧
    ∀ fs, (∀ (f : JFrame) (acts : List Action), f.method = mid → f.locked = none → f.entered = [] → (doReturn e (T'.setTop f) acts v).1 = T'.setFrames fs) → Steps p.tables e below start (T'.setFrames fs)
def Says (P : Prog) (C : String) (fn : Nat → String × String) (F : List Nat) (nm : Nat → MethodName) (bt : Nat → ByteArray) (l : Launch) (Z : State) (n0 m pc : Nat) (L : List Slot) (S : List Value) (k n : Nat) (H : AH) (v : Option Value) (H' : AH) : Prop :=
  ∀ (p : Program) (e : Env) (s : State) (mid : MethodId) (args : Array Value) (below : List Frame) (meth : Method) (c : Code) (T : State) (locs : List Loc), Stand p l e (rm P m) s mid args below meth c T locs k n → p.tables.exec = Jvm.exec → Z.Warmed39 s.vm → c.code = bt m → c.maxLocals = ml P m →
    s.vm.findClass (nm m).cls = some mid.cls → meth.name = (nm m).name → meth.sig.returnType = rt P m → L.length = ml P m → RelH C fn F Z n0 T.heap H → Fr n0 locs → k ≤ (rm P m).cells → n ≤ (rm P m).slots →
    Endd C fn F Z n0 p l e (rm P m) s mid args below meth c (rt P m) (T.setTop (mkF mid pc L.toArray S)) v H'
theorem Endd.back {p : Program} {e : Env} {Rm : Jvm.Room} {s : State} {mid : MethodId} {args : Array Value} {below : List Frame} {meth : Method} {c : Code} {rt0 : Option FieldType} {start start' : State} {v : Option Value} {H' : AH}
    (h : Endd C fn F Z n0 p l e Rm s mid args below meth c rt0 start' v H') (st : ∀ t, Steps p.tables e below start' t → Steps p.tables e below start t) : Endd C fn F Z n0 p l e Rm s mid args below meth c rt0 start v H' := by
  obtain ⟨T', locs', k', n', h1, h2, h3, h4, h5, h6, h7⟩ := h
  exact ⟨T', locs', k', n', h1, h2, h3, h4, h5, h6, fun fs g => st _ (h7 fs g)⟩
theorem met_of {m : Nat} {as : List Value} {H H' : AH} {v : Option Value} {h : Heap} (ws : List Jvm.Cond) (hp : plainName (nm m).cls = true) (hl : (Sym.laidSlots as).length ≤ ml P m) (r : RelH C fn F Z n0 h H)
    (hS : Says P C fn F nm bt l Z n0 m 0 (ent P m as) [] 0 0 H v H') :
    MetFree l (nm m) (head1 (Jvm.Cond.code (nm m) (bt m) (ml P m) (rt P m) :: ws) (rm P m)) (fun a U => a = as.toArray ∧ Z.Warmed39 U.vm ∧ U.heap = h) (fun _ _ _ _ _ => True)
      (fun _ U o U' => ∃ v' L, o = .returned v' ∧ (v' = v ∧ Fr n0 L ∧ RelH C fn F Z n0 U'.heap H') ∧ FrameEnd U o U' L (rm P m).cells (rm P m).slots) := by
  refine MetFree.of_bodySF (plainFor_of_name hp) hisR ?_
  intro p e s mid args below meth c s₁ Bd hml0 hP hK
  obtain ⟨rfl, hZ, hh⟩ := hP
  have X0 : Stand p l e (rm P m) s mid as.toArray below meth c s₁ [] 0 0 := Stand.of_body Bd
  have e0 : s₁.heap = h := by rw [← hh, Bd.state]; rfl
  have hle : (ent P m as).length = ml P m := by simp [ent]; omega
  obtain ⟨T', locs', k', n', X1, r1, N1, hk1, hn1, hv1, st1⟩ := hS p e s mid as.toArray below meth c s₁ [] X0 Bd.exec hZ Bd.bytes hml0 (findClass_of_methodNamed Bd.named) (name_of_methodNamed Bd.named Bd.method).1 Bd.returns hle (by rw [e0]; exact r) (Fr.nil n0) (Nat.zero_le _) (Nat.zero_le _)
  obtain ⟨fs, hr, hrun, hended, hW, hsame⟩ := X1.leave (v := v) (fun q => hv1 (Bd.returns.symm.trans q))
  refine ⟨_, _, (Jvm.Free.XT.entry (Ls := (ent P m as).toArray) (by simp [ent])).trans (st1 fs hr), hrun, hended, v, locs', rfl, ⟨rfl, N1, r1⟩, ⟨_, rfl⟩, hW, hsame.mono hk1 hn1⟩
theorem ret_ok {m : Nat} {ins : Instr} {S : List Value} {v : Option Value} (h : ret P m ins S = some v) : (rt P m = none ∧ v = none ∧ ins = .return_ ∧ S = []) ∨ ∃ t w rest, rt P m = some t ∧ v = some w ∧ S = w :: rest ∧ narrow t w = w ∧
    ((ins = .ireturn ∧ (t = .int ∨ t = .boolean ∨ t = .byte ∨ t = .char ∨ t = .short) ∧ ∃ z, w = .int z) ∨ (ins = .lreturn ∧ t = .long ∧ ∃ z, w = .long z)) := by
  unfold ret at h
  split at h
  · split at h
    · rename_i g; cases h; exact Or.inl ⟨g.1, rfl, rfl, g.2⟩
    · cases h
  · split at h
    · rename_i z rest g; cases h; exact Or.inr ⟨.int, _, rest, g, rfl, rfl, rfl, Or.inl ⟨rfl, Or.inl rfl, z, rfl⟩⟩
    · rename_i z rest g
      split at h
      · rename_i g0
        cases h
        refine Or.inr ⟨.boolean, _, rest, g, rfl, rfl, ?_, Or.inl ⟨rfl, Or.inr (Or.inl rfl), z, rfl⟩⟩
        rcases g0 with rfl | rfl <;> rfl
      · cases h
    · cases h
  · split at h
    · rename_i z rest g; cases h; exact Or.inr ⟨.long, _, rest, g, rfl, rfl, rfl, Or.inr ⟨rfl, rfl, z, rfl⟩⟩
    · cases h
  · cases h
theorem cal_ok {m m' k n : Nat} {ins : Instr} {aux : Int} {S a r : List Value} {H : AH} (h : cal P m ins aux S k n H = some (m', a, r)) : aux = (m' : Int) ∧ kindOk ins (kd P m') = true ∧ may P m m' a r k n H = true ∧ S = a.reverse ++ r := by
  have h1 : cal1 P m ins aux S k n H = some (m', a, r) := by
    unfold cal at h
    split at h <;> first | exact h | (cases h)
  unfold cal1 at h1
  split at h1
  · rename_i g
    cases h1
    exact ⟨by omega, g.2.1, g.2.2, by rw [List.reverse_reverse]; exact (List.take_append_drop ..).symm⟩
  · cases h1
end Sound
end Jvm.JX

namespace Jvm.JX
open Sem ClassFile Op Lib Jvm.Stand Jvm.Free Jvm.LawKit Jvm.RoadKit
section Sound
variable {P : Prog} {tb : List Jvm.Cond} {C : String} {fn : Nat → String × String} {F : List Nat} {nsl : Nat} {nm : Nat → MethodName} {bt : Nat → ByteArray} {R : List Nat} {top : Nat}
variable {l : Launch} {Z : State} {a0 : Array Value} {n0 : Nat}
theorem may_ok {m m' k n : Nat} {a r : List Value} {H : AH} (h : may P m m' a r k n H = true) : (Sym.laidSlots a).length ≤ ml P m' ∧ a.length = na P m' ∧ (rm P m').frames + 1 ≤ (rm P m).frames ∧ cs r + (ml P m' + 11) + (rm P m').locals ≤ (rm P m).locals ∧
    (((rm P m').cells = 0 ∧ (rm P m').slots = 0) ∨ (k + (rm P m').cells ≤ (rm P m).cells ∧ n + (rm P m').slots ≤ (rm P m).slots)) ∧ (kd P m' = 0 ∨ rcv H a = true) := by
  simpa [may, and_assoc] using h
theorem rcv_ok {H : AH} {a : List Value} (h : rcv H a = true) : ∃ b as, a = .ref b :: as ∧ isO H b = true := by
  unfold rcv at h
  split at h
  · exact ⟨_, _, rfl, h⟩
  · cases h
set_option maxHeartbeats 1000000 in
theorem call_go {m pc len k n m' : Nat} {aux : Int} {L : List Slot} {S a r : List Value} {H H1 : AH} {ins : Instr} {v1 : Option Value} {p : Program} {e : Env} {s : State} {mid : MethodId} {args : Array Value} {below : List Frame} {meth : Method} {c : Code} {T : State} {locs : List Loc}
    (hG : Good P tb C fn F nsl nm bt R top) (hw : ∀ d ∈ tb, d.before a0 Z = true) (hm : m ∈ R) (hrow : P.1 m pc = some (ins, len, aux)) (hc : cal P m ins aux S k n H = some (m', a, r)) (hS : m' ∈ R → Says P C fn F nm bt l Z n0 m' 0 (ent P m' a) [] 0 0 H v1 H1)
    (X : Stand p l e (rm P m) s mid args below meth c T locs k n) (hx : p.tables.exec = Jvm.exec) (hZ : Z.Warmed39 s.vm)
    (hby : c.code = bt m) (hml : c.maxLocals = ml P m) (hown : s.vm.findClass (nm m).cls = some mid.cls) (hL : L.length = ml P m) (rr : RelH C fn F Z n0 T.heap H) (N : Fr n0 locs) (hk : k ≤ (rm P m).cells) (hn : n ≤ (rm P m).slots) :
    Go C fn F Z n0 p l e (rm P m) s mid args below meth c (T.setTop (mkF mid pc L.toArray S)) (ml P m) (pc + len, L, v1.toList ++ r, k + (rm P m').cells, n + (rm P m').slots, H1) := by
  obtain ⟨hd, hl, ho⟩ := (hG.2.2.2.2.1 m hm).2.2 pc ins len aux hrow
  replace hd := hb hby hd
  obtain ⟨e1, e2, e3, e4⟩ := cal_ok hc
  obtain ⟨y1, y2, y3, y4, y5, y6⟩ := may_ok e3
  have hnt : m' ≠ top := fun q => by
    have := hG.2.2.2.2.2.2 m hm pc ins len aux hrow (by rw [e1, q])
    rw [q, this] at e2; cases e2
  have y5' : k + (rm P m').cells ≤ (rm P m).cells ∧ n + (rm P m').slots ≤ (rm P m).slots := by rcases y5 with ⟨q1, q2⟩ | q <;> omega
  have hsize : (mkF mid pc L.toArray S).locals.size = c.maxLocals := by rw [hml, ← hL]; simp
  have hcs : 2 * (mkF mid pc L.toArray S).monitorRoom + (r.map fun v => v.category).sum ≤ cs r := by show 2 * 0 + _ ≤ _; exact Nat.le_of_eq (Nat.zero_add _)
  subst e1
  cases ins with
  | invokevirtual ix =>
    have hl : len = 3 := hl
    subst hl
    obtain ⟨mR, lnk⟩ := ho
    rw [Int.toNat_natCast] at mR lnk
    obtain ⟨c1, c2, ⟨ps, rr0, c3, c4⟩, c5, c6, c7, c8, c9⟩ := hG.2.2.2.2.2.1 m' mR hnt
    have hk0 : kd P m' ≠ 0 := fun q => by rw [q] at e2; cases e2
    obtain ⟨hcls, hinst⟩ := c6 hk0
    obtain ⟨b, as, rfl, hb⟩ := rcv_ok (y6.resolve_left hk0)
    obtain ⟨Eb, -⟩ := rr.obj hb
    have hlen : as.length = ps.length := by rw [if_neg hk0] at c4; simp only [List.length_cons] at y2; omega
    have eS : S = as.reverse ++ .ref b :: r := by rw [e4]; simp
    subst eS
    obtain ⟨pn, hy, -⟩ := hG.2.2.2.2.1 m' mR
    have BK := backOf (Q := fun v' h' L' => v' = v1 ∧ Fr n0 L' ∧ RelH C fn F Z n0 h' H1) (R := rm P m) (W := cs r) (p := p) (e := e) (below := below) (s := s) (args := args) (len := 3) (met_of [] pn y1 rr (hS mR)) hZ (hw _ c1) (hw _ c2) y3 y4
    have hkk : kd P m' = 1 ∨ kd P m' = 2 := by simpa [kindOk] using e2
    rcases hkk with hkk | hkk
    · obtain ⟨d1, d2⟩ := c7 hkk
      obtain ⟨cB, kB, q1, q2, q3⟩ := isOf (T := T) hZ rfl Eb
      obtain ⟨v, vm1, ⟨T1, L1, k1, n1⟩, -, X1, ⟨Lc, hQ, l1, z1, z2⟩, st⟩ := X.virtualBack hx (y := nm m') (z := nm m') hown (mvT hZ (hw _ lnk)) (mvT hZ (hw _ d1)) (notFace_of_selects (args := #[]) (mvT hZ (hw _ d2))) (mvT hZ (hw _ d2)) (mvT hZ (hw _ hinst)) hy BK q1 q3 (g := mkF mid pc L.toArray (as.reverse ++ .ref b :: r)) rfl hsize (Steps.refl _) (argsL := as) (rest := r) (lenOf c3 hlen) rfl hcs hd (fun _ _ => ⟨rfl, rfl, y5'.1, y5'.2⟩)
      dsimp only [Pt.U, Pt.locs, Pt.cells, Pt.slots] at X1 l1 z1 z2 st hQ
      subst l1 z1 z2
      obtain ⟨rfl, N1, r1⟩ := hQ
      exact ⟨T1, _, X1, r1, Fr.app N N1, y5'.1, y5'.2, hL, fun t g => st.trans g⟩
    · obtain ⟨ci, ki, i1, i2, i3, i4, -⟩ := Cond.instantiable_spec (show (Jvm.Cond.instantiable C nsl).before args s = true from mv hZ (hw _ hG.1))
      have hni : ki.isInterface = false := (Bool.or_eq_false_iff.mp i4).1
      have hpriv := Cond.privateMethod_at (mvP hZ (hw _ (c8 hkk)) (args := #[]))
      have hsel : (Jvm.Cond.selects (nm m').cls (nm m') (nm m')).before args s = true := selects_self_of_private (by rw [hcls]; exact i1) i2 hni hpriv (mvT hZ (hw _ hinst)) hy
      obtain ⟨cl, hcl, hcl'⟩ := Eb.cell
      obtain ⟨v, vm1, ⟨T1, L1, k1, n1⟩, -, X1, ⟨Lc, hQ, l1, z1, z2⟩, st⟩ := X.privateBack hx (y := nm m') hown (mvT hZ (hw _ lnk)) (mvT hZ (hw _ hinst)) hsel hpriv (mvT hZ (hw _ c1)) hy BK (g := mkF mid pc L.toArray (as.reverse ++ .ref b :: r)) rfl hsize (Steps.refl _) (a := b) hcl hcl' (argsL := as) (rest := r) (lenOf c3 hlen) rfl hcs hd (fun _ _ => ⟨rfl, rfl, y5'.1, y5'.2⟩)
      dsimp only [Pt.U, Pt.locs, Pt.cells, Pt.slots] at X1 l1 z1 z2 st hQ
      subst l1 z1 z2
      obtain ⟨rfl, N1, r1⟩ := hQ
      exact ⟨T1, _, X1, r1, Fr.app N N1, y5'.1, y5'.2, hL, fun t g => st.trans g⟩
  | invokestatic ix =>
    have hl : len = 3 := hl
    subst hl
    obtain ⟨mR, lnk⟩ := ho
    rw [Int.toNat_natCast] at mR lnk
    obtain ⟨c1, c2, ⟨ps, rr0, c3, c4⟩, c5, c6, c7, c8, c9⟩ := hG.2.2.2.2.2.1 m' mR hnt
    have hk0 : kd P m' = 0 := by simpa [kindOk] using e2
    have hlen : a.length = ps.length := by rw [if_pos hk0] at c4; omega
    subst e4
    obtain ⟨pn, hy, -⟩ := hG.2.2.2.2.1 m' mR
    have BK := backOf (Q := fun v' h' L' => v' = v1 ∧ Fr n0 L' ∧ RelH C fn F Z n0 h' H1) (R := rm P m) (W := cs r) (p := p) (e := e) (below := below) (s := s) (args := args) (len := 3) (met_of [] pn y1 rr (hS mR)) hZ (hw _ c1) (hw _ c2) y3 y4
    obtain ⟨v, vm1, ⟨T1, L1, k1, n1⟩, -, X1, ⟨Lc, hQ, l1, z1, z2⟩, st⟩ := Jvm.LawKit.callS X hx (y := nm m') hown (mvT hZ (hw _ lnk)) (mvT hZ (hw _ (c5 hk0))) (mvT hZ (hw _ c2)) (mvT hZ (hw _ c1)) hy BK (g := mkF mid pc L.toArray (a.reverse ++ r)) rfl hsize (argsL := a) (rest := r) (lenOf c3 hlen) rfl hcs hd (fun _ _ => ⟨rfl, rfl, y5'.1, y5'.2⟩)
    dsimp only [Pt.U, Pt.locs, Pt.cells, Pt.slots] at X1 l1 z1 z2 st hQ
    subst l1 z1 z2
    obtain ⟨rfl, N1, r1⟩ := hQ
    exact ⟨T1, _, X1, r1, Fr.app N N1, y5'.1, y5'.2, hL, fun t g => st t g⟩
  | invokespecial ix =>
    have hl : len = 3 := hl
    subst hl
    obtain ⟨mR, lnk⟩ := ho.2 (by omega)
    rw [Int.toNat_natCast] at mR lnk
    obtain ⟨c1, c2, ⟨ps, rr0, c3, c4⟩, c5, c6, c7, c8, c9⟩ := hG.2.2.2.2.2.1 m' mR hnt
    have hk3 : kd P m' = 3 := by simpa [kindOk] using e2
    have hk0 : kd P m' ≠ 0 := by omega
    obtain ⟨hcls, hinst⟩ := c6 hk0
    obtain ⟨hn3, hr3⟩ := c9 hk3
    obtain ⟨b, as, rfl, hb⟩ := rcv_ok (y6.resolve_left hk0)
    have hlen : as.length = ps.length := by rw [if_neg hk0] at c4; simp only [List.length_cons] at y2; omega
    have eS : S = as.reverse ++ .ref b :: r := by rw [e4]; simp
    subst eS
    obtain ⟨pn, hy, -⟩ := hG.2.2.2.2.1 m' mR
    have BK := backOf (Q := fun v' h' L' => v' = v1 ∧ Fr n0 L' ∧ RelH C fn F Z n0 h' H1) (R := rm P m) (W := cs r) (p := p) (e := e) (below := below) (s := s) (args := args) (len := 3) (met_of [] pn y1 rr (hS mR)) hZ (hw _ c1) (hw _ c2) y3 y4
    rw [hr3] at c1
    obtain ⟨v, vm1, ⟨T1, L1, k1, n1⟩, -, X1, ⟨Lc, hQ, l1, z1, z2⟩, st⟩ := X.specialBack hx (y := nm m') hn3 hown (mvT hZ (hw _ lnk)) (mvT hZ (hw _ hinst)) (mvT hZ (hw _ c1)) hy BK (g := mkF mid pc L.toArray (as.reverse ++ .ref b :: r)) rfl hsize (Steps.refl _) (a := b) (argsL := as) (rest := r) (lenOf c3 hlen) rfl hcs hd (fun _ _ => ⟨rfl, rfl, y5'.1, y5'.2⟩)
    dsimp only [Pt.U, Pt.locs, Pt.cells, Pt.slots] at X1 l1 z1 z2 st hQ
    subst l1 z1 z2
    obtain ⟨rfl, N1, r1⟩ := hQ
    exact ⟨T1, _, X1, r1, Fr.app N N1, y5'.1, y5'.2, hL, fun t g => st.trans g⟩
  | _ => cases e2
theorem sound (hG : Good P tb C fn F nsl nm bt R top) (hw : ∀ d ∈ tb, d.before a0 Z = true) : ∀ (f m : Nat), m ∈ R → ∀ (pc : Nat) (L : List Slot) (S : List Value) (k n : Nat) (H : AH) (v : Option Value) (H' : AH), run P f m pc L S k n H = some (v, H') → Says P C fn F nm bt l Z n0 m pc L S k n H v H' := by
  intro f
  induction f with
  | zero => intro m _ pc L S k n H v H' h; cases h
  | succ f ih =>
    intro m hm pc L S k n H v H' h p e s mid args below meth c T locs X hx hZ hby hml hown hnm hret hL r N hk hn
    rw [run_succ] at h
    cases hd : P.1 m pc with
    | none => rw [hd] at h; cases h
    | some d =>
      obtain ⟨ins, len, aux⟩ := d
      rw [hd] at h
      simp only at h
      cases hr : ret P m ins S with
      | some v1 =>
        rw [hr] at h
        cases h
        obtain ⟨hdec, hl, -⟩ := (hG.2.2.2.2.1 m hm).2.2 pc ins len aux hd
        replace hdec := hb hby hdec
        rcases ret_ok hr with ⟨q1, rfl, rfl, q0⟩ | ⟨t, w, rest, q1, rfl, rfl, q4, q5⟩
        · have hl : len = 1 := hl
          subst hl
          exact ⟨T, locs, k, n, X, r, N, hk, hn, fun _ => rfl, fun fs g => by subst q0; exact X.returnOut hx (hret.trans q1) hdec g⟩
        · refine ⟨T, locs, k, n, X, r, N, hk, hn, fun q => absurd (q1.symm.trans q) (by simp), fun fs g => ?_⟩
          have hl1 : len = 1 := by
            rcases q5 with ⟨rfl, -⟩ | ⟨rfl, -⟩ <;> exact hl
          subst hl1
          exact retOut X hx (hret.trans q1) q4 (q5.elim (fun u => Or.inl u) (fun u => Or.inr (Or.inl u))) hdec g
      | none =>
        rw [hr] at h
        simp only at h
        cases hc : cal P m ins aux S k n H with
        | some cc =>
          obtain ⟨m', a, rs⟩ := cc
          rw [hc] at h
          simp only at h
          cases hq : run P f m' 0 (ent P m' a) [] 0 0 H with
          | none => rw [hq] at h; cases h
          | some q =>
            obtain ⟨v1, H1⟩ := q
            rw [hq] at h
            obtain ⟨T1, locs1, X1, r1, N1, hk1, hn1, hL1, st⟩ := call_go hG hw hm hd hc (fun mR => ih m' mR _ _ _ _ _ _ _ _ hq) X hx hZ hby hml hown hL r N hk hn
            exact (ih m hm _ _ _ _ _ _ _ _ h p e s mid args below meth c T1 locs1 X1 hx hZ hby hml hown hnm hret hL1 r1 N1 hk1 hn1).back st
        | none =>
          rw [hc] at h
          simp only at h
          cases hs : stp P m ins len aux pc L S k n H with
          | none => rw [hs] at h; cases h
          | some q =>
            rw [hs] at h
            obtain ⟨T1, locs1, X1, r1, N1, hk1, hn1, hL1, st⟩ := stp_go hG hw hm hd hs X hx hZ hby hml hown hnm hL r N hk hn
            exact (ih m hm _ _ _ _ _ _ _ _ h p e s mid args below meth c T1 locs1 X1 hx hZ hby hml hown hnm hret hL1 r1 N1 hk1 hn1).back st
theorem law_met (hG : Good P tb C fn F nsl nm bt R top) (hw : ∀ d ∈ tb, d.before a0 Z = true) {as : List Value} {H : AH} {h : Heap} {Q : Option Value → AH → Prop} (ws : List Jvm.Cond) (ht : top ∈ R) (hl : (Sym.laidSlots as).length ≤ ml P top) (r : RelH C fn F Z n0 h H) (hC : Cl P top as H Q) :
    MetFree l (nm top) (head1 (Jvm.Cond.code (nm top) (bt top) (ml P top) (rt P top) :: ws) (rm P top)) (fun a U => a = as.toArray ∧ Z.Warmed39 U.vm ∧ U.heap = h) (fun _ _ _ _ _ => True)
      (fun _ U o U' => ∃ v' L, o = .returned v' ∧ (Fr n0 L ∧ ∃ H', Q v' H') ∧ FrameEnd U o U' L (rm P top).cells (rm P top).slots) := by
  obtain ⟨f, v, H', h1, h2⟩ := hC
  have hM := met_of (l := l) (h := h) ws (hG.2.2.2.2.1 top ht).1 hl r (sound hG hw f top ht _ _ _ _ _ _ _ _ h1)
  intro p e ha hc hk s m args below hf happ hP hK
  obtain ⟨n, o, q1, q2, q3, v', L, q4, ⟨q5, q6, q7⟩, q8⟩ := hM p e ha hc hk s m args below hf happ hP hK
  exact ⟨n, o, q1, q2, q3, v', L, q4, ⟨q6, H', by rw [q5]; exact h2⟩, q8⟩
end Sound
end Jvm.JX
namespace Jvm.JX
open Sem ClassFile Op Lib Jvm.Stand Jvm.Free Jvm.LawKit Jvm.RoadKit
theorem fa0 {α : Type} {p : α → Prop} : ∀ x ∈ ([] : List α), p x := fun _ q => nomatch q
theorem faS {α : Type} {p : α → Prop} {y : α} {L : List α} (q : p y) (r : ∀ x ∈ L, p x) : ∀ x ∈ y :: L, p x := fun x z => (List.mem_cons.mp z).elim (fun u => u ▸ q) (r x)
def rowChk (FL ML : List (Nat × Nat × Nat)) (KI KJ : List (Nat × Nat × Int)) (AT : List FieldType) (WF : List Nat) (nsl nw : Nat) (own : Nat) (ini : Bool) (ins : Instr) (aux : Int) : Bool :=
  match ins with
  | .getfield i => FL.contains (own, i, aux.toNat)
  | .putfield i => FL.contains (own, i, aux.toNat) && (WF.contains aux.toNat || ini)
  | .new i => decide (aux.toNat = nsl) && decide (own = 1) && decide (i = nw)
  | .newarray t => decide (newarray.typeOf t ∈ AT)
  | .ldc i => KI.contains (own, i, aux)
  | .ldc2_w i => KJ.contains (own, i, aux)
  | .invokevirtual i => ML.contains (own, i, aux.toNat)
  | .invokestatic i => ML.contains (own, i, aux.toNat)
  | .invokespecial i => if aux = -1 then decide (own = 0) && decide (i = 1) else ML.contains (own, i, aux.toNat)
  | _ => true
def rowOne (FL ML : List (Nat × Nat × Nat)) (KI KJ : List (Nat × Nat × Int)) (AT : List FieldType) (WF : List Nat) (nsl nw : Nat) (bt : Nat → ByteArray) (own : Nat → Nat) (ini : Nat → Bool) (m : Nat) (r : Row) : Bool :=
  decide (decode (bt m) r.1 = .ok (r.2.1, r.2.2.1)) && decide (r.2.2.1 = ilen2 r.2.1 r.2.2.1) && rowChk FL ML KI KJ AT WF nsl nw (own m) (ini m) r.2.1 r.2.2.2
theorem lookup_mem {L : List Row} {pc : Nat} {d : Instr × Nat × Int} (h : L.lookup pc = some d) : (pc, d) ∈ L := by
  induction L with
  | nil => cases h
  | cons x L ih =>
    obtain ⟨k, v⟩ := x
    rw [List.lookup_cons] at h
    by_cases e : pc = k
    · subst e; simp at h; subst h; exact List.mem_cons_self ..
    · have : (pc == k) = false := by simpa using e
      rw [this] at h; exact List.mem_cons_of_mem _ (ih h)
theorem row_ok {P : Prog} {tb : List Jvm.Cond} {C : String} {fn : Nat → String × String} {F : List Nat} {nsl nw : Nat} {nm : Nat → MethodName} {R : List Nat} {cn : Nat → String} {own : Nat → Nat} {ini : Nat → Bool}
    {FL ML : List (Nat × Nat × Nat)} {KI KJ : List (Nat × Nat × Int)} {AT : List FieldType} {WF : List Nat} {m : Nat} {ins : Instr} {aux : Int}
    (hown : (nm m).cls = cn (own m)) (hini : ini m = true → (nm m).cls = C ∧ (nm m).name = "<init>")
    (hFL : ∀ t ∈ FL, t.2.2 ∈ F ∧ Jvm.Cond.fieldLink (cn t.1) t.2.1 C (fn t.2.2).1 (fn t.2.2).2 ∈ tb) (hWF : ∀ k ∈ WF, Jvm.Cond.lays C C (fn k).1 (fn k).2 ∈ tb)
    (hML : ∀ t ∈ ML, t.2.2 ∈ R ∧ Jvm.Cond.methodLink (cn t.1) t.2.1 (nm t.2.2) ∈ tb) (hKI : ∀ t ∈ KI, Jvm.Cond.constant (cn t.1) t.2.1 (Int32.ofInt t.2.2) ∈ tb) (hKJ : ∀ t ∈ KJ, Jvm.Cond.constantLong (cn t.1) t.2.1 (Int64.ofInt t.2.2) ∈ tb)
    (hAT : ∀ t ∈ AT, Jvm.Cond.arrayClass t ∈ tb) (hN : Jvm.Cond.classLink (cn 1) nw C ∈ tb)
    (hO : Jvm.Cond.methodLink (cn 0) 1 Lib.objectInit ∈ tb ∧ Jvm.Cond.instanceMethod Lib.objectInit ∈ tb ∧ Jvm.Cond.code Lib.objectInit ⟨#[0xb1]⟩ 1 none ∈ tb)
    (h : rowChk FL ML KI KJ AT WF nsl nw (own m) (ini m) ins aux = true) : RowOk P tb C fn F nsl nm R m ins aux := by
  cases ins <;> first | trivial | skip
  case getfield i => have q := hFL _ (List.contains_iff_mem.mp h); exact ⟨q.1, by rw [hown]; exact q.2⟩
  case putfield i =>
    simp only [rowChk, Bool.and_eq_true, Bool.or_eq_true] at h
    have q := hFL _ (List.contains_iff_mem.mp h.1)
    exact ⟨q.1, by rw [hown]; exact q.2, h.2.imp (fun u => hWF _ (List.contains_iff_mem.mp u)) hini⟩
  case new i =>
    simp only [rowChk, Bool.and_eq_true, decide_eq_true_eq] at h
    obtain ⟨⟨h1, h2⟩, h3⟩ := h
    exact ⟨h1, by rw [hown, h2, h3]; exact hN⟩
  case newarray t => exact hAT _ (of_decide_eq_true h)
  case ldc i => have q := hKI _ (List.contains_iff_mem.mp h); show _ ∈ tb; rw [hown]; exact q
  case ldc2_w i => have q := hKJ _ (List.contains_iff_mem.mp h); show _ ∈ tb; rw [hown]; exact q
  case invokevirtual i => have q := hML _ (List.contains_iff_mem.mp h); exact ⟨q.1, by rw [hown]; exact q.2⟩
  case invokestatic i => have q := hML _ (List.contains_iff_mem.mp h); exact ⟨q.1, by rw [hown]; exact q.2⟩
  case invokespecial i =>
    simp only [rowChk] at h
    refine ⟨fun e => ?_, fun e => ?_⟩
    · rw [if_pos e] at h
      simp only [Bool.and_eq_true, decide_eq_true_eq] at h
      rw [hown, h.1, h.2]; exact hO
    · rw [if_neg (by omega)] at h
      have q := hML _ (List.contains_iff_mem.mp h)
      exact ⟨q.1, by rw [hown]; exact q.2⟩
theorem rel_H1 {C : String} {fn : Nat → String × String} {F : List Nat} {s : State} {a : Addr} {cl : Cell} (hf : Fit s) (A : Arr s s.heap a cl .int) (hl : cl.slots.size < 2 ^ 31) :
    ∃ f : Nat → Int32, RelH C fn F s s.heap.size s.heap (H1 s.heap.size a cl.slots.size f) := by
  refine ⟨fun i => match cl.slots[i]? with | some (.int x) => x | _ => 0, rfl, Nat.le_refl _, fun b => ?_⟩
  simp only [H1]
  by_cases e : b = a
  · subst e
    simp only [if_true]
    refine ⟨fun q => (by cases q), hl, cl, A, rfl, fun i hi => ?_⟩
    have hi : i < cl.slots.size := hi
    have hj := idx_in hi hl
    obtain ⟨v, q1, q2⟩ := elem_fit hf A hj
    have e2 : (i.toInt32).toNatClampNeg = i := by
      have := len_toInt (n := i) (by omega)
      simp only [Int32.toNatClampNeg, this]; omega
    rw [e2] at q1
    obtain ⟨x, rfl⟩ := fit_I q2 (Or.inl rfl)
    show _ = some (Value.int (match cl.slots[i]? with | some (.int x) => x | _ => 0))
    rw [q1]
  · simp only [e, if_false]; exact ⟨fun q => (by cases q), trivial⟩
end Jvm.JX

namespace Jvm.JX.Pj
open Jvm Jvm.ClassFile Sem Op Lib Jvm.JX
def r1 : List Row := [(0, .aload_n 0, 1, 0), (1, .invokespecial 1, 3, (-1)), (4, .aload_n 0, 1, 0), (5, .bipush 33, 2, 0), (7, .newarray .int, 2, 0), (9, .putfield 7, 3, 5), (12, .aload_n 0, 1, 0), (13, .bipush 33, 2, 0), (15, .newarray .int, 2, 0), (17, .putfield 13, 3, 6), (20, .aload_n 0, 1, 0), (21, .bipush 33, 2, 0), (23, .newarray .int, 2, 0), (25, .putfield 16, 3, 7), (28, .aload_n 0, 1, 0), (29, .bipush 33, 2, 0), (31, .newarray .int, 2, 0), (33, .putfield 19, 3, 8), (36, .aload_n 0, 1, 0), (37, .bipush 33, 2, 0), (39, .newarray .int, 2, 0), (41, .putfield 22, 3, 9), (44, .aload_n 0, 1, 0), (45, .bipush 33, 2, 0), (47, .newarray .int, 2, 0), (49, .putfield 25, 3, 10), (52, .aload_n 0, 1, 0), (53, .bipush 33, 2, 0), (55, .newarray .int, 2, 0), (57, .putfield 28, 3, 11), (60, .aload_n 0, 1, 0), (61, .bipush 10, 2, 0), (63, .newarray .int, 2, 0), (65, .putfield 31, 3, 16), (68, .aload_n 0, 1, 0), (69, .bipush 10, 2, 0), (71, .newarray .int, 2, 0), (73, .putfield 34, 3, 17), (76, .aload_n 0, 1, 0), (77, .bipush 25, 2, 0), (79, .newarray .int, 2, 0), (81, .putfield 37, 3, 18), (84, .aload_n 0, 1, 0), (85, .bipush 100, 2, 0), (87, .newarray .int, 2, 0), (89, .putfield 40, 3, 19), (92, .aload_n 0, 1, 0), (93, .bipush 32, 2, 0), (95, .newarray .int, 2, 0), (97, .putfield 43, 3, 20), (100, .aload_n 0, 1, 0), (101, .bipush 32, 2, 0), (103, .newarray .int, 2, 0), (105, .putfield 46, 3, 21), (108, .iload_n 1, 1, 0), (109, .istore_n 3, 1, 0), (110, .iload_n 3, 1, 0), (111, .iconst 2, 1, 0), (112, .if_icmp .ge 5, 3, 0), (115, .iconst 2, 1, 0), (116, .istore_n 3, 1, 0), (117, .iload_n 3, 1, 0), (118, .iconst 4, 1, 0), (119, .if_icmp .le 5, 3, 0), (122, .iconst 4, 1, 0), (123, .istore_n 3, 1, 0), (124, .aload_n 0, 1, 0), (125, .iload_n 3, 1, 0), (126, .putfield 49, 3, 0), (129, .aload_n 0, 1, 0), (130, .aload_n 0, 1, 0), (131, .iload_n 2, 1, 0), (132, .invokevirtual 53, 3, 2), (135, .putfield 57, 3, 3), (138, .aload_n 0, 1, 0), (139, .invokevirtual 60, 3, 3), (142, .aload_n 0, 1, 0), (143, .invokevirtual 63, 3, 4), (146, .aload_n 0, 1, 0), (147, .iconst 0, 1, 0), (148, .putfield 66, 3, 4), (151, .aload_n 0, 1, 0), (152, .iconst 0, 1, 0), (153, .putfield 69, 3, 12), (156, .aload_n 0, 1, 0), (157, .iconst 0, 1, 0), (158, .putfield 73, 3, 13), (161, .aload_n 0, 1, 0), (162, .iconst 0, 1, 0), (163, .putfield 76, 3, 14), (166, .aload_n 0, 1, 0), (167, .iconst 0, 1, 0), (168, .putfield 79, 3, 15), (171, .aload_n 0, 1, 0), (172, .iconst 0, 1, 0), (173, .putfield 82, 3, 22), (176, .return_, 1, 0)]
def r2 : List Row := [(0, .iload_n 1, 1, 0), (1, .iconst 1, 1, 0), (2, .if_icmp .ge 7, 3, 0), (5, .iconst 1, 1, 0), (6, .goto 4, 3, 0), (9, .iload_n 1, 1, 0), (10, .ireturn, 1, 0)]
def r3 : List Row := [(0, .iconst 0, 1, 0), (1, .istore_n 1, 1, 0), (2, .iconst 1, 1, 0), (3, .istore_n 2, 1, 0), (4, .iload_n 2, 1, 0), (5, .aload_n 0, 1, 0), (6, .getfield 49, 3, 0), (9, .if_icmp .gt 64, 3, 0), (12, .iload_n 2, 1, 0), (13, .istore_n 3, 1, 0), (14, .iload_n 3, 1, 0), (15, .aload_n 0, 1, 0), (16, .getfield 49, 3, 0), (19, .if_icmp .gt 48, 3, 0), (22, .aload_n 0, 1, 0), (23, .getfield 31, 3, 16), (26, .iload_n 1, 1, 0), (27, .iload_n 2, 1, 0), (28, .iastore, 1, 0), (29, .aload_n 0, 1, 0), (30, .getfield 34, 3, 17), (33, .iload_n 1, 1, 0), (34, .iload_n 3, 1, 0), (35, .iastore, 1, 0), (36, .aload_n 0, 1, 0), (37, .getfield 37, 3, 18), (40, .iload_n 2, 1, 0), (41, .iconst 5, 1, 0), (42, .imul, 1, 0), (43, .iload_n 3, 1, 0), (44, .iadd, 1, 0), (45, .iload_n 1, 1, 0), (46, .iastore, 1, 0), (47, .aload_n 0, 1, 0), (48, .getfield 37, 3, 18), (51, .iload_n 3, 1, 0), (52, .iconst 5, 1, 0), (53, .imul, 1, 0), (54, .iload_n 2, 1, 0), (55, .iadd, 1, 0), (56, .iload_n 1, 1, 0), (57, .iastore, 1, 0), (58, .iinc 1 1, 3, 0), (61, .iinc 3 1, 3, 0), (64, .goto (-50), 3, 0), (67, .iinc 2 1, 3, 0), (70, .goto (-66), 3, 0), (73, .aload_n 0, 1, 0), (74, .iload_n 1, 1, 0), (75, .putfield 85, 3, 1), (78, .aload_n 0, 1, 0), (79, .iconst 1, 1, 0), (80, .iload_n 1, 1, 0), (81, .ishl, 1, 0), (82, .iconst 1, 1, 0), (83, .isub, 1, 0), (84, .putfield 88, 3, 2), (87, .return_, 1, 0)]
def r4 : List Row := [(0, .iconst 0, 1, 0), (1, .istore_n 1, 1, 0), (2, .iload_n 1, 1, 0), (3, .aload_n 0, 1, 0), (4, .getfield 85, 3, 1), (7, .if_icmp .ge 42, 3, 0), (10, .iconst 0, 1, 0), (11, .istore_n 2, 1, 0), (12, .iload_n 2, 1, 0), (13, .aload_n 0, 1, 0), (14, .getfield 85, 3, 1), (17, .if_icmp .ge 26, 3, 0), (20, .aload_n 0, 1, 0), (21, .getfield 40, 3, 19), (24, .iload_n 1, 1, 0), (25, .bipush 10, 2, 0), (27, .imul, 1, 0), (28, .iload_n 2, 1, 0), (29, .iadd, 1, 0), (30, .aload_n 0, 1, 0), (31, .iload_n 1, 1, 0), (32, .iload_n 2, 1, 0), (33, .invokevirtual 91, 3, 5), (36, .iastore, 1, 0), (37, .iinc 2 1, 3, 0), (40, .goto (-28), 3, 0), (43, .iinc 1 1, 3, 0), (46, .goto (-44), 3, 0), (49, .return_, 1, 0)]
def r5 : List Row := [(0, .iconst 0, 1, 0), (1, .istore_n 3, 1, 0), (2, .iconst 0, 1, 0), (3, .istore 4, 2, 0), (5, .iload 4, 2, 0), (7, .aload_n 0, 1, 0), (8, .getfield 85, 3, 1), (11, .if_icmp .ge 27, 3, 0), (14, .aload_n 0, 1, 0), (15, .iload 4, 2, 0), (17, .iload_n 1, 1, 0), (18, .iload_n 2, 1, 0), (19, .invokevirtual 95, 3, 6), (22, .ifCond .eq 10, 3, 0), (25, .iload_n 3, 1, 0), (26, .iconst 1, 1, 0), (27, .iload 4, 2, 0), (29, .ishl, 1, 0), (30, .ior, 1, 0), (31, .istore_n 3, 1, 0), (32, .iinc 4 1, 3, 0), (35, .goto (-30), 3, 0), (38, .iload_n 3, 1, 0), (39, .ireturn, 1, 0)]
def r6 : List Row := [(0, .aload_n 0, 1, 0), (1, .getfield 31, 3, 16), (4, .iload_n 1, 1, 0), (5, .iaload, 1, 0), (6, .istore 4, 2, 0), (8, .aload_n 0, 1, 0), (9, .getfield 34, 3, 17), (12, .iload_n 1, 1, 0), (13, .iaload, 1, 0), (14, .istore 5, 2, 0), (16, .aload_n 0, 1, 0), (17, .getfield 31, 3, 16), (20, .iload_n 2, 1, 0), (21, .iaload, 1, 0), (22, .istore 6, 2, 0), (24, .aload_n 0, 1, 0), (25, .getfield 34, 3, 17), (28, .iload_n 2, 1, 0), (29, .iaload, 1, 0), (30, .istore 7, 2, 0), (32, .aload_n 0, 1, 0), (33, .getfield 31, 3, 16), (36, .iload_n 3, 1, 0), (37, .iaload, 1, 0), (38, .istore 8, 2, 0), (40, .aload_n 0, 1, 0), (41, .getfield 34, 3, 17), (44, .iload_n 3, 1, 0), (45, .iaload, 1, 0), (46, .istore 9, 2, 0), (48, .iload 4, 2, 0), (50, .iload 6, 2, 0), (52, .if_icmp .eq 10, 3, 0), (55, .iload 4, 2, 0), (57, .iload 7, 2, 0), (59, .if_icmp .ne 7, 3, 0), (62, .iconst 1, 1, 0), (63, .goto 4, 3, 0), (66, .iconst 0, 1, 0), (67, .istore 10, 2, 0), (69, .iload 5, 2, 0), (71, .iload 6, 2, 0), (73, .if_icmp .eq 10, 3, 0), (76, .iload 5, 2, 0), (78, .iload 7, 2, 0), (80, .if_icmp .ne 7, 3, 0), (83, .iconst 1, 1, 0), (84, .goto 4, 3, 0), (87, .iconst 0, 1, 0), (88, .istore 11, 2, 0), (90, .iload 4, 2, 0), (92, .iload 8, 2, 0), (94, .if_icmp .eq 10, 3, 0), (97, .iload 4, 2, 0), (99, .iload 9, 2, 0), (101, .if_icmp .ne 7, 3, 0), (104, .iconst 1, 1, 0), (105, .goto 4, 3, 0), (108, .iconst 0, 1, 0), (109, .istore 12, 2, 0), (111, .iload 5, 2, 0), (113, .iload 8, 2, 0), (115, .if_icmp .eq 10, 3, 0), (118, .iload 5, 2, 0), (120, .iload 9, 2, 0), (122, .if_icmp .ne 7, 3, 0), (125, .iconst 1, 1, 0), (126, .goto 4, 3, 0), (129, .iconst 0, 1, 0), (130, .istore 13, 2, 0), (132, .iload 10, 2, 0), (134, .ifCond .eq 8, 3, 0), (137, .iload 13, 2, 0), (139, .ifCond .ne 13, 3, 0), (142, .iload 11, 2, 0), (144, .ifCond .eq 12, 3, 0), (147, .iload 12, 2, 0), (149, .ifCond .eq 7, 3, 0), (152, .iconst 1, 1, 0), (153, .goto 4, 3, 0), (156, .iconst 0, 1, 0), (157, .ireturn, 1, 0)]
def r7 : List Row := [(0, .iload_n 1, 1, 0), (1, .iconst 1, 1, 0), (2, .if_icmp .lt 15, 3, 0), (5, .iload_n 1, 1, 0), (6, .aload_n 0, 1, 0), (7, .getfield 66, 3, 4), (10, .if_icmp .gt 7, 3, 0), (13, .iconst 1, 1, 0), (14, .goto 4, 3, 0), (17, .iconst 0, 1, 0), (18, .ireturn, 1, 0)]
def r8 : List Row := [(0, .iload_n 1, 1, 0), (1, .iconst 1, 1, 0), (2, .if_icmp .lt 15, 3, 0), (5, .iload_n 1, 1, 0), (6, .aload_n 0, 1, 0), (7, .getfield 49, 3, 0), (10, .if_icmp .gt 7, 3, 0), (13, .iconst 1, 1, 0), (14, .goto 4, 3, 0), (17, .iconst 0, 1, 0), (18, .ireturn, 1, 0)]
def r9 : List Row := [(0, .aload_n 0, 1, 0), (1, .getfield 66, 3, 4), (4, .bipush 32, 2, 0), (6, .if_icmp .lt 5, 3, 0), (9, .iconst (-1), 1, 0), (10, .ireturn, 1, 0), (11, .iload_n 1, 1, 0), (12, .iconst 1, 1, 0), (13, .if_icmp .eq 11, 3, 0), (16, .iload_n 1, 1, 0), (17, .iconst 2, 1, 0), (18, .if_icmp .eq 6, 3, 0), (21, .bipush (-2), 2, 0), (23, .ireturn, 1, 0), (24, .iload_n 2, 1, 0), (25, .ifCond .ne 7, 3, 0), (28, .iconst 1, 1, 0), (29, .goto 4, 3, 0), (32, .iconst 0, 1, 0), (33, .iload_n 3, 1, 0), (34, .ifCond .ne 7, 3, 0), (37, .iconst 1, 1, 0), (38, .goto 4, 3, 0), (41, .iconst 0, 1, 0), (42, .if_icmp .eq 6, 3, 0), (45, .bipush (-2), 2, 0), (47, .ireturn, 1, 0), (48, .iload_n 2, 1, 0), (49, .ifCond .eq 51, 3, 0), (52, .aload_n 0, 1, 0), (53, .iload_n 2, 1, 0), (54, .invokevirtual 99, 3, 7), (57, .ifCond .ne 6, 3, 0), (60, .bipush (-3), 2, 0), (62, .ireturn, 1, 0), (63, .aload_n 0, 1, 0), (64, .iload_n 3, 1, 0), (65, .invokevirtual 99, 3, 7), (68, .ifCond .ne 6, 3, 0), (71, .bipush (-3), 2, 0), (73, .ireturn, 1, 0), (74, .aload_n 0, 1, 0), (75, .getfield 7, 3, 5), (78, .iload_n 2, 1, 0), (79, .iaload, 1, 0), (80, .iconst 1, 1, 0), (81, .if_icmp .eq 6, 3, 0), (84, .bipush (-4), 2, 0), (86, .ireturn, 1, 0), (87, .aload_n 0, 1, 0), (88, .getfield 7, 3, 5), (91, .iload_n 3, 1, 0), (92, .iaload, 1, 0), (93, .iconst 2, 1, 0), (94, .if_icmp .eq 6, 3, 0), (97, .bipush (-4), 2, 0), (99, .ireturn, 1, 0), (100, .aload_n 0, 1, 0), (101, .dup, 1, 0), (102, .getfield 66, 3, 4), (105, .iconst 1, 1, 0), (106, .iadd, 1, 0), (107, .putfield 66, 3, 4), (110, .aload_n 0, 1, 0), (111, .getfield 7, 3, 5), (114, .aload_n 0, 1, 0), (115, .getfield 66, 3, 4), (118, .iload_n 1, 1, 0), (119, .iastore, 1, 0), (120, .aload_n 0, 1, 0), (121, .getfield 13, 3, 6), (124, .aload_n 0, 1, 0), (125, .getfield 66, 3, 4), (128, .iload_n 2, 1, 0), (129, .iastore, 1, 0), (130, .aload_n 0, 1, 0), (131, .getfield 16, 3, 7), (134, .aload_n 0, 1, 0), (135, .getfield 66, 3, 4), (138, .iload_n 3, 1, 0), (139, .iastore, 1, 0), (140, .aload_n 0, 1, 0), (141, .getfield 19, 3, 8), (144, .aload_n 0, 1, 0), (145, .getfield 66, 3, 4), (148, .iconst (-1), 1, 0), (149, .iastore, 1, 0), (150, .aload_n 0, 1, 0), (151, .getfield 22, 3, 9), (154, .aload_n 0, 1, 0), (155, .getfield 66, 3, 4), (158, .iconst 0, 1, 0), (159, .iastore, 1, 0), (160, .aload_n 0, 1, 0), (161, .getfield 25, 3, 10), (164, .aload_n 0, 1, 0), (165, .getfield 66, 3, 4), (168, .iconst 0, 1, 0), (169, .iastore, 1, 0), (170, .aload_n 0, 1, 0), (171, .iconst 0, 1, 0), (172, .putfield 73, 3, 13), (175, .aload_n 0, 1, 0), (176, .iconst 0, 1, 0), (177, .putfield 69, 3, 12), (180, .aload_n 0, 1, 0), (181, .getfield 66, 3, 4), (184, .ireturn, 1, 0)]
def r10 : List Row := [(0, .aload_n 0, 1, 0), (1, .iload_n 1, 1, 0), (2, .invokevirtual 99, 3, 7), (5, .ifCond .ne 6, 3, 0), (8, .bipush (-5), 2, 0), (10, .ireturn, 1, 0), (11, .aload_n 0, 1, 0), (12, .iload_n 2, 1, 0), (13, .invokevirtual 103, 3, 8), (16, .ifCond .eq 11, 3, 0), (19, .aload_n 0, 1, 0), (20, .iload_n 3, 1, 0), (21, .invokevirtual 103, 3, 8), (24, .ifCond .ne 6, 3, 0), (27, .bipush (-6), 2, 0), (29, .ireturn, 1, 0), (30, .aload_n 0, 1, 0), (31, .getfield 19, 3, 8), (34, .iload_n 1, 1, 0), (35, .aload_n 0, 1, 0), (36, .getfield 37, 3, 18), (39, .iload_n 2, 1, 0), (40, .iconst 5, 1, 0), (41, .imul, 1, 0), (42, .iload_n 3, 1, 0), (43, .iadd, 1, 0), (44, .iaload, 1, 0), (45, .iastore, 1, 0), (46, .aload_n 0, 1, 0), (47, .iconst 0, 1, 0), (48, .putfield 73, 3, 13), (51, .iconst 0, 1, 0), (52, .ireturn, 1, 0)]
def r11 : List Row := [(0, .aload_n 0, 1, 0), (1, .iload_n 1, 1, 0), (2, .invokevirtual 99, 3, 7), (5, .ifCond .ne 6, 3, 0), (8, .bipush (-5), 2, 0), (10, .ireturn, 1, 0), (11, .aload_n 0, 1, 0), (12, .getfield 19, 3, 8), (15, .iload_n 1, 1, 0), (16, .iconst (-1), 1, 0), (17, .iastore, 1, 0), (18, .aload_n 0, 1, 0), (19, .iconst 0, 1, 0), (20, .putfield 73, 3, 13), (23, .iconst 0, 1, 0), (24, .ireturn, 1, 0)]
def r12 : List Row := [(0, .aload_n 0, 1, 0), (1, .aload_n 0, 1, 0), (2, .iload_n 1, 1, 0), (3, .invokevirtual 53, 3, 2), (6, .putfield 57, 3, 3), (9, .return_, 1, 0)]
def r13 : List Row := [(0, .aload_n 0, 1, 0), (1, .aload_n 0, 1, 0), (2, .getfield 57, 3, 3), (5, .ldc 106, 2, 1103515245), (7, .imul, 1, 0), (8, .sipush 12345, 3, 0), (11, .iadd, 1, 0), (12, .putfield 57, 3, 3), (15, .aload_n 0, 1, 0), (16, .getfield 57, 3, 3), (19, .bipush 16, 2, 0), (21, .iushr, 1, 0), (22, .sipush 32767, 3, 0), (25, .iand, 1, 0), (26, .ireturn, 1, 0)]
def r14 : List Row := [(0, .aload_n 0, 1, 0), (1, .invokevirtual 107, 3, 13), (4, .istore_n 2, 1, 0), (5, .iload_n 2, 1, 0), (6, .iconst 1, 1, 0), (7, .iand, 1, 0), (8, .ifCond .ne 12, 3, 0), (11, .aload_n 0, 1, 0), (12, .getfield 22, 3, 9), (15, .iload_n 1, 1, 0), (16, .iaload, 1, 0), (17, .goto 9, 3, 0), (20, .aload_n 0, 1, 0), (21, .getfield 25, 3, 10), (24, .iload_n 1, 1, 0), (25, .iaload, 1, 0), (26, .ireturn, 1, 0)]
def r15 : List Row := [(0, .iconst 1, 1, 0), (1, .istore_n 1, 1, 0), (2, .iload_n 1, 1, 0), (3, .aload_n 0, 1, 0), (4, .getfield 66, 3, 4), (7, .if_icmp .gt 91, 3, 0), (10, .aload_n 0, 1, 0), (11, .getfield 13, 3, 6), (14, .iload_n 1, 1, 0), (15, .iaload, 1, 0), (16, .ifCond .ne 44, 3, 0), (19, .aload_n 0, 1, 0), (20, .invokevirtual 107, 3, 13), (23, .istore_n 2, 1, 0), (24, .aload_n 0, 1, 0), (25, .getfield 22, 3, 9), (28, .iload_n 1, 1, 0), (29, .iconst 1, 1, 0), (30, .iload_n 2, 1, 0), (31, .aload_n 0, 1, 0), (32, .getfield 49, 3, 0), (35, .irem, 1, 0), (36, .iadd, 1, 0), (37, .iastore, 1, 0), (38, .aload_n 0, 1, 0), (39, .invokevirtual 107, 3, 13), (42, .istore_n 3, 1, 0), (43, .aload_n 0, 1, 0), (44, .getfield 25, 3, 10), (47, .iload_n 1, 1, 0), (48, .iconst 1, 1, 0), (49, .iload_n 3, 1, 0), (50, .aload_n 0, 1, 0), (51, .getfield 49, 3, 0), (54, .irem, 1, 0), (55, .iadd, 1, 0), (56, .iastore, 1, 0), (57, .goto 35, 3, 0), (60, .aload_n 0, 1, 0), (61, .getfield 22, 3, 9), (64, .iload_n 1, 1, 0), (65, .aload_n 0, 1, 0), (66, .aload_n 0, 1, 0), (67, .getfield 13, 3, 6), (70, .iload_n 1, 1, 0), (71, .iaload, 1, 0), (72, .invokevirtual 111, 3, 14), (75, .iastore, 1, 0), (76, .aload_n 0, 1, 0), (77, .getfield 25, 3, 10), (80, .iload_n 1, 1, 0), (81, .aload_n 0, 1, 0), (82, .aload_n 0, 1, 0), (83, .getfield 16, 3, 7), (86, .iload_n 1, 1, 0), (87, .iaload, 1, 0), (88, .invokevirtual 111, 3, 14), (91, .iastore, 1, 0), (92, .iinc 1 1, 3, 0), (95, .goto (-93), 3, 0), (98, .aload_n 0, 1, 0), (99, .iconst 1, 1, 0), (100, .putfield 69, 3, 12), (103, .aload_n 0, 1, 0), (104, .getfield 66, 3, 4), (107, .ireturn, 1, 0)]
def r16 : List Row := [(0, .aload_n 0, 1, 0), (1, .iload_n 1, 1, 0), (2, .invokevirtual 99, 3, 7), (5, .ifCond .ne 6, 3, 0), (8, .bipush (-5), 2, 0), (10, .ireturn, 1, 0), (11, .aload_n 0, 1, 0), (12, .getfield 69, 3, 12), (15, .ifCond .ne 6, 3, 0), (18, .bipush (-7), 2, 0), (20, .ireturn, 1, 0), (21, .aload_n 0, 1, 0), (22, .getfield 19, 3, 8), (25, .iload_n 1, 1, 0), (26, .aload_n 0, 1, 0), (27, .getfield 37, 3, 18), (30, .aload_n 0, 1, 0), (31, .getfield 22, 3, 9), (34, .iload_n 1, 1, 0), (35, .iaload, 1, 0), (36, .iconst 5, 1, 0), (37, .imul, 1, 0), (38, .aload_n 0, 1, 0), (39, .getfield 25, 3, 10), (42, .iload_n 1, 1, 0), (43, .iaload, 1, 0), (44, .iadd, 1, 0), (45, .iaload, 1, 0), (46, .iastore, 1, 0), (47, .aload_n 0, 1, 0), (48, .iconst 0, 1, 0), (49, .putfield 73, 3, 13), (52, .iconst 0, 1, 0), (53, .ireturn, 1, 0)]
def r17 : List Row := [(0, .aload_n 0, 1, 0), (1, .iload_n 1, 1, 0), (2, .invokevirtual 99, 3, 7), (5, .ifCond .eq 10, 3, 0), (8, .aload_n 0, 1, 0), (9, .getfield 69, 3, 12), (12, .ifCond .ne 5, 3, 0), (15, .iconst 0, 1, 0), (16, .ireturn, 1, 0), (17, .iload_n 2, 1, 0), (18, .ifCond .ne 10, 3, 0), (21, .aload_n 0, 1, 0), (22, .getfield 22, 3, 9), (25, .iload_n 1, 1, 0), (26, .iaload, 1, 0), (27, .ireturn, 1, 0), (28, .iload_n 2, 1, 0), (29, .iconst 1, 1, 0), (30, .if_icmp .ne 10, 3, 0), (33, .aload_n 0, 1, 0), (34, .getfield 25, 3, 10), (37, .iload_n 1, 1, 0), (38, .iaload, 1, 0), (39, .ireturn, 1, 0), (40, .iconst 0, 1, 0), (41, .ireturn, 1, 0)]
def r18 : List Row := [(0, .aload_n 0, 1, 0), (1, .invokevirtual 114, 3, 19), (4, .iconst 0, 1, 0), (5, .istore_n 1, 1, 0), (6, .iconst 0, 1, 0), (7, .istore_n 2, 1, 0), (8, .iconst 1, 1, 0), (9, .istore_n 3, 1, 0), (10, .iload_n 3, 1, 0), (11, .aload_n 0, 1, 0), (12, .getfield 66, 3, 4), (15, .if_icmp .gt 48, 3, 0), (18, .aload_n 0, 1, 0), (19, .iload_n 3, 1, 0), (20, .invokevirtual 117, 3, 22), (23, .ifCond .eq 34, 3, 0), (26, .aload_n 0, 1, 0), (27, .iload_n 3, 1, 0), (28, .invokevirtual 120, 3, 26), (31, .ifCond .ne 26, 3, 0), (34, .iconst 2, 1, 0), (35, .aload_n 0, 1, 0), (36, .getfield 82, 3, 22), (39, .iadd, 1, 0), (40, .istore 4, 2, 0), (42, .iload_n 1, 1, 0), (43, .ifCond .eq 9, 3, 0), (46, .iload 4, 2, 0), (48, .iload_n 2, 1, 0), (49, .if_icmp .ge 8, 3, 0), (52, .iload_n 3, 1, 0), (53, .istore_n 1, 1, 0), (54, .iload 4, 2, 0), (56, .istore_n 2, 1, 0), (57, .iinc 3 1, 3, 0), (60, .goto (-50), 3, 0), (63, .aload_n 0, 1, 0), (64, .invokevirtual 123, 3, 20), (67, .aload_n 0, 1, 0), (68, .invokevirtual 126, 3, 21), (71, .istore_n 3, 1, 0), (72, .aload_n 0, 1, 0), (73, .iload_n 3, 1, 0), (74, .ifCond .eq 7, 3, 0), (77, .iconst 2, 1, 0), (78, .goto 4, 3, 0), (81, .iconst 1, 1, 0), (82, .putfield 76, 3, 14), (85, .aload_n 0, 1, 0), (86, .iload_n 3, 1, 0), (87, .ifCond .eq 7, 3, 0), (90, .iload_n 1, 1, 0), (91, .goto 4, 3, 0), (94, .iconst 0, 1, 0), (95, .putfield 79, 3, 15), (98, .aload_n 0, 1, 0), (99, .iconst 1, 1, 0), (100, .putfield 73, 3, 13), (103, .aload_n 0, 1, 0), (104, .getfield 76, 3, 14), (107, .ireturn, 1, 0)]
def r19 : List Row := [(0, .iconst 1, 1, 0), (1, .istore_n 1, 1, 0), (2, .iload_n 1, 1, 0), (3, .aload_n 0, 1, 0), (4, .getfield 66, 3, 4), (7, .if_icmp .gt 39, 3, 0), (10, .aload_n 0, 1, 0), (11, .getfield 28, 3, 11), (14, .iload_n 1, 1, 0), (15, .aload_n 0, 1, 0), (16, .getfield 19, 3, 8), (19, .iload_n 1, 1, 0), (20, .iaload, 1, 0), (21, .ifCond .lt 14, 3, 0), (24, .iconst 1, 1, 0), (25, .aload_n 0, 1, 0), (26, .getfield 19, 3, 8), (29, .iload_n 1, 1, 0), (30, .iaload, 1, 0), (31, .ishl, 1, 0), (32, .goto 7, 3, 0), (35, .aload_n 0, 1, 0), (36, .getfield 88, 3, 2), (39, .iastore, 1, 0), (40, .iinc 1 1, 3, 0), (43, .goto (-41), 3, 0), (46, .return_, 1, 0)]
def r20 : List Row := [(0, .iconst 0, 1, 0), (1, .istore_n 1, 1, 0), (2, .iload_n 1, 1, 0), (3, .sipush 330, 3, 0), (6, .if_icmp .ge 48, 3, 0), (9, .iconst 0, 1, 0), (10, .istore_n 2, 1, 0), (11, .iconst 1, 1, 0), (12, .istore_n 3, 1, 0), (13, .iload_n 3, 1, 0), (14, .aload_n 0, 1, 0), (15, .getfield 66, 3, 4), (18, .if_icmp .gt 25, 3, 0), (21, .aload_n 0, 1, 0), (22, .iload_n 3, 1, 0), (23, .invokevirtual 117, 3, 22), (26, .ifCond .eq 11, 3, 0), (29, .iload_n 2, 1, 0), (30, .aload_n 0, 1, 0), (31, .iload_n 3, 1, 0), (32, .invokevirtual 130, 3, 27), (35, .ior, 1, 0), (36, .istore_n 2, 1, 0), (37, .iinc 3 1, 3, 0), (40, .goto (-27), 3, 0), (43, .iload_n 2, 1, 0), (44, .ifCond .ne 4, 3, 0), (47, .return_, 1, 0), (48, .iinc 1 1, 3, 0), (51, .goto (-49), 3, 0), (54, .return_, 1, 0)]
def r21 : List Row := [(0, .iconst 1, 1, 0), (1, .istore_n 1, 1, 0), (2, .iload_n 1, 1, 0), (3, .aload_n 0, 1, 0), (4, .getfield 66, 3, 4), (7, .if_icmp .gt 20, 3, 0), (10, .aload_n 0, 1, 0), (11, .getfield 28, 3, 11), (14, .iload_n 1, 1, 0), (15, .iaload, 1, 0), (16, .ifCond .ne 5, 3, 0), (19, .iconst 1, 1, 0), (20, .ireturn, 1, 0), (21, .iinc 1 1, 3, 0), (24, .goto (-22), 3, 0), (27, .iconst 0, 1, 0), (28, .ireturn, 1, 0)]
def r22 : List Row := [(0, .aload_n 0, 1, 0), (1, .iload_n 1, 1, 0), (2, .invokevirtual 99, 3, 7), (5, .ifCond .eq 12, 3, 0), (8, .aload_n 0, 1, 0), (9, .getfield 13, 3, 6), (12, .iload_n 1, 1, 0), (13, .iaload, 1, 0), (14, .ifCond .ne 5, 3, 0), (17, .iconst 0, 1, 0), (18, .ireturn, 1, 0), (19, .aload_n 0, 1, 0), (20, .getfield 13, 3, 6), (23, .iload_n 1, 1, 0), (24, .iaload, 1, 0), (25, .istore_n 2, 1, 0), (26, .aload_n 0, 1, 0), (27, .getfield 16, 3, 7), (30, .iload_n 1, 1, 0), (31, .iaload, 1, 0), (32, .istore_n 3, 1, 0), (33, .iconst 1, 1, 0), (34, .istore 4, 2, 0), (36, .iload 4, 2, 0), (38, .iload_n 1, 1, 0), (39, .if_icmp .ge 33, 3, 0), (42, .aload_n 0, 1, 0), (43, .getfield 13, 3, 6), (46, .iload 4, 2, 0), (48, .iaload, 1, 0), (49, .iload_n 2, 1, 0), (50, .if_icmp .ne 16, 3, 0), (53, .aload_n 0, 1, 0), (54, .getfield 16, 3, 7), (57, .iload 4, 2, 0), (59, .iaload, 1, 0), (60, .iload_n 3, 1, 0), (61, .if_icmp .ne 5, 3, 0), (64, .iconst 0, 1, 0), (65, .ireturn, 1, 0), (66, .iinc 4 1, 3, 0), (69, .goto (-33), 3, 0), (72, .iconst 1, 1, 0), (73, .ireturn, 1, 0)]
def r23 : List Row := [(0, .aload_n 0, 1, 0), (1, .iconst 0, 1, 0), (2, .putfield 82, 3, 22), (5, .aload_n 0, 1, 0), (6, .getfield 13, 3, 6), (9, .iload_n 1, 1, 0), (10, .iaload, 1, 0), (11, .istore_n 2, 1, 0), (12, .aload_n 0, 1, 0), (13, .getfield 16, 3, 7), (16, .iload_n 1, 1, 0), (17, .iaload, 1, 0), (18, .istore_n 3, 1, 0), (19, .iload_n 1, 1, 0), (20, .istore 4, 2, 0), (22, .iload 4, 2, 0), (24, .aload_n 0, 1, 0), (25, .getfield 66, 3, 4), (28, .if_icmp .gt 61, 3, 0), (31, .aload_n 0, 1, 0), (32, .getfield 13, 3, 6), (35, .iload 4, 2, 0), (37, .iaload, 1, 0), (38, .iload_n 2, 1, 0), (39, .if_icmp .ne 44, 3, 0), (42, .aload_n 0, 1, 0), (43, .getfield 16, 3, 7), (46, .iload 4, 2, 0), (48, .iaload, 1, 0), (49, .iload_n 3, 1, 0), (50, .if_icmp .ne 33, 3, 0), (53, .aload_n 0, 1, 0), (54, .getfield 82, 3, 22), (57, .bipush 32, 2, 0), (59, .if_icmp .ge 24, 3, 0), (62, .aload_n 0, 1, 0), (63, .getfield 43, 3, 20), (66, .aload_n 0, 1, 0), (67, .getfield 82, 3, 22), (70, .iload 4, 2, 0), (72, .iastore, 1, 0), (73, .aload_n 0, 1, 0), (74, .dup, 1, 0), (75, .getfield 82, 3, 22), (78, .iconst 1, 1, 0), (79, .iadd, 1, 0), (80, .putfield 82, 3, 22), (83, .iinc 4 1, 3, 0), (86, .goto (-64), 3, 0), (89, .return_, 1, 0)]
def r24 : List Row := [(0, .iconst 0, 1, 0), (1, .istore_n 2, 1, 0), (2, .iload_n 2, 1, 0), (3, .aload_n 0, 1, 0), (4, .getfield 82, 3, 22), (7, .if_icmp .ge 27, 3, 0), (10, .aload_n 0, 1, 0), (11, .getfield 28, 3, 11), (14, .aload_n 0, 1, 0), (15, .getfield 43, 3, 20), (18, .iload_n 2, 1, 0), (19, .iaload, 1, 0), (20, .iaload, 1, 0), (21, .iload_n 1, 1, 0), (22, .iand, 1, 0), (23, .ifCond .ne 5, 3, 0), (26, .iconst 0, 1, 0), (27, .ireturn, 1, 0), (28, .iinc 2 1, 3, 0), (31, .goto (-29), 3, 0), (34, .iconst 1, 1, 0), (35, .ireturn, 1, 0)]
def r25 : List Row := [(0, .iconst 0, 1, 0), (1, .istore_n 2, 1, 0), (2, .iload_n 2, 1, 0), (3, .aload_n 0, 1, 0), (4, .getfield 82, 3, 22), (7, .if_icmp .ge 31, 3, 0), (10, .aload_n 0, 1, 0), (11, .getfield 46, 3, 21), (14, .iload_n 2, 1, 0), (15, .dup2, 1, 0), (16, .iaload, 1, 0), (17, .aload_n 0, 1, 0), (18, .getfield 28, 3, 11), (21, .aload_n 0, 1, 0), (22, .getfield 43, 3, 20), (25, .iload_n 2, 1, 0), (26, .iaload, 1, 0), (27, .iaload, 1, 0), (28, .iload_n 1, 1, 0), (29, .iand, 1, 0), (30, .ior, 1, 0), (31, .iastore, 1, 0), (32, .iinc 2 1, 3, 0), (35, .goto (-33), 3, 0), (38, .return_, 1, 0)]
def r26 : List Row := [(0, .aload_n 0, 1, 0), (1, .iload_n 1, 1, 0), (2, .invokevirtual 133, 3, 23), (5, .aload_n 0, 1, 0), (6, .getfield 28, 3, 11), (9, .aload_n 0, 1, 0), (10, .getfield 13, 3, 6), (13, .iload_n 1, 1, 0), (14, .iaload, 1, 0), (15, .iaload, 1, 0), (16, .istore_n 2, 1, 0), (17, .aload_n 0, 1, 0), (18, .getfield 28, 3, 11), (21, .aload_n 0, 1, 0), (22, .getfield 16, 3, 7), (25, .iload_n 1, 1, 0), (26, .iaload, 1, 0), (27, .iaload, 1, 0), (28, .istore_n 3, 1, 0), (29, .iconst 0, 1, 0), (30, .istore 4, 2, 0), (32, .iload 4, 2, 0), (34, .aload_n 0, 1, 0), (35, .getfield 85, 3, 1), (38, .if_icmp .ge 70, 3, 0), (41, .iload_n 2, 1, 0), (42, .iload 4, 2, 0), (44, .ishr, 1, 0), (45, .iconst 1, 1, 0), (46, .iand, 1, 0), (47, .ifCond .ne 6, 3, 0), (50, .goto 52, 3, 0), (53, .iconst 0, 1, 0), (54, .istore 5, 2, 0), (56, .iload 5, 2, 0), (58, .aload_n 0, 1, 0), (59, .getfield 85, 3, 1), (62, .if_icmp .ge 40, 3, 0), (65, .iload_n 3, 1, 0), (66, .iload 5, 2, 0), (68, .ishr, 1, 0), (69, .iconst 1, 1, 0), (70, .iand, 1, 0), (71, .ifCond .eq 25, 3, 0), (74, .aload_n 0, 1, 0), (75, .aload_n 0, 1, 0), (76, .getfield 40, 3, 19), (79, .iload 4, 2, 0), (81, .bipush 10, 2, 0), (83, .imul, 1, 0), (84, .iload 5, 2, 0), (86, .iadd, 1, 0), (87, .iaload, 1, 0), (88, .invokevirtual 137, 3, 24), (91, .ifCond .eq 5, 3, 0), (94, .iconst 1, 1, 0), (95, .ireturn, 1, 0), (96, .iinc 5 1, 3, 0), (99, .goto (-43), 3, 0), (102, .iinc 4 1, 3, 0), (105, .goto (-73), 3, 0), (108, .iconst 0, 1, 0), (109, .ireturn, 1, 0)]
def r27 : List Row := [(0, .aload_n 0, 1, 0), (1, .iload_n 1, 1, 0), (2, .invokevirtual 133, 3, 23), (5, .aload_n 0, 1, 0), (6, .getfield 13, 3, 6), (9, .iload_n 1, 1, 0), (10, .iaload, 1, 0), (11, .istore_n 2, 1, 0), (12, .aload_n 0, 1, 0), (13, .getfield 16, 3, 7), (16, .iload_n 1, 1, 0), (17, .iaload, 1, 0), (18, .istore_n 3, 1, 0), (19, .iconst 0, 1, 0), (20, .istore 4, 2, 0), (22, .iload 4, 2, 0), (24, .aload_n 0, 1, 0), (25, .getfield 82, 3, 22), (28, .if_icmp .ge 17, 3, 0), (31, .aload_n 0, 1, 0), (32, .getfield 46, 3, 21), (35, .iload 4, 2, 0), (37, .iconst 0, 1, 0), (38, .iastore, 1, 0), (39, .iinc 4 1, 3, 0), (42, .goto (-20), 3, 0), (45, .iconst 0, 1, 0), (46, .istore 4, 2, 0), (48, .iconst 0, 1, 0), (49, .istore 5, 2, 0), (51, .iconst 0, 1, 0), (52, .istore 6, 2, 0), (54, .iload 6, 2, 0), (56, .aload_n 0, 1, 0), (57, .getfield 85, 3, 1), (60, .if_icmp .ge 106, 3, 0), (63, .aload_n 0, 1, 0), (64, .getfield 28, 3, 11), (67, .iload_n 2, 1, 0), (68, .iaload, 1, 0), (69, .iload 6, 2, 0), (71, .ishr, 1, 0), (72, .iconst 1, 1, 0), (73, .iand, 1, 0), (74, .ifCond .ne 6, 3, 0), (77, .goto 83, 3, 0), (80, .iconst 0, 1, 0), (81, .istore 7, 2, 0), (83, .iload 7, 2, 0), (85, .aload_n 0, 1, 0), (86, .getfield 85, 3, 1), (89, .if_icmp .ge 71, 3, 0), (92, .aload_n 0, 1, 0), (93, .getfield 40, 3, 19), (96, .iload 6, 2, 0), (98, .bipush 10, 2, 0), (100, .imul, 1, 0), (101, .iload 7, 2, 0), (103, .iadd, 1, 0), (104, .iaload, 1, 0), (105, .istore 8, 2, 0), (107, .aload_n 0, 1, 0), (108, .getfield 28, 3, 11), (111, .iload_n 3, 1, 0), (112, .iaload, 1, 0), (113, .iload 7, 2, 0), (115, .ishr, 1, 0), (116, .iconst 1, 1, 0), (117, .iand, 1, 0), (118, .ifCond .eq 36, 3, 0), (121, .aload_n 0, 1, 0), (122, .iload 8, 2, 0), (124, .invokevirtual 137, 3, 24), (127, .ifCond .eq 27, 3, 0), (130, .iload 4, 2, 0), (132, .iconst 1, 1, 0), (133, .iload 6, 2, 0), (135, .ishl, 1, 0), (136, .ior, 1, 0), (137, .istore 4, 2, 0), (139, .iload 5, 2, 0), (141, .iconst 1, 1, 0), (142, .iload 7, 2, 0), (144, .ishl, 1, 0), (145, .ior, 1, 0), (146, .istore 5, 2, 0), (148, .aload_n 0, 1, 0), (149, .iload 8, 2, 0), (151, .invokevirtual 140, 3, 25), (154, .iinc 7 1, 3, 0), (157, .goto (-74), 3, 0), (160, .iinc 6 1, 3, 0), (163, .goto (-109), 3, 0), (166, .aload_n 0, 1, 0), (167, .iload_n 2, 1, 0), (168, .iload_n 3, 1, 0), (169, .iload 4, 2, 0), (171, .iload 5, 2, 0), (173, .invokevirtual 143, 3, 28), (176, .ireturn, 1, 0)]
def r28 : List Row := [(0, .iconst 0, 1, 0), (1, .istore 5, 2, 0), (3, .aload_n 0, 1, 0), (4, .getfield 28, 3, 11), (7, .iload_n 1, 1, 0), (8, .iaload, 1, 0), (9, .iload_n 3, 1, 0), (10, .iand, 1, 0), (11, .aload_n 0, 1, 0), (12, .getfield 28, 3, 11), (15, .iload_n 1, 1, 0), (16, .iaload, 1, 0), (17, .if_icmp .eq 16, 3, 0), (20, .aload_n 0, 1, 0), (21, .getfield 28, 3, 11), (24, .iload_n 1, 1, 0), (25, .dup2, 1, 0), (26, .iaload, 1, 0), (27, .iload_n 3, 1, 0), (28, .iand, 1, 0), (29, .iastore, 1, 0), (30, .iconst 1, 1, 0), (31, .istore 5, 2, 0), (33, .aload_n 0, 1, 0), (34, .getfield 28, 3, 11), (37, .iload_n 2, 1, 0), (38, .iaload, 1, 0), (39, .iload 4, 2, 0), (41, .iand, 1, 0), (42, .aload_n 0, 1, 0), (43, .getfield 28, 3, 11), (46, .iload_n 2, 1, 0), (47, .iaload, 1, 0), (48, .if_icmp .eq 17, 3, 0), (51, .aload_n 0, 1, 0), (52, .getfield 28, 3, 11), (55, .iload_n 2, 1, 0), (56, .dup2, 1, 0), (57, .iaload, 1, 0), (58, .iload 4, 2, 0), (60, .iand, 1, 0), (61, .iastore, 1, 0), (62, .iconst 1, 1, 0), (63, .istore 5, 2, 0), (65, .iconst 0, 1, 0), (66, .istore 6, 2, 0), (68, .iload 6, 2, 0), (70, .aload_n 0, 1, 0), (71, .getfield 82, 3, 22), (74, .if_icmp .ge 63, 3, 0), (77, .aload_n 0, 1, 0), (78, .getfield 43, 3, 20), (81, .iload 6, 2, 0), (83, .iaload, 1, 0), (84, .istore 7, 2, 0), (86, .aload_n 0, 1, 0), (87, .getfield 28, 3, 11), (90, .iload 7, 2, 0), (92, .iaload, 1, 0), (93, .aload_n 0, 1, 0), (94, .getfield 46, 3, 21), (97, .iload 6, 2, 0), (99, .iaload, 1, 0), (100, .iand, 1, 0), (101, .aload_n 0, 1, 0), (102, .getfield 28, 3, 11), (105, .iload 7, 2, 0), (107, .iaload, 1, 0), (108, .if_icmp .eq 23, 3, 0), (111, .aload_n 0, 1, 0), (112, .getfield 28, 3, 11), (115, .iload 7, 2, 0), (117, .dup2, 1, 0), (118, .iaload, 1, 0), (119, .aload_n 0, 1, 0), (120, .getfield 46, 3, 21), (123, .iload 6, 2, 0), (125, .iaload, 1, 0), (126, .iand, 1, 0), (127, .iastore, 1, 0), (128, .iconst 1, 1, 0), (129, .istore 5, 2, 0), (131, .iinc 6 1, 3, 0), (134, .goto (-66), 3, 0), (137, .iload 5, 2, 0), (139, .ireturn, 1, 0)]
def r29 : List Row := [(0, .aload_n 0, 1, 0), (1, .getfield 73, 3, 13), (4, .ifCond .eq 10, 3, 0), (7, .aload_n 0, 1, 0), (8, .getfield 76, 3, 14), (11, .goto 4, 3, 0), (14, .iconst 0, 1, 0), (15, .ireturn, 1, 0)]
def r30 : List Row := [(0, .aload_n 0, 1, 0), (1, .getfield 73, 3, 13), (4, .ifCond .eq 11, 3, 0), (7, .aload_n 0, 1, 0), (8, .iload_n 1, 1, 0), (9, .invokevirtual 99, 3, 7), (12, .ifCond .ne 5, 3, 0), (15, .iconst 0, 1, 0), (16, .ireturn, 1, 0), (17, .aload_n 0, 1, 0), (18, .iload_n 2, 1, 0), (19, .invokevirtual 103, 3, 8), (22, .ifCond .eq 11, 3, 0), (25, .aload_n 0, 1, 0), (26, .iload_n 3, 1, 0), (27, .invokevirtual 103, 3, 8), (30, .ifCond .ne 5, 3, 0), (33, .iconst 0, 1, 0), (34, .ireturn, 1, 0), (35, .aload_n 0, 1, 0), (36, .getfield 37, 3, 18), (39, .iload_n 2, 1, 0), (40, .iconst 5, 1, 0), (41, .imul, 1, 0), (42, .iload_n 3, 1, 0), (43, .iadd, 1, 0), (44, .iaload, 1, 0), (45, .istore 4, 2, 0), (47, .aload_n 0, 1, 0), (48, .getfield 28, 3, 11), (51, .iload_n 1, 1, 0), (52, .iaload, 1, 0), (53, .iload 4, 2, 0), (55, .ishr, 1, 0), (56, .iconst 1, 1, 0), (57, .iand, 1, 0), (58, .ifCond .eq 7, 3, 0), (61, .iconst 1, 1, 0), (62, .goto 4, 3, 0), (65, .iconst 0, 1, 0), (66, .ireturn, 1, 0)]
def r31 : List Row := [(0, .aload_n 0, 1, 0), (1, .getfield 73, 3, 13), (4, .ifCond .eq 11, 3, 0), (7, .aload_n 0, 1, 0), (8, .iload_n 1, 1, 0), (9, .invokevirtual 99, 3, 7), (12, .ifCond .ne 5, 3, 0), (15, .iconst (-1), 1, 0), (16, .ireturn, 1, 0), (17, .aload_n 0, 1, 0), (18, .getfield 28, 3, 11), (21, .iload_n 1, 1, 0), (22, .iaload, 1, 0), (23, .istore_n 2, 1, 0), (24, .iconst 0, 1, 0), (25, .istore_n 3, 1, 0), (26, .iconst 0, 1, 0), (27, .istore 4, 2, 0), (29, .iload 4, 2, 0), (31, .bipush 10, 2, 0), (33, .if_icmp .ge 21, 3, 0), (36, .iload_n 2, 1, 0), (37, .iload 4, 2, 0), (39, .ishr, 1, 0), (40, .iconst 1, 1, 0), (41, .iand, 1, 0), (42, .ifCond .eq 6, 3, 0), (45, .iinc 3 1, 3, 0), (48, .iinc 4 1, 3, 0), (51, .goto (-22), 3, 0), (54, .iload_n 3, 1, 0), (55, .ireturn, 1, 0)]
def r32 : List Row := [(0, .aload_n 0, 1, 0), (1, .getfield 73, 3, 13), (4, .ifCond .eq 10, 3, 0), (7, .aload_n 0, 1, 0), (8, .getfield 79, 3, 15), (11, .goto 4, 3, 0), (14, .iconst (-1), 1, 0), (15, .ireturn, 1, 0)]
def r34 : List Row := [(0, .aload_n 0, 1, 0), (1, .getfield 66, 3, 4), (4, .ireturn, 1, 0)]
def prows : List (List Row) := [[], r1, r2, r3, r4, r5, r6, r7, r8, r9, r10, r11, r12, r13, r14, r15, r16, r17, r18, r19, r20, r21, r22, r23, r24, r25, r26, r27, r28, r29, r30, r31, r32, [], r34]
def pinfo : List MInfo := [(0, 0, 9, none, {}), (3, 4, 3, none, { frames := 3, cells := 13, slots := 440, locals := 57 }), (2, 2, 2, some .int, { frames := 0, cells := 0, slots := 0, locals := 0 }), (1, 4, 2, none, { frames := 0, cells := 0, slots := 0, locals := 0 }), (1, 3, 2, none, { frames := 2, cells := 0, slots := 0, locals := 43 }), (3, 5, 2, some .int, { frames := 1, cells := 0, slots := 0, locals := 25 }), (4, 14, 2, some .boolean, { frames := 0, cells := 0, slots := 0, locals := 0 }), (2, 2, 2, some .boolean, { frames := 0, cells := 0, slots := 0, locals := 0 }), (2, 2, 2, some .boolean, { frames := 0, cells := 0, slots := 0, locals := 0 }), (4, 4, 1, some .int, { frames := 1, cells := 0, slots := 0, locals := 13 }), (4, 4, 1, some .int, { frames := 1, cells := 0, slots := 0, locals := 13 }), (2, 2, 1, some .int, { frames := 1, cells := 0, slots := 0, locals := 13 }), (2, 2, 1, none, { frames := 1, cells := 0, slots := 0, locals := 14 }), (1, 1, 2, some .int, { frames := 0, cells := 0, slots := 0, locals := 0 }), (2, 3, 2, some .int, { frames := 1, cells := 0, slots := 0, locals := 12 }), (1, 4, 1, some .int, { frames := 2, cells := 0, slots := 0, locals := 28 }), (2, 2, 1, some .int, { frames := 1, cells := 0, slots := 0, locals := 13 }), (3, 3, 1, some .int, { frames := 1, cells := 0, slots := 0, locals := 13 }), (1, 5, 1, some .int, { frames := 3, cells := 0, slots := 0, locals := 55 }), (1, 2, 2, none, { frames := 0, cells := 0, slots := 0, locals := 0 }), (1, 4, 2, none, { frames := 2, cells := 0, slots := 0, locals := 40 }), (1, 2, 2, some .boolean, { frames := 0, cells := 0, slots := 0, locals := 0 }), (2, 5, 2, some .boolean, { frames := 1, cells := 0, slots := 0, locals := 13 }), (2, 5, 2, none, { frames := 0, cells := 0, slots := 0, locals := 0 }), (2, 3, 2, some .boolean, { frames := 0, cells := 0, slots := 0, locals := 0 }), (2, 3, 2, none, { frames := 0, cells := 0, slots := 0, locals := 0 }), (2, 6, 2, some .boolean, { frames := 1, cells := 0, slots := 0, locals := 16 }), (2, 9, 2, some .boolean, { frames := 1, cells := 0, slots := 0, locals := 19 }), (5, 8, 2, some .boolean, { frames := 0, cells := 0, slots := 0, locals := 0 }), (1, 1, 1, some .int, { frames := 0, cells := 0, slots := 0, locals := 0 }), (4, 5, 1, some .boolean, { frames := 1, cells := 0, slots := 0, locals := 13 }), (2, 5, 1, some .int, { frames := 1, cells := 0, slots := 0, locals := 13 }), (1, 1, 1, some .int, { frames := 0, cells := 0, slots := 0, locals := 0 }), (2, 2, 1, some .int, { frames := 2, cells := 0, slots := 0, locals := 29 }), (1, 1, 1, some .int, { frames := 0, cells := 0, slots := 0, locals := 0 })]
def pft : List FieldType := [.int, .int, .int, .int, .int, .array .int, .array .int, .array .int, .array .int, .array .int, .array .int, .array .int, .boolean, .boolean, .int, .int, .array .int, .array .int, .array .int, .array .int, .array .int, .array .int, .int]
def pj (lw : LW) : Prog := (fun m pc => if m < 100 then (prows.getD m []).lookup pc else lw.1 (m - 100) pc, fun m => if m < 100 then pinfo.getD m (0, 0, 9, none, {}) else lw.2 (m - 100), fun k => pft.getD k .int, 23)
def lay : Lay := ([(.int, 0), (.int, 0), (.int, 0), (.int, 0), (.int, 0), (.array .int, 1), (.array .int, 2), (.array .int, 3), (.array .int, 4), (.array .int, 5), (.array .int, 6), (.array .int, 7), (.boolean, 0), (.boolean, 0), (.int, 0), (.int, 0), (.array .int, 8), (.array .int, 9), (.array .int, 10), (.array .int, 11), (.array .int, 12), (.array .int, 13), (.int, 0)], [(.int, 33), (.int, 33), (.int, 33), (.int, 33), (.int, 33), (.int, 33), (.int, 33), (.int, 10), (.int, 10), (.int, 25), (.int, 100), (.int, 32), (.int, 32)])
abbrev ob (H : AH) (p : Nat) (s : St) : AH := put lay 13 H p s
section Acc
variable {H : AH} {p : Nat} {s : St} {i : Int32} {j q : Nat} {v : Int32} {w : Int64}
theorem g0 : fld (put lay j H p s) p 0 = .int (sI s 0) := fld_I (ty := .int) rfl (by decide) (by simp)
theorem s0 : wr (put lay j H p s) p 0 (.int v) = put lay j H p (uI s 0 v) := wr_I (ty := .int) rfl (by decide) (by simp)
theorem g1 : fld (put lay j H p s) p 1 = .int (sI s 1) := fld_I (ty := .int) rfl (by decide) (by simp)
theorem s1 : wr (put lay j H p s) p 1 (.int v) = put lay j H p (uI s 1 v) := wr_I (ty := .int) rfl (by decide) (by simp)
theorem g2 : fld (put lay j H p s) p 2 = .int (sI s 2) := fld_I (ty := .int) rfl (by decide) (by simp)
theorem s2 : wr (put lay j H p s) p 2 (.int v) = put lay j H p (uI s 2 v) := wr_I (ty := .int) rfl (by decide) (by simp)
theorem g3 : fld (put lay j H p s) p 3 = .int (sI s 3) := fld_I (ty := .int) rfl (by decide) (by simp)
theorem s3 : wr (put lay j H p s) p 3 (.int v) = put lay j H p (uI s 3 v) := wr_I (ty := .int) rfl (by decide) (by simp)
theorem g4 : fld (put lay j H p s) p 4 = .int (sI s 4) := fld_I (ty := .int) rfl (by decide) (by simp)
theorem s4 : wr (put lay j H p s) p 4 (.int v) = put lay j H p (uI s 4 v) := wr_I (ty := .int) rfl (by decide) (by simp)
theorem g5 : fld (ob H p s) p 5 = .ref (p + 1) := fld_R (ty := .int) rfl (by decide)
theorem g6 : fld (ob H p s) p 6 = .ref (p + 2) := fld_R (ty := .int) rfl (by decide)
theorem g7 : fld (ob H p s) p 7 = .ref (p + 3) := fld_R (ty := .int) rfl (by decide)
theorem g8 : fld (ob H p s) p 8 = .ref (p + 4) := fld_R (ty := .int) rfl (by decide)
theorem g9 : fld (ob H p s) p 9 = .ref (p + 5) := fld_R (ty := .int) rfl (by decide)
theorem g10 : fld (ob H p s) p 10 = .ref (p + 6) := fld_R (ty := .int) rfl (by decide)
theorem g11 : fld (ob H p s) p 11 = .ref (p + 7) := fld_R (ty := .int) rfl (by decide)
theorem g12 : fld (put lay j H p s) p 12 = .int (sI s 12) := fld_I (ty := .boolean) rfl (by decide) (by simp)
theorem s12 : wr (put lay j H p s) p 12 (.int v) = put lay j H p (uI s 12 v) := wr_I (ty := .boolean) rfl (by decide) (by simp)
theorem g13 : fld (put lay j H p s) p 13 = .int (sI s 13) := fld_I (ty := .boolean) rfl (by decide) (by simp)
theorem s13 : wr (put lay j H p s) p 13 (.int v) = put lay j H p (uI s 13 v) := wr_I (ty := .boolean) rfl (by decide) (by simp)
theorem g14 : fld (put lay j H p s) p 14 = .int (sI s 14) := fld_I (ty := .int) rfl (by decide) (by simp)
theorem s14 : wr (put lay j H p s) p 14 (.int v) = put lay j H p (uI s 14 v) := wr_I (ty := .int) rfl (by decide) (by simp)
theorem g15 : fld (put lay j H p s) p 15 = .int (sI s 15) := fld_I (ty := .int) rfl (by decide) (by simp)
theorem s15 : wr (put lay j H p s) p 15 (.int v) = put lay j H p (uI s 15 v) := wr_I (ty := .int) rfl (by decide) (by simp)
theorem g16 : fld (ob H p s) p 16 = .ref (p + 8) := fld_R (ty := .int) rfl (by decide)
theorem g17 : fld (ob H p s) p 17 = .ref (p + 9) := fld_R (ty := .int) rfl (by decide)
theorem g18 : fld (ob H p s) p 18 = .ref (p + 10) := fld_R (ty := .int) rfl (by decide)
theorem g19 : fld (ob H p s) p 19 = .ref (p + 11) := fld_R (ty := .int) rfl (by decide)
theorem g20 : fld (ob H p s) p 20 = .ref (p + 12) := fld_R (ty := .int) rfl (by decide)
theorem g21 : fld (ob H p s) p 21 = .ref (p + 13) := fld_R (ty := .int) rfl (by decide)
theorem g22 : fld (put lay j H p s) p 22 = .int (sI s 22) := fld_I (ty := .int) rfl (by decide) (by simp)
theorem s22 : wr (put lay j H p s) p 22 (.int v) = put lay j H p (uI s 22 v) := wr_I (ty := .int) rfl (by decide) (by simp)
theorem ai1 : inA (ob H p s) (p + 1) .int i = true ↔ (0 ≤ i.toInt ∧ i.toInt < 33) := inA_I (t := 0) rfl (by decide) (by decide)
theorem aw1 : inAw (ob H p s) (p + 1) .int i = true ↔ (0 ≤ i.toInt ∧ i.toInt < 33) := inAw_I (t := 0) rfl (by decide) (by decide)
theorem ae1 : elt (ob H p s) (p + 1) i = .int (sA s 1 i.toNatClampNeg) := elt_I (t := 0) (ty := .int) rfl (by decide) (by decide)
theorem as1 : wr (ob H p s) (p + 1) q (.int v) = ob H p (uA s 1 q v) := wr_A (t := 0) (ty := .int) rfl (by decide) (by decide)
theorem ai2 : inA (ob H p s) (p + 2) .int i = true ↔ (0 ≤ i.toInt ∧ i.toInt < 33) := inA_I (t := 1) rfl (by decide) (by decide)
theorem aw2 : inAw (ob H p s) (p + 2) .int i = true ↔ (0 ≤ i.toInt ∧ i.toInt < 33) := inAw_I (t := 1) rfl (by decide) (by decide)
theorem ae2 : elt (ob H p s) (p + 2) i = .int (sA s 2 i.toNatClampNeg) := elt_I (t := 1) (ty := .int) rfl (by decide) (by decide)
theorem as2 : wr (ob H p s) (p + 2) q (.int v) = ob H p (uA s 2 q v) := wr_A (t := 1) (ty := .int) rfl (by decide) (by decide)
theorem ai3 : inA (ob H p s) (p + 3) .int i = true ↔ (0 ≤ i.toInt ∧ i.toInt < 33) := inA_I (t := 2) rfl (by decide) (by decide)
theorem aw3 : inAw (ob H p s) (p + 3) .int i = true ↔ (0 ≤ i.toInt ∧ i.toInt < 33) := inAw_I (t := 2) rfl (by decide) (by decide)
theorem ae3 : elt (ob H p s) (p + 3) i = .int (sA s 3 i.toNatClampNeg) := elt_I (t := 2) (ty := .int) rfl (by decide) (by decide)
theorem as3 : wr (ob H p s) (p + 3) q (.int v) = ob H p (uA s 3 q v) := wr_A (t := 2) (ty := .int) rfl (by decide) (by decide)
theorem ai4 : inA (ob H p s) (p + 4) .int i = true ↔ (0 ≤ i.toInt ∧ i.toInt < 33) := inA_I (t := 3) rfl (by decide) (by decide)
theorem aw4 : inAw (ob H p s) (p + 4) .int i = true ↔ (0 ≤ i.toInt ∧ i.toInt < 33) := inAw_I (t := 3) rfl (by decide) (by decide)
theorem ae4 : elt (ob H p s) (p + 4) i = .int (sA s 4 i.toNatClampNeg) := elt_I (t := 3) (ty := .int) rfl (by decide) (by decide)
theorem as4 : wr (ob H p s) (p + 4) q (.int v) = ob H p (uA s 4 q v) := wr_A (t := 3) (ty := .int) rfl (by decide) (by decide)
theorem ai5 : inA (ob H p s) (p + 5) .int i = true ↔ (0 ≤ i.toInt ∧ i.toInt < 33) := inA_I (t := 4) rfl (by decide) (by decide)
theorem aw5 : inAw (ob H p s) (p + 5) .int i = true ↔ (0 ≤ i.toInt ∧ i.toInt < 33) := inAw_I (t := 4) rfl (by decide) (by decide)
theorem ae5 : elt (ob H p s) (p + 5) i = .int (sA s 5 i.toNatClampNeg) := elt_I (t := 4) (ty := .int) rfl (by decide) (by decide)
theorem as5 : wr (ob H p s) (p + 5) q (.int v) = ob H p (uA s 5 q v) := wr_A (t := 4) (ty := .int) rfl (by decide) (by decide)
theorem ai6 : inA (ob H p s) (p + 6) .int i = true ↔ (0 ≤ i.toInt ∧ i.toInt < 33) := inA_I (t := 5) rfl (by decide) (by decide)
theorem aw6 : inAw (ob H p s) (p + 6) .int i = true ↔ (0 ≤ i.toInt ∧ i.toInt < 33) := inAw_I (t := 5) rfl (by decide) (by decide)
theorem ae6 : elt (ob H p s) (p + 6) i = .int (sA s 6 i.toNatClampNeg) := elt_I (t := 5) (ty := .int) rfl (by decide) (by decide)
theorem as6 : wr (ob H p s) (p + 6) q (.int v) = ob H p (uA s 6 q v) := wr_A (t := 5) (ty := .int) rfl (by decide) (by decide)
theorem ai7 : inA (ob H p s) (p + 7) .int i = true ↔ (0 ≤ i.toInt ∧ i.toInt < 33) := inA_I (t := 6) rfl (by decide) (by decide)
theorem aw7 : inAw (ob H p s) (p + 7) .int i = true ↔ (0 ≤ i.toInt ∧ i.toInt < 33) := inAw_I (t := 6) rfl (by decide) (by decide)
theorem ae7 : elt (ob H p s) (p + 7) i = .int (sA s 7 i.toNatClampNeg) := elt_I (t := 6) (ty := .int) rfl (by decide) (by decide)
theorem as7 : wr (ob H p s) (p + 7) q (.int v) = ob H p (uA s 7 q v) := wr_A (t := 6) (ty := .int) rfl (by decide) (by decide)
theorem ai8 : inA (ob H p s) (p + 8) .int i = true ↔ (0 ≤ i.toInt ∧ i.toInt < 10) := inA_I (t := 7) rfl (by decide) (by decide)
theorem aw8 : inAw (ob H p s) (p + 8) .int i = true ↔ (0 ≤ i.toInt ∧ i.toInt < 10) := inAw_I (t := 7) rfl (by decide) (by decide)
theorem ae8 : elt (ob H p s) (p + 8) i = .int (sA s 8 i.toNatClampNeg) := elt_I (t := 7) (ty := .int) rfl (by decide) (by decide)
theorem as8 : wr (ob H p s) (p + 8) q (.int v) = ob H p (uA s 8 q v) := wr_A (t := 7) (ty := .int) rfl (by decide) (by decide)
theorem ai9 : inA (ob H p s) (p + 9) .int i = true ↔ (0 ≤ i.toInt ∧ i.toInt < 10) := inA_I (t := 8) rfl (by decide) (by decide)
theorem aw9 : inAw (ob H p s) (p + 9) .int i = true ↔ (0 ≤ i.toInt ∧ i.toInt < 10) := inAw_I (t := 8) rfl (by decide) (by decide)
theorem ae9 : elt (ob H p s) (p + 9) i = .int (sA s 9 i.toNatClampNeg) := elt_I (t := 8) (ty := .int) rfl (by decide) (by decide)
theorem as9 : wr (ob H p s) (p + 9) q (.int v) = ob H p (uA s 9 q v) := wr_A (t := 8) (ty := .int) rfl (by decide) (by decide)
theorem ai10 : inA (ob H p s) (p + 10) .int i = true ↔ (0 ≤ i.toInt ∧ i.toInt < 25) := inA_I (t := 9) rfl (by decide) (by decide)
theorem aw10 : inAw (ob H p s) (p + 10) .int i = true ↔ (0 ≤ i.toInt ∧ i.toInt < 25) := inAw_I (t := 9) rfl (by decide) (by decide)
theorem ae10 : elt (ob H p s) (p + 10) i = .int (sA s 10 i.toNatClampNeg) := elt_I (t := 9) (ty := .int) rfl (by decide) (by decide)
theorem as10 : wr (ob H p s) (p + 10) q (.int v) = ob H p (uA s 10 q v) := wr_A (t := 9) (ty := .int) rfl (by decide) (by decide)
theorem ai11 : inA (ob H p s) (p + 11) .int i = true ↔ (0 ≤ i.toInt ∧ i.toInt < 100) := inA_I (t := 10) rfl (by decide) (by decide)
theorem aw11 : inAw (ob H p s) (p + 11) .int i = true ↔ (0 ≤ i.toInt ∧ i.toInt < 100) := inAw_I (t := 10) rfl (by decide) (by decide)
theorem ae11 : elt (ob H p s) (p + 11) i = .int (sA s 11 i.toNatClampNeg) := elt_I (t := 10) (ty := .int) rfl (by decide) (by decide)
theorem as11 : wr (ob H p s) (p + 11) q (.int v) = ob H p (uA s 11 q v) := wr_A (t := 10) (ty := .int) rfl (by decide) (by decide)
theorem ai12 : inA (ob H p s) (p + 12) .int i = true ↔ (0 ≤ i.toInt ∧ i.toInt < 32) := inA_I (t := 11) rfl (by decide) (by decide)
theorem aw12 : inAw (ob H p s) (p + 12) .int i = true ↔ (0 ≤ i.toInt ∧ i.toInt < 32) := inAw_I (t := 11) rfl (by decide) (by decide)
theorem ae12 : elt (ob H p s) (p + 12) i = .int (sA s 12 i.toNatClampNeg) := elt_I (t := 11) (ty := .int) rfl (by decide) (by decide)
theorem as12 : wr (ob H p s) (p + 12) q (.int v) = ob H p (uA s 12 q v) := wr_A (t := 11) (ty := .int) rfl (by decide) (by decide)
theorem ai13 : inA (ob H p s) (p + 13) .int i = true ↔ (0 ≤ i.toInt ∧ i.toInt < 32) := inA_I (t := 12) rfl (by decide) (by decide)
theorem aw13 : inAw (ob H p s) (p + 13) .int i = true ↔ (0 ≤ i.toInt ∧ i.toInt < 32) := inAw_I (t := 12) rfl (by decide) (by decide)
theorem ae13 : elt (ob H p s) (p + 13) i = .int (sA s 13 i.toNatClampNeg) := elt_I (t := 12) (ty := .int) rfl (by decide) (by decide)
theorem as13 : wr (ob H p s) (p + 13) q (.int v) = ob H p (uA s 13 q v) := wr_A (t := 12) (ty := .int) rfl (by decide) (by decide)
theorem mkO_ob {lw : LW} : mkO (pj lw) H = put lay 0 (H.1 + 1, H.2) H.1 z0 := mkO_put rfl (fun k => match k with | 0 => rfl | 1 => rfl | 2 => rfl | 3 => rfl | 4 => rfl | 5 => rfl | 6 => rfl | 7 => rfl | 8 => rfl | 9 => rfl | 10 => rfl | 11 => rfl | 12 => rfl | 13 => rfl | 14 => rfl | 15 => rfl | 16 => rfl | 17 => rfl | 18 => rfl | 19 => rfl | 20 => rfl | 21 => rfl | 22 => rfl | (_ + 23) => rfl)
theorem mk1 {h : Nat → Cel} (hz : zr s 1) : wr (mkA .int 33 (put lay 0 (p + 1, h) p s)) p 5 (.ref (p + 1)) = put lay 1 (p + 2, h) p s := mkA_put (j := 0) rfl rfl (by decide) hz.1 hz.2 (Or.inl rfl)
theorem io1 {h : Nat → Cel} : isOw (mkA .int 33 (put lay 0 (p + 1, h) p s)) p = true := isOw_mk (c := 0)
theorem mk2 {h : Nat → Cel} (hz : zr s 2) : wr (mkA .int 33 (put lay 1 (p + 2, h) p s)) p 6 (.ref (p + 2)) = put lay 2 (p + 3, h) p s := mkA_put (j := 1) rfl rfl (by decide) hz.1 hz.2 (Or.inl rfl)
theorem io2 {h : Nat → Cel} : isOw (mkA .int 33 (put lay 1 (p + 2, h) p s)) p = true := isOw_mk (c := 1)
theorem mk3 {h : Nat → Cel} (hz : zr s 3) : wr (mkA .int 33 (put lay 2 (p + 3, h) p s)) p 7 (.ref (p + 3)) = put lay 3 (p + 4, h) p s := mkA_put (j := 2) rfl rfl (by decide) hz.1 hz.2 (Or.inl rfl)
theorem io3 {h : Nat → Cel} : isOw (mkA .int 33 (put lay 2 (p + 3, h) p s)) p = true := isOw_mk (c := 2)
theorem mk4 {h : Nat → Cel} (hz : zr s 4) : wr (mkA .int 33 (put lay 3 (p + 4, h) p s)) p 8 (.ref (p + 4)) = put lay 4 (p + 5, h) p s := mkA_put (j := 3) rfl rfl (by decide) hz.1 hz.2 (Or.inl rfl)
theorem io4 {h : Nat → Cel} : isOw (mkA .int 33 (put lay 3 (p + 4, h) p s)) p = true := isOw_mk (c := 3)
theorem mk5 {h : Nat → Cel} (hz : zr s 5) : wr (mkA .int 33 (put lay 4 (p + 5, h) p s)) p 9 (.ref (p + 5)) = put lay 5 (p + 6, h) p s := mkA_put (j := 4) rfl rfl (by decide) hz.1 hz.2 (Or.inl rfl)
theorem io5 {h : Nat → Cel} : isOw (mkA .int 33 (put lay 4 (p + 5, h) p s)) p = true := isOw_mk (c := 4)
theorem mk6 {h : Nat → Cel} (hz : zr s 6) : wr (mkA .int 33 (put lay 5 (p + 6, h) p s)) p 10 (.ref (p + 6)) = put lay 6 (p + 7, h) p s := mkA_put (j := 5) rfl rfl (by decide) hz.1 hz.2 (Or.inl rfl)
theorem io6 {h : Nat → Cel} : isOw (mkA .int 33 (put lay 5 (p + 6, h) p s)) p = true := isOw_mk (c := 5)
theorem mk7 {h : Nat → Cel} (hz : zr s 7) : wr (mkA .int 33 (put lay 6 (p + 7, h) p s)) p 11 (.ref (p + 7)) = put lay 7 (p + 8, h) p s := mkA_put (j := 6) rfl rfl (by decide) hz.1 hz.2 (Or.inl rfl)
theorem io7 {h : Nat → Cel} : isOw (mkA .int 33 (put lay 6 (p + 7, h) p s)) p = true := isOw_mk (c := 6)
theorem mk8 {h : Nat → Cel} (hz : zr s 8) : wr (mkA .int 10 (put lay 7 (p + 8, h) p s)) p 16 (.ref (p + 8)) = put lay 8 (p + 9, h) p s := mkA_put (j := 7) rfl rfl (by decide) hz.1 hz.2 (Or.inl rfl)
theorem io8 {h : Nat → Cel} : isOw (mkA .int 10 (put lay 7 (p + 8, h) p s)) p = true := isOw_mk (c := 7)
theorem mk9 {h : Nat → Cel} (hz : zr s 9) : wr (mkA .int 10 (put lay 8 (p + 9, h) p s)) p 17 (.ref (p + 9)) = put lay 9 (p + 10, h) p s := mkA_put (j := 8) rfl rfl (by decide) hz.1 hz.2 (Or.inl rfl)
theorem io9 {h : Nat → Cel} : isOw (mkA .int 10 (put lay 8 (p + 9, h) p s)) p = true := isOw_mk (c := 8)
theorem mk10 {h : Nat → Cel} (hz : zr s 10) : wr (mkA .int 25 (put lay 9 (p + 10, h) p s)) p 18 (.ref (p + 10)) = put lay 10 (p + 11, h) p s := mkA_put (j := 9) rfl rfl (by decide) hz.1 hz.2 (Or.inl rfl)
theorem io10 {h : Nat → Cel} : isOw (mkA .int 25 (put lay 9 (p + 10, h) p s)) p = true := isOw_mk (c := 9)
theorem mk11 {h : Nat → Cel} (hz : zr s 11) : wr (mkA .int 100 (put lay 10 (p + 11, h) p s)) p 19 (.ref (p + 11)) = put lay 11 (p + 12, h) p s := mkA_put (j := 10) rfl rfl (by decide) hz.1 hz.2 (Or.inl rfl)
theorem io11 {h : Nat → Cel} : isOw (mkA .int 100 (put lay 10 (p + 11, h) p s)) p = true := isOw_mk (c := 10)
theorem mk12 {h : Nat → Cel} (hz : zr s 12) : wr (mkA .int 32 (put lay 11 (p + 12, h) p s)) p 20 (.ref (p + 12)) = put lay 12 (p + 13, h) p s := mkA_put (j := 11) rfl rfl (by decide) hz.1 hz.2 (Or.inl rfl)
theorem io12 {h : Nat → Cel} : isOw (mkA .int 32 (put lay 11 (p + 12, h) p s)) p = true := isOw_mk (c := 11)
theorem mk13 {h : Nat → Cel} (hz : zr s 13) : wr (mkA .int 32 (put lay 12 (p + 13, h) p s)) p 21 (.ref (p + 13)) = put lay 13 (p + 14, h) p s := mkA_put (j := 12) rfl rfl (by decide) hz.1 hz.2 (Or.inl rfl)
theorem io13 {h : Nat → Cel} : isOw (mkA .int 32 (put lay 12 (p + 13, h) p s)) p = true := isOw_mk (c := 12)
end Acc
section Pc
variable {lw : LW} {L : List Slot} {S : List Value} {k n : Nat} {H : AH} {Q : Option Value → AH → Prop}
theorem c1 {x0 : Nat} {x1 : Int32} {x2 : Int32} : Cl (pj lw) 1 [.ref x0, .int x1, .int x2] H Q ↔ W (pj lw) 1 0 [.val (.ref x0), .val (.int x1), .val (.int x2), .unset] [] 0 0 H Q := cl_unf rfl
theorem w1_0 {x : Nat} : W (pj lw) 1 0 (.val (.ref x) :: L) S k n H Q ↔ W (pj lw) 1 1 (.val (.ref x) :: L) (.ref x :: S) k n H Q := W_s (rfl : (pj lw).1 1 0 = some (.aload_n 0, 1, 0)) rfl rfl rfl
theorem w1_1 {a : Nat} : W (pj lw) 1 1 L (.ref a :: S) k n H Q ↔ ((1 ≤ 3 ∧ cs S + 12 ≤ 57) ∧ W (pj lw) 1 4 L S k n H Q) := W_oinit (rfl : (pj lw).1 1 1 = some (.invokespecial 1, 3, (-1)))
theorem w1_4 {x : Nat} : W (pj lw) 1 4 (.val (.ref x) :: L) S k n H Q ↔ W (pj lw) 1 5 (.val (.ref x) :: L) (.ref x :: S) k n H Q := W_s (rfl : (pj lw).1 1 4 = some (.aload_n 0, 1, 0)) rfl rfl rfl
theorem w1_5 : W (pj lw) 1 5 L S k n H Q ↔ W (pj lw) 1 7 L (.int 33 :: S) k n H Q := W_s (rfl : (pj lw).1 1 5 = some (.bipush 33, 2, 0)) rfl rfl rfl
theorem w1_7 : W (pj lw) 1 7 L (.int 33 :: S) k n H Q ↔ ((k + 1 ≤ 13 ∧ n + 33 ≤ 440) ∧ W (pj lw) 1 9 L (.ref H.1 :: S) (k + 1) (n + 33) (mkA .int 33 H) Q) := W_newarr' (rfl : (pj lw).1 1 7 = some (.newarray .int, 2, 0)) rfl (by decide) (by decide)
theorem w1_9 {a : Nat} {v : Value} : W (pj lw) 1 9 L (v :: .ref a :: S) k n H Q ↔ ((isOw H a = true ∧ okv (.array .int) v = true) ∧ W (pj lw) 1 12 L S k n (wr H a 5 v) Q) := W_putf (rfl : (pj lw).1 1 9 = some (.putfield 7, 3, 5))
theorem w1_12 {x : Nat} : W (pj lw) 1 12 (.val (.ref x) :: L) S k n H Q ↔ W (pj lw) 1 13 (.val (.ref x) :: L) (.ref x :: S) k n H Q := W_s (rfl : (pj lw).1 1 12 = some (.aload_n 0, 1, 0)) rfl rfl rfl
theorem w1_13 : W (pj lw) 1 13 L S k n H Q ↔ W (pj lw) 1 15 L (.int 33 :: S) k n H Q := W_s (rfl : (pj lw).1 1 13 = some (.bipush 33, 2, 0)) rfl rfl rfl
theorem w1_15 : W (pj lw) 1 15 L (.int 33 :: S) k n H Q ↔ ((k + 1 ≤ 13 ∧ n + 33 ≤ 440) ∧ W (pj lw) 1 17 L (.ref H.1 :: S) (k + 1) (n + 33) (mkA .int 33 H) Q) := W_newarr' (rfl : (pj lw).1 1 15 = some (.newarray .int, 2, 0)) rfl (by decide) (by decide)
theorem w1_17 {a : Nat} {v : Value} : W (pj lw) 1 17 L (v :: .ref a :: S) k n H Q ↔ ((isOw H a = true ∧ okv (.array .int) v = true) ∧ W (pj lw) 1 20 L S k n (wr H a 6 v) Q) := W_putf (rfl : (pj lw).1 1 17 = some (.putfield 13, 3, 6))
theorem w1_20 {x : Nat} : W (pj lw) 1 20 (.val (.ref x) :: L) S k n H Q ↔ W (pj lw) 1 21 (.val (.ref x) :: L) (.ref x :: S) k n H Q := W_s (rfl : (pj lw).1 1 20 = some (.aload_n 0, 1, 0)) rfl rfl rfl
theorem w1_21 : W (pj lw) 1 21 L S k n H Q ↔ W (pj lw) 1 23 L (.int 33 :: S) k n H Q := W_s (rfl : (pj lw).1 1 21 = some (.bipush 33, 2, 0)) rfl rfl rfl
theorem w1_23 : W (pj lw) 1 23 L (.int 33 :: S) k n H Q ↔ ((k + 1 ≤ 13 ∧ n + 33 ≤ 440) ∧ W (pj lw) 1 25 L (.ref H.1 :: S) (k + 1) (n + 33) (mkA .int 33 H) Q) := W_newarr' (rfl : (pj lw).1 1 23 = some (.newarray .int, 2, 0)) rfl (by decide) (by decide)
theorem w1_25 {a : Nat} {v : Value} : W (pj lw) 1 25 L (v :: .ref a :: S) k n H Q ↔ ((isOw H a = true ∧ okv (.array .int) v = true) ∧ W (pj lw) 1 28 L S k n (wr H a 7 v) Q) := W_putf (rfl : (pj lw).1 1 25 = some (.putfield 16, 3, 7))
theorem w1_28 {x : Nat} : W (pj lw) 1 28 (.val (.ref x) :: L) S k n H Q ↔ W (pj lw) 1 29 (.val (.ref x) :: L) (.ref x :: S) k n H Q := W_s (rfl : (pj lw).1 1 28 = some (.aload_n 0, 1, 0)) rfl rfl rfl
theorem w1_29 : W (pj lw) 1 29 L S k n H Q ↔ W (pj lw) 1 31 L (.int 33 :: S) k n H Q := W_s (rfl : (pj lw).1 1 29 = some (.bipush 33, 2, 0)) rfl rfl rfl
theorem w1_31 : W (pj lw) 1 31 L (.int 33 :: S) k n H Q ↔ ((k + 1 ≤ 13 ∧ n + 33 ≤ 440) ∧ W (pj lw) 1 33 L (.ref H.1 :: S) (k + 1) (n + 33) (mkA .int 33 H) Q) := W_newarr' (rfl : (pj lw).1 1 31 = some (.newarray .int, 2, 0)) rfl (by decide) (by decide)
theorem w1_33 {a : Nat} {v : Value} : W (pj lw) 1 33 L (v :: .ref a :: S) k n H Q ↔ ((isOw H a = true ∧ okv (.array .int) v = true) ∧ W (pj lw) 1 36 L S k n (wr H a 8 v) Q) := W_putf (rfl : (pj lw).1 1 33 = some (.putfield 19, 3, 8))
theorem w1_36 {x : Nat} : W (pj lw) 1 36 (.val (.ref x) :: L) S k n H Q ↔ W (pj lw) 1 37 (.val (.ref x) :: L) (.ref x :: S) k n H Q := W_s (rfl : (pj lw).1 1 36 = some (.aload_n 0, 1, 0)) rfl rfl rfl
theorem w1_37 : W (pj lw) 1 37 L S k n H Q ↔ W (pj lw) 1 39 L (.int 33 :: S) k n H Q := W_s (rfl : (pj lw).1 1 37 = some (.bipush 33, 2, 0)) rfl rfl rfl
theorem w1_39 : W (pj lw) 1 39 L (.int 33 :: S) k n H Q ↔ ((k + 1 ≤ 13 ∧ n + 33 ≤ 440) ∧ W (pj lw) 1 41 L (.ref H.1 :: S) (k + 1) (n + 33) (mkA .int 33 H) Q) := W_newarr' (rfl : (pj lw).1 1 39 = some (.newarray .int, 2, 0)) rfl (by decide) (by decide)
theorem w1_41 {a : Nat} {v : Value} : W (pj lw) 1 41 L (v :: .ref a :: S) k n H Q ↔ ((isOw H a = true ∧ okv (.array .int) v = true) ∧ W (pj lw) 1 44 L S k n (wr H a 9 v) Q) := W_putf (rfl : (pj lw).1 1 41 = some (.putfield 22, 3, 9))
theorem w1_44 {x : Nat} : W (pj lw) 1 44 (.val (.ref x) :: L) S k n H Q ↔ W (pj lw) 1 45 (.val (.ref x) :: L) (.ref x :: S) k n H Q := W_s (rfl : (pj lw).1 1 44 = some (.aload_n 0, 1, 0)) rfl rfl rfl
theorem w1_45 : W (pj lw) 1 45 L S k n H Q ↔ W (pj lw) 1 47 L (.int 33 :: S) k n H Q := W_s (rfl : (pj lw).1 1 45 = some (.bipush 33, 2, 0)) rfl rfl rfl
theorem w1_47 : W (pj lw) 1 47 L (.int 33 :: S) k n H Q ↔ ((k + 1 ≤ 13 ∧ n + 33 ≤ 440) ∧ W (pj lw) 1 49 L (.ref H.1 :: S) (k + 1) (n + 33) (mkA .int 33 H) Q) := W_newarr' (rfl : (pj lw).1 1 47 = some (.newarray .int, 2, 0)) rfl (by decide) (by decide)
theorem w1_49 {a : Nat} {v : Value} : W (pj lw) 1 49 L (v :: .ref a :: S) k n H Q ↔ ((isOw H a = true ∧ okv (.array .int) v = true) ∧ W (pj lw) 1 52 L S k n (wr H a 10 v) Q) := W_putf (rfl : (pj lw).1 1 49 = some (.putfield 25, 3, 10))
theorem w1_52 {x : Nat} : W (pj lw) 1 52 (.val (.ref x) :: L) S k n H Q ↔ W (pj lw) 1 53 (.val (.ref x) :: L) (.ref x :: S) k n H Q := W_s (rfl : (pj lw).1 1 52 = some (.aload_n 0, 1, 0)) rfl rfl rfl
theorem w1_53 : W (pj lw) 1 53 L S k n H Q ↔ W (pj lw) 1 55 L (.int 33 :: S) k n H Q := W_s (rfl : (pj lw).1 1 53 = some (.bipush 33, 2, 0)) rfl rfl rfl
theorem w1_55 : W (pj lw) 1 55 L (.int 33 :: S) k n H Q ↔ ((k + 1 ≤ 13 ∧ n + 33 ≤ 440) ∧ W (pj lw) 1 57 L (.ref H.1 :: S) (k + 1) (n + 33) (mkA .int 33 H) Q) := W_newarr' (rfl : (pj lw).1 1 55 = some (.newarray .int, 2, 0)) rfl (by decide) (by decide)
theorem w1_57 {a : Nat} {v : Value} : W (pj lw) 1 57 L (v :: .ref a :: S) k n H Q ↔ ((isOw H a = true ∧ okv (.array .int) v = true) ∧ W (pj lw) 1 60 L S k n (wr H a 11 v) Q) := W_putf (rfl : (pj lw).1 1 57 = some (.putfield 28, 3, 11))
theorem w1_60 {x : Nat} : W (pj lw) 1 60 (.val (.ref x) :: L) S k n H Q ↔ W (pj lw) 1 61 (.val (.ref x) :: L) (.ref x :: S) k n H Q := W_s (rfl : (pj lw).1 1 60 = some (.aload_n 0, 1, 0)) rfl rfl rfl
theorem w1_61 : W (pj lw) 1 61 L S k n H Q ↔ W (pj lw) 1 63 L (.int 10 :: S) k n H Q := W_s (rfl : (pj lw).1 1 61 = some (.bipush 10, 2, 0)) rfl rfl rfl
theorem w1_63 : W (pj lw) 1 63 L (.int 10 :: S) k n H Q ↔ ((k + 1 ≤ 13 ∧ n + 10 ≤ 440) ∧ W (pj lw) 1 65 L (.ref H.1 :: S) (k + 1) (n + 10) (mkA .int 10 H) Q) := W_newarr' (rfl : (pj lw).1 1 63 = some (.newarray .int, 2, 0)) rfl (by decide) (by decide)
theorem w1_65 {a : Nat} {v : Value} : W (pj lw) 1 65 L (v :: .ref a :: S) k n H Q ↔ ((isOw H a = true ∧ okv (.array .int) v = true) ∧ W (pj lw) 1 68 L S k n (wr H a 16 v) Q) := W_putf (rfl : (pj lw).1 1 65 = some (.putfield 31, 3, 16))
theorem w1_68 {x : Nat} : W (pj lw) 1 68 (.val (.ref x) :: L) S k n H Q ↔ W (pj lw) 1 69 (.val (.ref x) :: L) (.ref x :: S) k n H Q := W_s (rfl : (pj lw).1 1 68 = some (.aload_n 0, 1, 0)) rfl rfl rfl
theorem w1_69 : W (pj lw) 1 69 L S k n H Q ↔ W (pj lw) 1 71 L (.int 10 :: S) k n H Q := W_s (rfl : (pj lw).1 1 69 = some (.bipush 10, 2, 0)) rfl rfl rfl
theorem w1_71 : W (pj lw) 1 71 L (.int 10 :: S) k n H Q ↔ ((k + 1 ≤ 13 ∧ n + 10 ≤ 440) ∧ W (pj lw) 1 73 L (.ref H.1 :: S) (k + 1) (n + 10) (mkA .int 10 H) Q) := W_newarr' (rfl : (pj lw).1 1 71 = some (.newarray .int, 2, 0)) rfl (by decide) (by decide)
theorem w1_73 {a : Nat} {v : Value} : W (pj lw) 1 73 L (v :: .ref a :: S) k n H Q ↔ ((isOw H a = true ∧ okv (.array .int) v = true) ∧ W (pj lw) 1 76 L S k n (wr H a 17 v) Q) := W_putf (rfl : (pj lw).1 1 73 = some (.putfield 34, 3, 17))
theorem w1_76 {x : Nat} : W (pj lw) 1 76 (.val (.ref x) :: L) S k n H Q ↔ W (pj lw) 1 77 (.val (.ref x) :: L) (.ref x :: S) k n H Q := W_s (rfl : (pj lw).1 1 76 = some (.aload_n 0, 1, 0)) rfl rfl rfl
theorem w1_77 : W (pj lw) 1 77 L S k n H Q ↔ W (pj lw) 1 79 L (.int 25 :: S) k n H Q := W_s (rfl : (pj lw).1 1 77 = some (.bipush 25, 2, 0)) rfl rfl rfl
theorem w1_79 : W (pj lw) 1 79 L (.int 25 :: S) k n H Q ↔ ((k + 1 ≤ 13 ∧ n + 25 ≤ 440) ∧ W (pj lw) 1 81 L (.ref H.1 :: S) (k + 1) (n + 25) (mkA .int 25 H) Q) := W_newarr' (rfl : (pj lw).1 1 79 = some (.newarray .int, 2, 0)) rfl (by decide) (by decide)
theorem w1_81 {a : Nat} {v : Value} : W (pj lw) 1 81 L (v :: .ref a :: S) k n H Q ↔ ((isOw H a = true ∧ okv (.array .int) v = true) ∧ W (pj lw) 1 84 L S k n (wr H a 18 v) Q) := W_putf (rfl : (pj lw).1 1 81 = some (.putfield 37, 3, 18))
theorem w1_84 {x : Nat} : W (pj lw) 1 84 (.val (.ref x) :: L) S k n H Q ↔ W (pj lw) 1 85 (.val (.ref x) :: L) (.ref x :: S) k n H Q := W_s (rfl : (pj lw).1 1 84 = some (.aload_n 0, 1, 0)) rfl rfl rfl
theorem w1_85 : W (pj lw) 1 85 L S k n H Q ↔ W (pj lw) 1 87 L (.int 100 :: S) k n H Q := W_s (rfl : (pj lw).1 1 85 = some (.bipush 100, 2, 0)) rfl rfl rfl
theorem w1_87 : W (pj lw) 1 87 L (.int 100 :: S) k n H Q ↔ ((k + 1 ≤ 13 ∧ n + 100 ≤ 440) ∧ W (pj lw) 1 89 L (.ref H.1 :: S) (k + 1) (n + 100) (mkA .int 100 H) Q) := W_newarr' (rfl : (pj lw).1 1 87 = some (.newarray .int, 2, 0)) rfl (by decide) (by decide)
theorem w1_89 {a : Nat} {v : Value} : W (pj lw) 1 89 L (v :: .ref a :: S) k n H Q ↔ ((isOw H a = true ∧ okv (.array .int) v = true) ∧ W (pj lw) 1 92 L S k n (wr H a 19 v) Q) := W_putf (rfl : (pj lw).1 1 89 = some (.putfield 40, 3, 19))
theorem w1_92 {x : Nat} : W (pj lw) 1 92 (.val (.ref x) :: L) S k n H Q ↔ W (pj lw) 1 93 (.val (.ref x) :: L) (.ref x :: S) k n H Q := W_s (rfl : (pj lw).1 1 92 = some (.aload_n 0, 1, 0)) rfl rfl rfl
theorem w1_93 : W (pj lw) 1 93 L S k n H Q ↔ W (pj lw) 1 95 L (.int 32 :: S) k n H Q := W_s (rfl : (pj lw).1 1 93 = some (.bipush 32, 2, 0)) rfl rfl rfl
theorem w1_95 : W (pj lw) 1 95 L (.int 32 :: S) k n H Q ↔ ((k + 1 ≤ 13 ∧ n + 32 ≤ 440) ∧ W (pj lw) 1 97 L (.ref H.1 :: S) (k + 1) (n + 32) (mkA .int 32 H) Q) := W_newarr' (rfl : (pj lw).1 1 95 = some (.newarray .int, 2, 0)) rfl (by decide) (by decide)
theorem w1_97 {a : Nat} {v : Value} : W (pj lw) 1 97 L (v :: .ref a :: S) k n H Q ↔ ((isOw H a = true ∧ okv (.array .int) v = true) ∧ W (pj lw) 1 100 L S k n (wr H a 20 v) Q) := W_putf (rfl : (pj lw).1 1 97 = some (.putfield 43, 3, 20))
theorem w1_100 {x : Nat} : W (pj lw) 1 100 (.val (.ref x) :: L) S k n H Q ↔ W (pj lw) 1 101 (.val (.ref x) :: L) (.ref x :: S) k n H Q := W_s (rfl : (pj lw).1 1 100 = some (.aload_n 0, 1, 0)) rfl rfl rfl
theorem w1_101 : W (pj lw) 1 101 L S k n H Q ↔ W (pj lw) 1 103 L (.int 32 :: S) k n H Q := W_s (rfl : (pj lw).1 1 101 = some (.bipush 32, 2, 0)) rfl rfl rfl
theorem w1_103 : W (pj lw) 1 103 L (.int 32 :: S) k n H Q ↔ ((k + 1 ≤ 13 ∧ n + 32 ≤ 440) ∧ W (pj lw) 1 105 L (.ref H.1 :: S) (k + 1) (n + 32) (mkA .int 32 H) Q) := W_newarr' (rfl : (pj lw).1 1 103 = some (.newarray .int, 2, 0)) rfl (by decide) (by decide)
theorem w1_105 {a : Nat} {v : Value} : W (pj lw) 1 105 L (v :: .ref a :: S) k n H Q ↔ ((isOw H a = true ∧ okv (.array .int) v = true) ∧ W (pj lw) 1 108 L S k n (wr H a 21 v) Q) := W_putf (rfl : (pj lw).1 1 105 = some (.putfield 46, 3, 21))
theorem w1_108 {x : Int32} {l0 : Slot} : W (pj lw) 1 108 (l0 :: .val (.int x) :: L) S k n H Q ↔ W (pj lw) 1 109 (l0 :: .val (.int x) :: L) (.int x :: S) k n H Q := W_s (rfl : (pj lw).1 1 108 = some (.iload_n 1, 1, 0)) rfl rfl rfl
theorem w1_109 {x : Int32} {l0 l1 l2 : Slot} : W (pj lw) 1 109 (l0 :: l1 :: l2 :: .unset :: L) (.int x :: S) k n H Q ↔ W (pj lw) 1 110 (l0 :: l1 :: l2 :: .val (.int x) :: L) S k n H Q := W_istn (rfl : (pj lw).1 1 109 = some (.istore_n 3, 1, 0)) rfl rfl
theorem w1_110 {x : Int32} {l0 l1 l2 : Slot} : W (pj lw) 1 110 (l0 :: l1 :: l2 :: .val (.int x) :: L) S k n H Q ↔ W (pj lw) 1 111 (l0 :: l1 :: l2 :: .val (.int x) :: L) (.int x :: S) k n H Q := W_s (rfl : (pj lw).1 1 110 = some (.iload_n 3, 1, 0)) rfl rfl rfl
theorem w1_111 : W (pj lw) 1 111 L S k n H Q ↔ W (pj lw) 1 112 L (.int 2 :: S) k n H Q := W_s (rfl : (pj lw).1 1 111 = some (.iconst 2, 1, 0)) rfl rfl rfl
theorem w1_112 {x y : Int32} : W (pj lw) 1 112 L (.int y :: .int x :: S) k n H Q ↔ (if x < y then W (pj lw) 1 115 L S k n H Q else W (pj lw) 1 117 L S k n H Q) := W_icmp_ge (rfl : (pj lw).1 1 112 = some (.if_icmp .ge 5, 3, 0)) rfl
theorem w1_115 : W (pj lw) 1 115 L S k n H Q ↔ W (pj lw) 1 116 L (.int 2 :: S) k n H Q := W_s (rfl : (pj lw).1 1 115 = some (.iconst 2, 1, 0)) rfl rfl rfl
theorem w1_116i {y : Int32} {x : Int32} {l0 l1 l2 : Slot} : W (pj lw) 1 116 (l0 :: l1 :: l2 :: .val (.int y) :: L) (.int x :: S) k n H Q ↔ W (pj lw) 1 117 (l0 :: l1 :: l2 :: .val (.int x) :: L) S k n H Q := W_istn (rfl : (pj lw).1 1 116 = some (.istore_n 3, 1, 0)) rfl rfl
theorem w1_117 {x : Int32} {l0 l1 l2 : Slot} : W (pj lw) 1 117 (l0 :: l1 :: l2 :: .val (.int x) :: L) S k n H Q ↔ W (pj lw) 1 118 (l0 :: l1 :: l2 :: .val (.int x) :: L) (.int x :: S) k n H Q := W_s (rfl : (pj lw).1 1 117 = some (.iload_n 3, 1, 0)) rfl rfl rfl
theorem w1_118 : W (pj lw) 1 118 L S k n H Q ↔ W (pj lw) 1 119 L (.int 4 :: S) k n H Q := W_s (rfl : (pj lw).1 1 118 = some (.iconst 4, 1, 0)) rfl rfl rfl
theorem w1_119 {x y : Int32} : W (pj lw) 1 119 L (.int y :: .int x :: S) k n H Q ↔ (if y < x then W (pj lw) 1 122 L S k n H Q else W (pj lw) 1 124 L S k n H Q) := W_icmp_le (rfl : (pj lw).1 1 119 = some (.if_icmp .le 5, 3, 0)) rfl
theorem w1_122 : W (pj lw) 1 122 L S k n H Q ↔ W (pj lw) 1 123 L (.int 4 :: S) k n H Q := W_s (rfl : (pj lw).1 1 122 = some (.iconst 4, 1, 0)) rfl rfl rfl
theorem w1_123i {y : Int32} {x : Int32} {l0 l1 l2 : Slot} : W (pj lw) 1 123 (l0 :: l1 :: l2 :: .val (.int y) :: L) (.int x :: S) k n H Q ↔ W (pj lw) 1 124 (l0 :: l1 :: l2 :: .val (.int x) :: L) S k n H Q := W_istn (rfl : (pj lw).1 1 123 = some (.istore_n 3, 1, 0)) rfl rfl
theorem w1_124 {x : Nat} : W (pj lw) 1 124 (.val (.ref x) :: L) S k n H Q ↔ W (pj lw) 1 125 (.val (.ref x) :: L) (.ref x :: S) k n H Q := W_s (rfl : (pj lw).1 1 124 = some (.aload_n 0, 1, 0)) rfl rfl rfl
theorem w1_125 {x : Int32} {l0 l1 l2 : Slot} : W (pj lw) 1 125 (l0 :: l1 :: l2 :: .val (.int x) :: L) S k n H Q ↔ W (pj lw) 1 126 (l0 :: l1 :: l2 :: .val (.int x) :: L) (.int x :: S) k n H Q := W_s (rfl : (pj lw).1 1 125 = some (.iload_n 3, 1, 0)) rfl rfl rfl
theorem w1_126 {a : Nat} {v : Value} : W (pj lw) 1 126 L (v :: .ref a :: S) k n H Q ↔ ((isOw H a = true ∧ okv (.int) v = true) ∧ W (pj lw) 1 129 L S k n (wr H a 0 v) Q) := W_putf (rfl : (pj lw).1 1 126 = some (.putfield 49, 3, 0))
theorem w1_129 {x : Nat} : W (pj lw) 1 129 (.val (.ref x) :: L) S k n H Q ↔ W (pj lw) 1 130 (.val (.ref x) :: L) (.ref x :: S) k n H Q := W_s (rfl : (pj lw).1 1 129 = some (.aload_n 0, 1, 0)) rfl rfl rfl
theorem w1_130 {x : Nat} : W (pj lw) 1 130 (.val (.ref x) :: L) S k n H Q ↔ W (pj lw) 1 131 (.val (.ref x) :: L) (.ref x :: S) k n H Q := W_s (rfl : (pj lw).1 1 130 = some (.aload_n 0, 1, 0)) rfl rfl rfl
theorem w1_131 {x : Int32} {l0 l1 : Slot} : W (pj lw) 1 131 (l0 :: l1 :: .val (.int x) :: L) S k n H Q ↔ W (pj lw) 1 132 (l0 :: l1 :: .val (.int x) :: L) (.int x :: S) k n H Q := W_s (rfl : (pj lw).1 1 131 = some (.iload_n 2, 1, 0)) rfl rfl rfl
theorem w1_132 {a : Nat} {x0 : Int32} : W (pj lw) 1 132 L (.int x0 :: .ref a :: S) k n H Q ↔ ((isO H a = true ∧ cs S + (2 + 11) + 0 ≤ 57) ∧ Cl (pj lw) 2 [.ref a, .int x0] H (fun v H => W (pj lw) 1 135 L (v.toList ++ S) k n H Q)) := W_inst (as := [.int x0]) (rfl : (pj lw).1 1 132 = some (.invokevirtual 53, 3, 2)) rfl rfl rfl (Nat.le_of_ble_eq_true rfl) (Nat.le_of_ble_eq_true rfl) ⟨rfl, rfl⟩
theorem w1_135 {a : Nat} {v : Value} : W (pj lw) 1 135 L (v :: .ref a :: S) k n H Q ↔ ((isOw H a = true ∧ okv (.int) v = true) ∧ W (pj lw) 1 138 L S k n (wr H a 3 v) Q) := W_putf (rfl : (pj lw).1 1 135 = some (.putfield 57, 3, 3))
theorem w1_138 {x : Nat} : W (pj lw) 1 138 (.val (.ref x) :: L) S k n H Q ↔ W (pj lw) 1 139 (.val (.ref x) :: L) (.ref x :: S) k n H Q := W_s (rfl : (pj lw).1 1 138 = some (.aload_n 0, 1, 0)) rfl rfl rfl
theorem w1_139 {a : Nat} : W (pj lw) 1 139 L (.ref a :: S) k n H Q ↔ ((isO H a = true ∧ cs S + (4 + 11) + 0 ≤ 57) ∧ Cl (pj lw) 3 [.ref a] H (fun v H => W (pj lw) 1 142 L (v.toList ++ S) k n H Q)) := W_inst (as := []) (rfl : (pj lw).1 1 139 = some (.invokevirtual 60, 3, 3)) rfl rfl rfl (Nat.le_of_ble_eq_true rfl) (Nat.le_of_ble_eq_true rfl) ⟨rfl, rfl⟩
theorem w1_142 {x : Nat} : W (pj lw) 1 142 (.val (.ref x) :: L) S k n H Q ↔ W (pj lw) 1 143 (.val (.ref x) :: L) (.ref x :: S) k n H Q := W_s (rfl : (pj lw).1 1 142 = some (.aload_n 0, 1, 0)) rfl rfl rfl
theorem w1_143 {a : Nat} : W (pj lw) 1 143 L (.ref a :: S) k n H Q ↔ ((isO H a = true ∧ cs S + (3 + 11) + 43 ≤ 57) ∧ Cl (pj lw) 4 [.ref a] H (fun v H => W (pj lw) 1 146 L (v.toList ++ S) k n H Q)) := W_inst (as := []) (rfl : (pj lw).1 1 143 = some (.invokevirtual 63, 3, 4)) rfl rfl rfl (Nat.le_of_ble_eq_true rfl) (Nat.le_of_ble_eq_true rfl) ⟨rfl, rfl⟩
theorem w1_146 {x : Nat} : W (pj lw) 1 146 (.val (.ref x) :: L) S k n H Q ↔ W (pj lw) 1 147 (.val (.ref x) :: L) (.ref x :: S) k n H Q := W_s (rfl : (pj lw).1 1 146 = some (.aload_n 0, 1, 0)) rfl rfl rfl
theorem w1_147 : W (pj lw) 1 147 L S k n H Q ↔ W (pj lw) 1 148 L (.int 0 :: S) k n H Q := W_s (rfl : (pj lw).1 1 147 = some (.iconst 0, 1, 0)) rfl rfl rfl
theorem w1_148 {a : Nat} {v : Value} : W (pj lw) 1 148 L (v :: .ref a :: S) k n H Q ↔ ((isOw H a = true ∧ okv (.int) v = true) ∧ W (pj lw) 1 151 L S k n (wr H a 4 v) Q) := W_putf (rfl : (pj lw).1 1 148 = some (.putfield 66, 3, 4))
theorem w1_151 {x : Nat} : W (pj lw) 1 151 (.val (.ref x) :: L) S k n H Q ↔ W (pj lw) 1 152 (.val (.ref x) :: L) (.ref x :: S) k n H Q := W_s (rfl : (pj lw).1 1 151 = some (.aload_n 0, 1, 0)) rfl rfl rfl
theorem w1_152 : W (pj lw) 1 152 L S k n H Q ↔ W (pj lw) 1 153 L (.int 0 :: S) k n H Q := W_s (rfl : (pj lw).1 1 152 = some (.iconst 0, 1, 0)) rfl rfl rfl
theorem w1_153 {a : Nat} {v : Value} : W (pj lw) 1 153 L (v :: .ref a :: S) k n H Q ↔ ((isOw H a = true ∧ okv (.boolean) v = true) ∧ W (pj lw) 1 156 L S k n (wr H a 12 v) Q) := W_putf (rfl : (pj lw).1 1 153 = some (.putfield 69, 3, 12))
theorem w1_156 {x : Nat} : W (pj lw) 1 156 (.val (.ref x) :: L) S k n H Q ↔ W (pj lw) 1 157 (.val (.ref x) :: L) (.ref x :: S) k n H Q := W_s (rfl : (pj lw).1 1 156 = some (.aload_n 0, 1, 0)) rfl rfl rfl
theorem w1_157 : W (pj lw) 1 157 L S k n H Q ↔ W (pj lw) 1 158 L (.int 0 :: S) k n H Q := W_s (rfl : (pj lw).1 1 157 = some (.iconst 0, 1, 0)) rfl rfl rfl
theorem w1_158 {a : Nat} {v : Value} : W (pj lw) 1 158 L (v :: .ref a :: S) k n H Q ↔ ((isOw H a = true ∧ okv (.boolean) v = true) ∧ W (pj lw) 1 161 L S k n (wr H a 13 v) Q) := W_putf (rfl : (pj lw).1 1 158 = some (.putfield 73, 3, 13))
theorem w1_161 {x : Nat} : W (pj lw) 1 161 (.val (.ref x) :: L) S k n H Q ↔ W (pj lw) 1 162 (.val (.ref x) :: L) (.ref x :: S) k n H Q := W_s (rfl : (pj lw).1 1 161 = some (.aload_n 0, 1, 0)) rfl rfl rfl
theorem w1_162 : W (pj lw) 1 162 L S k n H Q ↔ W (pj lw) 1 163 L (.int 0 :: S) k n H Q := W_s (rfl : (pj lw).1 1 162 = some (.iconst 0, 1, 0)) rfl rfl rfl
theorem w1_163 {a : Nat} {v : Value} : W (pj lw) 1 163 L (v :: .ref a :: S) k n H Q ↔ ((isOw H a = true ∧ okv (.int) v = true) ∧ W (pj lw) 1 166 L S k n (wr H a 14 v) Q) := W_putf (rfl : (pj lw).1 1 163 = some (.putfield 76, 3, 14))
theorem w1_166 {x : Nat} : W (pj lw) 1 166 (.val (.ref x) :: L) S k n H Q ↔ W (pj lw) 1 167 (.val (.ref x) :: L) (.ref x :: S) k n H Q := W_s (rfl : (pj lw).1 1 166 = some (.aload_n 0, 1, 0)) rfl rfl rfl
theorem w1_167 : W (pj lw) 1 167 L S k n H Q ↔ W (pj lw) 1 168 L (.int 0 :: S) k n H Q := W_s (rfl : (pj lw).1 1 167 = some (.iconst 0, 1, 0)) rfl rfl rfl
theorem w1_168 {a : Nat} {v : Value} : W (pj lw) 1 168 L (v :: .ref a :: S) k n H Q ↔ ((isOw H a = true ∧ okv (.int) v = true) ∧ W (pj lw) 1 171 L S k n (wr H a 15 v) Q) := W_putf (rfl : (pj lw).1 1 168 = some (.putfield 79, 3, 15))
theorem w1_171 {x : Nat} : W (pj lw) 1 171 (.val (.ref x) :: L) S k n H Q ↔ W (pj lw) 1 172 (.val (.ref x) :: L) (.ref x :: S) k n H Q := W_s (rfl : (pj lw).1 1 171 = some (.aload_n 0, 1, 0)) rfl rfl rfl
theorem w1_172 : W (pj lw) 1 172 L S k n H Q ↔ W (pj lw) 1 173 L (.int 0 :: S) k n H Q := W_s (rfl : (pj lw).1 1 172 = some (.iconst 0, 1, 0)) rfl rfl rfl
theorem w1_173 {a : Nat} {v : Value} : W (pj lw) 1 173 L (v :: .ref a :: S) k n H Q ↔ ((isOw H a = true ∧ okv (.int) v = true) ∧ W (pj lw) 1 176 L S k n (wr H a 22 v) Q) := W_putf (rfl : (pj lw).1 1 173 = some (.putfield 82, 3, 22))
theorem w1_176 : W (pj lw) 1 176 L [] k n H Q ↔ Q none H := W_r (rfl : (pj lw).1 1 176 = some (.return_, 1, 0)) rfl
theorem c2 {x0 : Nat} {x1 : Int32} : Cl (pj lw) 2 [.ref x0, .int x1] H Q ↔ W (pj lw) 2 0 [.val (.ref x0), .val (.int x1)] [] 0 0 H Q := cl_unf rfl
theorem w2_0 {x : Int32} {l0 : Slot} : W (pj lw) 2 0 (l0 :: .val (.int x) :: L) S k n H Q ↔ W (pj lw) 2 1 (l0 :: .val (.int x) :: L) (.int x :: S) k n H Q := W_s (rfl : (pj lw).1 2 0 = some (.iload_n 1, 1, 0)) rfl rfl rfl
theorem w2_1 : W (pj lw) 2 1 L S k n H Q ↔ W (pj lw) 2 2 L (.int 1 :: S) k n H Q := W_s (rfl : (pj lw).1 2 1 = some (.iconst 1, 1, 0)) rfl rfl rfl
theorem w2_2 {x y : Int32} : W (pj lw) 2 2 L (.int y :: .int x :: S) k n H Q ↔ (if x < y then W (pj lw) 2 5 L S k n H Q else W (pj lw) 2 9 L S k n H Q) := W_icmp_ge (rfl : (pj lw).1 2 2 = some (.if_icmp .ge 7, 3, 0)) rfl
theorem w2_5 : W (pj lw) 2 5 L S k n H Q ↔ W (pj lw) 2 6 L (.int 1 :: S) k n H Q := W_s (rfl : (pj lw).1 2 5 = some (.iconst 1, 1, 0)) rfl rfl rfl
theorem w2_6 : W (pj lw) 2 6 L S k n H Q ↔ W (pj lw) 2 10 L S k n H Q := W_goto (rfl : (pj lw).1 2 6 = some (.goto 4, 3, 0)) rfl
theorem w2_9 {x : Int32} {l0 : Slot} : W (pj lw) 2 9 (l0 :: .val (.int x) :: L) S k n H Q ↔ W (pj lw) 2 10 (l0 :: .val (.int x) :: L) (.int x :: S) k n H Q := W_s (rfl : (pj lw).1 2 9 = some (.iload_n 1, 1, 0)) rfl rfl rfl
theorem w2_10 {x : Int32} : W (pj lw) 2 10 L (.int x :: S) k n H Q ↔ Q (some (.int x)) H := W_r (rfl : (pj lw).1 2 10 = some (.ireturn, 1, 0)) rfl
theorem c3 {x0 : Nat} : Cl (pj lw) 3 [.ref x0] H Q ↔ W (pj lw) 3 0 [.val (.ref x0), .unset, .unset, .unset] [] 0 0 H Q := cl_unf rfl
theorem w3_0 : W (pj lw) 3 0 L S k n H Q ↔ W (pj lw) 3 1 L (.int 0 :: S) k n H Q := W_s (rfl : (pj lw).1 3 0 = some (.iconst 0, 1, 0)) rfl rfl rfl
theorem w3_1 {x : Int32} {l0 : Slot} : W (pj lw) 3 1 (l0 :: .unset :: L) (.int x :: S) k n H Q ↔ W (pj lw) 3 2 (l0 :: .val (.int x) :: L) S k n H Q := W_istn (rfl : (pj lw).1 3 1 = some (.istore_n 1, 1, 0)) rfl rfl
theorem w3_2 : W (pj lw) 3 2 L S k n H Q ↔ W (pj lw) 3 3 L (.int 1 :: S) k n H Q := W_s (rfl : (pj lw).1 3 2 = some (.iconst 1, 1, 0)) rfl rfl rfl
theorem w3_3 {x : Int32} {l0 l1 : Slot} : W (pj lw) 3 3 (l0 :: l1 :: .unset :: L) (.int x :: S) k n H Q ↔ W (pj lw) 3 4 (l0 :: l1 :: .val (.int x) :: L) S k n H Q := W_istn (rfl : (pj lw).1 3 3 = some (.istore_n 2, 1, 0)) rfl rfl
theorem w3_4 {x : Int32} {l0 l1 : Slot} : W (pj lw) 3 4 (l0 :: l1 :: .val (.int x) :: L) S k n H Q ↔ W (pj lw) 3 5 (l0 :: l1 :: .val (.int x) :: L) (.int x :: S) k n H Q := W_s (rfl : (pj lw).1 3 4 = some (.iload_n 2, 1, 0)) rfl rfl rfl
theorem w3_5 {x : Nat} : W (pj lw) 3 5 (.val (.ref x) :: L) S k n H Q ↔ W (pj lw) 3 6 (.val (.ref x) :: L) (.ref x :: S) k n H Q := W_s (rfl : (pj lw).1 3 5 = some (.aload_n 0, 1, 0)) rfl rfl rfl
theorem w3_6 {a : Nat} : W (pj lw) 3 6 L (.ref a :: S) k n H Q ↔ (isO H a = true ∧ W (pj lw) 3 9 L (fld H a 0 :: S) k n H Q) := W_getf (rfl : (pj lw).1 3 6 = some (.getfield 49, 3, 0))
theorem w3_9 {x y : Int32} : W (pj lw) 3 9 L (.int y :: .int x :: S) k n H Q ↔ (if y < x then W (pj lw) 3 73 L S k n H Q else W (pj lw) 3 12 L S k n H Q) := W_icmp_gt (rfl : (pj lw).1 3 9 = some (.if_icmp .gt 64, 3, 0)) rfl
theorem w3_12 {x : Int32} {l0 l1 : Slot} : W (pj lw) 3 12 (l0 :: l1 :: .val (.int x) :: L) S k n H Q ↔ W (pj lw) 3 13 (l0 :: l1 :: .val (.int x) :: L) (.int x :: S) k n H Q := W_s (rfl : (pj lw).1 3 12 = some (.iload_n 2, 1, 0)) rfl rfl rfl
theorem w3_13i {y : Int32} {x : Int32} {l0 l1 l2 : Slot} : W (pj lw) 3 13 (l0 :: l1 :: l2 :: .val (.int y) :: L) (.int x :: S) k n H Q ↔ W (pj lw) 3 14 (l0 :: l1 :: l2 :: .val (.int x) :: L) S k n H Q := W_istn (rfl : (pj lw).1 3 13 = some (.istore_n 3, 1, 0)) rfl rfl
theorem w3_13 {x : Int32} {l0 l1 l2 : Slot} : W (pj lw) 3 13 (l0 :: l1 :: l2 :: .unset :: L) (.int x :: S) k n H Q ↔ W (pj lw) 3 14 (l0 :: l1 :: l2 :: .val (.int x) :: L) S k n H Q := W_istn (rfl : (pj lw).1 3 13 = some (.istore_n 3, 1, 0)) rfl rfl
theorem w3_14 {x : Int32} {l0 l1 l2 : Slot} : W (pj lw) 3 14 (l0 :: l1 :: l2 :: .val (.int x) :: L) S k n H Q ↔ W (pj lw) 3 15 (l0 :: l1 :: l2 :: .val (.int x) :: L) (.int x :: S) k n H Q := W_s (rfl : (pj lw).1 3 14 = some (.iload_n 3, 1, 0)) rfl rfl rfl
theorem w3_15 {x : Nat} : W (pj lw) 3 15 (.val (.ref x) :: L) S k n H Q ↔ W (pj lw) 3 16 (.val (.ref x) :: L) (.ref x :: S) k n H Q := W_s (rfl : (pj lw).1 3 15 = some (.aload_n 0, 1, 0)) rfl rfl rfl
theorem w3_16 {a : Nat} : W (pj lw) 3 16 L (.ref a :: S) k n H Q ↔ (isO H a = true ∧ W (pj lw) 3 19 L (fld H a 0 :: S) k n H Q) := W_getf (rfl : (pj lw).1 3 16 = some (.getfield 49, 3, 0))
theorem w3_19 {x y : Int32} : W (pj lw) 3 19 L (.int y :: .int x :: S) k n H Q ↔ (if y < x then W (pj lw) 3 67 L S k n H Q else W (pj lw) 3 22 L S k n H Q) := W_icmp_gt (rfl : (pj lw).1 3 19 = some (.if_icmp .gt 48, 3, 0)) rfl
theorem w3_22 {x : Nat} : W (pj lw) 3 22 (.val (.ref x) :: L) S k n H Q ↔ W (pj lw) 3 23 (.val (.ref x) :: L) (.ref x :: S) k n H Q := W_s (rfl : (pj lw).1 3 22 = some (.aload_n 0, 1, 0)) rfl rfl rfl
theorem w3_23 {a : Nat} : W (pj lw) 3 23 L (.ref a :: S) k n H Q ↔ (isO H a = true ∧ W (pj lw) 3 26 L (fld H a 16 :: S) k n H Q) := W_getf (rfl : (pj lw).1 3 23 = some (.getfield 31, 3, 16))
theorem w3_26 {x : Int32} {l0 : Slot} : W (pj lw) 3 26 (l0 :: .val (.int x) :: L) S k n H Q ↔ W (pj lw) 3 27 (l0 :: .val (.int x) :: L) (.int x :: S) k n H Q := W_s (rfl : (pj lw).1 3 26 = some (.iload_n 1, 1, 0)) rfl rfl rfl
theorem w3_27 {x : Int32} {l0 l1 : Slot} : W (pj lw) 3 27 (l0 :: l1 :: .val (.int x) :: L) S k n H Q ↔ W (pj lw) 3 28 (l0 :: l1 :: .val (.int x) :: L) (.int x :: S) k n H Q := W_s (rfl : (pj lw).1 3 27 = some (.iload_n 2, 1, 0)) rfl rfl rfl
theorem w3_28 {x i : Int32} {a : Nat} : W (pj lw) 3 28 L (.int x :: .int i :: .ref a :: S) k n H Q ↔ (inAw H a .int i = true ∧ W (pj lw) 3 29 L S k n (wr H a i.toNatClampNeg (.int x)) Q) := W_iastore (rfl : (pj lw).1 3 28 = some (.iastore, 1, 0))
theorem w3_29 {x : Nat} : W (pj lw) 3 29 (.val (.ref x) :: L) S k n H Q ↔ W (pj lw) 3 30 (.val (.ref x) :: L) (.ref x :: S) k n H Q := W_s (rfl : (pj lw).1 3 29 = some (.aload_n 0, 1, 0)) rfl rfl rfl
theorem w3_30 {a : Nat} : W (pj lw) 3 30 L (.ref a :: S) k n H Q ↔ (isO H a = true ∧ W (pj lw) 3 33 L (fld H a 17 :: S) k n H Q) := W_getf (rfl : (pj lw).1 3 30 = some (.getfield 34, 3, 17))
theorem w3_33 {x : Int32} {l0 : Slot} : W (pj lw) 3 33 (l0 :: .val (.int x) :: L) S k n H Q ↔ W (pj lw) 3 34 (l0 :: .val (.int x) :: L) (.int x :: S) k n H Q := W_s (rfl : (pj lw).1 3 33 = some (.iload_n 1, 1, 0)) rfl rfl rfl
theorem w3_34 {x : Int32} {l0 l1 l2 : Slot} : W (pj lw) 3 34 (l0 :: l1 :: l2 :: .val (.int x) :: L) S k n H Q ↔ W (pj lw) 3 35 (l0 :: l1 :: l2 :: .val (.int x) :: L) (.int x :: S) k n H Q := W_s (rfl : (pj lw).1 3 34 = some (.iload_n 3, 1, 0)) rfl rfl rfl
theorem w3_35 {x i : Int32} {a : Nat} : W (pj lw) 3 35 L (.int x :: .int i :: .ref a :: S) k n H Q ↔ (inAw H a .int i = true ∧ W (pj lw) 3 36 L S k n (wr H a i.toNatClampNeg (.int x)) Q) := W_iastore (rfl : (pj lw).1 3 35 = some (.iastore, 1, 0))
theorem w3_36 {x : Nat} : W (pj lw) 3 36 (.val (.ref x) :: L) S k n H Q ↔ W (pj lw) 3 37 (.val (.ref x) :: L) (.ref x :: S) k n H Q := W_s (rfl : (pj lw).1 3 36 = some (.aload_n 0, 1, 0)) rfl rfl rfl
theorem w3_37 {a : Nat} : W (pj lw) 3 37 L (.ref a :: S) k n H Q ↔ (isO H a = true ∧ W (pj lw) 3 40 L (fld H a 18 :: S) k n H Q) := W_getf (rfl : (pj lw).1 3 37 = some (.getfield 37, 3, 18))
theorem w3_40 {x : Int32} {l0 l1 : Slot} : W (pj lw) 3 40 (l0 :: l1 :: .val (.int x) :: L) S k n H Q ↔ W (pj lw) 3 41 (l0 :: l1 :: .val (.int x) :: L) (.int x :: S) k n H Q := W_s (rfl : (pj lw).1 3 40 = some (.iload_n 2, 1, 0)) rfl rfl rfl
theorem w3_41 : W (pj lw) 3 41 L S k n H Q ↔ W (pj lw) 3 42 L (.int 5 :: S) k n H Q := W_s (rfl : (pj lw).1 3 41 = some (.iconst 5, 1, 0)) rfl rfl rfl
theorem w3_42 {x y : Int32} : W (pj lw) 3 42 L (.int y :: .int x :: S) k n H Q ↔ W (pj lw) 3 43 L (.int (x * y) :: S) k n H Q := W_s (rfl : (pj lw).1 3 42 = some (.imul, 1, 0)) rfl rfl rfl
theorem w3_43 {x : Int32} {l0 l1 l2 : Slot} : W (pj lw) 3 43 (l0 :: l1 :: l2 :: .val (.int x) :: L) S k n H Q ↔ W (pj lw) 3 44 (l0 :: l1 :: l2 :: .val (.int x) :: L) (.int x :: S) k n H Q := W_s (rfl : (pj lw).1 3 43 = some (.iload_n 3, 1, 0)) rfl rfl rfl
theorem w3_44 {x y : Int32} : W (pj lw) 3 44 L (.int y :: .int x :: S) k n H Q ↔ W (pj lw) 3 45 L (.int (x + y) :: S) k n H Q := W_s (rfl : (pj lw).1 3 44 = some (.iadd, 1, 0)) rfl rfl rfl
theorem w3_45 {x : Int32} {l0 : Slot} : W (pj lw) 3 45 (l0 :: .val (.int x) :: L) S k n H Q ↔ W (pj lw) 3 46 (l0 :: .val (.int x) :: L) (.int x :: S) k n H Q := W_s (rfl : (pj lw).1 3 45 = some (.iload_n 1, 1, 0)) rfl rfl rfl
theorem w3_46 {x i : Int32} {a : Nat} : W (pj lw) 3 46 L (.int x :: .int i :: .ref a :: S) k n H Q ↔ (inAw H a .int i = true ∧ W (pj lw) 3 47 L S k n (wr H a i.toNatClampNeg (.int x)) Q) := W_iastore (rfl : (pj lw).1 3 46 = some (.iastore, 1, 0))
theorem w3_47 {x : Nat} : W (pj lw) 3 47 (.val (.ref x) :: L) S k n H Q ↔ W (pj lw) 3 48 (.val (.ref x) :: L) (.ref x :: S) k n H Q := W_s (rfl : (pj lw).1 3 47 = some (.aload_n 0, 1, 0)) rfl rfl rfl
theorem w3_48 {a : Nat} : W (pj lw) 3 48 L (.ref a :: S) k n H Q ↔ (isO H a = true ∧ W (pj lw) 3 51 L (fld H a 18 :: S) k n H Q) := W_getf (rfl : (pj lw).1 3 48 = some (.getfield 37, 3, 18))
theorem w3_51 {x : Int32} {l0 l1 l2 : Slot} : W (pj lw) 3 51 (l0 :: l1 :: l2 :: .val (.int x) :: L) S k n H Q ↔ W (pj lw) 3 52 (l0 :: l1 :: l2 :: .val (.int x) :: L) (.int x :: S) k n H Q := W_s (rfl : (pj lw).1 3 51 = some (.iload_n 3, 1, 0)) rfl rfl rfl
theorem w3_52 : W (pj lw) 3 52 L S k n H Q ↔ W (pj lw) 3 53 L (.int 5 :: S) k n H Q := W_s (rfl : (pj lw).1 3 52 = some (.iconst 5, 1, 0)) rfl rfl rfl
theorem w3_53 {x y : Int32} : W (pj lw) 3 53 L (.int y :: .int x :: S) k n H Q ↔ W (pj lw) 3 54 L (.int (x * y) :: S) k n H Q := W_s (rfl : (pj lw).1 3 53 = some (.imul, 1, 0)) rfl rfl rfl
theorem w3_54 {x : Int32} {l0 l1 : Slot} : W (pj lw) 3 54 (l0 :: l1 :: .val (.int x) :: L) S k n H Q ↔ W (pj lw) 3 55 (l0 :: l1 :: .val (.int x) :: L) (.int x :: S) k n H Q := W_s (rfl : (pj lw).1 3 54 = some (.iload_n 2, 1, 0)) rfl rfl rfl
theorem w3_55 {x y : Int32} : W (pj lw) 3 55 L (.int y :: .int x :: S) k n H Q ↔ W (pj lw) 3 56 L (.int (x + y) :: S) k n H Q := W_s (rfl : (pj lw).1 3 55 = some (.iadd, 1, 0)) rfl rfl rfl
theorem w3_56 {x : Int32} {l0 : Slot} : W (pj lw) 3 56 (l0 :: .val (.int x) :: L) S k n H Q ↔ W (pj lw) 3 57 (l0 :: .val (.int x) :: L) (.int x :: S) k n H Q := W_s (rfl : (pj lw).1 3 56 = some (.iload_n 1, 1, 0)) rfl rfl rfl
theorem w3_57 {x i : Int32} {a : Nat} : W (pj lw) 3 57 L (.int x :: .int i :: .ref a :: S) k n H Q ↔ (inAw H a .int i = true ∧ W (pj lw) 3 58 L S k n (wr H a i.toNatClampNeg (.int x)) Q) := W_iastore (rfl : (pj lw).1 3 57 = some (.iastore, 1, 0))
theorem w3_58 {x : Int32} {l0 : Slot} : W (pj lw) 3 58 (l0 :: .val (.int x) :: L) S k n H Q ↔ W (pj lw) 3 61 (l0 :: .val (.int (x + 1)) :: L) S k n H Q := W_s (rfl : (pj lw).1 3 58 = some (.iinc 1 1, 3, 0)) rfl rfl rfl
theorem w3_61 {x : Int32} {l0 l1 l2 : Slot} : W (pj lw) 3 61 (l0 :: l1 :: l2 :: .val (.int x) :: L) S k n H Q ↔ W (pj lw) 3 64 (l0 :: l1 :: l2 :: .val (.int (x + 1)) :: L) S k n H Q := W_s (rfl : (pj lw).1 3 61 = some (.iinc 3 1, 3, 0)) rfl rfl rfl
theorem w3_64 : W (pj lw) 3 64 L S k n H Q ↔ W (pj lw) 3 14 L S k n H Q := W_goto (rfl : (pj lw).1 3 64 = some (.goto (-50), 3, 0)) rfl
theorem w3_67 {x : Int32} {l0 l1 : Slot} : W (pj lw) 3 67 (l0 :: l1 :: .val (.int x) :: L) S k n H Q ↔ W (pj lw) 3 70 (l0 :: l1 :: .val (.int (x + 1)) :: L) S k n H Q := W_s (rfl : (pj lw).1 3 67 = some (.iinc 2 1, 3, 0)) rfl rfl rfl
theorem w3_70 : W (pj lw) 3 70 L S k n H Q ↔ W (pj lw) 3 4 L S k n H Q := W_goto (rfl : (pj lw).1 3 70 = some (.goto (-66), 3, 0)) rfl
theorem w3_73 {x : Nat} : W (pj lw) 3 73 (.val (.ref x) :: L) S k n H Q ↔ W (pj lw) 3 74 (.val (.ref x) :: L) (.ref x :: S) k n H Q := W_s (rfl : (pj lw).1 3 73 = some (.aload_n 0, 1, 0)) rfl rfl rfl
theorem w3_74 {x : Int32} {l0 : Slot} : W (pj lw) 3 74 (l0 :: .val (.int x) :: L) S k n H Q ↔ W (pj lw) 3 75 (l0 :: .val (.int x) :: L) (.int x :: S) k n H Q := W_s (rfl : (pj lw).1 3 74 = some (.iload_n 1, 1, 0)) rfl rfl rfl
theorem w3_75 {a : Nat} {v : Value} : W (pj lw) 3 75 L (v :: .ref a :: S) k n H Q ↔ ((isOw H a = true ∧ okv (.int) v = true) ∧ W (pj lw) 3 78 L S k n (wr H a 1 v) Q) := W_putf (rfl : (pj lw).1 3 75 = some (.putfield 85, 3, 1))
theorem w3_78 {x : Nat} : W (pj lw) 3 78 (.val (.ref x) :: L) S k n H Q ↔ W (pj lw) 3 79 (.val (.ref x) :: L) (.ref x :: S) k n H Q := W_s (rfl : (pj lw).1 3 78 = some (.aload_n 0, 1, 0)) rfl rfl rfl
theorem w3_79 : W (pj lw) 3 79 L S k n H Q ↔ W (pj lw) 3 80 L (.int 1 :: S) k n H Q := W_s (rfl : (pj lw).1 3 79 = some (.iconst 1, 1, 0)) rfl rfl rfl
theorem w3_80 {x : Int32} {l0 : Slot} : W (pj lw) 3 80 (l0 :: .val (.int x) :: L) S k n H Q ↔ W (pj lw) 3 81 (l0 :: .val (.int x) :: L) (.int x :: S) k n H Q := W_s (rfl : (pj lw).1 3 80 = some (.iload_n 1, 1, 0)) rfl rfl rfl
theorem w3_81 {x y : Int32} : W (pj lw) 3 81 L (.int y :: .int x :: S) k n H Q ↔ W (pj lw) 3 82 L (.int (x <<< (y &&& 31)) :: S) k n H Q := W_s (rfl : (pj lw).1 3 81 = some (.ishl, 1, 0)) rfl rfl rfl
theorem w3_82 : W (pj lw) 3 82 L S k n H Q ↔ W (pj lw) 3 83 L (.int 1 :: S) k n H Q := W_s (rfl : (pj lw).1 3 82 = some (.iconst 1, 1, 0)) rfl rfl rfl
theorem w3_83 {x y : Int32} : W (pj lw) 3 83 L (.int y :: .int x :: S) k n H Q ↔ W (pj lw) 3 84 L (.int (x - y) :: S) k n H Q := W_s (rfl : (pj lw).1 3 83 = some (.isub, 1, 0)) rfl rfl rfl
theorem w3_84 {a : Nat} {v : Value} : W (pj lw) 3 84 L (v :: .ref a :: S) k n H Q ↔ ((isOw H a = true ∧ okv (.int) v = true) ∧ W (pj lw) 3 87 L S k n (wr H a 2 v) Q) := W_putf (rfl : (pj lw).1 3 84 = some (.putfield 88, 3, 2))
theorem w3_87 : W (pj lw) 3 87 L [] k n H Q ↔ Q none H := W_r (rfl : (pj lw).1 3 87 = some (.return_, 1, 0)) rfl
theorem c4 {x0 : Nat} : Cl (pj lw) 4 [.ref x0] H Q ↔ W (pj lw) 4 0 [.val (.ref x0), .unset, .unset] [] 0 0 H Q := cl_unf rfl
theorem w4_0 : W (pj lw) 4 0 L S k n H Q ↔ W (pj lw) 4 1 L (.int 0 :: S) k n H Q := W_s (rfl : (pj lw).1 4 0 = some (.iconst 0, 1, 0)) rfl rfl rfl
theorem w4_1 {x : Int32} {l0 : Slot} : W (pj lw) 4 1 (l0 :: .unset :: L) (.int x :: S) k n H Q ↔ W (pj lw) 4 2 (l0 :: .val (.int x) :: L) S k n H Q := W_istn (rfl : (pj lw).1 4 1 = some (.istore_n 1, 1, 0)) rfl rfl
theorem w4_2 {x : Int32} {l0 : Slot} : W (pj lw) 4 2 (l0 :: .val (.int x) :: L) S k n H Q ↔ W (pj lw) 4 3 (l0 :: .val (.int x) :: L) (.int x :: S) k n H Q := W_s (rfl : (pj lw).1 4 2 = some (.iload_n 1, 1, 0)) rfl rfl rfl
theorem w4_3 {x : Nat} : W (pj lw) 4 3 (.val (.ref x) :: L) S k n H Q ↔ W (pj lw) 4 4 (.val (.ref x) :: L) (.ref x :: S) k n H Q := W_s (rfl : (pj lw).1 4 3 = some (.aload_n 0, 1, 0)) rfl rfl rfl
theorem w4_4 {a : Nat} : W (pj lw) 4 4 L (.ref a :: S) k n H Q ↔ (isO H a = true ∧ W (pj lw) 4 7 L (fld H a 1 :: S) k n H Q) := W_getf (rfl : (pj lw).1 4 4 = some (.getfield 85, 3, 1))
theorem w4_7 {x y : Int32} : W (pj lw) 4 7 L (.int y :: .int x :: S) k n H Q ↔ (if x < y then W (pj lw) 4 10 L S k n H Q else W (pj lw) 4 49 L S k n H Q) := W_icmp_ge (rfl : (pj lw).1 4 7 = some (.if_icmp .ge 42, 3, 0)) rfl
theorem w4_10 : W (pj lw) 4 10 L S k n H Q ↔ W (pj lw) 4 11 L (.int 0 :: S) k n H Q := W_s (rfl : (pj lw).1 4 10 = some (.iconst 0, 1, 0)) rfl rfl rfl
theorem w4_11i {y : Int32} {x : Int32} {l0 l1 : Slot} : W (pj lw) 4 11 (l0 :: l1 :: .val (.int y) :: L) (.int x :: S) k n H Q ↔ W (pj lw) 4 12 (l0 :: l1 :: .val (.int x) :: L) S k n H Q := W_istn (rfl : (pj lw).1 4 11 = some (.istore_n 2, 1, 0)) rfl rfl
theorem w4_11 {x : Int32} {l0 l1 : Slot} : W (pj lw) 4 11 (l0 :: l1 :: .unset :: L) (.int x :: S) k n H Q ↔ W (pj lw) 4 12 (l0 :: l1 :: .val (.int x) :: L) S k n H Q := W_istn (rfl : (pj lw).1 4 11 = some (.istore_n 2, 1, 0)) rfl rfl
theorem w4_12 {x : Int32} {l0 l1 : Slot} : W (pj lw) 4 12 (l0 :: l1 :: .val (.int x) :: L) S k n H Q ↔ W (pj lw) 4 13 (l0 :: l1 :: .val (.int x) :: L) (.int x :: S) k n H Q := W_s (rfl : (pj lw).1 4 12 = some (.iload_n 2, 1, 0)) rfl rfl rfl
theorem w4_13 {x : Nat} : W (pj lw) 4 13 (.val (.ref x) :: L) S k n H Q ↔ W (pj lw) 4 14 (.val (.ref x) :: L) (.ref x :: S) k n H Q := W_s (rfl : (pj lw).1 4 13 = some (.aload_n 0, 1, 0)) rfl rfl rfl
theorem w4_14 {a : Nat} : W (pj lw) 4 14 L (.ref a :: S) k n H Q ↔ (isO H a = true ∧ W (pj lw) 4 17 L (fld H a 1 :: S) k n H Q) := W_getf (rfl : (pj lw).1 4 14 = some (.getfield 85, 3, 1))
theorem w4_17 {x y : Int32} : W (pj lw) 4 17 L (.int y :: .int x :: S) k n H Q ↔ (if x < y then W (pj lw) 4 20 L S k n H Q else W (pj lw) 4 43 L S k n H Q) := W_icmp_ge (rfl : (pj lw).1 4 17 = some (.if_icmp .ge 26, 3, 0)) rfl
theorem w4_20 {x : Nat} : W (pj lw) 4 20 (.val (.ref x) :: L) S k n H Q ↔ W (pj lw) 4 21 (.val (.ref x) :: L) (.ref x :: S) k n H Q := W_s (rfl : (pj lw).1 4 20 = some (.aload_n 0, 1, 0)) rfl rfl rfl
theorem w4_21 {a : Nat} : W (pj lw) 4 21 L (.ref a :: S) k n H Q ↔ (isO H a = true ∧ W (pj lw) 4 24 L (fld H a 19 :: S) k n H Q) := W_getf (rfl : (pj lw).1 4 21 = some (.getfield 40, 3, 19))
theorem w4_24 {x : Int32} {l0 : Slot} : W (pj lw) 4 24 (l0 :: .val (.int x) :: L) S k n H Q ↔ W (pj lw) 4 25 (l0 :: .val (.int x) :: L) (.int x :: S) k n H Q := W_s (rfl : (pj lw).1 4 24 = some (.iload_n 1, 1, 0)) rfl rfl rfl
theorem w4_25 : W (pj lw) 4 25 L S k n H Q ↔ W (pj lw) 4 27 L (.int 10 :: S) k n H Q := W_s (rfl : (pj lw).1 4 25 = some (.bipush 10, 2, 0)) rfl rfl rfl
theorem w4_27 {x y : Int32} : W (pj lw) 4 27 L (.int y :: .int x :: S) k n H Q ↔ W (pj lw) 4 28 L (.int (x * y) :: S) k n H Q := W_s (rfl : (pj lw).1 4 27 = some (.imul, 1, 0)) rfl rfl rfl
theorem w4_28 {x : Int32} {l0 l1 : Slot} : W (pj lw) 4 28 (l0 :: l1 :: .val (.int x) :: L) S k n H Q ↔ W (pj lw) 4 29 (l0 :: l1 :: .val (.int x) :: L) (.int x :: S) k n H Q := W_s (rfl : (pj lw).1 4 28 = some (.iload_n 2, 1, 0)) rfl rfl rfl
theorem w4_29 {x y : Int32} : W (pj lw) 4 29 L (.int y :: .int x :: S) k n H Q ↔ W (pj lw) 4 30 L (.int (x + y) :: S) k n H Q := W_s (rfl : (pj lw).1 4 29 = some (.iadd, 1, 0)) rfl rfl rfl
theorem w4_30 {x : Nat} : W (pj lw) 4 30 (.val (.ref x) :: L) S k n H Q ↔ W (pj lw) 4 31 (.val (.ref x) :: L) (.ref x :: S) k n H Q := W_s (rfl : (pj lw).1 4 30 = some (.aload_n 0, 1, 0)) rfl rfl rfl
theorem w4_31 {x : Int32} {l0 : Slot} : W (pj lw) 4 31 (l0 :: .val (.int x) :: L) S k n H Q ↔ W (pj lw) 4 32 (l0 :: .val (.int x) :: L) (.int x :: S) k n H Q := W_s (rfl : (pj lw).1 4 31 = some (.iload_n 1, 1, 0)) rfl rfl rfl
theorem w4_32 {x : Int32} {l0 l1 : Slot} : W (pj lw) 4 32 (l0 :: l1 :: .val (.int x) :: L) S k n H Q ↔ W (pj lw) 4 33 (l0 :: l1 :: .val (.int x) :: L) (.int x :: S) k n H Q := W_s (rfl : (pj lw).1 4 32 = some (.iload_n 2, 1, 0)) rfl rfl rfl
theorem w4_33 {a : Nat} {x0 : Int32} {x1 : Int32} : W (pj lw) 4 33 L (.int x1 :: .int x0 :: .ref a :: S) k n H Q ↔ ((isO H a = true ∧ cs S + (5 + 11) + 25 ≤ 43) ∧ Cl (pj lw) 5 [.ref a, .int x0, .int x1] H (fun v H => W (pj lw) 4 36 L (v.toList ++ S) k n H Q)) := W_inst (as := [.int x0, .int x1]) (rfl : (pj lw).1 4 33 = some (.invokevirtual 91, 3, 5)) rfl rfl rfl (Nat.le_of_ble_eq_true rfl) (Nat.le_of_ble_eq_true rfl) ⟨rfl, rfl⟩
theorem w4_36 {x i : Int32} {a : Nat} : W (pj lw) 4 36 L (.int x :: .int i :: .ref a :: S) k n H Q ↔ (inAw H a .int i = true ∧ W (pj lw) 4 37 L S k n (wr H a i.toNatClampNeg (.int x)) Q) := W_iastore (rfl : (pj lw).1 4 36 = some (.iastore, 1, 0))
theorem w4_37 {x : Int32} {l0 l1 : Slot} : W (pj lw) 4 37 (l0 :: l1 :: .val (.int x) :: L) S k n H Q ↔ W (pj lw) 4 40 (l0 :: l1 :: .val (.int (x + 1)) :: L) S k n H Q := W_s (rfl : (pj lw).1 4 37 = some (.iinc 2 1, 3, 0)) rfl rfl rfl
theorem w4_40 : W (pj lw) 4 40 L S k n H Q ↔ W (pj lw) 4 12 L S k n H Q := W_goto (rfl : (pj lw).1 4 40 = some (.goto (-28), 3, 0)) rfl
theorem w4_43 {x : Int32} {l0 : Slot} : W (pj lw) 4 43 (l0 :: .val (.int x) :: L) S k n H Q ↔ W (pj lw) 4 46 (l0 :: .val (.int (x + 1)) :: L) S k n H Q := W_s (rfl : (pj lw).1 4 43 = some (.iinc 1 1, 3, 0)) rfl rfl rfl
theorem w4_46 : W (pj lw) 4 46 L S k n H Q ↔ W (pj lw) 4 2 L S k n H Q := W_goto (rfl : (pj lw).1 4 46 = some (.goto (-44), 3, 0)) rfl
theorem w4_49 : W (pj lw) 4 49 L [] k n H Q ↔ Q none H := W_r (rfl : (pj lw).1 4 49 = some (.return_, 1, 0)) rfl
theorem c5 {x0 : Nat} {x1 : Int32} {x2 : Int32} : Cl (pj lw) 5 [.ref x0, .int x1, .int x2] H Q ↔ W (pj lw) 5 0 [.val (.ref x0), .val (.int x1), .val (.int x2), .unset, .unset] [] 0 0 H Q := cl_unf rfl
theorem w5_0 : W (pj lw) 5 0 L S k n H Q ↔ W (pj lw) 5 1 L (.int 0 :: S) k n H Q := W_s (rfl : (pj lw).1 5 0 = some (.iconst 0, 1, 0)) rfl rfl rfl
theorem w5_1 {x : Int32} {l0 l1 l2 : Slot} : W (pj lw) 5 1 (l0 :: l1 :: l2 :: .unset :: L) (.int x :: S) k n H Q ↔ W (pj lw) 5 2 (l0 :: l1 :: l2 :: .val (.int x) :: L) S k n H Q := W_istn (rfl : (pj lw).1 5 1 = some (.istore_n 3, 1, 0)) rfl rfl
theorem w5_2 : W (pj lw) 5 2 L S k n H Q ↔ W (pj lw) 5 3 L (.int 0 :: S) k n H Q := W_s (rfl : (pj lw).1 5 2 = some (.iconst 0, 1, 0)) rfl rfl rfl
theorem w5_3 {x : Int32} {l0 l1 l2 l3 : Slot} : W (pj lw) 5 3 (l0 :: l1 :: l2 :: l3 :: .unset :: L) (.int x :: S) k n H Q ↔ W (pj lw) 5 5 (l0 :: l1 :: l2 :: l3 :: .val (.int x) :: L) S k n H Q := W_ist (rfl : (pj lw).1 5 3 = some (.istore 4, 2, 0)) rfl rfl
theorem w5_5 {x : Int32} {l0 l1 l2 l3 : Slot} : W (pj lw) 5 5 (l0 :: l1 :: l2 :: l3 :: .val (.int x) :: L) S k n H Q ↔ W (pj lw) 5 7 (l0 :: l1 :: l2 :: l3 :: .val (.int x) :: L) (.int x :: S) k n H Q := W_s (rfl : (pj lw).1 5 5 = some (.iload 4, 2, 0)) rfl rfl rfl
theorem w5_7 {x : Nat} : W (pj lw) 5 7 (.val (.ref x) :: L) S k n H Q ↔ W (pj lw) 5 8 (.val (.ref x) :: L) (.ref x :: S) k n H Q := W_s (rfl : (pj lw).1 5 7 = some (.aload_n 0, 1, 0)) rfl rfl rfl
theorem w5_8 {a : Nat} : W (pj lw) 5 8 L (.ref a :: S) k n H Q ↔ (isO H a = true ∧ W (pj lw) 5 11 L (fld H a 1 :: S) k n H Q) := W_getf (rfl : (pj lw).1 5 8 = some (.getfield 85, 3, 1))
theorem w5_11 {x y : Int32} : W (pj lw) 5 11 L (.int y :: .int x :: S) k n H Q ↔ (if x < y then W (pj lw) 5 14 L S k n H Q else W (pj lw) 5 38 L S k n H Q) := W_icmp_ge (rfl : (pj lw).1 5 11 = some (.if_icmp .ge 27, 3, 0)) rfl
theorem w5_14 {x : Nat} : W (pj lw) 5 14 (.val (.ref x) :: L) S k n H Q ↔ W (pj lw) 5 15 (.val (.ref x) :: L) (.ref x :: S) k n H Q := W_s (rfl : (pj lw).1 5 14 = some (.aload_n 0, 1, 0)) rfl rfl rfl
theorem w5_15 {x : Int32} {l0 l1 l2 l3 : Slot} : W (pj lw) 5 15 (l0 :: l1 :: l2 :: l3 :: .val (.int x) :: L) S k n H Q ↔ W (pj lw) 5 17 (l0 :: l1 :: l2 :: l3 :: .val (.int x) :: L) (.int x :: S) k n H Q := W_s (rfl : (pj lw).1 5 15 = some (.iload 4, 2, 0)) rfl rfl rfl
theorem w5_17 {x : Int32} {l0 : Slot} : W (pj lw) 5 17 (l0 :: .val (.int x) :: L) S k n H Q ↔ W (pj lw) 5 18 (l0 :: .val (.int x) :: L) (.int x :: S) k n H Q := W_s (rfl : (pj lw).1 5 17 = some (.iload_n 1, 1, 0)) rfl rfl rfl
theorem w5_18 {x : Int32} {l0 l1 : Slot} : W (pj lw) 5 18 (l0 :: l1 :: .val (.int x) :: L) S k n H Q ↔ W (pj lw) 5 19 (l0 :: l1 :: .val (.int x) :: L) (.int x :: S) k n H Q := W_s (rfl : (pj lw).1 5 18 = some (.iload_n 2, 1, 0)) rfl rfl rfl
theorem w5_19 {a : Nat} {x0 : Int32} {x1 : Int32} {x2 : Int32} : W (pj lw) 5 19 L (.int x2 :: .int x1 :: .int x0 :: .ref a :: S) k n H Q ↔ ((isO H a = true ∧ cs S + (14 + 11) + 0 ≤ 25) ∧ Cl (pj lw) 6 [.ref a, .int x0, .int x1, .int x2] H (fun v H => W (pj lw) 5 22 L (v.toList ++ S) k n H Q)) := W_inst (as := [.int x0, .int x1, .int x2]) (rfl : (pj lw).1 5 19 = some (.invokevirtual 95, 3, 6)) rfl rfl rfl (Nat.le_of_ble_eq_true rfl) (Nat.le_of_ble_eq_true rfl) ⟨rfl, rfl⟩
theorem w5_22 {x : Int32} : W (pj lw) 5 22 L (.int x :: S) k n H Q ↔ (if x = 0 then W (pj lw) 5 32 L S k n H Q else W (pj lw) 5 25 L S k n H Q) := W_if_eq (rfl : (pj lw).1 5 22 = some (.ifCond .eq 10, 3, 0)) rfl
theorem w5_25 {x : Int32} {l0 l1 l2 : Slot} : W (pj lw) 5 25 (l0 :: l1 :: l2 :: .val (.int x) :: L) S k n H Q ↔ W (pj lw) 5 26 (l0 :: l1 :: l2 :: .val (.int x) :: L) (.int x :: S) k n H Q := W_s (rfl : (pj lw).1 5 25 = some (.iload_n 3, 1, 0)) rfl rfl rfl
theorem w5_26 : W (pj lw) 5 26 L S k n H Q ↔ W (pj lw) 5 27 L (.int 1 :: S) k n H Q := W_s (rfl : (pj lw).1 5 26 = some (.iconst 1, 1, 0)) rfl rfl rfl
theorem w5_27 {x : Int32} {l0 l1 l2 l3 : Slot} : W (pj lw) 5 27 (l0 :: l1 :: l2 :: l3 :: .val (.int x) :: L) S k n H Q ↔ W (pj lw) 5 29 (l0 :: l1 :: l2 :: l3 :: .val (.int x) :: L) (.int x :: S) k n H Q := W_s (rfl : (pj lw).1 5 27 = some (.iload 4, 2, 0)) rfl rfl rfl
theorem w5_29 {x y : Int32} : W (pj lw) 5 29 L (.int y :: .int x :: S) k n H Q ↔ W (pj lw) 5 30 L (.int (x <<< (y &&& 31)) :: S) k n H Q := W_s (rfl : (pj lw).1 5 29 = some (.ishl, 1, 0)) rfl rfl rfl
theorem w5_30 {x y : Int32} : W (pj lw) 5 30 L (.int y :: .int x :: S) k n H Q ↔ W (pj lw) 5 31 L (.int (x ||| y) :: S) k n H Q := W_s (rfl : (pj lw).1 5 30 = some (.ior, 1, 0)) rfl rfl rfl
theorem w5_31i {y : Int32} {x : Int32} {l0 l1 l2 : Slot} : W (pj lw) 5 31 (l0 :: l1 :: l2 :: .val (.int y) :: L) (.int x :: S) k n H Q ↔ W (pj lw) 5 32 (l0 :: l1 :: l2 :: .val (.int x) :: L) S k n H Q := W_istn (rfl : (pj lw).1 5 31 = some (.istore_n 3, 1, 0)) rfl rfl
theorem w5_32 {x : Int32} {l0 l1 l2 l3 : Slot} : W (pj lw) 5 32 (l0 :: l1 :: l2 :: l3 :: .val (.int x) :: L) S k n H Q ↔ W (pj lw) 5 35 (l0 :: l1 :: l2 :: l3 :: .val (.int (x + 1)) :: L) S k n H Q := W_s (rfl : (pj lw).1 5 32 = some (.iinc 4 1, 3, 0)) rfl rfl rfl
theorem w5_35 : W (pj lw) 5 35 L S k n H Q ↔ W (pj lw) 5 5 L S k n H Q := W_goto (rfl : (pj lw).1 5 35 = some (.goto (-30), 3, 0)) rfl
theorem w5_38 {x : Int32} {l0 l1 l2 : Slot} : W (pj lw) 5 38 (l0 :: l1 :: l2 :: .val (.int x) :: L) S k n H Q ↔ W (pj lw) 5 39 (l0 :: l1 :: l2 :: .val (.int x) :: L) (.int x :: S) k n H Q := W_s (rfl : (pj lw).1 5 38 = some (.iload_n 3, 1, 0)) rfl rfl rfl
theorem w5_39 {x : Int32} : W (pj lw) 5 39 L (.int x :: S) k n H Q ↔ Q (some (.int x)) H := W_r (rfl : (pj lw).1 5 39 = some (.ireturn, 1, 0)) rfl
theorem c6 {x0 : Nat} {x1 : Int32} {x2 : Int32} {x3 : Int32} : Cl (pj lw) 6 [.ref x0, .int x1, .int x2, .int x3] H Q ↔ W (pj lw) 6 0 [.val (.ref x0), .val (.int x1), .val (.int x2), .val (.int x3), .unset, .unset, .unset, .unset, .unset, .unset, .unset, .unset, .unset, .unset] [] 0 0 H Q := cl_unf rfl
theorem w6_0 {x : Nat} : W (pj lw) 6 0 (.val (.ref x) :: L) S k n H Q ↔ W (pj lw) 6 1 (.val (.ref x) :: L) (.ref x :: S) k n H Q := W_s (rfl : (pj lw).1 6 0 = some (.aload_n 0, 1, 0)) rfl rfl rfl
theorem w6_1 {a : Nat} : W (pj lw) 6 1 L (.ref a :: S) k n H Q ↔ (isO H a = true ∧ W (pj lw) 6 4 L (fld H a 16 :: S) k n H Q) := W_getf (rfl : (pj lw).1 6 1 = some (.getfield 31, 3, 16))
theorem w6_4 {x : Int32} {l0 : Slot} : W (pj lw) 6 4 (l0 :: .val (.int x) :: L) S k n H Q ↔ W (pj lw) 6 5 (l0 :: .val (.int x) :: L) (.int x :: S) k n H Q := W_s (rfl : (pj lw).1 6 4 = some (.iload_n 1, 1, 0)) rfl rfl rfl
theorem w6_5 {i : Int32} {a : Nat} : W (pj lw) 6 5 L (.int i :: .ref a :: S) k n H Q ↔ (inA H a .int i = true ∧ W (pj lw) 6 6 L (elt H a i :: S) k n H Q) := W_iaload (rfl : (pj lw).1 6 5 = some (.iaload, 1, 0))
theorem w6_6 {x : Int32} {l0 l1 l2 l3 : Slot} : W (pj lw) 6 6 (l0 :: l1 :: l2 :: l3 :: .unset :: L) (.int x :: S) k n H Q ↔ W (pj lw) 6 8 (l0 :: l1 :: l2 :: l3 :: .val (.int x) :: L) S k n H Q := W_ist (rfl : (pj lw).1 6 6 = some (.istore 4, 2, 0)) rfl rfl
theorem w6_8 {x : Nat} : W (pj lw) 6 8 (.val (.ref x) :: L) S k n H Q ↔ W (pj lw) 6 9 (.val (.ref x) :: L) (.ref x :: S) k n H Q := W_s (rfl : (pj lw).1 6 8 = some (.aload_n 0, 1, 0)) rfl rfl rfl
theorem w6_9 {a : Nat} : W (pj lw) 6 9 L (.ref a :: S) k n H Q ↔ (isO H a = true ∧ W (pj lw) 6 12 L (fld H a 17 :: S) k n H Q) := W_getf (rfl : (pj lw).1 6 9 = some (.getfield 34, 3, 17))
theorem w6_12 {x : Int32} {l0 : Slot} : W (pj lw) 6 12 (l0 :: .val (.int x) :: L) S k n H Q ↔ W (pj lw) 6 13 (l0 :: .val (.int x) :: L) (.int x :: S) k n H Q := W_s (rfl : (pj lw).1 6 12 = some (.iload_n 1, 1, 0)) rfl rfl rfl
theorem w6_13 {i : Int32} {a : Nat} : W (pj lw) 6 13 L (.int i :: .ref a :: S) k n H Q ↔ (inA H a .int i = true ∧ W (pj lw) 6 14 L (elt H a i :: S) k n H Q) := W_iaload (rfl : (pj lw).1 6 13 = some (.iaload, 1, 0))
theorem w6_14 {x : Int32} {l0 l1 l2 l3 l4 : Slot} : W (pj lw) 6 14 (l0 :: l1 :: l2 :: l3 :: l4 :: .unset :: L) (.int x :: S) k n H Q ↔ W (pj lw) 6 16 (l0 :: l1 :: l2 :: l3 :: l4 :: .val (.int x) :: L) S k n H Q := W_ist (rfl : (pj lw).1 6 14 = some (.istore 5, 2, 0)) rfl rfl
theorem w6_16 {x : Nat} : W (pj lw) 6 16 (.val (.ref x) :: L) S k n H Q ↔ W (pj lw) 6 17 (.val (.ref x) :: L) (.ref x :: S) k n H Q := W_s (rfl : (pj lw).1 6 16 = some (.aload_n 0, 1, 0)) rfl rfl rfl
theorem w6_17 {a : Nat} : W (pj lw) 6 17 L (.ref a :: S) k n H Q ↔ (isO H a = true ∧ W (pj lw) 6 20 L (fld H a 16 :: S) k n H Q) := W_getf (rfl : (pj lw).1 6 17 = some (.getfield 31, 3, 16))
theorem w6_20 {x : Int32} {l0 l1 : Slot} : W (pj lw) 6 20 (l0 :: l1 :: .val (.int x) :: L) S k n H Q ↔ W (pj lw) 6 21 (l0 :: l1 :: .val (.int x) :: L) (.int x :: S) k n H Q := W_s (rfl : (pj lw).1 6 20 = some (.iload_n 2, 1, 0)) rfl rfl rfl
theorem w6_21 {i : Int32} {a : Nat} : W (pj lw) 6 21 L (.int i :: .ref a :: S) k n H Q ↔ (inA H a .int i = true ∧ W (pj lw) 6 22 L (elt H a i :: S) k n H Q) := W_iaload (rfl : (pj lw).1 6 21 = some (.iaload, 1, 0))
theorem w6_22 {x : Int32} {l0 l1 l2 l3 l4 l5 : Slot} : W (pj lw) 6 22 (l0 :: l1 :: l2 :: l3 :: l4 :: l5 :: .unset :: L) (.int x :: S) k n H Q ↔ W (pj lw) 6 24 (l0 :: l1 :: l2 :: l3 :: l4 :: l5 :: .val (.int x) :: L) S k n H Q := W_ist (rfl : (pj lw).1 6 22 = some (.istore 6, 2, 0)) rfl rfl
theorem w6_24 {x : Nat} : W (pj lw) 6 24 (.val (.ref x) :: L) S k n H Q ↔ W (pj lw) 6 25 (.val (.ref x) :: L) (.ref x :: S) k n H Q := W_s (rfl : (pj lw).1 6 24 = some (.aload_n 0, 1, 0)) rfl rfl rfl
theorem w6_25 {a : Nat} : W (pj lw) 6 25 L (.ref a :: S) k n H Q ↔ (isO H a = true ∧ W (pj lw) 6 28 L (fld H a 17 :: S) k n H Q) := W_getf (rfl : (pj lw).1 6 25 = some (.getfield 34, 3, 17))
theorem w6_28 {x : Int32} {l0 l1 : Slot} : W (pj lw) 6 28 (l0 :: l1 :: .val (.int x) :: L) S k n H Q ↔ W (pj lw) 6 29 (l0 :: l1 :: .val (.int x) :: L) (.int x :: S) k n H Q := W_s (rfl : (pj lw).1 6 28 = some (.iload_n 2, 1, 0)) rfl rfl rfl
theorem w6_29 {i : Int32} {a : Nat} : W (pj lw) 6 29 L (.int i :: .ref a :: S) k n H Q ↔ (inA H a .int i = true ∧ W (pj lw) 6 30 L (elt H a i :: S) k n H Q) := W_iaload (rfl : (pj lw).1 6 29 = some (.iaload, 1, 0))
theorem w6_30 {x : Int32} {l0 l1 l2 l3 l4 l5 l6 : Slot} : W (pj lw) 6 30 (l0 :: l1 :: l2 :: l3 :: l4 :: l5 :: l6 :: .unset :: L) (.int x :: S) k n H Q ↔ W (pj lw) 6 32 (l0 :: l1 :: l2 :: l3 :: l4 :: l5 :: l6 :: .val (.int x) :: L) S k n H Q := W_ist (rfl : (pj lw).1 6 30 = some (.istore 7, 2, 0)) rfl rfl
theorem w6_32 {x : Nat} : W (pj lw) 6 32 (.val (.ref x) :: L) S k n H Q ↔ W (pj lw) 6 33 (.val (.ref x) :: L) (.ref x :: S) k n H Q := W_s (rfl : (pj lw).1 6 32 = some (.aload_n 0, 1, 0)) rfl rfl rfl
theorem w6_33 {a : Nat} : W (pj lw) 6 33 L (.ref a :: S) k n H Q ↔ (isO H a = true ∧ W (pj lw) 6 36 L (fld H a 16 :: S) k n H Q) := W_getf (rfl : (pj lw).1 6 33 = some (.getfield 31, 3, 16))
theorem w6_36 {x : Int32} {l0 l1 l2 : Slot} : W (pj lw) 6 36 (l0 :: l1 :: l2 :: .val (.int x) :: L) S k n H Q ↔ W (pj lw) 6 37 (l0 :: l1 :: l2 :: .val (.int x) :: L) (.int x :: S) k n H Q := W_s (rfl : (pj lw).1 6 36 = some (.iload_n 3, 1, 0)) rfl rfl rfl
theorem w6_37 {i : Int32} {a : Nat} : W (pj lw) 6 37 L (.int i :: .ref a :: S) k n H Q ↔ (inA H a .int i = true ∧ W (pj lw) 6 38 L (elt H a i :: S) k n H Q) := W_iaload (rfl : (pj lw).1 6 37 = some (.iaload, 1, 0))
theorem w6_38 {x : Int32} {l0 l1 l2 l3 l4 l5 l6 l7 : Slot} : W (pj lw) 6 38 (l0 :: l1 :: l2 :: l3 :: l4 :: l5 :: l6 :: l7 :: .unset :: L) (.int x :: S) k n H Q ↔ W (pj lw) 6 40 (l0 :: l1 :: l2 :: l3 :: l4 :: l5 :: l6 :: l7 :: .val (.int x) :: L) S k n H Q := W_ist (rfl : (pj lw).1 6 38 = some (.istore 8, 2, 0)) rfl rfl
theorem w6_40 {x : Nat} : W (pj lw) 6 40 (.val (.ref x) :: L) S k n H Q ↔ W (pj lw) 6 41 (.val (.ref x) :: L) (.ref x :: S) k n H Q := W_s (rfl : (pj lw).1 6 40 = some (.aload_n 0, 1, 0)) rfl rfl rfl
theorem w6_41 {a : Nat} : W (pj lw) 6 41 L (.ref a :: S) k n H Q ↔ (isO H a = true ∧ W (pj lw) 6 44 L (fld H a 17 :: S) k n H Q) := W_getf (rfl : (pj lw).1 6 41 = some (.getfield 34, 3, 17))
theorem w6_44 {x : Int32} {l0 l1 l2 : Slot} : W (pj lw) 6 44 (l0 :: l1 :: l2 :: .val (.int x) :: L) S k n H Q ↔ W (pj lw) 6 45 (l0 :: l1 :: l2 :: .val (.int x) :: L) (.int x :: S) k n H Q := W_s (rfl : (pj lw).1 6 44 = some (.iload_n 3, 1, 0)) rfl rfl rfl
theorem w6_45 {i : Int32} {a : Nat} : W (pj lw) 6 45 L (.int i :: .ref a :: S) k n H Q ↔ (inA H a .int i = true ∧ W (pj lw) 6 46 L (elt H a i :: S) k n H Q) := W_iaload (rfl : (pj lw).1 6 45 = some (.iaload, 1, 0))
theorem w6_46 {x : Int32} {l0 l1 l2 l3 l4 l5 l6 l7 l8 : Slot} : W (pj lw) 6 46 (l0 :: l1 :: l2 :: l3 :: l4 :: l5 :: l6 :: l7 :: l8 :: .unset :: L) (.int x :: S) k n H Q ↔ W (pj lw) 6 48 (l0 :: l1 :: l2 :: l3 :: l4 :: l5 :: l6 :: l7 :: l8 :: .val (.int x) :: L) S k n H Q := W_ist (rfl : (pj lw).1 6 46 = some (.istore 9, 2, 0)) rfl rfl
theorem w6_48 {x : Int32} {l0 l1 l2 l3 : Slot} : W (pj lw) 6 48 (l0 :: l1 :: l2 :: l3 :: .val (.int x) :: L) S k n H Q ↔ W (pj lw) 6 50 (l0 :: l1 :: l2 :: l3 :: .val (.int x) :: L) (.int x :: S) k n H Q := W_s (rfl : (pj lw).1 6 48 = some (.iload 4, 2, 0)) rfl rfl rfl
theorem w6_50 {x : Int32} {l0 l1 l2 l3 l4 l5 : Slot} : W (pj lw) 6 50 (l0 :: l1 :: l2 :: l3 :: l4 :: l5 :: .val (.int x) :: L) S k n H Q ↔ W (pj lw) 6 52 (l0 :: l1 :: l2 :: l3 :: l4 :: l5 :: .val (.int x) :: L) (.int x :: S) k n H Q := W_s (rfl : (pj lw).1 6 50 = some (.iload 6, 2, 0)) rfl rfl rfl
theorem w6_52 {x y : Int32} : W (pj lw) 6 52 L (.int y :: .int x :: S) k n H Q ↔ (if x = y then W (pj lw) 6 62 L S k n H Q else W (pj lw) 6 55 L S k n H Q) := W_icmp_eq (rfl : (pj lw).1 6 52 = some (.if_icmp .eq 10, 3, 0)) rfl
theorem w6_55 {x : Int32} {l0 l1 l2 l3 : Slot} : W (pj lw) 6 55 (l0 :: l1 :: l2 :: l3 :: .val (.int x) :: L) S k n H Q ↔ W (pj lw) 6 57 (l0 :: l1 :: l2 :: l3 :: .val (.int x) :: L) (.int x :: S) k n H Q := W_s (rfl : (pj lw).1 6 55 = some (.iload 4, 2, 0)) rfl rfl rfl
theorem w6_57 {x : Int32} {l0 l1 l2 l3 l4 l5 l6 : Slot} : W (pj lw) 6 57 (l0 :: l1 :: l2 :: l3 :: l4 :: l5 :: l6 :: .val (.int x) :: L) S k n H Q ↔ W (pj lw) 6 59 (l0 :: l1 :: l2 :: l3 :: l4 :: l5 :: l6 :: .val (.int x) :: L) (.int x :: S) k n H Q := W_s (rfl : (pj lw).1 6 57 = some (.iload 7, 2, 0)) rfl rfl rfl
theorem w6_59 {x y : Int32} : W (pj lw) 6 59 L (.int y :: .int x :: S) k n H Q ↔ (if x = y then W (pj lw) 6 62 L S k n H Q else W (pj lw) 6 66 L S k n H Q) := W_icmp_ne (rfl : (pj lw).1 6 59 = some (.if_icmp .ne 7, 3, 0)) rfl
theorem w6_62 : W (pj lw) 6 62 L S k n H Q ↔ W (pj lw) 6 63 L (.int 1 :: S) k n H Q := W_s (rfl : (pj lw).1 6 62 = some (.iconst 1, 1, 0)) rfl rfl rfl
theorem w6_63 : W (pj lw) 6 63 L S k n H Q ↔ W (pj lw) 6 67 L S k n H Q := W_goto (rfl : (pj lw).1 6 63 = some (.goto 4, 3, 0)) rfl
theorem w6_66 : W (pj lw) 6 66 L S k n H Q ↔ W (pj lw) 6 67 L (.int 0 :: S) k n H Q := W_s (rfl : (pj lw).1 6 66 = some (.iconst 0, 1, 0)) rfl rfl rfl
theorem w6_67 {x : Int32} {l0 l1 l2 l3 l4 l5 l6 l7 l8 l9 : Slot} : W (pj lw) 6 67 (l0 :: l1 :: l2 :: l3 :: l4 :: l5 :: l6 :: l7 :: l8 :: l9 :: .unset :: L) (.int x :: S) k n H Q ↔ W (pj lw) 6 69 (l0 :: l1 :: l2 :: l3 :: l4 :: l5 :: l6 :: l7 :: l8 :: l9 :: .val (.int x) :: L) S k n H Q := W_ist (rfl : (pj lw).1 6 67 = some (.istore 10, 2, 0)) rfl rfl
theorem w6_69 {x : Int32} {l0 l1 l2 l3 l4 : Slot} : W (pj lw) 6 69 (l0 :: l1 :: l2 :: l3 :: l4 :: .val (.int x) :: L) S k n H Q ↔ W (pj lw) 6 71 (l0 :: l1 :: l2 :: l3 :: l4 :: .val (.int x) :: L) (.int x :: S) k n H Q := W_s (rfl : (pj lw).1 6 69 = some (.iload 5, 2, 0)) rfl rfl rfl
theorem w6_71 {x : Int32} {l0 l1 l2 l3 l4 l5 : Slot} : W (pj lw) 6 71 (l0 :: l1 :: l2 :: l3 :: l4 :: l5 :: .val (.int x) :: L) S k n H Q ↔ W (pj lw) 6 73 (l0 :: l1 :: l2 :: l3 :: l4 :: l5 :: .val (.int x) :: L) (.int x :: S) k n H Q := W_s (rfl : (pj lw).1 6 71 = some (.iload 6, 2, 0)) rfl rfl rfl
theorem w6_73 {x y : Int32} : W (pj lw) 6 73 L (.int y :: .int x :: S) k n H Q ↔ (if x = y then W (pj lw) 6 83 L S k n H Q else W (pj lw) 6 76 L S k n H Q) := W_icmp_eq (rfl : (pj lw).1 6 73 = some (.if_icmp .eq 10, 3, 0)) rfl
theorem w6_76 {x : Int32} {l0 l1 l2 l3 l4 : Slot} : W (pj lw) 6 76 (l0 :: l1 :: l2 :: l3 :: l4 :: .val (.int x) :: L) S k n H Q ↔ W (pj lw) 6 78 (l0 :: l1 :: l2 :: l3 :: l4 :: .val (.int x) :: L) (.int x :: S) k n H Q := W_s (rfl : (pj lw).1 6 76 = some (.iload 5, 2, 0)) rfl rfl rfl
theorem w6_78 {x : Int32} {l0 l1 l2 l3 l4 l5 l6 : Slot} : W (pj lw) 6 78 (l0 :: l1 :: l2 :: l3 :: l4 :: l5 :: l6 :: .val (.int x) :: L) S k n H Q ↔ W (pj lw) 6 80 (l0 :: l1 :: l2 :: l3 :: l4 :: l5 :: l6 :: .val (.int x) :: L) (.int x :: S) k n H Q := W_s (rfl : (pj lw).1 6 78 = some (.iload 7, 2, 0)) rfl rfl rfl
theorem w6_80 {x y : Int32} : W (pj lw) 6 80 L (.int y :: .int x :: S) k n H Q ↔ (if x = y then W (pj lw) 6 83 L S k n H Q else W (pj lw) 6 87 L S k n H Q) := W_icmp_ne (rfl : (pj lw).1 6 80 = some (.if_icmp .ne 7, 3, 0)) rfl
theorem w6_83 : W (pj lw) 6 83 L S k n H Q ↔ W (pj lw) 6 84 L (.int 1 :: S) k n H Q := W_s (rfl : (pj lw).1 6 83 = some (.iconst 1, 1, 0)) rfl rfl rfl
theorem w6_84 : W (pj lw) 6 84 L S k n H Q ↔ W (pj lw) 6 88 L S k n H Q := W_goto (rfl : (pj lw).1 6 84 = some (.goto 4, 3, 0)) rfl
theorem w6_87 : W (pj lw) 6 87 L S k n H Q ↔ W (pj lw) 6 88 L (.int 0 :: S) k n H Q := W_s (rfl : (pj lw).1 6 87 = some (.iconst 0, 1, 0)) rfl rfl rfl
theorem w6_88 {x : Int32} {l0 l1 l2 l3 l4 l5 l6 l7 l8 l9 l10 : Slot} : W (pj lw) 6 88 (l0 :: l1 :: l2 :: l3 :: l4 :: l5 :: l6 :: l7 :: l8 :: l9 :: l10 :: .unset :: L) (.int x :: S) k n H Q ↔ W (pj lw) 6 90 (l0 :: l1 :: l2 :: l3 :: l4 :: l5 :: l6 :: l7 :: l8 :: l9 :: l10 :: .val (.int x) :: L) S k n H Q := W_ist (rfl : (pj lw).1 6 88 = some (.istore 11, 2, 0)) rfl rfl
theorem w6_90 {x : Int32} {l0 l1 l2 l3 : Slot} : W (pj lw) 6 90 (l0 :: l1 :: l2 :: l3 :: .val (.int x) :: L) S k n H Q ↔ W (pj lw) 6 92 (l0 :: l1 :: l2 :: l3 :: .val (.int x) :: L) (.int x :: S) k n H Q := W_s (rfl : (pj lw).1 6 90 = some (.iload 4, 2, 0)) rfl rfl rfl
theorem w6_92 {x : Int32} {l0 l1 l2 l3 l4 l5 l6 l7 : Slot} : W (pj lw) 6 92 (l0 :: l1 :: l2 :: l3 :: l4 :: l5 :: l6 :: l7 :: .val (.int x) :: L) S k n H Q ↔ W (pj lw) 6 94 (l0 :: l1 :: l2 :: l3 :: l4 :: l5 :: l6 :: l7 :: .val (.int x) :: L) (.int x :: S) k n H Q := W_s (rfl : (pj lw).1 6 92 = some (.iload 8, 2, 0)) rfl rfl rfl
theorem w6_94 {x y : Int32} : W (pj lw) 6 94 L (.int y :: .int x :: S) k n H Q ↔ (if x = y then W (pj lw) 6 104 L S k n H Q else W (pj lw) 6 97 L S k n H Q) := W_icmp_eq (rfl : (pj lw).1 6 94 = some (.if_icmp .eq 10, 3, 0)) rfl
theorem w6_97 {x : Int32} {l0 l1 l2 l3 : Slot} : W (pj lw) 6 97 (l0 :: l1 :: l2 :: l3 :: .val (.int x) :: L) S k n H Q ↔ W (pj lw) 6 99 (l0 :: l1 :: l2 :: l3 :: .val (.int x) :: L) (.int x :: S) k n H Q := W_s (rfl : (pj lw).1 6 97 = some (.iload 4, 2, 0)) rfl rfl rfl
theorem w6_99 {x : Int32} {l0 l1 l2 l3 l4 l5 l6 l7 l8 : Slot} : W (pj lw) 6 99 (l0 :: l1 :: l2 :: l3 :: l4 :: l5 :: l6 :: l7 :: l8 :: .val (.int x) :: L) S k n H Q ↔ W (pj lw) 6 101 (l0 :: l1 :: l2 :: l3 :: l4 :: l5 :: l6 :: l7 :: l8 :: .val (.int x) :: L) (.int x :: S) k n H Q := W_s (rfl : (pj lw).1 6 99 = some (.iload 9, 2, 0)) rfl rfl rfl
theorem w6_101 {x y : Int32} : W (pj lw) 6 101 L (.int y :: .int x :: S) k n H Q ↔ (if x = y then W (pj lw) 6 104 L S k n H Q else W (pj lw) 6 108 L S k n H Q) := W_icmp_ne (rfl : (pj lw).1 6 101 = some (.if_icmp .ne 7, 3, 0)) rfl
theorem w6_104 : W (pj lw) 6 104 L S k n H Q ↔ W (pj lw) 6 105 L (.int 1 :: S) k n H Q := W_s (rfl : (pj lw).1 6 104 = some (.iconst 1, 1, 0)) rfl rfl rfl
theorem w6_105 : W (pj lw) 6 105 L S k n H Q ↔ W (pj lw) 6 109 L S k n H Q := W_goto (rfl : (pj lw).1 6 105 = some (.goto 4, 3, 0)) rfl
theorem w6_108 : W (pj lw) 6 108 L S k n H Q ↔ W (pj lw) 6 109 L (.int 0 :: S) k n H Q := W_s (rfl : (pj lw).1 6 108 = some (.iconst 0, 1, 0)) rfl rfl rfl
theorem w6_109 {x : Int32} {l0 l1 l2 l3 l4 l5 l6 l7 l8 l9 l10 l11 : Slot} : W (pj lw) 6 109 (l0 :: l1 :: l2 :: l3 :: l4 :: l5 :: l6 :: l7 :: l8 :: l9 :: l10 :: l11 :: .unset :: L) (.int x :: S) k n H Q ↔ W (pj lw) 6 111 (l0 :: l1 :: l2 :: l3 :: l4 :: l5 :: l6 :: l7 :: l8 :: l9 :: l10 :: l11 :: .val (.int x) :: L) S k n H Q := W_ist (rfl : (pj lw).1 6 109 = some (.istore 12, 2, 0)) rfl rfl
theorem w6_111 {x : Int32} {l0 l1 l2 l3 l4 : Slot} : W (pj lw) 6 111 (l0 :: l1 :: l2 :: l3 :: l4 :: .val (.int x) :: L) S k n H Q ↔ W (pj lw) 6 113 (l0 :: l1 :: l2 :: l3 :: l4 :: .val (.int x) :: L) (.int x :: S) k n H Q := W_s (rfl : (pj lw).1 6 111 = some (.iload 5, 2, 0)) rfl rfl rfl
theorem w6_113 {x : Int32} {l0 l1 l2 l3 l4 l5 l6 l7 : Slot} : W (pj lw) 6 113 (l0 :: l1 :: l2 :: l3 :: l4 :: l5 :: l6 :: l7 :: .val (.int x) :: L) S k n H Q ↔ W (pj lw) 6 115 (l0 :: l1 :: l2 :: l3 :: l4 :: l5 :: l6 :: l7 :: .val (.int x) :: L) (.int x :: S) k n H Q := W_s (rfl : (pj lw).1 6 113 = some (.iload 8, 2, 0)) rfl rfl rfl
theorem w6_115 {x y : Int32} : W (pj lw) 6 115 L (.int y :: .int x :: S) k n H Q ↔ (if x = y then W (pj lw) 6 125 L S k n H Q else W (pj lw) 6 118 L S k n H Q) := W_icmp_eq (rfl : (pj lw).1 6 115 = some (.if_icmp .eq 10, 3, 0)) rfl
theorem w6_118 {x : Int32} {l0 l1 l2 l3 l4 : Slot} : W (pj lw) 6 118 (l0 :: l1 :: l2 :: l3 :: l4 :: .val (.int x) :: L) S k n H Q ↔ W (pj lw) 6 120 (l0 :: l1 :: l2 :: l3 :: l4 :: .val (.int x) :: L) (.int x :: S) k n H Q := W_s (rfl : (pj lw).1 6 118 = some (.iload 5, 2, 0)) rfl rfl rfl
theorem w6_120 {x : Int32} {l0 l1 l2 l3 l4 l5 l6 l7 l8 : Slot} : W (pj lw) 6 120 (l0 :: l1 :: l2 :: l3 :: l4 :: l5 :: l6 :: l7 :: l8 :: .val (.int x) :: L) S k n H Q ↔ W (pj lw) 6 122 (l0 :: l1 :: l2 :: l3 :: l4 :: l5 :: l6 :: l7 :: l8 :: .val (.int x) :: L) (.int x :: S) k n H Q := W_s (rfl : (pj lw).1 6 120 = some (.iload 9, 2, 0)) rfl rfl rfl
theorem w6_122 {x y : Int32} : W (pj lw) 6 122 L (.int y :: .int x :: S) k n H Q ↔ (if x = y then W (pj lw) 6 125 L S k n H Q else W (pj lw) 6 129 L S k n H Q) := W_icmp_ne (rfl : (pj lw).1 6 122 = some (.if_icmp .ne 7, 3, 0)) rfl
theorem w6_125 : W (pj lw) 6 125 L S k n H Q ↔ W (pj lw) 6 126 L (.int 1 :: S) k n H Q := W_s (rfl : (pj lw).1 6 125 = some (.iconst 1, 1, 0)) rfl rfl rfl
theorem w6_126 : W (pj lw) 6 126 L S k n H Q ↔ W (pj lw) 6 130 L S k n H Q := W_goto (rfl : (pj lw).1 6 126 = some (.goto 4, 3, 0)) rfl
theorem w6_129 : W (pj lw) 6 129 L S k n H Q ↔ W (pj lw) 6 130 L (.int 0 :: S) k n H Q := W_s (rfl : (pj lw).1 6 129 = some (.iconst 0, 1, 0)) rfl rfl rfl
theorem w6_130 {x : Int32} {l0 l1 l2 l3 l4 l5 l6 l7 l8 l9 l10 l11 l12 : Slot} : W (pj lw) 6 130 (l0 :: l1 :: l2 :: l3 :: l4 :: l5 :: l6 :: l7 :: l8 :: l9 :: l10 :: l11 :: l12 :: .unset :: L) (.int x :: S) k n H Q ↔ W (pj lw) 6 132 (l0 :: l1 :: l2 :: l3 :: l4 :: l5 :: l6 :: l7 :: l8 :: l9 :: l10 :: l11 :: l12 :: .val (.int x) :: L) S k n H Q := W_ist (rfl : (pj lw).1 6 130 = some (.istore 13, 2, 0)) rfl rfl
theorem w6_132 {x : Int32} {l0 l1 l2 l3 l4 l5 l6 l7 l8 l9 : Slot} : W (pj lw) 6 132 (l0 :: l1 :: l2 :: l3 :: l4 :: l5 :: l6 :: l7 :: l8 :: l9 :: .val (.int x) :: L) S k n H Q ↔ W (pj lw) 6 134 (l0 :: l1 :: l2 :: l3 :: l4 :: l5 :: l6 :: l7 :: l8 :: l9 :: .val (.int x) :: L) (.int x :: S) k n H Q := W_s (rfl : (pj lw).1 6 132 = some (.iload 10, 2, 0)) rfl rfl rfl
theorem w6_134 {x : Int32} : W (pj lw) 6 134 L (.int x :: S) k n H Q ↔ (if x = 0 then W (pj lw) 6 142 L S k n H Q else W (pj lw) 6 137 L S k n H Q) := W_if_eq (rfl : (pj lw).1 6 134 = some (.ifCond .eq 8, 3, 0)) rfl
theorem w6_137 {x : Int32} {l0 l1 l2 l3 l4 l5 l6 l7 l8 l9 l10 l11 l12 : Slot} : W (pj lw) 6 137 (l0 :: l1 :: l2 :: l3 :: l4 :: l5 :: l6 :: l7 :: l8 :: l9 :: l10 :: l11 :: l12 :: .val (.int x) :: L) S k n H Q ↔ W (pj lw) 6 139 (l0 :: l1 :: l2 :: l3 :: l4 :: l5 :: l6 :: l7 :: l8 :: l9 :: l10 :: l11 :: l12 :: .val (.int x) :: L) (.int x :: S) k n H Q := W_s (rfl : (pj lw).1 6 137 = some (.iload 13, 2, 0)) rfl rfl rfl
theorem w6_139 {x : Int32} : W (pj lw) 6 139 L (.int x :: S) k n H Q ↔ (if x = 0 then W (pj lw) 6 142 L S k n H Q else W (pj lw) 6 152 L S k n H Q) := W_if_ne (rfl : (pj lw).1 6 139 = some (.ifCond .ne 13, 3, 0)) rfl
theorem w6_142 {x : Int32} {l0 l1 l2 l3 l4 l5 l6 l7 l8 l9 l10 : Slot} : W (pj lw) 6 142 (l0 :: l1 :: l2 :: l3 :: l4 :: l5 :: l6 :: l7 :: l8 :: l9 :: l10 :: .val (.int x) :: L) S k n H Q ↔ W (pj lw) 6 144 (l0 :: l1 :: l2 :: l3 :: l4 :: l5 :: l6 :: l7 :: l8 :: l9 :: l10 :: .val (.int x) :: L) (.int x :: S) k n H Q := W_s (rfl : (pj lw).1 6 142 = some (.iload 11, 2, 0)) rfl rfl rfl
theorem w6_144 {x : Int32} : W (pj lw) 6 144 L (.int x :: S) k n H Q ↔ (if x = 0 then W (pj lw) 6 156 L S k n H Q else W (pj lw) 6 147 L S k n H Q) := W_if_eq (rfl : (pj lw).1 6 144 = some (.ifCond .eq 12, 3, 0)) rfl
theorem w6_147 {x : Int32} {l0 l1 l2 l3 l4 l5 l6 l7 l8 l9 l10 l11 : Slot} : W (pj lw) 6 147 (l0 :: l1 :: l2 :: l3 :: l4 :: l5 :: l6 :: l7 :: l8 :: l9 :: l10 :: l11 :: .val (.int x) :: L) S k n H Q ↔ W (pj lw) 6 149 (l0 :: l1 :: l2 :: l3 :: l4 :: l5 :: l6 :: l7 :: l8 :: l9 :: l10 :: l11 :: .val (.int x) :: L) (.int x :: S) k n H Q := W_s (rfl : (pj lw).1 6 147 = some (.iload 12, 2, 0)) rfl rfl rfl
theorem w6_149 {x : Int32} : W (pj lw) 6 149 L (.int x :: S) k n H Q ↔ (if x = 0 then W (pj lw) 6 156 L S k n H Q else W (pj lw) 6 152 L S k n H Q) := W_if_eq (rfl : (pj lw).1 6 149 = some (.ifCond .eq 7, 3, 0)) rfl
theorem w6_152 : W (pj lw) 6 152 L S k n H Q ↔ W (pj lw) 6 153 L (.int 1 :: S) k n H Q := W_s (rfl : (pj lw).1 6 152 = some (.iconst 1, 1, 0)) rfl rfl rfl
theorem w6_153 : W (pj lw) 6 153 L S k n H Q ↔ W (pj lw) 6 157 L S k n H Q := W_goto (rfl : (pj lw).1 6 153 = some (.goto 4, 3, 0)) rfl
theorem w6_156 : W (pj lw) 6 156 L S k n H Q ↔ W (pj lw) 6 157 L (.int 0 :: S) k n H Q := W_s (rfl : (pj lw).1 6 156 = some (.iconst 0, 1, 0)) rfl rfl rfl
theorem w6_157 {x : Int32} : W (pj lw) 6 157 L (.int x :: S) k n H Q ↔ ((x = 0 ∨ x = 1) ∧ Q (some (.int x)) H) := W_rz (rfl : (pj lw).1 6 157 = some (.ireturn, 1, 0)) rfl
theorem c7 {x0 : Nat} {x1 : Int32} : Cl (pj lw) 7 [.ref x0, .int x1] H Q ↔ W (pj lw) 7 0 [.val (.ref x0), .val (.int x1)] [] 0 0 H Q := cl_unf rfl
theorem w7_0 {x : Int32} {l0 : Slot} : W (pj lw) 7 0 (l0 :: .val (.int x) :: L) S k n H Q ↔ W (pj lw) 7 1 (l0 :: .val (.int x) :: L) (.int x :: S) k n H Q := W_s (rfl : (pj lw).1 7 0 = some (.iload_n 1, 1, 0)) rfl rfl rfl
theorem w7_1 : W (pj lw) 7 1 L S k n H Q ↔ W (pj lw) 7 2 L (.int 1 :: S) k n H Q := W_s (rfl : (pj lw).1 7 1 = some (.iconst 1, 1, 0)) rfl rfl rfl
theorem w7_2 {x y : Int32} : W (pj lw) 7 2 L (.int y :: .int x :: S) k n H Q ↔ (if x < y then W (pj lw) 7 17 L S k n H Q else W (pj lw) 7 5 L S k n H Q) := W_icmp_lt (rfl : (pj lw).1 7 2 = some (.if_icmp .lt 15, 3, 0)) rfl
theorem w7_5 {x : Int32} {l0 : Slot} : W (pj lw) 7 5 (l0 :: .val (.int x) :: L) S k n H Q ↔ W (pj lw) 7 6 (l0 :: .val (.int x) :: L) (.int x :: S) k n H Q := W_s (rfl : (pj lw).1 7 5 = some (.iload_n 1, 1, 0)) rfl rfl rfl
theorem w7_6 {x : Nat} : W (pj lw) 7 6 (.val (.ref x) :: L) S k n H Q ↔ W (pj lw) 7 7 (.val (.ref x) :: L) (.ref x :: S) k n H Q := W_s (rfl : (pj lw).1 7 6 = some (.aload_n 0, 1, 0)) rfl rfl rfl
theorem w7_7 {a : Nat} : W (pj lw) 7 7 L (.ref a :: S) k n H Q ↔ (isO H a = true ∧ W (pj lw) 7 10 L (fld H a 4 :: S) k n H Q) := W_getf (rfl : (pj lw).1 7 7 = some (.getfield 66, 3, 4))
theorem w7_10 {x y : Int32} : W (pj lw) 7 10 L (.int y :: .int x :: S) k n H Q ↔ (if y < x then W (pj lw) 7 17 L S k n H Q else W (pj lw) 7 13 L S k n H Q) := W_icmp_gt (rfl : (pj lw).1 7 10 = some (.if_icmp .gt 7, 3, 0)) rfl
theorem w7_13 : W (pj lw) 7 13 L S k n H Q ↔ W (pj lw) 7 14 L (.int 1 :: S) k n H Q := W_s (rfl : (pj lw).1 7 13 = some (.iconst 1, 1, 0)) rfl rfl rfl
theorem w7_14 : W (pj lw) 7 14 L S k n H Q ↔ W (pj lw) 7 18 L S k n H Q := W_goto (rfl : (pj lw).1 7 14 = some (.goto 4, 3, 0)) rfl
theorem w7_17 : W (pj lw) 7 17 L S k n H Q ↔ W (pj lw) 7 18 L (.int 0 :: S) k n H Q := W_s (rfl : (pj lw).1 7 17 = some (.iconst 0, 1, 0)) rfl rfl rfl
theorem w7_18 {x : Int32} : W (pj lw) 7 18 L (.int x :: S) k n H Q ↔ ((x = 0 ∨ x = 1) ∧ Q (some (.int x)) H) := W_rz (rfl : (pj lw).1 7 18 = some (.ireturn, 1, 0)) rfl
theorem c8 {x0 : Nat} {x1 : Int32} : Cl (pj lw) 8 [.ref x0, .int x1] H Q ↔ W (pj lw) 8 0 [.val (.ref x0), .val (.int x1)] [] 0 0 H Q := cl_unf rfl
theorem w8_0 {x : Int32} {l0 : Slot} : W (pj lw) 8 0 (l0 :: .val (.int x) :: L) S k n H Q ↔ W (pj lw) 8 1 (l0 :: .val (.int x) :: L) (.int x :: S) k n H Q := W_s (rfl : (pj lw).1 8 0 = some (.iload_n 1, 1, 0)) rfl rfl rfl
theorem w8_1 : W (pj lw) 8 1 L S k n H Q ↔ W (pj lw) 8 2 L (.int 1 :: S) k n H Q := W_s (rfl : (pj lw).1 8 1 = some (.iconst 1, 1, 0)) rfl rfl rfl
theorem w8_2 {x y : Int32} : W (pj lw) 8 2 L (.int y :: .int x :: S) k n H Q ↔ (if x < y then W (pj lw) 8 17 L S k n H Q else W (pj lw) 8 5 L S k n H Q) := W_icmp_lt (rfl : (pj lw).1 8 2 = some (.if_icmp .lt 15, 3, 0)) rfl
theorem w8_5 {x : Int32} {l0 : Slot} : W (pj lw) 8 5 (l0 :: .val (.int x) :: L) S k n H Q ↔ W (pj lw) 8 6 (l0 :: .val (.int x) :: L) (.int x :: S) k n H Q := W_s (rfl : (pj lw).1 8 5 = some (.iload_n 1, 1, 0)) rfl rfl rfl
theorem w8_6 {x : Nat} : W (pj lw) 8 6 (.val (.ref x) :: L) S k n H Q ↔ W (pj lw) 8 7 (.val (.ref x) :: L) (.ref x :: S) k n H Q := W_s (rfl : (pj lw).1 8 6 = some (.aload_n 0, 1, 0)) rfl rfl rfl
theorem w8_7 {a : Nat} : W (pj lw) 8 7 L (.ref a :: S) k n H Q ↔ (isO H a = true ∧ W (pj lw) 8 10 L (fld H a 0 :: S) k n H Q) := W_getf (rfl : (pj lw).1 8 7 = some (.getfield 49, 3, 0))
theorem w8_10 {x y : Int32} : W (pj lw) 8 10 L (.int y :: .int x :: S) k n H Q ↔ (if y < x then W (pj lw) 8 17 L S k n H Q else W (pj lw) 8 13 L S k n H Q) := W_icmp_gt (rfl : (pj lw).1 8 10 = some (.if_icmp .gt 7, 3, 0)) rfl
theorem w8_13 : W (pj lw) 8 13 L S k n H Q ↔ W (pj lw) 8 14 L (.int 1 :: S) k n H Q := W_s (rfl : (pj lw).1 8 13 = some (.iconst 1, 1, 0)) rfl rfl rfl
theorem w8_14 : W (pj lw) 8 14 L S k n H Q ↔ W (pj lw) 8 18 L S k n H Q := W_goto (rfl : (pj lw).1 8 14 = some (.goto 4, 3, 0)) rfl
theorem w8_17 : W (pj lw) 8 17 L S k n H Q ↔ W (pj lw) 8 18 L (.int 0 :: S) k n H Q := W_s (rfl : (pj lw).1 8 17 = some (.iconst 0, 1, 0)) rfl rfl rfl
theorem w8_18 {x : Int32} : W (pj lw) 8 18 L (.int x :: S) k n H Q ↔ ((x = 0 ∨ x = 1) ∧ Q (some (.int x)) H) := W_rz (rfl : (pj lw).1 8 18 = some (.ireturn, 1, 0)) rfl
theorem c9 {x0 : Nat} {x1 : Int32} {x2 : Int32} {x3 : Int32} : Cl (pj lw) 9 [.ref x0, .int x1, .int x2, .int x3] H Q ↔ W (pj lw) 9 0 [.val (.ref x0), .val (.int x1), .val (.int x2), .val (.int x3)] [] 0 0 H Q := cl_unf rfl
theorem w9_0 {x : Nat} : W (pj lw) 9 0 (.val (.ref x) :: L) S k n H Q ↔ W (pj lw) 9 1 (.val (.ref x) :: L) (.ref x :: S) k n H Q := W_s (rfl : (pj lw).1 9 0 = some (.aload_n 0, 1, 0)) rfl rfl rfl
theorem w9_1 {a : Nat} : W (pj lw) 9 1 L (.ref a :: S) k n H Q ↔ (isO H a = true ∧ W (pj lw) 9 4 L (fld H a 4 :: S) k n H Q) := W_getf (rfl : (pj lw).1 9 1 = some (.getfield 66, 3, 4))
theorem w9_4 : W (pj lw) 9 4 L S k n H Q ↔ W (pj lw) 9 6 L (.int 32 :: S) k n H Q := W_s (rfl : (pj lw).1 9 4 = some (.bipush 32, 2, 0)) rfl rfl rfl
theorem w9_6 {x y : Int32} : W (pj lw) 9 6 L (.int y :: .int x :: S) k n H Q ↔ (if x < y then W (pj lw) 9 11 L S k n H Q else W (pj lw) 9 9 L S k n H Q) := W_icmp_lt (rfl : (pj lw).1 9 6 = some (.if_icmp .lt 5, 3, 0)) rfl
theorem w9_9 : W (pj lw) 9 9 L S k n H Q ↔ W (pj lw) 9 10 L (.int (-1) :: S) k n H Q := W_s (rfl : (pj lw).1 9 9 = some (.iconst (-1), 1, 0)) rfl rfl rfl
theorem w9_10 {x : Int32} : W (pj lw) 9 10 L (.int x :: S) k n H Q ↔ Q (some (.int x)) H := W_r (rfl : (pj lw).1 9 10 = some (.ireturn, 1, 0)) rfl
theorem w9_11 {x : Int32} {l0 : Slot} : W (pj lw) 9 11 (l0 :: .val (.int x) :: L) S k n H Q ↔ W (pj lw) 9 12 (l0 :: .val (.int x) :: L) (.int x :: S) k n H Q := W_s (rfl : (pj lw).1 9 11 = some (.iload_n 1, 1, 0)) rfl rfl rfl
theorem w9_12 : W (pj lw) 9 12 L S k n H Q ↔ W (pj lw) 9 13 L (.int 1 :: S) k n H Q := W_s (rfl : (pj lw).1 9 12 = some (.iconst 1, 1, 0)) rfl rfl rfl
theorem w9_13 {x y : Int32} : W (pj lw) 9 13 L (.int y :: .int x :: S) k n H Q ↔ (if x = y then W (pj lw) 9 24 L S k n H Q else W (pj lw) 9 16 L S k n H Q) := W_icmp_eq (rfl : (pj lw).1 9 13 = some (.if_icmp .eq 11, 3, 0)) rfl
theorem w9_16 {x : Int32} {l0 : Slot} : W (pj lw) 9 16 (l0 :: .val (.int x) :: L) S k n H Q ↔ W (pj lw) 9 17 (l0 :: .val (.int x) :: L) (.int x :: S) k n H Q := W_s (rfl : (pj lw).1 9 16 = some (.iload_n 1, 1, 0)) rfl rfl rfl
theorem w9_17 : W (pj lw) 9 17 L S k n H Q ↔ W (pj lw) 9 18 L (.int 2 :: S) k n H Q := W_s (rfl : (pj lw).1 9 17 = some (.iconst 2, 1, 0)) rfl rfl rfl
theorem w9_18 {x y : Int32} : W (pj lw) 9 18 L (.int y :: .int x :: S) k n H Q ↔ (if x = y then W (pj lw) 9 24 L S k n H Q else W (pj lw) 9 21 L S k n H Q) := W_icmp_eq (rfl : (pj lw).1 9 18 = some (.if_icmp .eq 6, 3, 0)) rfl
theorem w9_21 : W (pj lw) 9 21 L S k n H Q ↔ W (pj lw) 9 23 L (.int (-2) :: S) k n H Q := W_s (rfl : (pj lw).1 9 21 = some (.bipush (-2), 2, 0)) rfl rfl rfl
theorem w9_23 {x : Int32} : W (pj lw) 9 23 L (.int x :: S) k n H Q ↔ Q (some (.int x)) H := W_r (rfl : (pj lw).1 9 23 = some (.ireturn, 1, 0)) rfl
theorem w9_24 {x : Int32} {l0 l1 : Slot} : W (pj lw) 9 24 (l0 :: l1 :: .val (.int x) :: L) S k n H Q ↔ W (pj lw) 9 25 (l0 :: l1 :: .val (.int x) :: L) (.int x :: S) k n H Q := W_s (rfl : (pj lw).1 9 24 = some (.iload_n 2, 1, 0)) rfl rfl rfl
theorem w9_25 {x : Int32} : W (pj lw) 9 25 L (.int x :: S) k n H Q ↔ (if x = 0 then W (pj lw) 9 28 L S k n H Q else W (pj lw) 9 32 L S k n H Q) := W_if_ne (rfl : (pj lw).1 9 25 = some (.ifCond .ne 7, 3, 0)) rfl
theorem w9_28 : W (pj lw) 9 28 L S k n H Q ↔ W (pj lw) 9 29 L (.int 1 :: S) k n H Q := W_s (rfl : (pj lw).1 9 28 = some (.iconst 1, 1, 0)) rfl rfl rfl
theorem w9_29 : W (pj lw) 9 29 L S k n H Q ↔ W (pj lw) 9 33 L S k n H Q := W_goto (rfl : (pj lw).1 9 29 = some (.goto 4, 3, 0)) rfl
theorem w9_32 : W (pj lw) 9 32 L S k n H Q ↔ W (pj lw) 9 33 L (.int 0 :: S) k n H Q := W_s (rfl : (pj lw).1 9 32 = some (.iconst 0, 1, 0)) rfl rfl rfl
theorem w9_33 {x : Int32} {l0 l1 l2 : Slot} : W (pj lw) 9 33 (l0 :: l1 :: l2 :: .val (.int x) :: L) S k n H Q ↔ W (pj lw) 9 34 (l0 :: l1 :: l2 :: .val (.int x) :: L) (.int x :: S) k n H Q := W_s (rfl : (pj lw).1 9 33 = some (.iload_n 3, 1, 0)) rfl rfl rfl
theorem w9_34 {x : Int32} : W (pj lw) 9 34 L (.int x :: S) k n H Q ↔ (if x = 0 then W (pj lw) 9 37 L S k n H Q else W (pj lw) 9 41 L S k n H Q) := W_if_ne (rfl : (pj lw).1 9 34 = some (.ifCond .ne 7, 3, 0)) rfl
theorem w9_37 : W (pj lw) 9 37 L S k n H Q ↔ W (pj lw) 9 38 L (.int 1 :: S) k n H Q := W_s (rfl : (pj lw).1 9 37 = some (.iconst 1, 1, 0)) rfl rfl rfl
theorem w9_38 : W (pj lw) 9 38 L S k n H Q ↔ W (pj lw) 9 42 L S k n H Q := W_goto (rfl : (pj lw).1 9 38 = some (.goto 4, 3, 0)) rfl
theorem w9_41 : W (pj lw) 9 41 L S k n H Q ↔ W (pj lw) 9 42 L (.int 0 :: S) k n H Q := W_s (rfl : (pj lw).1 9 41 = some (.iconst 0, 1, 0)) rfl rfl rfl
theorem w9_42 {x y : Int32} : W (pj lw) 9 42 L (.int y :: .int x :: S) k n H Q ↔ (if x = y then W (pj lw) 9 48 L S k n H Q else W (pj lw) 9 45 L S k n H Q) := W_icmp_eq (rfl : (pj lw).1 9 42 = some (.if_icmp .eq 6, 3, 0)) rfl
theorem w9_45 : W (pj lw) 9 45 L S k n H Q ↔ W (pj lw) 9 47 L (.int (-2) :: S) k n H Q := W_s (rfl : (pj lw).1 9 45 = some (.bipush (-2), 2, 0)) rfl rfl rfl
theorem w9_47 {x : Int32} : W (pj lw) 9 47 L (.int x :: S) k n H Q ↔ Q (some (.int x)) H := W_r (rfl : (pj lw).1 9 47 = some (.ireturn, 1, 0)) rfl
theorem w9_48 {x : Int32} {l0 l1 : Slot} : W (pj lw) 9 48 (l0 :: l1 :: .val (.int x) :: L) S k n H Q ↔ W (pj lw) 9 49 (l0 :: l1 :: .val (.int x) :: L) (.int x :: S) k n H Q := W_s (rfl : (pj lw).1 9 48 = some (.iload_n 2, 1, 0)) rfl rfl rfl
theorem w9_49 {x : Int32} : W (pj lw) 9 49 L (.int x :: S) k n H Q ↔ (if x = 0 then W (pj lw) 9 100 L S k n H Q else W (pj lw) 9 52 L S k n H Q) := W_if_eq (rfl : (pj lw).1 9 49 = some (.ifCond .eq 51, 3, 0)) rfl
theorem w9_52 {x : Nat} : W (pj lw) 9 52 (.val (.ref x) :: L) S k n H Q ↔ W (pj lw) 9 53 (.val (.ref x) :: L) (.ref x :: S) k n H Q := W_s (rfl : (pj lw).1 9 52 = some (.aload_n 0, 1, 0)) rfl rfl rfl
theorem w9_53 {x : Int32} {l0 l1 : Slot} : W (pj lw) 9 53 (l0 :: l1 :: .val (.int x) :: L) S k n H Q ↔ W (pj lw) 9 54 (l0 :: l1 :: .val (.int x) :: L) (.int x :: S) k n H Q := W_s (rfl : (pj lw).1 9 53 = some (.iload_n 2, 1, 0)) rfl rfl rfl
theorem w9_54 {a : Nat} {x0 : Int32} : W (pj lw) 9 54 L (.int x0 :: .ref a :: S) k n H Q ↔ ((isO H a = true ∧ cs S + (2 + 11) + 0 ≤ 13) ∧ Cl (pj lw) 7 [.ref a, .int x0] H (fun v H => W (pj lw) 9 57 L (v.toList ++ S) k n H Q)) := W_inst (as := [.int x0]) (rfl : (pj lw).1 9 54 = some (.invokevirtual 99, 3, 7)) rfl rfl rfl (Nat.le_of_ble_eq_true rfl) (Nat.le_of_ble_eq_true rfl) ⟨rfl, rfl⟩
theorem w9_57 {x : Int32} : W (pj lw) 9 57 L (.int x :: S) k n H Q ↔ (if x = 0 then W (pj lw) 9 60 L S k n H Q else W (pj lw) 9 63 L S k n H Q) := W_if_ne (rfl : (pj lw).1 9 57 = some (.ifCond .ne 6, 3, 0)) rfl
theorem w9_60 : W (pj lw) 9 60 L S k n H Q ↔ W (pj lw) 9 62 L (.int (-3) :: S) k n H Q := W_s (rfl : (pj lw).1 9 60 = some (.bipush (-3), 2, 0)) rfl rfl rfl
theorem w9_62 {x : Int32} : W (pj lw) 9 62 L (.int x :: S) k n H Q ↔ Q (some (.int x)) H := W_r (rfl : (pj lw).1 9 62 = some (.ireturn, 1, 0)) rfl
theorem w9_63 {x : Nat} : W (pj lw) 9 63 (.val (.ref x) :: L) S k n H Q ↔ W (pj lw) 9 64 (.val (.ref x) :: L) (.ref x :: S) k n H Q := W_s (rfl : (pj lw).1 9 63 = some (.aload_n 0, 1, 0)) rfl rfl rfl
theorem w9_64 {x : Int32} {l0 l1 l2 : Slot} : W (pj lw) 9 64 (l0 :: l1 :: l2 :: .val (.int x) :: L) S k n H Q ↔ W (pj lw) 9 65 (l0 :: l1 :: l2 :: .val (.int x) :: L) (.int x :: S) k n H Q := W_s (rfl : (pj lw).1 9 64 = some (.iload_n 3, 1, 0)) rfl rfl rfl
theorem w9_65 {a : Nat} {x0 : Int32} : W (pj lw) 9 65 L (.int x0 :: .ref a :: S) k n H Q ↔ ((isO H a = true ∧ cs S + (2 + 11) + 0 ≤ 13) ∧ Cl (pj lw) 7 [.ref a, .int x0] H (fun v H => W (pj lw) 9 68 L (v.toList ++ S) k n H Q)) := W_inst (as := [.int x0]) (rfl : (pj lw).1 9 65 = some (.invokevirtual 99, 3, 7)) rfl rfl rfl (Nat.le_of_ble_eq_true rfl) (Nat.le_of_ble_eq_true rfl) ⟨rfl, rfl⟩
theorem w9_68 {x : Int32} : W (pj lw) 9 68 L (.int x :: S) k n H Q ↔ (if x = 0 then W (pj lw) 9 71 L S k n H Q else W (pj lw) 9 74 L S k n H Q) := W_if_ne (rfl : (pj lw).1 9 68 = some (.ifCond .ne 6, 3, 0)) rfl
theorem w9_71 : W (pj lw) 9 71 L S k n H Q ↔ W (pj lw) 9 73 L (.int (-3) :: S) k n H Q := W_s (rfl : (pj lw).1 9 71 = some (.bipush (-3), 2, 0)) rfl rfl rfl
theorem w9_73 {x : Int32} : W (pj lw) 9 73 L (.int x :: S) k n H Q ↔ Q (some (.int x)) H := W_r (rfl : (pj lw).1 9 73 = some (.ireturn, 1, 0)) rfl
theorem w9_74 {x : Nat} : W (pj lw) 9 74 (.val (.ref x) :: L) S k n H Q ↔ W (pj lw) 9 75 (.val (.ref x) :: L) (.ref x :: S) k n H Q := W_s (rfl : (pj lw).1 9 74 = some (.aload_n 0, 1, 0)) rfl rfl rfl
theorem w9_75 {a : Nat} : W (pj lw) 9 75 L (.ref a :: S) k n H Q ↔ (isO H a = true ∧ W (pj lw) 9 78 L (fld H a 5 :: S) k n H Q) := W_getf (rfl : (pj lw).1 9 75 = some (.getfield 7, 3, 5))
theorem w9_78 {x : Int32} {l0 l1 : Slot} : W (pj lw) 9 78 (l0 :: l1 :: .val (.int x) :: L) S k n H Q ↔ W (pj lw) 9 79 (l0 :: l1 :: .val (.int x) :: L) (.int x :: S) k n H Q := W_s (rfl : (pj lw).1 9 78 = some (.iload_n 2, 1, 0)) rfl rfl rfl
theorem w9_79 {i : Int32} {a : Nat} : W (pj lw) 9 79 L (.int i :: .ref a :: S) k n H Q ↔ (inA H a .int i = true ∧ W (pj lw) 9 80 L (elt H a i :: S) k n H Q) := W_iaload (rfl : (pj lw).1 9 79 = some (.iaload, 1, 0))
theorem w9_80 : W (pj lw) 9 80 L S k n H Q ↔ W (pj lw) 9 81 L (.int 1 :: S) k n H Q := W_s (rfl : (pj lw).1 9 80 = some (.iconst 1, 1, 0)) rfl rfl rfl
theorem w9_81 {x y : Int32} : W (pj lw) 9 81 L (.int y :: .int x :: S) k n H Q ↔ (if x = y then W (pj lw) 9 87 L S k n H Q else W (pj lw) 9 84 L S k n H Q) := W_icmp_eq (rfl : (pj lw).1 9 81 = some (.if_icmp .eq 6, 3, 0)) rfl
theorem w9_84 : W (pj lw) 9 84 L S k n H Q ↔ W (pj lw) 9 86 L (.int (-4) :: S) k n H Q := W_s (rfl : (pj lw).1 9 84 = some (.bipush (-4), 2, 0)) rfl rfl rfl
theorem w9_86 {x : Int32} : W (pj lw) 9 86 L (.int x :: S) k n H Q ↔ Q (some (.int x)) H := W_r (rfl : (pj lw).1 9 86 = some (.ireturn, 1, 0)) rfl
theorem w9_87 {x : Nat} : W (pj lw) 9 87 (.val (.ref x) :: L) S k n H Q ↔ W (pj lw) 9 88 (.val (.ref x) :: L) (.ref x :: S) k n H Q := W_s (rfl : (pj lw).1 9 87 = some (.aload_n 0, 1, 0)) rfl rfl rfl
theorem w9_88 {a : Nat} : W (pj lw) 9 88 L (.ref a :: S) k n H Q ↔ (isO H a = true ∧ W (pj lw) 9 91 L (fld H a 5 :: S) k n H Q) := W_getf (rfl : (pj lw).1 9 88 = some (.getfield 7, 3, 5))
theorem w9_91 {x : Int32} {l0 l1 l2 : Slot} : W (pj lw) 9 91 (l0 :: l1 :: l2 :: .val (.int x) :: L) S k n H Q ↔ W (pj lw) 9 92 (l0 :: l1 :: l2 :: .val (.int x) :: L) (.int x :: S) k n H Q := W_s (rfl : (pj lw).1 9 91 = some (.iload_n 3, 1, 0)) rfl rfl rfl
theorem w9_92 {i : Int32} {a : Nat} : W (pj lw) 9 92 L (.int i :: .ref a :: S) k n H Q ↔ (inA H a .int i = true ∧ W (pj lw) 9 93 L (elt H a i :: S) k n H Q) := W_iaload (rfl : (pj lw).1 9 92 = some (.iaload, 1, 0))
theorem w9_93 : W (pj lw) 9 93 L S k n H Q ↔ W (pj lw) 9 94 L (.int 2 :: S) k n H Q := W_s (rfl : (pj lw).1 9 93 = some (.iconst 2, 1, 0)) rfl rfl rfl
theorem w9_94 {x y : Int32} : W (pj lw) 9 94 L (.int y :: .int x :: S) k n H Q ↔ (if x = y then W (pj lw) 9 100 L S k n H Q else W (pj lw) 9 97 L S k n H Q) := W_icmp_eq (rfl : (pj lw).1 9 94 = some (.if_icmp .eq 6, 3, 0)) rfl
theorem w9_97 : W (pj lw) 9 97 L S k n H Q ↔ W (pj lw) 9 99 L (.int (-4) :: S) k n H Q := W_s (rfl : (pj lw).1 9 97 = some (.bipush (-4), 2, 0)) rfl rfl rfl
theorem w9_99 {x : Int32} : W (pj lw) 9 99 L (.int x :: S) k n H Q ↔ Q (some (.int x)) H := W_r (rfl : (pj lw).1 9 99 = some (.ireturn, 1, 0)) rfl
theorem w9_100 {x : Nat} : W (pj lw) 9 100 (.val (.ref x) :: L) S k n H Q ↔ W (pj lw) 9 101 (.val (.ref x) :: L) (.ref x :: S) k n H Q := W_s (rfl : (pj lw).1 9 100 = some (.aload_n 0, 1, 0)) rfl rfl rfl
theorem w9_101 {x : Nat} : W (pj lw) 9 101 L (.ref x :: S) k n H Q ↔ W (pj lw) 9 102 L (.ref x :: .ref x :: S) k n H Q := W_s (rfl : (pj lw).1 9 101 = some (.dup, 1, 0)) rfl rfl rfl
theorem w9_102 {a : Nat} : W (pj lw) 9 102 L (.ref a :: S) k n H Q ↔ (isO H a = true ∧ W (pj lw) 9 105 L (fld H a 4 :: S) k n H Q) := W_getf (rfl : (pj lw).1 9 102 = some (.getfield 66, 3, 4))
theorem w9_105 : W (pj lw) 9 105 L S k n H Q ↔ W (pj lw) 9 106 L (.int 1 :: S) k n H Q := W_s (rfl : (pj lw).1 9 105 = some (.iconst 1, 1, 0)) rfl rfl rfl
theorem w9_106 {x y : Int32} : W (pj lw) 9 106 L (.int y :: .int x :: S) k n H Q ↔ W (pj lw) 9 107 L (.int (x + y) :: S) k n H Q := W_s (rfl : (pj lw).1 9 106 = some (.iadd, 1, 0)) rfl rfl rfl
theorem w9_107 {a : Nat} {v : Value} : W (pj lw) 9 107 L (v :: .ref a :: S) k n H Q ↔ ((isOw H a = true ∧ okv (.int) v = true) ∧ W (pj lw) 9 110 L S k n (wr H a 4 v) Q) := W_putf (rfl : (pj lw).1 9 107 = some (.putfield 66, 3, 4))
theorem w9_110 {x : Nat} : W (pj lw) 9 110 (.val (.ref x) :: L) S k n H Q ↔ W (pj lw) 9 111 (.val (.ref x) :: L) (.ref x :: S) k n H Q := W_s (rfl : (pj lw).1 9 110 = some (.aload_n 0, 1, 0)) rfl rfl rfl
theorem w9_111 {a : Nat} : W (pj lw) 9 111 L (.ref a :: S) k n H Q ↔ (isO H a = true ∧ W (pj lw) 9 114 L (fld H a 5 :: S) k n H Q) := W_getf (rfl : (pj lw).1 9 111 = some (.getfield 7, 3, 5))
theorem w9_114 {x : Nat} : W (pj lw) 9 114 (.val (.ref x) :: L) S k n H Q ↔ W (pj lw) 9 115 (.val (.ref x) :: L) (.ref x :: S) k n H Q := W_s (rfl : (pj lw).1 9 114 = some (.aload_n 0, 1, 0)) rfl rfl rfl
theorem w9_115 {a : Nat} : W (pj lw) 9 115 L (.ref a :: S) k n H Q ↔ (isO H a = true ∧ W (pj lw) 9 118 L (fld H a 4 :: S) k n H Q) := W_getf (rfl : (pj lw).1 9 115 = some (.getfield 66, 3, 4))
theorem w9_118 {x : Int32} {l0 : Slot} : W (pj lw) 9 118 (l0 :: .val (.int x) :: L) S k n H Q ↔ W (pj lw) 9 119 (l0 :: .val (.int x) :: L) (.int x :: S) k n H Q := W_s (rfl : (pj lw).1 9 118 = some (.iload_n 1, 1, 0)) rfl rfl rfl
theorem w9_119 {x i : Int32} {a : Nat} : W (pj lw) 9 119 L (.int x :: .int i :: .ref a :: S) k n H Q ↔ (inAw H a .int i = true ∧ W (pj lw) 9 120 L S k n (wr H a i.toNatClampNeg (.int x)) Q) := W_iastore (rfl : (pj lw).1 9 119 = some (.iastore, 1, 0))
theorem w9_120 {x : Nat} : W (pj lw) 9 120 (.val (.ref x) :: L) S k n H Q ↔ W (pj lw) 9 121 (.val (.ref x) :: L) (.ref x :: S) k n H Q := W_s (rfl : (pj lw).1 9 120 = some (.aload_n 0, 1, 0)) rfl rfl rfl
theorem w9_121 {a : Nat} : W (pj lw) 9 121 L (.ref a :: S) k n H Q ↔ (isO H a = true ∧ W (pj lw) 9 124 L (fld H a 6 :: S) k n H Q) := W_getf (rfl : (pj lw).1 9 121 = some (.getfield 13, 3, 6))
theorem w9_124 {x : Nat} : W (pj lw) 9 124 (.val (.ref x) :: L) S k n H Q ↔ W (pj lw) 9 125 (.val (.ref x) :: L) (.ref x :: S) k n H Q := W_s (rfl : (pj lw).1 9 124 = some (.aload_n 0, 1, 0)) rfl rfl rfl
theorem w9_125 {a : Nat} : W (pj lw) 9 125 L (.ref a :: S) k n H Q ↔ (isO H a = true ∧ W (pj lw) 9 128 L (fld H a 4 :: S) k n H Q) := W_getf (rfl : (pj lw).1 9 125 = some (.getfield 66, 3, 4))
theorem w9_128 {x : Int32} {l0 l1 : Slot} : W (pj lw) 9 128 (l0 :: l1 :: .val (.int x) :: L) S k n H Q ↔ W (pj lw) 9 129 (l0 :: l1 :: .val (.int x) :: L) (.int x :: S) k n H Q := W_s (rfl : (pj lw).1 9 128 = some (.iload_n 2, 1, 0)) rfl rfl rfl
theorem w9_129 {x i : Int32} {a : Nat} : W (pj lw) 9 129 L (.int x :: .int i :: .ref a :: S) k n H Q ↔ (inAw H a .int i = true ∧ W (pj lw) 9 130 L S k n (wr H a i.toNatClampNeg (.int x)) Q) := W_iastore (rfl : (pj lw).1 9 129 = some (.iastore, 1, 0))
theorem w9_130 {x : Nat} : W (pj lw) 9 130 (.val (.ref x) :: L) S k n H Q ↔ W (pj lw) 9 131 (.val (.ref x) :: L) (.ref x :: S) k n H Q := W_s (rfl : (pj lw).1 9 130 = some (.aload_n 0, 1, 0)) rfl rfl rfl
theorem w9_131 {a : Nat} : W (pj lw) 9 131 L (.ref a :: S) k n H Q ↔ (isO H a = true ∧ W (pj lw) 9 134 L (fld H a 7 :: S) k n H Q) := W_getf (rfl : (pj lw).1 9 131 = some (.getfield 16, 3, 7))
theorem w9_134 {x : Nat} : W (pj lw) 9 134 (.val (.ref x) :: L) S k n H Q ↔ W (pj lw) 9 135 (.val (.ref x) :: L) (.ref x :: S) k n H Q := W_s (rfl : (pj lw).1 9 134 = some (.aload_n 0, 1, 0)) rfl rfl rfl
theorem w9_135 {a : Nat} : W (pj lw) 9 135 L (.ref a :: S) k n H Q ↔ (isO H a = true ∧ W (pj lw) 9 138 L (fld H a 4 :: S) k n H Q) := W_getf (rfl : (pj lw).1 9 135 = some (.getfield 66, 3, 4))
theorem w9_138 {x : Int32} {l0 l1 l2 : Slot} : W (pj lw) 9 138 (l0 :: l1 :: l2 :: .val (.int x) :: L) S k n H Q ↔ W (pj lw) 9 139 (l0 :: l1 :: l2 :: .val (.int x) :: L) (.int x :: S) k n H Q := W_s (rfl : (pj lw).1 9 138 = some (.iload_n 3, 1, 0)) rfl rfl rfl
theorem w9_139 {x i : Int32} {a : Nat} : W (pj lw) 9 139 L (.int x :: .int i :: .ref a :: S) k n H Q ↔ (inAw H a .int i = true ∧ W (pj lw) 9 140 L S k n (wr H a i.toNatClampNeg (.int x)) Q) := W_iastore (rfl : (pj lw).1 9 139 = some (.iastore, 1, 0))
theorem w9_140 {x : Nat} : W (pj lw) 9 140 (.val (.ref x) :: L) S k n H Q ↔ W (pj lw) 9 141 (.val (.ref x) :: L) (.ref x :: S) k n H Q := W_s (rfl : (pj lw).1 9 140 = some (.aload_n 0, 1, 0)) rfl rfl rfl
theorem w9_141 {a : Nat} : W (pj lw) 9 141 L (.ref a :: S) k n H Q ↔ (isO H a = true ∧ W (pj lw) 9 144 L (fld H a 8 :: S) k n H Q) := W_getf (rfl : (pj lw).1 9 141 = some (.getfield 19, 3, 8))
theorem w9_144 {x : Nat} : W (pj lw) 9 144 (.val (.ref x) :: L) S k n H Q ↔ W (pj lw) 9 145 (.val (.ref x) :: L) (.ref x :: S) k n H Q := W_s (rfl : (pj lw).1 9 144 = some (.aload_n 0, 1, 0)) rfl rfl rfl
theorem w9_145 {a : Nat} : W (pj lw) 9 145 L (.ref a :: S) k n H Q ↔ (isO H a = true ∧ W (pj lw) 9 148 L (fld H a 4 :: S) k n H Q) := W_getf (rfl : (pj lw).1 9 145 = some (.getfield 66, 3, 4))
theorem w9_148 : W (pj lw) 9 148 L S k n H Q ↔ W (pj lw) 9 149 L (.int (-1) :: S) k n H Q := W_s (rfl : (pj lw).1 9 148 = some (.iconst (-1), 1, 0)) rfl rfl rfl
theorem w9_149 {x i : Int32} {a : Nat} : W (pj lw) 9 149 L (.int x :: .int i :: .ref a :: S) k n H Q ↔ (inAw H a .int i = true ∧ W (pj lw) 9 150 L S k n (wr H a i.toNatClampNeg (.int x)) Q) := W_iastore (rfl : (pj lw).1 9 149 = some (.iastore, 1, 0))
theorem w9_150 {x : Nat} : W (pj lw) 9 150 (.val (.ref x) :: L) S k n H Q ↔ W (pj lw) 9 151 (.val (.ref x) :: L) (.ref x :: S) k n H Q := W_s (rfl : (pj lw).1 9 150 = some (.aload_n 0, 1, 0)) rfl rfl rfl
theorem w9_151 {a : Nat} : W (pj lw) 9 151 L (.ref a :: S) k n H Q ↔ (isO H a = true ∧ W (pj lw) 9 154 L (fld H a 9 :: S) k n H Q) := W_getf (rfl : (pj lw).1 9 151 = some (.getfield 22, 3, 9))
theorem w9_154 {x : Nat} : W (pj lw) 9 154 (.val (.ref x) :: L) S k n H Q ↔ W (pj lw) 9 155 (.val (.ref x) :: L) (.ref x :: S) k n H Q := W_s (rfl : (pj lw).1 9 154 = some (.aload_n 0, 1, 0)) rfl rfl rfl
theorem w9_155 {a : Nat} : W (pj lw) 9 155 L (.ref a :: S) k n H Q ↔ (isO H a = true ∧ W (pj lw) 9 158 L (fld H a 4 :: S) k n H Q) := W_getf (rfl : (pj lw).1 9 155 = some (.getfield 66, 3, 4))
theorem w9_158 : W (pj lw) 9 158 L S k n H Q ↔ W (pj lw) 9 159 L (.int 0 :: S) k n H Q := W_s (rfl : (pj lw).1 9 158 = some (.iconst 0, 1, 0)) rfl rfl rfl
theorem w9_159 {x i : Int32} {a : Nat} : W (pj lw) 9 159 L (.int x :: .int i :: .ref a :: S) k n H Q ↔ (inAw H a .int i = true ∧ W (pj lw) 9 160 L S k n (wr H a i.toNatClampNeg (.int x)) Q) := W_iastore (rfl : (pj lw).1 9 159 = some (.iastore, 1, 0))
theorem w9_160 {x : Nat} : W (pj lw) 9 160 (.val (.ref x) :: L) S k n H Q ↔ W (pj lw) 9 161 (.val (.ref x) :: L) (.ref x :: S) k n H Q := W_s (rfl : (pj lw).1 9 160 = some (.aload_n 0, 1, 0)) rfl rfl rfl
theorem w9_161 {a : Nat} : W (pj lw) 9 161 L (.ref a :: S) k n H Q ↔ (isO H a = true ∧ W (pj lw) 9 164 L (fld H a 10 :: S) k n H Q) := W_getf (rfl : (pj lw).1 9 161 = some (.getfield 25, 3, 10))
theorem w9_164 {x : Nat} : W (pj lw) 9 164 (.val (.ref x) :: L) S k n H Q ↔ W (pj lw) 9 165 (.val (.ref x) :: L) (.ref x :: S) k n H Q := W_s (rfl : (pj lw).1 9 164 = some (.aload_n 0, 1, 0)) rfl rfl rfl
theorem w9_165 {a : Nat} : W (pj lw) 9 165 L (.ref a :: S) k n H Q ↔ (isO H a = true ∧ W (pj lw) 9 168 L (fld H a 4 :: S) k n H Q) := W_getf (rfl : (pj lw).1 9 165 = some (.getfield 66, 3, 4))
theorem w9_168 : W (pj lw) 9 168 L S k n H Q ↔ W (pj lw) 9 169 L (.int 0 :: S) k n H Q := W_s (rfl : (pj lw).1 9 168 = some (.iconst 0, 1, 0)) rfl rfl rfl
theorem w9_169 {x i : Int32} {a : Nat} : W (pj lw) 9 169 L (.int x :: .int i :: .ref a :: S) k n H Q ↔ (inAw H a .int i = true ∧ W (pj lw) 9 170 L S k n (wr H a i.toNatClampNeg (.int x)) Q) := W_iastore (rfl : (pj lw).1 9 169 = some (.iastore, 1, 0))
theorem w9_170 {x : Nat} : W (pj lw) 9 170 (.val (.ref x) :: L) S k n H Q ↔ W (pj lw) 9 171 (.val (.ref x) :: L) (.ref x :: S) k n H Q := W_s (rfl : (pj lw).1 9 170 = some (.aload_n 0, 1, 0)) rfl rfl rfl
theorem w9_171 : W (pj lw) 9 171 L S k n H Q ↔ W (pj lw) 9 172 L (.int 0 :: S) k n H Q := W_s (rfl : (pj lw).1 9 171 = some (.iconst 0, 1, 0)) rfl rfl rfl
theorem w9_172 {a : Nat} {v : Value} : W (pj lw) 9 172 L (v :: .ref a :: S) k n H Q ↔ ((isOw H a = true ∧ okv (.boolean) v = true) ∧ W (pj lw) 9 175 L S k n (wr H a 13 v) Q) := W_putf (rfl : (pj lw).1 9 172 = some (.putfield 73, 3, 13))
theorem w9_175 {x : Nat} : W (pj lw) 9 175 (.val (.ref x) :: L) S k n H Q ↔ W (pj lw) 9 176 (.val (.ref x) :: L) (.ref x :: S) k n H Q := W_s (rfl : (pj lw).1 9 175 = some (.aload_n 0, 1, 0)) rfl rfl rfl
theorem w9_176 : W (pj lw) 9 176 L S k n H Q ↔ W (pj lw) 9 177 L (.int 0 :: S) k n H Q := W_s (rfl : (pj lw).1 9 176 = some (.iconst 0, 1, 0)) rfl rfl rfl
theorem w9_177 {a : Nat} {v : Value} : W (pj lw) 9 177 L (v :: .ref a :: S) k n H Q ↔ ((isOw H a = true ∧ okv (.boolean) v = true) ∧ W (pj lw) 9 180 L S k n (wr H a 12 v) Q) := W_putf (rfl : (pj lw).1 9 177 = some (.putfield 69, 3, 12))
theorem w9_180 {x : Nat} : W (pj lw) 9 180 (.val (.ref x) :: L) S k n H Q ↔ W (pj lw) 9 181 (.val (.ref x) :: L) (.ref x :: S) k n H Q := W_s (rfl : (pj lw).1 9 180 = some (.aload_n 0, 1, 0)) rfl rfl rfl
theorem w9_181 {a : Nat} : W (pj lw) 9 181 L (.ref a :: S) k n H Q ↔ (isO H a = true ∧ W (pj lw) 9 184 L (fld H a 4 :: S) k n H Q) := W_getf (rfl : (pj lw).1 9 181 = some (.getfield 66, 3, 4))
theorem w9_184 {x : Int32} : W (pj lw) 9 184 L (.int x :: S) k n H Q ↔ Q (some (.int x)) H := W_r (rfl : (pj lw).1 9 184 = some (.ireturn, 1, 0)) rfl
theorem c10 {x0 : Nat} {x1 : Int32} {x2 : Int32} {x3 : Int32} : Cl (pj lw) 10 [.ref x0, .int x1, .int x2, .int x3] H Q ↔ W (pj lw) 10 0 [.val (.ref x0), .val (.int x1), .val (.int x2), .val (.int x3)] [] 0 0 H Q := cl_unf rfl
theorem w10_0 {x : Nat} : W (pj lw) 10 0 (.val (.ref x) :: L) S k n H Q ↔ W (pj lw) 10 1 (.val (.ref x) :: L) (.ref x :: S) k n H Q := W_s (rfl : (pj lw).1 10 0 = some (.aload_n 0, 1, 0)) rfl rfl rfl
theorem w10_1 {x : Int32} {l0 : Slot} : W (pj lw) 10 1 (l0 :: .val (.int x) :: L) S k n H Q ↔ W (pj lw) 10 2 (l0 :: .val (.int x) :: L) (.int x :: S) k n H Q := W_s (rfl : (pj lw).1 10 1 = some (.iload_n 1, 1, 0)) rfl rfl rfl
theorem w10_2 {a : Nat} {x0 : Int32} : W (pj lw) 10 2 L (.int x0 :: .ref a :: S) k n H Q ↔ ((isO H a = true ∧ cs S + (2 + 11) + 0 ≤ 13) ∧ Cl (pj lw) 7 [.ref a, .int x0] H (fun v H => W (pj lw) 10 5 L (v.toList ++ S) k n H Q)) := W_inst (as := [.int x0]) (rfl : (pj lw).1 10 2 = some (.invokevirtual 99, 3, 7)) rfl rfl rfl (Nat.le_of_ble_eq_true rfl) (Nat.le_of_ble_eq_true rfl) ⟨rfl, rfl⟩
theorem w10_5 {x : Int32} : W (pj lw) 10 5 L (.int x :: S) k n H Q ↔ (if x = 0 then W (pj lw) 10 8 L S k n H Q else W (pj lw) 10 11 L S k n H Q) := W_if_ne (rfl : (pj lw).1 10 5 = some (.ifCond .ne 6, 3, 0)) rfl
theorem w10_8 : W (pj lw) 10 8 L S k n H Q ↔ W (pj lw) 10 10 L (.int (-5) :: S) k n H Q := W_s (rfl : (pj lw).1 10 8 = some (.bipush (-5), 2, 0)) rfl rfl rfl
theorem w10_10 {x : Int32} : W (pj lw) 10 10 L (.int x :: S) k n H Q ↔ Q (some (.int x)) H := W_r (rfl : (pj lw).1 10 10 = some (.ireturn, 1, 0)) rfl
theorem w10_11 {x : Nat} : W (pj lw) 10 11 (.val (.ref x) :: L) S k n H Q ↔ W (pj lw) 10 12 (.val (.ref x) :: L) (.ref x :: S) k n H Q := W_s (rfl : (pj lw).1 10 11 = some (.aload_n 0, 1, 0)) rfl rfl rfl
theorem w10_12 {x : Int32} {l0 l1 : Slot} : W (pj lw) 10 12 (l0 :: l1 :: .val (.int x) :: L) S k n H Q ↔ W (pj lw) 10 13 (l0 :: l1 :: .val (.int x) :: L) (.int x :: S) k n H Q := W_s (rfl : (pj lw).1 10 12 = some (.iload_n 2, 1, 0)) rfl rfl rfl
theorem w10_13 {a : Nat} {x0 : Int32} : W (pj lw) 10 13 L (.int x0 :: .ref a :: S) k n H Q ↔ ((isO H a = true ∧ cs S + (2 + 11) + 0 ≤ 13) ∧ Cl (pj lw) 8 [.ref a, .int x0] H (fun v H => W (pj lw) 10 16 L (v.toList ++ S) k n H Q)) := W_inst (as := [.int x0]) (rfl : (pj lw).1 10 13 = some (.invokevirtual 103, 3, 8)) rfl rfl rfl (Nat.le_of_ble_eq_true rfl) (Nat.le_of_ble_eq_true rfl) ⟨rfl, rfl⟩
theorem w10_16 {x : Int32} : W (pj lw) 10 16 L (.int x :: S) k n H Q ↔ (if x = 0 then W (pj lw) 10 27 L S k n H Q else W (pj lw) 10 19 L S k n H Q) := W_if_eq (rfl : (pj lw).1 10 16 = some (.ifCond .eq 11, 3, 0)) rfl
theorem w10_19 {x : Nat} : W (pj lw) 10 19 (.val (.ref x) :: L) S k n H Q ↔ W (pj lw) 10 20 (.val (.ref x) :: L) (.ref x :: S) k n H Q := W_s (rfl : (pj lw).1 10 19 = some (.aload_n 0, 1, 0)) rfl rfl rfl
theorem w10_20 {x : Int32} {l0 l1 l2 : Slot} : W (pj lw) 10 20 (l0 :: l1 :: l2 :: .val (.int x) :: L) S k n H Q ↔ W (pj lw) 10 21 (l0 :: l1 :: l2 :: .val (.int x) :: L) (.int x :: S) k n H Q := W_s (rfl : (pj lw).1 10 20 = some (.iload_n 3, 1, 0)) rfl rfl rfl
theorem w10_21 {a : Nat} {x0 : Int32} : W (pj lw) 10 21 L (.int x0 :: .ref a :: S) k n H Q ↔ ((isO H a = true ∧ cs S + (2 + 11) + 0 ≤ 13) ∧ Cl (pj lw) 8 [.ref a, .int x0] H (fun v H => W (pj lw) 10 24 L (v.toList ++ S) k n H Q)) := W_inst (as := [.int x0]) (rfl : (pj lw).1 10 21 = some (.invokevirtual 103, 3, 8)) rfl rfl rfl (Nat.le_of_ble_eq_true rfl) (Nat.le_of_ble_eq_true rfl) ⟨rfl, rfl⟩
theorem w10_24 {x : Int32} : W (pj lw) 10 24 L (.int x :: S) k n H Q ↔ (if x = 0 then W (pj lw) 10 27 L S k n H Q else W (pj lw) 10 30 L S k n H Q) := W_if_ne (rfl : (pj lw).1 10 24 = some (.ifCond .ne 6, 3, 0)) rfl
theorem w10_27 : W (pj lw) 10 27 L S k n H Q ↔ W (pj lw) 10 29 L (.int (-6) :: S) k n H Q := W_s (rfl : (pj lw).1 10 27 = some (.bipush (-6), 2, 0)) rfl rfl rfl
theorem w10_29 {x : Int32} : W (pj lw) 10 29 L (.int x :: S) k n H Q ↔ Q (some (.int x)) H := W_r (rfl : (pj lw).1 10 29 = some (.ireturn, 1, 0)) rfl
theorem w10_30 {x : Nat} : W (pj lw) 10 30 (.val (.ref x) :: L) S k n H Q ↔ W (pj lw) 10 31 (.val (.ref x) :: L) (.ref x :: S) k n H Q := W_s (rfl : (pj lw).1 10 30 = some (.aload_n 0, 1, 0)) rfl rfl rfl
theorem w10_31 {a : Nat} : W (pj lw) 10 31 L (.ref a :: S) k n H Q ↔ (isO H a = true ∧ W (pj lw) 10 34 L (fld H a 8 :: S) k n H Q) := W_getf (rfl : (pj lw).1 10 31 = some (.getfield 19, 3, 8))
theorem w10_34 {x : Int32} {l0 : Slot} : W (pj lw) 10 34 (l0 :: .val (.int x) :: L) S k n H Q ↔ W (pj lw) 10 35 (l0 :: .val (.int x) :: L) (.int x :: S) k n H Q := W_s (rfl : (pj lw).1 10 34 = some (.iload_n 1, 1, 0)) rfl rfl rfl
theorem w10_35 {x : Nat} : W (pj lw) 10 35 (.val (.ref x) :: L) S k n H Q ↔ W (pj lw) 10 36 (.val (.ref x) :: L) (.ref x :: S) k n H Q := W_s (rfl : (pj lw).1 10 35 = some (.aload_n 0, 1, 0)) rfl rfl rfl
theorem w10_36 {a : Nat} : W (pj lw) 10 36 L (.ref a :: S) k n H Q ↔ (isO H a = true ∧ W (pj lw) 10 39 L (fld H a 18 :: S) k n H Q) := W_getf (rfl : (pj lw).1 10 36 = some (.getfield 37, 3, 18))
theorem w10_39 {x : Int32} {l0 l1 : Slot} : W (pj lw) 10 39 (l0 :: l1 :: .val (.int x) :: L) S k n H Q ↔ W (pj lw) 10 40 (l0 :: l1 :: .val (.int x) :: L) (.int x :: S) k n H Q := W_s (rfl : (pj lw).1 10 39 = some (.iload_n 2, 1, 0)) rfl rfl rfl
theorem w10_40 : W (pj lw) 10 40 L S k n H Q ↔ W (pj lw) 10 41 L (.int 5 :: S) k n H Q := W_s (rfl : (pj lw).1 10 40 = some (.iconst 5, 1, 0)) rfl rfl rfl
theorem w10_41 {x y : Int32} : W (pj lw) 10 41 L (.int y :: .int x :: S) k n H Q ↔ W (pj lw) 10 42 L (.int (x * y) :: S) k n H Q := W_s (rfl : (pj lw).1 10 41 = some (.imul, 1, 0)) rfl rfl rfl
theorem w10_42 {x : Int32} {l0 l1 l2 : Slot} : W (pj lw) 10 42 (l0 :: l1 :: l2 :: .val (.int x) :: L) S k n H Q ↔ W (pj lw) 10 43 (l0 :: l1 :: l2 :: .val (.int x) :: L) (.int x :: S) k n H Q := W_s (rfl : (pj lw).1 10 42 = some (.iload_n 3, 1, 0)) rfl rfl rfl
theorem w10_43 {x y : Int32} : W (pj lw) 10 43 L (.int y :: .int x :: S) k n H Q ↔ W (pj lw) 10 44 L (.int (x + y) :: S) k n H Q := W_s (rfl : (pj lw).1 10 43 = some (.iadd, 1, 0)) rfl rfl rfl
theorem w10_44 {i : Int32} {a : Nat} : W (pj lw) 10 44 L (.int i :: .ref a :: S) k n H Q ↔ (inA H a .int i = true ∧ W (pj lw) 10 45 L (elt H a i :: S) k n H Q) := W_iaload (rfl : (pj lw).1 10 44 = some (.iaload, 1, 0))
theorem w10_45 {x i : Int32} {a : Nat} : W (pj lw) 10 45 L (.int x :: .int i :: .ref a :: S) k n H Q ↔ (inAw H a .int i = true ∧ W (pj lw) 10 46 L S k n (wr H a i.toNatClampNeg (.int x)) Q) := W_iastore (rfl : (pj lw).1 10 45 = some (.iastore, 1, 0))
theorem w10_46 {x : Nat} : W (pj lw) 10 46 (.val (.ref x) :: L) S k n H Q ↔ W (pj lw) 10 47 (.val (.ref x) :: L) (.ref x :: S) k n H Q := W_s (rfl : (pj lw).1 10 46 = some (.aload_n 0, 1, 0)) rfl rfl rfl
theorem w10_47 : W (pj lw) 10 47 L S k n H Q ↔ W (pj lw) 10 48 L (.int 0 :: S) k n H Q := W_s (rfl : (pj lw).1 10 47 = some (.iconst 0, 1, 0)) rfl rfl rfl
theorem w10_48 {a : Nat} {v : Value} : W (pj lw) 10 48 L (v :: .ref a :: S) k n H Q ↔ ((isOw H a = true ∧ okv (.boolean) v = true) ∧ W (pj lw) 10 51 L S k n (wr H a 13 v) Q) := W_putf (rfl : (pj lw).1 10 48 = some (.putfield 73, 3, 13))
theorem w10_51 : W (pj lw) 10 51 L S k n H Q ↔ W (pj lw) 10 52 L (.int 0 :: S) k n H Q := W_s (rfl : (pj lw).1 10 51 = some (.iconst 0, 1, 0)) rfl rfl rfl
theorem w10_52 {x : Int32} : W (pj lw) 10 52 L (.int x :: S) k n H Q ↔ Q (some (.int x)) H := W_r (rfl : (pj lw).1 10 52 = some (.ireturn, 1, 0)) rfl
theorem c11 {x0 : Nat} {x1 : Int32} : Cl (pj lw) 11 [.ref x0, .int x1] H Q ↔ W (pj lw) 11 0 [.val (.ref x0), .val (.int x1)] [] 0 0 H Q := cl_unf rfl
theorem w11_0 {x : Nat} : W (pj lw) 11 0 (.val (.ref x) :: L) S k n H Q ↔ W (pj lw) 11 1 (.val (.ref x) :: L) (.ref x :: S) k n H Q := W_s (rfl : (pj lw).1 11 0 = some (.aload_n 0, 1, 0)) rfl rfl rfl
theorem w11_1 {x : Int32} {l0 : Slot} : W (pj lw) 11 1 (l0 :: .val (.int x) :: L) S k n H Q ↔ W (pj lw) 11 2 (l0 :: .val (.int x) :: L) (.int x :: S) k n H Q := W_s (rfl : (pj lw).1 11 1 = some (.iload_n 1, 1, 0)) rfl rfl rfl
theorem w11_2 {a : Nat} {x0 : Int32} : W (pj lw) 11 2 L (.int x0 :: .ref a :: S) k n H Q ↔ ((isO H a = true ∧ cs S + (2 + 11) + 0 ≤ 13) ∧ Cl (pj lw) 7 [.ref a, .int x0] H (fun v H => W (pj lw) 11 5 L (v.toList ++ S) k n H Q)) := W_inst (as := [.int x0]) (rfl : (pj lw).1 11 2 = some (.invokevirtual 99, 3, 7)) rfl rfl rfl (Nat.le_of_ble_eq_true rfl) (Nat.le_of_ble_eq_true rfl) ⟨rfl, rfl⟩
theorem w11_5 {x : Int32} : W (pj lw) 11 5 L (.int x :: S) k n H Q ↔ (if x = 0 then W (pj lw) 11 8 L S k n H Q else W (pj lw) 11 11 L S k n H Q) := W_if_ne (rfl : (pj lw).1 11 5 = some (.ifCond .ne 6, 3, 0)) rfl
theorem w11_8 : W (pj lw) 11 8 L S k n H Q ↔ W (pj lw) 11 10 L (.int (-5) :: S) k n H Q := W_s (rfl : (pj lw).1 11 8 = some (.bipush (-5), 2, 0)) rfl rfl rfl
theorem w11_10 {x : Int32} : W (pj lw) 11 10 L (.int x :: S) k n H Q ↔ Q (some (.int x)) H := W_r (rfl : (pj lw).1 11 10 = some (.ireturn, 1, 0)) rfl
theorem w11_11 {x : Nat} : W (pj lw) 11 11 (.val (.ref x) :: L) S k n H Q ↔ W (pj lw) 11 12 (.val (.ref x) :: L) (.ref x :: S) k n H Q := W_s (rfl : (pj lw).1 11 11 = some (.aload_n 0, 1, 0)) rfl rfl rfl
theorem w11_12 {a : Nat} : W (pj lw) 11 12 L (.ref a :: S) k n H Q ↔ (isO H a = true ∧ W (pj lw) 11 15 L (fld H a 8 :: S) k n H Q) := W_getf (rfl : (pj lw).1 11 12 = some (.getfield 19, 3, 8))
theorem w11_15 {x : Int32} {l0 : Slot} : W (pj lw) 11 15 (l0 :: .val (.int x) :: L) S k n H Q ↔ W (pj lw) 11 16 (l0 :: .val (.int x) :: L) (.int x :: S) k n H Q := W_s (rfl : (pj lw).1 11 15 = some (.iload_n 1, 1, 0)) rfl rfl rfl
theorem w11_16 : W (pj lw) 11 16 L S k n H Q ↔ W (pj lw) 11 17 L (.int (-1) :: S) k n H Q := W_s (rfl : (pj lw).1 11 16 = some (.iconst (-1), 1, 0)) rfl rfl rfl
theorem w11_17 {x i : Int32} {a : Nat} : W (pj lw) 11 17 L (.int x :: .int i :: .ref a :: S) k n H Q ↔ (inAw H a .int i = true ∧ W (pj lw) 11 18 L S k n (wr H a i.toNatClampNeg (.int x)) Q) := W_iastore (rfl : (pj lw).1 11 17 = some (.iastore, 1, 0))
theorem w11_18 {x : Nat} : W (pj lw) 11 18 (.val (.ref x) :: L) S k n H Q ↔ W (pj lw) 11 19 (.val (.ref x) :: L) (.ref x :: S) k n H Q := W_s (rfl : (pj lw).1 11 18 = some (.aload_n 0, 1, 0)) rfl rfl rfl
theorem w11_19 : W (pj lw) 11 19 L S k n H Q ↔ W (pj lw) 11 20 L (.int 0 :: S) k n H Q := W_s (rfl : (pj lw).1 11 19 = some (.iconst 0, 1, 0)) rfl rfl rfl
theorem w11_20 {a : Nat} {v : Value} : W (pj lw) 11 20 L (v :: .ref a :: S) k n H Q ↔ ((isOw H a = true ∧ okv (.boolean) v = true) ∧ W (pj lw) 11 23 L S k n (wr H a 13 v) Q) := W_putf (rfl : (pj lw).1 11 20 = some (.putfield 73, 3, 13))
theorem w11_23 : W (pj lw) 11 23 L S k n H Q ↔ W (pj lw) 11 24 L (.int 0 :: S) k n H Q := W_s (rfl : (pj lw).1 11 23 = some (.iconst 0, 1, 0)) rfl rfl rfl
theorem w11_24 {x : Int32} : W (pj lw) 11 24 L (.int x :: S) k n H Q ↔ Q (some (.int x)) H := W_r (rfl : (pj lw).1 11 24 = some (.ireturn, 1, 0)) rfl
theorem c12 {x0 : Nat} {x1 : Int32} : Cl (pj lw) 12 [.ref x0, .int x1] H Q ↔ W (pj lw) 12 0 [.val (.ref x0), .val (.int x1)] [] 0 0 H Q := cl_unf rfl
theorem w12_0 {x : Nat} : W (pj lw) 12 0 (.val (.ref x) :: L) S k n H Q ↔ W (pj lw) 12 1 (.val (.ref x) :: L) (.ref x :: S) k n H Q := W_s (rfl : (pj lw).1 12 0 = some (.aload_n 0, 1, 0)) rfl rfl rfl
theorem w12_1 {x : Nat} : W (pj lw) 12 1 (.val (.ref x) :: L) S k n H Q ↔ W (pj lw) 12 2 (.val (.ref x) :: L) (.ref x :: S) k n H Q := W_s (rfl : (pj lw).1 12 1 = some (.aload_n 0, 1, 0)) rfl rfl rfl
theorem w12_2 {x : Int32} {l0 : Slot} : W (pj lw) 12 2 (l0 :: .val (.int x) :: L) S k n H Q ↔ W (pj lw) 12 3 (l0 :: .val (.int x) :: L) (.int x :: S) k n H Q := W_s (rfl : (pj lw).1 12 2 = some (.iload_n 1, 1, 0)) rfl rfl rfl
theorem w12_3 {a : Nat} {x0 : Int32} : W (pj lw) 12 3 L (.int x0 :: .ref a :: S) k n H Q ↔ ((isO H a = true ∧ cs S + (2 + 11) + 0 ≤ 14) ∧ Cl (pj lw) 2 [.ref a, .int x0] H (fun v H => W (pj lw) 12 6 L (v.toList ++ S) k n H Q)) := W_inst (as := [.int x0]) (rfl : (pj lw).1 12 3 = some (.invokevirtual 53, 3, 2)) rfl rfl rfl (Nat.le_of_ble_eq_true rfl) (Nat.le_of_ble_eq_true rfl) ⟨rfl, rfl⟩
theorem w12_6 {a : Nat} {v : Value} : W (pj lw) 12 6 L (v :: .ref a :: S) k n H Q ↔ ((isOw H a = true ∧ okv (.int) v = true) ∧ W (pj lw) 12 9 L S k n (wr H a 3 v) Q) := W_putf (rfl : (pj lw).1 12 6 = some (.putfield 57, 3, 3))
theorem w12_9 : W (pj lw) 12 9 L [] k n H Q ↔ Q none H := W_r (rfl : (pj lw).1 12 9 = some (.return_, 1, 0)) rfl
theorem c13 {x0 : Nat} : Cl (pj lw) 13 [.ref x0] H Q ↔ W (pj lw) 13 0 [.val (.ref x0)] [] 0 0 H Q := cl_unf rfl
theorem w13_0 {x : Nat} : W (pj lw) 13 0 (.val (.ref x) :: L) S k n H Q ↔ W (pj lw) 13 1 (.val (.ref x) :: L) (.ref x :: S) k n H Q := W_s (rfl : (pj lw).1 13 0 = some (.aload_n 0, 1, 0)) rfl rfl rfl
theorem w13_1 {x : Nat} : W (pj lw) 13 1 (.val (.ref x) :: L) S k n H Q ↔ W (pj lw) 13 2 (.val (.ref x) :: L) (.ref x :: S) k n H Q := W_s (rfl : (pj lw).1 13 1 = some (.aload_n 0, 1, 0)) rfl rfl rfl
theorem w13_2 {a : Nat} : W (pj lw) 13 2 L (.ref a :: S) k n H Q ↔ (isO H a = true ∧ W (pj lw) 13 5 L (fld H a 3 :: S) k n H Q) := W_getf (rfl : (pj lw).1 13 2 = some (.getfield 57, 3, 3))
theorem w13_5 : W (pj lw) 13 5 L S k n H Q ↔ W (pj lw) 13 7 L (.int 1103515245 :: S) k n H Q := W_s (rfl : (pj lw).1 13 5 = some (.ldc 106, 2, 1103515245)) rfl rfl rfl
theorem w13_7 {x y : Int32} : W (pj lw) 13 7 L (.int y :: .int x :: S) k n H Q ↔ W (pj lw) 13 8 L (.int (x * y) :: S) k n H Q := W_s (rfl : (pj lw).1 13 7 = some (.imul, 1, 0)) rfl rfl rfl
theorem w13_8 : W (pj lw) 13 8 L S k n H Q ↔ W (pj lw) 13 11 L (.int 12345 :: S) k n H Q := W_s (rfl : (pj lw).1 13 8 = some (.sipush 12345, 3, 0)) rfl rfl rfl
theorem w13_11 {x y : Int32} : W (pj lw) 13 11 L (.int y :: .int x :: S) k n H Q ↔ W (pj lw) 13 12 L (.int (x + y) :: S) k n H Q := W_s (rfl : (pj lw).1 13 11 = some (.iadd, 1, 0)) rfl rfl rfl
theorem w13_12 {a : Nat} {v : Value} : W (pj lw) 13 12 L (v :: .ref a :: S) k n H Q ↔ ((isOw H a = true ∧ okv (.int) v = true) ∧ W (pj lw) 13 15 L S k n (wr H a 3 v) Q) := W_putf (rfl : (pj lw).1 13 12 = some (.putfield 57, 3, 3))
theorem w13_15 {x : Nat} : W (pj lw) 13 15 (.val (.ref x) :: L) S k n H Q ↔ W (pj lw) 13 16 (.val (.ref x) :: L) (.ref x :: S) k n H Q := W_s (rfl : (pj lw).1 13 15 = some (.aload_n 0, 1, 0)) rfl rfl rfl
theorem w13_16 {a : Nat} : W (pj lw) 13 16 L (.ref a :: S) k n H Q ↔ (isO H a = true ∧ W (pj lw) 13 19 L (fld H a 3 :: S) k n H Q) := W_getf (rfl : (pj lw).1 13 16 = some (.getfield 57, 3, 3))
theorem w13_19 : W (pj lw) 13 19 L S k n H Q ↔ W (pj lw) 13 21 L (.int 16 :: S) k n H Q := W_s (rfl : (pj lw).1 13 19 = some (.bipush 16, 2, 0)) rfl rfl rfl
theorem w13_21 {x y : Int32} : W (pj lw) 13 21 L (.int y :: .int x :: S) k n H Q ↔ W (pj lw) 13 22 L (.int (Jvm.Free.XT.ushr x y) :: S) k n H Q := W_s (rfl : (pj lw).1 13 21 = some (.iushr, 1, 0)) rfl rfl rfl
theorem w13_22 : W (pj lw) 13 22 L S k n H Q ↔ W (pj lw) 13 25 L (.int 32767 :: S) k n H Q := W_s (rfl : (pj lw).1 13 22 = some (.sipush 32767, 3, 0)) rfl rfl rfl
theorem w13_25 {x y : Int32} : W (pj lw) 13 25 L (.int y :: .int x :: S) k n H Q ↔ W (pj lw) 13 26 L (.int (x &&& y) :: S) k n H Q := W_s (rfl : (pj lw).1 13 25 = some (.iand, 1, 0)) rfl rfl rfl
theorem w13_26 {x : Int32} : W (pj lw) 13 26 L (.int x :: S) k n H Q ↔ Q (some (.int x)) H := W_r (rfl : (pj lw).1 13 26 = some (.ireturn, 1, 0)) rfl
theorem c14 {x0 : Nat} {x1 : Int32} : Cl (pj lw) 14 [.ref x0, .int x1] H Q ↔ W (pj lw) 14 0 [.val (.ref x0), .val (.int x1), .unset] [] 0 0 H Q := cl_unf rfl
theorem w14_0 {x : Nat} : W (pj lw) 14 0 (.val (.ref x) :: L) S k n H Q ↔ W (pj lw) 14 1 (.val (.ref x) :: L) (.ref x :: S) k n H Q := W_s (rfl : (pj lw).1 14 0 = some (.aload_n 0, 1, 0)) rfl rfl rfl
theorem w14_1 {a : Nat} : W (pj lw) 14 1 L (.ref a :: S) k n H Q ↔ ((isO H a = true ∧ cs S + (1 + 11) + 0 ≤ 12) ∧ Cl (pj lw) 13 [.ref a] H (fun v H => W (pj lw) 14 4 L (v.toList ++ S) k n H Q)) := W_inst (as := []) (rfl : (pj lw).1 14 1 = some (.invokevirtual 107, 3, 13)) rfl rfl rfl (Nat.le_of_ble_eq_true rfl) (Nat.le_of_ble_eq_true rfl) ⟨rfl, rfl⟩
theorem w14_4 {x : Int32} {l0 l1 : Slot} : W (pj lw) 14 4 (l0 :: l1 :: .unset :: L) (.int x :: S) k n H Q ↔ W (pj lw) 14 5 (l0 :: l1 :: .val (.int x) :: L) S k n H Q := W_istn (rfl : (pj lw).1 14 4 = some (.istore_n 2, 1, 0)) rfl rfl
theorem w14_5 {x : Int32} {l0 l1 : Slot} : W (pj lw) 14 5 (l0 :: l1 :: .val (.int x) :: L) S k n H Q ↔ W (pj lw) 14 6 (l0 :: l1 :: .val (.int x) :: L) (.int x :: S) k n H Q := W_s (rfl : (pj lw).1 14 5 = some (.iload_n 2, 1, 0)) rfl rfl rfl
theorem w14_6 : W (pj lw) 14 6 L S k n H Q ↔ W (pj lw) 14 7 L (.int 1 :: S) k n H Q := W_s (rfl : (pj lw).1 14 6 = some (.iconst 1, 1, 0)) rfl rfl rfl
theorem w14_7 {x y : Int32} : W (pj lw) 14 7 L (.int y :: .int x :: S) k n H Q ↔ W (pj lw) 14 8 L (.int (x &&& y) :: S) k n H Q := W_s (rfl : (pj lw).1 14 7 = some (.iand, 1, 0)) rfl rfl rfl
theorem w14_8 {x : Int32} : W (pj lw) 14 8 L (.int x :: S) k n H Q ↔ (if x = 0 then W (pj lw) 14 11 L S k n H Q else W (pj lw) 14 20 L S k n H Q) := W_if_ne (rfl : (pj lw).1 14 8 = some (.ifCond .ne 12, 3, 0)) rfl
theorem w14_11 {x : Nat} : W (pj lw) 14 11 (.val (.ref x) :: L) S k n H Q ↔ W (pj lw) 14 12 (.val (.ref x) :: L) (.ref x :: S) k n H Q := W_s (rfl : (pj lw).1 14 11 = some (.aload_n 0, 1, 0)) rfl rfl rfl
theorem w14_12 {a : Nat} : W (pj lw) 14 12 L (.ref a :: S) k n H Q ↔ (isO H a = true ∧ W (pj lw) 14 15 L (fld H a 9 :: S) k n H Q) := W_getf (rfl : (pj lw).1 14 12 = some (.getfield 22, 3, 9))
theorem w14_15 {x : Int32} {l0 : Slot} : W (pj lw) 14 15 (l0 :: .val (.int x) :: L) S k n H Q ↔ W (pj lw) 14 16 (l0 :: .val (.int x) :: L) (.int x :: S) k n H Q := W_s (rfl : (pj lw).1 14 15 = some (.iload_n 1, 1, 0)) rfl rfl rfl
theorem w14_16 {i : Int32} {a : Nat} : W (pj lw) 14 16 L (.int i :: .ref a :: S) k n H Q ↔ (inA H a .int i = true ∧ W (pj lw) 14 17 L (elt H a i :: S) k n H Q) := W_iaload (rfl : (pj lw).1 14 16 = some (.iaload, 1, 0))
theorem w14_17 : W (pj lw) 14 17 L S k n H Q ↔ W (pj lw) 14 26 L S k n H Q := W_goto (rfl : (pj lw).1 14 17 = some (.goto 9, 3, 0)) rfl
theorem w14_20 {x : Nat} : W (pj lw) 14 20 (.val (.ref x) :: L) S k n H Q ↔ W (pj lw) 14 21 (.val (.ref x) :: L) (.ref x :: S) k n H Q := W_s (rfl : (pj lw).1 14 20 = some (.aload_n 0, 1, 0)) rfl rfl rfl
theorem w14_21 {a : Nat} : W (pj lw) 14 21 L (.ref a :: S) k n H Q ↔ (isO H a = true ∧ W (pj lw) 14 24 L (fld H a 10 :: S) k n H Q) := W_getf (rfl : (pj lw).1 14 21 = some (.getfield 25, 3, 10))
theorem w14_24 {x : Int32} {l0 : Slot} : W (pj lw) 14 24 (l0 :: .val (.int x) :: L) S k n H Q ↔ W (pj lw) 14 25 (l0 :: .val (.int x) :: L) (.int x :: S) k n H Q := W_s (rfl : (pj lw).1 14 24 = some (.iload_n 1, 1, 0)) rfl rfl rfl
theorem w14_25 {i : Int32} {a : Nat} : W (pj lw) 14 25 L (.int i :: .ref a :: S) k n H Q ↔ (inA H a .int i = true ∧ W (pj lw) 14 26 L (elt H a i :: S) k n H Q) := W_iaload (rfl : (pj lw).1 14 25 = some (.iaload, 1, 0))
theorem w14_26 {x : Int32} : W (pj lw) 14 26 L (.int x :: S) k n H Q ↔ Q (some (.int x)) H := W_r (rfl : (pj lw).1 14 26 = some (.ireturn, 1, 0)) rfl
theorem c15 {x0 : Nat} : Cl (pj lw) 15 [.ref x0] H Q ↔ W (pj lw) 15 0 [.val (.ref x0), .unset, .unset, .unset] [] 0 0 H Q := cl_unf rfl
theorem w15_0 : W (pj lw) 15 0 L S k n H Q ↔ W (pj lw) 15 1 L (.int 1 :: S) k n H Q := W_s (rfl : (pj lw).1 15 0 = some (.iconst 1, 1, 0)) rfl rfl rfl
theorem w15_1 {x : Int32} {l0 : Slot} : W (pj lw) 15 1 (l0 :: .unset :: L) (.int x :: S) k n H Q ↔ W (pj lw) 15 2 (l0 :: .val (.int x) :: L) S k n H Q := W_istn (rfl : (pj lw).1 15 1 = some (.istore_n 1, 1, 0)) rfl rfl
theorem w15_2 {x : Int32} {l0 : Slot} : W (pj lw) 15 2 (l0 :: .val (.int x) :: L) S k n H Q ↔ W (pj lw) 15 3 (l0 :: .val (.int x) :: L) (.int x :: S) k n H Q := W_s (rfl : (pj lw).1 15 2 = some (.iload_n 1, 1, 0)) rfl rfl rfl
theorem w15_3 {x : Nat} : W (pj lw) 15 3 (.val (.ref x) :: L) S k n H Q ↔ W (pj lw) 15 4 (.val (.ref x) :: L) (.ref x :: S) k n H Q := W_s (rfl : (pj lw).1 15 3 = some (.aload_n 0, 1, 0)) rfl rfl rfl
theorem w15_4 {a : Nat} : W (pj lw) 15 4 L (.ref a :: S) k n H Q ↔ (isO H a = true ∧ W (pj lw) 15 7 L (fld H a 4 :: S) k n H Q) := W_getf (rfl : (pj lw).1 15 4 = some (.getfield 66, 3, 4))
theorem w15_7 {x y : Int32} : W (pj lw) 15 7 L (.int y :: .int x :: S) k n H Q ↔ (if y < x then W (pj lw) 15 98 L S k n H Q else W (pj lw) 15 10 L S k n H Q) := W_icmp_gt (rfl : (pj lw).1 15 7 = some (.if_icmp .gt 91, 3, 0)) rfl
theorem w15_10 {x : Nat} : W (pj lw) 15 10 (.val (.ref x) :: L) S k n H Q ↔ W (pj lw) 15 11 (.val (.ref x) :: L) (.ref x :: S) k n H Q := W_s (rfl : (pj lw).1 15 10 = some (.aload_n 0, 1, 0)) rfl rfl rfl
theorem w15_11 {a : Nat} : W (pj lw) 15 11 L (.ref a :: S) k n H Q ↔ (isO H a = true ∧ W (pj lw) 15 14 L (fld H a 6 :: S) k n H Q) := W_getf (rfl : (pj lw).1 15 11 = some (.getfield 13, 3, 6))
theorem w15_14 {x : Int32} {l0 : Slot} : W (pj lw) 15 14 (l0 :: .val (.int x) :: L) S k n H Q ↔ W (pj lw) 15 15 (l0 :: .val (.int x) :: L) (.int x :: S) k n H Q := W_s (rfl : (pj lw).1 15 14 = some (.iload_n 1, 1, 0)) rfl rfl rfl
theorem w15_15 {i : Int32} {a : Nat} : W (pj lw) 15 15 L (.int i :: .ref a :: S) k n H Q ↔ (inA H a .int i = true ∧ W (pj lw) 15 16 L (elt H a i :: S) k n H Q) := W_iaload (rfl : (pj lw).1 15 15 = some (.iaload, 1, 0))
theorem w15_16 {x : Int32} : W (pj lw) 15 16 L (.int x :: S) k n H Q ↔ (if x = 0 then W (pj lw) 15 19 L S k n H Q else W (pj lw) 15 60 L S k n H Q) := W_if_ne (rfl : (pj lw).1 15 16 = some (.ifCond .ne 44, 3, 0)) rfl
theorem w15_19 {x : Nat} : W (pj lw) 15 19 (.val (.ref x) :: L) S k n H Q ↔ W (pj lw) 15 20 (.val (.ref x) :: L) (.ref x :: S) k n H Q := W_s (rfl : (pj lw).1 15 19 = some (.aload_n 0, 1, 0)) rfl rfl rfl
theorem w15_20 {a : Nat} : W (pj lw) 15 20 L (.ref a :: S) k n H Q ↔ ((isO H a = true ∧ cs S + (1 + 11) + 0 ≤ 28) ∧ Cl (pj lw) 13 [.ref a] H (fun v H => W (pj lw) 15 23 L (v.toList ++ S) k n H Q)) := W_inst (as := []) (rfl : (pj lw).1 15 20 = some (.invokevirtual 107, 3, 13)) rfl rfl rfl (Nat.le_of_ble_eq_true rfl) (Nat.le_of_ble_eq_true rfl) ⟨rfl, rfl⟩
theorem w15_23i {y : Int32} {x : Int32} {l0 l1 : Slot} : W (pj lw) 15 23 (l0 :: l1 :: .val (.int y) :: L) (.int x :: S) k n H Q ↔ W (pj lw) 15 24 (l0 :: l1 :: .val (.int x) :: L) S k n H Q := W_istn (rfl : (pj lw).1 15 23 = some (.istore_n 2, 1, 0)) rfl rfl
theorem w15_23 {x : Int32} {l0 l1 : Slot} : W (pj lw) 15 23 (l0 :: l1 :: .unset :: L) (.int x :: S) k n H Q ↔ W (pj lw) 15 24 (l0 :: l1 :: .val (.int x) :: L) S k n H Q := W_istn (rfl : (pj lw).1 15 23 = some (.istore_n 2, 1, 0)) rfl rfl
theorem w15_24 {x : Nat} : W (pj lw) 15 24 (.val (.ref x) :: L) S k n H Q ↔ W (pj lw) 15 25 (.val (.ref x) :: L) (.ref x :: S) k n H Q := W_s (rfl : (pj lw).1 15 24 = some (.aload_n 0, 1, 0)) rfl rfl rfl
theorem w15_25 {a : Nat} : W (pj lw) 15 25 L (.ref a :: S) k n H Q ↔ (isO H a = true ∧ W (pj lw) 15 28 L (fld H a 9 :: S) k n H Q) := W_getf (rfl : (pj lw).1 15 25 = some (.getfield 22, 3, 9))
theorem w15_28 {x : Int32} {l0 : Slot} : W (pj lw) 15 28 (l0 :: .val (.int x) :: L) S k n H Q ↔ W (pj lw) 15 29 (l0 :: .val (.int x) :: L) (.int x :: S) k n H Q := W_s (rfl : (pj lw).1 15 28 = some (.iload_n 1, 1, 0)) rfl rfl rfl
theorem w15_29 : W (pj lw) 15 29 L S k n H Q ↔ W (pj lw) 15 30 L (.int 1 :: S) k n H Q := W_s (rfl : (pj lw).1 15 29 = some (.iconst 1, 1, 0)) rfl rfl rfl
theorem w15_30 {x : Int32} {l0 l1 : Slot} : W (pj lw) 15 30 (l0 :: l1 :: .val (.int x) :: L) S k n H Q ↔ W (pj lw) 15 31 (l0 :: l1 :: .val (.int x) :: L) (.int x :: S) k n H Q := W_s (rfl : (pj lw).1 15 30 = some (.iload_n 2, 1, 0)) rfl rfl rfl
theorem w15_31 {x : Nat} : W (pj lw) 15 31 (.val (.ref x) :: L) S k n H Q ↔ W (pj lw) 15 32 (.val (.ref x) :: L) (.ref x :: S) k n H Q := W_s (rfl : (pj lw).1 15 31 = some (.aload_n 0, 1, 0)) rfl rfl rfl
theorem w15_32 {a : Nat} : W (pj lw) 15 32 L (.ref a :: S) k n H Q ↔ (isO H a = true ∧ W (pj lw) 15 35 L (fld H a 0 :: S) k n H Q) := W_getf (rfl : (pj lw).1 15 32 = some (.getfield 49, 3, 0))
theorem w15_35 {x y : Int32} : W (pj lw) 15 35 L (.int y :: .int x :: S) k n H Q ↔ (¬ y = 0 ∧ W (pj lw) 15 36 L (.int (x % y) :: S) k n H Q) := W_irem (rfl : (pj lw).1 15 35 = some (.irem, 1, 0))
theorem w15_36 {x y : Int32} : W (pj lw) 15 36 L (.int y :: .int x :: S) k n H Q ↔ W (pj lw) 15 37 L (.int (x + y) :: S) k n H Q := W_s (rfl : (pj lw).1 15 36 = some (.iadd, 1, 0)) rfl rfl rfl
theorem w15_37 {x i : Int32} {a : Nat} : W (pj lw) 15 37 L (.int x :: .int i :: .ref a :: S) k n H Q ↔ (inAw H a .int i = true ∧ W (pj lw) 15 38 L S k n (wr H a i.toNatClampNeg (.int x)) Q) := W_iastore (rfl : (pj lw).1 15 37 = some (.iastore, 1, 0))
theorem w15_38 {x : Nat} : W (pj lw) 15 38 (.val (.ref x) :: L) S k n H Q ↔ W (pj lw) 15 39 (.val (.ref x) :: L) (.ref x :: S) k n H Q := W_s (rfl : (pj lw).1 15 38 = some (.aload_n 0, 1, 0)) rfl rfl rfl
theorem w15_39 {a : Nat} : W (pj lw) 15 39 L (.ref a :: S) k n H Q ↔ ((isO H a = true ∧ cs S + (1 + 11) + 0 ≤ 28) ∧ Cl (pj lw) 13 [.ref a] H (fun v H => W (pj lw) 15 42 L (v.toList ++ S) k n H Q)) := W_inst (as := []) (rfl : (pj lw).1 15 39 = some (.invokevirtual 107, 3, 13)) rfl rfl rfl (Nat.le_of_ble_eq_true rfl) (Nat.le_of_ble_eq_true rfl) ⟨rfl, rfl⟩
theorem w15_42i {y : Int32} {x : Int32} {l0 l1 l2 : Slot} : W (pj lw) 15 42 (l0 :: l1 :: l2 :: .val (.int y) :: L) (.int x :: S) k n H Q ↔ W (pj lw) 15 43 (l0 :: l1 :: l2 :: .val (.int x) :: L) S k n H Q := W_istn (rfl : (pj lw).1 15 42 = some (.istore_n 3, 1, 0)) rfl rfl
theorem w15_42 {x : Int32} {l0 l1 l2 : Slot} : W (pj lw) 15 42 (l0 :: l1 :: l2 :: .unset :: L) (.int x :: S) k n H Q ↔ W (pj lw) 15 43 (l0 :: l1 :: l2 :: .val (.int x) :: L) S k n H Q := W_istn (rfl : (pj lw).1 15 42 = some (.istore_n 3, 1, 0)) rfl rfl
theorem w15_43 {x : Nat} : W (pj lw) 15 43 (.val (.ref x) :: L) S k n H Q ↔ W (pj lw) 15 44 (.val (.ref x) :: L) (.ref x :: S) k n H Q := W_s (rfl : (pj lw).1 15 43 = some (.aload_n 0, 1, 0)) rfl rfl rfl
theorem w15_44 {a : Nat} : W (pj lw) 15 44 L (.ref a :: S) k n H Q ↔ (isO H a = true ∧ W (pj lw) 15 47 L (fld H a 10 :: S) k n H Q) := W_getf (rfl : (pj lw).1 15 44 = some (.getfield 25, 3, 10))
theorem w15_47 {x : Int32} {l0 : Slot} : W (pj lw) 15 47 (l0 :: .val (.int x) :: L) S k n H Q ↔ W (pj lw) 15 48 (l0 :: .val (.int x) :: L) (.int x :: S) k n H Q := W_s (rfl : (pj lw).1 15 47 = some (.iload_n 1, 1, 0)) rfl rfl rfl
theorem w15_48 : W (pj lw) 15 48 L S k n H Q ↔ W (pj lw) 15 49 L (.int 1 :: S) k n H Q := W_s (rfl : (pj lw).1 15 48 = some (.iconst 1, 1, 0)) rfl rfl rfl
theorem w15_49 {x : Int32} {l0 l1 l2 : Slot} : W (pj lw) 15 49 (l0 :: l1 :: l2 :: .val (.int x) :: L) S k n H Q ↔ W (pj lw) 15 50 (l0 :: l1 :: l2 :: .val (.int x) :: L) (.int x :: S) k n H Q := W_s (rfl : (pj lw).1 15 49 = some (.iload_n 3, 1, 0)) rfl rfl rfl
theorem w15_50 {x : Nat} : W (pj lw) 15 50 (.val (.ref x) :: L) S k n H Q ↔ W (pj lw) 15 51 (.val (.ref x) :: L) (.ref x :: S) k n H Q := W_s (rfl : (pj lw).1 15 50 = some (.aload_n 0, 1, 0)) rfl rfl rfl
theorem w15_51 {a : Nat} : W (pj lw) 15 51 L (.ref a :: S) k n H Q ↔ (isO H a = true ∧ W (pj lw) 15 54 L (fld H a 0 :: S) k n H Q) := W_getf (rfl : (pj lw).1 15 51 = some (.getfield 49, 3, 0))
theorem w15_54 {x y : Int32} : W (pj lw) 15 54 L (.int y :: .int x :: S) k n H Q ↔ (¬ y = 0 ∧ W (pj lw) 15 55 L (.int (x % y) :: S) k n H Q) := W_irem (rfl : (pj lw).1 15 54 = some (.irem, 1, 0))
theorem w15_55 {x y : Int32} : W (pj lw) 15 55 L (.int y :: .int x :: S) k n H Q ↔ W (pj lw) 15 56 L (.int (x + y) :: S) k n H Q := W_s (rfl : (pj lw).1 15 55 = some (.iadd, 1, 0)) rfl rfl rfl
theorem w15_56 {x i : Int32} {a : Nat} : W (pj lw) 15 56 L (.int x :: .int i :: .ref a :: S) k n H Q ↔ (inAw H a .int i = true ∧ W (pj lw) 15 57 L S k n (wr H a i.toNatClampNeg (.int x)) Q) := W_iastore (rfl : (pj lw).1 15 56 = some (.iastore, 1, 0))
theorem w15_57 : W (pj lw) 15 57 L S k n H Q ↔ W (pj lw) 15 92 L S k n H Q := W_goto (rfl : (pj lw).1 15 57 = some (.goto 35, 3, 0)) rfl
theorem w15_60 {x : Nat} : W (pj lw) 15 60 (.val (.ref x) :: L) S k n H Q ↔ W (pj lw) 15 61 (.val (.ref x) :: L) (.ref x :: S) k n H Q := W_s (rfl : (pj lw).1 15 60 = some (.aload_n 0, 1, 0)) rfl rfl rfl
theorem w15_61 {a : Nat} : W (pj lw) 15 61 L (.ref a :: S) k n H Q ↔ (isO H a = true ∧ W (pj lw) 15 64 L (fld H a 9 :: S) k n H Q) := W_getf (rfl : (pj lw).1 15 61 = some (.getfield 22, 3, 9))
theorem w15_64 {x : Int32} {l0 : Slot} : W (pj lw) 15 64 (l0 :: .val (.int x) :: L) S k n H Q ↔ W (pj lw) 15 65 (l0 :: .val (.int x) :: L) (.int x :: S) k n H Q := W_s (rfl : (pj lw).1 15 64 = some (.iload_n 1, 1, 0)) rfl rfl rfl
theorem w15_65 {x : Nat} : W (pj lw) 15 65 (.val (.ref x) :: L) S k n H Q ↔ W (pj lw) 15 66 (.val (.ref x) :: L) (.ref x :: S) k n H Q := W_s (rfl : (pj lw).1 15 65 = some (.aload_n 0, 1, 0)) rfl rfl rfl
theorem w15_66 {x : Nat} : W (pj lw) 15 66 (.val (.ref x) :: L) S k n H Q ↔ W (pj lw) 15 67 (.val (.ref x) :: L) (.ref x :: S) k n H Q := W_s (rfl : (pj lw).1 15 66 = some (.aload_n 0, 1, 0)) rfl rfl rfl
theorem w15_67 {a : Nat} : W (pj lw) 15 67 L (.ref a :: S) k n H Q ↔ (isO H a = true ∧ W (pj lw) 15 70 L (fld H a 6 :: S) k n H Q) := W_getf (rfl : (pj lw).1 15 67 = some (.getfield 13, 3, 6))
theorem w15_70 {x : Int32} {l0 : Slot} : W (pj lw) 15 70 (l0 :: .val (.int x) :: L) S k n H Q ↔ W (pj lw) 15 71 (l0 :: .val (.int x) :: L) (.int x :: S) k n H Q := W_s (rfl : (pj lw).1 15 70 = some (.iload_n 1, 1, 0)) rfl rfl rfl
theorem w15_71 {i : Int32} {a : Nat} : W (pj lw) 15 71 L (.int i :: .ref a :: S) k n H Q ↔ (inA H a .int i = true ∧ W (pj lw) 15 72 L (elt H a i :: S) k n H Q) := W_iaload (rfl : (pj lw).1 15 71 = some (.iaload, 1, 0))
theorem w15_72 {a : Nat} {x0 : Int32} : W (pj lw) 15 72 L (.int x0 :: .ref a :: S) k n H Q ↔ ((isO H a = true ∧ cs S + (3 + 11) + 12 ≤ 28) ∧ Cl (pj lw) 14 [.ref a, .int x0] H (fun v H => W (pj lw) 15 75 L (v.toList ++ S) k n H Q)) := W_inst (as := [.int x0]) (rfl : (pj lw).1 15 72 = some (.invokevirtual 111, 3, 14)) rfl rfl rfl (Nat.le_of_ble_eq_true rfl) (Nat.le_of_ble_eq_true rfl) ⟨rfl, rfl⟩
theorem w15_75 {x i : Int32} {a : Nat} : W (pj lw) 15 75 L (.int x :: .int i :: .ref a :: S) k n H Q ↔ (inAw H a .int i = true ∧ W (pj lw) 15 76 L S k n (wr H a i.toNatClampNeg (.int x)) Q) := W_iastore (rfl : (pj lw).1 15 75 = some (.iastore, 1, 0))
theorem w15_76 {x : Nat} : W (pj lw) 15 76 (.val (.ref x) :: L) S k n H Q ↔ W (pj lw) 15 77 (.val (.ref x) :: L) (.ref x :: S) k n H Q := W_s (rfl : (pj lw).1 15 76 = some (.aload_n 0, 1, 0)) rfl rfl rfl
theorem w15_77 {a : Nat} : W (pj lw) 15 77 L (.ref a :: S) k n H Q ↔ (isO H a = true ∧ W (pj lw) 15 80 L (fld H a 10 :: S) k n H Q) := W_getf (rfl : (pj lw).1 15 77 = some (.getfield 25, 3, 10))
theorem w15_80 {x : Int32} {l0 : Slot} : W (pj lw) 15 80 (l0 :: .val (.int x) :: L) S k n H Q ↔ W (pj lw) 15 81 (l0 :: .val (.int x) :: L) (.int x :: S) k n H Q := W_s (rfl : (pj lw).1 15 80 = some (.iload_n 1, 1, 0)) rfl rfl rfl
theorem w15_81 {x : Nat} : W (pj lw) 15 81 (.val (.ref x) :: L) S k n H Q ↔ W (pj lw) 15 82 (.val (.ref x) :: L) (.ref x :: S) k n H Q := W_s (rfl : (pj lw).1 15 81 = some (.aload_n 0, 1, 0)) rfl rfl rfl
theorem w15_82 {x : Nat} : W (pj lw) 15 82 (.val (.ref x) :: L) S k n H Q ↔ W (pj lw) 15 83 (.val (.ref x) :: L) (.ref x :: S) k n H Q := W_s (rfl : (pj lw).1 15 82 = some (.aload_n 0, 1, 0)) rfl rfl rfl
theorem w15_83 {a : Nat} : W (pj lw) 15 83 L (.ref a :: S) k n H Q ↔ (isO H a = true ∧ W (pj lw) 15 86 L (fld H a 7 :: S) k n H Q) := W_getf (rfl : (pj lw).1 15 83 = some (.getfield 16, 3, 7))
theorem w15_86 {x : Int32} {l0 : Slot} : W (pj lw) 15 86 (l0 :: .val (.int x) :: L) S k n H Q ↔ W (pj lw) 15 87 (l0 :: .val (.int x) :: L) (.int x :: S) k n H Q := W_s (rfl : (pj lw).1 15 86 = some (.iload_n 1, 1, 0)) rfl rfl rfl
theorem w15_87 {i : Int32} {a : Nat} : W (pj lw) 15 87 L (.int i :: .ref a :: S) k n H Q ↔ (inA H a .int i = true ∧ W (pj lw) 15 88 L (elt H a i :: S) k n H Q) := W_iaload (rfl : (pj lw).1 15 87 = some (.iaload, 1, 0))
theorem w15_88 {a : Nat} {x0 : Int32} : W (pj lw) 15 88 L (.int x0 :: .ref a :: S) k n H Q ↔ ((isO H a = true ∧ cs S + (3 + 11) + 12 ≤ 28) ∧ Cl (pj lw) 14 [.ref a, .int x0] H (fun v H => W (pj lw) 15 91 L (v.toList ++ S) k n H Q)) := W_inst (as := [.int x0]) (rfl : (pj lw).1 15 88 = some (.invokevirtual 111, 3, 14)) rfl rfl rfl (Nat.le_of_ble_eq_true rfl) (Nat.le_of_ble_eq_true rfl) ⟨rfl, rfl⟩
theorem w15_91 {x i : Int32} {a : Nat} : W (pj lw) 15 91 L (.int x :: .int i :: .ref a :: S) k n H Q ↔ (inAw H a .int i = true ∧ W (pj lw) 15 92 L S k n (wr H a i.toNatClampNeg (.int x)) Q) := W_iastore (rfl : (pj lw).1 15 91 = some (.iastore, 1, 0))
theorem w15_92 {x : Int32} {l0 : Slot} : W (pj lw) 15 92 (l0 :: .val (.int x) :: L) S k n H Q ↔ W (pj lw) 15 95 (l0 :: .val (.int (x + 1)) :: L) S k n H Q := W_s (rfl : (pj lw).1 15 92 = some (.iinc 1 1, 3, 0)) rfl rfl rfl
theorem w15_95 : W (pj lw) 15 95 L S k n H Q ↔ W (pj lw) 15 2 L S k n H Q := W_goto (rfl : (pj lw).1 15 95 = some (.goto (-93), 3, 0)) rfl
theorem w15_98 {x : Nat} : W (pj lw) 15 98 (.val (.ref x) :: L) S k n H Q ↔ W (pj lw) 15 99 (.val (.ref x) :: L) (.ref x :: S) k n H Q := W_s (rfl : (pj lw).1 15 98 = some (.aload_n 0, 1, 0)) rfl rfl rfl
theorem w15_99 : W (pj lw) 15 99 L S k n H Q ↔ W (pj lw) 15 100 L (.int 1 :: S) k n H Q := W_s (rfl : (pj lw).1 15 99 = some (.iconst 1, 1, 0)) rfl rfl rfl
theorem w15_100 {a : Nat} {v : Value} : W (pj lw) 15 100 L (v :: .ref a :: S) k n H Q ↔ ((isOw H a = true ∧ okv (.boolean) v = true) ∧ W (pj lw) 15 103 L S k n (wr H a 12 v) Q) := W_putf (rfl : (pj lw).1 15 100 = some (.putfield 69, 3, 12))
theorem w15_103 {x : Nat} : W (pj lw) 15 103 (.val (.ref x) :: L) S k n H Q ↔ W (pj lw) 15 104 (.val (.ref x) :: L) (.ref x :: S) k n H Q := W_s (rfl : (pj lw).1 15 103 = some (.aload_n 0, 1, 0)) rfl rfl rfl
theorem w15_104 {a : Nat} : W (pj lw) 15 104 L (.ref a :: S) k n H Q ↔ (isO H a = true ∧ W (pj lw) 15 107 L (fld H a 4 :: S) k n H Q) := W_getf (rfl : (pj lw).1 15 104 = some (.getfield 66, 3, 4))
theorem w15_107 {x : Int32} : W (pj lw) 15 107 L (.int x :: S) k n H Q ↔ Q (some (.int x)) H := W_r (rfl : (pj lw).1 15 107 = some (.ireturn, 1, 0)) rfl
theorem c16 {x0 : Nat} {x1 : Int32} : Cl (pj lw) 16 [.ref x0, .int x1] H Q ↔ W (pj lw) 16 0 [.val (.ref x0), .val (.int x1)] [] 0 0 H Q := cl_unf rfl
theorem w16_0 {x : Nat} : W (pj lw) 16 0 (.val (.ref x) :: L) S k n H Q ↔ W (pj lw) 16 1 (.val (.ref x) :: L) (.ref x :: S) k n H Q := W_s (rfl : (pj lw).1 16 0 = some (.aload_n 0, 1, 0)) rfl rfl rfl
theorem w16_1 {x : Int32} {l0 : Slot} : W (pj lw) 16 1 (l0 :: .val (.int x) :: L) S k n H Q ↔ W (pj lw) 16 2 (l0 :: .val (.int x) :: L) (.int x :: S) k n H Q := W_s (rfl : (pj lw).1 16 1 = some (.iload_n 1, 1, 0)) rfl rfl rfl
theorem w16_2 {a : Nat} {x0 : Int32} : W (pj lw) 16 2 L (.int x0 :: .ref a :: S) k n H Q ↔ ((isO H a = true ∧ cs S + (2 + 11) + 0 ≤ 13) ∧ Cl (pj lw) 7 [.ref a, .int x0] H (fun v H => W (pj lw) 16 5 L (v.toList ++ S) k n H Q)) := W_inst (as := [.int x0]) (rfl : (pj lw).1 16 2 = some (.invokevirtual 99, 3, 7)) rfl rfl rfl (Nat.le_of_ble_eq_true rfl) (Nat.le_of_ble_eq_true rfl) ⟨rfl, rfl⟩
theorem w16_5 {x : Int32} : W (pj lw) 16 5 L (.int x :: S) k n H Q ↔ (if x = 0 then W (pj lw) 16 8 L S k n H Q else W (pj lw) 16 11 L S k n H Q) := W_if_ne (rfl : (pj lw).1 16 5 = some (.ifCond .ne 6, 3, 0)) rfl
theorem w16_8 : W (pj lw) 16 8 L S k n H Q ↔ W (pj lw) 16 10 L (.int (-5) :: S) k n H Q := W_s (rfl : (pj lw).1 16 8 = some (.bipush (-5), 2, 0)) rfl rfl rfl
theorem w16_10 {x : Int32} : W (pj lw) 16 10 L (.int x :: S) k n H Q ↔ Q (some (.int x)) H := W_r (rfl : (pj lw).1 16 10 = some (.ireturn, 1, 0)) rfl
theorem w16_11 {x : Nat} : W (pj lw) 16 11 (.val (.ref x) :: L) S k n H Q ↔ W (pj lw) 16 12 (.val (.ref x) :: L) (.ref x :: S) k n H Q := W_s (rfl : (pj lw).1 16 11 = some (.aload_n 0, 1, 0)) rfl rfl rfl
theorem w16_12 {a : Nat} : W (pj lw) 16 12 L (.ref a :: S) k n H Q ↔ (isO H a = true ∧ W (pj lw) 16 15 L (fld H a 12 :: S) k n H Q) := W_getf (rfl : (pj lw).1 16 12 = some (.getfield 69, 3, 12))
theorem w16_15 {x : Int32} : W (pj lw) 16 15 L (.int x :: S) k n H Q ↔ (if x = 0 then W (pj lw) 16 18 L S k n H Q else W (pj lw) 16 21 L S k n H Q) := W_if_ne (rfl : (pj lw).1 16 15 = some (.ifCond .ne 6, 3, 0)) rfl
theorem w16_18 : W (pj lw) 16 18 L S k n H Q ↔ W (pj lw) 16 20 L (.int (-7) :: S) k n H Q := W_s (rfl : (pj lw).1 16 18 = some (.bipush (-7), 2, 0)) rfl rfl rfl
theorem w16_20 {x : Int32} : W (pj lw) 16 20 L (.int x :: S) k n H Q ↔ Q (some (.int x)) H := W_r (rfl : (pj lw).1 16 20 = some (.ireturn, 1, 0)) rfl
theorem w16_21 {x : Nat} : W (pj lw) 16 21 (.val (.ref x) :: L) S k n H Q ↔ W (pj lw) 16 22 (.val (.ref x) :: L) (.ref x :: S) k n H Q := W_s (rfl : (pj lw).1 16 21 = some (.aload_n 0, 1, 0)) rfl rfl rfl
theorem w16_22 {a : Nat} : W (pj lw) 16 22 L (.ref a :: S) k n H Q ↔ (isO H a = true ∧ W (pj lw) 16 25 L (fld H a 8 :: S) k n H Q) := W_getf (rfl : (pj lw).1 16 22 = some (.getfield 19, 3, 8))
theorem w16_25 {x : Int32} {l0 : Slot} : W (pj lw) 16 25 (l0 :: .val (.int x) :: L) S k n H Q ↔ W (pj lw) 16 26 (l0 :: .val (.int x) :: L) (.int x :: S) k n H Q := W_s (rfl : (pj lw).1 16 25 = some (.iload_n 1, 1, 0)) rfl rfl rfl
theorem w16_26 {x : Nat} : W (pj lw) 16 26 (.val (.ref x) :: L) S k n H Q ↔ W (pj lw) 16 27 (.val (.ref x) :: L) (.ref x :: S) k n H Q := W_s (rfl : (pj lw).1 16 26 = some (.aload_n 0, 1, 0)) rfl rfl rfl
theorem w16_27 {a : Nat} : W (pj lw) 16 27 L (.ref a :: S) k n H Q ↔ (isO H a = true ∧ W (pj lw) 16 30 L (fld H a 18 :: S) k n H Q) := W_getf (rfl : (pj lw).1 16 27 = some (.getfield 37, 3, 18))
theorem w16_30 {x : Nat} : W (pj lw) 16 30 (.val (.ref x) :: L) S k n H Q ↔ W (pj lw) 16 31 (.val (.ref x) :: L) (.ref x :: S) k n H Q := W_s (rfl : (pj lw).1 16 30 = some (.aload_n 0, 1, 0)) rfl rfl rfl
theorem w16_31 {a : Nat} : W (pj lw) 16 31 L (.ref a :: S) k n H Q ↔ (isO H a = true ∧ W (pj lw) 16 34 L (fld H a 9 :: S) k n H Q) := W_getf (rfl : (pj lw).1 16 31 = some (.getfield 22, 3, 9))
theorem w16_34 {x : Int32} {l0 : Slot} : W (pj lw) 16 34 (l0 :: .val (.int x) :: L) S k n H Q ↔ W (pj lw) 16 35 (l0 :: .val (.int x) :: L) (.int x :: S) k n H Q := W_s (rfl : (pj lw).1 16 34 = some (.iload_n 1, 1, 0)) rfl rfl rfl
theorem w16_35 {i : Int32} {a : Nat} : W (pj lw) 16 35 L (.int i :: .ref a :: S) k n H Q ↔ (inA H a .int i = true ∧ W (pj lw) 16 36 L (elt H a i :: S) k n H Q) := W_iaload (rfl : (pj lw).1 16 35 = some (.iaload, 1, 0))
theorem w16_36 : W (pj lw) 16 36 L S k n H Q ↔ W (pj lw) 16 37 L (.int 5 :: S) k n H Q := W_s (rfl : (pj lw).1 16 36 = some (.iconst 5, 1, 0)) rfl rfl rfl
theorem w16_37 {x y : Int32} : W (pj lw) 16 37 L (.int y :: .int x :: S) k n H Q ↔ W (pj lw) 16 38 L (.int (x * y) :: S) k n H Q := W_s (rfl : (pj lw).1 16 37 = some (.imul, 1, 0)) rfl rfl rfl
theorem w16_38 {x : Nat} : W (pj lw) 16 38 (.val (.ref x) :: L) S k n H Q ↔ W (pj lw) 16 39 (.val (.ref x) :: L) (.ref x :: S) k n H Q := W_s (rfl : (pj lw).1 16 38 = some (.aload_n 0, 1, 0)) rfl rfl rfl
theorem w16_39 {a : Nat} : W (pj lw) 16 39 L (.ref a :: S) k n H Q ↔ (isO H a = true ∧ W (pj lw) 16 42 L (fld H a 10 :: S) k n H Q) := W_getf (rfl : (pj lw).1 16 39 = some (.getfield 25, 3, 10))
theorem w16_42 {x : Int32} {l0 : Slot} : W (pj lw) 16 42 (l0 :: .val (.int x) :: L) S k n H Q ↔ W (pj lw) 16 43 (l0 :: .val (.int x) :: L) (.int x :: S) k n H Q := W_s (rfl : (pj lw).1 16 42 = some (.iload_n 1, 1, 0)) rfl rfl rfl
theorem w16_43 {i : Int32} {a : Nat} : W (pj lw) 16 43 L (.int i :: .ref a :: S) k n H Q ↔ (inA H a .int i = true ∧ W (pj lw) 16 44 L (elt H a i :: S) k n H Q) := W_iaload (rfl : (pj lw).1 16 43 = some (.iaload, 1, 0))
theorem w16_44 {x y : Int32} : W (pj lw) 16 44 L (.int y :: .int x :: S) k n H Q ↔ W (pj lw) 16 45 L (.int (x + y) :: S) k n H Q := W_s (rfl : (pj lw).1 16 44 = some (.iadd, 1, 0)) rfl rfl rfl
theorem w16_45 {i : Int32} {a : Nat} : W (pj lw) 16 45 L (.int i :: .ref a :: S) k n H Q ↔ (inA H a .int i = true ∧ W (pj lw) 16 46 L (elt H a i :: S) k n H Q) := W_iaload (rfl : (pj lw).1 16 45 = some (.iaload, 1, 0))
theorem w16_46 {x i : Int32} {a : Nat} : W (pj lw) 16 46 L (.int x :: .int i :: .ref a :: S) k n H Q ↔ (inAw H a .int i = true ∧ W (pj lw) 16 47 L S k n (wr H a i.toNatClampNeg (.int x)) Q) := W_iastore (rfl : (pj lw).1 16 46 = some (.iastore, 1, 0))
theorem w16_47 {x : Nat} : W (pj lw) 16 47 (.val (.ref x) :: L) S k n H Q ↔ W (pj lw) 16 48 (.val (.ref x) :: L) (.ref x :: S) k n H Q := W_s (rfl : (pj lw).1 16 47 = some (.aload_n 0, 1, 0)) rfl rfl rfl
theorem w16_48 : W (pj lw) 16 48 L S k n H Q ↔ W (pj lw) 16 49 L (.int 0 :: S) k n H Q := W_s (rfl : (pj lw).1 16 48 = some (.iconst 0, 1, 0)) rfl rfl rfl
theorem w16_49 {a : Nat} {v : Value} : W (pj lw) 16 49 L (v :: .ref a :: S) k n H Q ↔ ((isOw H a = true ∧ okv (.boolean) v = true) ∧ W (pj lw) 16 52 L S k n (wr H a 13 v) Q) := W_putf (rfl : (pj lw).1 16 49 = some (.putfield 73, 3, 13))
theorem w16_52 : W (pj lw) 16 52 L S k n H Q ↔ W (pj lw) 16 53 L (.int 0 :: S) k n H Q := W_s (rfl : (pj lw).1 16 52 = some (.iconst 0, 1, 0)) rfl rfl rfl
theorem w16_53 {x : Int32} : W (pj lw) 16 53 L (.int x :: S) k n H Q ↔ Q (some (.int x)) H := W_r (rfl : (pj lw).1 16 53 = some (.ireturn, 1, 0)) rfl
theorem c17 {x0 : Nat} {x1 : Int32} {x2 : Int32} : Cl (pj lw) 17 [.ref x0, .int x1, .int x2] H Q ↔ W (pj lw) 17 0 [.val (.ref x0), .val (.int x1), .val (.int x2)] [] 0 0 H Q := cl_unf rfl
theorem w17_0 {x : Nat} : W (pj lw) 17 0 (.val (.ref x) :: L) S k n H Q ↔ W (pj lw) 17 1 (.val (.ref x) :: L) (.ref x :: S) k n H Q := W_s (rfl : (pj lw).1 17 0 = some (.aload_n 0, 1, 0)) rfl rfl rfl
theorem w17_1 {x : Int32} {l0 : Slot} : W (pj lw) 17 1 (l0 :: .val (.int x) :: L) S k n H Q ↔ W (pj lw) 17 2 (l0 :: .val (.int x) :: L) (.int x :: S) k n H Q := W_s (rfl : (pj lw).1 17 1 = some (.iload_n 1, 1, 0)) rfl rfl rfl
theorem w17_2 {a : Nat} {x0 : Int32} : W (pj lw) 17 2 L (.int x0 :: .ref a :: S) k n H Q ↔ ((isO H a = true ∧ cs S + (2 + 11) + 0 ≤ 13) ∧ Cl (pj lw) 7 [.ref a, .int x0] H (fun v H => W (pj lw) 17 5 L (v.toList ++ S) k n H Q)) := W_inst (as := [.int x0]) (rfl : (pj lw).1 17 2 = some (.invokevirtual 99, 3, 7)) rfl rfl rfl (Nat.le_of_ble_eq_true rfl) (Nat.le_of_ble_eq_true rfl) ⟨rfl, rfl⟩
theorem w17_5 {x : Int32} : W (pj lw) 17 5 L (.int x :: S) k n H Q ↔ (if x = 0 then W (pj lw) 17 15 L S k n H Q else W (pj lw) 17 8 L S k n H Q) := W_if_eq (rfl : (pj lw).1 17 5 = some (.ifCond .eq 10, 3, 0)) rfl
theorem w17_8 {x : Nat} : W (pj lw) 17 8 (.val (.ref x) :: L) S k n H Q ↔ W (pj lw) 17 9 (.val (.ref x) :: L) (.ref x :: S) k n H Q := W_s (rfl : (pj lw).1 17 8 = some (.aload_n 0, 1, 0)) rfl rfl rfl
theorem w17_9 {a : Nat} : W (pj lw) 17 9 L (.ref a :: S) k n H Q ↔ (isO H a = true ∧ W (pj lw) 17 12 L (fld H a 12 :: S) k n H Q) := W_getf (rfl : (pj lw).1 17 9 = some (.getfield 69, 3, 12))
theorem w17_12 {x : Int32} : W (pj lw) 17 12 L (.int x :: S) k n H Q ↔ (if x = 0 then W (pj lw) 17 15 L S k n H Q else W (pj lw) 17 17 L S k n H Q) := W_if_ne (rfl : (pj lw).1 17 12 = some (.ifCond .ne 5, 3, 0)) rfl
theorem w17_15 : W (pj lw) 17 15 L S k n H Q ↔ W (pj lw) 17 16 L (.int 0 :: S) k n H Q := W_s (rfl : (pj lw).1 17 15 = some (.iconst 0, 1, 0)) rfl rfl rfl
theorem w17_16 {x : Int32} : W (pj lw) 17 16 L (.int x :: S) k n H Q ↔ Q (some (.int x)) H := W_r (rfl : (pj lw).1 17 16 = some (.ireturn, 1, 0)) rfl
theorem w17_17 {x : Int32} {l0 l1 : Slot} : W (pj lw) 17 17 (l0 :: l1 :: .val (.int x) :: L) S k n H Q ↔ W (pj lw) 17 18 (l0 :: l1 :: .val (.int x) :: L) (.int x :: S) k n H Q := W_s (rfl : (pj lw).1 17 17 = some (.iload_n 2, 1, 0)) rfl rfl rfl
theorem w17_18 {x : Int32} : W (pj lw) 17 18 L (.int x :: S) k n H Q ↔ (if x = 0 then W (pj lw) 17 21 L S k n H Q else W (pj lw) 17 28 L S k n H Q) := W_if_ne (rfl : (pj lw).1 17 18 = some (.ifCond .ne 10, 3, 0)) rfl
theorem w17_21 {x : Nat} : W (pj lw) 17 21 (.val (.ref x) :: L) S k n H Q ↔ W (pj lw) 17 22 (.val (.ref x) :: L) (.ref x :: S) k n H Q := W_s (rfl : (pj lw).1 17 21 = some (.aload_n 0, 1, 0)) rfl rfl rfl
theorem w17_22 {a : Nat} : W (pj lw) 17 22 L (.ref a :: S) k n H Q ↔ (isO H a = true ∧ W (pj lw) 17 25 L (fld H a 9 :: S) k n H Q) := W_getf (rfl : (pj lw).1 17 22 = some (.getfield 22, 3, 9))
theorem w17_25 {x : Int32} {l0 : Slot} : W (pj lw) 17 25 (l0 :: .val (.int x) :: L) S k n H Q ↔ W (pj lw) 17 26 (l0 :: .val (.int x) :: L) (.int x :: S) k n H Q := W_s (rfl : (pj lw).1 17 25 = some (.iload_n 1, 1, 0)) rfl rfl rfl
theorem w17_26 {i : Int32} {a : Nat} : W (pj lw) 17 26 L (.int i :: .ref a :: S) k n H Q ↔ (inA H a .int i = true ∧ W (pj lw) 17 27 L (elt H a i :: S) k n H Q) := W_iaload (rfl : (pj lw).1 17 26 = some (.iaload, 1, 0))
theorem w17_27 {x : Int32} : W (pj lw) 17 27 L (.int x :: S) k n H Q ↔ Q (some (.int x)) H := W_r (rfl : (pj lw).1 17 27 = some (.ireturn, 1, 0)) rfl
theorem w17_28 {x : Int32} {l0 l1 : Slot} : W (pj lw) 17 28 (l0 :: l1 :: .val (.int x) :: L) S k n H Q ↔ W (pj lw) 17 29 (l0 :: l1 :: .val (.int x) :: L) (.int x :: S) k n H Q := W_s (rfl : (pj lw).1 17 28 = some (.iload_n 2, 1, 0)) rfl rfl rfl
theorem w17_29 : W (pj lw) 17 29 L S k n H Q ↔ W (pj lw) 17 30 L (.int 1 :: S) k n H Q := W_s (rfl : (pj lw).1 17 29 = some (.iconst 1, 1, 0)) rfl rfl rfl
theorem w17_30 {x y : Int32} : W (pj lw) 17 30 L (.int y :: .int x :: S) k n H Q ↔ (if x = y then W (pj lw) 17 33 L S k n H Q else W (pj lw) 17 40 L S k n H Q) := W_icmp_ne (rfl : (pj lw).1 17 30 = some (.if_icmp .ne 10, 3, 0)) rfl
theorem w17_33 {x : Nat} : W (pj lw) 17 33 (.val (.ref x) :: L) S k n H Q ↔ W (pj lw) 17 34 (.val (.ref x) :: L) (.ref x :: S) k n H Q := W_s (rfl : (pj lw).1 17 33 = some (.aload_n 0, 1, 0)) rfl rfl rfl
theorem w17_34 {a : Nat} : W (pj lw) 17 34 L (.ref a :: S) k n H Q ↔ (isO H a = true ∧ W (pj lw) 17 37 L (fld H a 10 :: S) k n H Q) := W_getf (rfl : (pj lw).1 17 34 = some (.getfield 25, 3, 10))
theorem w17_37 {x : Int32} {l0 : Slot} : W (pj lw) 17 37 (l0 :: .val (.int x) :: L) S k n H Q ↔ W (pj lw) 17 38 (l0 :: .val (.int x) :: L) (.int x :: S) k n H Q := W_s (rfl : (pj lw).1 17 37 = some (.iload_n 1, 1, 0)) rfl rfl rfl
theorem w17_38 {i : Int32} {a : Nat} : W (pj lw) 17 38 L (.int i :: .ref a :: S) k n H Q ↔ (inA H a .int i = true ∧ W (pj lw) 17 39 L (elt H a i :: S) k n H Q) := W_iaload (rfl : (pj lw).1 17 38 = some (.iaload, 1, 0))
theorem w17_39 {x : Int32} : W (pj lw) 17 39 L (.int x :: S) k n H Q ↔ Q (some (.int x)) H := W_r (rfl : (pj lw).1 17 39 = some (.ireturn, 1, 0)) rfl
theorem w17_40 : W (pj lw) 17 40 L S k n H Q ↔ W (pj lw) 17 41 L (.int 0 :: S) k n H Q := W_s (rfl : (pj lw).1 17 40 = some (.iconst 0, 1, 0)) rfl rfl rfl
theorem w17_41 {x : Int32} : W (pj lw) 17 41 L (.int x :: S) k n H Q ↔ Q (some (.int x)) H := W_r (rfl : (pj lw).1 17 41 = some (.ireturn, 1, 0)) rfl
theorem c18 {x0 : Nat} : Cl (pj lw) 18 [.ref x0] H Q ↔ W (pj lw) 18 0 [.val (.ref x0), .unset, .unset, .unset, .unset] [] 0 0 H Q := cl_unf rfl
theorem w18_0 {x : Nat} : W (pj lw) 18 0 (.val (.ref x) :: L) S k n H Q ↔ W (pj lw) 18 1 (.val (.ref x) :: L) (.ref x :: S) k n H Q := W_s (rfl : (pj lw).1 18 0 = some (.aload_n 0, 1, 0)) rfl rfl rfl
theorem w18_1 {a : Nat} : W (pj lw) 18 1 L (.ref a :: S) k n H Q ↔ ((isO H a = true ∧ cs S + (2 + 11) + 0 ≤ 55) ∧ Cl (pj lw) 19 [.ref a] H (fun v H => W (pj lw) 18 4 L (v.toList ++ S) k n H Q)) := W_inst (as := []) (rfl : (pj lw).1 18 1 = some (.invokevirtual 114, 3, 19)) rfl rfl rfl (Nat.le_of_ble_eq_true rfl) (Nat.le_of_ble_eq_true rfl) ⟨rfl, rfl⟩
theorem w18_4 : W (pj lw) 18 4 L S k n H Q ↔ W (pj lw) 18 5 L (.int 0 :: S) k n H Q := W_s (rfl : (pj lw).1 18 4 = some (.iconst 0, 1, 0)) rfl rfl rfl
theorem w18_5 {x : Int32} {l0 : Slot} : W (pj lw) 18 5 (l0 :: .unset :: L) (.int x :: S) k n H Q ↔ W (pj lw) 18 6 (l0 :: .val (.int x) :: L) S k n H Q := W_istn (rfl : (pj lw).1 18 5 = some (.istore_n 1, 1, 0)) rfl rfl
theorem w18_6 : W (pj lw) 18 6 L S k n H Q ↔ W (pj lw) 18 7 L (.int 0 :: S) k n H Q := W_s (rfl : (pj lw).1 18 6 = some (.iconst 0, 1, 0)) rfl rfl rfl
theorem w18_7 {x : Int32} {l0 l1 : Slot} : W (pj lw) 18 7 (l0 :: l1 :: .unset :: L) (.int x :: S) k n H Q ↔ W (pj lw) 18 8 (l0 :: l1 :: .val (.int x) :: L) S k n H Q := W_istn (rfl : (pj lw).1 18 7 = some (.istore_n 2, 1, 0)) rfl rfl
theorem w18_8 : W (pj lw) 18 8 L S k n H Q ↔ W (pj lw) 18 9 L (.int 1 :: S) k n H Q := W_s (rfl : (pj lw).1 18 8 = some (.iconst 1, 1, 0)) rfl rfl rfl
theorem w18_9 {x : Int32} {l0 l1 l2 : Slot} : W (pj lw) 18 9 (l0 :: l1 :: l2 :: .unset :: L) (.int x :: S) k n H Q ↔ W (pj lw) 18 10 (l0 :: l1 :: l2 :: .val (.int x) :: L) S k n H Q := W_istn (rfl : (pj lw).1 18 9 = some (.istore_n 3, 1, 0)) rfl rfl
theorem w18_10 {x : Int32} {l0 l1 l2 : Slot} : W (pj lw) 18 10 (l0 :: l1 :: l2 :: .val (.int x) :: L) S k n H Q ↔ W (pj lw) 18 11 (l0 :: l1 :: l2 :: .val (.int x) :: L) (.int x :: S) k n H Q := W_s (rfl : (pj lw).1 18 10 = some (.iload_n 3, 1, 0)) rfl rfl rfl
theorem w18_11 {x : Nat} : W (pj lw) 18 11 (.val (.ref x) :: L) S k n H Q ↔ W (pj lw) 18 12 (.val (.ref x) :: L) (.ref x :: S) k n H Q := W_s (rfl : (pj lw).1 18 11 = some (.aload_n 0, 1, 0)) rfl rfl rfl
theorem w18_12 {a : Nat} : W (pj lw) 18 12 L (.ref a :: S) k n H Q ↔ (isO H a = true ∧ W (pj lw) 18 15 L (fld H a 4 :: S) k n H Q) := W_getf (rfl : (pj lw).1 18 12 = some (.getfield 66, 3, 4))
theorem w18_15 {x y : Int32} : W (pj lw) 18 15 L (.int y :: .int x :: S) k n H Q ↔ (if y < x then W (pj lw) 18 63 L S k n H Q else W (pj lw) 18 18 L S k n H Q) := W_icmp_gt (rfl : (pj lw).1 18 15 = some (.if_icmp .gt 48, 3, 0)) rfl
theorem w18_18 {x : Nat} : W (pj lw) 18 18 (.val (.ref x) :: L) S k n H Q ↔ W (pj lw) 18 19 (.val (.ref x) :: L) (.ref x :: S) k n H Q := W_s (rfl : (pj lw).1 18 18 = some (.aload_n 0, 1, 0)) rfl rfl rfl
theorem w18_19 {x : Int32} {l0 l1 l2 : Slot} : W (pj lw) 18 19 (l0 :: l1 :: l2 :: .val (.int x) :: L) S k n H Q ↔ W (pj lw) 18 20 (l0 :: l1 :: l2 :: .val (.int x) :: L) (.int x :: S) k n H Q := W_s (rfl : (pj lw).1 18 19 = some (.iload_n 3, 1, 0)) rfl rfl rfl
theorem w18_20 {a : Nat} {x0 : Int32} : W (pj lw) 18 20 L (.int x0 :: .ref a :: S) k n H Q ↔ ((isO H a = true ∧ cs S + (5 + 11) + 13 ≤ 55) ∧ Cl (pj lw) 22 [.ref a, .int x0] H (fun v H => W (pj lw) 18 23 L (v.toList ++ S) k n H Q)) := W_inst (as := [.int x0]) (rfl : (pj lw).1 18 20 = some (.invokevirtual 117, 3, 22)) rfl rfl rfl (Nat.le_of_ble_eq_true rfl) (Nat.le_of_ble_eq_true rfl) ⟨rfl, rfl⟩
theorem w18_23 {x : Int32} : W (pj lw) 18 23 L (.int x :: S) k n H Q ↔ (if x = 0 then W (pj lw) 18 57 L S k n H Q else W (pj lw) 18 26 L S k n H Q) := W_if_eq (rfl : (pj lw).1 18 23 = some (.ifCond .eq 34, 3, 0)) rfl
theorem w18_26 {x : Nat} : W (pj lw) 18 26 (.val (.ref x) :: L) S k n H Q ↔ W (pj lw) 18 27 (.val (.ref x) :: L) (.ref x :: S) k n H Q := W_s (rfl : (pj lw).1 18 26 = some (.aload_n 0, 1, 0)) rfl rfl rfl
theorem w18_27 {x : Int32} {l0 l1 l2 : Slot} : W (pj lw) 18 27 (l0 :: l1 :: l2 :: .val (.int x) :: L) S k n H Q ↔ W (pj lw) 18 28 (l0 :: l1 :: l2 :: .val (.int x) :: L) (.int x :: S) k n H Q := W_s (rfl : (pj lw).1 18 27 = some (.iload_n 3, 1, 0)) rfl rfl rfl
theorem w18_28 {a : Nat} {x0 : Int32} : W (pj lw) 18 28 L (.int x0 :: .ref a :: S) k n H Q ↔ ((isO H a = true ∧ cs S + (6 + 11) + 16 ≤ 55) ∧ Cl (pj lw) 26 [.ref a, .int x0] H (fun v H => W (pj lw) 18 31 L (v.toList ++ S) k n H Q)) := W_inst (as := [.int x0]) (rfl : (pj lw).1 18 28 = some (.invokevirtual 120, 3, 26)) rfl rfl rfl (Nat.le_of_ble_eq_true rfl) (Nat.le_of_ble_eq_true rfl) ⟨rfl, rfl⟩
theorem w18_31 {x : Int32} : W (pj lw) 18 31 L (.int x :: S) k n H Q ↔ (if x = 0 then W (pj lw) 18 34 L S k n H Q else W (pj lw) 18 57 L S k n H Q) := W_if_ne (rfl : (pj lw).1 18 31 = some (.ifCond .ne 26, 3, 0)) rfl
theorem w18_34 : W (pj lw) 18 34 L S k n H Q ↔ W (pj lw) 18 35 L (.int 2 :: S) k n H Q := W_s (rfl : (pj lw).1 18 34 = some (.iconst 2, 1, 0)) rfl rfl rfl
theorem w18_35 {x : Nat} : W (pj lw) 18 35 (.val (.ref x) :: L) S k n H Q ↔ W (pj lw) 18 36 (.val (.ref x) :: L) (.ref x :: S) k n H Q := W_s (rfl : (pj lw).1 18 35 = some (.aload_n 0, 1, 0)) rfl rfl rfl
theorem w18_36 {a : Nat} : W (pj lw) 18 36 L (.ref a :: S) k n H Q ↔ (isO H a = true ∧ W (pj lw) 18 39 L (fld H a 22 :: S) k n H Q) := W_getf (rfl : (pj lw).1 18 36 = some (.getfield 82, 3, 22))
theorem w18_39 {x y : Int32} : W (pj lw) 18 39 L (.int y :: .int x :: S) k n H Q ↔ W (pj lw) 18 40 L (.int (x + y) :: S) k n H Q := W_s (rfl : (pj lw).1 18 39 = some (.iadd, 1, 0)) rfl rfl rfl
theorem w18_40i {y : Int32} {x : Int32} {l0 l1 l2 l3 : Slot} : W (pj lw) 18 40 (l0 :: l1 :: l2 :: l3 :: .val (.int y) :: L) (.int x :: S) k n H Q ↔ W (pj lw) 18 42 (l0 :: l1 :: l2 :: l3 :: .val (.int x) :: L) S k n H Q := W_ist (rfl : (pj lw).1 18 40 = some (.istore 4, 2, 0)) rfl rfl
theorem w18_40 {x : Int32} {l0 l1 l2 l3 : Slot} : W (pj lw) 18 40 (l0 :: l1 :: l2 :: l3 :: .unset :: L) (.int x :: S) k n H Q ↔ W (pj lw) 18 42 (l0 :: l1 :: l2 :: l3 :: .val (.int x) :: L) S k n H Q := W_ist (rfl : (pj lw).1 18 40 = some (.istore 4, 2, 0)) rfl rfl
theorem w18_42 {x : Int32} {l0 : Slot} : W (pj lw) 18 42 (l0 :: .val (.int x) :: L) S k n H Q ↔ W (pj lw) 18 43 (l0 :: .val (.int x) :: L) (.int x :: S) k n H Q := W_s (rfl : (pj lw).1 18 42 = some (.iload_n 1, 1, 0)) rfl rfl rfl
theorem w18_43 {x : Int32} : W (pj lw) 18 43 L (.int x :: S) k n H Q ↔ (if x = 0 then W (pj lw) 18 52 L S k n H Q else W (pj lw) 18 46 L S k n H Q) := W_if_eq (rfl : (pj lw).1 18 43 = some (.ifCond .eq 9, 3, 0)) rfl
theorem w18_46 {x : Int32} {l0 l1 l2 l3 : Slot} : W (pj lw) 18 46 (l0 :: l1 :: l2 :: l3 :: .val (.int x) :: L) S k n H Q ↔ W (pj lw) 18 48 (l0 :: l1 :: l2 :: l3 :: .val (.int x) :: L) (.int x :: S) k n H Q := W_s (rfl : (pj lw).1 18 46 = some (.iload 4, 2, 0)) rfl rfl rfl
theorem w18_48 {x : Int32} {l0 l1 : Slot} : W (pj lw) 18 48 (l0 :: l1 :: .val (.int x) :: L) S k n H Q ↔ W (pj lw) 18 49 (l0 :: l1 :: .val (.int x) :: L) (.int x :: S) k n H Q := W_s (rfl : (pj lw).1 18 48 = some (.iload_n 2, 1, 0)) rfl rfl rfl
theorem w18_49 {x y : Int32} : W (pj lw) 18 49 L (.int y :: .int x :: S) k n H Q ↔ (if x < y then W (pj lw) 18 52 L S k n H Q else W (pj lw) 18 57 L S k n H Q) := W_icmp_ge (rfl : (pj lw).1 18 49 = some (.if_icmp .ge 8, 3, 0)) rfl
theorem w18_52 {x : Int32} {l0 l1 l2 : Slot} : W (pj lw) 18 52 (l0 :: l1 :: l2 :: .val (.int x) :: L) S k n H Q ↔ W (pj lw) 18 53 (l0 :: l1 :: l2 :: .val (.int x) :: L) (.int x :: S) k n H Q := W_s (rfl : (pj lw).1 18 52 = some (.iload_n 3, 1, 0)) rfl rfl rfl
theorem w18_53i {y : Int32} {x : Int32} {l0 : Slot} : W (pj lw) 18 53 (l0 :: .val (.int y) :: L) (.int x :: S) k n H Q ↔ W (pj lw) 18 54 (l0 :: .val (.int x) :: L) S k n H Q := W_istn (rfl : (pj lw).1 18 53 = some (.istore_n 1, 1, 0)) rfl rfl
theorem w18_54 {x : Int32} {l0 l1 l2 l3 : Slot} : W (pj lw) 18 54 (l0 :: l1 :: l2 :: l3 :: .val (.int x) :: L) S k n H Q ↔ W (pj lw) 18 56 (l0 :: l1 :: l2 :: l3 :: .val (.int x) :: L) (.int x :: S) k n H Q := W_s (rfl : (pj lw).1 18 54 = some (.iload 4, 2, 0)) rfl rfl rfl
theorem w18_56i {y : Int32} {x : Int32} {l0 l1 : Slot} : W (pj lw) 18 56 (l0 :: l1 :: .val (.int y) :: L) (.int x :: S) k n H Q ↔ W (pj lw) 18 57 (l0 :: l1 :: .val (.int x) :: L) S k n H Q := W_istn (rfl : (pj lw).1 18 56 = some (.istore_n 2, 1, 0)) rfl rfl
theorem w18_57 {x : Int32} {l0 l1 l2 : Slot} : W (pj lw) 18 57 (l0 :: l1 :: l2 :: .val (.int x) :: L) S k n H Q ↔ W (pj lw) 18 60 (l0 :: l1 :: l2 :: .val (.int (x + 1)) :: L) S k n H Q := W_s (rfl : (pj lw).1 18 57 = some (.iinc 3 1, 3, 0)) rfl rfl rfl
theorem w18_60 : W (pj lw) 18 60 L S k n H Q ↔ W (pj lw) 18 10 L S k n H Q := W_goto (rfl : (pj lw).1 18 60 = some (.goto (-50), 3, 0)) rfl
theorem w18_63 {x : Nat} : W (pj lw) 18 63 (.val (.ref x) :: L) S k n H Q ↔ W (pj lw) 18 64 (.val (.ref x) :: L) (.ref x :: S) k n H Q := W_s (rfl : (pj lw).1 18 63 = some (.aload_n 0, 1, 0)) rfl rfl rfl
theorem w18_64 {a : Nat} : W (pj lw) 18 64 L (.ref a :: S) k n H Q ↔ ((isO H a = true ∧ cs S + (4 + 11) + 40 ≤ 55) ∧ Cl (pj lw) 20 [.ref a] H (fun v H => W (pj lw) 18 67 L (v.toList ++ S) k n H Q)) := W_inst (as := []) (rfl : (pj lw).1 18 64 = some (.invokevirtual 123, 3, 20)) rfl rfl rfl (Nat.le_of_ble_eq_true rfl) (Nat.le_of_ble_eq_true rfl) ⟨rfl, rfl⟩
theorem w18_67 {x : Nat} : W (pj lw) 18 67 (.val (.ref x) :: L) S k n H Q ↔ W (pj lw) 18 68 (.val (.ref x) :: L) (.ref x :: S) k n H Q := W_s (rfl : (pj lw).1 18 67 = some (.aload_n 0, 1, 0)) rfl rfl rfl
theorem w18_68 {a : Nat} : W (pj lw) 18 68 L (.ref a :: S) k n H Q ↔ ((isO H a = true ∧ cs S + (2 + 11) + 0 ≤ 55) ∧ Cl (pj lw) 21 [.ref a] H (fun v H => W (pj lw) 18 71 L (v.toList ++ S) k n H Q)) := W_inst (as := []) (rfl : (pj lw).1 18 68 = some (.invokevirtual 126, 3, 21)) rfl rfl rfl (Nat.le_of_ble_eq_true rfl) (Nat.le_of_ble_eq_true rfl) ⟨rfl, rfl⟩
theorem w18_71i {y : Int32} {x : Int32} {l0 l1 l2 : Slot} : W (pj lw) 18 71 (l0 :: l1 :: l2 :: .val (.int y) :: L) (.int x :: S) k n H Q ↔ W (pj lw) 18 72 (l0 :: l1 :: l2 :: .val (.int x) :: L) S k n H Q := W_istn (rfl : (pj lw).1 18 71 = some (.istore_n 3, 1, 0)) rfl rfl
theorem w18_72 {x : Nat} : W (pj lw) 18 72 (.val (.ref x) :: L) S k n H Q ↔ W (pj lw) 18 73 (.val (.ref x) :: L) (.ref x :: S) k n H Q := W_s (rfl : (pj lw).1 18 72 = some (.aload_n 0, 1, 0)) rfl rfl rfl
theorem w18_73 {x : Int32} {l0 l1 l2 : Slot} : W (pj lw) 18 73 (l0 :: l1 :: l2 :: .val (.int x) :: L) S k n H Q ↔ W (pj lw) 18 74 (l0 :: l1 :: l2 :: .val (.int x) :: L) (.int x :: S) k n H Q := W_s (rfl : (pj lw).1 18 73 = some (.iload_n 3, 1, 0)) rfl rfl rfl
theorem w18_74 {x : Int32} : W (pj lw) 18 74 L (.int x :: S) k n H Q ↔ (if x = 0 then W (pj lw) 18 81 L S k n H Q else W (pj lw) 18 77 L S k n H Q) := W_if_eq (rfl : (pj lw).1 18 74 = some (.ifCond .eq 7, 3, 0)) rfl
theorem w18_77 : W (pj lw) 18 77 L S k n H Q ↔ W (pj lw) 18 78 L (.int 2 :: S) k n H Q := W_s (rfl : (pj lw).1 18 77 = some (.iconst 2, 1, 0)) rfl rfl rfl
theorem w18_78 : W (pj lw) 18 78 L S k n H Q ↔ W (pj lw) 18 82 L S k n H Q := W_goto (rfl : (pj lw).1 18 78 = some (.goto 4, 3, 0)) rfl
theorem w18_81 : W (pj lw) 18 81 L S k n H Q ↔ W (pj lw) 18 82 L (.int 1 :: S) k n H Q := W_s (rfl : (pj lw).1 18 81 = some (.iconst 1, 1, 0)) rfl rfl rfl
theorem w18_82 {a : Nat} {v : Value} : W (pj lw) 18 82 L (v :: .ref a :: S) k n H Q ↔ ((isOw H a = true ∧ okv (.int) v = true) ∧ W (pj lw) 18 85 L S k n (wr H a 14 v) Q) := W_putf (rfl : (pj lw).1 18 82 = some (.putfield 76, 3, 14))
theorem w18_85 {x : Nat} : W (pj lw) 18 85 (.val (.ref x) :: L) S k n H Q ↔ W (pj lw) 18 86 (.val (.ref x) :: L) (.ref x :: S) k n H Q := W_s (rfl : (pj lw).1 18 85 = some (.aload_n 0, 1, 0)) rfl rfl rfl
theorem w18_86 {x : Int32} {l0 l1 l2 : Slot} : W (pj lw) 18 86 (l0 :: l1 :: l2 :: .val (.int x) :: L) S k n H Q ↔ W (pj lw) 18 87 (l0 :: l1 :: l2 :: .val (.int x) :: L) (.int x :: S) k n H Q := W_s (rfl : (pj lw).1 18 86 = some (.iload_n 3, 1, 0)) rfl rfl rfl
theorem w18_87 {x : Int32} : W (pj lw) 18 87 L (.int x :: S) k n H Q ↔ (if x = 0 then W (pj lw) 18 94 L S k n H Q else W (pj lw) 18 90 L S k n H Q) := W_if_eq (rfl : (pj lw).1 18 87 = some (.ifCond .eq 7, 3, 0)) rfl
theorem w18_90 {x : Int32} {l0 : Slot} : W (pj lw) 18 90 (l0 :: .val (.int x) :: L) S k n H Q ↔ W (pj lw) 18 91 (l0 :: .val (.int x) :: L) (.int x :: S) k n H Q := W_s (rfl : (pj lw).1 18 90 = some (.iload_n 1, 1, 0)) rfl rfl rfl
theorem w18_91 : W (pj lw) 18 91 L S k n H Q ↔ W (pj lw) 18 95 L S k n H Q := W_goto (rfl : (pj lw).1 18 91 = some (.goto 4, 3, 0)) rfl
theorem w18_94 : W (pj lw) 18 94 L S k n H Q ↔ W (pj lw) 18 95 L (.int 0 :: S) k n H Q := W_s (rfl : (pj lw).1 18 94 = some (.iconst 0, 1, 0)) rfl rfl rfl
theorem w18_95 {a : Nat} {v : Value} : W (pj lw) 18 95 L (v :: .ref a :: S) k n H Q ↔ ((isOw H a = true ∧ okv (.int) v = true) ∧ W (pj lw) 18 98 L S k n (wr H a 15 v) Q) := W_putf (rfl : (pj lw).1 18 95 = some (.putfield 79, 3, 15))
theorem w18_98 {x : Nat} : W (pj lw) 18 98 (.val (.ref x) :: L) S k n H Q ↔ W (pj lw) 18 99 (.val (.ref x) :: L) (.ref x :: S) k n H Q := W_s (rfl : (pj lw).1 18 98 = some (.aload_n 0, 1, 0)) rfl rfl rfl
theorem w18_99 : W (pj lw) 18 99 L S k n H Q ↔ W (pj lw) 18 100 L (.int 1 :: S) k n H Q := W_s (rfl : (pj lw).1 18 99 = some (.iconst 1, 1, 0)) rfl rfl rfl
theorem w18_100 {a : Nat} {v : Value} : W (pj lw) 18 100 L (v :: .ref a :: S) k n H Q ↔ ((isOw H a = true ∧ okv (.boolean) v = true) ∧ W (pj lw) 18 103 L S k n (wr H a 13 v) Q) := W_putf (rfl : (pj lw).1 18 100 = some (.putfield 73, 3, 13))
theorem w18_103 {x : Nat} : W (pj lw) 18 103 (.val (.ref x) :: L) S k n H Q ↔ W (pj lw) 18 104 (.val (.ref x) :: L) (.ref x :: S) k n H Q := W_s (rfl : (pj lw).1 18 103 = some (.aload_n 0, 1, 0)) rfl rfl rfl
theorem w18_104 {a : Nat} : W (pj lw) 18 104 L (.ref a :: S) k n H Q ↔ (isO H a = true ∧ W (pj lw) 18 107 L (fld H a 14 :: S) k n H Q) := W_getf (rfl : (pj lw).1 18 104 = some (.getfield 76, 3, 14))
theorem w18_107 {x : Int32} : W (pj lw) 18 107 L (.int x :: S) k n H Q ↔ Q (some (.int x)) H := W_r (rfl : (pj lw).1 18 107 = some (.ireturn, 1, 0)) rfl
theorem c19 {x0 : Nat} : Cl (pj lw) 19 [.ref x0] H Q ↔ W (pj lw) 19 0 [.val (.ref x0), .unset] [] 0 0 H Q := cl_unf rfl
theorem w19_0 : W (pj lw) 19 0 L S k n H Q ↔ W (pj lw) 19 1 L (.int 1 :: S) k n H Q := W_s (rfl : (pj lw).1 19 0 = some (.iconst 1, 1, 0)) rfl rfl rfl
theorem w19_1 {x : Int32} {l0 : Slot} : W (pj lw) 19 1 (l0 :: .unset :: L) (.int x :: S) k n H Q ↔ W (pj lw) 19 2 (l0 :: .val (.int x) :: L) S k n H Q := W_istn (rfl : (pj lw).1 19 1 = some (.istore_n 1, 1, 0)) rfl rfl
theorem w19_2 {x : Int32} {l0 : Slot} : W (pj lw) 19 2 (l0 :: .val (.int x) :: L) S k n H Q ↔ W (pj lw) 19 3 (l0 :: .val (.int x) :: L) (.int x :: S) k n H Q := W_s (rfl : (pj lw).1 19 2 = some (.iload_n 1, 1, 0)) rfl rfl rfl
theorem w19_3 {x : Nat} : W (pj lw) 19 3 (.val (.ref x) :: L) S k n H Q ↔ W (pj lw) 19 4 (.val (.ref x) :: L) (.ref x :: S) k n H Q := W_s (rfl : (pj lw).1 19 3 = some (.aload_n 0, 1, 0)) rfl rfl rfl
theorem w19_4 {a : Nat} : W (pj lw) 19 4 L (.ref a :: S) k n H Q ↔ (isO H a = true ∧ W (pj lw) 19 7 L (fld H a 4 :: S) k n H Q) := W_getf (rfl : (pj lw).1 19 4 = some (.getfield 66, 3, 4))
theorem w19_7 {x y : Int32} : W (pj lw) 19 7 L (.int y :: .int x :: S) k n H Q ↔ (if y < x then W (pj lw) 19 46 L S k n H Q else W (pj lw) 19 10 L S k n H Q) := W_icmp_gt (rfl : (pj lw).1 19 7 = some (.if_icmp .gt 39, 3, 0)) rfl
theorem w19_10 {x : Nat} : W (pj lw) 19 10 (.val (.ref x) :: L) S k n H Q ↔ W (pj lw) 19 11 (.val (.ref x) :: L) (.ref x :: S) k n H Q := W_s (rfl : (pj lw).1 19 10 = some (.aload_n 0, 1, 0)) rfl rfl rfl
theorem w19_11 {a : Nat} : W (pj lw) 19 11 L (.ref a :: S) k n H Q ↔ (isO H a = true ∧ W (pj lw) 19 14 L (fld H a 11 :: S) k n H Q) := W_getf (rfl : (pj lw).1 19 11 = some (.getfield 28, 3, 11))
theorem w19_14 {x : Int32} {l0 : Slot} : W (pj lw) 19 14 (l0 :: .val (.int x) :: L) S k n H Q ↔ W (pj lw) 19 15 (l0 :: .val (.int x) :: L) (.int x :: S) k n H Q := W_s (rfl : (pj lw).1 19 14 = some (.iload_n 1, 1, 0)) rfl rfl rfl
theorem w19_15 {x : Nat} : W (pj lw) 19 15 (.val (.ref x) :: L) S k n H Q ↔ W (pj lw) 19 16 (.val (.ref x) :: L) (.ref x :: S) k n H Q := W_s (rfl : (pj lw).1 19 15 = some (.aload_n 0, 1, 0)) rfl rfl rfl
theorem w19_16 {a : Nat} : W (pj lw) 19 16 L (.ref a :: S) k n H Q ↔ (isO H a = true ∧ W (pj lw) 19 19 L (fld H a 8 :: S) k n H Q) := W_getf (rfl : (pj lw).1 19 16 = some (.getfield 19, 3, 8))
theorem w19_19 {x : Int32} {l0 : Slot} : W (pj lw) 19 19 (l0 :: .val (.int x) :: L) S k n H Q ↔ W (pj lw) 19 20 (l0 :: .val (.int x) :: L) (.int x :: S) k n H Q := W_s (rfl : (pj lw).1 19 19 = some (.iload_n 1, 1, 0)) rfl rfl rfl
theorem w19_20 {i : Int32} {a : Nat} : W (pj lw) 19 20 L (.int i :: .ref a :: S) k n H Q ↔ (inA H a .int i = true ∧ W (pj lw) 19 21 L (elt H a i :: S) k n H Q) := W_iaload (rfl : (pj lw).1 19 20 = some (.iaload, 1, 0))
theorem w19_21 {x : Int32} : W (pj lw) 19 21 L (.int x :: S) k n H Q ↔ (if x < 0 then W (pj lw) 19 35 L S k n H Q else W (pj lw) 19 24 L S k n H Q) := W_if_lt (rfl : (pj lw).1 19 21 = some (.ifCond .lt 14, 3, 0)) rfl
theorem w19_24 : W (pj lw) 19 24 L S k n H Q ↔ W (pj lw) 19 25 L (.int 1 :: S) k n H Q := W_s (rfl : (pj lw).1 19 24 = some (.iconst 1, 1, 0)) rfl rfl rfl
theorem w19_25 {x : Nat} : W (pj lw) 19 25 (.val (.ref x) :: L) S k n H Q ↔ W (pj lw) 19 26 (.val (.ref x) :: L) (.ref x :: S) k n H Q := W_s (rfl : (pj lw).1 19 25 = some (.aload_n 0, 1, 0)) rfl rfl rfl
theorem w19_26 {a : Nat} : W (pj lw) 19 26 L (.ref a :: S) k n H Q ↔ (isO H a = true ∧ W (pj lw) 19 29 L (fld H a 8 :: S) k n H Q) := W_getf (rfl : (pj lw).1 19 26 = some (.getfield 19, 3, 8))
theorem w19_29 {x : Int32} {l0 : Slot} : W (pj lw) 19 29 (l0 :: .val (.int x) :: L) S k n H Q ↔ W (pj lw) 19 30 (l0 :: .val (.int x) :: L) (.int x :: S) k n H Q := W_s (rfl : (pj lw).1 19 29 = some (.iload_n 1, 1, 0)) rfl rfl rfl
theorem w19_30 {i : Int32} {a : Nat} : W (pj lw) 19 30 L (.int i :: .ref a :: S) k n H Q ↔ (inA H a .int i = true ∧ W (pj lw) 19 31 L (elt H a i :: S) k n H Q) := W_iaload (rfl : (pj lw).1 19 30 = some (.iaload, 1, 0))
theorem w19_31 {x y : Int32} : W (pj lw) 19 31 L (.int y :: .int x :: S) k n H Q ↔ W (pj lw) 19 32 L (.int (x <<< (y &&& 31)) :: S) k n H Q := W_s (rfl : (pj lw).1 19 31 = some (.ishl, 1, 0)) rfl rfl rfl
theorem w19_32 : W (pj lw) 19 32 L S k n H Q ↔ W (pj lw) 19 39 L S k n H Q := W_goto (rfl : (pj lw).1 19 32 = some (.goto 7, 3, 0)) rfl
theorem w19_35 {x : Nat} : W (pj lw) 19 35 (.val (.ref x) :: L) S k n H Q ↔ W (pj lw) 19 36 (.val (.ref x) :: L) (.ref x :: S) k n H Q := W_s (rfl : (pj lw).1 19 35 = some (.aload_n 0, 1, 0)) rfl rfl rfl
theorem w19_36 {a : Nat} : W (pj lw) 19 36 L (.ref a :: S) k n H Q ↔ (isO H a = true ∧ W (pj lw) 19 39 L (fld H a 2 :: S) k n H Q) := W_getf (rfl : (pj lw).1 19 36 = some (.getfield 88, 3, 2))
theorem w19_39 {x i : Int32} {a : Nat} : W (pj lw) 19 39 L (.int x :: .int i :: .ref a :: S) k n H Q ↔ (inAw H a .int i = true ∧ W (pj lw) 19 40 L S k n (wr H a i.toNatClampNeg (.int x)) Q) := W_iastore (rfl : (pj lw).1 19 39 = some (.iastore, 1, 0))
theorem w19_40 {x : Int32} {l0 : Slot} : W (pj lw) 19 40 (l0 :: .val (.int x) :: L) S k n H Q ↔ W (pj lw) 19 43 (l0 :: .val (.int (x + 1)) :: L) S k n H Q := W_s (rfl : (pj lw).1 19 40 = some (.iinc 1 1, 3, 0)) rfl rfl rfl
theorem w19_43 : W (pj lw) 19 43 L S k n H Q ↔ W (pj lw) 19 2 L S k n H Q := W_goto (rfl : (pj lw).1 19 43 = some (.goto (-41), 3, 0)) rfl
theorem w19_46 : W (pj lw) 19 46 L [] k n H Q ↔ Q none H := W_r (rfl : (pj lw).1 19 46 = some (.return_, 1, 0)) rfl
theorem c20 {x0 : Nat} : Cl (pj lw) 20 [.ref x0] H Q ↔ W (pj lw) 20 0 [.val (.ref x0), .unset, .unset, .unset] [] 0 0 H Q := cl_unf rfl
theorem w20_0 : W (pj lw) 20 0 L S k n H Q ↔ W (pj lw) 20 1 L (.int 0 :: S) k n H Q := W_s (rfl : (pj lw).1 20 0 = some (.iconst 0, 1, 0)) rfl rfl rfl
theorem w20_1 {x : Int32} {l0 : Slot} : W (pj lw) 20 1 (l0 :: .unset :: L) (.int x :: S) k n H Q ↔ W (pj lw) 20 2 (l0 :: .val (.int x) :: L) S k n H Q := W_istn (rfl : (pj lw).1 20 1 = some (.istore_n 1, 1, 0)) rfl rfl
theorem w20_2 {x : Int32} {l0 : Slot} : W (pj lw) 20 2 (l0 :: .val (.int x) :: L) S k n H Q ↔ W (pj lw) 20 3 (l0 :: .val (.int x) :: L) (.int x :: S) k n H Q := W_s (rfl : (pj lw).1 20 2 = some (.iload_n 1, 1, 0)) rfl rfl rfl
theorem w20_3 : W (pj lw) 20 3 L S k n H Q ↔ W (pj lw) 20 6 L (.int 330 :: S) k n H Q := W_s (rfl : (pj lw).1 20 3 = some (.sipush 330, 3, 0)) rfl rfl rfl
theorem w20_6 {x y : Int32} : W (pj lw) 20 6 L (.int y :: .int x :: S) k n H Q ↔ (if x < y then W (pj lw) 20 9 L S k n H Q else W (pj lw) 20 54 L S k n H Q) := W_icmp_ge (rfl : (pj lw).1 20 6 = some (.if_icmp .ge 48, 3, 0)) rfl
theorem w20_9 : W (pj lw) 20 9 L S k n H Q ↔ W (pj lw) 20 10 L (.int 0 :: S) k n H Q := W_s (rfl : (pj lw).1 20 9 = some (.iconst 0, 1, 0)) rfl rfl rfl
theorem w20_10i {y : Int32} {x : Int32} {l0 l1 : Slot} : W (pj lw) 20 10 (l0 :: l1 :: .val (.int y) :: L) (.int x :: S) k n H Q ↔ W (pj lw) 20 11 (l0 :: l1 :: .val (.int x) :: L) S k n H Q := W_istn (rfl : (pj lw).1 20 10 = some (.istore_n 2, 1, 0)) rfl rfl
theorem w20_10 {x : Int32} {l0 l1 : Slot} : W (pj lw) 20 10 (l0 :: l1 :: .unset :: L) (.int x :: S) k n H Q ↔ W (pj lw) 20 11 (l0 :: l1 :: .val (.int x) :: L) S k n H Q := W_istn (rfl : (pj lw).1 20 10 = some (.istore_n 2, 1, 0)) rfl rfl
theorem w20_11 : W (pj lw) 20 11 L S k n H Q ↔ W (pj lw) 20 12 L (.int 1 :: S) k n H Q := W_s (rfl : (pj lw).1 20 11 = some (.iconst 1, 1, 0)) rfl rfl rfl
theorem w20_12i {y : Int32} {x : Int32} {l0 l1 l2 : Slot} : W (pj lw) 20 12 (l0 :: l1 :: l2 :: .val (.int y) :: L) (.int x :: S) k n H Q ↔ W (pj lw) 20 13 (l0 :: l1 :: l2 :: .val (.int x) :: L) S k n H Q := W_istn (rfl : (pj lw).1 20 12 = some (.istore_n 3, 1, 0)) rfl rfl
theorem w20_12 {x : Int32} {l0 l1 l2 : Slot} : W (pj lw) 20 12 (l0 :: l1 :: l2 :: .unset :: L) (.int x :: S) k n H Q ↔ W (pj lw) 20 13 (l0 :: l1 :: l2 :: .val (.int x) :: L) S k n H Q := W_istn (rfl : (pj lw).1 20 12 = some (.istore_n 3, 1, 0)) rfl rfl
theorem w20_13 {x : Int32} {l0 l1 l2 : Slot} : W (pj lw) 20 13 (l0 :: l1 :: l2 :: .val (.int x) :: L) S k n H Q ↔ W (pj lw) 20 14 (l0 :: l1 :: l2 :: .val (.int x) :: L) (.int x :: S) k n H Q := W_s (rfl : (pj lw).1 20 13 = some (.iload_n 3, 1, 0)) rfl rfl rfl
theorem w20_14 {x : Nat} : W (pj lw) 20 14 (.val (.ref x) :: L) S k n H Q ↔ W (pj lw) 20 15 (.val (.ref x) :: L) (.ref x :: S) k n H Q := W_s (rfl : (pj lw).1 20 14 = some (.aload_n 0, 1, 0)) rfl rfl rfl
theorem w20_15 {a : Nat} : W (pj lw) 20 15 L (.ref a :: S) k n H Q ↔ (isO H a = true ∧ W (pj lw) 20 18 L (fld H a 4 :: S) k n H Q) := W_getf (rfl : (pj lw).1 20 15 = some (.getfield 66, 3, 4))
theorem w20_18 {x y : Int32} : W (pj lw) 20 18 L (.int y :: .int x :: S) k n H Q ↔ (if y < x then W (pj lw) 20 43 L S k n H Q else W (pj lw) 20 21 L S k n H Q) := W_icmp_gt (rfl : (pj lw).1 20 18 = some (.if_icmp .gt 25, 3, 0)) rfl
theorem w20_21 {x : Nat} : W (pj lw) 20 21 (.val (.ref x) :: L) S k n H Q ↔ W (pj lw) 20 22 (.val (.ref x) :: L) (.ref x :: S) k n H Q := W_s (rfl : (pj lw).1 20 21 = some (.aload_n 0, 1, 0)) rfl rfl rfl
theorem w20_22 {x : Int32} {l0 l1 l2 : Slot} : W (pj lw) 20 22 (l0 :: l1 :: l2 :: .val (.int x) :: L) S k n H Q ↔ W (pj lw) 20 23 (l0 :: l1 :: l2 :: .val (.int x) :: L) (.int x :: S) k n H Q := W_s (rfl : (pj lw).1 20 22 = some (.iload_n 3, 1, 0)) rfl rfl rfl
theorem w20_23 {a : Nat} {x0 : Int32} : W (pj lw) 20 23 L (.int x0 :: .ref a :: S) k n H Q ↔ ((isO H a = true ∧ cs S + (5 + 11) + 13 ≤ 40) ∧ Cl (pj lw) 22 [.ref a, .int x0] H (fun v H => W (pj lw) 20 26 L (v.toList ++ S) k n H Q)) := W_inst (as := [.int x0]) (rfl : (pj lw).1 20 23 = some (.invokevirtual 117, 3, 22)) rfl rfl rfl (Nat.le_of_ble_eq_true rfl) (Nat.le_of_ble_eq_true rfl) ⟨rfl, rfl⟩
theorem w20_26 {x : Int32} : W (pj lw) 20 26 L (.int x :: S) k n H Q ↔ (if x = 0 then W (pj lw) 20 37 L S k n H Q else W (pj lw) 20 29 L S k n H Q) := W_if_eq (rfl : (pj lw).1 20 26 = some (.ifCond .eq 11, 3, 0)) rfl
theorem w20_29 {x : Int32} {l0 l1 : Slot} : W (pj lw) 20 29 (l0 :: l1 :: .val (.int x) :: L) S k n H Q ↔ W (pj lw) 20 30 (l0 :: l1 :: .val (.int x) :: L) (.int x :: S) k n H Q := W_s (rfl : (pj lw).1 20 29 = some (.iload_n 2, 1, 0)) rfl rfl rfl
theorem w20_30 {x : Nat} : W (pj lw) 20 30 (.val (.ref x) :: L) S k n H Q ↔ W (pj lw) 20 31 (.val (.ref x) :: L) (.ref x :: S) k n H Q := W_s (rfl : (pj lw).1 20 30 = some (.aload_n 0, 1, 0)) rfl rfl rfl
theorem w20_31 {x : Int32} {l0 l1 l2 : Slot} : W (pj lw) 20 31 (l0 :: l1 :: l2 :: .val (.int x) :: L) S k n H Q ↔ W (pj lw) 20 32 (l0 :: l1 :: l2 :: .val (.int x) :: L) (.int x :: S) k n H Q := W_s (rfl : (pj lw).1 20 31 = some (.iload_n 3, 1, 0)) rfl rfl rfl
theorem w20_32 {a : Nat} {x0 : Int32} : W (pj lw) 20 32 L (.int x0 :: .ref a :: S) k n H Q ↔ ((isO H a = true ∧ cs S + (9 + 11) + 19 ≤ 40) ∧ Cl (pj lw) 27 [.ref a, .int x0] H (fun v H => W (pj lw) 20 35 L (v.toList ++ S) k n H Q)) := W_inst (as := [.int x0]) (rfl : (pj lw).1 20 32 = some (.invokevirtual 130, 3, 27)) rfl rfl rfl (Nat.le_of_ble_eq_true rfl) (Nat.le_of_ble_eq_true rfl) ⟨rfl, rfl⟩
theorem w20_35 {x y : Int32} : W (pj lw) 20 35 L (.int y :: .int x :: S) k n H Q ↔ W (pj lw) 20 36 L (.int (x ||| y) :: S) k n H Q := W_s (rfl : (pj lw).1 20 35 = some (.ior, 1, 0)) rfl rfl rfl
theorem w20_36i {y : Int32} {x : Int32} {l0 l1 : Slot} : W (pj lw) 20 36 (l0 :: l1 :: .val (.int y) :: L) (.int x :: S) k n H Q ↔ W (pj lw) 20 37 (l0 :: l1 :: .val (.int x) :: L) S k n H Q := W_istn (rfl : (pj lw).1 20 36 = some (.istore_n 2, 1, 0)) rfl rfl
theorem w20_37 {x : Int32} {l0 l1 l2 : Slot} : W (pj lw) 20 37 (l0 :: l1 :: l2 :: .val (.int x) :: L) S k n H Q ↔ W (pj lw) 20 40 (l0 :: l1 :: l2 :: .val (.int (x + 1)) :: L) S k n H Q := W_s (rfl : (pj lw).1 20 37 = some (.iinc 3 1, 3, 0)) rfl rfl rfl
theorem w20_40 : W (pj lw) 20 40 L S k n H Q ↔ W (pj lw) 20 13 L S k n H Q := W_goto (rfl : (pj lw).1 20 40 = some (.goto (-27), 3, 0)) rfl
theorem w20_43 {x : Int32} {l0 l1 : Slot} : W (pj lw) 20 43 (l0 :: l1 :: .val (.int x) :: L) S k n H Q ↔ W (pj lw) 20 44 (l0 :: l1 :: .val (.int x) :: L) (.int x :: S) k n H Q := W_s (rfl : (pj lw).1 20 43 = some (.iload_n 2, 1, 0)) rfl rfl rfl
theorem w20_44 {x : Int32} : W (pj lw) 20 44 L (.int x :: S) k n H Q ↔ (if x = 0 then W (pj lw) 20 47 L S k n H Q else W (pj lw) 20 48 L S k n H Q) := W_if_ne (rfl : (pj lw).1 20 44 = some (.ifCond .ne 4, 3, 0)) rfl
theorem w20_47 : W (pj lw) 20 47 L [] k n H Q ↔ Q none H := W_r (rfl : (pj lw).1 20 47 = some (.return_, 1, 0)) rfl
theorem w20_48 {x : Int32} {l0 : Slot} : W (pj lw) 20 48 (l0 :: .val (.int x) :: L) S k n H Q ↔ W (pj lw) 20 51 (l0 :: .val (.int (x + 1)) :: L) S k n H Q := W_s (rfl : (pj lw).1 20 48 = some (.iinc 1 1, 3, 0)) rfl rfl rfl
theorem w20_51 : W (pj lw) 20 51 L S k n H Q ↔ W (pj lw) 20 2 L S k n H Q := W_goto (rfl : (pj lw).1 20 51 = some (.goto (-49), 3, 0)) rfl
theorem w20_54 : W (pj lw) 20 54 L [] k n H Q ↔ Q none H := W_r (rfl : (pj lw).1 20 54 = some (.return_, 1, 0)) rfl
theorem c21 {x0 : Nat} : Cl (pj lw) 21 [.ref x0] H Q ↔ W (pj lw) 21 0 [.val (.ref x0), .unset] [] 0 0 H Q := cl_unf rfl
theorem w21_0 : W (pj lw) 21 0 L S k n H Q ↔ W (pj lw) 21 1 L (.int 1 :: S) k n H Q := W_s (rfl : (pj lw).1 21 0 = some (.iconst 1, 1, 0)) rfl rfl rfl
theorem w21_1 {x : Int32} {l0 : Slot} : W (pj lw) 21 1 (l0 :: .unset :: L) (.int x :: S) k n H Q ↔ W (pj lw) 21 2 (l0 :: .val (.int x) :: L) S k n H Q := W_istn (rfl : (pj lw).1 21 1 = some (.istore_n 1, 1, 0)) rfl rfl
theorem w21_2 {x : Int32} {l0 : Slot} : W (pj lw) 21 2 (l0 :: .val (.int x) :: L) S k n H Q ↔ W (pj lw) 21 3 (l0 :: .val (.int x) :: L) (.int x :: S) k n H Q := W_s (rfl : (pj lw).1 21 2 = some (.iload_n 1, 1, 0)) rfl rfl rfl
theorem w21_3 {x : Nat} : W (pj lw) 21 3 (.val (.ref x) :: L) S k n H Q ↔ W (pj lw) 21 4 (.val (.ref x) :: L) (.ref x :: S) k n H Q := W_s (rfl : (pj lw).1 21 3 = some (.aload_n 0, 1, 0)) rfl rfl rfl
theorem w21_4 {a : Nat} : W (pj lw) 21 4 L (.ref a :: S) k n H Q ↔ (isO H a = true ∧ W (pj lw) 21 7 L (fld H a 4 :: S) k n H Q) := W_getf (rfl : (pj lw).1 21 4 = some (.getfield 66, 3, 4))
theorem w21_7 {x y : Int32} : W (pj lw) 21 7 L (.int y :: .int x :: S) k n H Q ↔ (if y < x then W (pj lw) 21 27 L S k n H Q else W (pj lw) 21 10 L S k n H Q) := W_icmp_gt (rfl : (pj lw).1 21 7 = some (.if_icmp .gt 20, 3, 0)) rfl
theorem w21_10 {x : Nat} : W (pj lw) 21 10 (.val (.ref x) :: L) S k n H Q ↔ W (pj lw) 21 11 (.val (.ref x) :: L) (.ref x :: S) k n H Q := W_s (rfl : (pj lw).1 21 10 = some (.aload_n 0, 1, 0)) rfl rfl rfl
theorem w21_11 {a : Nat} : W (pj lw) 21 11 L (.ref a :: S) k n H Q ↔ (isO H a = true ∧ W (pj lw) 21 14 L (fld H a 11 :: S) k n H Q) := W_getf (rfl : (pj lw).1 21 11 = some (.getfield 28, 3, 11))
theorem w21_14 {x : Int32} {l0 : Slot} : W (pj lw) 21 14 (l0 :: .val (.int x) :: L) S k n H Q ↔ W (pj lw) 21 15 (l0 :: .val (.int x) :: L) (.int x :: S) k n H Q := W_s (rfl : (pj lw).1 21 14 = some (.iload_n 1, 1, 0)) rfl rfl rfl
theorem w21_15 {i : Int32} {a : Nat} : W (pj lw) 21 15 L (.int i :: .ref a :: S) k n H Q ↔ (inA H a .int i = true ∧ W (pj lw) 21 16 L (elt H a i :: S) k n H Q) := W_iaload (rfl : (pj lw).1 21 15 = some (.iaload, 1, 0))
theorem w21_16 {x : Int32} : W (pj lw) 21 16 L (.int x :: S) k n H Q ↔ (if x = 0 then W (pj lw) 21 19 L S k n H Q else W (pj lw) 21 21 L S k n H Q) := W_if_ne (rfl : (pj lw).1 21 16 = some (.ifCond .ne 5, 3, 0)) rfl
theorem w21_19 : W (pj lw) 21 19 L S k n H Q ↔ W (pj lw) 21 20 L (.int 1 :: S) k n H Q := W_s (rfl : (pj lw).1 21 19 = some (.iconst 1, 1, 0)) rfl rfl rfl
theorem w21_20 {x : Int32} : W (pj lw) 21 20 L (.int x :: S) k n H Q ↔ ((x = 0 ∨ x = 1) ∧ Q (some (.int x)) H) := W_rz (rfl : (pj lw).1 21 20 = some (.ireturn, 1, 0)) rfl
theorem w21_21 {x : Int32} {l0 : Slot} : W (pj lw) 21 21 (l0 :: .val (.int x) :: L) S k n H Q ↔ W (pj lw) 21 24 (l0 :: .val (.int (x + 1)) :: L) S k n H Q := W_s (rfl : (pj lw).1 21 21 = some (.iinc 1 1, 3, 0)) rfl rfl rfl
theorem w21_24 : W (pj lw) 21 24 L S k n H Q ↔ W (pj lw) 21 2 L S k n H Q := W_goto (rfl : (pj lw).1 21 24 = some (.goto (-22), 3, 0)) rfl
theorem w21_27 : W (pj lw) 21 27 L S k n H Q ↔ W (pj lw) 21 28 L (.int 0 :: S) k n H Q := W_s (rfl : (pj lw).1 21 27 = some (.iconst 0, 1, 0)) rfl rfl rfl
theorem w21_28 {x : Int32} : W (pj lw) 21 28 L (.int x :: S) k n H Q ↔ ((x = 0 ∨ x = 1) ∧ Q (some (.int x)) H) := W_rz (rfl : (pj lw).1 21 28 = some (.ireturn, 1, 0)) rfl
theorem c22 {x0 : Nat} {x1 : Int32} : Cl (pj lw) 22 [.ref x0, .int x1] H Q ↔ W (pj lw) 22 0 [.val (.ref x0), .val (.int x1), .unset, .unset, .unset] [] 0 0 H Q := cl_unf rfl
theorem w22_0 {x : Nat} : W (pj lw) 22 0 (.val (.ref x) :: L) S k n H Q ↔ W (pj lw) 22 1 (.val (.ref x) :: L) (.ref x :: S) k n H Q := W_s (rfl : (pj lw).1 22 0 = some (.aload_n 0, 1, 0)) rfl rfl rfl
theorem w22_1 {x : Int32} {l0 : Slot} : W (pj lw) 22 1 (l0 :: .val (.int x) :: L) S k n H Q ↔ W (pj lw) 22 2 (l0 :: .val (.int x) :: L) (.int x :: S) k n H Q := W_s (rfl : (pj lw).1 22 1 = some (.iload_n 1, 1, 0)) rfl rfl rfl
theorem w22_2 {a : Nat} {x0 : Int32} : W (pj lw) 22 2 L (.int x0 :: .ref a :: S) k n H Q ↔ ((isO H a = true ∧ cs S + (2 + 11) + 0 ≤ 13) ∧ Cl (pj lw) 7 [.ref a, .int x0] H (fun v H => W (pj lw) 22 5 L (v.toList ++ S) k n H Q)) := W_inst (as := [.int x0]) (rfl : (pj lw).1 22 2 = some (.invokevirtual 99, 3, 7)) rfl rfl rfl (Nat.le_of_ble_eq_true rfl) (Nat.le_of_ble_eq_true rfl) ⟨rfl, rfl⟩
theorem w22_5 {x : Int32} : W (pj lw) 22 5 L (.int x :: S) k n H Q ↔ (if x = 0 then W (pj lw) 22 17 L S k n H Q else W (pj lw) 22 8 L S k n H Q) := W_if_eq (rfl : (pj lw).1 22 5 = some (.ifCond .eq 12, 3, 0)) rfl
theorem w22_8 {x : Nat} : W (pj lw) 22 8 (.val (.ref x) :: L) S k n H Q ↔ W (pj lw) 22 9 (.val (.ref x) :: L) (.ref x :: S) k n H Q := W_s (rfl : (pj lw).1 22 8 = some (.aload_n 0, 1, 0)) rfl rfl rfl
theorem w22_9 {a : Nat} : W (pj lw) 22 9 L (.ref a :: S) k n H Q ↔ (isO H a = true ∧ W (pj lw) 22 12 L (fld H a 6 :: S) k n H Q) := W_getf (rfl : (pj lw).1 22 9 = some (.getfield 13, 3, 6))
theorem w22_12 {x : Int32} {l0 : Slot} : W (pj lw) 22 12 (l0 :: .val (.int x) :: L) S k n H Q ↔ W (pj lw) 22 13 (l0 :: .val (.int x) :: L) (.int x :: S) k n H Q := W_s (rfl : (pj lw).1 22 12 = some (.iload_n 1, 1, 0)) rfl rfl rfl
theorem w22_13 {i : Int32} {a : Nat} : W (pj lw) 22 13 L (.int i :: .ref a :: S) k n H Q ↔ (inA H a .int i = true ∧ W (pj lw) 22 14 L (elt H a i :: S) k n H Q) := W_iaload (rfl : (pj lw).1 22 13 = some (.iaload, 1, 0))
theorem w22_14 {x : Int32} : W (pj lw) 22 14 L (.int x :: S) k n H Q ↔ (if x = 0 then W (pj lw) 22 17 L S k n H Q else W (pj lw) 22 19 L S k n H Q) := W_if_ne (rfl : (pj lw).1 22 14 = some (.ifCond .ne 5, 3, 0)) rfl
theorem w22_17 : W (pj lw) 22 17 L S k n H Q ↔ W (pj lw) 22 18 L (.int 0 :: S) k n H Q := W_s (rfl : (pj lw).1 22 17 = some (.iconst 0, 1, 0)) rfl rfl rfl
theorem w22_18 {x : Int32} : W (pj lw) 22 18 L (.int x :: S) k n H Q ↔ ((x = 0 ∨ x = 1) ∧ Q (some (.int x)) H) := W_rz (rfl : (pj lw).1 22 18 = some (.ireturn, 1, 0)) rfl
theorem w22_19 {x : Nat} : W (pj lw) 22 19 (.val (.ref x) :: L) S k n H Q ↔ W (pj lw) 22 20 (.val (.ref x) :: L) (.ref x :: S) k n H Q := W_s (rfl : (pj lw).1 22 19 = some (.aload_n 0, 1, 0)) rfl rfl rfl
theorem w22_20 {a : Nat} : W (pj lw) 22 20 L (.ref a :: S) k n H Q ↔ (isO H a = true ∧ W (pj lw) 22 23 L (fld H a 6 :: S) k n H Q) := W_getf (rfl : (pj lw).1 22 20 = some (.getfield 13, 3, 6))
theorem w22_23 {x : Int32} {l0 : Slot} : W (pj lw) 22 23 (l0 :: .val (.int x) :: L) S k n H Q ↔ W (pj lw) 22 24 (l0 :: .val (.int x) :: L) (.int x :: S) k n H Q := W_s (rfl : (pj lw).1 22 23 = some (.iload_n 1, 1, 0)) rfl rfl rfl
theorem w22_24 {i : Int32} {a : Nat} : W (pj lw) 22 24 L (.int i :: .ref a :: S) k n H Q ↔ (inA H a .int i = true ∧ W (pj lw) 22 25 L (elt H a i :: S) k n H Q) := W_iaload (rfl : (pj lw).1 22 24 = some (.iaload, 1, 0))
theorem w22_25 {x : Int32} {l0 l1 : Slot} : W (pj lw) 22 25 (l0 :: l1 :: .unset :: L) (.int x :: S) k n H Q ↔ W (pj lw) 22 26 (l0 :: l1 :: .val (.int x) :: L) S k n H Q := W_istn (rfl : (pj lw).1 22 25 = some (.istore_n 2, 1, 0)) rfl rfl
theorem w22_26 {x : Nat} : W (pj lw) 22 26 (.val (.ref x) :: L) S k n H Q ↔ W (pj lw) 22 27 (.val (.ref x) :: L) (.ref x :: S) k n H Q := W_s (rfl : (pj lw).1 22 26 = some (.aload_n 0, 1, 0)) rfl rfl rfl
theorem w22_27 {a : Nat} : W (pj lw) 22 27 L (.ref a :: S) k n H Q ↔ (isO H a = true ∧ W (pj lw) 22 30 L (fld H a 7 :: S) k n H Q) := W_getf (rfl : (pj lw).1 22 27 = some (.getfield 16, 3, 7))
theorem w22_30 {x : Int32} {l0 : Slot} : W (pj lw) 22 30 (l0 :: .val (.int x) :: L) S k n H Q ↔ W (pj lw) 22 31 (l0 :: .val (.int x) :: L) (.int x :: S) k n H Q := W_s (rfl : (pj lw).1 22 30 = some (.iload_n 1, 1, 0)) rfl rfl rfl
theorem w22_31 {i : Int32} {a : Nat} : W (pj lw) 22 31 L (.int i :: .ref a :: S) k n H Q ↔ (inA H a .int i = true ∧ W (pj lw) 22 32 L (elt H a i :: S) k n H Q) := W_iaload (rfl : (pj lw).1 22 31 = some (.iaload, 1, 0))
theorem w22_32 {x : Int32} {l0 l1 l2 : Slot} : W (pj lw) 22 32 (l0 :: l1 :: l2 :: .unset :: L) (.int x :: S) k n H Q ↔ W (pj lw) 22 33 (l0 :: l1 :: l2 :: .val (.int x) :: L) S k n H Q := W_istn (rfl : (pj lw).1 22 32 = some (.istore_n 3, 1, 0)) rfl rfl
theorem w22_33 : W (pj lw) 22 33 L S k n H Q ↔ W (pj lw) 22 34 L (.int 1 :: S) k n H Q := W_s (rfl : (pj lw).1 22 33 = some (.iconst 1, 1, 0)) rfl rfl rfl
theorem w22_34 {x : Int32} {l0 l1 l2 l3 : Slot} : W (pj lw) 22 34 (l0 :: l1 :: l2 :: l3 :: .unset :: L) (.int x :: S) k n H Q ↔ W (pj lw) 22 36 (l0 :: l1 :: l2 :: l3 :: .val (.int x) :: L) S k n H Q := W_ist (rfl : (pj lw).1 22 34 = some (.istore 4, 2, 0)) rfl rfl
theorem w22_36 {x : Int32} {l0 l1 l2 l3 : Slot} : W (pj lw) 22 36 (l0 :: l1 :: l2 :: l3 :: .val (.int x) :: L) S k n H Q ↔ W (pj lw) 22 38 (l0 :: l1 :: l2 :: l3 :: .val (.int x) :: L) (.int x :: S) k n H Q := W_s (rfl : (pj lw).1 22 36 = some (.iload 4, 2, 0)) rfl rfl rfl
theorem w22_38 {x : Int32} {l0 : Slot} : W (pj lw) 22 38 (l0 :: .val (.int x) :: L) S k n H Q ↔ W (pj lw) 22 39 (l0 :: .val (.int x) :: L) (.int x :: S) k n H Q := W_s (rfl : (pj lw).1 22 38 = some (.iload_n 1, 1, 0)) rfl rfl rfl
theorem w22_39 {x y : Int32} : W (pj lw) 22 39 L (.int y :: .int x :: S) k n H Q ↔ (if x < y then W (pj lw) 22 42 L S k n H Q else W (pj lw) 22 72 L S k n H Q) := W_icmp_ge (rfl : (pj lw).1 22 39 = some (.if_icmp .ge 33, 3, 0)) rfl
theorem w22_42 {x : Nat} : W (pj lw) 22 42 (.val (.ref x) :: L) S k n H Q ↔ W (pj lw) 22 43 (.val (.ref x) :: L) (.ref x :: S) k n H Q := W_s (rfl : (pj lw).1 22 42 = some (.aload_n 0, 1, 0)) rfl rfl rfl
theorem w22_43 {a : Nat} : W (pj lw) 22 43 L (.ref a :: S) k n H Q ↔ (isO H a = true ∧ W (pj lw) 22 46 L (fld H a 6 :: S) k n H Q) := W_getf (rfl : (pj lw).1 22 43 = some (.getfield 13, 3, 6))
theorem w22_46 {x : Int32} {l0 l1 l2 l3 : Slot} : W (pj lw) 22 46 (l0 :: l1 :: l2 :: l3 :: .val (.int x) :: L) S k n H Q ↔ W (pj lw) 22 48 (l0 :: l1 :: l2 :: l3 :: .val (.int x) :: L) (.int x :: S) k n H Q := W_s (rfl : (pj lw).1 22 46 = some (.iload 4, 2, 0)) rfl rfl rfl
theorem w22_48 {i : Int32} {a : Nat} : W (pj lw) 22 48 L (.int i :: .ref a :: S) k n H Q ↔ (inA H a .int i = true ∧ W (pj lw) 22 49 L (elt H a i :: S) k n H Q) := W_iaload (rfl : (pj lw).1 22 48 = some (.iaload, 1, 0))
theorem w22_49 {x : Int32} {l0 l1 : Slot} : W (pj lw) 22 49 (l0 :: l1 :: .val (.int x) :: L) S k n H Q ↔ W (pj lw) 22 50 (l0 :: l1 :: .val (.int x) :: L) (.int x :: S) k n H Q := W_s (rfl : (pj lw).1 22 49 = some (.iload_n 2, 1, 0)) rfl rfl rfl
theorem w22_50 {x y : Int32} : W (pj lw) 22 50 L (.int y :: .int x :: S) k n H Q ↔ (if x = y then W (pj lw) 22 53 L S k n H Q else W (pj lw) 22 66 L S k n H Q) := W_icmp_ne (rfl : (pj lw).1 22 50 = some (.if_icmp .ne 16, 3, 0)) rfl
theorem w22_53 {x : Nat} : W (pj lw) 22 53 (.val (.ref x) :: L) S k n H Q ↔ W (pj lw) 22 54 (.val (.ref x) :: L) (.ref x :: S) k n H Q := W_s (rfl : (pj lw).1 22 53 = some (.aload_n 0, 1, 0)) rfl rfl rfl
theorem w22_54 {a : Nat} : W (pj lw) 22 54 L (.ref a :: S) k n H Q ↔ (isO H a = true ∧ W (pj lw) 22 57 L (fld H a 7 :: S) k n H Q) := W_getf (rfl : (pj lw).1 22 54 = some (.getfield 16, 3, 7))
theorem w22_57 {x : Int32} {l0 l1 l2 l3 : Slot} : W (pj lw) 22 57 (l0 :: l1 :: l2 :: l3 :: .val (.int x) :: L) S k n H Q ↔ W (pj lw) 22 59 (l0 :: l1 :: l2 :: l3 :: .val (.int x) :: L) (.int x :: S) k n H Q := W_s (rfl : (pj lw).1 22 57 = some (.iload 4, 2, 0)) rfl rfl rfl
theorem w22_59 {i : Int32} {a : Nat} : W (pj lw) 22 59 L (.int i :: .ref a :: S) k n H Q ↔ (inA H a .int i = true ∧ W (pj lw) 22 60 L (elt H a i :: S) k n H Q) := W_iaload (rfl : (pj lw).1 22 59 = some (.iaload, 1, 0))
theorem w22_60 {x : Int32} {l0 l1 l2 : Slot} : W (pj lw) 22 60 (l0 :: l1 :: l2 :: .val (.int x) :: L) S k n H Q ↔ W (pj lw) 22 61 (l0 :: l1 :: l2 :: .val (.int x) :: L) (.int x :: S) k n H Q := W_s (rfl : (pj lw).1 22 60 = some (.iload_n 3, 1, 0)) rfl rfl rfl
theorem w22_61 {x y : Int32} : W (pj lw) 22 61 L (.int y :: .int x :: S) k n H Q ↔ (if x = y then W (pj lw) 22 64 L S k n H Q else W (pj lw) 22 66 L S k n H Q) := W_icmp_ne (rfl : (pj lw).1 22 61 = some (.if_icmp .ne 5, 3, 0)) rfl
theorem w22_64 : W (pj lw) 22 64 L S k n H Q ↔ W (pj lw) 22 65 L (.int 0 :: S) k n H Q := W_s (rfl : (pj lw).1 22 64 = some (.iconst 0, 1, 0)) rfl rfl rfl
theorem w22_65 {x : Int32} : W (pj lw) 22 65 L (.int x :: S) k n H Q ↔ ((x = 0 ∨ x = 1) ∧ Q (some (.int x)) H) := W_rz (rfl : (pj lw).1 22 65 = some (.ireturn, 1, 0)) rfl
theorem w22_66 {x : Int32} {l0 l1 l2 l3 : Slot} : W (pj lw) 22 66 (l0 :: l1 :: l2 :: l3 :: .val (.int x) :: L) S k n H Q ↔ W (pj lw) 22 69 (l0 :: l1 :: l2 :: l3 :: .val (.int (x + 1)) :: L) S k n H Q := W_s (rfl : (pj lw).1 22 66 = some (.iinc 4 1, 3, 0)) rfl rfl rfl
theorem w22_69 : W (pj lw) 22 69 L S k n H Q ↔ W (pj lw) 22 36 L S k n H Q := W_goto (rfl : (pj lw).1 22 69 = some (.goto (-33), 3, 0)) rfl
theorem w22_72 : W (pj lw) 22 72 L S k n H Q ↔ W (pj lw) 22 73 L (.int 1 :: S) k n H Q := W_s (rfl : (pj lw).1 22 72 = some (.iconst 1, 1, 0)) rfl rfl rfl
theorem w22_73 {x : Int32} : W (pj lw) 22 73 L (.int x :: S) k n H Q ↔ ((x = 0 ∨ x = 1) ∧ Q (some (.int x)) H) := W_rz (rfl : (pj lw).1 22 73 = some (.ireturn, 1, 0)) rfl
theorem c23 {x0 : Nat} {x1 : Int32} : Cl (pj lw) 23 [.ref x0, .int x1] H Q ↔ W (pj lw) 23 0 [.val (.ref x0), .val (.int x1), .unset, .unset, .unset] [] 0 0 H Q := cl_unf rfl
theorem w23_0 {x : Nat} : W (pj lw) 23 0 (.val (.ref x) :: L) S k n H Q ↔ W (pj lw) 23 1 (.val (.ref x) :: L) (.ref x :: S) k n H Q := W_s (rfl : (pj lw).1 23 0 = some (.aload_n 0, 1, 0)) rfl rfl rfl
theorem w23_1 : W (pj lw) 23 1 L S k n H Q ↔ W (pj lw) 23 2 L (.int 0 :: S) k n H Q := W_s (rfl : (pj lw).1 23 1 = some (.iconst 0, 1, 0)) rfl rfl rfl
theorem w23_2 {a : Nat} {v : Value} : W (pj lw) 23 2 L (v :: .ref a :: S) k n H Q ↔ ((isOw H a = true ∧ okv (.int) v = true) ∧ W (pj lw) 23 5 L S k n (wr H a 22 v) Q) := W_putf (rfl : (pj lw).1 23 2 = some (.putfield 82, 3, 22))
theorem w23_5 {x : Nat} : W (pj lw) 23 5 (.val (.ref x) :: L) S k n H Q ↔ W (pj lw) 23 6 (.val (.ref x) :: L) (.ref x :: S) k n H Q := W_s (rfl : (pj lw).1 23 5 = some (.aload_n 0, 1, 0)) rfl rfl rfl
theorem w23_6 {a : Nat} : W (pj lw) 23 6 L (.ref a :: S) k n H Q ↔ (isO H a = true ∧ W (pj lw) 23 9 L (fld H a 6 :: S) k n H Q) := W_getf (rfl : (pj lw).1 23 6 = some (.getfield 13, 3, 6))
theorem w23_9 {x : Int32} {l0 : Slot} : W (pj lw) 23 9 (l0 :: .val (.int x) :: L) S k n H Q ↔ W (pj lw) 23 10 (l0 :: .val (.int x) :: L) (.int x :: S) k n H Q := W_s (rfl : (pj lw).1 23 9 = some (.iload_n 1, 1, 0)) rfl rfl rfl
theorem w23_10 {i : Int32} {a : Nat} : W (pj lw) 23 10 L (.int i :: .ref a :: S) k n H Q ↔ (inA H a .int i = true ∧ W (pj lw) 23 11 L (elt H a i :: S) k n H Q) := W_iaload (rfl : (pj lw).1 23 10 = some (.iaload, 1, 0))
theorem w23_11 {x : Int32} {l0 l1 : Slot} : W (pj lw) 23 11 (l0 :: l1 :: .unset :: L) (.int x :: S) k n H Q ↔ W (pj lw) 23 12 (l0 :: l1 :: .val (.int x) :: L) S k n H Q := W_istn (rfl : (pj lw).1 23 11 = some (.istore_n 2, 1, 0)) rfl rfl
theorem w23_12 {x : Nat} : W (pj lw) 23 12 (.val (.ref x) :: L) S k n H Q ↔ W (pj lw) 23 13 (.val (.ref x) :: L) (.ref x :: S) k n H Q := W_s (rfl : (pj lw).1 23 12 = some (.aload_n 0, 1, 0)) rfl rfl rfl
theorem w23_13 {a : Nat} : W (pj lw) 23 13 L (.ref a :: S) k n H Q ↔ (isO H a = true ∧ W (pj lw) 23 16 L (fld H a 7 :: S) k n H Q) := W_getf (rfl : (pj lw).1 23 13 = some (.getfield 16, 3, 7))
theorem w23_16 {x : Int32} {l0 : Slot} : W (pj lw) 23 16 (l0 :: .val (.int x) :: L) S k n H Q ↔ W (pj lw) 23 17 (l0 :: .val (.int x) :: L) (.int x :: S) k n H Q := W_s (rfl : (pj lw).1 23 16 = some (.iload_n 1, 1, 0)) rfl rfl rfl
theorem w23_17 {i : Int32} {a : Nat} : W (pj lw) 23 17 L (.int i :: .ref a :: S) k n H Q ↔ (inA H a .int i = true ∧ W (pj lw) 23 18 L (elt H a i :: S) k n H Q) := W_iaload (rfl : (pj lw).1 23 17 = some (.iaload, 1, 0))
theorem w23_18 {x : Int32} {l0 l1 l2 : Slot} : W (pj lw) 23 18 (l0 :: l1 :: l2 :: .unset :: L) (.int x :: S) k n H Q ↔ W (pj lw) 23 19 (l0 :: l1 :: l2 :: .val (.int x) :: L) S k n H Q := W_istn (rfl : (pj lw).1 23 18 = some (.istore_n 3, 1, 0)) rfl rfl
theorem w23_19 {x : Int32} {l0 : Slot} : W (pj lw) 23 19 (l0 :: .val (.int x) :: L) S k n H Q ↔ W (pj lw) 23 20 (l0 :: .val (.int x) :: L) (.int x :: S) k n H Q := W_s (rfl : (pj lw).1 23 19 = some (.iload_n 1, 1, 0)) rfl rfl rfl
theorem w23_20 {x : Int32} {l0 l1 l2 l3 : Slot} : W (pj lw) 23 20 (l0 :: l1 :: l2 :: l3 :: .unset :: L) (.int x :: S) k n H Q ↔ W (pj lw) 23 22 (l0 :: l1 :: l2 :: l3 :: .val (.int x) :: L) S k n H Q := W_ist (rfl : (pj lw).1 23 20 = some (.istore 4, 2, 0)) rfl rfl
theorem w23_22 {x : Int32} {l0 l1 l2 l3 : Slot} : W (pj lw) 23 22 (l0 :: l1 :: l2 :: l3 :: .val (.int x) :: L) S k n H Q ↔ W (pj lw) 23 24 (l0 :: l1 :: l2 :: l3 :: .val (.int x) :: L) (.int x :: S) k n H Q := W_s (rfl : (pj lw).1 23 22 = some (.iload 4, 2, 0)) rfl rfl rfl
theorem w23_24 {x : Nat} : W (pj lw) 23 24 (.val (.ref x) :: L) S k n H Q ↔ W (pj lw) 23 25 (.val (.ref x) :: L) (.ref x :: S) k n H Q := W_s (rfl : (pj lw).1 23 24 = some (.aload_n 0, 1, 0)) rfl rfl rfl
theorem w23_25 {a : Nat} : W (pj lw) 23 25 L (.ref a :: S) k n H Q ↔ (isO H a = true ∧ W (pj lw) 23 28 L (fld H a 4 :: S) k n H Q) := W_getf (rfl : (pj lw).1 23 25 = some (.getfield 66, 3, 4))
theorem w23_28 {x y : Int32} : W (pj lw) 23 28 L (.int y :: .int x :: S) k n H Q ↔ (if y < x then W (pj lw) 23 89 L S k n H Q else W (pj lw) 23 31 L S k n H Q) := W_icmp_gt (rfl : (pj lw).1 23 28 = some (.if_icmp .gt 61, 3, 0)) rfl
theorem w23_31 {x : Nat} : W (pj lw) 23 31 (.val (.ref x) :: L) S k n H Q ↔ W (pj lw) 23 32 (.val (.ref x) :: L) (.ref x :: S) k n H Q := W_s (rfl : (pj lw).1 23 31 = some (.aload_n 0, 1, 0)) rfl rfl rfl
theorem w23_32 {a : Nat} : W (pj lw) 23 32 L (.ref a :: S) k n H Q ↔ (isO H a = true ∧ W (pj lw) 23 35 L (fld H a 6 :: S) k n H Q) := W_getf (rfl : (pj lw).1 23 32 = some (.getfield 13, 3, 6))
theorem w23_35 {x : Int32} {l0 l1 l2 l3 : Slot} : W (pj lw) 23 35 (l0 :: l1 :: l2 :: l3 :: .val (.int x) :: L) S k n H Q ↔ W (pj lw) 23 37 (l0 :: l1 :: l2 :: l3 :: .val (.int x) :: L) (.int x :: S) k n H Q := W_s (rfl : (pj lw).1 23 35 = some (.iload 4, 2, 0)) rfl rfl rfl
theorem w23_37 {i : Int32} {a : Nat} : W (pj lw) 23 37 L (.int i :: .ref a :: S) k n H Q ↔ (inA H a .int i = true ∧ W (pj lw) 23 38 L (elt H a i :: S) k n H Q) := W_iaload (rfl : (pj lw).1 23 37 = some (.iaload, 1, 0))
theorem w23_38 {x : Int32} {l0 l1 : Slot} : W (pj lw) 23 38 (l0 :: l1 :: .val (.int x) :: L) S k n H Q ↔ W (pj lw) 23 39 (l0 :: l1 :: .val (.int x) :: L) (.int x :: S) k n H Q := W_s (rfl : (pj lw).1 23 38 = some (.iload_n 2, 1, 0)) rfl rfl rfl
theorem w23_39 {x y : Int32} : W (pj lw) 23 39 L (.int y :: .int x :: S) k n H Q ↔ (if x = y then W (pj lw) 23 42 L S k n H Q else W (pj lw) 23 83 L S k n H Q) := W_icmp_ne (rfl : (pj lw).1 23 39 = some (.if_icmp .ne 44, 3, 0)) rfl
theorem w23_42 {x : Nat} : W (pj lw) 23 42 (.val (.ref x) :: L) S k n H Q ↔ W (pj lw) 23 43 (.val (.ref x) :: L) (.ref x :: S) k n H Q := W_s (rfl : (pj lw).1 23 42 = some (.aload_n 0, 1, 0)) rfl rfl rfl
theorem w23_43 {a : Nat} : W (pj lw) 23 43 L (.ref a :: S) k n H Q ↔ (isO H a = true ∧ W (pj lw) 23 46 L (fld H a 7 :: S) k n H Q) := W_getf (rfl : (pj lw).1 23 43 = some (.getfield 16, 3, 7))
theorem w23_46 {x : Int32} {l0 l1 l2 l3 : Slot} : W (pj lw) 23 46 (l0 :: l1 :: l2 :: l3 :: .val (.int x) :: L) S k n H Q ↔ W (pj lw) 23 48 (l0 :: l1 :: l2 :: l3 :: .val (.int x) :: L) (.int x :: S) k n H Q := W_s (rfl : (pj lw).1 23 46 = some (.iload 4, 2, 0)) rfl rfl rfl
theorem w23_48 {i : Int32} {a : Nat} : W (pj lw) 23 48 L (.int i :: .ref a :: S) k n H Q ↔ (inA H a .int i = true ∧ W (pj lw) 23 49 L (elt H a i :: S) k n H Q) := W_iaload (rfl : (pj lw).1 23 48 = some (.iaload, 1, 0))
theorem w23_49 {x : Int32} {l0 l1 l2 : Slot} : W (pj lw) 23 49 (l0 :: l1 :: l2 :: .val (.int x) :: L) S k n H Q ↔ W (pj lw) 23 50 (l0 :: l1 :: l2 :: .val (.int x) :: L) (.int x :: S) k n H Q := W_s (rfl : (pj lw).1 23 49 = some (.iload_n 3, 1, 0)) rfl rfl rfl
theorem w23_50 {x y : Int32} : W (pj lw) 23 50 L (.int y :: .int x :: S) k n H Q ↔ (if x = y then W (pj lw) 23 53 L S k n H Q else W (pj lw) 23 83 L S k n H Q) := W_icmp_ne (rfl : (pj lw).1 23 50 = some (.if_icmp .ne 33, 3, 0)) rfl
theorem w23_53 {x : Nat} : W (pj lw) 23 53 (.val (.ref x) :: L) S k n H Q ↔ W (pj lw) 23 54 (.val (.ref x) :: L) (.ref x :: S) k n H Q := W_s (rfl : (pj lw).1 23 53 = some (.aload_n 0, 1, 0)) rfl rfl rfl
theorem w23_54 {a : Nat} : W (pj lw) 23 54 L (.ref a :: S) k n H Q ↔ (isO H a = true ∧ W (pj lw) 23 57 L (fld H a 22 :: S) k n H Q) := W_getf (rfl : (pj lw).1 23 54 = some (.getfield 82, 3, 22))
theorem w23_57 : W (pj lw) 23 57 L S k n H Q ↔ W (pj lw) 23 59 L (.int 32 :: S) k n H Q := W_s (rfl : (pj lw).1 23 57 = some (.bipush 32, 2, 0)) rfl rfl rfl
theorem w23_59 {x y : Int32} : W (pj lw) 23 59 L (.int y :: .int x :: S) k n H Q ↔ (if x < y then W (pj lw) 23 62 L S k n H Q else W (pj lw) 23 83 L S k n H Q) := W_icmp_ge (rfl : (pj lw).1 23 59 = some (.if_icmp .ge 24, 3, 0)) rfl
theorem w23_62 {x : Nat} : W (pj lw) 23 62 (.val (.ref x) :: L) S k n H Q ↔ W (pj lw) 23 63 (.val (.ref x) :: L) (.ref x :: S) k n H Q := W_s (rfl : (pj lw).1 23 62 = some (.aload_n 0, 1, 0)) rfl rfl rfl
theorem w23_63 {a : Nat} : W (pj lw) 23 63 L (.ref a :: S) k n H Q ↔ (isO H a = true ∧ W (pj lw) 23 66 L (fld H a 20 :: S) k n H Q) := W_getf (rfl : (pj lw).1 23 63 = some (.getfield 43, 3, 20))
theorem w23_66 {x : Nat} : W (pj lw) 23 66 (.val (.ref x) :: L) S k n H Q ↔ W (pj lw) 23 67 (.val (.ref x) :: L) (.ref x :: S) k n H Q := W_s (rfl : (pj lw).1 23 66 = some (.aload_n 0, 1, 0)) rfl rfl rfl
theorem w23_67 {a : Nat} : W (pj lw) 23 67 L (.ref a :: S) k n H Q ↔ (isO H a = true ∧ W (pj lw) 23 70 L (fld H a 22 :: S) k n H Q) := W_getf (rfl : (pj lw).1 23 67 = some (.getfield 82, 3, 22))
theorem w23_70 {x : Int32} {l0 l1 l2 l3 : Slot} : W (pj lw) 23 70 (l0 :: l1 :: l2 :: l3 :: .val (.int x) :: L) S k n H Q ↔ W (pj lw) 23 72 (l0 :: l1 :: l2 :: l3 :: .val (.int x) :: L) (.int x :: S) k n H Q := W_s (rfl : (pj lw).1 23 70 = some (.iload 4, 2, 0)) rfl rfl rfl
theorem w23_72 {x i : Int32} {a : Nat} : W (pj lw) 23 72 L (.int x :: .int i :: .ref a :: S) k n H Q ↔ (inAw H a .int i = true ∧ W (pj lw) 23 73 L S k n (wr H a i.toNatClampNeg (.int x)) Q) := W_iastore (rfl : (pj lw).1 23 72 = some (.iastore, 1, 0))
theorem w23_73 {x : Nat} : W (pj lw) 23 73 (.val (.ref x) :: L) S k n H Q ↔ W (pj lw) 23 74 (.val (.ref x) :: L) (.ref x :: S) k n H Q := W_s (rfl : (pj lw).1 23 73 = some (.aload_n 0, 1, 0)) rfl rfl rfl
theorem w23_74 {x : Nat} : W (pj lw) 23 74 L (.ref x :: S) k n H Q ↔ W (pj lw) 23 75 L (.ref x :: .ref x :: S) k n H Q := W_s (rfl : (pj lw).1 23 74 = some (.dup, 1, 0)) rfl rfl rfl
theorem w23_75 {a : Nat} : W (pj lw) 23 75 L (.ref a :: S) k n H Q ↔ (isO H a = true ∧ W (pj lw) 23 78 L (fld H a 22 :: S) k n H Q) := W_getf (rfl : (pj lw).1 23 75 = some (.getfield 82, 3, 22))
theorem w23_78 : W (pj lw) 23 78 L S k n H Q ↔ W (pj lw) 23 79 L (.int 1 :: S) k n H Q := W_s (rfl : (pj lw).1 23 78 = some (.iconst 1, 1, 0)) rfl rfl rfl
theorem w23_79 {x y : Int32} : W (pj lw) 23 79 L (.int y :: .int x :: S) k n H Q ↔ W (pj lw) 23 80 L (.int (x + y) :: S) k n H Q := W_s (rfl : (pj lw).1 23 79 = some (.iadd, 1, 0)) rfl rfl rfl
theorem w23_80 {a : Nat} {v : Value} : W (pj lw) 23 80 L (v :: .ref a :: S) k n H Q ↔ ((isOw H a = true ∧ okv (.int) v = true) ∧ W (pj lw) 23 83 L S k n (wr H a 22 v) Q) := W_putf (rfl : (pj lw).1 23 80 = some (.putfield 82, 3, 22))
theorem w23_83 {x : Int32} {l0 l1 l2 l3 : Slot} : W (pj lw) 23 83 (l0 :: l1 :: l2 :: l3 :: .val (.int x) :: L) S k n H Q ↔ W (pj lw) 23 86 (l0 :: l1 :: l2 :: l3 :: .val (.int (x + 1)) :: L) S k n H Q := W_s (rfl : (pj lw).1 23 83 = some (.iinc 4 1, 3, 0)) rfl rfl rfl
theorem w23_86 : W (pj lw) 23 86 L S k n H Q ↔ W (pj lw) 23 22 L S k n H Q := W_goto (rfl : (pj lw).1 23 86 = some (.goto (-64), 3, 0)) rfl
theorem w23_89 : W (pj lw) 23 89 L [] k n H Q ↔ Q none H := W_r (rfl : (pj lw).1 23 89 = some (.return_, 1, 0)) rfl
theorem c24 {x0 : Nat} {x1 : Int32} : Cl (pj lw) 24 [.ref x0, .int x1] H Q ↔ W (pj lw) 24 0 [.val (.ref x0), .val (.int x1), .unset] [] 0 0 H Q := cl_unf rfl
theorem w24_0 : W (pj lw) 24 0 L S k n H Q ↔ W (pj lw) 24 1 L (.int 0 :: S) k n H Q := W_s (rfl : (pj lw).1 24 0 = some (.iconst 0, 1, 0)) rfl rfl rfl
theorem w24_1 {x : Int32} {l0 l1 : Slot} : W (pj lw) 24 1 (l0 :: l1 :: .unset :: L) (.int x :: S) k n H Q ↔ W (pj lw) 24 2 (l0 :: l1 :: .val (.int x) :: L) S k n H Q := W_istn (rfl : (pj lw).1 24 1 = some (.istore_n 2, 1, 0)) rfl rfl
theorem w24_2 {x : Int32} {l0 l1 : Slot} : W (pj lw) 24 2 (l0 :: l1 :: .val (.int x) :: L) S k n H Q ↔ W (pj lw) 24 3 (l0 :: l1 :: .val (.int x) :: L) (.int x :: S) k n H Q := W_s (rfl : (pj lw).1 24 2 = some (.iload_n 2, 1, 0)) rfl rfl rfl
theorem w24_3 {x : Nat} : W (pj lw) 24 3 (.val (.ref x) :: L) S k n H Q ↔ W (pj lw) 24 4 (.val (.ref x) :: L) (.ref x :: S) k n H Q := W_s (rfl : (pj lw).1 24 3 = some (.aload_n 0, 1, 0)) rfl rfl rfl
theorem w24_4 {a : Nat} : W (pj lw) 24 4 L (.ref a :: S) k n H Q ↔ (isO H a = true ∧ W (pj lw) 24 7 L (fld H a 22 :: S) k n H Q) := W_getf (rfl : (pj lw).1 24 4 = some (.getfield 82, 3, 22))
theorem w24_7 {x y : Int32} : W (pj lw) 24 7 L (.int y :: .int x :: S) k n H Q ↔ (if x < y then W (pj lw) 24 10 L S k n H Q else W (pj lw) 24 34 L S k n H Q) := W_icmp_ge (rfl : (pj lw).1 24 7 = some (.if_icmp .ge 27, 3, 0)) rfl
theorem w24_10 {x : Nat} : W (pj lw) 24 10 (.val (.ref x) :: L) S k n H Q ↔ W (pj lw) 24 11 (.val (.ref x) :: L) (.ref x :: S) k n H Q := W_s (rfl : (pj lw).1 24 10 = some (.aload_n 0, 1, 0)) rfl rfl rfl
theorem w24_11 {a : Nat} : W (pj lw) 24 11 L (.ref a :: S) k n H Q ↔ (isO H a = true ∧ W (pj lw) 24 14 L (fld H a 11 :: S) k n H Q) := W_getf (rfl : (pj lw).1 24 11 = some (.getfield 28, 3, 11))
theorem w24_14 {x : Nat} : W (pj lw) 24 14 (.val (.ref x) :: L) S k n H Q ↔ W (pj lw) 24 15 (.val (.ref x) :: L) (.ref x :: S) k n H Q := W_s (rfl : (pj lw).1 24 14 = some (.aload_n 0, 1, 0)) rfl rfl rfl
theorem w24_15 {a : Nat} : W (pj lw) 24 15 L (.ref a :: S) k n H Q ↔ (isO H a = true ∧ W (pj lw) 24 18 L (fld H a 20 :: S) k n H Q) := W_getf (rfl : (pj lw).1 24 15 = some (.getfield 43, 3, 20))
theorem w24_18 {x : Int32} {l0 l1 : Slot} : W (pj lw) 24 18 (l0 :: l1 :: .val (.int x) :: L) S k n H Q ↔ W (pj lw) 24 19 (l0 :: l1 :: .val (.int x) :: L) (.int x :: S) k n H Q := W_s (rfl : (pj lw).1 24 18 = some (.iload_n 2, 1, 0)) rfl rfl rfl
theorem w24_19 {i : Int32} {a : Nat} : W (pj lw) 24 19 L (.int i :: .ref a :: S) k n H Q ↔ (inA H a .int i = true ∧ W (pj lw) 24 20 L (elt H a i :: S) k n H Q) := W_iaload (rfl : (pj lw).1 24 19 = some (.iaload, 1, 0))
theorem w24_20 {i : Int32} {a : Nat} : W (pj lw) 24 20 L (.int i :: .ref a :: S) k n H Q ↔ (inA H a .int i = true ∧ W (pj lw) 24 21 L (elt H a i :: S) k n H Q) := W_iaload (rfl : (pj lw).1 24 20 = some (.iaload, 1, 0))
theorem w24_21 {x : Int32} {l0 : Slot} : W (pj lw) 24 21 (l0 :: .val (.int x) :: L) S k n H Q ↔ W (pj lw) 24 22 (l0 :: .val (.int x) :: L) (.int x :: S) k n H Q := W_s (rfl : (pj lw).1 24 21 = some (.iload_n 1, 1, 0)) rfl rfl rfl
theorem w24_22 {x y : Int32} : W (pj lw) 24 22 L (.int y :: .int x :: S) k n H Q ↔ W (pj lw) 24 23 L (.int (x &&& y) :: S) k n H Q := W_s (rfl : (pj lw).1 24 22 = some (.iand, 1, 0)) rfl rfl rfl
theorem w24_23 {x : Int32} : W (pj lw) 24 23 L (.int x :: S) k n H Q ↔ (if x = 0 then W (pj lw) 24 26 L S k n H Q else W (pj lw) 24 28 L S k n H Q) := W_if_ne (rfl : (pj lw).1 24 23 = some (.ifCond .ne 5, 3, 0)) rfl
theorem w24_26 : W (pj lw) 24 26 L S k n H Q ↔ W (pj lw) 24 27 L (.int 0 :: S) k n H Q := W_s (rfl : (pj lw).1 24 26 = some (.iconst 0, 1, 0)) rfl rfl rfl
theorem w24_27 {x : Int32} : W (pj lw) 24 27 L (.int x :: S) k n H Q ↔ ((x = 0 ∨ x = 1) ∧ Q (some (.int x)) H) := W_rz (rfl : (pj lw).1 24 27 = some (.ireturn, 1, 0)) rfl
theorem w24_28 {x : Int32} {l0 l1 : Slot} : W (pj lw) 24 28 (l0 :: l1 :: .val (.int x) :: L) S k n H Q ↔ W (pj lw) 24 31 (l0 :: l1 :: .val (.int (x + 1)) :: L) S k n H Q := W_s (rfl : (pj lw).1 24 28 = some (.iinc 2 1, 3, 0)) rfl rfl rfl
theorem w24_31 : W (pj lw) 24 31 L S k n H Q ↔ W (pj lw) 24 2 L S k n H Q := W_goto (rfl : (pj lw).1 24 31 = some (.goto (-29), 3, 0)) rfl
theorem w24_34 : W (pj lw) 24 34 L S k n H Q ↔ W (pj lw) 24 35 L (.int 1 :: S) k n H Q := W_s (rfl : (pj lw).1 24 34 = some (.iconst 1, 1, 0)) rfl rfl rfl
theorem w24_35 {x : Int32} : W (pj lw) 24 35 L (.int x :: S) k n H Q ↔ ((x = 0 ∨ x = 1) ∧ Q (some (.int x)) H) := W_rz (rfl : (pj lw).1 24 35 = some (.ireturn, 1, 0)) rfl
theorem c25 {x0 : Nat} {x1 : Int32} : Cl (pj lw) 25 [.ref x0, .int x1] H Q ↔ W (pj lw) 25 0 [.val (.ref x0), .val (.int x1), .unset] [] 0 0 H Q := cl_unf rfl
theorem w25_0 : W (pj lw) 25 0 L S k n H Q ↔ W (pj lw) 25 1 L (.int 0 :: S) k n H Q := W_s (rfl : (pj lw).1 25 0 = some (.iconst 0, 1, 0)) rfl rfl rfl
theorem w25_1 {x : Int32} {l0 l1 : Slot} : W (pj lw) 25 1 (l0 :: l1 :: .unset :: L) (.int x :: S) k n H Q ↔ W (pj lw) 25 2 (l0 :: l1 :: .val (.int x) :: L) S k n H Q := W_istn (rfl : (pj lw).1 25 1 = some (.istore_n 2, 1, 0)) rfl rfl
theorem w25_2 {x : Int32} {l0 l1 : Slot} : W (pj lw) 25 2 (l0 :: l1 :: .val (.int x) :: L) S k n H Q ↔ W (pj lw) 25 3 (l0 :: l1 :: .val (.int x) :: L) (.int x :: S) k n H Q := W_s (rfl : (pj lw).1 25 2 = some (.iload_n 2, 1, 0)) rfl rfl rfl
theorem w25_3 {x : Nat} : W (pj lw) 25 3 (.val (.ref x) :: L) S k n H Q ↔ W (pj lw) 25 4 (.val (.ref x) :: L) (.ref x :: S) k n H Q := W_s (rfl : (pj lw).1 25 3 = some (.aload_n 0, 1, 0)) rfl rfl rfl
theorem w25_4 {a : Nat} : W (pj lw) 25 4 L (.ref a :: S) k n H Q ↔ (isO H a = true ∧ W (pj lw) 25 7 L (fld H a 22 :: S) k n H Q) := W_getf (rfl : (pj lw).1 25 4 = some (.getfield 82, 3, 22))
theorem w25_7 {x y : Int32} : W (pj lw) 25 7 L (.int y :: .int x :: S) k n H Q ↔ (if x < y then W (pj lw) 25 10 L S k n H Q else W (pj lw) 25 38 L S k n H Q) := W_icmp_ge (rfl : (pj lw).1 25 7 = some (.if_icmp .ge 31, 3, 0)) rfl
theorem w25_10 {x : Nat} : W (pj lw) 25 10 (.val (.ref x) :: L) S k n H Q ↔ W (pj lw) 25 11 (.val (.ref x) :: L) (.ref x :: S) k n H Q := W_s (rfl : (pj lw).1 25 10 = some (.aload_n 0, 1, 0)) rfl rfl rfl
theorem w25_11 {a : Nat} : W (pj lw) 25 11 L (.ref a :: S) k n H Q ↔ (isO H a = true ∧ W (pj lw) 25 14 L (fld H a 21 :: S) k n H Q) := W_getf (rfl : (pj lw).1 25 11 = some (.getfield 46, 3, 21))
theorem w25_14 {x : Int32} {l0 l1 : Slot} : W (pj lw) 25 14 (l0 :: l1 :: .val (.int x) :: L) S k n H Q ↔ W (pj lw) 25 15 (l0 :: l1 :: .val (.int x) :: L) (.int x :: S) k n H Q := W_s (rfl : (pj lw).1 25 14 = some (.iload_n 2, 1, 0)) rfl rfl rfl
theorem w25_15 {x : Int32} {y : Nat} : W (pj lw) 25 15 L (.int x :: .ref y :: S) k n H Q ↔ W (pj lw) 25 16 L (.int x :: .ref y :: .int x :: .ref y :: S) k n H Q := W_s (rfl : (pj lw).1 25 15 = some (.dup2, 1, 0)) rfl rfl rfl
theorem w25_16 {i : Int32} {a : Nat} : W (pj lw) 25 16 L (.int i :: .ref a :: S) k n H Q ↔ (inA H a .int i = true ∧ W (pj lw) 25 17 L (elt H a i :: S) k n H Q) := W_iaload (rfl : (pj lw).1 25 16 = some (.iaload, 1, 0))
theorem w25_17 {x : Nat} : W (pj lw) 25 17 (.val (.ref x) :: L) S k n H Q ↔ W (pj lw) 25 18 (.val (.ref x) :: L) (.ref x :: S) k n H Q := W_s (rfl : (pj lw).1 25 17 = some (.aload_n 0, 1, 0)) rfl rfl rfl
theorem w25_18 {a : Nat} : W (pj lw) 25 18 L (.ref a :: S) k n H Q ↔ (isO H a = true ∧ W (pj lw) 25 21 L (fld H a 11 :: S) k n H Q) := W_getf (rfl : (pj lw).1 25 18 = some (.getfield 28, 3, 11))
theorem w25_21 {x : Nat} : W (pj lw) 25 21 (.val (.ref x) :: L) S k n H Q ↔ W (pj lw) 25 22 (.val (.ref x) :: L) (.ref x :: S) k n H Q := W_s (rfl : (pj lw).1 25 21 = some (.aload_n 0, 1, 0)) rfl rfl rfl
theorem w25_22 {a : Nat} : W (pj lw) 25 22 L (.ref a :: S) k n H Q ↔ (isO H a = true ∧ W (pj lw) 25 25 L (fld H a 20 :: S) k n H Q) := W_getf (rfl : (pj lw).1 25 22 = some (.getfield 43, 3, 20))
theorem w25_25 {x : Int32} {l0 l1 : Slot} : W (pj lw) 25 25 (l0 :: l1 :: .val (.int x) :: L) S k n H Q ↔ W (pj lw) 25 26 (l0 :: l1 :: .val (.int x) :: L) (.int x :: S) k n H Q := W_s (rfl : (pj lw).1 25 25 = some (.iload_n 2, 1, 0)) rfl rfl rfl
theorem w25_26 {i : Int32} {a : Nat} : W (pj lw) 25 26 L (.int i :: .ref a :: S) k n H Q ↔ (inA H a .int i = true ∧ W (pj lw) 25 27 L (elt H a i :: S) k n H Q) := W_iaload (rfl : (pj lw).1 25 26 = some (.iaload, 1, 0))
theorem w25_27 {i : Int32} {a : Nat} : W (pj lw) 25 27 L (.int i :: .ref a :: S) k n H Q ↔ (inA H a .int i = true ∧ W (pj lw) 25 28 L (elt H a i :: S) k n H Q) := W_iaload (rfl : (pj lw).1 25 27 = some (.iaload, 1, 0))
theorem w25_28 {x : Int32} {l0 : Slot} : W (pj lw) 25 28 (l0 :: .val (.int x) :: L) S k n H Q ↔ W (pj lw) 25 29 (l0 :: .val (.int x) :: L) (.int x :: S) k n H Q := W_s (rfl : (pj lw).1 25 28 = some (.iload_n 1, 1, 0)) rfl rfl rfl
theorem w25_29 {x y : Int32} : W (pj lw) 25 29 L (.int y :: .int x :: S) k n H Q ↔ W (pj lw) 25 30 L (.int (x &&& y) :: S) k n H Q := W_s (rfl : (pj lw).1 25 29 = some (.iand, 1, 0)) rfl rfl rfl
theorem w25_30 {x y : Int32} : W (pj lw) 25 30 L (.int y :: .int x :: S) k n H Q ↔ W (pj lw) 25 31 L (.int (x ||| y) :: S) k n H Q := W_s (rfl : (pj lw).1 25 30 = some (.ior, 1, 0)) rfl rfl rfl
theorem w25_31 {x i : Int32} {a : Nat} : W (pj lw) 25 31 L (.int x :: .int i :: .ref a :: S) k n H Q ↔ (inAw H a .int i = true ∧ W (pj lw) 25 32 L S k n (wr H a i.toNatClampNeg (.int x)) Q) := W_iastore (rfl : (pj lw).1 25 31 = some (.iastore, 1, 0))
theorem w25_32 {x : Int32} {l0 l1 : Slot} : W (pj lw) 25 32 (l0 :: l1 :: .val (.int x) :: L) S k n H Q ↔ W (pj lw) 25 35 (l0 :: l1 :: .val (.int (x + 1)) :: L) S k n H Q := W_s (rfl : (pj lw).1 25 32 = some (.iinc 2 1, 3, 0)) rfl rfl rfl
theorem w25_35 : W (pj lw) 25 35 L S k n H Q ↔ W (pj lw) 25 2 L S k n H Q := W_goto (rfl : (pj lw).1 25 35 = some (.goto (-33), 3, 0)) rfl
theorem w25_38 : W (pj lw) 25 38 L [] k n H Q ↔ Q none H := W_r (rfl : (pj lw).1 25 38 = some (.return_, 1, 0)) rfl
theorem c26 {x0 : Nat} {x1 : Int32} : Cl (pj lw) 26 [.ref x0, .int x1] H Q ↔ W (pj lw) 26 0 [.val (.ref x0), .val (.int x1), .unset, .unset, .unset, .unset] [] 0 0 H Q := cl_unf rfl
theorem w26_0 {x : Nat} : W (pj lw) 26 0 (.val (.ref x) :: L) S k n H Q ↔ W (pj lw) 26 1 (.val (.ref x) :: L) (.ref x :: S) k n H Q := W_s (rfl : (pj lw).1 26 0 = some (.aload_n 0, 1, 0)) rfl rfl rfl
theorem w26_1 {x : Int32} {l0 : Slot} : W (pj lw) 26 1 (l0 :: .val (.int x) :: L) S k n H Q ↔ W (pj lw) 26 2 (l0 :: .val (.int x) :: L) (.int x :: S) k n H Q := W_s (rfl : (pj lw).1 26 1 = some (.iload_n 1, 1, 0)) rfl rfl rfl
theorem w26_2 {a : Nat} {x0 : Int32} : W (pj lw) 26 2 L (.int x0 :: .ref a :: S) k n H Q ↔ ((isO H a = true ∧ cs S + (5 + 11) + 0 ≤ 16) ∧ Cl (pj lw) 23 [.ref a, .int x0] H (fun v H => W (pj lw) 26 5 L (v.toList ++ S) k n H Q)) := W_inst (as := [.int x0]) (rfl : (pj lw).1 26 2 = some (.invokevirtual 133, 3, 23)) rfl rfl rfl (Nat.le_of_ble_eq_true rfl) (Nat.le_of_ble_eq_true rfl) ⟨rfl, rfl⟩
theorem w26_5 {x : Nat} : W (pj lw) 26 5 (.val (.ref x) :: L) S k n H Q ↔ W (pj lw) 26 6 (.val (.ref x) :: L) (.ref x :: S) k n H Q := W_s (rfl : (pj lw).1 26 5 = some (.aload_n 0, 1, 0)) rfl rfl rfl
theorem w26_6 {a : Nat} : W (pj lw) 26 6 L (.ref a :: S) k n H Q ↔ (isO H a = true ∧ W (pj lw) 26 9 L (fld H a 11 :: S) k n H Q) := W_getf (rfl : (pj lw).1 26 6 = some (.getfield 28, 3, 11))
theorem w26_9 {x : Nat} : W (pj lw) 26 9 (.val (.ref x) :: L) S k n H Q ↔ W (pj lw) 26 10 (.val (.ref x) :: L) (.ref x :: S) k n H Q := W_s (rfl : (pj lw).1 26 9 = some (.aload_n 0, 1, 0)) rfl rfl rfl
theorem w26_10 {a : Nat} : W (pj lw) 26 10 L (.ref a :: S) k n H Q ↔ (isO H a = true ∧ W (pj lw) 26 13 L (fld H a 6 :: S) k n H Q) := W_getf (rfl : (pj lw).1 26 10 = some (.getfield 13, 3, 6))
theorem w26_13 {x : Int32} {l0 : Slot} : W (pj lw) 26 13 (l0 :: .val (.int x) :: L) S k n H Q ↔ W (pj lw) 26 14 (l0 :: .val (.int x) :: L) (.int x :: S) k n H Q := W_s (rfl : (pj lw).1 26 13 = some (.iload_n 1, 1, 0)) rfl rfl rfl
theorem w26_14 {i : Int32} {a : Nat} : W (pj lw) 26 14 L (.int i :: .ref a :: S) k n H Q ↔ (inA H a .int i = true ∧ W (pj lw) 26 15 L (elt H a i :: S) k n H Q) := W_iaload (rfl : (pj lw).1 26 14 = some (.iaload, 1, 0))
theorem w26_15 {i : Int32} {a : Nat} : W (pj lw) 26 15 L (.int i :: .ref a :: S) k n H Q ↔ (inA H a .int i = true ∧ W (pj lw) 26 16 L (elt H a i :: S) k n H Q) := W_iaload (rfl : (pj lw).1 26 15 = some (.iaload, 1, 0))
theorem w26_16 {x : Int32} {l0 l1 : Slot} : W (pj lw) 26 16 (l0 :: l1 :: .unset :: L) (.int x :: S) k n H Q ↔ W (pj lw) 26 17 (l0 :: l1 :: .val (.int x) :: L) S k n H Q := W_istn (rfl : (pj lw).1 26 16 = some (.istore_n 2, 1, 0)) rfl rfl
theorem w26_17 {x : Nat} : W (pj lw) 26 17 (.val (.ref x) :: L) S k n H Q ↔ W (pj lw) 26 18 (.val (.ref x) :: L) (.ref x :: S) k n H Q := W_s (rfl : (pj lw).1 26 17 = some (.aload_n 0, 1, 0)) rfl rfl rfl
theorem w26_18 {a : Nat} : W (pj lw) 26 18 L (.ref a :: S) k n H Q ↔ (isO H a = true ∧ W (pj lw) 26 21 L (fld H a 11 :: S) k n H Q) := W_getf (rfl : (pj lw).1 26 18 = some (.getfield 28, 3, 11))
theorem w26_21 {x : Nat} : W (pj lw) 26 21 (.val (.ref x) :: L) S k n H Q ↔ W (pj lw) 26 22 (.val (.ref x) :: L) (.ref x :: S) k n H Q := W_s (rfl : (pj lw).1 26 21 = some (.aload_n 0, 1, 0)) rfl rfl rfl
theorem w26_22 {a : Nat} : W (pj lw) 26 22 L (.ref a :: S) k n H Q ↔ (isO H a = true ∧ W (pj lw) 26 25 L (fld H a 7 :: S) k n H Q) := W_getf (rfl : (pj lw).1 26 22 = some (.getfield 16, 3, 7))
theorem w26_25 {x : Int32} {l0 : Slot} : W (pj lw) 26 25 (l0 :: .val (.int x) :: L) S k n H Q ↔ W (pj lw) 26 26 (l0 :: .val (.int x) :: L) (.int x :: S) k n H Q := W_s (rfl : (pj lw).1 26 25 = some (.iload_n 1, 1, 0)) rfl rfl rfl
theorem w26_26 {i : Int32} {a : Nat} : W (pj lw) 26 26 L (.int i :: .ref a :: S) k n H Q ↔ (inA H a .int i = true ∧ W (pj lw) 26 27 L (elt H a i :: S) k n H Q) := W_iaload (rfl : (pj lw).1 26 26 = some (.iaload, 1, 0))
theorem w26_27 {i : Int32} {a : Nat} : W (pj lw) 26 27 L (.int i :: .ref a :: S) k n H Q ↔ (inA H a .int i = true ∧ W (pj lw) 26 28 L (elt H a i :: S) k n H Q) := W_iaload (rfl : (pj lw).1 26 27 = some (.iaload, 1, 0))
theorem w26_28 {x : Int32} {l0 l1 l2 : Slot} : W (pj lw) 26 28 (l0 :: l1 :: l2 :: .unset :: L) (.int x :: S) k n H Q ↔ W (pj lw) 26 29 (l0 :: l1 :: l2 :: .val (.int x) :: L) S k n H Q := W_istn (rfl : (pj lw).1 26 28 = some (.istore_n 3, 1, 0)) rfl rfl
theorem w26_29 : W (pj lw) 26 29 L S k n H Q ↔ W (pj lw) 26 30 L (.int 0 :: S) k n H Q := W_s (rfl : (pj lw).1 26 29 = some (.iconst 0, 1, 0)) rfl rfl rfl
theorem w26_30 {x : Int32} {l0 l1 l2 l3 : Slot} : W (pj lw) 26 30 (l0 :: l1 :: l2 :: l3 :: .unset :: L) (.int x :: S) k n H Q ↔ W (pj lw) 26 32 (l0 :: l1 :: l2 :: l3 :: .val (.int x) :: L) S k n H Q := W_ist (rfl : (pj lw).1 26 30 = some (.istore 4, 2, 0)) rfl rfl
theorem w26_32 {x : Int32} {l0 l1 l2 l3 : Slot} : W (pj lw) 26 32 (l0 :: l1 :: l2 :: l3 :: .val (.int x) :: L) S k n H Q ↔ W (pj lw) 26 34 (l0 :: l1 :: l2 :: l3 :: .val (.int x) :: L) (.int x :: S) k n H Q := W_s (rfl : (pj lw).1 26 32 = some (.iload 4, 2, 0)) rfl rfl rfl
theorem w26_34 {x : Nat} : W (pj lw) 26 34 (.val (.ref x) :: L) S k n H Q ↔ W (pj lw) 26 35 (.val (.ref x) :: L) (.ref x :: S) k n H Q := W_s (rfl : (pj lw).1 26 34 = some (.aload_n 0, 1, 0)) rfl rfl rfl
theorem w26_35 {a : Nat} : W (pj lw) 26 35 L (.ref a :: S) k n H Q ↔ (isO H a = true ∧ W (pj lw) 26 38 L (fld H a 1 :: S) k n H Q) := W_getf (rfl : (pj lw).1 26 35 = some (.getfield 85, 3, 1))
theorem w26_38 {x y : Int32} : W (pj lw) 26 38 L (.int y :: .int x :: S) k n H Q ↔ (if x < y then W (pj lw) 26 41 L S k n H Q else W (pj lw) 26 108 L S k n H Q) := W_icmp_ge (rfl : (pj lw).1 26 38 = some (.if_icmp .ge 70, 3, 0)) rfl
theorem w26_41 {x : Int32} {l0 l1 : Slot} : W (pj lw) 26 41 (l0 :: l1 :: .val (.int x) :: L) S k n H Q ↔ W (pj lw) 26 42 (l0 :: l1 :: .val (.int x) :: L) (.int x :: S) k n H Q := W_s (rfl : (pj lw).1 26 41 = some (.iload_n 2, 1, 0)) rfl rfl rfl
theorem w26_42 {x : Int32} {l0 l1 l2 l3 : Slot} : W (pj lw) 26 42 (l0 :: l1 :: l2 :: l3 :: .val (.int x) :: L) S k n H Q ↔ W (pj lw) 26 44 (l0 :: l1 :: l2 :: l3 :: .val (.int x) :: L) (.int x :: S) k n H Q := W_s (rfl : (pj lw).1 26 42 = some (.iload 4, 2, 0)) rfl rfl rfl
theorem w26_44 {x y : Int32} : W (pj lw) 26 44 L (.int y :: .int x :: S) k n H Q ↔ W (pj lw) 26 45 L (.int (x >>> (y &&& 31)) :: S) k n H Q := W_s (rfl : (pj lw).1 26 44 = some (.ishr, 1, 0)) rfl rfl rfl
theorem w26_45 : W (pj lw) 26 45 L S k n H Q ↔ W (pj lw) 26 46 L (.int 1 :: S) k n H Q := W_s (rfl : (pj lw).1 26 45 = some (.iconst 1, 1, 0)) rfl rfl rfl
theorem w26_46 {x y : Int32} : W (pj lw) 26 46 L (.int y :: .int x :: S) k n H Q ↔ W (pj lw) 26 47 L (.int (x &&& y) :: S) k n H Q := W_s (rfl : (pj lw).1 26 46 = some (.iand, 1, 0)) rfl rfl rfl
theorem w26_47 {x : Int32} : W (pj lw) 26 47 L (.int x :: S) k n H Q ↔ (if x = 0 then W (pj lw) 26 50 L S k n H Q else W (pj lw) 26 53 L S k n H Q) := W_if_ne (rfl : (pj lw).1 26 47 = some (.ifCond .ne 6, 3, 0)) rfl
theorem w26_50 : W (pj lw) 26 50 L S k n H Q ↔ W (pj lw) 26 102 L S k n H Q := W_goto (rfl : (pj lw).1 26 50 = some (.goto 52, 3, 0)) rfl
theorem w26_53 : W (pj lw) 26 53 L S k n H Q ↔ W (pj lw) 26 54 L (.int 0 :: S) k n H Q := W_s (rfl : (pj lw).1 26 53 = some (.iconst 0, 1, 0)) rfl rfl rfl
theorem w26_54i {y : Int32} {x : Int32} {l0 l1 l2 l3 l4 : Slot} : W (pj lw) 26 54 (l0 :: l1 :: l2 :: l3 :: l4 :: .val (.int y) :: L) (.int x :: S) k n H Q ↔ W (pj lw) 26 56 (l0 :: l1 :: l2 :: l3 :: l4 :: .val (.int x) :: L) S k n H Q := W_ist (rfl : (pj lw).1 26 54 = some (.istore 5, 2, 0)) rfl rfl
theorem w26_54 {x : Int32} {l0 l1 l2 l3 l4 : Slot} : W (pj lw) 26 54 (l0 :: l1 :: l2 :: l3 :: l4 :: .unset :: L) (.int x :: S) k n H Q ↔ W (pj lw) 26 56 (l0 :: l1 :: l2 :: l3 :: l4 :: .val (.int x) :: L) S k n H Q := W_ist (rfl : (pj lw).1 26 54 = some (.istore 5, 2, 0)) rfl rfl
theorem w26_56 {x : Int32} {l0 l1 l2 l3 l4 : Slot} : W (pj lw) 26 56 (l0 :: l1 :: l2 :: l3 :: l4 :: .val (.int x) :: L) S k n H Q ↔ W (pj lw) 26 58 (l0 :: l1 :: l2 :: l3 :: l4 :: .val (.int x) :: L) (.int x :: S) k n H Q := W_s (rfl : (pj lw).1 26 56 = some (.iload 5, 2, 0)) rfl rfl rfl
theorem w26_58 {x : Nat} : W (pj lw) 26 58 (.val (.ref x) :: L) S k n H Q ↔ W (pj lw) 26 59 (.val (.ref x) :: L) (.ref x :: S) k n H Q := W_s (rfl : (pj lw).1 26 58 = some (.aload_n 0, 1, 0)) rfl rfl rfl
theorem w26_59 {a : Nat} : W (pj lw) 26 59 L (.ref a :: S) k n H Q ↔ (isO H a = true ∧ W (pj lw) 26 62 L (fld H a 1 :: S) k n H Q) := W_getf (rfl : (pj lw).1 26 59 = some (.getfield 85, 3, 1))
theorem w26_62 {x y : Int32} : W (pj lw) 26 62 L (.int y :: .int x :: S) k n H Q ↔ (if x < y then W (pj lw) 26 65 L S k n H Q else W (pj lw) 26 102 L S k n H Q) := W_icmp_ge (rfl : (pj lw).1 26 62 = some (.if_icmp .ge 40, 3, 0)) rfl
theorem w26_65 {x : Int32} {l0 l1 l2 : Slot} : W (pj lw) 26 65 (l0 :: l1 :: l2 :: .val (.int x) :: L) S k n H Q ↔ W (pj lw) 26 66 (l0 :: l1 :: l2 :: .val (.int x) :: L) (.int x :: S) k n H Q := W_s (rfl : (pj lw).1 26 65 = some (.iload_n 3, 1, 0)) rfl rfl rfl
theorem w26_66 {x : Int32} {l0 l1 l2 l3 l4 : Slot} : W (pj lw) 26 66 (l0 :: l1 :: l2 :: l3 :: l4 :: .val (.int x) :: L) S k n H Q ↔ W (pj lw) 26 68 (l0 :: l1 :: l2 :: l3 :: l4 :: .val (.int x) :: L) (.int x :: S) k n H Q := W_s (rfl : (pj lw).1 26 66 = some (.iload 5, 2, 0)) rfl rfl rfl
theorem w26_68 {x y : Int32} : W (pj lw) 26 68 L (.int y :: .int x :: S) k n H Q ↔ W (pj lw) 26 69 L (.int (x >>> (y &&& 31)) :: S) k n H Q := W_s (rfl : (pj lw).1 26 68 = some (.ishr, 1, 0)) rfl rfl rfl
theorem w26_69 : W (pj lw) 26 69 L S k n H Q ↔ W (pj lw) 26 70 L (.int 1 :: S) k n H Q := W_s (rfl : (pj lw).1 26 69 = some (.iconst 1, 1, 0)) rfl rfl rfl
theorem w26_70 {x y : Int32} : W (pj lw) 26 70 L (.int y :: .int x :: S) k n H Q ↔ W (pj lw) 26 71 L (.int (x &&& y) :: S) k n H Q := W_s (rfl : (pj lw).1 26 70 = some (.iand, 1, 0)) rfl rfl rfl
theorem w26_71 {x : Int32} : W (pj lw) 26 71 L (.int x :: S) k n H Q ↔ (if x = 0 then W (pj lw) 26 96 L S k n H Q else W (pj lw) 26 74 L S k n H Q) := W_if_eq (rfl : (pj lw).1 26 71 = some (.ifCond .eq 25, 3, 0)) rfl
theorem w26_74 {x : Nat} : W (pj lw) 26 74 (.val (.ref x) :: L) S k n H Q ↔ W (pj lw) 26 75 (.val (.ref x) :: L) (.ref x :: S) k n H Q := W_s (rfl : (pj lw).1 26 74 = some (.aload_n 0, 1, 0)) rfl rfl rfl
theorem w26_75 {x : Nat} : W (pj lw) 26 75 (.val (.ref x) :: L) S k n H Q ↔ W (pj lw) 26 76 (.val (.ref x) :: L) (.ref x :: S) k n H Q := W_s (rfl : (pj lw).1 26 75 = some (.aload_n 0, 1, 0)) rfl rfl rfl
theorem w26_76 {a : Nat} : W (pj lw) 26 76 L (.ref a :: S) k n H Q ↔ (isO H a = true ∧ W (pj lw) 26 79 L (fld H a 19 :: S) k n H Q) := W_getf (rfl : (pj lw).1 26 76 = some (.getfield 40, 3, 19))
theorem w26_79 {x : Int32} {l0 l1 l2 l3 : Slot} : W (pj lw) 26 79 (l0 :: l1 :: l2 :: l3 :: .val (.int x) :: L) S k n H Q ↔ W (pj lw) 26 81 (l0 :: l1 :: l2 :: l3 :: .val (.int x) :: L) (.int x :: S) k n H Q := W_s (rfl : (pj lw).1 26 79 = some (.iload 4, 2, 0)) rfl rfl rfl
theorem w26_81 : W (pj lw) 26 81 L S k n H Q ↔ W (pj lw) 26 83 L (.int 10 :: S) k n H Q := W_s (rfl : (pj lw).1 26 81 = some (.bipush 10, 2, 0)) rfl rfl rfl
theorem w26_83 {x y : Int32} : W (pj lw) 26 83 L (.int y :: .int x :: S) k n H Q ↔ W (pj lw) 26 84 L (.int (x * y) :: S) k n H Q := W_s (rfl : (pj lw).1 26 83 = some (.imul, 1, 0)) rfl rfl rfl
theorem w26_84 {x : Int32} {l0 l1 l2 l3 l4 : Slot} : W (pj lw) 26 84 (l0 :: l1 :: l2 :: l3 :: l4 :: .val (.int x) :: L) S k n H Q ↔ W (pj lw) 26 86 (l0 :: l1 :: l2 :: l3 :: l4 :: .val (.int x) :: L) (.int x :: S) k n H Q := W_s (rfl : (pj lw).1 26 84 = some (.iload 5, 2, 0)) rfl rfl rfl
theorem w26_86 {x y : Int32} : W (pj lw) 26 86 L (.int y :: .int x :: S) k n H Q ↔ W (pj lw) 26 87 L (.int (x + y) :: S) k n H Q := W_s (rfl : (pj lw).1 26 86 = some (.iadd, 1, 0)) rfl rfl rfl
theorem w26_87 {i : Int32} {a : Nat} : W (pj lw) 26 87 L (.int i :: .ref a :: S) k n H Q ↔ (inA H a .int i = true ∧ W (pj lw) 26 88 L (elt H a i :: S) k n H Q) := W_iaload (rfl : (pj lw).1 26 87 = some (.iaload, 1, 0))
theorem w26_88 {a : Nat} {x0 : Int32} : W (pj lw) 26 88 L (.int x0 :: .ref a :: S) k n H Q ↔ ((isO H a = true ∧ cs S + (3 + 11) + 0 ≤ 16) ∧ Cl (pj lw) 24 [.ref a, .int x0] H (fun v H => W (pj lw) 26 91 L (v.toList ++ S) k n H Q)) := W_inst (as := [.int x0]) (rfl : (pj lw).1 26 88 = some (.invokevirtual 137, 3, 24)) rfl rfl rfl (Nat.le_of_ble_eq_true rfl) (Nat.le_of_ble_eq_true rfl) ⟨rfl, rfl⟩
theorem w26_91 {x : Int32} : W (pj lw) 26 91 L (.int x :: S) k n H Q ↔ (if x = 0 then W (pj lw) 26 96 L S k n H Q else W (pj lw) 26 94 L S k n H Q) := W_if_eq (rfl : (pj lw).1 26 91 = some (.ifCond .eq 5, 3, 0)) rfl
theorem w26_94 : W (pj lw) 26 94 L S k n H Q ↔ W (pj lw) 26 95 L (.int 1 :: S) k n H Q := W_s (rfl : (pj lw).1 26 94 = some (.iconst 1, 1, 0)) rfl rfl rfl
theorem w26_95 {x : Int32} : W (pj lw) 26 95 L (.int x :: S) k n H Q ↔ ((x = 0 ∨ x = 1) ∧ Q (some (.int x)) H) := W_rz (rfl : (pj lw).1 26 95 = some (.ireturn, 1, 0)) rfl
theorem w26_96 {x : Int32} {l0 l1 l2 l3 l4 : Slot} : W (pj lw) 26 96 (l0 :: l1 :: l2 :: l3 :: l4 :: .val (.int x) :: L) S k n H Q ↔ W (pj lw) 26 99 (l0 :: l1 :: l2 :: l3 :: l4 :: .val (.int (x + 1)) :: L) S k n H Q := W_s (rfl : (pj lw).1 26 96 = some (.iinc 5 1, 3, 0)) rfl rfl rfl
theorem w26_99 : W (pj lw) 26 99 L S k n H Q ↔ W (pj lw) 26 56 L S k n H Q := W_goto (rfl : (pj lw).1 26 99 = some (.goto (-43), 3, 0)) rfl
theorem w26_102 {x : Int32} {l0 l1 l2 l3 : Slot} : W (pj lw) 26 102 (l0 :: l1 :: l2 :: l3 :: .val (.int x) :: L) S k n H Q ↔ W (pj lw) 26 105 (l0 :: l1 :: l2 :: l3 :: .val (.int (x + 1)) :: L) S k n H Q := W_s (rfl : (pj lw).1 26 102 = some (.iinc 4 1, 3, 0)) rfl rfl rfl
theorem w26_105 : W (pj lw) 26 105 L S k n H Q ↔ W (pj lw) 26 32 L S k n H Q := W_goto (rfl : (pj lw).1 26 105 = some (.goto (-73), 3, 0)) rfl
theorem w26_108 : W (pj lw) 26 108 L S k n H Q ↔ W (pj lw) 26 109 L (.int 0 :: S) k n H Q := W_s (rfl : (pj lw).1 26 108 = some (.iconst 0, 1, 0)) rfl rfl rfl
theorem w26_109 {x : Int32} : W (pj lw) 26 109 L (.int x :: S) k n H Q ↔ ((x = 0 ∨ x = 1) ∧ Q (some (.int x)) H) := W_rz (rfl : (pj lw).1 26 109 = some (.ireturn, 1, 0)) rfl
theorem c27 {x0 : Nat} {x1 : Int32} : Cl (pj lw) 27 [.ref x0, .int x1] H Q ↔ W (pj lw) 27 0 [.val (.ref x0), .val (.int x1), .unset, .unset, .unset, .unset, .unset, .unset, .unset] [] 0 0 H Q := cl_unf rfl
theorem w27_0 {x : Nat} : W (pj lw) 27 0 (.val (.ref x) :: L) S k n H Q ↔ W (pj lw) 27 1 (.val (.ref x) :: L) (.ref x :: S) k n H Q := W_s (rfl : (pj lw).1 27 0 = some (.aload_n 0, 1, 0)) rfl rfl rfl
theorem w27_1 {x : Int32} {l0 : Slot} : W (pj lw) 27 1 (l0 :: .val (.int x) :: L) S k n H Q ↔ W (pj lw) 27 2 (l0 :: .val (.int x) :: L) (.int x :: S) k n H Q := W_s (rfl : (pj lw).1 27 1 = some (.iload_n 1, 1, 0)) rfl rfl rfl
theorem w27_2 {a : Nat} {x0 : Int32} : W (pj lw) 27 2 L (.int x0 :: .ref a :: S) k n H Q ↔ ((isO H a = true ∧ cs S + (5 + 11) + 0 ≤ 19) ∧ Cl (pj lw) 23 [.ref a, .int x0] H (fun v H => W (pj lw) 27 5 L (v.toList ++ S) k n H Q)) := W_inst (as := [.int x0]) (rfl : (pj lw).1 27 2 = some (.invokevirtual 133, 3, 23)) rfl rfl rfl (Nat.le_of_ble_eq_true rfl) (Nat.le_of_ble_eq_true rfl) ⟨rfl, rfl⟩
theorem w27_5 {x : Nat} : W (pj lw) 27 5 (.val (.ref x) :: L) S k n H Q ↔ W (pj lw) 27 6 (.val (.ref x) :: L) (.ref x :: S) k n H Q := W_s (rfl : (pj lw).1 27 5 = some (.aload_n 0, 1, 0)) rfl rfl rfl
theorem w27_6 {a : Nat} : W (pj lw) 27 6 L (.ref a :: S) k n H Q ↔ (isO H a = true ∧ W (pj lw) 27 9 L (fld H a 6 :: S) k n H Q) := W_getf (rfl : (pj lw).1 27 6 = some (.getfield 13, 3, 6))
theorem w27_9 {x : Int32} {l0 : Slot} : W (pj lw) 27 9 (l0 :: .val (.int x) :: L) S k n H Q ↔ W (pj lw) 27 10 (l0 :: .val (.int x) :: L) (.int x :: S) k n H Q := W_s (rfl : (pj lw).1 27 9 = some (.iload_n 1, 1, 0)) rfl rfl rfl
theorem w27_10 {i : Int32} {a : Nat} : W (pj lw) 27 10 L (.int i :: .ref a :: S) k n H Q ↔ (inA H a .int i = true ∧ W (pj lw) 27 11 L (elt H a i :: S) k n H Q) := W_iaload (rfl : (pj lw).1 27 10 = some (.iaload, 1, 0))
theorem w27_11 {x : Int32} {l0 l1 : Slot} : W (pj lw) 27 11 (l0 :: l1 :: .unset :: L) (.int x :: S) k n H Q ↔ W (pj lw) 27 12 (l0 :: l1 :: .val (.int x) :: L) S k n H Q := W_istn (rfl : (pj lw).1 27 11 = some (.istore_n 2, 1, 0)) rfl rfl
theorem w27_12 {x : Nat} : W (pj lw) 27 12 (.val (.ref x) :: L) S k n H Q ↔ W (pj lw) 27 13 (.val (.ref x) :: L) (.ref x :: S) k n H Q := W_s (rfl : (pj lw).1 27 12 = some (.aload_n 0, 1, 0)) rfl rfl rfl
theorem w27_13 {a : Nat} : W (pj lw) 27 13 L (.ref a :: S) k n H Q ↔ (isO H a = true ∧ W (pj lw) 27 16 L (fld H a 7 :: S) k n H Q) := W_getf (rfl : (pj lw).1 27 13 = some (.getfield 16, 3, 7))
theorem w27_16 {x : Int32} {l0 : Slot} : W (pj lw) 27 16 (l0 :: .val (.int x) :: L) S k n H Q ↔ W (pj lw) 27 17 (l0 :: .val (.int x) :: L) (.int x :: S) k n H Q := W_s (rfl : (pj lw).1 27 16 = some (.iload_n 1, 1, 0)) rfl rfl rfl
theorem w27_17 {i : Int32} {a : Nat} : W (pj lw) 27 17 L (.int i :: .ref a :: S) k n H Q ↔ (inA H a .int i = true ∧ W (pj lw) 27 18 L (elt H a i :: S) k n H Q) := W_iaload (rfl : (pj lw).1 27 17 = some (.iaload, 1, 0))
theorem w27_18 {x : Int32} {l0 l1 l2 : Slot} : W (pj lw) 27 18 (l0 :: l1 :: l2 :: .unset :: L) (.int x :: S) k n H Q ↔ W (pj lw) 27 19 (l0 :: l1 :: l2 :: .val (.int x) :: L) S k n H Q := W_istn (rfl : (pj lw).1 27 18 = some (.istore_n 3, 1, 0)) rfl rfl
theorem w27_19 : W (pj lw) 27 19 L S k n H Q ↔ W (pj lw) 27 20 L (.int 0 :: S) k n H Q := W_s (rfl : (pj lw).1 27 19 = some (.iconst 0, 1, 0)) rfl rfl rfl
theorem w27_20 {x : Int32} {l0 l1 l2 l3 : Slot} : W (pj lw) 27 20 (l0 :: l1 :: l2 :: l3 :: .unset :: L) (.int x :: S) k n H Q ↔ W (pj lw) 27 22 (l0 :: l1 :: l2 :: l3 :: .val (.int x) :: L) S k n H Q := W_ist (rfl : (pj lw).1 27 20 = some (.istore 4, 2, 0)) rfl rfl
theorem w27_22 {x : Int32} {l0 l1 l2 l3 : Slot} : W (pj lw) 27 22 (l0 :: l1 :: l2 :: l3 :: .val (.int x) :: L) S k n H Q ↔ W (pj lw) 27 24 (l0 :: l1 :: l2 :: l3 :: .val (.int x) :: L) (.int x :: S) k n H Q := W_s (rfl : (pj lw).1 27 22 = some (.iload 4, 2, 0)) rfl rfl rfl
theorem w27_24 {x : Nat} : W (pj lw) 27 24 (.val (.ref x) :: L) S k n H Q ↔ W (pj lw) 27 25 (.val (.ref x) :: L) (.ref x :: S) k n H Q := W_s (rfl : (pj lw).1 27 24 = some (.aload_n 0, 1, 0)) rfl rfl rfl
theorem w27_25 {a : Nat} : W (pj lw) 27 25 L (.ref a :: S) k n H Q ↔ (isO H a = true ∧ W (pj lw) 27 28 L (fld H a 22 :: S) k n H Q) := W_getf (rfl : (pj lw).1 27 25 = some (.getfield 82, 3, 22))
theorem w27_28 {x y : Int32} : W (pj lw) 27 28 L (.int y :: .int x :: S) k n H Q ↔ (if x < y then W (pj lw) 27 31 L S k n H Q else W (pj lw) 27 45 L S k n H Q) := W_icmp_ge (rfl : (pj lw).1 27 28 = some (.if_icmp .ge 17, 3, 0)) rfl
theorem w27_31 {x : Nat} : W (pj lw) 27 31 (.val (.ref x) :: L) S k n H Q ↔ W (pj lw) 27 32 (.val (.ref x) :: L) (.ref x :: S) k n H Q := W_s (rfl : (pj lw).1 27 31 = some (.aload_n 0, 1, 0)) rfl rfl rfl
theorem w27_32 {a : Nat} : W (pj lw) 27 32 L (.ref a :: S) k n H Q ↔ (isO H a = true ∧ W (pj lw) 27 35 L (fld H a 21 :: S) k n H Q) := W_getf (rfl : (pj lw).1 27 32 = some (.getfield 46, 3, 21))
theorem w27_35 {x : Int32} {l0 l1 l2 l3 : Slot} : W (pj lw) 27 35 (l0 :: l1 :: l2 :: l3 :: .val (.int x) :: L) S k n H Q ↔ W (pj lw) 27 37 (l0 :: l1 :: l2 :: l3 :: .val (.int x) :: L) (.int x :: S) k n H Q := W_s (rfl : (pj lw).1 27 35 = some (.iload 4, 2, 0)) rfl rfl rfl
theorem w27_37 : W (pj lw) 27 37 L S k n H Q ↔ W (pj lw) 27 38 L (.int 0 :: S) k n H Q := W_s (rfl : (pj lw).1 27 37 = some (.iconst 0, 1, 0)) rfl rfl rfl
theorem w27_38 {x i : Int32} {a : Nat} : W (pj lw) 27 38 L (.int x :: .int i :: .ref a :: S) k n H Q ↔ (inAw H a .int i = true ∧ W (pj lw) 27 39 L S k n (wr H a i.toNatClampNeg (.int x)) Q) := W_iastore (rfl : (pj lw).1 27 38 = some (.iastore, 1, 0))
theorem w27_39 {x : Int32} {l0 l1 l2 l3 : Slot} : W (pj lw) 27 39 (l0 :: l1 :: l2 :: l3 :: .val (.int x) :: L) S k n H Q ↔ W (pj lw) 27 42 (l0 :: l1 :: l2 :: l3 :: .val (.int (x + 1)) :: L) S k n H Q := W_s (rfl : (pj lw).1 27 39 = some (.iinc 4 1, 3, 0)) rfl rfl rfl
theorem w27_42 : W (pj lw) 27 42 L S k n H Q ↔ W (pj lw) 27 22 L S k n H Q := W_goto (rfl : (pj lw).1 27 42 = some (.goto (-20), 3, 0)) rfl
theorem w27_45 : W (pj lw) 27 45 L S k n H Q ↔ W (pj lw) 27 46 L (.int 0 :: S) k n H Q := W_s (rfl : (pj lw).1 27 45 = some (.iconst 0, 1, 0)) rfl rfl rfl
theorem w27_46i {y : Int32} {x : Int32} {l0 l1 l2 l3 : Slot} : W (pj lw) 27 46 (l0 :: l1 :: l2 :: l3 :: .val (.int y) :: L) (.int x :: S) k n H Q ↔ W (pj lw) 27 48 (l0 :: l1 :: l2 :: l3 :: .val (.int x) :: L) S k n H Q := W_ist (rfl : (pj lw).1 27 46 = some (.istore 4, 2, 0)) rfl rfl
theorem w27_48 : W (pj lw) 27 48 L S k n H Q ↔ W (pj lw) 27 49 L (.int 0 :: S) k n H Q := W_s (rfl : (pj lw).1 27 48 = some (.iconst 0, 1, 0)) rfl rfl rfl
theorem w27_49 {x : Int32} {l0 l1 l2 l3 l4 : Slot} : W (pj lw) 27 49 (l0 :: l1 :: l2 :: l3 :: l4 :: .unset :: L) (.int x :: S) k n H Q ↔ W (pj lw) 27 51 (l0 :: l1 :: l2 :: l3 :: l4 :: .val (.int x) :: L) S k n H Q := W_ist (rfl : (pj lw).1 27 49 = some (.istore 5, 2, 0)) rfl rfl
theorem w27_51 : W (pj lw) 27 51 L S k n H Q ↔ W (pj lw) 27 52 L (.int 0 :: S) k n H Q := W_s (rfl : (pj lw).1 27 51 = some (.iconst 0, 1, 0)) rfl rfl rfl
theorem w27_52 {x : Int32} {l0 l1 l2 l3 l4 l5 : Slot} : W (pj lw) 27 52 (l0 :: l1 :: l2 :: l3 :: l4 :: l5 :: .unset :: L) (.int x :: S) k n H Q ↔ W (pj lw) 27 54 (l0 :: l1 :: l2 :: l3 :: l4 :: l5 :: .val (.int x) :: L) S k n H Q := W_ist (rfl : (pj lw).1 27 52 = some (.istore 6, 2, 0)) rfl rfl
theorem w27_54 {x : Int32} {l0 l1 l2 l3 l4 l5 : Slot} : W (pj lw) 27 54 (l0 :: l1 :: l2 :: l3 :: l4 :: l5 :: .val (.int x) :: L) S k n H Q ↔ W (pj lw) 27 56 (l0 :: l1 :: l2 :: l3 :: l4 :: l5 :: .val (.int x) :: L) (.int x :: S) k n H Q := W_s (rfl : (pj lw).1 27 54 = some (.iload 6, 2, 0)) rfl rfl rfl
theorem w27_56 {x : Nat} : W (pj lw) 27 56 (.val (.ref x) :: L) S k n H Q ↔ W (pj lw) 27 57 (.val (.ref x) :: L) (.ref x :: S) k n H Q := W_s (rfl : (pj lw).1 27 56 = some (.aload_n 0, 1, 0)) rfl rfl rfl
theorem w27_57 {a : Nat} : W (pj lw) 27 57 L (.ref a :: S) k n H Q ↔ (isO H a = true ∧ W (pj lw) 27 60 L (fld H a 1 :: S) k n H Q) := W_getf (rfl : (pj lw).1 27 57 = some (.getfield 85, 3, 1))
theorem w27_60 {x y : Int32} : W (pj lw) 27 60 L (.int y :: .int x :: S) k n H Q ↔ (if x < y then W (pj lw) 27 63 L S k n H Q else W (pj lw) 27 166 L S k n H Q) := W_icmp_ge (rfl : (pj lw).1 27 60 = some (.if_icmp .ge 106, 3, 0)) rfl
theorem w27_63 {x : Nat} : W (pj lw) 27 63 (.val (.ref x) :: L) S k n H Q ↔ W (pj lw) 27 64 (.val (.ref x) :: L) (.ref x :: S) k n H Q := W_s (rfl : (pj lw).1 27 63 = some (.aload_n 0, 1, 0)) rfl rfl rfl
theorem w27_64 {a : Nat} : W (pj lw) 27 64 L (.ref a :: S) k n H Q ↔ (isO H a = true ∧ W (pj lw) 27 67 L (fld H a 11 :: S) k n H Q) := W_getf (rfl : (pj lw).1 27 64 = some (.getfield 28, 3, 11))
theorem w27_67 {x : Int32} {l0 l1 : Slot} : W (pj lw) 27 67 (l0 :: l1 :: .val (.int x) :: L) S k n H Q ↔ W (pj lw) 27 68 (l0 :: l1 :: .val (.int x) :: L) (.int x :: S) k n H Q := W_s (rfl : (pj lw).1 27 67 = some (.iload_n 2, 1, 0)) rfl rfl rfl
theorem w27_68 {i : Int32} {a : Nat} : W (pj lw) 27 68 L (.int i :: .ref a :: S) k n H Q ↔ (inA H a .int i = true ∧ W (pj lw) 27 69 L (elt H a i :: S) k n H Q) := W_iaload (rfl : (pj lw).1 27 68 = some (.iaload, 1, 0))
theorem w27_69 {x : Int32} {l0 l1 l2 l3 l4 l5 : Slot} : W (pj lw) 27 69 (l0 :: l1 :: l2 :: l3 :: l4 :: l5 :: .val (.int x) :: L) S k n H Q ↔ W (pj lw) 27 71 (l0 :: l1 :: l2 :: l3 :: l4 :: l5 :: .val (.int x) :: L) (.int x :: S) k n H Q := W_s (rfl : (pj lw).1 27 69 = some (.iload 6, 2, 0)) rfl rfl rfl
theorem w27_71 {x y : Int32} : W (pj lw) 27 71 L (.int y :: .int x :: S) k n H Q ↔ W (pj lw) 27 72 L (.int (x >>> (y &&& 31)) :: S) k n H Q := W_s (rfl : (pj lw).1 27 71 = some (.ishr, 1, 0)) rfl rfl rfl
theorem w27_72 : W (pj lw) 27 72 L S k n H Q ↔ W (pj lw) 27 73 L (.int 1 :: S) k n H Q := W_s (rfl : (pj lw).1 27 72 = some (.iconst 1, 1, 0)) rfl rfl rfl
theorem w27_73 {x y : Int32} : W (pj lw) 27 73 L (.int y :: .int x :: S) k n H Q ↔ W (pj lw) 27 74 L (.int (x &&& y) :: S) k n H Q := W_s (rfl : (pj lw).1 27 73 = some (.iand, 1, 0)) rfl rfl rfl
theorem w27_74 {x : Int32} : W (pj lw) 27 74 L (.int x :: S) k n H Q ↔ (if x = 0 then W (pj lw) 27 77 L S k n H Q else W (pj lw) 27 80 L S k n H Q) := W_if_ne (rfl : (pj lw).1 27 74 = some (.ifCond .ne 6, 3, 0)) rfl
theorem w27_77 : W (pj lw) 27 77 L S k n H Q ↔ W (pj lw) 27 160 L S k n H Q := W_goto (rfl : (pj lw).1 27 77 = some (.goto 83, 3, 0)) rfl
theorem w27_80 : W (pj lw) 27 80 L S k n H Q ↔ W (pj lw) 27 81 L (.int 0 :: S) k n H Q := W_s (rfl : (pj lw).1 27 80 = some (.iconst 0, 1, 0)) rfl rfl rfl
theorem w27_81i {y : Int32} {x : Int32} {l0 l1 l2 l3 l4 l5 l6 : Slot} : W (pj lw) 27 81 (l0 :: l1 :: l2 :: l3 :: l4 :: l5 :: l6 :: .val (.int y) :: L) (.int x :: S) k n H Q ↔ W (pj lw) 27 83 (l0 :: l1 :: l2 :: l3 :: l4 :: l5 :: l6 :: .val (.int x) :: L) S k n H Q := W_ist (rfl : (pj lw).1 27 81 = some (.istore 7, 2, 0)) rfl rfl
theorem w27_81 {x : Int32} {l0 l1 l2 l3 l4 l5 l6 : Slot} : W (pj lw) 27 81 (l0 :: l1 :: l2 :: l3 :: l4 :: l5 :: l6 :: .unset :: L) (.int x :: S) k n H Q ↔ W (pj lw) 27 83 (l0 :: l1 :: l2 :: l3 :: l4 :: l5 :: l6 :: .val (.int x) :: L) S k n H Q := W_ist (rfl : (pj lw).1 27 81 = some (.istore 7, 2, 0)) rfl rfl
theorem w27_83 {x : Int32} {l0 l1 l2 l3 l4 l5 l6 : Slot} : W (pj lw) 27 83 (l0 :: l1 :: l2 :: l3 :: l4 :: l5 :: l6 :: .val (.int x) :: L) S k n H Q ↔ W (pj lw) 27 85 (l0 :: l1 :: l2 :: l3 :: l4 :: l5 :: l6 :: .val (.int x) :: L) (.int x :: S) k n H Q := W_s (rfl : (pj lw).1 27 83 = some (.iload 7, 2, 0)) rfl rfl rfl
theorem w27_85 {x : Nat} : W (pj lw) 27 85 (.val (.ref x) :: L) S k n H Q ↔ W (pj lw) 27 86 (.val (.ref x) :: L) (.ref x :: S) k n H Q := W_s (rfl : (pj lw).1 27 85 = some (.aload_n 0, 1, 0)) rfl rfl rfl
theorem w27_86 {a : Nat} : W (pj lw) 27 86 L (.ref a :: S) k n H Q ↔ (isO H a = true ∧ W (pj lw) 27 89 L (fld H a 1 :: S) k n H Q) := W_getf (rfl : (pj lw).1 27 86 = some (.getfield 85, 3, 1))
theorem w27_89 {x y : Int32} : W (pj lw) 27 89 L (.int y :: .int x :: S) k n H Q ↔ (if x < y then W (pj lw) 27 92 L S k n H Q else W (pj lw) 27 160 L S k n H Q) := W_icmp_ge (rfl : (pj lw).1 27 89 = some (.if_icmp .ge 71, 3, 0)) rfl
theorem w27_92 {x : Nat} : W (pj lw) 27 92 (.val (.ref x) :: L) S k n H Q ↔ W (pj lw) 27 93 (.val (.ref x) :: L) (.ref x :: S) k n H Q := W_s (rfl : (pj lw).1 27 92 = some (.aload_n 0, 1, 0)) rfl rfl rfl
theorem w27_93 {a : Nat} : W (pj lw) 27 93 L (.ref a :: S) k n H Q ↔ (isO H a = true ∧ W (pj lw) 27 96 L (fld H a 19 :: S) k n H Q) := W_getf (rfl : (pj lw).1 27 93 = some (.getfield 40, 3, 19))
theorem w27_96 {x : Int32} {l0 l1 l2 l3 l4 l5 : Slot} : W (pj lw) 27 96 (l0 :: l1 :: l2 :: l3 :: l4 :: l5 :: .val (.int x) :: L) S k n H Q ↔ W (pj lw) 27 98 (l0 :: l1 :: l2 :: l3 :: l4 :: l5 :: .val (.int x) :: L) (.int x :: S) k n H Q := W_s (rfl : (pj lw).1 27 96 = some (.iload 6, 2, 0)) rfl rfl rfl
theorem w27_98 : W (pj lw) 27 98 L S k n H Q ↔ W (pj lw) 27 100 L (.int 10 :: S) k n H Q := W_s (rfl : (pj lw).1 27 98 = some (.bipush 10, 2, 0)) rfl rfl rfl
theorem w27_100 {x y : Int32} : W (pj lw) 27 100 L (.int y :: .int x :: S) k n H Q ↔ W (pj lw) 27 101 L (.int (x * y) :: S) k n H Q := W_s (rfl : (pj lw).1 27 100 = some (.imul, 1, 0)) rfl rfl rfl
theorem w27_101 {x : Int32} {l0 l1 l2 l3 l4 l5 l6 : Slot} : W (pj lw) 27 101 (l0 :: l1 :: l2 :: l3 :: l4 :: l5 :: l6 :: .val (.int x) :: L) S k n H Q ↔ W (pj lw) 27 103 (l0 :: l1 :: l2 :: l3 :: l4 :: l5 :: l6 :: .val (.int x) :: L) (.int x :: S) k n H Q := W_s (rfl : (pj lw).1 27 101 = some (.iload 7, 2, 0)) rfl rfl rfl
theorem w27_103 {x y : Int32} : W (pj lw) 27 103 L (.int y :: .int x :: S) k n H Q ↔ W (pj lw) 27 104 L (.int (x + y) :: S) k n H Q := W_s (rfl : (pj lw).1 27 103 = some (.iadd, 1, 0)) rfl rfl rfl
theorem w27_104 {i : Int32} {a : Nat} : W (pj lw) 27 104 L (.int i :: .ref a :: S) k n H Q ↔ (inA H a .int i = true ∧ W (pj lw) 27 105 L (elt H a i :: S) k n H Q) := W_iaload (rfl : (pj lw).1 27 104 = some (.iaload, 1, 0))
theorem w27_105i {y : Int32} {x : Int32} {l0 l1 l2 l3 l4 l5 l6 l7 : Slot} : W (pj lw) 27 105 (l0 :: l1 :: l2 :: l3 :: l4 :: l5 :: l6 :: l7 :: .val (.int y) :: L) (.int x :: S) k n H Q ↔ W (pj lw) 27 107 (l0 :: l1 :: l2 :: l3 :: l4 :: l5 :: l6 :: l7 :: .val (.int x) :: L) S k n H Q := W_ist (rfl : (pj lw).1 27 105 = some (.istore 8, 2, 0)) rfl rfl
theorem w27_105 {x : Int32} {l0 l1 l2 l3 l4 l5 l6 l7 : Slot} : W (pj lw) 27 105 (l0 :: l1 :: l2 :: l3 :: l4 :: l5 :: l6 :: l7 :: .unset :: L) (.int x :: S) k n H Q ↔ W (pj lw) 27 107 (l0 :: l1 :: l2 :: l3 :: l4 :: l5 :: l6 :: l7 :: .val (.int x) :: L) S k n H Q := W_ist (rfl : (pj lw).1 27 105 = some (.istore 8, 2, 0)) rfl rfl
theorem w27_107 {x : Nat} : W (pj lw) 27 107 (.val (.ref x) :: L) S k n H Q ↔ W (pj lw) 27 108 (.val (.ref x) :: L) (.ref x :: S) k n H Q := W_s (rfl : (pj lw).1 27 107 = some (.aload_n 0, 1, 0)) rfl rfl rfl
theorem w27_108 {a : Nat} : W (pj lw) 27 108 L (.ref a :: S) k n H Q ↔ (isO H a = true ∧ W (pj lw) 27 111 L (fld H a 11 :: S) k n H Q) := W_getf (rfl : (pj lw).1 27 108 = some (.getfield 28, 3, 11))
theorem w27_111 {x : Int32} {l0 l1 l2 : Slot} : W (pj lw) 27 111 (l0 :: l1 :: l2 :: .val (.int x) :: L) S k n H Q ↔ W (pj lw) 27 112 (l0 :: l1 :: l2 :: .val (.int x) :: L) (.int x :: S) k n H Q := W_s (rfl : (pj lw).1 27 111 = some (.iload_n 3, 1, 0)) rfl rfl rfl
theorem w27_112 {i : Int32} {a : Nat} : W (pj lw) 27 112 L (.int i :: .ref a :: S) k n H Q ↔ (inA H a .int i = true ∧ W (pj lw) 27 113 L (elt H a i :: S) k n H Q) := W_iaload (rfl : (pj lw).1 27 112 = some (.iaload, 1, 0))
theorem w27_113 {x : Int32} {l0 l1 l2 l3 l4 l5 l6 : Slot} : W (pj lw) 27 113 (l0 :: l1 :: l2 :: l3 :: l4 :: l5 :: l6 :: .val (.int x) :: L) S k n H Q ↔ W (pj lw) 27 115 (l0 :: l1 :: l2 :: l3 :: l4 :: l5 :: l6 :: .val (.int x) :: L) (.int x :: S) k n H Q := W_s (rfl : (pj lw).1 27 113 = some (.iload 7, 2, 0)) rfl rfl rfl
theorem w27_115 {x y : Int32} : W (pj lw) 27 115 L (.int y :: .int x :: S) k n H Q ↔ W (pj lw) 27 116 L (.int (x >>> (y &&& 31)) :: S) k n H Q := W_s (rfl : (pj lw).1 27 115 = some (.ishr, 1, 0)) rfl rfl rfl
theorem w27_116 : W (pj lw) 27 116 L S k n H Q ↔ W (pj lw) 27 117 L (.int 1 :: S) k n H Q := W_s (rfl : (pj lw).1 27 116 = some (.iconst 1, 1, 0)) rfl rfl rfl
theorem w27_117 {x y : Int32} : W (pj lw) 27 117 L (.int y :: .int x :: S) k n H Q ↔ W (pj lw) 27 118 L (.int (x &&& y) :: S) k n H Q := W_s (rfl : (pj lw).1 27 117 = some (.iand, 1, 0)) rfl rfl rfl
theorem w27_118 {x : Int32} : W (pj lw) 27 118 L (.int x :: S) k n H Q ↔ (if x = 0 then W (pj lw) 27 154 L S k n H Q else W (pj lw) 27 121 L S k n H Q) := W_if_eq (rfl : (pj lw).1 27 118 = some (.ifCond .eq 36, 3, 0)) rfl
theorem w27_121 {x : Nat} : W (pj lw) 27 121 (.val (.ref x) :: L) S k n H Q ↔ W (pj lw) 27 122 (.val (.ref x) :: L) (.ref x :: S) k n H Q := W_s (rfl : (pj lw).1 27 121 = some (.aload_n 0, 1, 0)) rfl rfl rfl
theorem w27_122 {x : Int32} {l0 l1 l2 l3 l4 l5 l6 l7 : Slot} : W (pj lw) 27 122 (l0 :: l1 :: l2 :: l3 :: l4 :: l5 :: l6 :: l7 :: .val (.int x) :: L) S k n H Q ↔ W (pj lw) 27 124 (l0 :: l1 :: l2 :: l3 :: l4 :: l5 :: l6 :: l7 :: .val (.int x) :: L) (.int x :: S) k n H Q := W_s (rfl : (pj lw).1 27 122 = some (.iload 8, 2, 0)) rfl rfl rfl
theorem w27_124 {a : Nat} {x0 : Int32} : W (pj lw) 27 124 L (.int x0 :: .ref a :: S) k n H Q ↔ ((isO H a = true ∧ cs S + (3 + 11) + 0 ≤ 19) ∧ Cl (pj lw) 24 [.ref a, .int x0] H (fun v H => W (pj lw) 27 127 L (v.toList ++ S) k n H Q)) := W_inst (as := [.int x0]) (rfl : (pj lw).1 27 124 = some (.invokevirtual 137, 3, 24)) rfl rfl rfl (Nat.le_of_ble_eq_true rfl) (Nat.le_of_ble_eq_true rfl) ⟨rfl, rfl⟩
theorem w27_127 {x : Int32} : W (pj lw) 27 127 L (.int x :: S) k n H Q ↔ (if x = 0 then W (pj lw) 27 154 L S k n H Q else W (pj lw) 27 130 L S k n H Q) := W_if_eq (rfl : (pj lw).1 27 127 = some (.ifCond .eq 27, 3, 0)) rfl
theorem w27_130 {x : Int32} {l0 l1 l2 l3 : Slot} : W (pj lw) 27 130 (l0 :: l1 :: l2 :: l3 :: .val (.int x) :: L) S k n H Q ↔ W (pj lw) 27 132 (l0 :: l1 :: l2 :: l3 :: .val (.int x) :: L) (.int x :: S) k n H Q := W_s (rfl : (pj lw).1 27 130 = some (.iload 4, 2, 0)) rfl rfl rfl
theorem w27_132 : W (pj lw) 27 132 L S k n H Q ↔ W (pj lw) 27 133 L (.int 1 :: S) k n H Q := W_s (rfl : (pj lw).1 27 132 = some (.iconst 1, 1, 0)) rfl rfl rfl
theorem w27_133 {x : Int32} {l0 l1 l2 l3 l4 l5 : Slot} : W (pj lw) 27 133 (l0 :: l1 :: l2 :: l3 :: l4 :: l5 :: .val (.int x) :: L) S k n H Q ↔ W (pj lw) 27 135 (l0 :: l1 :: l2 :: l3 :: l4 :: l5 :: .val (.int x) :: L) (.int x :: S) k n H Q := W_s (rfl : (pj lw).1 27 133 = some (.iload 6, 2, 0)) rfl rfl rfl
theorem w27_135 {x y : Int32} : W (pj lw) 27 135 L (.int y :: .int x :: S) k n H Q ↔ W (pj lw) 27 136 L (.int (x <<< (y &&& 31)) :: S) k n H Q := W_s (rfl : (pj lw).1 27 135 = some (.ishl, 1, 0)) rfl rfl rfl
theorem w27_136 {x y : Int32} : W (pj lw) 27 136 L (.int y :: .int x :: S) k n H Q ↔ W (pj lw) 27 137 L (.int (x ||| y) :: S) k n H Q := W_s (rfl : (pj lw).1 27 136 = some (.ior, 1, 0)) rfl rfl rfl
theorem w27_137i {y : Int32} {x : Int32} {l0 l1 l2 l3 : Slot} : W (pj lw) 27 137 (l0 :: l1 :: l2 :: l3 :: .val (.int y) :: L) (.int x :: S) k n H Q ↔ W (pj lw) 27 139 (l0 :: l1 :: l2 :: l3 :: .val (.int x) :: L) S k n H Q := W_ist (rfl : (pj lw).1 27 137 = some (.istore 4, 2, 0)) rfl rfl
theorem w27_139 {x : Int32} {l0 l1 l2 l3 l4 : Slot} : W (pj lw) 27 139 (l0 :: l1 :: l2 :: l3 :: l4 :: .val (.int x) :: L) S k n H Q ↔ W (pj lw) 27 141 (l0 :: l1 :: l2 :: l3 :: l4 :: .val (.int x) :: L) (.int x :: S) k n H Q := W_s (rfl : (pj lw).1 27 139 = some (.iload 5, 2, 0)) rfl rfl rfl
theorem w27_141 : W (pj lw) 27 141 L S k n H Q ↔ W (pj lw) 27 142 L (.int 1 :: S) k n H Q := W_s (rfl : (pj lw).1 27 141 = some (.iconst 1, 1, 0)) rfl rfl rfl
theorem w27_142 {x : Int32} {l0 l1 l2 l3 l4 l5 l6 : Slot} : W (pj lw) 27 142 (l0 :: l1 :: l2 :: l3 :: l4 :: l5 :: l6 :: .val (.int x) :: L) S k n H Q ↔ W (pj lw) 27 144 (l0 :: l1 :: l2 :: l3 :: l4 :: l5 :: l6 :: .val (.int x) :: L) (.int x :: S) k n H Q := W_s (rfl : (pj lw).1 27 142 = some (.iload 7, 2, 0)) rfl rfl rfl
theorem w27_144 {x y : Int32} : W (pj lw) 27 144 L (.int y :: .int x :: S) k n H Q ↔ W (pj lw) 27 145 L (.int (x <<< (y &&& 31)) :: S) k n H Q := W_s (rfl : (pj lw).1 27 144 = some (.ishl, 1, 0)) rfl rfl rfl
theorem w27_145 {x y : Int32} : W (pj lw) 27 145 L (.int y :: .int x :: S) k n H Q ↔ W (pj lw) 27 146 L (.int (x ||| y) :: S) k n H Q := W_s (rfl : (pj lw).1 27 145 = some (.ior, 1, 0)) rfl rfl rfl
theorem w27_146i {y : Int32} {x : Int32} {l0 l1 l2 l3 l4 : Slot} : W (pj lw) 27 146 (l0 :: l1 :: l2 :: l3 :: l4 :: .val (.int y) :: L) (.int x :: S) k n H Q ↔ W (pj lw) 27 148 (l0 :: l1 :: l2 :: l3 :: l4 :: .val (.int x) :: L) S k n H Q := W_ist (rfl : (pj lw).1 27 146 = some (.istore 5, 2, 0)) rfl rfl
theorem w27_148 {x : Nat} : W (pj lw) 27 148 (.val (.ref x) :: L) S k n H Q ↔ W (pj lw) 27 149 (.val (.ref x) :: L) (.ref x :: S) k n H Q := W_s (rfl : (pj lw).1 27 148 = some (.aload_n 0, 1, 0)) rfl rfl rfl
theorem w27_149 {x : Int32} {l0 l1 l2 l3 l4 l5 l6 l7 : Slot} : W (pj lw) 27 149 (l0 :: l1 :: l2 :: l3 :: l4 :: l5 :: l6 :: l7 :: .val (.int x) :: L) S k n H Q ↔ W (pj lw) 27 151 (l0 :: l1 :: l2 :: l3 :: l4 :: l5 :: l6 :: l7 :: .val (.int x) :: L) (.int x :: S) k n H Q := W_s (rfl : (pj lw).1 27 149 = some (.iload 8, 2, 0)) rfl rfl rfl
theorem w27_151 {a : Nat} {x0 : Int32} : W (pj lw) 27 151 L (.int x0 :: .ref a :: S) k n H Q ↔ ((isO H a = true ∧ cs S + (3 + 11) + 0 ≤ 19) ∧ Cl (pj lw) 25 [.ref a, .int x0] H (fun v H => W (pj lw) 27 154 L (v.toList ++ S) k n H Q)) := W_inst (as := [.int x0]) (rfl : (pj lw).1 27 151 = some (.invokevirtual 140, 3, 25)) rfl rfl rfl (Nat.le_of_ble_eq_true rfl) (Nat.le_of_ble_eq_true rfl) ⟨rfl, rfl⟩
theorem w27_154 {x : Int32} {l0 l1 l2 l3 l4 l5 l6 : Slot} : W (pj lw) 27 154 (l0 :: l1 :: l2 :: l3 :: l4 :: l5 :: l6 :: .val (.int x) :: L) S k n H Q ↔ W (pj lw) 27 157 (l0 :: l1 :: l2 :: l3 :: l4 :: l5 :: l6 :: .val (.int (x + 1)) :: L) S k n H Q := W_s (rfl : (pj lw).1 27 154 = some (.iinc 7 1, 3, 0)) rfl rfl rfl
theorem w27_157 : W (pj lw) 27 157 L S k n H Q ↔ W (pj lw) 27 83 L S k n H Q := W_goto (rfl : (pj lw).1 27 157 = some (.goto (-74), 3, 0)) rfl
theorem w27_160 {x : Int32} {l0 l1 l2 l3 l4 l5 : Slot} : W (pj lw) 27 160 (l0 :: l1 :: l2 :: l3 :: l4 :: l5 :: .val (.int x) :: L) S k n H Q ↔ W (pj lw) 27 163 (l0 :: l1 :: l2 :: l3 :: l4 :: l5 :: .val (.int (x + 1)) :: L) S k n H Q := W_s (rfl : (pj lw).1 27 160 = some (.iinc 6 1, 3, 0)) rfl rfl rfl
theorem w27_163 : W (pj lw) 27 163 L S k n H Q ↔ W (pj lw) 27 54 L S k n H Q := W_goto (rfl : (pj lw).1 27 163 = some (.goto (-109), 3, 0)) rfl
theorem w27_166 {x : Nat} : W (pj lw) 27 166 (.val (.ref x) :: L) S k n H Q ↔ W (pj lw) 27 167 (.val (.ref x) :: L) (.ref x :: S) k n H Q := W_s (rfl : (pj lw).1 27 166 = some (.aload_n 0, 1, 0)) rfl rfl rfl
theorem w27_167 {x : Int32} {l0 l1 : Slot} : W (pj lw) 27 167 (l0 :: l1 :: .val (.int x) :: L) S k n H Q ↔ W (pj lw) 27 168 (l0 :: l1 :: .val (.int x) :: L) (.int x :: S) k n H Q := W_s (rfl : (pj lw).1 27 167 = some (.iload_n 2, 1, 0)) rfl rfl rfl
theorem w27_168 {x : Int32} {l0 l1 l2 : Slot} : W (pj lw) 27 168 (l0 :: l1 :: l2 :: .val (.int x) :: L) S k n H Q ↔ W (pj lw) 27 169 (l0 :: l1 :: l2 :: .val (.int x) :: L) (.int x :: S) k n H Q := W_s (rfl : (pj lw).1 27 168 = some (.iload_n 3, 1, 0)) rfl rfl rfl
theorem w27_169 {x : Int32} {l0 l1 l2 l3 : Slot} : W (pj lw) 27 169 (l0 :: l1 :: l2 :: l3 :: .val (.int x) :: L) S k n H Q ↔ W (pj lw) 27 171 (l0 :: l1 :: l2 :: l3 :: .val (.int x) :: L) (.int x :: S) k n H Q := W_s (rfl : (pj lw).1 27 169 = some (.iload 4, 2, 0)) rfl rfl rfl
theorem w27_171 {x : Int32} {l0 l1 l2 l3 l4 : Slot} : W (pj lw) 27 171 (l0 :: l1 :: l2 :: l3 :: l4 :: .val (.int x) :: L) S k n H Q ↔ W (pj lw) 27 173 (l0 :: l1 :: l2 :: l3 :: l4 :: .val (.int x) :: L) (.int x :: S) k n H Q := W_s (rfl : (pj lw).1 27 171 = some (.iload 5, 2, 0)) rfl rfl rfl
theorem w27_173 {a : Nat} {x0 : Int32} {x1 : Int32} {x2 : Int32} {x3 : Int32} : W (pj lw) 27 173 L (.int x3 :: .int x2 :: .int x1 :: .int x0 :: .ref a :: S) k n H Q ↔ ((isO H a = true ∧ cs S + (8 + 11) + 0 ≤ 19) ∧ Cl (pj lw) 28 [.ref a, .int x0, .int x1, .int x2, .int x3] H (fun v H => W (pj lw) 27 176 L (v.toList ++ S) k n H Q)) := W_inst (as := [.int x0, .int x1, .int x2, .int x3]) (rfl : (pj lw).1 27 173 = some (.invokevirtual 143, 3, 28)) rfl rfl rfl (Nat.le_of_ble_eq_true rfl) (Nat.le_of_ble_eq_true rfl) ⟨rfl, rfl⟩
theorem w27_176 {x : Int32} : W (pj lw) 27 176 L (.int x :: S) k n H Q ↔ ((x = 0 ∨ x = 1) ∧ Q (some (.int x)) H) := W_rz (rfl : (pj lw).1 27 176 = some (.ireturn, 1, 0)) rfl
theorem c28 {x0 : Nat} {x1 : Int32} {x2 : Int32} {x3 : Int32} {x4 : Int32} : Cl (pj lw) 28 [.ref x0, .int x1, .int x2, .int x3, .int x4] H Q ↔ W (pj lw) 28 0 [.val (.ref x0), .val (.int x1), .val (.int x2), .val (.int x3), .val (.int x4), .unset, .unset, .unset] [] 0 0 H Q := cl_unf rfl
theorem w28_0 : W (pj lw) 28 0 L S k n H Q ↔ W (pj lw) 28 1 L (.int 0 :: S) k n H Q := W_s (rfl : (pj lw).1 28 0 = some (.iconst 0, 1, 0)) rfl rfl rfl
theorem w28_1 {x : Int32} {l0 l1 l2 l3 l4 : Slot} : W (pj lw) 28 1 (l0 :: l1 :: l2 :: l3 :: l4 :: .unset :: L) (.int x :: S) k n H Q ↔ W (pj lw) 28 3 (l0 :: l1 :: l2 :: l3 :: l4 :: .val (.int x) :: L) S k n H Q := W_ist (rfl : (pj lw).1 28 1 = some (.istore 5, 2, 0)) rfl rfl
theorem w28_3 {x : Nat} : W (pj lw) 28 3 (.val (.ref x) :: L) S k n H Q ↔ W (pj lw) 28 4 (.val (.ref x) :: L) (.ref x :: S) k n H Q := W_s (rfl : (pj lw).1 28 3 = some (.aload_n 0, 1, 0)) rfl rfl rfl
theorem w28_4 {a : Nat} : W (pj lw) 28 4 L (.ref a :: S) k n H Q ↔ (isO H a = true ∧ W (pj lw) 28 7 L (fld H a 11 :: S) k n H Q) := W_getf (rfl : (pj lw).1 28 4 = some (.getfield 28, 3, 11))
theorem w28_7 {x : Int32} {l0 : Slot} : W (pj lw) 28 7 (l0 :: .val (.int x) :: L) S k n H Q ↔ W (pj lw) 28 8 (l0 :: .val (.int x) :: L) (.int x :: S) k n H Q := W_s (rfl : (pj lw).1 28 7 = some (.iload_n 1, 1, 0)) rfl rfl rfl
theorem w28_8 {i : Int32} {a : Nat} : W (pj lw) 28 8 L (.int i :: .ref a :: S) k n H Q ↔ (inA H a .int i = true ∧ W (pj lw) 28 9 L (elt H a i :: S) k n H Q) := W_iaload (rfl : (pj lw).1 28 8 = some (.iaload, 1, 0))
theorem w28_9 {x : Int32} {l0 l1 l2 : Slot} : W (pj lw) 28 9 (l0 :: l1 :: l2 :: .val (.int x) :: L) S k n H Q ↔ W (pj lw) 28 10 (l0 :: l1 :: l2 :: .val (.int x) :: L) (.int x :: S) k n H Q := W_s (rfl : (pj lw).1 28 9 = some (.iload_n 3, 1, 0)) rfl rfl rfl
theorem w28_10 {x y : Int32} : W (pj lw) 28 10 L (.int y :: .int x :: S) k n H Q ↔ W (pj lw) 28 11 L (.int (x &&& y) :: S) k n H Q := W_s (rfl : (pj lw).1 28 10 = some (.iand, 1, 0)) rfl rfl rfl
theorem w28_11 {x : Nat} : W (pj lw) 28 11 (.val (.ref x) :: L) S k n H Q ↔ W (pj lw) 28 12 (.val (.ref x) :: L) (.ref x :: S) k n H Q := W_s (rfl : (pj lw).1 28 11 = some (.aload_n 0, 1, 0)) rfl rfl rfl
theorem w28_12 {a : Nat} : W (pj lw) 28 12 L (.ref a :: S) k n H Q ↔ (isO H a = true ∧ W (pj lw) 28 15 L (fld H a 11 :: S) k n H Q) := W_getf (rfl : (pj lw).1 28 12 = some (.getfield 28, 3, 11))
theorem w28_15 {x : Int32} {l0 : Slot} : W (pj lw) 28 15 (l0 :: .val (.int x) :: L) S k n H Q ↔ W (pj lw) 28 16 (l0 :: .val (.int x) :: L) (.int x :: S) k n H Q := W_s (rfl : (pj lw).1 28 15 = some (.iload_n 1, 1, 0)) rfl rfl rfl
theorem w28_16 {i : Int32} {a : Nat} : W (pj lw) 28 16 L (.int i :: .ref a :: S) k n H Q ↔ (inA H a .int i = true ∧ W (pj lw) 28 17 L (elt H a i :: S) k n H Q) := W_iaload (rfl : (pj lw).1 28 16 = some (.iaload, 1, 0))
theorem w28_17 {x y : Int32} : W (pj lw) 28 17 L (.int y :: .int x :: S) k n H Q ↔ (if x = y then W (pj lw) 28 33 L S k n H Q else W (pj lw) 28 20 L S k n H Q) := W_icmp_eq (rfl : (pj lw).1 28 17 = some (.if_icmp .eq 16, 3, 0)) rfl
theorem w28_20 {x : Nat} : W (pj lw) 28 20 (.val (.ref x) :: L) S k n H Q ↔ W (pj lw) 28 21 (.val (.ref x) :: L) (.ref x :: S) k n H Q := W_s (rfl : (pj lw).1 28 20 = some (.aload_n 0, 1, 0)) rfl rfl rfl
theorem w28_21 {a : Nat} : W (pj lw) 28 21 L (.ref a :: S) k n H Q ↔ (isO H a = true ∧ W (pj lw) 28 24 L (fld H a 11 :: S) k n H Q) := W_getf (rfl : (pj lw).1 28 21 = some (.getfield 28, 3, 11))
theorem w28_24 {x : Int32} {l0 : Slot} : W (pj lw) 28 24 (l0 :: .val (.int x) :: L) S k n H Q ↔ W (pj lw) 28 25 (l0 :: .val (.int x) :: L) (.int x :: S) k n H Q := W_s (rfl : (pj lw).1 28 24 = some (.iload_n 1, 1, 0)) rfl rfl rfl
theorem w28_25 {x : Int32} {y : Nat} : W (pj lw) 28 25 L (.int x :: .ref y :: S) k n H Q ↔ W (pj lw) 28 26 L (.int x :: .ref y :: .int x :: .ref y :: S) k n H Q := W_s (rfl : (pj lw).1 28 25 = some (.dup2, 1, 0)) rfl rfl rfl
theorem w28_26 {i : Int32} {a : Nat} : W (pj lw) 28 26 L (.int i :: .ref a :: S) k n H Q ↔ (inA H a .int i = true ∧ W (pj lw) 28 27 L (elt H a i :: S) k n H Q) := W_iaload (rfl : (pj lw).1 28 26 = some (.iaload, 1, 0))
theorem w28_27 {x : Int32} {l0 l1 l2 : Slot} : W (pj lw) 28 27 (l0 :: l1 :: l2 :: .val (.int x) :: L) S k n H Q ↔ W (pj lw) 28 28 (l0 :: l1 :: l2 :: .val (.int x) :: L) (.int x :: S) k n H Q := W_s (rfl : (pj lw).1 28 27 = some (.iload_n 3, 1, 0)) rfl rfl rfl
theorem w28_28 {x y : Int32} : W (pj lw) 28 28 L (.int y :: .int x :: S) k n H Q ↔ W (pj lw) 28 29 L (.int (x &&& y) :: S) k n H Q := W_s (rfl : (pj lw).1 28 28 = some (.iand, 1, 0)) rfl rfl rfl
theorem w28_29 {x i : Int32} {a : Nat} : W (pj lw) 28 29 L (.int x :: .int i :: .ref a :: S) k n H Q ↔ (inAw H a .int i = true ∧ W (pj lw) 28 30 L S k n (wr H a i.toNatClampNeg (.int x)) Q) := W_iastore (rfl : (pj lw).1 28 29 = some (.iastore, 1, 0))
theorem w28_30 : W (pj lw) 28 30 L S k n H Q ↔ W (pj lw) 28 31 L (.int 1 :: S) k n H Q := W_s (rfl : (pj lw).1 28 30 = some (.iconst 1, 1, 0)) rfl rfl rfl
theorem w28_31i {y : Int32} {x : Int32} {l0 l1 l2 l3 l4 : Slot} : W (pj lw) 28 31 (l0 :: l1 :: l2 :: l3 :: l4 :: .val (.int y) :: L) (.int x :: S) k n H Q ↔ W (pj lw) 28 33 (l0 :: l1 :: l2 :: l3 :: l4 :: .val (.int x) :: L) S k n H Q := W_ist (rfl : (pj lw).1 28 31 = some (.istore 5, 2, 0)) rfl rfl
theorem w28_33 {x : Nat} : W (pj lw) 28 33 (.val (.ref x) :: L) S k n H Q ↔ W (pj lw) 28 34 (.val (.ref x) :: L) (.ref x :: S) k n H Q := W_s (rfl : (pj lw).1 28 33 = some (.aload_n 0, 1, 0)) rfl rfl rfl
theorem w28_34 {a : Nat} : W (pj lw) 28 34 L (.ref a :: S) k n H Q ↔ (isO H a = true ∧ W (pj lw) 28 37 L (fld H a 11 :: S) k n H Q) := W_getf (rfl : (pj lw).1 28 34 = some (.getfield 28, 3, 11))
theorem w28_37 {x : Int32} {l0 l1 : Slot} : W (pj lw) 28 37 (l0 :: l1 :: .val (.int x) :: L) S k n H Q ↔ W (pj lw) 28 38 (l0 :: l1 :: .val (.int x) :: L) (.int x :: S) k n H Q := W_s (rfl : (pj lw).1 28 37 = some (.iload_n 2, 1, 0)) rfl rfl rfl
theorem w28_38 {i : Int32} {a : Nat} : W (pj lw) 28 38 L (.int i :: .ref a :: S) k n H Q ↔ (inA H a .int i = true ∧ W (pj lw) 28 39 L (elt H a i :: S) k n H Q) := W_iaload (rfl : (pj lw).1 28 38 = some (.iaload, 1, 0))
theorem w28_39 {x : Int32} {l0 l1 l2 l3 : Slot} : W (pj lw) 28 39 (l0 :: l1 :: l2 :: l3 :: .val (.int x) :: L) S k n H Q ↔ W (pj lw) 28 41 (l0 :: l1 :: l2 :: l3 :: .val (.int x) :: L) (.int x :: S) k n H Q := W_s (rfl : (pj lw).1 28 39 = some (.iload 4, 2, 0)) rfl rfl rfl
theorem w28_41 {x y : Int32} : W (pj lw) 28 41 L (.int y :: .int x :: S) k n H Q ↔ W (pj lw) 28 42 L (.int (x &&& y) :: S) k n H Q := W_s (rfl : (pj lw).1 28 41 = some (.iand, 1, 0)) rfl rfl rfl
theorem w28_42 {x : Nat} : W (pj lw) 28 42 (.val (.ref x) :: L) S k n H Q ↔ W (pj lw) 28 43 (.val (.ref x) :: L) (.ref x :: S) k n H Q := W_s (rfl : (pj lw).1 28 42 = some (.aload_n 0, 1, 0)) rfl rfl rfl
theorem w28_43 {a : Nat} : W (pj lw) 28 43 L (.ref a :: S) k n H Q ↔ (isO H a = true ∧ W (pj lw) 28 46 L (fld H a 11 :: S) k n H Q) := W_getf (rfl : (pj lw).1 28 43 = some (.getfield 28, 3, 11))
theorem w28_46 {x : Int32} {l0 l1 : Slot} : W (pj lw) 28 46 (l0 :: l1 :: .val (.int x) :: L) S k n H Q ↔ W (pj lw) 28 47 (l0 :: l1 :: .val (.int x) :: L) (.int x :: S) k n H Q := W_s (rfl : (pj lw).1 28 46 = some (.iload_n 2, 1, 0)) rfl rfl rfl
theorem w28_47 {i : Int32} {a : Nat} : W (pj lw) 28 47 L (.int i :: .ref a :: S) k n H Q ↔ (inA H a .int i = true ∧ W (pj lw) 28 48 L (elt H a i :: S) k n H Q) := W_iaload (rfl : (pj lw).1 28 47 = some (.iaload, 1, 0))
theorem w28_48 {x y : Int32} : W (pj lw) 28 48 L (.int y :: .int x :: S) k n H Q ↔ (if x = y then W (pj lw) 28 65 L S k n H Q else W (pj lw) 28 51 L S k n H Q) := W_icmp_eq (rfl : (pj lw).1 28 48 = some (.if_icmp .eq 17, 3, 0)) rfl
theorem w28_51 {x : Nat} : W (pj lw) 28 51 (.val (.ref x) :: L) S k n H Q ↔ W (pj lw) 28 52 (.val (.ref x) :: L) (.ref x :: S) k n H Q := W_s (rfl : (pj lw).1 28 51 = some (.aload_n 0, 1, 0)) rfl rfl rfl
theorem w28_52 {a : Nat} : W (pj lw) 28 52 L (.ref a :: S) k n H Q ↔ (isO H a = true ∧ W (pj lw) 28 55 L (fld H a 11 :: S) k n H Q) := W_getf (rfl : (pj lw).1 28 52 = some (.getfield 28, 3, 11))
theorem w28_55 {x : Int32} {l0 l1 : Slot} : W (pj lw) 28 55 (l0 :: l1 :: .val (.int x) :: L) S k n H Q ↔ W (pj lw) 28 56 (l0 :: l1 :: .val (.int x) :: L) (.int x :: S) k n H Q := W_s (rfl : (pj lw).1 28 55 = some (.iload_n 2, 1, 0)) rfl rfl rfl
theorem w28_56 {x : Int32} {y : Nat} : W (pj lw) 28 56 L (.int x :: .ref y :: S) k n H Q ↔ W (pj lw) 28 57 L (.int x :: .ref y :: .int x :: .ref y :: S) k n H Q := W_s (rfl : (pj lw).1 28 56 = some (.dup2, 1, 0)) rfl rfl rfl
theorem w28_57 {i : Int32} {a : Nat} : W (pj lw) 28 57 L (.int i :: .ref a :: S) k n H Q ↔ (inA H a .int i = true ∧ W (pj lw) 28 58 L (elt H a i :: S) k n H Q) := W_iaload (rfl : (pj lw).1 28 57 = some (.iaload, 1, 0))
theorem w28_58 {x : Int32} {l0 l1 l2 l3 : Slot} : W (pj lw) 28 58 (l0 :: l1 :: l2 :: l3 :: .val (.int x) :: L) S k n H Q ↔ W (pj lw) 28 60 (l0 :: l1 :: l2 :: l3 :: .val (.int x) :: L) (.int x :: S) k n H Q := W_s (rfl : (pj lw).1 28 58 = some (.iload 4, 2, 0)) rfl rfl rfl
theorem w28_60 {x y : Int32} : W (pj lw) 28 60 L (.int y :: .int x :: S) k n H Q ↔ W (pj lw) 28 61 L (.int (x &&& y) :: S) k n H Q := W_s (rfl : (pj lw).1 28 60 = some (.iand, 1, 0)) rfl rfl rfl
theorem w28_61 {x i : Int32} {a : Nat} : W (pj lw) 28 61 L (.int x :: .int i :: .ref a :: S) k n H Q ↔ (inAw H a .int i = true ∧ W (pj lw) 28 62 L S k n (wr H a i.toNatClampNeg (.int x)) Q) := W_iastore (rfl : (pj lw).1 28 61 = some (.iastore, 1, 0))
theorem w28_62 : W (pj lw) 28 62 L S k n H Q ↔ W (pj lw) 28 63 L (.int 1 :: S) k n H Q := W_s (rfl : (pj lw).1 28 62 = some (.iconst 1, 1, 0)) rfl rfl rfl
theorem w28_63i {y : Int32} {x : Int32} {l0 l1 l2 l3 l4 : Slot} : W (pj lw) 28 63 (l0 :: l1 :: l2 :: l3 :: l4 :: .val (.int y) :: L) (.int x :: S) k n H Q ↔ W (pj lw) 28 65 (l0 :: l1 :: l2 :: l3 :: l4 :: .val (.int x) :: L) S k n H Q := W_ist (rfl : (pj lw).1 28 63 = some (.istore 5, 2, 0)) rfl rfl
theorem w28_65 : W (pj lw) 28 65 L S k n H Q ↔ W (pj lw) 28 66 L (.int 0 :: S) k n H Q := W_s (rfl : (pj lw).1 28 65 = some (.iconst 0, 1, 0)) rfl rfl rfl
theorem w28_66 {x : Int32} {l0 l1 l2 l3 l4 l5 : Slot} : W (pj lw) 28 66 (l0 :: l1 :: l2 :: l3 :: l4 :: l5 :: .unset :: L) (.int x :: S) k n H Q ↔ W (pj lw) 28 68 (l0 :: l1 :: l2 :: l3 :: l4 :: l5 :: .val (.int x) :: L) S k n H Q := W_ist (rfl : (pj lw).1 28 66 = some (.istore 6, 2, 0)) rfl rfl
theorem w28_68 {x : Int32} {l0 l1 l2 l3 l4 l5 : Slot} : W (pj lw) 28 68 (l0 :: l1 :: l2 :: l3 :: l4 :: l5 :: .val (.int x) :: L) S k n H Q ↔ W (pj lw) 28 70 (l0 :: l1 :: l2 :: l3 :: l4 :: l5 :: .val (.int x) :: L) (.int x :: S) k n H Q := W_s (rfl : (pj lw).1 28 68 = some (.iload 6, 2, 0)) rfl rfl rfl
theorem w28_70 {x : Nat} : W (pj lw) 28 70 (.val (.ref x) :: L) S k n H Q ↔ W (pj lw) 28 71 (.val (.ref x) :: L) (.ref x :: S) k n H Q := W_s (rfl : (pj lw).1 28 70 = some (.aload_n 0, 1, 0)) rfl rfl rfl
theorem w28_71 {a : Nat} : W (pj lw) 28 71 L (.ref a :: S) k n H Q ↔ (isO H a = true ∧ W (pj lw) 28 74 L (fld H a 22 :: S) k n H Q) := W_getf (rfl : (pj lw).1 28 71 = some (.getfield 82, 3, 22))
theorem w28_74 {x y : Int32} : W (pj lw) 28 74 L (.int y :: .int x :: S) k n H Q ↔ (if x < y then W (pj lw) 28 77 L S k n H Q else W (pj lw) 28 137 L S k n H Q) := W_icmp_ge (rfl : (pj lw).1 28 74 = some (.if_icmp .ge 63, 3, 0)) rfl
theorem w28_77 {x : Nat} : W (pj lw) 28 77 (.val (.ref x) :: L) S k n H Q ↔ W (pj lw) 28 78 (.val (.ref x) :: L) (.ref x :: S) k n H Q := W_s (rfl : (pj lw).1 28 77 = some (.aload_n 0, 1, 0)) rfl rfl rfl
theorem w28_78 {a : Nat} : W (pj lw) 28 78 L (.ref a :: S) k n H Q ↔ (isO H a = true ∧ W (pj lw) 28 81 L (fld H a 20 :: S) k n H Q) := W_getf (rfl : (pj lw).1 28 78 = some (.getfield 43, 3, 20))
theorem w28_81 {x : Int32} {l0 l1 l2 l3 l4 l5 : Slot} : W (pj lw) 28 81 (l0 :: l1 :: l2 :: l3 :: l4 :: l5 :: .val (.int x) :: L) S k n H Q ↔ W (pj lw) 28 83 (l0 :: l1 :: l2 :: l3 :: l4 :: l5 :: .val (.int x) :: L) (.int x :: S) k n H Q := W_s (rfl : (pj lw).1 28 81 = some (.iload 6, 2, 0)) rfl rfl rfl
theorem w28_83 {i : Int32} {a : Nat} : W (pj lw) 28 83 L (.int i :: .ref a :: S) k n H Q ↔ (inA H a .int i = true ∧ W (pj lw) 28 84 L (elt H a i :: S) k n H Q) := W_iaload (rfl : (pj lw).1 28 83 = some (.iaload, 1, 0))
theorem w28_84i {y : Int32} {x : Int32} {l0 l1 l2 l3 l4 l5 l6 : Slot} : W (pj lw) 28 84 (l0 :: l1 :: l2 :: l3 :: l4 :: l5 :: l6 :: .val (.int y) :: L) (.int x :: S) k n H Q ↔ W (pj lw) 28 86 (l0 :: l1 :: l2 :: l3 :: l4 :: l5 :: l6 :: .val (.int x) :: L) S k n H Q := W_ist (rfl : (pj lw).1 28 84 = some (.istore 7, 2, 0)) rfl rfl
theorem w28_84 {x : Int32} {l0 l1 l2 l3 l4 l5 l6 : Slot} : W (pj lw) 28 84 (l0 :: l1 :: l2 :: l3 :: l4 :: l5 :: l6 :: .unset :: L) (.int x :: S) k n H Q ↔ W (pj lw) 28 86 (l0 :: l1 :: l2 :: l3 :: l4 :: l5 :: l6 :: .val (.int x) :: L) S k n H Q := W_ist (rfl : (pj lw).1 28 84 = some (.istore 7, 2, 0)) rfl rfl
theorem w28_86 {x : Nat} : W (pj lw) 28 86 (.val (.ref x) :: L) S k n H Q ↔ W (pj lw) 28 87 (.val (.ref x) :: L) (.ref x :: S) k n H Q := W_s (rfl : (pj lw).1 28 86 = some (.aload_n 0, 1, 0)) rfl rfl rfl
theorem w28_87 {a : Nat} : W (pj lw) 28 87 L (.ref a :: S) k n H Q ↔ (isO H a = true ∧ W (pj lw) 28 90 L (fld H a 11 :: S) k n H Q) := W_getf (rfl : (pj lw).1 28 87 = some (.getfield 28, 3, 11))
theorem w28_90 {x : Int32} {l0 l1 l2 l3 l4 l5 l6 : Slot} : W (pj lw) 28 90 (l0 :: l1 :: l2 :: l3 :: l4 :: l5 :: l6 :: .val (.int x) :: L) S k n H Q ↔ W (pj lw) 28 92 (l0 :: l1 :: l2 :: l3 :: l4 :: l5 :: l6 :: .val (.int x) :: L) (.int x :: S) k n H Q := W_s (rfl : (pj lw).1 28 90 = some (.iload 7, 2, 0)) rfl rfl rfl
theorem w28_92 {i : Int32} {a : Nat} : W (pj lw) 28 92 L (.int i :: .ref a :: S) k n H Q ↔ (inA H a .int i = true ∧ W (pj lw) 28 93 L (elt H a i :: S) k n H Q) := W_iaload (rfl : (pj lw).1 28 92 = some (.iaload, 1, 0))
theorem w28_93 {x : Nat} : W (pj lw) 28 93 (.val (.ref x) :: L) S k n H Q ↔ W (pj lw) 28 94 (.val (.ref x) :: L) (.ref x :: S) k n H Q := W_s (rfl : (pj lw).1 28 93 = some (.aload_n 0, 1, 0)) rfl rfl rfl
theorem w28_94 {a : Nat} : W (pj lw) 28 94 L (.ref a :: S) k n H Q ↔ (isO H a = true ∧ W (pj lw) 28 97 L (fld H a 21 :: S) k n H Q) := W_getf (rfl : (pj lw).1 28 94 = some (.getfield 46, 3, 21))
theorem w28_97 {x : Int32} {l0 l1 l2 l3 l4 l5 : Slot} : W (pj lw) 28 97 (l0 :: l1 :: l2 :: l3 :: l4 :: l5 :: .val (.int x) :: L) S k n H Q ↔ W (pj lw) 28 99 (l0 :: l1 :: l2 :: l3 :: l4 :: l5 :: .val (.int x) :: L) (.int x :: S) k n H Q := W_s (rfl : (pj lw).1 28 97 = some (.iload 6, 2, 0)) rfl rfl rfl
theorem w28_99 {i : Int32} {a : Nat} : W (pj lw) 28 99 L (.int i :: .ref a :: S) k n H Q ↔ (inA H a .int i = true ∧ W (pj lw) 28 100 L (elt H a i :: S) k n H Q) := W_iaload (rfl : (pj lw).1 28 99 = some (.iaload, 1, 0))
theorem w28_100 {x y : Int32} : W (pj lw) 28 100 L (.int y :: .int x :: S) k n H Q ↔ W (pj lw) 28 101 L (.int (x &&& y) :: S) k n H Q := W_s (rfl : (pj lw).1 28 100 = some (.iand, 1, 0)) rfl rfl rfl
theorem w28_101 {x : Nat} : W (pj lw) 28 101 (.val (.ref x) :: L) S k n H Q ↔ W (pj lw) 28 102 (.val (.ref x) :: L) (.ref x :: S) k n H Q := W_s (rfl : (pj lw).1 28 101 = some (.aload_n 0, 1, 0)) rfl rfl rfl
theorem w28_102 {a : Nat} : W (pj lw) 28 102 L (.ref a :: S) k n H Q ↔ (isO H a = true ∧ W (pj lw) 28 105 L (fld H a 11 :: S) k n H Q) := W_getf (rfl : (pj lw).1 28 102 = some (.getfield 28, 3, 11))
theorem w28_105 {x : Int32} {l0 l1 l2 l3 l4 l5 l6 : Slot} : W (pj lw) 28 105 (l0 :: l1 :: l2 :: l3 :: l4 :: l5 :: l6 :: .val (.int x) :: L) S k n H Q ↔ W (pj lw) 28 107 (l0 :: l1 :: l2 :: l3 :: l4 :: l5 :: l6 :: .val (.int x) :: L) (.int x :: S) k n H Q := W_s (rfl : (pj lw).1 28 105 = some (.iload 7, 2, 0)) rfl rfl rfl
theorem w28_107 {i : Int32} {a : Nat} : W (pj lw) 28 107 L (.int i :: .ref a :: S) k n H Q ↔ (inA H a .int i = true ∧ W (pj lw) 28 108 L (elt H a i :: S) k n H Q) := W_iaload (rfl : (pj lw).1 28 107 = some (.iaload, 1, 0))
theorem w28_108 {x y : Int32} : W (pj lw) 28 108 L (.int y :: .int x :: S) k n H Q ↔ (if x = y then W (pj lw) 28 131 L S k n H Q else W (pj lw) 28 111 L S k n H Q) := W_icmp_eq (rfl : (pj lw).1 28 108 = some (.if_icmp .eq 23, 3, 0)) rfl
theorem w28_111 {x : Nat} : W (pj lw) 28 111 (.val (.ref x) :: L) S k n H Q ↔ W (pj lw) 28 112 (.val (.ref x) :: L) (.ref x :: S) k n H Q := W_s (rfl : (pj lw).1 28 111 = some (.aload_n 0, 1, 0)) rfl rfl rfl
theorem w28_112 {a : Nat} : W (pj lw) 28 112 L (.ref a :: S) k n H Q ↔ (isO H a = true ∧ W (pj lw) 28 115 L (fld H a 11 :: S) k n H Q) := W_getf (rfl : (pj lw).1 28 112 = some (.getfield 28, 3, 11))
theorem w28_115 {x : Int32} {l0 l1 l2 l3 l4 l5 l6 : Slot} : W (pj lw) 28 115 (l0 :: l1 :: l2 :: l3 :: l4 :: l5 :: l6 :: .val (.int x) :: L) S k n H Q ↔ W (pj lw) 28 117 (l0 :: l1 :: l2 :: l3 :: l4 :: l5 :: l6 :: .val (.int x) :: L) (.int x :: S) k n H Q := W_s (rfl : (pj lw).1 28 115 = some (.iload 7, 2, 0)) rfl rfl rfl
theorem w28_117 {x : Int32} {y : Nat} : W (pj lw) 28 117 L (.int x :: .ref y :: S) k n H Q ↔ W (pj lw) 28 118 L (.int x :: .ref y :: .int x :: .ref y :: S) k n H Q := W_s (rfl : (pj lw).1 28 117 = some (.dup2, 1, 0)) rfl rfl rfl
theorem w28_118 {i : Int32} {a : Nat} : W (pj lw) 28 118 L (.int i :: .ref a :: S) k n H Q ↔ (inA H a .int i = true ∧ W (pj lw) 28 119 L (elt H a i :: S) k n H Q) := W_iaload (rfl : (pj lw).1 28 118 = some (.iaload, 1, 0))
theorem w28_119 {x : Nat} : W (pj lw) 28 119 (.val (.ref x) :: L) S k n H Q ↔ W (pj lw) 28 120 (.val (.ref x) :: L) (.ref x :: S) k n H Q := W_s (rfl : (pj lw).1 28 119 = some (.aload_n 0, 1, 0)) rfl rfl rfl
theorem w28_120 {a : Nat} : W (pj lw) 28 120 L (.ref a :: S) k n H Q ↔ (isO H a = true ∧ W (pj lw) 28 123 L (fld H a 21 :: S) k n H Q) := W_getf (rfl : (pj lw).1 28 120 = some (.getfield 46, 3, 21))
theorem w28_123 {x : Int32} {l0 l1 l2 l3 l4 l5 : Slot} : W (pj lw) 28 123 (l0 :: l1 :: l2 :: l3 :: l4 :: l5 :: .val (.int x) :: L) S k n H Q ↔ W (pj lw) 28 125 (l0 :: l1 :: l2 :: l3 :: l4 :: l5 :: .val (.int x) :: L) (.int x :: S) k n H Q := W_s (rfl : (pj lw).1 28 123 = some (.iload 6, 2, 0)) rfl rfl rfl
theorem w28_125 {i : Int32} {a : Nat} : W (pj lw) 28 125 L (.int i :: .ref a :: S) k n H Q ↔ (inA H a .int i = true ∧ W (pj lw) 28 126 L (elt H a i :: S) k n H Q) := W_iaload (rfl : (pj lw).1 28 125 = some (.iaload, 1, 0))
theorem w28_126 {x y : Int32} : W (pj lw) 28 126 L (.int y :: .int x :: S) k n H Q ↔ W (pj lw) 28 127 L (.int (x &&& y) :: S) k n H Q := W_s (rfl : (pj lw).1 28 126 = some (.iand, 1, 0)) rfl rfl rfl
theorem w28_127 {x i : Int32} {a : Nat} : W (pj lw) 28 127 L (.int x :: .int i :: .ref a :: S) k n H Q ↔ (inAw H a .int i = true ∧ W (pj lw) 28 128 L S k n (wr H a i.toNatClampNeg (.int x)) Q) := W_iastore (rfl : (pj lw).1 28 127 = some (.iastore, 1, 0))
theorem w28_128 : W (pj lw) 28 128 L S k n H Q ↔ W (pj lw) 28 129 L (.int 1 :: S) k n H Q := W_s (rfl : (pj lw).1 28 128 = some (.iconst 1, 1, 0)) rfl rfl rfl
theorem w28_129i {y : Int32} {x : Int32} {l0 l1 l2 l3 l4 : Slot} : W (pj lw) 28 129 (l0 :: l1 :: l2 :: l3 :: l4 :: .val (.int y) :: L) (.int x :: S) k n H Q ↔ W (pj lw) 28 131 (l0 :: l1 :: l2 :: l3 :: l4 :: .val (.int x) :: L) S k n H Q := W_ist (rfl : (pj lw).1 28 129 = some (.istore 5, 2, 0)) rfl rfl
theorem w28_131 {x : Int32} {l0 l1 l2 l3 l4 l5 : Slot} : W (pj lw) 28 131 (l0 :: l1 :: l2 :: l3 :: l4 :: l5 :: .val (.int x) :: L) S k n H Q ↔ W (pj lw) 28 134 (l0 :: l1 :: l2 :: l3 :: l4 :: l5 :: .val (.int (x + 1)) :: L) S k n H Q := W_s (rfl : (pj lw).1 28 131 = some (.iinc 6 1, 3, 0)) rfl rfl rfl
theorem w28_134 : W (pj lw) 28 134 L S k n H Q ↔ W (pj lw) 28 68 L S k n H Q := W_goto (rfl : (pj lw).1 28 134 = some (.goto (-66), 3, 0)) rfl
theorem w28_137 {x : Int32} {l0 l1 l2 l3 l4 : Slot} : W (pj lw) 28 137 (l0 :: l1 :: l2 :: l3 :: l4 :: .val (.int x) :: L) S k n H Q ↔ W (pj lw) 28 139 (l0 :: l1 :: l2 :: l3 :: l4 :: .val (.int x) :: L) (.int x :: S) k n H Q := W_s (rfl : (pj lw).1 28 137 = some (.iload 5, 2, 0)) rfl rfl rfl
theorem w28_139 {x : Int32} : W (pj lw) 28 139 L (.int x :: S) k n H Q ↔ ((x = 0 ∨ x = 1) ∧ Q (some (.int x)) H) := W_rz (rfl : (pj lw).1 28 139 = some (.ireturn, 1, 0)) rfl
theorem c29 {x0 : Nat} : Cl (pj lw) 29 [.ref x0] H Q ↔ W (pj lw) 29 0 [.val (.ref x0)] [] 0 0 H Q := cl_unf rfl
theorem w29_0 {x : Nat} : W (pj lw) 29 0 (.val (.ref x) :: L) S k n H Q ↔ W (pj lw) 29 1 (.val (.ref x) :: L) (.ref x :: S) k n H Q := W_s (rfl : (pj lw).1 29 0 = some (.aload_n 0, 1, 0)) rfl rfl rfl
theorem w29_1 {a : Nat} : W (pj lw) 29 1 L (.ref a :: S) k n H Q ↔ (isO H a = true ∧ W (pj lw) 29 4 L (fld H a 13 :: S) k n H Q) := W_getf (rfl : (pj lw).1 29 1 = some (.getfield 73, 3, 13))
theorem w29_4 {x : Int32} : W (pj lw) 29 4 L (.int x :: S) k n H Q ↔ (if x = 0 then W (pj lw) 29 14 L S k n H Q else W (pj lw) 29 7 L S k n H Q) := W_if_eq (rfl : (pj lw).1 29 4 = some (.ifCond .eq 10, 3, 0)) rfl
theorem w29_7 {x : Nat} : W (pj lw) 29 7 (.val (.ref x) :: L) S k n H Q ↔ W (pj lw) 29 8 (.val (.ref x) :: L) (.ref x :: S) k n H Q := W_s (rfl : (pj lw).1 29 7 = some (.aload_n 0, 1, 0)) rfl rfl rfl
theorem w29_8 {a : Nat} : W (pj lw) 29 8 L (.ref a :: S) k n H Q ↔ (isO H a = true ∧ W (pj lw) 29 11 L (fld H a 14 :: S) k n H Q) := W_getf (rfl : (pj lw).1 29 8 = some (.getfield 76, 3, 14))
theorem w29_11 : W (pj lw) 29 11 L S k n H Q ↔ W (pj lw) 29 15 L S k n H Q := W_goto (rfl : (pj lw).1 29 11 = some (.goto 4, 3, 0)) rfl
theorem w29_14 : W (pj lw) 29 14 L S k n H Q ↔ W (pj lw) 29 15 L (.int 0 :: S) k n H Q := W_s (rfl : (pj lw).1 29 14 = some (.iconst 0, 1, 0)) rfl rfl rfl
theorem w29_15 {x : Int32} : W (pj lw) 29 15 L (.int x :: S) k n H Q ↔ Q (some (.int x)) H := W_r (rfl : (pj lw).1 29 15 = some (.ireturn, 1, 0)) rfl
theorem c30 {x0 : Nat} {x1 : Int32} {x2 : Int32} {x3 : Int32} : Cl (pj lw) 30 [.ref x0, .int x1, .int x2, .int x3] H Q ↔ W (pj lw) 30 0 [.val (.ref x0), .val (.int x1), .val (.int x2), .val (.int x3), .unset] [] 0 0 H Q := cl_unf rfl
theorem w30_0 {x : Nat} : W (pj lw) 30 0 (.val (.ref x) :: L) S k n H Q ↔ W (pj lw) 30 1 (.val (.ref x) :: L) (.ref x :: S) k n H Q := W_s (rfl : (pj lw).1 30 0 = some (.aload_n 0, 1, 0)) rfl rfl rfl
theorem w30_1 {a : Nat} : W (pj lw) 30 1 L (.ref a :: S) k n H Q ↔ (isO H a = true ∧ W (pj lw) 30 4 L (fld H a 13 :: S) k n H Q) := W_getf (rfl : (pj lw).1 30 1 = some (.getfield 73, 3, 13))
theorem w30_4 {x : Int32} : W (pj lw) 30 4 L (.int x :: S) k n H Q ↔ (if x = 0 then W (pj lw) 30 15 L S k n H Q else W (pj lw) 30 7 L S k n H Q) := W_if_eq (rfl : (pj lw).1 30 4 = some (.ifCond .eq 11, 3, 0)) rfl
theorem w30_7 {x : Nat} : W (pj lw) 30 7 (.val (.ref x) :: L) S k n H Q ↔ W (pj lw) 30 8 (.val (.ref x) :: L) (.ref x :: S) k n H Q := W_s (rfl : (pj lw).1 30 7 = some (.aload_n 0, 1, 0)) rfl rfl rfl
theorem w30_8 {x : Int32} {l0 : Slot} : W (pj lw) 30 8 (l0 :: .val (.int x) :: L) S k n H Q ↔ W (pj lw) 30 9 (l0 :: .val (.int x) :: L) (.int x :: S) k n H Q := W_s (rfl : (pj lw).1 30 8 = some (.iload_n 1, 1, 0)) rfl rfl rfl
theorem w30_9 {a : Nat} {x0 : Int32} : W (pj lw) 30 9 L (.int x0 :: .ref a :: S) k n H Q ↔ ((isO H a = true ∧ cs S + (2 + 11) + 0 ≤ 13) ∧ Cl (pj lw) 7 [.ref a, .int x0] H (fun v H => W (pj lw) 30 12 L (v.toList ++ S) k n H Q)) := W_inst (as := [.int x0]) (rfl : (pj lw).1 30 9 = some (.invokevirtual 99, 3, 7)) rfl rfl rfl (Nat.le_of_ble_eq_true rfl) (Nat.le_of_ble_eq_true rfl) ⟨rfl, rfl⟩
theorem w30_12 {x : Int32} : W (pj lw) 30 12 L (.int x :: S) k n H Q ↔ (if x = 0 then W (pj lw) 30 15 L S k n H Q else W (pj lw) 30 17 L S k n H Q) := W_if_ne (rfl : (pj lw).1 30 12 = some (.ifCond .ne 5, 3, 0)) rfl
theorem w30_15 : W (pj lw) 30 15 L S k n H Q ↔ W (pj lw) 30 16 L (.int 0 :: S) k n H Q := W_s (rfl : (pj lw).1 30 15 = some (.iconst 0, 1, 0)) rfl rfl rfl
theorem w30_16 {x : Int32} : W (pj lw) 30 16 L (.int x :: S) k n H Q ↔ ((x = 0 ∨ x = 1) ∧ Q (some (.int x)) H) := W_rz (rfl : (pj lw).1 30 16 = some (.ireturn, 1, 0)) rfl
theorem w30_17 {x : Nat} : W (pj lw) 30 17 (.val (.ref x) :: L) S k n H Q ↔ W (pj lw) 30 18 (.val (.ref x) :: L) (.ref x :: S) k n H Q := W_s (rfl : (pj lw).1 30 17 = some (.aload_n 0, 1, 0)) rfl rfl rfl
theorem w30_18 {x : Int32} {l0 l1 : Slot} : W (pj lw) 30 18 (l0 :: l1 :: .val (.int x) :: L) S k n H Q ↔ W (pj lw) 30 19 (l0 :: l1 :: .val (.int x) :: L) (.int x :: S) k n H Q := W_s (rfl : (pj lw).1 30 18 = some (.iload_n 2, 1, 0)) rfl rfl rfl
theorem w30_19 {a : Nat} {x0 : Int32} : W (pj lw) 30 19 L (.int x0 :: .ref a :: S) k n H Q ↔ ((isO H a = true ∧ cs S + (2 + 11) + 0 ≤ 13) ∧ Cl (pj lw) 8 [.ref a, .int x0] H (fun v H => W (pj lw) 30 22 L (v.toList ++ S) k n H Q)) := W_inst (as := [.int x0]) (rfl : (pj lw).1 30 19 = some (.invokevirtual 103, 3, 8)) rfl rfl rfl (Nat.le_of_ble_eq_true rfl) (Nat.le_of_ble_eq_true rfl) ⟨rfl, rfl⟩
theorem w30_22 {x : Int32} : W (pj lw) 30 22 L (.int x :: S) k n H Q ↔ (if x = 0 then W (pj lw) 30 33 L S k n H Q else W (pj lw) 30 25 L S k n H Q) := W_if_eq (rfl : (pj lw).1 30 22 = some (.ifCond .eq 11, 3, 0)) rfl
theorem w30_25 {x : Nat} : W (pj lw) 30 25 (.val (.ref x) :: L) S k n H Q ↔ W (pj lw) 30 26 (.val (.ref x) :: L) (.ref x :: S) k n H Q := W_s (rfl : (pj lw).1 30 25 = some (.aload_n 0, 1, 0)) rfl rfl rfl
theorem w30_26 {x : Int32} {l0 l1 l2 : Slot} : W (pj lw) 30 26 (l0 :: l1 :: l2 :: .val (.int x) :: L) S k n H Q ↔ W (pj lw) 30 27 (l0 :: l1 :: l2 :: .val (.int x) :: L) (.int x :: S) k n H Q := W_s (rfl : (pj lw).1 30 26 = some (.iload_n 3, 1, 0)) rfl rfl rfl
theorem w30_27 {a : Nat} {x0 : Int32} : W (pj lw) 30 27 L (.int x0 :: .ref a :: S) k n H Q ↔ ((isO H a = true ∧ cs S + (2 + 11) + 0 ≤ 13) ∧ Cl (pj lw) 8 [.ref a, .int x0] H (fun v H => W (pj lw) 30 30 L (v.toList ++ S) k n H Q)) := W_inst (as := [.int x0]) (rfl : (pj lw).1 30 27 = some (.invokevirtual 103, 3, 8)) rfl rfl rfl (Nat.le_of_ble_eq_true rfl) (Nat.le_of_ble_eq_true rfl) ⟨rfl, rfl⟩
theorem w30_30 {x : Int32} : W (pj lw) 30 30 L (.int x :: S) k n H Q ↔ (if x = 0 then W (pj lw) 30 33 L S k n H Q else W (pj lw) 30 35 L S k n H Q) := W_if_ne (rfl : (pj lw).1 30 30 = some (.ifCond .ne 5, 3, 0)) rfl
theorem w30_33 : W (pj lw) 30 33 L S k n H Q ↔ W (pj lw) 30 34 L (.int 0 :: S) k n H Q := W_s (rfl : (pj lw).1 30 33 = some (.iconst 0, 1, 0)) rfl rfl rfl
theorem w30_34 {x : Int32} : W (pj lw) 30 34 L (.int x :: S) k n H Q ↔ ((x = 0 ∨ x = 1) ∧ Q (some (.int x)) H) := W_rz (rfl : (pj lw).1 30 34 = some (.ireturn, 1, 0)) rfl
theorem w30_35 {x : Nat} : W (pj lw) 30 35 (.val (.ref x) :: L) S k n H Q ↔ W (pj lw) 30 36 (.val (.ref x) :: L) (.ref x :: S) k n H Q := W_s (rfl : (pj lw).1 30 35 = some (.aload_n 0, 1, 0)) rfl rfl rfl
theorem w30_36 {a : Nat} : W (pj lw) 30 36 L (.ref a :: S) k n H Q ↔ (isO H a = true ∧ W (pj lw) 30 39 L (fld H a 18 :: S) k n H Q) := W_getf (rfl : (pj lw).1 30 36 = some (.getfield 37, 3, 18))
theorem w30_39 {x : Int32} {l0 l1 : Slot} : W (pj lw) 30 39 (l0 :: l1 :: .val (.int x) :: L) S k n H Q ↔ W (pj lw) 30 40 (l0 :: l1 :: .val (.int x) :: L) (.int x :: S) k n H Q := W_s (rfl : (pj lw).1 30 39 = some (.iload_n 2, 1, 0)) rfl rfl rfl
theorem w30_40 : W (pj lw) 30 40 L S k n H Q ↔ W (pj lw) 30 41 L (.int 5 :: S) k n H Q := W_s (rfl : (pj lw).1 30 40 = some (.iconst 5, 1, 0)) rfl rfl rfl
theorem w30_41 {x y : Int32} : W (pj lw) 30 41 L (.int y :: .int x :: S) k n H Q ↔ W (pj lw) 30 42 L (.int (x * y) :: S) k n H Q := W_s (rfl : (pj lw).1 30 41 = some (.imul, 1, 0)) rfl rfl rfl
theorem w30_42 {x : Int32} {l0 l1 l2 : Slot} : W (pj lw) 30 42 (l0 :: l1 :: l2 :: .val (.int x) :: L) S k n H Q ↔ W (pj lw) 30 43 (l0 :: l1 :: l2 :: .val (.int x) :: L) (.int x :: S) k n H Q := W_s (rfl : (pj lw).1 30 42 = some (.iload_n 3, 1, 0)) rfl rfl rfl
theorem w30_43 {x y : Int32} : W (pj lw) 30 43 L (.int y :: .int x :: S) k n H Q ↔ W (pj lw) 30 44 L (.int (x + y) :: S) k n H Q := W_s (rfl : (pj lw).1 30 43 = some (.iadd, 1, 0)) rfl rfl rfl
theorem w30_44 {i : Int32} {a : Nat} : W (pj lw) 30 44 L (.int i :: .ref a :: S) k n H Q ↔ (inA H a .int i = true ∧ W (pj lw) 30 45 L (elt H a i :: S) k n H Q) := W_iaload (rfl : (pj lw).1 30 44 = some (.iaload, 1, 0))
theorem w30_45 {x : Int32} {l0 l1 l2 l3 : Slot} : W (pj lw) 30 45 (l0 :: l1 :: l2 :: l3 :: .unset :: L) (.int x :: S) k n H Q ↔ W (pj lw) 30 47 (l0 :: l1 :: l2 :: l3 :: .val (.int x) :: L) S k n H Q := W_ist (rfl : (pj lw).1 30 45 = some (.istore 4, 2, 0)) rfl rfl
theorem w30_47 {x : Nat} : W (pj lw) 30 47 (.val (.ref x) :: L) S k n H Q ↔ W (pj lw) 30 48 (.val (.ref x) :: L) (.ref x :: S) k n H Q := W_s (rfl : (pj lw).1 30 47 = some (.aload_n 0, 1, 0)) rfl rfl rfl
theorem w30_48 {a : Nat} : W (pj lw) 30 48 L (.ref a :: S) k n H Q ↔ (isO H a = true ∧ W (pj lw) 30 51 L (fld H a 11 :: S) k n H Q) := W_getf (rfl : (pj lw).1 30 48 = some (.getfield 28, 3, 11))
theorem w30_51 {x : Int32} {l0 : Slot} : W (pj lw) 30 51 (l0 :: .val (.int x) :: L) S k n H Q ↔ W (pj lw) 30 52 (l0 :: .val (.int x) :: L) (.int x :: S) k n H Q := W_s (rfl : (pj lw).1 30 51 = some (.iload_n 1, 1, 0)) rfl rfl rfl
theorem w30_52 {i : Int32} {a : Nat} : W (pj lw) 30 52 L (.int i :: .ref a :: S) k n H Q ↔ (inA H a .int i = true ∧ W (pj lw) 30 53 L (elt H a i :: S) k n H Q) := W_iaload (rfl : (pj lw).1 30 52 = some (.iaload, 1, 0))
theorem w30_53 {x : Int32} {l0 l1 l2 l3 : Slot} : W (pj lw) 30 53 (l0 :: l1 :: l2 :: l3 :: .val (.int x) :: L) S k n H Q ↔ W (pj lw) 30 55 (l0 :: l1 :: l2 :: l3 :: .val (.int x) :: L) (.int x :: S) k n H Q := W_s (rfl : (pj lw).1 30 53 = some (.iload 4, 2, 0)) rfl rfl rfl
theorem w30_55 {x y : Int32} : W (pj lw) 30 55 L (.int y :: .int x :: S) k n H Q ↔ W (pj lw) 30 56 L (.int (x >>> (y &&& 31)) :: S) k n H Q := W_s (rfl : (pj lw).1 30 55 = some (.ishr, 1, 0)) rfl rfl rfl
theorem w30_56 : W (pj lw) 30 56 L S k n H Q ↔ W (pj lw) 30 57 L (.int 1 :: S) k n H Q := W_s (rfl : (pj lw).1 30 56 = some (.iconst 1, 1, 0)) rfl rfl rfl
theorem w30_57 {x y : Int32} : W (pj lw) 30 57 L (.int y :: .int x :: S) k n H Q ↔ W (pj lw) 30 58 L (.int (x &&& y) :: S) k n H Q := W_s (rfl : (pj lw).1 30 57 = some (.iand, 1, 0)) rfl rfl rfl
theorem w30_58 {x : Int32} : W (pj lw) 30 58 L (.int x :: S) k n H Q ↔ (if x = 0 then W (pj lw) 30 65 L S k n H Q else W (pj lw) 30 61 L S k n H Q) := W_if_eq (rfl : (pj lw).1 30 58 = some (.ifCond .eq 7, 3, 0)) rfl
theorem w30_61 : W (pj lw) 30 61 L S k n H Q ↔ W (pj lw) 30 62 L (.int 1 :: S) k n H Q := W_s (rfl : (pj lw).1 30 61 = some (.iconst 1, 1, 0)) rfl rfl rfl
theorem w30_62 : W (pj lw) 30 62 L S k n H Q ↔ W (pj lw) 30 66 L S k n H Q := W_goto (rfl : (pj lw).1 30 62 = some (.goto 4, 3, 0)) rfl
theorem w30_65 : W (pj lw) 30 65 L S k n H Q ↔ W (pj lw) 30 66 L (.int 0 :: S) k n H Q := W_s (rfl : (pj lw).1 30 65 = some (.iconst 0, 1, 0)) rfl rfl rfl
theorem w30_66 {x : Int32} : W (pj lw) 30 66 L (.int x :: S) k n H Q ↔ ((x = 0 ∨ x = 1) ∧ Q (some (.int x)) H) := W_rz (rfl : (pj lw).1 30 66 = some (.ireturn, 1, 0)) rfl
theorem c31 {x0 : Nat} {x1 : Int32} : Cl (pj lw) 31 [.ref x0, .int x1] H Q ↔ W (pj lw) 31 0 [.val (.ref x0), .val (.int x1), .unset, .unset, .unset] [] 0 0 H Q := cl_unf rfl
theorem w31_0 {x : Nat} : W (pj lw) 31 0 (.val (.ref x) :: L) S k n H Q ↔ W (pj lw) 31 1 (.val (.ref x) :: L) (.ref x :: S) k n H Q := W_s (rfl : (pj lw).1 31 0 = some (.aload_n 0, 1, 0)) rfl rfl rfl
theorem w31_1 {a : Nat} : W (pj lw) 31 1 L (.ref a :: S) k n H Q ↔ (isO H a = true ∧ W (pj lw) 31 4 L (fld H a 13 :: S) k n H Q) := W_getf (rfl : (pj lw).1 31 1 = some (.getfield 73, 3, 13))
theorem w31_4 {x : Int32} : W (pj lw) 31 4 L (.int x :: S) k n H Q ↔ (if x = 0 then W (pj lw) 31 15 L S k n H Q else W (pj lw) 31 7 L S k n H Q) := W_if_eq (rfl : (pj lw).1 31 4 = some (.ifCond .eq 11, 3, 0)) rfl
theorem w31_7 {x : Nat} : W (pj lw) 31 7 (.val (.ref x) :: L) S k n H Q ↔ W (pj lw) 31 8 (.val (.ref x) :: L) (.ref x :: S) k n H Q := W_s (rfl : (pj lw).1 31 7 = some (.aload_n 0, 1, 0)) rfl rfl rfl
theorem w31_8 {x : Int32} {l0 : Slot} : W (pj lw) 31 8 (l0 :: .val (.int x) :: L) S k n H Q ↔ W (pj lw) 31 9 (l0 :: .val (.int x) :: L) (.int x :: S) k n H Q := W_s (rfl : (pj lw).1 31 8 = some (.iload_n 1, 1, 0)) rfl rfl rfl
theorem w31_9 {a : Nat} {x0 : Int32} : W (pj lw) 31 9 L (.int x0 :: .ref a :: S) k n H Q ↔ ((isO H a = true ∧ cs S + (2 + 11) + 0 ≤ 13) ∧ Cl (pj lw) 7 [.ref a, .int x0] H (fun v H => W (pj lw) 31 12 L (v.toList ++ S) k n H Q)) := W_inst (as := [.int x0]) (rfl : (pj lw).1 31 9 = some (.invokevirtual 99, 3, 7)) rfl rfl rfl (Nat.le_of_ble_eq_true rfl) (Nat.le_of_ble_eq_true rfl) ⟨rfl, rfl⟩
theorem w31_12 {x : Int32} : W (pj lw) 31 12 L (.int x :: S) k n H Q ↔ (if x = 0 then W (pj lw) 31 15 L S k n H Q else W (pj lw) 31 17 L S k n H Q) := W_if_ne (rfl : (pj lw).1 31 12 = some (.ifCond .ne 5, 3, 0)) rfl
theorem w31_15 : W (pj lw) 31 15 L S k n H Q ↔ W (pj lw) 31 16 L (.int (-1) :: S) k n H Q := W_s (rfl : (pj lw).1 31 15 = some (.iconst (-1), 1, 0)) rfl rfl rfl
theorem w31_16 {x : Int32} : W (pj lw) 31 16 L (.int x :: S) k n H Q ↔ Q (some (.int x)) H := W_r (rfl : (pj lw).1 31 16 = some (.ireturn, 1, 0)) rfl
theorem w31_17 {x : Nat} : W (pj lw) 31 17 (.val (.ref x) :: L) S k n H Q ↔ W (pj lw) 31 18 (.val (.ref x) :: L) (.ref x :: S) k n H Q := W_s (rfl : (pj lw).1 31 17 = some (.aload_n 0, 1, 0)) rfl rfl rfl
theorem w31_18 {a : Nat} : W (pj lw) 31 18 L (.ref a :: S) k n H Q ↔ (isO H a = true ∧ W (pj lw) 31 21 L (fld H a 11 :: S) k n H Q) := W_getf (rfl : (pj lw).1 31 18 = some (.getfield 28, 3, 11))
theorem w31_21 {x : Int32} {l0 : Slot} : W (pj lw) 31 21 (l0 :: .val (.int x) :: L) S k n H Q ↔ W (pj lw) 31 22 (l0 :: .val (.int x) :: L) (.int x :: S) k n H Q := W_s (rfl : (pj lw).1 31 21 = some (.iload_n 1, 1, 0)) rfl rfl rfl
theorem w31_22 {i : Int32} {a : Nat} : W (pj lw) 31 22 L (.int i :: .ref a :: S) k n H Q ↔ (inA H a .int i = true ∧ W (pj lw) 31 23 L (elt H a i :: S) k n H Q) := W_iaload (rfl : (pj lw).1 31 22 = some (.iaload, 1, 0))
theorem w31_23 {x : Int32} {l0 l1 : Slot} : W (pj lw) 31 23 (l0 :: l1 :: .unset :: L) (.int x :: S) k n H Q ↔ W (pj lw) 31 24 (l0 :: l1 :: .val (.int x) :: L) S k n H Q := W_istn (rfl : (pj lw).1 31 23 = some (.istore_n 2, 1, 0)) rfl rfl
theorem w31_24 : W (pj lw) 31 24 L S k n H Q ↔ W (pj lw) 31 25 L (.int 0 :: S) k n H Q := W_s (rfl : (pj lw).1 31 24 = some (.iconst 0, 1, 0)) rfl rfl rfl
theorem w31_25 {x : Int32} {l0 l1 l2 : Slot} : W (pj lw) 31 25 (l0 :: l1 :: l2 :: .unset :: L) (.int x :: S) k n H Q ↔ W (pj lw) 31 26 (l0 :: l1 :: l2 :: .val (.int x) :: L) S k n H Q := W_istn (rfl : (pj lw).1 31 25 = some (.istore_n 3, 1, 0)) rfl rfl
theorem w31_26 : W (pj lw) 31 26 L S k n H Q ↔ W (pj lw) 31 27 L (.int 0 :: S) k n H Q := W_s (rfl : (pj lw).1 31 26 = some (.iconst 0, 1, 0)) rfl rfl rfl
theorem w31_27 {x : Int32} {l0 l1 l2 l3 : Slot} : W (pj lw) 31 27 (l0 :: l1 :: l2 :: l3 :: .unset :: L) (.int x :: S) k n H Q ↔ W (pj lw) 31 29 (l0 :: l1 :: l2 :: l3 :: .val (.int x) :: L) S k n H Q := W_ist (rfl : (pj lw).1 31 27 = some (.istore 4, 2, 0)) rfl rfl
theorem w31_29 {x : Int32} {l0 l1 l2 l3 : Slot} : W (pj lw) 31 29 (l0 :: l1 :: l2 :: l3 :: .val (.int x) :: L) S k n H Q ↔ W (pj lw) 31 31 (l0 :: l1 :: l2 :: l3 :: .val (.int x) :: L) (.int x :: S) k n H Q := W_s (rfl : (pj lw).1 31 29 = some (.iload 4, 2, 0)) rfl rfl rfl
theorem w31_31 : W (pj lw) 31 31 L S k n H Q ↔ W (pj lw) 31 33 L (.int 10 :: S) k n H Q := W_s (rfl : (pj lw).1 31 31 = some (.bipush 10, 2, 0)) rfl rfl rfl
theorem w31_33 {x y : Int32} : W (pj lw) 31 33 L (.int y :: .int x :: S) k n H Q ↔ (if x < y then W (pj lw) 31 36 L S k n H Q else W (pj lw) 31 54 L S k n H Q) := W_icmp_ge (rfl : (pj lw).1 31 33 = some (.if_icmp .ge 21, 3, 0)) rfl
theorem w31_36 {x : Int32} {l0 l1 : Slot} : W (pj lw) 31 36 (l0 :: l1 :: .val (.int x) :: L) S k n H Q ↔ W (pj lw) 31 37 (l0 :: l1 :: .val (.int x) :: L) (.int x :: S) k n H Q := W_s (rfl : (pj lw).1 31 36 = some (.iload_n 2, 1, 0)) rfl rfl rfl
theorem w31_37 {x : Int32} {l0 l1 l2 l3 : Slot} : W (pj lw) 31 37 (l0 :: l1 :: l2 :: l3 :: .val (.int x) :: L) S k n H Q ↔ W (pj lw) 31 39 (l0 :: l1 :: l2 :: l3 :: .val (.int x) :: L) (.int x :: S) k n H Q := W_s (rfl : (pj lw).1 31 37 = some (.iload 4, 2, 0)) rfl rfl rfl
theorem w31_39 {x y : Int32} : W (pj lw) 31 39 L (.int y :: .int x :: S) k n H Q ↔ W (pj lw) 31 40 L (.int (x >>> (y &&& 31)) :: S) k n H Q := W_s (rfl : (pj lw).1 31 39 = some (.ishr, 1, 0)) rfl rfl rfl
theorem w31_40 : W (pj lw) 31 40 L S k n H Q ↔ W (pj lw) 31 41 L (.int 1 :: S) k n H Q := W_s (rfl : (pj lw).1 31 40 = some (.iconst 1, 1, 0)) rfl rfl rfl
theorem w31_41 {x y : Int32} : W (pj lw) 31 41 L (.int y :: .int x :: S) k n H Q ↔ W (pj lw) 31 42 L (.int (x &&& y) :: S) k n H Q := W_s (rfl : (pj lw).1 31 41 = some (.iand, 1, 0)) rfl rfl rfl
theorem w31_42 {x : Int32} : W (pj lw) 31 42 L (.int x :: S) k n H Q ↔ (if x = 0 then W (pj lw) 31 48 L S k n H Q else W (pj lw) 31 45 L S k n H Q) := W_if_eq (rfl : (pj lw).1 31 42 = some (.ifCond .eq 6, 3, 0)) rfl
theorem w31_45 {x : Int32} {l0 l1 l2 : Slot} : W (pj lw) 31 45 (l0 :: l1 :: l2 :: .val (.int x) :: L) S k n H Q ↔ W (pj lw) 31 48 (l0 :: l1 :: l2 :: .val (.int (x + 1)) :: L) S k n H Q := W_s (rfl : (pj lw).1 31 45 = some (.iinc 3 1, 3, 0)) rfl rfl rfl
theorem w31_48 {x : Int32} {l0 l1 l2 l3 : Slot} : W (pj lw) 31 48 (l0 :: l1 :: l2 :: l3 :: .val (.int x) :: L) S k n H Q ↔ W (pj lw) 31 51 (l0 :: l1 :: l2 :: l3 :: .val (.int (x + 1)) :: L) S k n H Q := W_s (rfl : (pj lw).1 31 48 = some (.iinc 4 1, 3, 0)) rfl rfl rfl
theorem w31_51 : W (pj lw) 31 51 L S k n H Q ↔ W (pj lw) 31 29 L S k n H Q := W_goto (rfl : (pj lw).1 31 51 = some (.goto (-22), 3, 0)) rfl
theorem w31_54 {x : Int32} {l0 l1 l2 : Slot} : W (pj lw) 31 54 (l0 :: l1 :: l2 :: .val (.int x) :: L) S k n H Q ↔ W (pj lw) 31 55 (l0 :: l1 :: l2 :: .val (.int x) :: L) (.int x :: S) k n H Q := W_s (rfl : (pj lw).1 31 54 = some (.iload_n 3, 1, 0)) rfl rfl rfl
theorem w31_55 {x : Int32} : W (pj lw) 31 55 L (.int x :: S) k n H Q ↔ Q (some (.int x)) H := W_r (rfl : (pj lw).1 31 55 = some (.ireturn, 1, 0)) rfl
theorem c32 {x0 : Nat} : Cl (pj lw) 32 [.ref x0] H Q ↔ W (pj lw) 32 0 [.val (.ref x0)] [] 0 0 H Q := cl_unf rfl
theorem w32_0 {x : Nat} : W (pj lw) 32 0 (.val (.ref x) :: L) S k n H Q ↔ W (pj lw) 32 1 (.val (.ref x) :: L) (.ref x :: S) k n H Q := W_s (rfl : (pj lw).1 32 0 = some (.aload_n 0, 1, 0)) rfl rfl rfl
theorem w32_1 {a : Nat} : W (pj lw) 32 1 L (.ref a :: S) k n H Q ↔ (isO H a = true ∧ W (pj lw) 32 4 L (fld H a 13 :: S) k n H Q) := W_getf (rfl : (pj lw).1 32 1 = some (.getfield 73, 3, 13))
theorem w32_4 {x : Int32} : W (pj lw) 32 4 L (.int x :: S) k n H Q ↔ (if x = 0 then W (pj lw) 32 14 L S k n H Q else W (pj lw) 32 7 L S k n H Q) := W_if_eq (rfl : (pj lw).1 32 4 = some (.ifCond .eq 10, 3, 0)) rfl
theorem w32_7 {x : Nat} : W (pj lw) 32 7 (.val (.ref x) :: L) S k n H Q ↔ W (pj lw) 32 8 (.val (.ref x) :: L) (.ref x :: S) k n H Q := W_s (rfl : (pj lw).1 32 7 = some (.aload_n 0, 1, 0)) rfl rfl rfl
theorem w32_8 {a : Nat} : W (pj lw) 32 8 L (.ref a :: S) k n H Q ↔ (isO H a = true ∧ W (pj lw) 32 11 L (fld H a 15 :: S) k n H Q) := W_getf (rfl : (pj lw).1 32 8 = some (.getfield 79, 3, 15))
theorem w32_11 : W (pj lw) 32 11 L S k n H Q ↔ W (pj lw) 32 15 L S k n H Q := W_goto (rfl : (pj lw).1 32 11 = some (.goto 4, 3, 0)) rfl
theorem w32_14 : W (pj lw) 32 14 L S k n H Q ↔ W (pj lw) 32 15 L (.int (-1) :: S) k n H Q := W_s (rfl : (pj lw).1 32 14 = some (.iconst (-1), 1, 0)) rfl rfl rfl
theorem w32_15 {x : Int32} : W (pj lw) 32 15 L (.int x :: S) k n H Q ↔ Q (some (.int x)) H := W_r (rfl : (pj lw).1 32 15 = some (.ireturn, 1, 0)) rfl
theorem c34 {x0 : Nat} : Cl (pj lw) 34 [.ref x0] H Q ↔ W (pj lw) 34 0 [.val (.ref x0)] [] 0 0 H Q := cl_unf rfl
theorem w34_0 {x : Nat} : W (pj lw) 34 0 (.val (.ref x) :: L) S k n H Q ↔ W (pj lw) 34 1 (.val (.ref x) :: L) (.ref x :: S) k n H Q := W_s (rfl : (pj lw).1 34 0 = some (.aload_n 0, 1, 0)) rfl rfl rfl
theorem w34_1 {a : Nat} : W (pj lw) 34 1 L (.ref a :: S) k n H Q ↔ (isO H a = true ∧ W (pj lw) 34 4 L (fld H a 4 :: S) k n H Q) := W_getf (rfl : (pj lw).1 34 1 = some (.getfield 66, 3, 4))
theorem w34_4 {x : Int32} : W (pj lw) 34 4 L (.int x :: S) k n H Q ↔ Q (some (.int x)) H := W_r (rfl : (pj lw).1 34 4 = some (.ireturn, 1, 0)) rfl
end Pc
section A
variable {lw : LW} {H : AH} {p j : Nat} {s : St} {Q : Option Value → AH → Prop} {a b c d : Int32} {h : Nat → Cel} {k n : Nat}
def eb (x a b : Int32) : Int32 := if x = a then 1 else if x = b then 1 else 0
theorem fold_eb {x a b : Int32} : (if x = a then 1 else if x = b then 1 else 0) = eb x a b := by simp only [eb]
def cp (x y a b c d : Int32) : Bool := decide ((¬ eb x a b = 0 ∧ ¬ eb y c d = 0) ∨ (¬ eb y a b = 0 ∧ ¬ eb x c d = 0))
set_option maxRecDepth 100000 in
set_option maxHeartbeats 2000000 in
theorem t6 (h1 : 0 ≤ a.toInt ∧ a.toInt < 10) (h2 : 0 ≤ b.toInt ∧ b.toInt < 10) (h3 : 0 ≤ c.toInt ∧ c.toInt < 10) : Cl (pj lw) 6 [.ref p, .int a, .int b, .int c] (ob H p s) Q ↔
    (if cp (sA s 8 a.toNatClampNeg) (sA s 9 a.toNatClampNeg) (sA s 8 b.toNatClampNeg) (sA s 9 b.toNatClampNeg) (sA s 8 c.toNatClampNeg) (sA s 9 c.toNatClampNeg) = true then Q (some (.int 1)) (ob H p s) else Q (some (.int 0)) (ob H p s)) := by
  rw [c6]
  simp +decide only [w6_0, w6_1, w6_4, w6_5, w6_6, w6_8, w6_9, w6_12, w6_13, w6_14, w6_16, w6_17, w6_20, w6_21, w6_22, w6_24, w6_25, w6_28, w6_29, w6_30, w6_32, w6_33, w6_36, w6_37, w6_38, w6_40, w6_41, w6_44, w6_45, w6_46, w6_48, w6_50, w6_52, w6_55, w6_57, w6_59, w6_62, w6_63, w6_66, isO_put, true_and, and_true, g16, g17, ai8, ae8, ai9, ae9, W_ite, h1, h2, h3, fold_eb]
  simp +decide only [w6_69, w6_71, w6_73, w6_76, w6_78, w6_80, w6_83, w6_84, w6_87, w6_67, W_ite, fold_eb]
  simp +decide only [w6_90, w6_92, w6_94, w6_97, w6_99, w6_101, w6_104, w6_105, w6_108, w6_88, W_ite, fold_eb]
  simp +decide only [w6_111, w6_113, w6_115, w6_118, w6_120, w6_122, w6_125, w6_126, w6_129, w6_109, W_ite, fold_eb]
  by_cases e1 : eb (sA s 8 a.toNatClampNeg) (sA s 8 b.toNatClampNeg) (sA s 9 b.toNatClampNeg) = 0 <;>
  by_cases e2 : eb (sA s 9 a.toNatClampNeg) (sA s 8 b.toNatClampNeg) (sA s 9 b.toNatClampNeg) = 0 <;>
  by_cases e3 : eb (sA s 8 a.toNatClampNeg) (sA s 8 c.toNatClampNeg) (sA s 9 c.toNatClampNeg) = 0 <;>
  by_cases e4 : eb (sA s 9 a.toNatClampNeg) (sA s 8 c.toNatClampNeg) (sA s 9 c.toNatClampNeg) = 0 <;>
  simp +decide only [w6_130, w6_132, w6_134, w6_137, w6_139, w6_142, w6_144, w6_147, w6_149, w6_152, w6_153, w6_156, w6_157, true_and, and_true, and_false, or_false, or_true, not_true_eq_false, not_false_eq_true, ↓reduceIte, e1, e2, e3, e4, cp, decide_true, decide_false]
def cm (A B : Nat → Int32) (b c : Int32) : Nat → Int32 → Int32 → Int32
  | 0, _, mask => mask
  | m + 1, gc, mask => cm A B b c m (gc + 1) (if cp (A gc.toNatClampNeg) (B gc.toNatClampNeg) (A b.toNatClampNeg) (B b.toNatClampNeg) (A c.toNatClampNeg) (B c.toNatClampNeg) = true then mask ||| 1 <<< (gc &&& 31) else mask)
theorem l5 (hb : 0 ≤ b.toInt ∧ b.toInt < 10) (hc : 0 ≤ c.toInt ∧ c.toInt < 10) (hg : (sI s 1).toInt ≤ 10) (m : Nat) : ∀ (gc mask : Int32), gc.toInt = (sI s 1).toInt - m → 0 ≤ gc.toInt →
    (W (pj lw) 5 5 [.val (.ref p), .val (.int b), .val (.int c), .val (.int mask), .val (.int gc)] [] k n (ob H p s) Q ↔ Q (some (.int (cm (sA s 8) (sA s 9) b c m gc mask))) (ob H p s)) := by
  induction m with
  | zero =>
    intro gc mask h1 h2
    have h3 : ¬ gc < sI s 1 := by rw [lt32]; omega
    rw [w5_5]; simp +decide only [w5_7, w5_8, w5_11, w5_38, w5_39, isO_put, true_and, ↓reduceIte, g1, h3, cm]
  | succ m ih =>
    intro gc mask h1 h2
    have h3 : gc < sI s 1 := by rw [lt32]; omega
    have h4 : (gc + 1).toInt = gc.toInt + 1 := ia (by simp only [Int32.reduceToInt]; omega) (by simp only [Int32.reduceToInt]; omega)
    have ha : 0 ≤ gc.toInt ∧ gc.toInt < 10 := by omega
    rw [w5_5]; simp +decide only [w5_7, w5_8, w5_11, w5_14, w5_15, w5_17, w5_18, w5_19, w5_22, w5_25, w5_26, w5_27, w5_29, w5_30, w5_31i, w5_32, w5_35, isO_put, Option.toList_some, List.cons_append, List.nil_append, true_and, and_true, ↓reduceIte, g1, h3, t6 ha hb hc]
    rw [cm]
    by_cases e : cp (sA s 8 gc.toNatClampNeg) (sA s 9 gc.toNatClampNeg) (sA s 8 b.toNatClampNeg) (sA s 9 b.toNatClampNeg) (sA s 8 c.toNatClampNeg) (sA s 9 c.toNatClampNeg) = true
    · rw [if_pos e, if_pos e]; exact ih _ _ (by omega) (by omega)
    · rw [if_neg e, if_neg e]; exact ih _ _ (by omega) (by omega)
theorem t5 (hb : 0 ≤ b.toInt ∧ b.toInt < 10) (hc : 0 ≤ c.toInt ∧ c.toInt < 10) (hg : 0 ≤ (sI s 1).toInt ∧ (sI s 1).toInt ≤ 10) :
    Cl (pj lw) 5 [.ref p, .int b, .int c] (ob H p s) Q ↔ Q (some (.int (cm (sA s 8) (sA s 9) b c (sI s 1).toInt.toNat 0 0))) (ob H p s) := by
  rw [c5]; simp +decide only [w5_0, w5_1, w5_2, w5_3]
  exact l5 hb hc hg.2 _ 0 0 (by simp only [Int32.reduceToInt]; omega) (by decide)
def km (s : St) (gf gm : Nat) : St := (s.1, s.2.1, fun t i => if t = 11 ∧ i < 100 ∧ i / 10 < (sI s 1).toInt.toNat ∧ i % 10 < (sI s 1).toInt.toNat ∧ (gf < i / 10 ∨ (i / 10 = gf ∧ gm ≤ i % 10)) then cm (sA s 8) (sA s 9) (Int32.ofNat (i / 10)) (Int32.ofNat (i % 10)) (sI s 1).toInt.toNat 0 0 else s.2.2.1 t i, s.2.2.2)
theorem sI_km {gf gm x : Nat} : sI (km s gf gm) x = sI s x := by simp [sI, km]
theorem sJ_km {gf gm x : Nat} : sJ (km s gf gm) x = sJ s x := by simp [sJ, km]
theorem sB_km {gf gm t i : Nat} : sB (km s gf gm) t i = sB s t i := by simp [sB, km]
theorem sA_km {gf gm t i : Nat} : sA (km s gf gm) t i = if t = 11 ∧ i < 100 ∧ i / 10 < (sI s 1).toInt.toNat ∧ i % 10 < (sI s 1).toInt.toNat ∧ (gf < i / 10 ∨ (i / 10 = gf ∧ gm ≤ i % 10)) then cm (sA s 8) (sA s 9) (Int32.ofNat (i / 10)) (Int32.ofNat (i % 10)) (sI s 1).toInt.toNat 0 0 else sA s t i := by simp [sA, km]
theorem sA_uA_fun {t t' i : Nat} {v : Int32} (h : t' ≠ t) : sA (uA s t i v) t' = sA s t' := by funext x; rw [sA_uA, if_neg (fun q => h q.1)]
theorem ofNat_clamp {x : Int32} (h : 0 ≤ x.toInt) : Int32.ofNat x.toNatClampNeg = x := by
  have := rg32 x
  rw [eq32, cln, Int32.toInt_ofNat_of_lt (by omega)]; omega
theorem km_step {gf gm : Int32} (h1 : 0 ≤ gf.toInt ∧ gf.toInt < (sI s 1).toInt) (h2 : 0 ≤ gm.toInt ∧ gm.toInt < (sI s 1).toInt) (hg : (sI s 1).toInt ≤ 10) (e : (gf * 10 + gm).toNatClampNeg = gf.toNatClampNeg * 10 + gm.toNatClampNeg) :
    km (uA s 11 (gf * 10 + gm).toNatClampNeg (cm (sA s 8) (sA s 9) gf gm (sI s 1).toInt.toNat 0 0)) gf.toNatClampNeg (gm.toNatClampNeg + 1) = km s gf.toNatClampNeg gm.toNatClampNeg := by
  refine St_ext (fun k => by rw [sI_km, sI_km, sI_uA]) (fun k => by rw [sJ_km, sJ_km, sJ_uA]) (fun t i => ?_) (fun t i => by rw [sB_km, sB_km, sB_uA])
  rw [sA_km, sA_km, sI_uA, sA_uA_fun (by decide), sA_uA_fun (by decide), sA_uA, e]
  have q1 : gf.toNatClampNeg < 10 := by rw [cln]; omega
  have q2 : gm.toNatClampNeg < 10 := by rw [cln]; omega
  by_cases g1 : t = 11 ∧ i < 100 ∧ i / 10 < (sI s 1).toInt.toNat ∧ i % 10 < (sI s 1).toInt.toNat ∧ (gf.toNatClampNeg < i / 10 ∨ (i / 10 = gf.toNatClampNeg ∧ gm.toNatClampNeg + 1 ≤ i % 10))
  · rw [if_pos g1, if_pos (by omega)]
  · rw [if_neg g1]
    by_cases g2 : t = 11 ∧ i = gf.toNatClampNeg * 10 + gm.toNatClampNeg
    · have g3 : i / 10 = gf.toNatClampNeg := by omega
      have g4 : i % 10 = gm.toNatClampNeg := by omega
      have g5 : gf.toNatClampNeg < (sI s 1).toInt.toNat := by rw [cln]; omega
      have g6 : gm.toNatClampNeg < (sI s 1).toInt.toNat := by rw [cln]; omega
      rw [if_pos g2, if_pos (by omega), g3, g4, ofNat_clamp h1.1, ofNat_clamp h2.1]
    · rw [if_neg g2, if_neg (by omega)]
theorem km_end {gf gm : Nat} (h : (sI s 1).toInt.toNat ≤ gf) : km s gf gm = s := by
  refine St_ext (fun k => sI_km) (fun k => sJ_km) (fun t i => ?_) (fun t i => sB_km)
  rw [sA_km, if_neg (by omega)]
theorem km_row {gf gm : Nat} (h : (sI s 1).toInt.toNat ≤ gm) : km s gf gm = km s (gf + 1) 0 := by
  refine St_ext (fun k => by rw [sI_km, sI_km]) (fun k => by rw [sJ_km, sJ_km]) (fun t i => ?_) (fun t i => by rw [sB_km, sB_km])
  rw [sA_km, sA_km]
  by_cases g : t = 11 ∧ i < 100 ∧ i / 10 < (sI s 1).toInt.toNat ∧ i % 10 < (sI s 1).toInt.toNat ∧ (gf < i / 10 ∨ (i / 10 = gf ∧ gm ≤ i % 10))
  · rw [if_pos g, if_pos (by omega)]
  · rw [if_neg g, if_neg (by omega)]
theorem l4 (hg : 0 ≤ (sI s 1).toInt ∧ (sI s 1).toInt ≤ 10) (g : Int32) (eg : sI s 1 = g) (m : Nat) : ∀ (gf gm : Int32) (s : St), sI s 1 = g → (m : Int) = (g.toInt - gf.toInt) * 11 + (g.toInt - gm.toInt) → 0 ≤ gf.toInt → gf.toInt < g.toInt → 0 ≤ gm.toInt → gm.toInt ≤ g.toInt →
    (W (pj lw) 4 12 [.val (.ref p), .val (.int gf), .val (.int gm)] [] k n (ob H p s) Q ↔ Q none (ob H p (km s gf.toNatClampNeg gm.toNatClampNeg))) := by
  subst eg
  revert hg
  generalize sI s 1 = g
  intro hg
  induction m using Nat.strongRecOn with
  | _ m ih =>
    intro gf gm s es hm h1 h2 h3 h4
    have hs : 0 ≤ (sI s 1).toInt ∧ (sI s 1).toInt ≤ 10 := by rw [es]; exact hg
    by_cases e : gm.toInt = g.toInt
    · have q1 : ¬ gm < g := by rw [lt32]; omega
      have q2 : (gf + 1).toInt = gf.toInt + 1 := ia (by simp only [Int32.reduceToInt]; omega) (by simp only [Int32.reduceToInt]; omega)
      have q3 : (gf + 1).toNatClampNeg = gf.toNatClampNeg + 1 := by rw [cln, cln]; omega
      rw [km_row (by rw [es, cln]; omega), ← q3]
      by_cases e2 : gf.toInt + 1 = g.toInt
      · have q4 : ¬ gf + 1 < g := by rw [lt32]; omega
        rw [w4_12]; simp +decide only [w4_3, w4_4, w4_7, w4_13, w4_14, w4_17, w4_43, w4_46, w4_49, w4_2, isO_put, true_and, ↓reduceIte, g1, es, q1, q4]
        rw [km_end (by rw [es, cln]; omega)]
      · have q4 : gf + 1 < g := by rw [lt32]; omega
        rw [w4_12]; simp +decide only [w4_3, w4_4, w4_7, w4_10, w4_11i, w4_13, w4_14, w4_17, w4_43, w4_46, w4_2, isO_put, true_and, ↓reduceIte, g1, es, q1, q4]
        rw [ih ((g.toInt - (gf + 1).toInt) * 11 + g.toInt).toNat (by omega) (gf + 1) 0 s es (by simp only [Int32.reduceToInt]; omega) (by omega) (by omega) (by decide) (by simp only [Int32.reduceToInt]; omega)]
        simp only [Int32.reduceToNatClampNeg]
    · have q1 : gm < g := by rw [lt32]; omega
      have q2 : (gm + 1).toInt = gm.toInt + 1 := ia (by simp only [Int32.reduceToInt]; omega) (by simp only [Int32.reduceToInt]; omega)
      have q3 : (gm + 1).toNatClampNeg = gm.toNatClampNeg + 1 := by rw [cln, cln]; omega
      have i1 : (gf * 10 + gm).toInt = gf.toInt * 10 + gm.toInt := by
        rw [idx2 (a := 10) (b := 10) 10 (by decide) (by omega) (by omega) (by omega) (by omega)]; simp only [Int32.reduceToInt]
      have i2 : (gf * 10 + gm).toNatClampNeg = gf.toNatClampNeg * 10 + gm.toNatClampNeg := by rw [cln, cln, cln, i1]; omega
      have i3 : 0 ≤ (gf * 10 + gm).toInt ∧ (gf * 10 + gm).toInt < 100 := by omega
      rw [w4_12]; simp +decide only [w4_13, w4_14, w4_17, w4_20, w4_21, w4_24, w4_25, w4_27, w4_28, w4_29, w4_30, w4_31, w4_32, w4_33, w4_36, w4_37, w4_40, isO_put, cs_nil, cs_int, cs_ref, Option.toList_some, List.cons_append, List.nil_append, true_and, and_true, ↓reduceIte, Nat.reduceAdd, Int32.reduceAdd, Int64.reduceAdd, Nat.add_zero, Nat.le_refl, g1, g19, aw11, as11, es, q1, i3, t5 (b := gf) (c := gm) (by omega) (by omega) hs]
      rw [ih (m - 1) (by omega) gf (gm + 1) _ (by rw [sI_uA]; exact es) (by omega) h1 h2 (by omega) (by omega), q3]
      rw [← es, km_step (by rw [es]; omega) (by rw [es]; omega) hs.2 i2]
theorem t4 (hg : 0 < (sI s 1).toInt ∧ (sI s 1).toInt ≤ 10) : Cl (pj lw) 4 [.ref p] (ob H p s) Q ↔ Q none (ob H p (km s 0 0)) := by
  have q : (0 : Int32) < sI s 1 := by rw [lt32]; simp only [Int32.reduceToInt]; omega
  rw [c4]; simp +decide only [w4_0, w4_1, w4_3, w4_4, w4_7, w4_10, w4_11, w4_2, isO_put, true_and, ↓reduceIte, g1, q]
  rw [l4 (s := s) (by omega) (sI s 1) rfl ((sI s 1).toInt * 11 + (sI s 1).toInt).toNat 0 0 s rfl (by simp only [Int32.reduceToInt]; omega) (by decide) (by simp only [Int32.reduceToInt]; omega) (by decide) (by simp only [Int32.reduceToInt]; omega)]
  simp only [Int32.reduceToNatClampNeg]
def wr4 (s : St) (k a b : Int32) : St := uA (uA (uA (uA s 8 k.toNatClampNeg a) 9 k.toNatClampNeg b) 10 (a * 5 + b).toNatClampNeg k) 10 (b * 5 + a).toNatClampNeg k
def bg2 (s : St) : St := uI (uI (wr4 (wr4 (wr4 s 0 1 1) 1 1 2) 2 2 2) 1 3) 2 ((1 : Int32) <<< ((3 : Int32) &&& 31) - 1)
def bg3 (s : St) : St := uI (uI (wr4 (wr4 (wr4 (wr4 (wr4 (wr4 s 0 1 1) 1 1 2) 2 1 3) 3 2 2) 4 2 3) 5 3 3) 1 6) 2 ((1 : Int32) <<< ((6 : Int32) &&& 31) - 1)
def bg4 (s : St) : St := uI (uI (wr4 (wr4 (wr4 (wr4 (wr4 (wr4 (wr4 (wr4 (wr4 (wr4 s 0 1 1) 1 1 2) 2 1 3) 3 1 4) 4 2 2) 5 2 3) 6 2 4) 7 3 3) 8 3 4) 9 4 4) 1 10) 2 ((1 : Int32) <<< ((10 : Int32) &&& 31) - 1)
set_option maxRecDepth 100000 in
set_option maxHeartbeats 2000000 in
theorem t3_2 (h0 : sI s 0 = 2) : Cl (pj lw) 3 [.ref p] (ob H p s) Q ↔ Q none (ob H p (bg2 s)) := by
  rw [c3]; simp +decide only [w3_0, w3_1, w3_2, w3_3, w3_5, w3_6, w3_9, w3_12, w3_13i, w3_13, w3_15, w3_16, w3_19, w3_22, w3_23, w3_26, w3_27, w3_28, w3_29, w3_30, w3_33, w3_34, w3_35, w3_36, w3_37, w3_40, w3_41, w3_42, w3_43, w3_44, w3_45, w3_46, w3_47, w3_48, w3_51, w3_52, w3_53, w3_54, w3_55, w3_56, w3_57, w3_58, w3_61, w3_64, w3_67, w3_70, w3_73, w3_74, w3_75, w3_78, w3_79, w3_80, w3_81, w3_82, w3_83, w3_84, w3_87, w3_4, w3_14, isO_put, isOw_put, sI_uA, true_and, and_true, ↓reduceIte, Nat.reduceAdd, Int32.reduceAdd, Int32.reduceMul, Int32.reduceToNatClampNeg, Int64.reduceAdd, Int64.reduceMul, g0, s1, s2, g16, g17, g18, aw8, as8, aw9, as9, aw10, as10, h0, bg2, wr4]
set_option maxRecDepth 100000 in
set_option maxHeartbeats 2000000 in
theorem t3_3 (h0 : sI s 0 = 3) : Cl (pj lw) 3 [.ref p] (ob H p s) Q ↔ Q none (ob H p (bg3 s)) := by
  rw [c3]; simp +decide only [w3_0, w3_1, w3_2, w3_3, w3_5, w3_6, w3_9, w3_12, w3_13i, w3_13, w3_15, w3_16, w3_19, w3_22, w3_23, w3_26, w3_27, w3_28, w3_29, w3_30, w3_33, w3_34, w3_35, w3_36, w3_37, w3_40, w3_41, w3_42, w3_43, w3_44, w3_45, w3_46, w3_47, w3_48, w3_51, w3_52, w3_53, w3_54, w3_55, w3_56, w3_57, w3_58, w3_61, w3_64, w3_67, w3_70, w3_73, w3_74, w3_75, w3_78, w3_79, w3_80, w3_81, w3_82, w3_83, w3_84, w3_87, w3_4, w3_14, isO_put, isOw_put, sI_uA, true_and, and_true, ↓reduceIte, Nat.reduceAdd, Int32.reduceAdd, Int32.reduceMul, Int32.reduceToNatClampNeg, Int64.reduceAdd, Int64.reduceMul, g0, s1, s2, g16, g17, g18, aw8, as8, aw9, as9, aw10, as10, h0, bg3, wr4]
set_option maxRecDepth 100000 in
set_option maxHeartbeats 2000000 in
theorem t3_4 (h0 : sI s 0 = 4) : Cl (pj lw) 3 [.ref p] (ob H p s) Q ↔ Q none (ob H p (bg4 s)) := by
  rw [c3]; simp +decide only [w3_0, w3_1, w3_2, w3_3, w3_5, w3_6, w3_9, w3_12, w3_13i, w3_13, w3_15, w3_16, w3_19, w3_22, w3_23, w3_26, w3_27, w3_28, w3_29, w3_30, w3_33, w3_34, w3_35, w3_36, w3_37, w3_40, w3_41, w3_42, w3_43, w3_44, w3_45, w3_46, w3_47, w3_48, w3_51, w3_52, w3_53, w3_54, w3_55, w3_56, w3_57, w3_58, w3_61, w3_64, w3_67, w3_70, w3_73, w3_74, w3_75, w3_78, w3_79, w3_80, w3_81, w3_82, w3_83, w3_84, w3_87, w3_4, w3_14, isO_put, isOw_put, sI_uA, true_and, and_true, ↓reduceIte, Nat.reduceAdd, Int32.reduceAdd, Int32.reduceMul, Int32.reduceToNatClampNeg, Int64.reduceAdd, Int64.reduceMul, g0, s1, s2, g16, g17, g18, aw8, as8, aw9, as9, aw10, as10, h0, bg4, wr4]
def bg (a : Int32) (s : St) : St := if a = 2 then bg2 s else if a = 3 then bg3 s else bg4 s
def ini0 (a g : Int32) : St := uI (uI (uI (uI (uI (uI (km (bg a (uI (uI z0 0 a) 3 g)) 0 0) 4 0) 12 0) 13 0) 14 0) 15 0) 22 0
set_option maxRecDepth 100000 in
set_option maxHeartbeats 4000000 in
theorem t1 : Cl (pj lw) 1 [.ref p, .int a, .int b] (put lay 0 (p + 1, h) p z0) Q ↔ Q none (ob (p + 14, h) p (ini0 (cl 2 4 a) (if b < 1 then 1 else b))) := by
  rw [c1]
  have key : (a < 2 ∧ ¬ 4 < a) ∨ (¬ a < 2 ∧ 4 < a) ∨ a = 2 ∨ a = 3 ∨ a = 4 := by
    rcases cl3 (lo := 2) (hi := 4) a (by decide) with q | q | q
    · exact Or.inl q
    · exact Or.inr (Or.inl q)
    · refine Or.inr (Or.inr ?_); simp only [lt32, eq32, Int32.reduceToInt] at *; omega
  rcases key with ⟨h1, h2⟩ | ⟨h1, h2⟩ | rfl | rfl | rfl
  · have ec : cl 2 4 a = 2 := by simp +decide only [cl, h1, h2, ↓reduceIte]
    by_cases hb : b < 1
    all_goals
      simp +decide only [w1_0, w1_1, w1_4, w1_5, w1_7, w1_9, w1_12, w1_13, w1_15, w1_17, w1_20, w1_21, w1_23, w1_25, w1_28, w1_29, w1_31, w1_33, w1_36, w1_37, w1_39, w1_41, w1_44, w1_45, w1_47, w1_49, w1_52, w1_53, w1_55, w1_57, w1_60, w1_61, w1_63, w1_65, w1_68, w1_69, w1_71, w1_73, w1_76, w1_77, w1_79, w1_81, w1_84, w1_85, w1_87, w1_89, w1_92, w1_93, w1_95, w1_97, w1_100, w1_101, w1_103, w1_105, w1_108, w1_109, w1_110, w1_111, w1_112, w1_115, w1_116i, w1_117, w1_118, w1_119, w1_124, w1_125, w1_126, w1_129, w1_130, w1_131, w1_132, w1_135, w1_138, w1_139, w1_142, w1_143, w1_146, w1_147, w1_148, w1_151, w1_152, w1_153, w1_156, w1_157, w1_158, w1_161, w1_162, w1_163, w1_166, w1_167, w1_168, w1_171, w1_172, w1_173, zr_z0, isO_put, isOw_put, put_fst, okv_int, okv_ref, cs_nil, cs_ref, Option.toList_some, List.cons_append, List.nil_append, true_and, and_true, ↓reduceIte, Nat.reduceAdd, Nat.reduceLeDiff, Int32.reduceAdd, Int64.reduceAdd, Nat.add_zero, Nat.zero_add, s0, s3, mk1, io1, mk2, io2, mk3, io3, mk4, io4, mk5, io5, mk6, io6, mk7, io7, mk8, io8, mk9, io9, mk10, io10, mk11, io11, mk12, io12, mk13, io13, c2, w2_0, w2_1, w2_2, w2_5, w2_6, w2_9, w2_10, h1, hb, ec]
      rw [t3_2 (by simp +decide only [sI_uI, ↓reduceIte])]
      simp +decide only [isO_put, Option.toList_none, List.nil_append, true_and, and_true]
      rw [t4 (by simp +decide only [bg2, wr4, sI_uI, and_true, ↓reduceIte, Nat.reduceAdd, Int32.reduceAdd, Int32.reduceMul, Int32.reduceToNatClampNeg, Int64.reduceAdd, Int64.reduceMul, Int32.reduceToInt])]
      simp +decide only [w1_176, isOw_put, Option.toList_none, List.nil_append, true_and, ↓reduceIte, s4, s12, s13, s14, s15, s22, ini0, bg]
  · have ec : cl 2 4 a = 4 := by simp +decide only [cl, h1, h2, ↓reduceIte]
    by_cases hb : b < 1
    all_goals
      simp +decide only [w1_0, w1_1, w1_4, w1_5, w1_7, w1_9, w1_12, w1_13, w1_15, w1_17, w1_20, w1_21, w1_23, w1_25, w1_28, w1_29, w1_31, w1_33, w1_36, w1_37, w1_39, w1_41, w1_44, w1_45, w1_47, w1_49, w1_52, w1_53, w1_55, w1_57, w1_60, w1_61, w1_63, w1_65, w1_68, w1_69, w1_71, w1_73, w1_76, w1_77, w1_79, w1_81, w1_84, w1_85, w1_87, w1_89, w1_92, w1_93, w1_95, w1_97, w1_100, w1_101, w1_103, w1_105, w1_108, w1_109, w1_110, w1_111, w1_112, w1_117, w1_118, w1_119, w1_122, w1_123i, w1_124, w1_125, w1_126, w1_129, w1_130, w1_131, w1_132, w1_135, w1_138, w1_139, w1_142, w1_143, w1_146, w1_147, w1_148, w1_151, w1_152, w1_153, w1_156, w1_157, w1_158, w1_161, w1_162, w1_163, w1_166, w1_167, w1_168, w1_171, w1_172, w1_173, zr_z0, isO_put, isOw_put, put_fst, okv_int, okv_ref, cs_nil, cs_ref, Option.toList_some, List.cons_append, List.nil_append, true_and, and_true, ↓reduceIte, Nat.reduceAdd, Nat.reduceLeDiff, Int32.reduceAdd, Int64.reduceAdd, Nat.add_zero, Nat.zero_add, s0, s3, mk1, io1, mk2, io2, mk3, io3, mk4, io4, mk5, io5, mk6, io6, mk7, io7, mk8, io8, mk9, io9, mk10, io10, mk11, io11, mk12, io12, mk13, io13, c2, w2_0, w2_1, w2_2, w2_5, w2_6, w2_9, w2_10, h1, h2, hb, ec]
      rw [t3_4 (by simp +decide only [sI_uI, ↓reduceIte])]
      simp +decide only [isO_put, Option.toList_none, List.nil_append, true_and, and_true]
      rw [t4 (by simp +decide only [bg4, wr4, sI_uI, and_true, ↓reduceIte, Nat.reduceAdd, Int32.reduceAdd, Int32.reduceMul, Int32.reduceToNatClampNeg, Int64.reduceAdd, Int64.reduceMul, Int32.reduceToInt])]
      simp +decide only [w1_176, isOw_put, Option.toList_none, List.nil_append, true_and, ↓reduceIte, s4, s12, s13, s14, s15, s22, ini0, bg]
  · have ec : cl 2 4 2 = 2 := by simp +decide only [cl, ↓reduceIte]
    by_cases hb : b < 1
    all_goals
      simp +decide only [w1_0, w1_1, w1_4, w1_5, w1_7, w1_9, w1_12, w1_13, w1_15, w1_17, w1_20, w1_21, w1_23, w1_25, w1_28, w1_29, w1_31, w1_33, w1_36, w1_37, w1_39, w1_41, w1_44, w1_45, w1_47, w1_49, w1_52, w1_53, w1_55, w1_57, w1_60, w1_61, w1_63, w1_65, w1_68, w1_69, w1_71, w1_73, w1_76, w1_77, w1_79, w1_81, w1_84, w1_85, w1_87, w1_89, w1_92, w1_93, w1_95, w1_97, w1_100, w1_101, w1_103, w1_105, w1_108, w1_109, w1_110, w1_111, w1_112, w1_117, w1_118, w1_119, w1_124, w1_125, w1_126, w1_129, w1_130, w1_131, w1_132, w1_135, w1_138, w1_139, w1_142, w1_143, w1_146, w1_147, w1_148, w1_151, w1_152, w1_153, w1_156, w1_157, w1_158, w1_161, w1_162, w1_163, w1_166, w1_167, w1_168, w1_171, w1_172, w1_173, zr_z0, isO_put, isOw_put, put_fst, okv_int, okv_ref, cs_nil, cs_ref, Option.toList_some, List.cons_append, List.nil_append, true_and, and_true, ↓reduceIte, Nat.reduceAdd, Nat.reduceLeDiff, Int32.reduceAdd, Int64.reduceAdd, Nat.add_zero, Nat.zero_add, s0, s3, mk1, io1, mk2, io2, mk3, io3, mk4, io4, mk5, io5, mk6, io6, mk7, io7, mk8, io8, mk9, io9, mk10, io10, mk11, io11, mk12, io12, mk13, io13, c2, w2_0, w2_1, w2_2, w2_5, w2_6, w2_9, w2_10, hb, ec]
      rw [t3_2 (by simp +decide only [sI_uI, ↓reduceIte])]
      simp +decide only [isO_put, Option.toList_none, List.nil_append, true_and, and_true]
      rw [t4 (by simp +decide only [bg2, wr4, sI_uI, and_true, ↓reduceIte, Nat.reduceAdd, Int32.reduceAdd, Int32.reduceMul, Int32.reduceToNatClampNeg, Int64.reduceAdd, Int64.reduceMul, Int32.reduceToInt])]
      simp +decide only [w1_176, isOw_put, Option.toList_none, List.nil_append, true_and, ↓reduceIte, s4, s12, s13, s14, s15, s22, ini0, bg]
  · have ec : cl 2 4 3 = 3 := by simp +decide only [cl, ↓reduceIte]
    by_cases hb : b < 1
    all_goals
      simp +decide only [w1_0, w1_1, w1_4, w1_5, w1_7, w1_9, w1_12, w1_13, w1_15, w1_17, w1_20, w1_21, w1_23, w1_25, w1_28, w1_29, w1_31, w1_33, w1_36, w1_37, w1_39, w1_41, w1_44, w1_45, w1_47, w1_49, w1_52, w1_53, w1_55, w1_57, w1_60, w1_61, w1_63, w1_65, w1_68, w1_69, w1_71, w1_73, w1_76, w1_77, w1_79, w1_81, w1_84, w1_85, w1_87, w1_89, w1_92, w1_93, w1_95, w1_97, w1_100, w1_101, w1_103, w1_105, w1_108, w1_109, w1_110, w1_111, w1_112, w1_117, w1_118, w1_119, w1_124, w1_125, w1_126, w1_129, w1_130, w1_131, w1_132, w1_135, w1_138, w1_139, w1_142, w1_143, w1_146, w1_147, w1_148, w1_151, w1_152, w1_153, w1_156, w1_157, w1_158, w1_161, w1_162, w1_163, w1_166, w1_167, w1_168, w1_171, w1_172, w1_173, zr_z0, isO_put, isOw_put, put_fst, okv_int, okv_ref, cs_nil, cs_ref, Option.toList_some, List.cons_append, List.nil_append, true_and, and_true, ↓reduceIte, Nat.reduceAdd, Nat.reduceLeDiff, Int32.reduceAdd, Int64.reduceAdd, Nat.add_zero, Nat.zero_add, s0, s3, mk1, io1, mk2, io2, mk3, io3, mk4, io4, mk5, io5, mk6, io6, mk7, io7, mk8, io8, mk9, io9, mk10, io10, mk11, io11, mk12, io12, mk13, io13, c2, w2_0, w2_1, w2_2, w2_5, w2_6, w2_9, w2_10, hb, ec]
      rw [t3_3 (by simp +decide only [sI_uI, ↓reduceIte])]
      simp +decide only [isO_put, Option.toList_none, List.nil_append, true_and, and_true]
      rw [t4 (by simp +decide only [bg3, wr4, sI_uI, and_true, ↓reduceIte, Nat.reduceAdd, Int32.reduceAdd, Int32.reduceMul, Int32.reduceToNatClampNeg, Int64.reduceAdd, Int64.reduceMul, Int32.reduceToInt])]
      simp +decide only [w1_176, isOw_put, Option.toList_none, List.nil_append, true_and, ↓reduceIte, s4, s12, s13, s14, s15, s22, ini0, bg]
  · have ec : cl 2 4 4 = 4 := by simp +decide only [cl, ↓reduceIte]
    by_cases hb : b < 1
    all_goals
      simp +decide only [w1_0, w1_1, w1_4, w1_5, w1_7, w1_9, w1_12, w1_13, w1_15, w1_17, w1_20, w1_21, w1_23, w1_25, w1_28, w1_29, w1_31, w1_33, w1_36, w1_37, w1_39, w1_41, w1_44, w1_45, w1_47, w1_49, w1_52, w1_53, w1_55, w1_57, w1_60, w1_61, w1_63, w1_65, w1_68, w1_69, w1_71, w1_73, w1_76, w1_77, w1_79, w1_81, w1_84, w1_85, w1_87, w1_89, w1_92, w1_93, w1_95, w1_97, w1_100, w1_101, w1_103, w1_105, w1_108, w1_109, w1_110, w1_111, w1_112, w1_117, w1_118, w1_119, w1_124, w1_125, w1_126, w1_129, w1_130, w1_131, w1_132, w1_135, w1_138, w1_139, w1_142, w1_143, w1_146, w1_147, w1_148, w1_151, w1_152, w1_153, w1_156, w1_157, w1_158, w1_161, w1_162, w1_163, w1_166, w1_167, w1_168, w1_171, w1_172, w1_173, zr_z0, isO_put, isOw_put, put_fst, okv_int, okv_ref, cs_nil, cs_ref, Option.toList_some, List.cons_append, List.nil_append, true_and, and_true, ↓reduceIte, Nat.reduceAdd, Nat.reduceLeDiff, Int32.reduceAdd, Int64.reduceAdd, Nat.add_zero, Nat.zero_add, s0, s3, mk1, io1, mk2, io2, mk3, io3, mk4, io4, mk5, io5, mk6, io6, mk7, io7, mk8, io8, mk9, io9, mk10, io10, mk11, io11, mk12, io12, mk13, io13, c2, w2_0, w2_1, w2_2, w2_5, w2_6, w2_9, w2_10, hb, ec]
      rw [t3_4 (by simp +decide only [sI_uI, ↓reduceIte])]
      simp +decide only [isO_put, Option.toList_none, List.nil_append, true_and, and_true]
      rw [t4 (by simp +decide only [bg4, wr4, sI_uI, and_true, ↓reduceIte, Nat.reduceAdd, Int32.reduceAdd, Int32.reduceMul, Int32.reduceToNatClampNeg, Int64.reduceAdd, Int64.reduceMul, Int32.reduceToInt])]
      simp +decide only [w1_176, isOw_put, Option.toList_none, List.nil_append, true_and, ↓reduceIte, s4, s12, s13, s14, s15, s22, ini0, bg]
end A

section B
variable {lw : LW} {H : AH} {p : Nat} {s s' s1 s2 : St} {Q : Option Value → AH → Prop} {a b c d x y : Int32} {k n : Nat} {F M KM cc nu : Nat → Int32} {L : List Nat}
def bz (x : Bool) : Int32 := if x = true then 1 else 0
theorem bz_t : bz true = 1 := rfl
theorem bz_f : bz false = 0 := rfl
theorem bz01 (x : Bool) : bz x = 0 ∨ bz x = 1 := by cases x; exact Or.inl rfl; exact Or.inr rfl
def anyN (f : Nat → Bool) : Nat → Nat → Bool
  | _, 0 => false
  | j, m + 1 => f j || anyN f (j + 1) m
def nN (s : St) : Nat := (sI s 4).toInt.toNat
def gN (s : St) : Nat := (sI s 1).toInt.toNat
def Par (s : St) (i : Nat) : Prop := (sA s 2 i = 0 ∧ sA s 3 i = 0) ∨ ((1 ≤ (sA s 2 i).toInt ∧ (sA s 2 i).toInt < i) ∧ (1 ≤ (sA s 3 i).toInt ∧ (sA s 3 i).toInt < i))
def Ev (s : St) : Prop := (0 ≤ (sI s 4).toInt ∧ (sI s 4).toInt ≤ 32) ∧ (1 ≤ (sI s 1).toInt ∧ (sI s 1).toInt ≤ 10) ∧ (2 ≤ (sI s 0).toInt ∧ (sI s 0).toInt ≤ 4) ∧ ∀ i, 1 ≤ i → i ≤ nN s → Par s i
theorem Ev.of (h : Ev s) (h0 : sI s' 0 = sI s 0) (h1 : sI s' 1 = sI s 1) (h4 : sI s' 4 = sI s 4) (a2 : sA s' 2 = sA s 2) (a3 : sA s' 3 = sA s 3) : Ev s' := by
  unfold Ev Par nN at *; rw [h0, h1, h4, a2, a3]; exact h
def Sr (s s' : St) : Prop := (∀ x, x ≠ 22 → sI s' x = sI s x) ∧ (∀ x, sJ s' x = sJ s x) ∧ (∀ t, t ≠ 7 → t ≠ 12 → t ≠ 13 → sA s' t = sA s t) ∧ ∀ t i, sB s' t i = sB s t i
theorem Sr.refl : Sr s s := ⟨fun _ _ => rfl, fun _ => rfl, fun _ _ _ _ => rfl, fun _ _ => rfl⟩
theorem Sr.trans (h : Sr s s1) (g : Sr s1 s2) : Sr s s2 := ⟨fun x hx => (g.1 x hx).trans (h.1 x hx), fun x => (g.2.1 x).trans (h.2.1 x), fun t h1 h2 h3 => (g.2.2.1 t h1 h2 h3).trans (h.2.2.1 t h1 h2 h3), fun t i => (g.2.2.2 t i).trans (h.2.2.2 t i)⟩
theorem Sr.ev (h : Sr s s') (hE : Ev s) : Ev s' := hE.of (h.1 _ (by decide)) (h.1 _ (by decide)) (h.1 _ (by decide)) (h.2.2.1 _ (by decide) (by decide) (by decide)) (h.2.2.1 _ (by decide) (by decide) (by decide))
theorem Sr.nN (h : Sr s s') : nN s' = nN s := by unfold Pj.nN; rw [h.1 _ (by decide)]
theorem sA_fun {t t' i : Nat} {v : Int32} (h : t' ≠ t) : sA (uA s t i v) t' = sA s t' := by funext z; rw [sA_uA, if_neg (fun q => h q.1)]
theorem sA_fI {t x : Nat} {v : Int32} : sA (uI s x v) t = sA s t := by funext z; rw [sA_uI]
theorem Sr_uA {t i : Nat} {v : Int32} (ht : t = 7 ∨ t = 12 ∨ t = 13) : Sr s (uA s t i v) := ⟨fun _ _ => sI_uA, fun _ => sJ_uA, fun t' h1 h2 h3 => sA_fun (by omega), fun _ _ => sB_uA⟩
theorem Sr_uI {v : Int32} : Sr s (uI s 22 v) := ⟨fun x hx => by rw [sI_uI, if_neg hx], fun _ => sJ_uI, fun _ _ _ _ => sA_fI, fun _ _ => sB_uI⟩
theorem ofn {i : Int32} (h : 0 ≤ i.toInt ∧ i.toInt < 1000) : Int32.ofNat i.toNatClampNeg = i := by rw [eq32, Int32.toInt_ofNat_of_lt (by rw [cln]; omega), cln]; omega
theorem ofi {j : Nat} (h : j < 1000) : (Int32.ofNat j).toInt = j ∧ (Int32.ofNat j).toNatClampNeg = j := by
  have e : (Int32.ofNat j).toInt = j := Int32.toInt_ofNat_of_lt (by omega)
  exact ⟨e, by rw [cln, e]; omega⟩
def vid (s : St) (a : Int32) : Bool := decide (¬ a < 1 ∧ ¬ sI s 4 < a)
theorem t7 : Cl (pj lw) 7 [.ref p, .int a] (ob H p s) Q ↔ Q (some (.int (bz (vid s a)))) (ob H p s) := by
  rw [c7]; unfold vid
  by_cases e1 : a < 1
  · simp +decide only [w7_0, w7_1, w7_2, w7_17, w7_18, true_and, false_and, not_true_eq_false, ↓reduceIte, e1, bz]
  · by_cases e2 : sI s 4 < a <;> simp +decide only [w7_0, w7_1, w7_2, w7_5, w7_6, w7_7, w7_10, w7_13, w7_14, w7_17, w7_18, isO_put, true_and, and_true, and_false, not_true_eq_false, not_false_eq_true, ↓reduceIte, g4, e1, e2, bz]
def val (s : St) (a : Int32) : Bool := decide (¬ a < 1 ∧ ¬ sI s 0 < a)
theorem t8 : Cl (pj lw) 8 [.ref p, .int a] (ob H p s) Q ↔ Q (some (.int (bz (val s a)))) (ob H p s) := by
  rw [c8]; unfold val
  by_cases e1 : a < 1
  · simp +decide only [w8_0, w8_1, w8_2, w8_17, w8_18, true_and, false_and, not_true_eq_false, ↓reduceIte, e1, bz]
  · by_cases e2 : sI s 0 < a <;> simp +decide only [w8_0, w8_1, w8_2, w8_5, w8_6, w8_7, w8_10, w8_13, w8_14, w8_17, w8_18, isO_put, true_and, and_true, and_false, not_true_eq_false, not_false_eq_true, ↓reduceIte, g0, e1, e2, bz]
def sib (F M : Nat → Int32) (f j : Nat) : Bool := decide (F j = F f ∧ M j = M f)
def fmB (F M : Nat → Int32) (n f : Nat) : Bool := decide ((1 ≤ f ∧ f ≤ n) ∧ ¬ F f = 0) && !anyN (sib F M f) 1 (f - 1)
theorem vid_rg (h : vid s a = true) (hn : (sI s 4).toInt ≤ 32) : 1 ≤ a.toInt ∧ a.toInt ≤ (sI s 4).toInt ∧ a.toInt ≤ 32 := by
  have := of_decide_eq_true h
  rw [lt32, lt32] at this; simp only [Int32.reduceToInt] at this; omega
theorem vid_n (hE : Ev s) : vid s a = decide (1 ≤ a.toInt ∧ a.toInt ≤ (nN s : Int)) := by
  unfold vid nN; have := hE.1
  refine decide_eq_decide.mpr ?_
  rw [lt32, lt32]; simp only [Int32.reduceToInt]; omega
set_option maxRecDepth 100000 in
theorem l22 (hE : Ev s) (hb : 1 ≤ b.toInt ∧ b.toInt ≤ 32) (m : Nat) : ∀ (j : Int32), j.toInt = b.toInt - m → 1 ≤ j.toInt →
    (W (pj lw) 22 36 [.val (.ref p), .val (.int b), .val (.int (sA s 2 b.toNatClampNeg)), .val (.int (sA s 3 b.toNatClampNeg)), .val (.int j)] [] k n (ob H p s) Q ↔ Q (some (.int (bz (!anyN (sib (sA s 2) (sA s 3) b.toNatClampNeg) j.toNatClampNeg m)))) (ob H p s)) := by
  induction m with
  | zero =>
    intro j h1 h2
    have h3 : ¬ j < b := by rw [lt32]; omega
    rw [w22_36]; simp +decide only [w22_38, w22_39, w22_72, w22_73, true_and, ↓reduceIte, h3, anyN, bz]
  | succ m ih =>
    intro j h1 h2
    have h3 : j < b := by rw [lt32]; omega
    have h4 : (j + 1).toInt = j.toInt + 1 := ia (by simp only [Int32.reduceToInt]; omega) (by simp only [Int32.reduceToInt]; omega)
    have h5 : (j + 1).toNatClampNeg = j.toNatClampNeg + 1 := by rw [cln, cln]; omega
    have hj : 0 ≤ j.toInt ∧ j.toInt < 33 := by omega
    have key := ih (j + 1) (by omega) (by omega)
    rw [h5] at key
    rw [w22_36]; rw [anyN]
    by_cases e1 : sA s 2 j.toNatClampNeg = sA s 2 b.toNatClampNeg
    · by_cases e2 : sA s 3 j.toNatClampNeg = sA s 3 b.toNatClampNeg
      · have e : sib (sA s 2) (sA s 3) b.toNatClampNeg j.toNatClampNeg = true := decide_eq_true ⟨e1, e2⟩
        rw [e]; simp +decide only [w22_38, w22_39, w22_42, w22_43, w22_46, w22_48, w22_49, w22_50, w22_53, w22_54, w22_57, w22_59, w22_60, w22_61, w22_64, w22_65, isO_put, true_and, and_true, true_or, ↓reduceIte, g6, g7, ai2, ae2, ai3, ae3, h3, hj, e1, e2, Bool.true_or, Bool.not_true, bz]
      · have e : sib (sA s 2) (sA s 3) b.toNatClampNeg j.toNatClampNeg = false := decide_eq_false (fun q => e2 q.2)
        rw [e]; simp +decide only [w22_38, w22_39, w22_42, w22_43, w22_46, w22_48, w22_49, w22_50, w22_53, w22_54, w22_57, w22_59, w22_60, w22_61, w22_66, w22_69, isO_put, true_and, and_true, false_or, ↓reduceIte, g6, g7, ai2, ae2, ai3, ae3, h3, hj, e1, e2, Bool.false_or]
        exact key
    · have e : sib (sA s 2) (sA s 3) b.toNatClampNeg j.toNatClampNeg = false := decide_eq_false (fun q => e1 q.1)
      rw [e]; simp +decide only [w22_38, w22_39, w22_42, w22_43, w22_46, w22_48, w22_49, w22_50, w22_66, w22_69, isO_put, true_and, and_true, false_or, ↓reduceIte, g6, ai2, ae2, h3, hj, e1, Bool.false_or]
      exact key
set_option maxRecDepth 100000 in
theorem t22 (hE : Ev s) (h0 : 0 ≤ a.toInt) : Cl (pj lw) 22 [.ref p, .int a] (ob H p s) Q ↔ Q (some (.int (bz (fmB (sA s 2) (sA s 3) (nN s) a.toNatClampNeg)))) (ob H p s) := by
  rw [c22]
  have hn := hE.1
  have hv := vid_n (a := a) hE
  by_cases e : vid s a = true
  · have r := vid_rg e hn.2
    have hj : 0 ≤ a.toInt ∧ a.toInt < 33 := by omega
    rw [e] at hv
    have hv' := of_decide_eq_true hv.symm
    by_cases e1 : sA s 2 a.toNatClampNeg = 0
    · have g : fmB (sA s 2) (sA s 3) (nN s) a.toNatClampNeg = false := by
        unfold fmB; rw [decide_eq_false (fun q => q.2 e1)]; rfl
      rw [g]; simp +decide only [w22_0, w22_1, w22_2, w22_5, w22_8, w22_9, w22_12, w22_13, w22_14, w22_17, w22_18, isO_put, Option.toList_some, List.cons_append, List.nil_append, true_and, and_true, ↓reduceIte, g6, ai2, ae2, t7, e, hj, e1, bz]
    · have g : fmB (sA s 2) (sA s 3) (nN s) a.toNatClampNeg = !anyN (sib (sA s 2) (sA s 3) a.toNatClampNeg) 1 (a.toNatClampNeg - 1) := by
        unfold fmB; rw [decide_eq_true ⟨by rw [cln]; omega, e1⟩]; rfl
      rw [g]; simp +decide only [w22_0, w22_1, w22_2, w22_5, w22_8, w22_9, w22_12, w22_13, w22_14, w22_19, w22_20, w22_23, w22_24, w22_25, w22_26, w22_27, w22_30, w22_31, w22_32, w22_33, w22_34, isO_put, Option.toList_some, List.cons_append, List.nil_append, true_and, and_true, ↓reduceIte, g6, g7, ai2, ae2, ai3, ae3, t7, e, hj, e1, bz_t]
      exact l22 hE (by omega) (a.toNatClampNeg - 1) 1 (by rw [cln]; simp only [Int32.reduceToInt]; omega) (by decide)
  · have e' : vid s a = false := by simpa using e
    rw [e'] at hv
    have hv' := of_decide_eq_false hv.symm
    have g : fmB (sA s 2) (sA s 3) (nN s) a.toNatClampNeg = false := by
      unfold fmB; rw [decide_eq_false (fun q => hv' (by have := q.1; rw [cln] at this; omega))]; rfl
    rw [g]; simp +decide only [w22_0, w22_1, w22_2, w22_5, w22_17, w22_18, isO_put, Option.toList_some, List.cons_append, List.nil_append, true_and, and_true, ↓reduceIte, t7, e', bz]
def kidF (F M : Nat → Int32) (f : Nat) : Nat → Nat → List Nat
  | 0, _ => []
  | m + 1, j => if sib F M f j = true then j :: kidF F M f m (j + 1) else kidF F M f m (j + 1)
def kl (F M : Nat → Int32) (n f : Nat) : List Nat := kidF F M f (n + 1 - f) f
theorem kidF_mem {f : Nat} : ∀ (m j i : Nat), i ∈ kidF F M f m j → (j ≤ i ∧ i < j + m) ∧ sib F M f i = true
  | 0, j, i, h => by cases h
  | m + 1, j, i, h => by
    unfold kidF at h
    by_cases e : sib F M f j = true
    · rw [if_pos e] at h
      rcases List.mem_cons.mp h with rfl | h
      · exact ⟨by omega, e⟩
      · have := kidF_mem m (j + 1) i h; exact ⟨by omega, this.2⟩
    · rw [if_neg e] at h
      have := kidF_mem m (j + 1) i h; exact ⟨by omega, this.2⟩
theorem kl_mem {f nn i : Nat} (h : i ∈ kl F M nn f) : (f ≤ i ∧ i ≤ nn) ∧ sib F M f i = true := by
  have := kidF_mem _ _ _ h; exact ⟨by omega, this.2⟩
def Kd (s : St) (L : List Nat) : Prop := (sI s 22).toInt = L.length ∧ ∀ k j, L[k]? = some j → sA s 12 k = Int32.ofNat j
theorem Kd.of (h : Kd s L) (h22 : sI s' 22 = sI s 22) (a12 : sA s' 12 = sA s 12) : Kd s' L := by unfold Kd; rw [h22, a12]; exact h
set_option maxRecDepth 100000 in
theorem l23 (hb : 1 ≤ b.toInt ∧ b.toInt ≤ 32) (m : Nat) : ∀ (j : Int32) (L : List Nat) (s : St), Ev s → Kd s L → L.length < j.toInt → j.toInt = (sI s 4).toInt + 1 - m → (b.toInt ≤ j.toInt) →
    (∀ s', Sr s s' → sA s' 7 = sA s 7 → Kd s' (L ++ kidF (sA s 2) (sA s 3) b.toNatClampNeg m j.toNatClampNeg) → Q none (ob H p s')) →
    W (pj lw) 23 22 [.val (.ref p), .val (.int b), .val (.int (sA s 2 b.toNatClampNeg)), .val (.int (sA s 3 b.toNatClampNeg)), .val (.int j)] [] k n (ob H p s) Q := by
  induction m with
  | zero =>
    intro j L s hE hK hl h1 h2 hQ
    have h3 : sI s 4 < j := by rw [lt32]; omega
    rw [w23_22]; simp +decide only [w23_24, w23_25, w23_28, w23_89, isO_put, true_and, ↓reduceIte, g4, h3]
    exact hQ s Sr.refl rfl (by rw [kidF, List.append_nil]; exact hK)
  | succ m ih =>
    intro j L s hE hK hl h1 h2 hQ
    have hn := hE.1
    have h3 : ¬ sI s 4 < j := by rw [lt32]; omega
    have h4 : (j + 1).toInt = j.toInt + 1 := ia (by simp only [Int32.reduceToInt]; omega) (by simp only [Int32.reduceToInt]; omega)
    have h5 : (j + 1).toNatClampNeg = j.toNatClampNeg + 1 := by rw [cln, cln]; omega
    have hj : 0 ≤ j.toInt ∧ j.toInt < 33 := by omega
    rw [w23_22]; rw [kidF] at hQ
    have skip : sib (sA s 2) (sA s 3) b.toNatClampNeg j.toNatClampNeg = false → W (pj lw) 23 22 [.val (.ref p), .val (.int b), .val (.int (sA s 2 b.toNatClampNeg)), .val (.int (sA s 3 b.toNatClampNeg)), .val (.int (j + 1))] [] k n (ob H p s) Q := fun e => by
      rw [e] at hQ
      exact ih (j + 1) L s hE hK (by omega) (by omega) (by omega) (by rw [h5]; exact hQ)
    by_cases e1 : sA s 2 j.toNatClampNeg = sA s 2 b.toNatClampNeg
    · by_cases e2 : sA s 3 j.toNatClampNeg = sA s 3 b.toNatClampNeg
      · have e : sib (sA s 2) (sA s 3) b.toNatClampNeg j.toNatClampNeg = true := decide_eq_true ⟨e1, e2⟩
        have c1 : sI s 22 < 32 := by rw [lt32, hK.1]; simp only [Int32.reduceToInt]; omega
        have c2 : 0 ≤ (sI s 22).toInt ∧ (sI s 22).toInt < 32 := by rw [hK.1]; omega
        have c4 : (sI s 22).toNatClampNeg = L.length := by rw [cln, hK.1]; omega
        have c3 : (sI s 22 + 1).toInt = (sI s 22).toInt + 1 := ia (by simp only [Int32.reduceToInt]; omega) (by simp only [Int32.reduceToInt]; omega)
        simp +decide only [w23_24, w23_25, w23_28, w23_31, w23_32, w23_35, w23_37, w23_38, w23_39, w23_42, w23_43, w23_46, w23_48, w23_49, w23_50, w23_53, w23_54, w23_57, w23_59, w23_62, w23_63, w23_66, w23_67, w23_70, w23_72, w23_73, w23_74, w23_75, w23_78, w23_79, w23_80, w23_83, w23_86, isO_put, isOw_put, okv_int, sI_uA, true_and, and_true, ↓reduceIte, g4, g6, g7, g20, g22, s22, ai2, ae2, ai3, ae3, aw12, as12, h3, hj, e1, e2, c1, c2]
        have es : Sr s (uI (uA s 12 (sI s 22).toNatClampNeg j) 22 (sI s 22 + 1)) := (Sr_uA (by simp)).trans Sr_uI
        have f2 : sA (uI (uA s 12 (sI s 22).toNatClampNeg j) 22 (sI s 22 + 1)) 2 = sA s 2 := es.2.2.1 _ (by decide) (by decide) (by decide)
        have f3 : sA (uI (uA s 12 (sI s 22).toNatClampNeg j) 22 (sI s 22 + 1)) 3 = sA s 3 := es.2.2.1 _ (by decide) (by decide) (by decide)
        have f7 : sA (uI (uA s 12 (sI s 22).toNatClampNeg j) 22 (sI s 22 + 1)) 7 = sA s 7 := by rw [sA_fI, sA_fun (by decide)]
        have f4 : sI (uI (uA s 12 (sI s 22).toNatClampNeg j) 22 (sI s 22 + 1)) 4 = sI s 4 := es.1 _ (by decide)
        have fK : Kd (uI (uA s 12 (sI s 22).toNatClampNeg j) 22 (sI s 22 + 1)) (L ++ [j.toNatClampNeg]) := by
          refine ⟨by rw [sI_uI, if_pos rfl, c3, hK.1]; simp, fun k' j' h' => ?_⟩
          rw [sA_uI, sA_uA]
          by_cases q : k' < L.length
          · rw [List.getElem?_append_left q] at h'
            rw [if_neg (by rw [c4]; omega)]; exact hK.2 k' j' h'
          · rw [List.getElem?_append_right (by omega)] at h'
            have q2 : k' - L.length = 0 := by
              have := (List.getElem?_eq_some_iff.mp h').1; simp at this; omega
            rw [q2] at h'; simp at h'; subst h'
            rw [if_pos ⟨rfl, by rw [c4]; omega⟩, ofn (by omega)]
        rw [e] at hQ; simp only [if_true] at hQ
        have r := ih (j + 1) (L ++ [j.toNatClampNeg]) _ (es.ev hE) fK (by rw [List.length_append, List.length_singleton]; omega) (by rw [f4]; omega) (by omega) (by
          intro s' g1 g2 g3
          rw [f2, f3, h5] at g3
          exact hQ s' (es.trans g1) (g2.trans f7) (by simpa using g3))
        rw [f2, f3] at r
        exact r
      · have e : sib (sA s 2) (sA s 3) b.toNatClampNeg j.toNatClampNeg = false := decide_eq_false (fun q => e2 q.2)
        simp +decide only [w23_24, w23_25, w23_28, w23_31, w23_32, w23_35, w23_37, w23_38, w23_39, w23_42, w23_43, w23_46, w23_48, w23_49, w23_50, w23_83, w23_86, isO_put, true_and, and_true, ↓reduceIte, g4, g6, g7, ai2, ae2, ai3, ae3, h3, hj, e1, e2]
        exact skip e
    · have e : sib (sA s 2) (sA s 3) b.toNatClampNeg j.toNatClampNeg = false := decide_eq_false (fun q => e1 q.1)
      simp +decide only [w23_24, w23_25, w23_28, w23_31, w23_32, w23_35, w23_37, w23_38, w23_39, w23_83, w23_86, isO_put, true_and, and_true, ↓reduceIte, g4, g6, ai2, ae2, h3, hj, e1]
      exact skip e
theorem t23 (hE : Ev s) (hb : 1 ≤ b.toInt ∧ b.toInt ≤ (nN s : Int))
    (hQ : ∀ s', Sr s s' → sA s' 7 = sA s 7 → Kd s' (kl (sA s 2) (sA s 3) (nN s) b.toNatClampNeg) → Q none (ob H p s')) : Cl (pj lw) 23 [.ref p, .int b] (ob H p s) Q := by
  have hn := hE.1
  have hnn : (nN s : Int) = (sI s 4).toInt := by unfold nN; omega
  have hj : 0 ≤ b.toInt ∧ b.toInt < 33 := by omega
  rw [c23]; simp +decide only [w23_0, w23_1, w23_2, w23_5, w23_6, w23_9, w23_10, w23_11, w23_12, w23_13, w23_16, w23_17, w23_18, w23_19, w23_20, isO_put, isOw_put, sA_uI, true_and, and_true, g6, g7, s22, ai2, ae2, ai3, ae3, hj]
  have es : Sr s (uI s 22 0) := Sr_uI
  have r := l23 (p := p) (H := H) (Q := Q) (lw := lw) (k := 0) (n := 0) (b := b) (by omega) (nN s + 1 - b.toNatClampNeg) b [] (uI s 22 0) (es.ev hE) ⟨by rw [sI_uI, if_pos rfl]; rfl, fun k' j' h' => by simp at h'⟩ (by simp; omega) (by rw [es.1 4 (by decide), cln]; omega) (by omega) (by
    intro s' g1 g2 g3
    rw [sA_fI, sA_fI] at g3
    exact hQ s' (es.trans g1) (g2.trans sA_fI) (by simpa [kl] using g3))
  rw [sA_fI, sA_fI] at r
  exact r
def fit (cc : Nat → Int32) (L : List Nat) (m : Int32) : Bool := L.all fun j => decide (¬ cc j &&& m = 0)
def Lb (L : List Nat) : Prop := ∀ j, j ∈ L → 1 ≤ j ∧ j ≤ 32
theorem kl_Lb {f nn : Nat} (h : nn ≤ 32) (hf : 1 ≤ f) : Lb (kl F M nn f) := fun j hj => by have := (kl_mem hj).1; omega
set_option maxRecDepth 100000 in
theorem l24 (hb : Lb L) (hK : Kd s L) (hL : L.length ≤ 32) : ∀ (suf pre : List Nat) (i : Int32), L = pre ++ suf → i.toInt = pre.length →
    (W (pj lw) 24 2 [.val (.ref p), .val (.int a), .val (.int i)] [] k n (ob H p s) Q ↔ Q (some (.int (bz (fit (sA s 7) suf a)))) (ob H p s))
  | [], pre, i, e, hi => by
    have h3 : ¬ i < sI s 22 := by rw [lt32, hK.1, e]; simp; omega
    rw [w24_2]; simp +decide only [w24_3, w24_4, w24_7, w24_34, w24_35, isO_put, true_and, ↓reduceIte, g22, h3, fit, List.all_nil, bz]
  | j :: suf, pre, i, e, hi => by
    have hlen : L.length = pre.length + (suf.length + 1) := by rw [e]; simp
    have h3 : i < sI s 22 := by rw [lt32, hK.1]; omega
    have h4 : (i + 1).toInt = i.toInt + 1 := ia (by simp only [Int32.reduceToInt]; omega) (by simp only [Int32.reduceToInt]; omega)
    have hj : 0 ≤ i.toInt ∧ i.toInt < 32 := by omega
    have jr := hb j (by rw [e]; simp)
    obtain ⟨q1, q2⟩ := ofi (j := j) (by omega)
    have hk := hK.2 i.toNatClampNeg j (by rw [e, List.getElem?_append_right (by rw [cln]; omega)]; rw [show i.toNatClampNeg - pre.length = 0 by rw [cln]; omega]; rfl)
    have hj2 : 0 ≤ (Int32.ofNat j).toInt ∧ (Int32.ofNat j).toInt < 33 := by omega
    have key := l24 hb hK hL suf (pre ++ [j]) (i + 1) (by rw [e]; simp) (by rw [List.length_append, List.length_singleton]; omega)
    rw [w24_2]
    have hf : fit (sA s 7) (j :: suf) a = (decide (¬ sA s 7 j &&& a = 0) && fit (sA s 7) suf a) := by simp only [fit, List.all_cons]
    rw [hf]
    by_cases c1 : sA s 7 j &&& a = 0
    · simp +decide only [w24_3, w24_4, w24_7, w24_10, w24_11, w24_14, w24_15, w24_18, w24_19, w24_20, w24_21, w24_22, w24_23, w24_26, w24_27, isO_put, true_and, and_true, false_and, not_true_eq_false, ↓reduceIte, g11, g20, g22, ai7, ae7, ai12, ae12, h3, hj, hk, hj2, q2, c1, decide_false, Bool.false_and, bz]
    · simp +decide only [w24_3, w24_4, w24_7, w24_10, w24_11, w24_14, w24_15, w24_18, w24_19, w24_20, w24_21, w24_22, w24_23, w24_28, w24_31, isO_put, true_and, and_true, not_false_eq_true, ↓reduceIte, g11, g20, g22, ai7, ae7, ai12, ae12, h3, hj, hk, hj2, q2, c1, decide_true, Bool.true_and]
      exact key
theorem t24 (hb : Lb L) (hK : Kd s L) (hL : L.length ≤ 32) : Cl (pj lw) 24 [.ref p, .int a] (ob H p s) Q ↔ Q (some (.int (bz (fit (sA s 7) L a)))) (ob H p s) := by
  rw [c24]; simp +decide only [w24_0, w24_1]
  exact l24 hb hK hL L [] 0 rfl rfl
def Nk (s : St) (L : List Nat) (nu : Nat → Int32) : Prop := ∀ k j, L[k]? = some j → sA s 13 k = nu j
set_option maxRecDepth 100000 in
theorem l25 (hb : Lb L) (hL : L.length ≤ 32) : ∀ (suf pre : List Nat) (i : Int32) (s : St), Kd s L → L = pre ++ suf → i.toInt = pre.length → (∀ k j, L[k]? = some j → sA s 13 k = if k < pre.length then nu j ||| (sA s 7 j &&& a) else nu j) →
    (∀ s', Sr s s' → sA s' 7 = sA s 7 → Kd s' L → Nk s' L (fun j => nu j ||| (sA s 7 j &&& a)) → Q none (ob H p s')) →
    W (pj lw) 25 2 [.val (.ref p), .val (.int a), .val (.int i)] [] k n (ob H p s) Q
  | [], pre, i, s, hK, e, hi, hN, hQ => by
    have hlen : L.length = pre.length := by rw [e]; simp
    have h3 : ¬ i < sI s 22 := by rw [lt32, hK.1]; omega
    rw [w25_2]; simp +decide only [w25_3, w25_4, w25_7, w25_38, isO_put, true_and, ↓reduceIte, g22, h3]
    exact hQ s Sr.refl rfl hK fun k' j' h' => by
      have := (List.getElem?_eq_some_iff.mp h').1
      rw [hN k' j' h', if_pos (by omega)]
  | j :: suf, pre, i, s, hK, e, hi, hN, hQ => by
    have hlen : L.length = pre.length + (suf.length + 1) := by rw [e]; simp
    have h3 : i < sI s 22 := by rw [lt32, hK.1]; omega
    have h4 : (i + 1).toInt = i.toInt + 1 := ia (by simp only [Int32.reduceToInt]; omega) (by simp only [Int32.reduceToInt]; omega)
    have hj : 0 ≤ i.toInt ∧ i.toInt < 32 := by omega
    have jr := hb j (by rw [e]; simp)
    obtain ⟨q1, q2⟩ := ofi (j := j) (by omega)
    have hi' : i.toNatClampNeg = pre.length := by rw [cln]; omega
    have hLi : L[pre.length]? = some j := by rw [e, List.getElem?_append_right (by omega)]; simp
    have hk := hK.2 i.toNatClampNeg j (by rw [hi']; exact hLi)
    have hj2 : 0 ≤ (Int32.ofNat j).toInt ∧ (Int32.ofNat j).toInt < 33 := by omega
    rw [w25_2]; simp +decide only [w25_3, w25_4, w25_7, w25_10, w25_11, w25_14, w25_15, w25_16, w25_17, w25_18, w25_21, w25_22, w25_25, w25_26, w25_27, w25_28, w25_29, w25_30, w25_31, w25_32, w25_35, isO_put, true_and, and_true, ↓reduceIte, g11, g20, g21, g22, ai7, ae7, ai12, ae12, ai13, aw13, ae13, as13, h3, hj, hk, hj2, q2]
    have es : Sr s (uA s 13 i.toNatClampNeg (sA s 13 i.toNatClampNeg ||| (sA s 7 j &&& a))) := Sr_uA (by simp)
    have f7 : sA (uA s 13 i.toNatClampNeg (sA s 13 i.toNatClampNeg ||| (sA s 7 j &&& a))) 7 = sA s 7 := sA_fun (by decide)
    refine l25 hb hL suf (pre ++ [j]) (i + 1) _ (hK.of sI_uA (sA_fun (by decide))) (by rw [e]; simp) (by rw [List.length_append, List.length_singleton]; omega) (fun k' j' h' => ?_) (fun s' g1 g2 g3 g4 => hQ s' (es.trans g1) (g2.trans f7) g3 (by rw [f7] at g4; exact g4))
    rw [f7, sA_uA, List.length_append, List.length_singleton]
    by_cases z : k' = pre.length
    · subst z
      rw [hLi] at h'; cases h'
      rw [if_pos ⟨rfl, hi'.symm⟩, if_pos (by omega), hi', hN _ _ hLi, if_neg (by omega)]
    · rw [if_neg (by omega), hN k' j' h']
      by_cases z2 : k' < pre.length
      · rw [if_pos z2, if_pos (by omega)]
      · rw [if_neg z2, if_neg (by omega)]
theorem t25 (hb : Lb L) (hL : L.length ≤ 32) (hK : Kd s L) (hN : Nk s L nu)
    (hQ : ∀ s', Sr s s' → sA s' 7 = sA s 7 → Kd s' L → Nk s' L (fun j => nu j ||| (sA s 7 j &&& a)) → Q none (ob H p s')) : Cl (pj lw) 25 [.ref p, .int a] (ob H p s) Q := by
  rw [c25]; simp +decide only [w25_0, w25_1]
  exact l25 hb hL L [] 0 s hK rfl rfl (fun k' j' h' => by rw [if_neg (by simp)]; exact hN k' j' h') hQ
end B

section C
variable {lw : LW} {H : AH} {p : Nat} {s s' s1 s2 : St} {Q : Option Value → AH → Prop} {a b c d x y : Int32} {k n : Nat} {F M KM cc nu : Nat → Int32} {L : List Nat}
def us (l : Slot) : Prop := l = .unset ∨ ∃ v, l = .val (.int v)
theorem us_i {v : Int32} : us (.val (.int v)) := Or.inr ⟨v, rfl⟩
theorem us_u : us .unset := Or.inl rfl
def bt (x : Int32) (g : Nat) : Bool := decide (¬ (x >>> (Int32.ofNat g &&& 31)) &&& 1 = 0)
def hasI (cc : Nat → Int32) (L : List Nat) (KM : Nat → Int32) (ms : Int32) (gf gm : Nat) : Bool := bt ms gm && fit cc L (KM (gf * 10 + gm))
def hasO (cc : Nat → Int32) (L : List Nat) (KM : Nat → Int32) (g : Nat) (fs ms : Int32) (gf : Nat) : Bool := bt fs gf && anyN (hasI cc L KM ms gf) 0 g
def hasA (cc : Nat → Int32) (L : List Nat) (KM : Nat → Int32) (g : Nat) (fs ms : Int32) : Bool := anyN (hasO cc L KM g fs ms) 0 g
theorem ix10 {u v : Int32} (hu : 0 ≤ u.toInt ∧ u.toInt < 10) (hv : 0 ≤ v.toInt ∧ v.toInt < 10) : (0 ≤ (u * 10 + v).toInt ∧ (u * 10 + v).toInt < 100) ∧ (u * 10 + v).toNatClampNeg = u.toNatClampNeg * 10 + v.toNatClampNeg := by
  have i1 : (u * 10 + v).toInt = u.toInt * 10 + v.toInt := by
    rw [idx2 (a := 10) (b := 10) 10 (by decide) hu hv (by omega) (by omega)]; simp only [Int32.reduceToInt]
  exact ⟨by omega, by rw [cln, cln, cln, i1]; omega⟩
theorem bt_i {x i : Int32} (h : 0 ≤ i.toInt ∧ i.toInt < 1000) : bt x i.toNatClampNeg = decide (¬ (x >>> (i &&& 31)) &&& 1 = 0) := by unfold bt; rw [ofn h]
set_option maxRecDepth 100000 in
theorem l26b (hE : Ev s) (hb : Lb L) (hK : Kd s L) (hL : L.length ≤ 32) {f fs ms gf : Int32} (hg : 0 ≤ gf.toInt ∧ gf.toInt < 10) (m : Nat) : ∀ (gm : Int32), gm.toInt = (sI s 1).toInt - m → 0 ≤ gm.toInt →
    (W (pj lw) 26 56 [.val (.ref p), .val (.int f), .val (.int fs), .val (.int ms), .val (.int gf), .val (.int gm)] [] k n (ob H p s) Q ↔ (if anyN (hasI (sA s 7) L (sA s 11) ms gf.toNatClampNeg) gm.toNatClampNeg m = true then Q (some (.int 1)) (ob H p s) else W (pj lw) 26 102 [.val (.ref p), .val (.int f), .val (.int fs), .val (.int ms), .val (.int gf), .val (.int (sI s 1))] [] k n (ob H p s) Q)) := by
  have h10 := hE.2.1
  induction m with
  | zero =>
    intro gm h1 h2
    have h3 : ¬ gm < sI s 1 := by rw [lt32]; omega
    have e : gm = sI s 1 := by rw [eq32]; omega
    rw [w26_56]; simp +decide only [w26_58, w26_59, w26_62, isO_put, true_and, ↓reduceIte, g1, h3, anyN, Bool.false_eq_true]
    rw [e]
  | succ m ih =>
    intro gm h1 h2
    have h3 : gm < sI s 1 := by rw [lt32]; omega
    have h4 : (gm + 1).toInt = gm.toInt + 1 := ia (by simp only [Int32.reduceToInt]; omega) (by simp only [Int32.reduceToInt]; omega)
    have h5 : (gm + 1).toNatClampNeg = gm.toNatClampNeg + 1 := by rw [cln, cln]; omega
    have key := ih (gm + 1) (by omega) (by omega)
    rw [h5] at key
    obtain ⟨i1, i2⟩ := ix10 (u := gf) (v := gm) hg (by omega)
    have hbt := bt_i (x := ms) (i := gm) (by omega)
    rw [w26_56, anyN]
    by_cases e1 : (ms >>> (gm &&& 31)) &&& 1 = 0
    · have e : hasI (sA s 7) L (sA s 11) ms gf.toNatClampNeg gm.toNatClampNeg = false := by unfold hasI; rw [hbt, decide_eq_false (fun q => q e1)]; rfl
      rw [e, Bool.false_or]
      simp +decide only [w26_58, w26_59, w26_62, w26_65, w26_66, w26_68, w26_69, w26_70, w26_71, w26_96, w26_99, isO_put, true_and, ↓reduceIte, g1, h3, e1]
      exact key
    · have e0 : bt ms gm.toNatClampNeg = true := by rw [hbt]; exact decide_eq_true e1
      by_cases e2 : fit (sA s 7) L (sA s 11 (gf.toNatClampNeg * 10 + gm.toNatClampNeg)) = true
      · have e : hasI (sA s 7) L (sA s 11) ms gf.toNatClampNeg gm.toNatClampNeg = true := by unfold hasI; rw [e0, e2]; rfl
        rw [e, Bool.true_or]
        simp +decide only [w26_58, w26_59, w26_62, w26_65, w26_66, w26_68, w26_69, w26_70, w26_71, w26_74, w26_75, w26_76, w26_79, w26_81, w26_83, w26_84, w26_86, w26_87, w26_88, w26_91, w26_94, w26_95, isO_put, Option.toList_some, List.cons_append, List.nil_append, true_and, and_true, ↓reduceIte, g1, g19, ai11, ae11, h3, e1, i1, i2, t24 hb hK hL, e2, bz_t]
      · have e2' : fit (sA s 7) L (sA s 11 (gf.toNatClampNeg * 10 + gm.toNatClampNeg)) = false := by simpa using e2
        have e : hasI (sA s 7) L (sA s 11) ms gf.toNatClampNeg gm.toNatClampNeg = false := by unfold hasI; rw [e0, e2']; rfl
        rw [e, Bool.false_or]
        simp +decide only [w26_58, w26_59, w26_62, w26_65, w26_66, w26_68, w26_69, w26_70, w26_71, w26_74, w26_75, w26_76, w26_79, w26_81, w26_83, w26_84, w26_86, w26_87, w26_88, w26_91, w26_96, w26_99, isO_put, Option.toList_some, List.cons_append, List.nil_append, true_and, and_true, ↓reduceIte, g1, g19, ai11, ae11, h3, e1, i1, i2, t24 hb hK hL, e2', bz_f]
        exact key
set_option maxRecDepth 100000 in
theorem l26 (hE : Ev s) (hb : Lb L) (hK : Kd s L) (hL : L.length ≤ 32) {f fs ms : Int32} (m : Nat) : ∀ (gf : Int32) (l5 : Slot), us l5 → gf.toInt = (sI s 1).toInt - m → 0 ≤ gf.toInt →
    (W (pj lw) 26 32 [.val (.ref p), .val (.int f), .val (.int fs), .val (.int ms), .val (.int gf), l5] [] k n (ob H p s) Q ↔ Q (some (.int (bz (anyN (hasO (sA s 7) L (sA s 11) (gN s) fs ms) gf.toNatClampNeg m)))) (ob H p s)) := by
  have h10 := hE.2.1
  induction m with
  | zero =>
    intro gf l5 hu h1 h2
    have h3 : ¬ gf < sI s 1 := by rw [lt32]; omega
    rw [w26_32]; simp +decide only [w26_34, w26_35, w26_38, w26_108, w26_109, isO_put, true_and, ↓reduceIte, g1, h3, anyN, bz]
  | succ m ih =>
    intro gf l5 hu h1 h2
    have h3 : gf < sI s 1 := by rw [lt32]; omega
    have h4 : (gf + 1).toInt = gf.toInt + 1 := ia (by simp only [Int32.reduceToInt]; omega) (by simp only [Int32.reduceToInt]; omega)
    have h5 : (gf + 1).toNatClampNeg = gf.toNatClampNeg + 1 := by rw [cln, cln]; omega
    have key := fun l5 hu => ih (gf + 1) l5 hu (by omega) (by omega)
    rw [h5] at key
    have hbt := bt_i (x := fs) (i := gf) (by omega)
    rw [w26_32, anyN]
    by_cases e1 : (fs >>> (gf &&& 31)) &&& 1 = 0
    · have e : hasO (sA s 7) L (sA s 11) (gN s) fs ms gf.toNatClampNeg = false := by unfold hasO; rw [hbt, decide_eq_false (fun q => q e1)]; rfl
      rw [e, Bool.false_or]
      simp +decide only [w26_34, w26_35, w26_38, w26_41, w26_42, w26_44, w26_45, w26_46, w26_47, w26_50, w26_102, w26_105, isO_put, true_and, ↓reduceIte, g1, h3, e1]
      exact key l5 hu
    · have e0 : bt fs gf.toNatClampNeg = true := by rw [hbt]; exact decide_eq_true e1
      have in0 := l26b (p := p) (H := H) (Q := Q) (lw := lw) (k := k) (n := n) hE hb hK hL (f := f) (fs := fs) (ms := ms) (gf := gf) (by omega) (gN s) 0 (by unfold gN; simp only [Int32.reduceToInt]; omega) (by decide)
      rw [show (0 : Int32).toNatClampNeg = 0 from rfl] at in0
      have st : W (pj lw) 26 56 [.val (.ref p), .val (.int f), .val (.int fs), .val (.int ms), .val (.int gf), .val (.int 0)] [] k n (ob H p s) Q ↔ Q (some (.int (bz (hasO (sA s 7) L (sA s 11) (gN s) fs ms gf.toNatClampNeg || anyN (hasO (sA s 7) L (sA s 11) (gN s) fs ms) (gf.toNatClampNeg + 1) m)))) (ob H p s) := by
        rw [in0]
        cases e2 : anyN (hasI (sA s 7) L (sA s 11) ms gf.toNatClampNeg) 0 (gN s) with
        | true =>
          have e : hasO (sA s 7) L (sA s 11) (gN s) fs ms gf.toNatClampNeg = true := by unfold hasO; rw [e0, e2]; rfl
          rw [e, if_pos rfl, Bool.true_or]; exact Iff.rfl
        | false =>
          have e : hasO (sA s 7) L (sA s 11) (gN s) fs ms gf.toNatClampNeg = false := by unfold hasO; rw [e0, e2]; rfl
          rw [e, if_neg (by decide), Bool.false_or]
          simp +decide only [w26_102, w26_105]
          exact key _ us_i
      rcases hu with rfl | ⟨v, rfl⟩ <;> simp +decide only [w26_34, w26_35, w26_38, w26_41, w26_42, w26_44, w26_45, w26_46, w26_47, w26_53, w26_54i, w26_54, isO_put, true_and, ↓reduceIte, g1, h3, e1] <;> exact st
theorem par_rg (hE : Ev s) (hb : 1 ≤ b.toInt ∧ b.toInt ≤ (nN s : Int)) (h2 : ¬ sA s 2 b.toNatClampNeg = 0) : (1 ≤ (sA s 2 b.toNatClampNeg).toInt ∧ (sA s 2 b.toNatClampNeg).toInt < b.toInt) ∧ (1 ≤ (sA s 3 b.toNatClampNeg).toInt ∧ (sA s 3 b.toNatClampNeg).toInt < b.toInt) := by
  have := (hE.2.2.2 b.toNatClampNeg (by rw [cln]; omega) (by rw [cln]; omega)).resolve_left (fun q => h2 q.1)
  rw [cln] at *; omega
theorem kl_len {f nn : Nat} (h : nn ≤ 32) (hf : 1 ≤ f) : (kl F M nn f).length ≤ 32 := by
  have : ∀ m j, (kidF F M f m j).length ≤ m := fun m => by
    induction m with
    | zero => intro j; simp [kidF]
    | succ m ih =>
      intro j; unfold kidF; have := ih (j + 1); split
      · simp only [List.length_cons]; omega
      · omega
  have := this (nn + 1 - f) f
  unfold kl; omega
theorem nN_le (hE : Ev s) : nN s ≤ 32 ∧ (nN s : Int) = (sI s 4).toInt := by unfold nN; have := hE.1; omega
set_option maxRecDepth 100000 in
theorem t26 (hE : Ev s) (hb : 1 ≤ b.toInt ∧ b.toInt ≤ (nN s : Int)) (h2 : ¬ sA s 2 b.toNatClampNeg = 0)
    (hQ : ∀ s', Sr s s' → sA s' 7 = sA s 7 → Kd s' (kl (sA s 2) (sA s 3) (nN s) b.toNatClampNeg) → Q (some (.int (bz (hasA (sA s 7) (kl (sA s 2) (sA s 3) (nN s) b.toNatClampNeg) (sA s 11) (gN s) (sA s 7 (sA s 2 b.toNatClampNeg).toNatClampNeg) (sA s 7 (sA s 3 b.toNatClampNeg).toNatClampNeg))))) (ob H p s')) :
    Cl (pj lw) 26 [.ref p, .int b] (ob H p s) Q := by
  obtain ⟨hn, hn'⟩ := nN_le hE
  have r := par_rg hE hb h2
  rw [c26]; simp +decide only [w26_0, w26_1, w26_2, isO_put, true_and, and_true]
  refine t23 hE hb fun s' g1 g2 g3 => ?_
  have f2 : sA s' 2 = sA s 2 := g1.2.2.1 _ (by decide) (by decide) (by decide)
  have f3 : sA s' 3 = sA s 3 := g1.2.2.1 _ (by decide) (by decide) (by decide)
  have f11 : sA s' 11 = sA s 11 := g1.2.2.1 _ (by decide) (by decide) (by decide)
  have i0 : 0 ≤ b.toInt ∧ b.toInt < 33 := by omega
  have i1 : 0 ≤ (sA s 2 b.toNatClampNeg).toInt ∧ (sA s 2 b.toNatClampNeg).toInt < 33 := by omega
  have i2 : 0 ≤ (sA s 3 b.toNatClampNeg).toInt ∧ (sA s 3 b.toNatClampNeg).toInt < 33 := by omega
  have q := l26 (p := p) (H := H) (Q := Q) (lw := lw) (k := 0) (n := 0) (g1.ev hE) (kl_Lb hn (by rw [cln]; omega)) g3 (kl_len hn (by rw [cln]; omega)) (f := b) (fs := sA s 7 (sA s 2 b.toNatClampNeg).toNatClampNeg) (ms := sA s 7 (sA s 3 b.toNatClampNeg).toNatClampNeg) (gN s') 0 .unset us_u (by unfold gN; have := (g1.ev hE).2.1; simp only [Int32.reduceToInt]; omega) (by decide)
  have eg : gN s' = gN s := by unfold gN; rw [g1.1 _ (by decide)]
  rw [g2, f11, eg, show (0 : Int32).toNatClampNeg = 0 from rfl] at q
  simp +decide only [w26_5, w26_6, w26_9, w26_10, w26_13, w26_14, w26_15, w26_16, w26_17, w26_18, w26_21, w26_22, w26_25, w26_26, w26_27, w26_28, w26_29, w26_30, isO_put, Option.toList_none, List.nil_append, true_and, and_true, g2, g6, g7, g11, ai2, ae2, ai3, ae3, ai7, ae7, f2, f3, i0, i1, i2, g2]
  exact q.mpr (hQ s' g1 g2 g3)
def up (cc : Nat → Int32) (i : Nat) (v : Int32) : Nat → Int32 := fun j => if j = i then v else cc j
theorem up_same {i : Nat} : up cc i (cc i) = cc := by funext j; unfold up; split; rename_i h; rw [h]; rfl
theorem sA_up {t i : Nat} {v : Int32} : sA (uA s t i v) t = up (sA s t) i v := by
  funext j; rw [sA_uA]; unfold up; by_cases h : j = i
  · rw [if_pos ⟨rfl, h⟩, if_pos h]
  · rw [if_neg (fun q => h q.2), if_neg h]
def kF (nu : Nat → Int32) : List Nat → (Nat → Int32) → (Nat → Int32)
  | [], cc => cc
  | j :: L, cc => kF nu L (up cc j (cc j &&& nu j))
def kB (nu : Nat → Int32) : List Nat → (Nat → Int32) → Bool
  | [], _ => false
  | j :: L, cc => decide (¬ cc j &&& nu j = cc j) || kB nu L (up cc j (cc j &&& nu j))
set_option maxRecDepth 100000 in
theorem l28 (hb : Lb L) (hL : L.length ≤ 32) {fa mo nf nm : Int32} : ∀ (suf pre : List Nat) (i : Int32) (b : Bool) (l7 : Slot) (s : St), us l7 → Kd s L → Nk s L nu → L = pre ++ suf → i.toInt = pre.length →
    (∀ s', Sr s s' → sA s' 7 = kF nu suf (sA s 7) → Q (some (.int (bz (b || kB nu suf (sA s 7))))) (ob H p s')) →
    W (pj lw) 28 68 [.val (.ref p), .val (.int fa), .val (.int mo), .val (.int nf), .val (.int nm), .val (.int (bz b)), .val (.int i), l7] [] k n (ob H p s) Q
  | [], pre, i, b, l7, s, hu, hK, hN, e, hi, hQ => by
    have hlen : L.length = pre.length := by rw [e]; simp
    have h3 : ¬ i < sI s 22 := by rw [lt32, hK.1]; omega
    have hQ' := hQ s Sr.refl rfl
    rw [kB, Bool.or_false] at hQ'
    rw [w28_68]; simp +decide only [w28_70, w28_71, w28_74, w28_137, w28_139, isO_put, true_and, ↓reduceIte, g22, h3, bz01]
    exact hQ'
  | j :: suf, pre, i, b, l7, s, hu, hK, hN, e, hi, hQ => by
    have hlen : L.length = pre.length + (suf.length + 1) := by rw [e]; simp
    have h3 : i < sI s 22 := by rw [lt32, hK.1]; omega
    have h4 : (i + 1).toInt = i.toInt + 1 := ia (by simp only [Int32.reduceToInt]; omega) (by simp only [Int32.reduceToInt]; omega)
    have hj : 0 ≤ i.toInt ∧ i.toInt < 32 := by omega
    have jr := hb j (by rw [e]; simp)
    obtain ⟨q1, q2⟩ := ofi (j := j) (by omega)
    have hi' : i.toNatClampNeg = pre.length := by rw [cln]; omega
    have hLi : L[i.toNatClampNeg]? = some j := by rw [hi', e, List.getElem?_append_right (by omega)]; simp
    have hk := hK.2 i.toNatClampNeg j hLi
    have hm := hN i.toNatClampNeg j hLi
    have hj2 : 0 ≤ (Int32.ofNat j).toInt ∧ (Int32.ofNat j).toInt < 33 := by omega
    rw [kF, kB] at hQ
    by_cases e1 : sA s 7 j &&& nu j = sA s 7 j
    · have r := fun l7 hu => l28 hb hL (fa := fa) (mo := mo) (nf := nf) (nm := nm) suf (pre ++ [j]) (i + 1) b l7 s hu hK hN (by rw [e]; simp) (by rw [List.length_append, List.length_singleton]; omega) (by
        rw [e1, up_same, decide_eq_false (fun q => q rfl), Bool.false_or] at hQ; exact hQ)
      rw [w28_68]
      rcases hu with rfl | ⟨v, rfl⟩ <;> simp +decide only [w28_70, w28_71, w28_74, w28_77, w28_78, w28_81, w28_83, w28_84i, w28_84, w28_86, w28_87, w28_90, w28_92, w28_93, w28_94, w28_97, w28_99, w28_100, w28_101, w28_102, w28_105, w28_107, w28_108, w28_131, w28_134, isO_put, true_and, and_true, ↓reduceIte, g11, g20, g21, g22, ai7, ae7, ai12, ae12, ai13, ae13, h3, hj, hk, hm, hj2, q2, e1] <;> exact r _ us_i
    · have es : Sr s (uA s 7 j (sA s 7 j &&& nu j)) := Sr_uA (by simp)
      have r := fun l7 hu => l28 hb hL (fa := fa) (mo := mo) (nf := nf) (nm := nm) suf (pre ++ [j]) (i + 1) true l7 (uA s 7 j (sA s 7 j &&& nu j)) hu (hK.of sI_uA (sA_fun (by decide))) (fun k' j' h' => by rw [sA_fun (by decide)]; exact hN k' j' h') (by rw [e]; simp) (by rw [List.length_append, List.length_singleton]; omega) (by
        intro s' g1 g2
        rw [sA_up] at g2
        have := hQ s' (es.trans g1) g2
        rw [decide_eq_true e1, Bool.true_or, Bool.or_true] at this
        rw [Bool.true_or]; exact this)
      rw [w28_68]
      rcases hu with rfl | ⟨v, rfl⟩ <;> simp +decide only [w28_70, w28_71, w28_74, w28_77, w28_78, w28_81, w28_83, w28_84i, w28_84, w28_86, w28_87, w28_90, w28_92, w28_93, w28_94, w28_97, w28_99, w28_100, w28_101, w28_102, w28_105, w28_107, w28_108, w28_111, w28_112, w28_115, w28_117, w28_118, w28_119, w28_120, w28_123, w28_125, w28_126, w28_127, w28_128, w28_129i, w28_131, w28_134, isO_put, true_and, and_true, ↓reduceIte, g11, g20, g21, g22, ai7, aw7, ae7, as7, ai12, ae12, ai13, ae13, h3, hj, hk, hm, hj2, q2, e1] <;> exact r _ us_i
def ap2 (cc : Nat → Int32) (fa mo : Nat) (nf nm : Int32) : Nat → Int32 := up (up cc fa (cc fa &&& nf)) mo (up cc fa (cc fa &&& nf) mo &&& nm)
def apC (cc : Nat → Int32) (fa mo : Nat) (nf nm : Int32) (L : List Nat) (nu : Nat → Int32) : Nat → Int32 := kF nu L (ap2 cc fa mo nf nm)
def apB (cc : Nat → Int32) (fa mo : Nat) (nf nm : Int32) (L : List Nat) (nu : Nat → Int32) : Bool := (decide (¬ cc fa &&& nf = cc fa) || decide (¬ up cc fa (cc fa &&& nf) mo &&& nm = up cc fa (cc fa &&& nf) mo)) || kB nu L (ap2 cc fa mo nf nm)
set_option maxRecDepth 100000 in
theorem t28 (hb : Lb L) (hL : L.length ≤ 32) (hK : Kd s L) (hN : Nk s L nu) {fa mo nf nm : Int32} (h1 : 0 ≤ fa.toInt ∧ fa.toInt < 33) (h2 : 0 ≤ mo.toInt ∧ mo.toInt < 33)
    (hQ : ∀ s', Sr s s' → sA s' 7 = apC (sA s 7) fa.toNatClampNeg mo.toNatClampNeg nf nm L nu → Q (some (.int (bz (apB (sA s 7) fa.toNatClampNeg mo.toNatClampNeg nf nm L nu)))) (ob H p s')) :
    Cl (pj lw) 28 [.ref p, .int fa, .int mo, .int nf, .int nm] (ob H p s) Q := by
  have key : ∀ (z1 : St) (b : Bool), Sr s z1 → sI z1 22 = sI s 22 → sA z1 12 = sA s 12 → sA z1 13 = sA s 13 → sA z1 7 = up (sA s 7) fa.toNatClampNeg (sA s 7 fa.toNatClampNeg &&& nf) → b = decide (¬ sA s 7 fa.toNatClampNeg &&& nf = sA s 7 fa.toNatClampNeg) →
      W (pj lw) 28 33 [.val (.ref p), .val (.int fa), .val (.int mo), .val (.int nf), .val (.int nm), .val (.int (bz b)), .unset, .unset] [] 0 0 (ob H p z1) Q := by
    intro z1 b es e22 e12 e13 e7 eb
    have k2 : ∀ (z2 : St) (b2 : Bool), Sr z1 z2 → sI z2 22 = sI z1 22 → sA z2 12 = sA z1 12 → sA z2 13 = sA z1 13 → sA z2 7 = up (sA z1 7) mo.toNatClampNeg (sA z1 7 mo.toNatClampNeg &&& nm) → b2 = (b || decide (¬ sA z1 7 mo.toNatClampNeg &&& nm = sA z1 7 mo.toNatClampNeg)) →
        W (pj lw) 28 68 [.val (.ref p), .val (.int fa), .val (.int mo), .val (.int nf), .val (.int nm), .val (.int (bz b2)), .val (.int 0), .unset] [] 0 0 (ob H p z2) Q := by
      intro z2 b2 es' e22' e12' e13' e7' eb'
      refine l28 hb hL L [] 0 b2 .unset z2 us_u (hK.of (e22'.trans e22) (e12'.trans e12)) (fun k' j' h' => by rw [e13', e13]; exact hN k' j' h') rfl rfl fun s' g1 g2 => ?_
      have e8 : sA z2 7 = ap2 (sA s 7) fa.toNatClampNeg mo.toNatClampNeg nf nm := by rw [e7', e7]; rfl
      rw [e8] at g2 ⊢
      have := hQ s' ((es.trans es').trans g1) g2
      unfold apB at this; rw [← eb, ← e7, ← eb'] at this; exact this
    by_cases e2 : sA z1 7 mo.toNatClampNeg &&& nm = sA z1 7 mo.toNatClampNeg
    · simp +decide only [w28_33, w28_34, w28_37, w28_38, w28_39, w28_41, w28_42, w28_43, w28_46, w28_47, w28_48, w28_65, w28_66, isO_put, true_and, and_true, ↓reduceIte, g11, ai7, ae7, h2, e2]
      exact k2 z1 b Sr.refl rfl rfl rfl (by rw [e2, up_same]) (by rw [e2]; simp)
    · simp +decide only [w28_33, w28_34, w28_37, w28_38, w28_39, w28_41, w28_42, w28_43, w28_46, w28_47, w28_48, w28_51, w28_52, w28_55, w28_56, w28_57, w28_58, w28_60, w28_61, w28_62, w28_63i, w28_65, w28_66, isO_put, true_and, and_true, ↓reduceIte, g11, ai7, aw7, ae7, as7, h2, e2]
      exact k2 _ true (Sr_uA (by simp)) sI_uA (sA_fun (by decide)) (sA_fun (by decide)) sA_up (by simp [e2])
  rw [c28]
  by_cases e1 : sA s 7 fa.toNatClampNeg &&& nf = sA s 7 fa.toNatClampNeg
  · simp +decide only [w28_0, w28_1, w28_3, w28_4, w28_7, w28_8, w28_9, w28_10, w28_11, w28_12, w28_15, w28_16, w28_17, isO_put, true_and, and_true, ↓reduceIte, g11, ai7, ae7, h1, e1]
    exact key s false Sr.refl rfl rfl rfl (by rw [e1, up_same]) (by rw [e1]; simp)
  · simp +decide only [w28_0, w28_1, w28_3, w28_4, w28_7, w28_8, w28_9, w28_10, w28_11, w28_12, w28_15, w28_16, w28_17, w28_20, w28_21, w28_24, w28_25, w28_26, w28_27, w28_28, w28_29, w28_30, w28_31i, isO_put, true_and, and_true, ↓reduceIte, g11, ai7, aw7, ae7, as7, h1, e1]
    exact key _ true (Sr_uA (by simp)) sI_uA (sA_fun (by decide)) (sA_fun (by decide)) sA_up (by simp [e1])
end C

section D
variable {lw : LW} {H : AH} {p : Nat} {s s' : St} {Q : Option Value → AH → Prop} {a b c d x y : Int32} {k n : Nat} {F M KM cc nu : Nat → Int32} {L : List Nat}
abbrev Dt : Type := (Nat → Int32) × (Nat → Int32) × (Nat → Int32) × Nat × Nat
def dt (s : St) : Dt := (sA s 2, sA s 3, sA s 11, nN s, gN s)
theorem Sr.dt (h : Sr s s') : dt s' = dt s := by
  unfold Pj.dt Pj.nN gN
  rw [h.2.2.1 2 (by decide) (by decide) (by decide), h.2.2.1 3 (by decide) (by decide) (by decide), h.2.2.1 11 (by decide) (by decide) (by decide), h.1 4 (by decide), h.1 1 (by decide)]
def dF (D : Dt) (f : Nat) : Nat := (D.1 f).toNatClampNeg
def dM (D : Dt) (f : Nat) : Nat := (D.2.1 f).toNatClampNeg
def dL (D : Dt) (f : Nat) : List Nat := kl D.1 D.2.1 D.2.2.2.1 f
def dK (D : Dt) : Nat → Int32 := D.2.2.1
def dn (D : Dt) : Nat := D.2.2.2.1
def dg (D : Dt) : Nat := D.2.2.2.2
def fam (D : Dt) (f : Nat) : Bool := fmB D.1 D.2.1 (dn D) f
theorem fam_i {D : Dt} {f : Nat} (h : fam D f = true) : (1 ≤ f ∧ f ≤ dn D) ∧ ¬ D.1 f = 0 := by
  unfold fam fmB at h; rw [Bool.and_eq_true] at h; exact of_decide_eq_true h.1
abbrev Ac : Type := Int32 × Int32 × (Nat → Int32)
def pr1 (cc : Nat → Int32) (L : List Nat) (KM : Nat → Int32) (ms : Int32) (gf gm : Nat) (A : Ac) : Ac := if hasI cc L KM ms gf gm = true then (A.1 ||| 1 <<< (Int32.ofNat gf &&& 31), A.2.1 ||| 1 <<< (Int32.ofNat gm &&& 31), fun j => A.2.2 j ||| (cc j &&& KM (gf * 10 + gm))) else A
def prI (cc : Nat → Int32) (L : List Nat) (KM : Nat → Int32) (ms : Int32) (gf : Nat) : Nat → Nat → Ac → Ac
  | _, 0, A => A
  | gm, m + 1, A => prI cc L KM ms gf (gm + 1) m (pr1 cc L KM ms gf gm A)
def prO (cc : Nat → Int32) (L : List Nat) (KM : Nat → Int32) (fs ms : Int32) (g : Nat) : Nat → Nat → Ac → Ac
  | _, 0, A => A
  | gf, m + 1, A => prO cc L KM fs ms g (gf + 1) m (if bt fs gf = true then prI cc L KM ms gf 0 g A else A)
set_option maxRecDepth 100000 in
theorem l27a (hL : L.length ≤ 32) {f fa mo : Int32} : ∀ (m : Nat) (i : Int32) (s : St), Kd s L → i.toInt = (L.length : Int) - m → 0 ≤ i.toInt → (∀ k : Nat, (k : Int) < i.toInt → sA s 13 k = 0) →
    (∀ s', Sr s s' → sA s' 7 = sA s 7 → Kd s' L → Nk s' L (fun _ => 0) → W (pj lw) 27 45 [.val (.ref p), .val (.int f), .val (.int fa), .val (.int mo), .val (.int (sI s 22)), .unset, .unset, .unset, .unset] [] k n (ob H p s') Q) →
    W (pj lw) 27 22 [.val (.ref p), .val (.int f), .val (.int fa), .val (.int mo), .val (.int i), .unset, .unset, .unset, .unset] [] k n (ob H p s) Q
  | 0, i, s, hK, h1, h2, hz, hQ => by
    have h3 : ¬ i < sI s 22 := by rw [lt32, hK.1]; omega
    have e : i = sI s 22 := by rw [eq32, hK.1]; omega
    rw [w27_22]; simp +decide only [w27_24, w27_25, w27_28, isO_put, true_and, ↓reduceIte, g22, h3]
    rw [e]
    exact hQ s Sr.refl rfl hK fun k' j' h' => by
      have := (List.getElem?_eq_some_iff.mp h').1
      exact hz k' (by omega)
  | m + 1, i, s, hK, h1, h2, hz, hQ => by
    have h3 : i < sI s 22 := by rw [lt32, hK.1]; omega
    have h4 : (i + 1).toInt = i.toInt + 1 := ia (by simp only [Int32.reduceToInt]; omega) (by simp only [Int32.reduceToInt]; omega)
    have hj : 0 ≤ i.toInt ∧ i.toInt < 32 := by omega
    rw [w27_22]; simp +decide only [w27_24, w27_25, w27_28, w27_31, w27_32, w27_35, w27_37, w27_38, w27_39, w27_42, isO_put, true_and, and_true, ↓reduceIte, g21, g22, aw13, as13, h3, hj]
    have es : Sr s (uA s 13 i.toNatClampNeg 0) := Sr_uA (by simp)
    refine l27a hL m (i + 1) _ (hK.of sI_uA (sA_fun (by decide))) (by omega) (by omega) (fun k' h' => ?_) fun s' q1 q2 q3 q4 => ?_
    · rw [sA_uA]
      by_cases z : k' = i.toNatClampNeg
      · rw [if_pos ⟨rfl, z⟩]
      · rw [if_neg (fun q => z q.2)]; exact hz k' (by rw [cln] at z; omega)
    · rw [sI_uA]; exact hQ s' (es.trans q1) (q2.trans (sA_fun (by decide))) q3 q4
set_option maxRecDepth 100000 in
theorem l27b (hb : Lb L) (hL : L.length ≤ 32) {f fa mo gf : Int32} (hm : 0 ≤ mo.toInt ∧ mo.toInt < 33) (hg : 0 ≤ gf.toInt ∧ gf.toInt < 10) : ∀ (m : Nat) (gm : Int32) (A : Ac) (l8 : Slot) (s : St), Ev s → us l8 → Kd s L → Nk s L A.2.2 → gm.toInt = (sI s 1).toInt - m → 0 ≤ gm.toInt →
    (∀ (s' : St) (A' : Ac) (l8 : Slot), us l8 → Sr s s' → sA s' 7 = sA s 7 → Kd s' L → Nk s' L A'.2.2 → A' = prI (sA s 7) L (sA s 11) (sA s 7 mo.toNatClampNeg) gf.toNatClampNeg gm.toNatClampNeg m A → W (pj lw) 27 160 [.val (.ref p), .val (.int f), .val (.int fa), .val (.int mo), .val (.int A'.1), .val (.int A'.2.1), .val (.int gf), .val (.int (sI s 1)), l8] [] k n (ob H p s') Q) →
    W (pj lw) 27 83 [.val (.ref p), .val (.int f), .val (.int fa), .val (.int mo), .val (.int A.1), .val (.int A.2.1), .val (.int gf), .val (.int gm), l8] [] k n (ob H p s) Q
  | 0, gm, A, l8, s, hE, hu, hK, hN, h1, h2, hQ => by
    have h3 : ¬ gm < sI s 1 := by rw [lt32]; omega
    have e : gm = sI s 1 := by rw [eq32]; omega
    rw [w27_83]; simp +decide only [w27_85, w27_86, w27_89, isO_put, true_and, ↓reduceIte, g1, h3]
    have := hQ s A l8 hu Sr.refl rfl hK hN rfl
    rw [e]; exact this
  | m + 1, gm, A, l8, s, hE, hu, hK, hN, h1, h2, hQ => by
    have h10 := hE.2.1
    have h3 : gm < sI s 1 := by rw [lt32]; omega
    have h4 : (gm + 1).toInt = gm.toInt + 1 := ia (by simp only [Int32.reduceToInt]; omega) (by simp only [Int32.reduceToInt]; omega)
    have h5 : (gm + 1).toNatClampNeg = gm.toNatClampNeg + 1 := by rw [cln, cln]; omega
    obtain ⟨i1, i2⟩ := ix10 (u := gf) (v := gm) hg (by omega)
    have hbt := bt_i (x := sA s 7 mo.toNatClampNeg) (i := gm) (by omega)
    have o1 := ofn (i := gf) (by omega)
    have o2 := ofn (i := gm) (by omega)
    rw [prI] at hQ
    have skip : hasI (sA s 7) L (sA s 11) (sA s 7 mo.toNatClampNeg) gf.toNatClampNeg gm.toNatClampNeg = false → ∀ l8, us l8 → W (pj lw) 27 83 [.val (.ref p), .val (.int f), .val (.int fa), .val (.int mo), .val (.int A.1), .val (.int A.2.1), .val (.int gf), .val (.int (gm + 1)), l8] [] k n (ob H p s) Q := fun e l8 hu => by
      refine l27b hb hL hm hg m (gm + 1) A l8 s hE hu hK hN (by omega) (by omega) fun s' A' l8 hu' q1 q2 q3 q4 q5 => hQ s' A' l8 hu' q1 q2 q3 q4 ?_
      rw [q5, h5]; unfold pr1; rw [e]; rfl
    rw [w27_83]
    by_cases e1 : (sA s 7 mo.toNatClampNeg >>> (gm &&& 31)) &&& 1 = 0
    · have e : hasI (sA s 7) L (sA s 11) (sA s 7 mo.toNatClampNeg) gf.toNatClampNeg gm.toNatClampNeg = false := by unfold hasI; rw [hbt, decide_eq_false (fun q => q e1)]; rfl
      rcases hu with rfl | ⟨v, rfl⟩ <;> simp +decide only [w27_85, w27_86, w27_89, w27_92, w27_93, w27_96, w27_98, w27_100, w27_101, w27_103, w27_104, w27_105i, w27_105, w27_107, w27_108, w27_111, w27_112, w27_113, w27_115, w27_116, w27_117, w27_118, w27_154, w27_157, isO_put, true_and, and_true, ↓reduceIte, g1, g11, g19, ai7, ae7, ai11, ae11, h3, hm, i1, i2, e1] <;> exact skip e _ us_i
    · have e0 : bt (sA s 7 mo.toNatClampNeg) gm.toNatClampNeg = true := by rw [hbt]; exact decide_eq_true e1
      by_cases e2 : fit (sA s 7) L (sA s 11 (gf.toNatClampNeg * 10 + gm.toNatClampNeg)) = true
      · have e : hasI (sA s 7) L (sA s 11) (sA s 7 mo.toNatClampNeg) gf.toNatClampNeg gm.toNatClampNeg = true := by unfold hasI; rw [e0, e2]; rfl
        have nx : Cl (pj lw) 25 [.ref p, .int (sA s 11 (gf.toNatClampNeg * 10 + gm.toNatClampNeg))] (ob H p s) (fun v H => W (pj lw) 27 154 [.val (.ref p), .val (.int f), .val (.int fa), .val (.int mo), .val (.int (A.1 ||| 1 <<< (gf &&& 31))), .val (.int (A.2.1 ||| 1 <<< (gm &&& 31))), .val (.int gf), .val (.int gm), .val (.int (sA s 11 (gf.toNatClampNeg * 10 + gm.toNatClampNeg)))] (v.toList ++ []) k n H Q) := by
          refine t25 hb hL hK hN fun s' q1 q2 q3 q4 => ?_
          simp +decide only [w27_154, w27_157, Option.toList_none, List.nil_append]
          have f1 : sI s' 1 = sI s 1 := q1.1 _ (by decide)
          have f11 : sA s' 11 = sA s 11 := q1.2.2.1 _ (by decide) (by decide) (by decide)
          refine l27b hb hL hm hg m (gm + 1) (A.1 ||| 1 <<< (gf &&& 31), A.2.1 ||| 1 <<< (gm &&& 31), fun j => A.2.2 j ||| (sA s 7 j &&& sA s 11 (gf.toNatClampNeg * 10 + gm.toNatClampNeg))) (.val (.int (sA s 11 (gf.toNatClampNeg * 10 + gm.toNatClampNeg)))) s' (q1.ev hE) us_i q3 q4 (by rw [f1]; omega) (by omega) fun s2' A' l8 hu' r1 r2 r3 r4 r5 => ?_
          rw [f1]
          refine hQ s2' A' l8 hu' (q1.trans r1) (r2.trans q2) r3 r4 ?_
          rw [r5, h5, q2, f11]; unfold pr1; rw [if_pos e, o1, o2]
        rcases hu with rfl | ⟨v, rfl⟩ <;> simp +decide only [w27_85, w27_86, w27_89, w27_92, w27_93, w27_96, w27_98, w27_100, w27_101, w27_103, w27_104, w27_105i, w27_105, w27_107, w27_108, w27_111, w27_112, w27_113, w27_115, w27_116, w27_117, w27_118, w27_121, w27_122, w27_124, w27_127, w27_130, w27_132, w27_133, w27_135, w27_136, w27_137i, w27_139, w27_141, w27_142, w27_144, w27_145, w27_146i, w27_148, w27_149, w27_151, isO_put, Option.toList_some, List.cons_append, List.nil_append, true_and, and_true, ↓reduceIte, g1, g11, g19, ai7, ae7, ai11, ae11, h3, hm, i1, i2, e1, t24 hb hK hL, e2, bz_t] <;> exact nx
      · have e2' : fit (sA s 7) L (sA s 11 (gf.toNatClampNeg * 10 + gm.toNatClampNeg)) = false := by simpa using e2
        have e : hasI (sA s 7) L (sA s 11) (sA s 7 mo.toNatClampNeg) gf.toNatClampNeg gm.toNatClampNeg = false := by unfold hasI; rw [e0, e2']; rfl
        rcases hu with rfl | ⟨v, rfl⟩ <;> simp +decide only [w27_85, w27_86, w27_89, w27_92, w27_93, w27_96, w27_98, w27_100, w27_101, w27_103, w27_104, w27_105i, w27_105, w27_107, w27_108, w27_111, w27_112, w27_113, w27_115, w27_116, w27_117, w27_118, w27_121, w27_122, w27_124, w27_127, w27_154, w27_157, isO_put, Option.toList_some, List.cons_append, List.nil_append, true_and, and_true, ↓reduceIte, g1, g11, g19, ai7, ae7, ai11, ae11, h3, hm, i1, i2, e1, t24 hb hK hL, e2', bz_f] <;> exact skip e _ us_i
set_option maxRecDepth 100000 in
theorem l27c (hb : Lb L) (hL : L.length ≤ 32) {f fa mo : Int32} (hf : 0 ≤ fa.toInt ∧ fa.toInt < 33) (hm : 0 ≤ mo.toInt ∧ mo.toInt < 33) : ∀ (m : Nat) (gf : Int32) (A : Ac) (l7 l8 : Slot) (s : St), Ev s → us l7 → us l8 → Kd s L → Nk s L A.2.2 → gf.toInt = (sI s 1).toInt - m → 0 ≤ gf.toInt →
    (∀ (s' : St) (A' : Ac) (l7 l8 : Slot), Sr s s' → sA s' 7 = sA s 7 → Kd s' L → Nk s' L A'.2.2 → A' = prO (sA s 7) L (sA s 11) (sA s 7 fa.toNatClampNeg) (sA s 7 mo.toNatClampNeg) (gN s) gf.toNatClampNeg m A → W (pj lw) 27 166 [.val (.ref p), .val (.int f), .val (.int fa), .val (.int mo), .val (.int A'.1), .val (.int A'.2.1), .val (.int (sI s 1)), l7, l8] [] k n (ob H p s') Q) →
    W (pj lw) 27 54 [.val (.ref p), .val (.int f), .val (.int fa), .val (.int mo), .val (.int A.1), .val (.int A.2.1), .val (.int gf), l7, l8] [] k n (ob H p s) Q
  | 0, gf, A, l7, l8, s, hE, hu7, hu, hK, hN, h1, h2, hQ => by
    have h3 : ¬ gf < sI s 1 := by rw [lt32]; omega
    have e : gf = sI s 1 := by rw [eq32]; omega
    rw [w27_54]; simp +decide only [w27_56, w27_57, w27_60, isO_put, true_and, ↓reduceIte, g1, h3]
    have := hQ s A l7 l8 Sr.refl rfl hK hN rfl
    rw [e]; exact this
  | m + 1, gf, A, l7, l8, s, hE, hu7, hu, hK, hN, h1, h2, hQ => by
    have h10 := hE.2.1
    have h3 : gf < sI s 1 := by rw [lt32]; omega
    have h4 : (gf + 1).toInt = gf.toInt + 1 := ia (by simp only [Int32.reduceToInt]; omega) (by simp only [Int32.reduceToInt]; omega)
    have h5 : (gf + 1).toNatClampNeg = gf.toNatClampNeg + 1 := by rw [cln, cln]; omega
    have hbt := bt_i (x := sA s 7 fa.toNatClampNeg) (i := gf) (by omega)
    rw [prO] at hQ
    rw [w27_54]
    by_cases e1 : (sA s 7 fa.toNatClampNeg >>> (gf &&& 31)) &&& 1 = 0
    · have e0 : bt (sA s 7 fa.toNatClampNeg) gf.toNatClampNeg = false := by rw [hbt]; exact decide_eq_false (fun q => q e1)
      simp +decide only [w27_56, w27_57, w27_60, w27_63, w27_64, w27_67, w27_68, w27_69, w27_71, w27_72, w27_73, w27_74, w27_77, w27_160, w27_163, isO_put, true_and, and_true, ↓reduceIte, g1, g11, ai7, ae7, h3, hf, e1]
      refine l27c hb hL hf hm m (gf + 1) A l7 l8 s hE hu7 hu hK hN (by omega) (by omega) fun s' A' l7 l8 q1 q2 q3 q4 q5 => hQ s' A' l7 l8 q1 q2 q3 q4 ?_
      rw [q5, h5, e0]; rfl
    · have e0 : bt (sA s 7 fa.toNatClampNeg) gf.toNatClampNeg = true := by rw [hbt]; exact decide_eq_true e1
      have nx : ∀ l8, us l8 → W (pj lw) 27 83 [.val (.ref p), .val (.int f), .val (.int fa), .val (.int mo), .val (.int A.1), .val (.int A.2.1), .val (.int gf), .val (.int 0), l8] [] k n (ob H p s) Q := fun l8 hu => by
        refine l27b hb hL hm (by omega) (gN s) 0 A l8 s hE hu hK hN (by unfold gN; simp only [Int32.reduceToInt]; omega) (by decide) fun s' A' l8 hu' q1 q2 q3 q4 q5 => ?_
        have f1 : sI s' 1 = sI s 1 := q1.1 _ (by decide)
        have f11 : sA s' 11 = sA s 11 := q1.2.2.1 _ (by decide) (by decide) (by decide)
        have fg : gN s' = gN s := by unfold gN; rw [f1]
        simp +decide only [w27_160, w27_163]
        refine l27c hb hL hf hm m (gf + 1) A' _ l8 s' (q1.ev hE) us_i hu' q3 q4 (by rw [f1]; omega) (by omega) fun s2' A2 l7 l8 r1 r2 r3 r4 r5 => ?_
        rw [f1]
        refine hQ s2' A2 l7 l8 (q1.trans r1) (r2.trans q2) r3 r4 ?_
        rw [r5, h5, q2, f11, fg, if_pos e0, q5]; rfl
      rcases hu7 with rfl | ⟨v, rfl⟩ <;> simp +decide only [w27_56, w27_57, w27_60, w27_63, w27_64, w27_67, w27_68, w27_69, w27_71, w27_72, w27_73, w27_74, w27_80, w27_81i, w27_81, isO_put, true_and, and_true, ↓reduceIte, g1, g11, ai7, ae7, h3, hf, e1] <;> exact nx l8 hu
def rfA (D : Dt) (cc : Nat → Int32) (f : Nat) : Ac := prO cc (dL D f) (dK D) (cc (dF D f)) (cc (dM D f)) (dg D) 0 (dg D) (0, 0, fun _ => 0)
def rfC (D : Dt) (cc : Nat → Int32) (f : Nat) : Nat → Int32 := apC cc (dF D f) (dM D f) (rfA D cc f).1 (rfA D cc f).2.1 (dL D f) (rfA D cc f).2.2
def rfB (D : Dt) (cc : Nat → Int32) (f : Nat) : Bool := apB cc (dF D f) (dM D f) (rfA D cc f).1 (rfA D cc f).2.1 (dL D f) (rfA D cc f).2.2
set_option maxRecDepth 100000 in
theorem t27 (hE : Ev s) (hb : 1 ≤ b.toInt ∧ b.toInt ≤ (nN s : Int)) (h2 : ¬ sA s 2 b.toNatClampNeg = 0)
    (hQ : ∀ s', Sr s s' → sA s' 7 = rfC (dt s) (sA s 7) b.toNatClampNeg → Q (some (.int (bz (rfB (dt s) (sA s 7) b.toNatClampNeg)))) (ob H p s')) :
    Cl (pj lw) 27 [.ref p, .int b] (ob H p s) Q := by
  obtain ⟨hn, hn'⟩ := nN_le hE
  have r := par_rg hE hb h2
  have hl := kl_Lb (F := sA s 2) (M := sA s 3) (f := b.toNatClampNeg) hn (by rw [cln]; omega)
  have hl2 := kl_len (F := sA s 2) (M := sA s 3) (f := b.toNatClampNeg) hn (by rw [cln]; omega)
  rw [c27]; simp +decide only [w27_0, w27_1, w27_2, isO_put, true_and, and_true]
  refine t23 hE hb fun s' q1 q2 q3 => ?_
  have f2 : sA s' 2 = sA s 2 := q1.2.2.1 _ (by decide) (by decide) (by decide)
  have f3 : sA s' 3 = sA s 3 := q1.2.2.1 _ (by decide) (by decide) (by decide)
  have i0 : 0 ≤ b.toInt ∧ b.toInt < 33 := by omega
  have i1 : 0 ≤ (sA s 2 b.toNatClampNeg).toInt ∧ (sA s 2 b.toNatClampNeg).toInt < 33 := by omega
  have i2 : 0 ≤ (sA s 3 b.toNatClampNeg).toInt ∧ (sA s 3 b.toNatClampNeg).toInt < 33 := by omega
  simp +decide only [w27_5, w27_6, w27_9, w27_10, w27_11, w27_12, w27_13, w27_16, w27_17, w27_18, w27_19, w27_20, isO_put, Option.toList_none, List.nil_append, true_and, and_true, g6, g7, ai2, ae2, ai3, ae3, f2, f3, i0]
  refine l27a hl2 (kl (sA s 2) (sA s 3) (nN s) b.toNatClampNeg).length 0 s' q3 (by simp only [Int32.reduceToInt]; omega) (by decide) (fun k' h' => by simp only [Int32.reduceToInt] at h'; omega) fun s2' r1 r2 r3 r4 => ?_
  simp +decide only [w27_45, w27_46i, w27_48, w27_49, w27_51, w27_52]
  have z := q1.trans r1
  have z7 := r2.trans q2
  refine l27c hl hl2 i1 i2 (gN s2') 0 (0, 0, fun _ => 0) .unset .unset s2' (z.ev hE) us_u us_u r3 r4 (by unfold gN; have := (z.ev hE).2.1; simp only [Int32.reduceToInt]; omega) (by decide) fun s3' A' l7 l8 w1 w2 w3 w4 w5 => ?_
  simp +decide only [w27_166, w27_167, w27_168, w27_169, w27_171, w27_173, isO_put, true_and, and_true]
  refine t28 hl hl2 w3 w4 i1 i2 fun s4' v1 v2 => ?_
  have f11 : sA s2' 11 = sA s 11 := z.2.2.1 _ (by decide) (by decide) (by decide)
  have fg : gN s2' = gN s := by unfold gN; rw [z.1 _ (by decide)]
  rw [z7, f11, fg, show (0 : Int32).toNatClampNeg = 0 from rfl] at w5
  rw [w2, z7, w5] at v2
  have hB := hQ s4' ((z.trans w1).trans v1) v2
  rw [w2, z7, w5]
  simp +decide only [w27_176, Option.toList_some, List.cons_append, List.nil_append, true_and, bz01]
  exact hB
def rd1 (D : Dt) : Nat → Nat → (Nat → Int32) × Bool → (Nat → Int32) × Bool
  | _, 0, A => A
  | f, m + 1, A => rd1 D (f + 1) m (if fam D f = true then (rfC D A.1 f, A.2 || rfB D A.1 f) else A)
def rnd (D : Dt) : Nat → (Nat → Int32) → Nat → Int32
  | 0, cc => cc
  | m + 1, cc => if (rd1 D 1 (dn D) (cc, false)).2 = true then rnd D m (rd1 D 1 (dn D) (cc, false)).1 else (rd1 D 1 (dn D) (cc, false)).1
theorem bz_or (x y : Bool) : bz x ||| bz y = bz (x || y) := by cases x <;> cases y <;> decide
set_option maxRecDepth 100000 in
theorem l20b {D : Dt} {r : Int32} : ∀ (m : Nat) (f : Int32) (A : (Nat → Int32) × Bool) (s : St), Ev s → dt s = D → sA s 7 = A.1 → f.toInt = (sI s 4).toInt + 1 - m → 1 ≤ f.toInt →
    (∀ (s' : St) (A' : (Nat → Int32) × Bool), Sr s s' → sA s' 7 = A'.1 → A' = rd1 D f.toNatClampNeg m A → W (pj lw) 20 43 [.val (.ref p), .val (.int r), .val (.int (bz A'.2)), .val (.int (sI s 4 + 1))] [] k n (ob H p s') Q) →
    W (pj lw) 20 13 [.val (.ref p), .val (.int r), .val (.int (bz A.2)), .val (.int f)] [] k n (ob H p s) Q
  | 0, f, A, s, hE, hD, h7, h1, h2, hQ => by
    have hn := hE.1
    have h3 : sI s 4 < f := by rw [lt32]; omega
    have e : f = sI s 4 + 1 := by rw [eq32, ia (by simp only [Int32.reduceToInt]; omega) (by simp only [Int32.reduceToInt]; omega)]; simp only [Int32.reduceToInt]; omega
    rw [w20_13]; simp +decide only [w20_14, w20_15, w20_18, isO_put, true_and, ↓reduceIte, g4, h3]
    rw [e]; exact hQ s A Sr.refl h7 rfl
  | m + 1, f, A, s, hE, hD, h7, h1, h2, hQ => by
    have hn := hE.1
    obtain ⟨hn1, hn2⟩ := nN_le hE
    have h3 : ¬ sI s 4 < f := by rw [lt32]; omega
    have h4 : (f + 1).toInt = f.toInt + 1 := ia (by simp only [Int32.reduceToInt]; omega) (by simp only [Int32.reduceToInt]; omega)
    have h5 : (f + 1).toNatClampNeg = f.toNatClampNeg + 1 := by rw [cln, cln]; omega
    have T := fun (Q : Option Value → AH → Prop) => t22 (lw := lw) (H := H) (p := p) (Q := Q) (a := f) hE (by omega)
    have ef : fmB (sA s 2) (sA s 3) (nN s) f.toNatClampNeg = fam D f.toNatClampNeg := by rw [← hD]; rfl
    rw [rd1] at hQ
    rw [w20_13]
    cases e : fam D f.toNatClampNeg with
    | false =>
      simp +decide only [w20_14, w20_15, w20_18, w20_21, w20_22, w20_23, w20_26, w20_37, w20_40, isO_put, Option.toList_some, List.cons_append, List.nil_append, true_and, and_true, ↓reduceIte, g4, h3, T, ef, e, bz_f]
      refine l20b m (f + 1) A s hE hD h7 (by omega) (by omega) fun s' A' q1 q2 q3 => hQ s' A' q1 q2 ?_
      rw [q3, h5, if_neg (by rw [e]; decide)]
    | true =>
      simp +decide only [w20_14, w20_15, w20_18, w20_21, w20_22, w20_23, w20_26, w20_29, w20_30, w20_31, w20_32, isO_put, cs_nil, cs_int, Option.toList_some, List.cons_append, List.nil_append, true_and, and_true, ↓reduceIte, Nat.reduceAdd, Int32.reduceAdd, Int64.reduceAdd, Nat.add_zero, Nat.le_refl, g4, h3, T, ef, e, bz_t]
      have hf := fam_i e
      refine t27 hE (by omega) (by have := hf.2; rw [← hD] at this; exact this) fun s' q1 q2 => ?_
      simp +decide only [w20_35, w20_36i, w20_37, w20_40, Option.toList_some, List.cons_append, List.nil_append, bz_or]
      have f4 : sI s' 4 = sI s 4 := q1.1 _ (by decide)
      rw [hD, h7] at q2
      rw [hD, h7]
      refine l20b m (f + 1) (rfC D A.1 f.toNatClampNeg, A.2 || rfB D A.1 f.toNatClampNeg) s' (q1.ev hE) (q1.dt.trans hD) q2 (by rw [f4]; omega) (by omega) fun s2' A' r1 r2 r3 => ?_
      rw [f4]; refine hQ s2' A' (q1.trans r1) r2 ?_
      rw [r3, h5, if_pos e]
set_option maxRecDepth 100000 in
theorem l20 {D : Dt} : ∀ (m : Nat) (r : Int32) (l2 l3 : Slot) (s : St), Ev s → us l2 → us l3 → dt s = D → r.toInt = 330 - m → 0 ≤ r.toInt →
    (∀ s', Sr s s' → sA s' 7 = rnd D m (sA s 7) → Q none (ob H p s')) →
    W (pj lw) 20 2 [.val (.ref p), .val (.int r), l2, l3] [] k n (ob H p s) Q
  | 0, r, l2, l3, s, hE, u2, u3, hD, h1, h2, hQ => by
    have h3 : ¬ r < 330 := by rw [lt32]; simp only [Int32.reduceToInt]; omega
    rw [w20_2]; simp +decide only [w20_3, w20_6, w20_54, ↓reduceIte, h3]
    exact hQ s Sr.refl rfl
  | m + 1, r, l2, l3, s, hE, u2, u3, hD, h1, h2, hQ => by
    have h3 : r < 330 := by rw [lt32]; simp only [Int32.reduceToInt]; omega
    have h4 : (r + 1).toInt = r.toInt + 1 := ia (by simp only [Int32.reduceToInt]; omega) (by simp only [Int32.reduceToInt]; omega)
    have hn := hE.1
    have nx : W (pj lw) 20 13 [.val (.ref p), .val (.int r), .val (.int (bz false)), .val (.int 1)] [] k n (ob H p s) Q := by
      refine l20b (D := D) (nN s) 1 (sA s 7, false) s hE hD rfl (by unfold nN; simp only [Int32.reduceToInt]; omega) (by decide) fun s' A' q1 q2 q3 => ?_
      have en : nN s = dn D := by rw [← hD]; rfl
      rw [en, show (1 : Int32).toNatClampNeg = 1 from rfl] at q3
      rw [rnd] at hQ
      cases e : A'.2 with
      | false =>
        simp +decide only [w20_43, w20_44, w20_47, ↓reduceIte, bz_f]
        refine hQ s' q1 ?_
        rw [← q3, e, q2]; rfl
      | true =>
        simp +decide only [w20_43, w20_44, w20_48, w20_51, ↓reduceIte, bz_t]
        refine l20 m (r + 1) _ _ s' (q1.ev hE) us_i us_i (q1.dt.trans hD) (by omega) (by omega) fun s2' r1 r2 => hQ s2' (q1.trans r1) ?_
        rw [← q3, e, r2, q2]; rfl
    rw [w20_2]
    rcases u2 with rfl | ⟨v, rfl⟩ <;> rcases u3 with rfl | ⟨w, rfl⟩ <;> simp +decide only [w20_3, w20_6, w20_9, w20_10i, w20_10, w20_11, w20_12i, w20_12, ↓reduceIte, h3] <;> exact nx
theorem t20 (hE : Ev s) (hQ : ∀ s', Sr s s' → sA s' 7 = rnd (dt s) 330 (sA s 7) → Q none (ob H p s')) : Cl (pj lw) 20 [.ref p] (ob H p s) Q := by
  rw [c20]; simp +decide only [w20_0, w20_1]
  exact l20 330 0 .unset .unset s hE us_u us_u rfl (by decide) (by decide) hQ
theorem l21 (hE : Ev s) : ∀ (m : Nat) (i : Int32), i.toInt = (sI s 4).toInt + 1 - m → 1 ≤ i.toInt →
    (W (pj lw) 21 2 [.val (.ref p), .val (.int i)] [] k n (ob H p s) Q ↔ Q (some (.int (bz (anyN (fun i => decide (sA s 7 i = 0)) i.toNatClampNeg m)))) (ob H p s))
  | 0, i, h1, h2 => by
    have hn := hE.1
    have h3 : sI s 4 < i := by rw [lt32]; omega
    rw [w21_2]; simp +decide only [w21_3, w21_4, w21_7, w21_27, w21_28, isO_put, true_and, ↓reduceIte, g4, h3, anyN, bz]
  | m + 1, i, h1, h2 => by
    have hn := hE.1
    have h3 : ¬ sI s 4 < i := by rw [lt32]; omega
    have h4 : (i + 1).toInt = i.toInt + 1 := ia (by simp only [Int32.reduceToInt]; omega) (by simp only [Int32.reduceToInt]; omega)
    have h5 : (i + 1).toNatClampNeg = i.toNatClampNeg + 1 := by rw [cln, cln]; omega
    have hj : 0 ≤ i.toInt ∧ i.toInt < 33 := by omega
    have key := l21 hE m (i + 1) (by omega) (by omega)
    rw [h5] at key
    rw [w21_2, anyN]
    by_cases e : sA s 7 i.toNatClampNeg = 0
    · simp +decide only [w21_3, w21_4, w21_7, w21_10, w21_11, w21_14, w21_15, w21_16, w21_19, w21_20, isO_put, true_and, and_true, true_or, ↓reduceIte, g4, g11, ai7, ae7, h3, hj, e, decide_true, Bool.true_or, bz]
    · simp +decide only [w21_3, w21_4, w21_7, w21_10, w21_11, w21_14, w21_15, w21_16, w21_21, w21_24, isO_put, true_and, and_true, false_or, ↓reduceIte, g4, g11, ai7, ae7, h3, hj, e, decide_false, Bool.false_or]
      exact key
def emp (cc : Nat → Int32) (n : Nat) : Bool := anyN (fun i => decide (cc i = 0)) 1 n
theorem t21 (hE : Ev s) : Cl (pj lw) 21 [.ref p] (ob H p s) Q ↔ Q (some (.int (bz (emp (sA s 7) (nN s))))) (ob H p s) := by
  rw [c21]; simp +decide only [w21_0, w21_1]
  exact l21 hE (nN s) 1 (by have := hE.1; unfold nN; simp only [Int32.reduceToInt]; omega) (by decide)
def iv (obs : Nat → Int32) (full : Int32) (i : Nat) : Int32 := if obs i < 0 then full else 1 <<< (obs i &&& 31)
def li (obs : Nat → Int32) (full : Int32) (n j : Nat) (cc : Nat → Int32) : Nat → Int32 := fun i => if j ≤ i ∧ i ≤ n then iv obs full i else cc i
theorem l19 : ∀ (m : Nat) (i : Int32) (s : St), Ev s → i.toInt = (sI s 4).toInt + 1 - m → 1 ≤ i.toInt →
    (∀ s', Sr s s' → sA s' 7 = li (sA s 4) (sI s 2) (nN s) i.toNatClampNeg (sA s 7) → Q none (ob H p s')) → W (pj lw) 19 2 [.val (.ref p), .val (.int i)] [] k n (ob H p s) Q
  | 0, i, s, hE, h1, h2, hQ => by
    have hn := hE.1
    have h3 : sI s 4 < i := by rw [lt32]; omega
    rw [w19_2]; simp +decide only [w19_3, w19_4, w19_7, w19_46, isO_put, true_and, ↓reduceIte, g4, h3]
    refine hQ s Sr.refl ?_
    funext j; unfold li; rw [if_neg (by have := (nN_le hE).2; rw [cln]; omega)]
  | m + 1, i, s, hE, h1, h2, hQ => by
    have hn := hE.1
    have h3 : ¬ sI s 4 < i := by rw [lt32]; omega
    have h4 : (i + 1).toInt = i.toInt + 1 := ia (by simp only [Int32.reduceToInt]; omega) (by simp only [Int32.reduceToInt]; omega)
    have h5 : (i + 1).toNatClampNeg = i.toNatClampNeg + 1 := by rw [cln, cln]; omega
    have hj : 0 ≤ i.toInt ∧ i.toInt < 33 := by omega
    have nx : ∀ v, v = iv (sA s 4) (sI s 2) i.toNatClampNeg → W (pj lw) 19 2 [.val (.ref p), .val (.int (i + 1))] [] k n (ob H p (uA s 7 i.toNatClampNeg v)) Q := fun v hv => by
      have es : Sr s (uA s 7 i.toNatClampNeg v) := Sr_uA (by simp)
      refine l19 m (i + 1) _ (es.ev hE) (by rw [sI_uA]; omega) (by omega) fun s' q1 q2 => hQ s' (es.trans q1) ?_
      rw [q2, sA_fun (by decide), sI_uA, es.nN, sA_up, h5]
      funext j; unfold li up
      by_cases z : j = i.toNatClampNeg
      · subst z
        rw [if_neg (by omega), if_pos rfl, if_pos (by have := (nN_le hE).2; rw [cln]; omega), hv]
      · rw [if_neg z]
        by_cases z2 : i.toNatClampNeg + 1 ≤ j ∧ j ≤ nN s
        · rw [if_pos z2, if_pos (by omega)]
        · rw [if_neg z2, if_neg (by omega)]
    rw [w19_2]
    by_cases e : sA s 4 i.toNatClampNeg < 0
    · simp +decide only [w19_3, w19_4, w19_7, w19_10, w19_11, w19_14, w19_15, w19_16, w19_19, w19_20, w19_21, w19_35, w19_36, w19_39, w19_40, w19_43, isO_put, true_and, and_true, ↓reduceIte, g2, g4, g8, g11, ai4, ae4, aw7, as7, h3, hj, e]
      exact nx _ (by unfold iv; rw [if_pos e])
    · simp +decide only [w19_3, w19_4, w19_7, w19_10, w19_11, w19_14, w19_15, w19_16, w19_19, w19_20, w19_21, w19_24, w19_25, w19_26, w19_29, w19_30, w19_31, w19_32, w19_39, w19_40, w19_43, isO_put, true_and, and_true, ↓reduceIte, g4, g8, g11, ai4, ae4, aw7, as7, h3, hj, e]
      exact nx _ (by unfold iv; rw [if_neg e])
theorem t19 (hE : Ev s) (hQ : ∀ s', Sr s s' → sA s' 7 = li (sA s 4) (sI s 2) (nN s) 1 (sA s 7) → Q none (ob H p s')) : Cl (pj lw) 19 [.ref p] (ob H p s) Q := by
  rw [c19]; simp +decide only [w19_0, w19_1]
  exact l19 (nN s) 1 s hE (by have := hE.1; unfold nN; simp only [Int32.reduceToInt]; omega) (by decide) hQ
end D

section E
variable {lw : LW} {H : AH} {p : Nat} {s s' : St} {Q : Option Value → AH → Prop} {a b c d x y : Int32} {k n : Nat} {cc : Nat → Int32}
def noA (D : Dt) (cc : Nat → Int32) (f : Nat) : Bool := fam D f && !hasA cc (dL D f) (dK D) (dg D) (cc (dF D f)) (cc (dM D f))
def bsz (D : Dt) (f : Nat) : Int32 := 2 + Int32.ofNat (dL D f).length
def bs1 (D : Dt) (cc : Nat → Int32) : Nat → Nat → Int32 × Int32 → Int32 × Int32
  | _, 0, B => B
  | f, m + 1, B => bs1 D cc (f + 1) m (if noA D cc f = true then (if B.1 = 0 ∨ bsz D f < B.2 then (Int32.ofNat f, bsz D f) else B) else B)
set_option maxRecDepth 100000 in
theorem l18 {D : Dt} : ∀ (m : Nat) (f : Int32) (B : Int32 × Int32) (l4 : Slot) (s : St), Ev s → us l4 → dt s = D → f.toInt = (sI s 4).toInt + 1 - m → 1 ≤ f.toInt →
    (∀ (s' : St) (B' : Int32 × Int32) (l4 : Slot), Sr s s' → sA s' 7 = sA s 7 → B' = bs1 D (sA s 7) f.toNatClampNeg m B → W (pj lw) 18 63 [.val (.ref p), .val (.int B'.1), .val (.int B'.2), .val (.int (sI s 4 + 1)), l4] [] k n (ob H p s') Q) →
    W (pj lw) 18 10 [.val (.ref p), .val (.int B.1), .val (.int B.2), .val (.int f), l4] [] k n (ob H p s) Q
  | 0, f, B, l4, s, hE, hu, hD, h1, h2, hQ => by
    have hn := hE.1
    have h3 : sI s 4 < f := by rw [lt32]; omega
    have e : f = sI s 4 + 1 := by rw [eq32, ia (by simp only [Int32.reduceToInt]; omega) (by simp only [Int32.reduceToInt]; omega)]; simp only [Int32.reduceToInt]; omega
    rw [w18_10]; simp +decide only [w18_11, w18_12, w18_15, isO_put, true_and, ↓reduceIte, g4, h3]
    rw [e]; exact hQ s B l4 Sr.refl rfl rfl
  | m + 1, f, B, l4, s, hE, hu, hD, h1, h2, hQ => by
    have hn := hE.1
    obtain ⟨hn1, hn2⟩ := nN_le hE
    have h3 : ¬ sI s 4 < f := by rw [lt32]; omega
    have h4 : (f + 1).toInt = f.toInt + 1 := ia (by simp only [Int32.reduceToInt]; omega) (by simp only [Int32.reduceToInt]; omega)
    have h5 : (f + 1).toNatClampNeg = f.toNatClampNeg + 1 := by rw [cln, cln]; omega
    have T := fun (Q : Option Value → AH → Prop) => t22 (lw := lw) (H := H) (p := p) (Q := Q) (a := f) hE (by omega)
    have ef : fmB (sA s 2) (sA s 3) (nN s) f.toNatClampNeg = fam D f.toNatClampNeg := by rw [← hD]; rfl
    rw [bs1] at hQ
    have nx : ∀ (s' : St) (B' : Int32 × Int32) (l4 : Slot), us l4 → Sr s s' → sA s' 7 = sA s 7 → B' = (if noA D (sA s 7) f.toNatClampNeg = true then (if B.1 = 0 ∨ bsz D f.toNatClampNeg < B.2 then (Int32.ofNat f.toNatClampNeg, bsz D f.toNatClampNeg) else B) else B) → W (pj lw) 18 10 [.val (.ref p), .val (.int B'.1), .val (.int B'.2), .val (.int (f + 1)), l4] [] k n (ob H p s') Q := fun s' B' l4 hu q1 q2 q3 => by
      have f4 : sI s' 4 = sI s 4 := q1.1 _ (by decide)
      refine l18 m (f + 1) B' l4 s' (q1.ev hE) hu (q1.dt.trans hD) (by rw [f4]; omega) (by omega) fun s2' B2 l4 r1 r2 r3 => ?_
      rw [f4]; refine hQ s2' B2 l4 (q1.trans r1) (r2.trans q2) ?_
      rw [r3, h5, q2, q3]
    rw [w18_10]
    cases e : fam D f.toNatClampNeg with
    | false =>
      simp +decide only [w18_11, w18_12, w18_15, w18_18, w18_19, w18_20, w18_23, w18_57, w18_60, isO_put, Option.toList_some, List.cons_append, List.nil_append, true_and, and_true, ↓reduceIte, g4, h3, T, ef, e, bz_f]
      exact nx s B l4 hu Sr.refl rfl (by unfold noA; rw [e]; rfl)
    | true =>
      simp +decide only [w18_11, w18_12, w18_15, w18_18, w18_19, w18_20, w18_23, w18_26, w18_27, w18_28, isO_put, Option.toList_some, List.cons_append, List.nil_append, true_and, and_true, ↓reduceIte, g4, h3, T, ef, e, bz_t]
      have hf := fam_i e
      refine t26 hE (by omega) (by have := hf.2; rw [← hD] at this; exact this) fun s' q1 q2 q3 => ?_
      have eh : hasA (sA s 7) (kl (sA s 2) (sA s 3) (nN s) f.toNatClampNeg) (sA s 11) (gN s) (sA s 7 (sA s 2 f.toNatClampNeg).toNatClampNeg) (sA s 7 (sA s 3 f.toNatClampNeg).toNatClampNeg) = hasA (sA s 7) (dL D f.toNatClampNeg) (dK D) (dg D) (sA s 7 (dF D f.toNatClampNeg)) (sA s 7 (dM D f.toNatClampNeg)) := by rw [← hD]; rfl
      have ek : sI s' 22 = Int32.ofNat (dL D f.toNatClampNeg).length := by
        have e1 : kl (sA s 2) (sA s 3) (nN s) f.toNatClampNeg = dL D f.toNatClampNeg := by rw [← hD]; rfl
        have := kl_len (F := sA s 2) (M := sA s 3) (f := f.toNatClampNeg) hn1 (by rw [cln]; omega)
        rw [e1] at q3 this
        rw [eq32, (ofi (by omega)).1]; exact q3.1
      rw [eh]
      cases e2 : hasA (sA s 7) (dL D f.toNatClampNeg) (dK D) (dg D) (sA s 7 (dF D f.toNatClampNeg)) (sA s 7 (dM D f.toNatClampNeg)) with
      | true =>
        simp +decide only [w18_31, w18_57, w18_60, Option.toList_some, List.cons_append, List.nil_append, ↓reduceIte, bz_t]
        exact nx s' B l4 hu q1 q2 (by unfold noA; rw [e, e2]; rfl)
      | false =>
        have en : noA D (sA s 7) f.toNatClampNeg = true := by unfold noA; rw [e, e2]; rfl
        have eb : 2 + Int32.ofNat (dL D f.toNatClampNeg).length = bsz D f.toNatClampNeg := rfl
        have of1 := ofn (i := f) (by omega)
        rw [en] at nx; simp only [if_true] at nx
        by_cases e3 : B.1 = 0
        · have := fun l4 hu => nx s' (Int32.ofNat f.toNatClampNeg, bsz D f.toNatClampNeg) l4 hu q1 q2 (by rw [if_pos (Or.inl e3)])
          rw [of1] at this
          rcases hu with rfl | ⟨v, rfl⟩ <;> simp +decide only [w18_31, w18_34, w18_35, w18_36, w18_39, w18_40i, w18_40, w18_42, w18_43, w18_52, w18_53i, w18_54, w18_56i, w18_57, w18_60, isO_put, Option.toList_some, List.cons_append, List.nil_append, true_and, ↓reduceIte, g22, bz_f, ek, eb, e3] <;> exact this _ us_i
        · by_cases e4 : bsz D f.toNatClampNeg < B.2
          · have := fun l4 hu => nx s' (Int32.ofNat f.toNatClampNeg, bsz D f.toNatClampNeg) l4 hu q1 q2 (by rw [if_pos (Or.inr e4)])
            rw [of1] at this
            rcases hu with rfl | ⟨v, rfl⟩ <;> simp +decide only [w18_31, w18_34, w18_35, w18_36, w18_39, w18_40i, w18_40, w18_42, w18_43, w18_46, w18_48, w18_49, w18_52, w18_53i, w18_54, w18_56i, w18_57, w18_60, isO_put, Option.toList_some, List.cons_append, List.nil_append, true_and, ↓reduceIte, g22, bz_f, ek, eb, e3, e4] <;> exact this _ us_i
          · have := fun l4 hu => nx s' B l4 hu q1 q2 (by rw [if_neg (fun q => q.elim e3 e4)])
            rcases hu with rfl | ⟨v, rfl⟩ <;> simp +decide only [w18_31, w18_34, w18_35, w18_36, w18_39, w18_40i, w18_40, w18_42, w18_43, w18_46, w18_48, w18_49, w18_57, w18_60, isO_put, Option.toList_some, List.cons_append, List.nil_append, true_and, ↓reduceIte, g22, bz_f, ek, eb, e3, e4] <;> exact this _ us_i
def c0 (s : St) : Nat → Int32 := li (sA s 4) (sI s 2) (nN s) 1 (sA s 7)
def elC (s : St) : Nat → Int32 := rnd (dt s) 330 (c0 s)
def elB (s : St) : Bool := emp (elC s) (nN s)
def elS (s : St) : Int32 := if elB s = true then 2 else 1
def elF (s : St) : Int32 := if elB s = true then (bs1 (dt s) (c0 s) 1 (nN s) (0, 0)).1 else 0
set_option maxRecDepth 100000 in
theorem t18 (hE : Ev s) (hQ : ∀ z, Sr s z → sA z 7 = elC s → Q (some (.int (elS s))) (ob H p (uI (uI (uI z 14 (elS s)) 15 (elF s)) 13 1))) : Cl (pj lw) 18 [.ref p] (ob H p s) Q := by
  have hn := hE.1
  rw [c18]; simp +decide only [w18_0, w18_1, isO_put, true_and, and_true]
  refine t19 hE fun s' q1 q2 => ?_
  simp +decide only [w18_4, w18_5, w18_6, w18_7, w18_8, w18_9, Option.toList_none, List.nil_append]
  have n1 := q1.nN
  refine l18 (D := dt s) (nN s') 1 (0, 0) .unset s' (q1.ev hE) us_u q1.dt (by have := (q1.ev hE).1; unfold nN; simp only [Int32.reduceToInt]; omega) (by decide) fun s2' B' l4 r1 r2 r3 => ?_
  simp +decide only [w18_63, w18_64, isO_put, true_and, and_true]
  have w1 := q1.trans r1
  refine t20 (w1.ev hE) fun s3' v1 v2 => ?_
  have w2 := w1.trans v1
  rw [w1.dt, r2, q2] at v2
  rw [q2, n1, show (1 : Int32).toNatClampNeg = 1 from rfl] at r3
  have eE := w2.ev hE
  have T := fun (Q : Option Value → AH → Prop) => t21 (lw := lw) (H := H) (p := p) (Q := Q) eE
  rw [w2.nN, v2] at T
  have e0 : emp (rnd (dt s) 330 (li (sA s 4) (sI s 2) (nN s) 1 (sA s 7))) (nN s) = elB s := rfl
  rw [e0] at T
  have key := hQ s3' w2 v2
  cases e : elB s with
  | true =>
    have k1 : elS s = 2 := by unfold elS; rw [e]; rfl
    have k2 : elF s = B'.1 := by unfold elF; rw [e, r3]; rfl
    rw [k1, k2] at key
    simp +decide only [w18_67, w18_68, w18_71i, w18_72, w18_73, w18_74, w18_77, w18_78, w18_82, w18_85, w18_86, w18_87, w18_90, w18_91, w18_95, w18_98, w18_99, w18_100, w18_103, w18_104, w18_107, isO_put, isOw_put, okv_int, sI_uI, Option.toList_some, Option.toList_none, List.cons_append, List.nil_append, true_and, and_true, ↓reduceIte, s13, g14, s14, s15, T, e, bz_t]
    exact key
  | false =>
    have k1 : elS s = 1 := by unfold elS; rw [e]; rfl
    have k2 : elF s = 0 := by unfold elF; rw [e]; rfl
    rw [k1, k2] at key
    simp +decide only [w18_67, w18_68, w18_71i, w18_72, w18_73, w18_74, w18_81, w18_82, w18_85, w18_86, w18_87, w18_94, w18_95, w18_98, w18_99, w18_100, w18_103, w18_104, w18_107, isO_put, isOw_put, sI_uI, Option.toList_some, Option.toList_none, List.cons_append, List.nil_append, true_and, and_true, ↓reduceIte, s13, g14, s14, s15, T, e, bz_f]
    exact key
def sta (s : St) : Int32 := if sI s 13 = 0 then 0 else sI s 14
theorem t29 : Cl (pj lw) 29 [.ref p] (ob H p s) Q ↔ Q (some (.int (sta s))) (ob H p s) := by
  rw [c29]; unfold sta; by_cases e : sI s 13 = 0 <;> simp +decide only [w29_0, w29_1, w29_4, w29_7, w29_8, w29_11, w29_14, w29_15, isO_put, true_and, ↓reduceIte, g13, g14, e]
def cfl (s : St) : Int32 := if sI s 13 = 0 then -1 else sI s 15
theorem t32 : Cl (pj lw) 32 [.ref p] (ob H p s) Q ↔ Q (some (.int (cfl s))) (ob H p s) := by
  rw [c32]; unfold cfl; by_cases e : sI s 13 = 0 <;> simp +decide only [w32_0, w32_1, w32_4, w32_7, w32_8, w32_11, w32_14, w32_15, isO_put, true_and, ↓reduceIte, g13, g15, e]
theorem t34 : Cl (pj lw) 34 [.ref p] (ob H p s) Q ↔ Q (some (.int (sI s 4))) (ob H p s) := by
  rw [c34]; simp +decide only [w34_0, w34_1, w34_4, isO_put, true_and, g4]
theorem l31 {v : Int32} {l1 : Slot} : ∀ (m : Nat) (g ct : Int32), g.toInt = 10 - m → 0 ≤ g.toInt →
    (W (pj lw) 31 29 [.val (.ref p), l1, .val (.int v), .val (.int ct), .val (.int g)] [] k n (ob H p s) Q ↔ Q (some (.int (ct + Int32.ofNat (cnt (bt v) g.toNatClampNeg m)))) (ob H p s))
  | 0, g, ct, h1, h2 => by
    have h3 : ¬ g < 10 := by rw [lt32]; simp only [Int32.reduceToInt]; omega
    rw [w31_29]; simp +decide only [w31_31, w31_33, w31_54, w31_55, ↓reduceIte, h3, cnt, add_ofNat_zero]
  | m + 1, g, ct, h1, h2 => by
    have h3 : g < 10 := by rw [lt32]; simp only [Int32.reduceToInt]; omega
    have h4 : (g + 1).toInt = g.toInt + 1 := ia (by simp only [Int32.reduceToInt]; omega) (by simp only [Int32.reduceToInt]; omega)
    have h5 : (g + 1).toNatClampNeg = g.toNatClampNeg + 1 := by rw [cln, cln]; omega
    have key := fun ct => l31 (l1 := l1) (v := v) m (g + 1) ct (by omega) (by omega)
    rw [h5] at key
    have hbt := bt_i (x := v) (i := g) (by omega)
    rw [w31_29, cnt, hbt]
    by_cases e : (v >>> (g &&& 31)) &&& 1 = 0
    · simp +decide only [w31_31, w31_33, w31_36, w31_37, w31_39, w31_40, w31_41, w31_42, w31_48, w31_51, not_true_eq_false, ↓reduceIte, Nat.zero_add, h3, e, decide_false, Bool.false_eq_true, Nat.zero_add]
      exact key ct
    · simp +decide only [w31_31, w31_33, w31_36, w31_37, w31_39, w31_40, w31_41, w31_42, w31_45, w31_48, w31_51, not_false_eq_true, ↓reduceIte, h3, e, decide_true]
      rw [← ofNat_one_add]
      exact key (ct + 1)
def cct (s : St) (a : Int32) : Int32 := if ¬ sI s 13 = 0 ∧ vid s a = true then Int32.ofNat (cnt (bt (sA s 7 a.toNatClampNeg)) 0 10) else -1
theorem t31 (hE : Ev s) : Cl (pj lw) 31 [.ref p, .int a] (ob H p s) Q ↔ Q (some (.int (cct s a))) (ob H p s) := by
  rw [c31]; unfold cct
  by_cases e : sI s 13 = 0
  · rw [if_neg (fun q => q.1 e)]; simp +decide only [w31_0, w31_1, w31_4, w31_15, w31_16, isO_put, true_and, ↓reduceIte, g13, e]
  · by_cases e2 : vid s a = true
    · have r := vid_rg e2 hE.1.2
      have hj : 0 ≤ a.toInt ∧ a.toInt < 33 := by omega
      rw [if_pos ⟨e, e2⟩]; simp +decide only [w31_0, w31_1, w31_4, w31_7, w31_8, w31_9, w31_12, w31_17, w31_18, w31_21, w31_22, w31_23, w31_24, w31_25, w31_26, w31_27, isO_put, Option.toList_some, List.cons_append, List.nil_append, true_and, and_true, ↓reduceIte, g11, g13, ai7, ae7, e, t7, e2, bz_t, hj]
      rw [l31 10 0 0 (by decide) (by decide), Int32.zero_add]; exact Iff.rfl
    · have e2' : vid s a = false := by simpa using e2
      rw [if_neg (fun q => e2 q.2)]; simp +decide only [w31_0, w31_1, w31_4, w31_7, w31_8, w31_9, w31_12, w31_15, w31_16, isO_put, Option.toList_some, List.cons_append, List.nil_append, true_and, and_true, ↓reduceIte, g13, e, t7, e2', bz_f]
theorem ix5 {u v : Int32} (hu : 0 ≤ u.toInt ∧ u.toInt ≤ 4) (hv : 0 ≤ v.toInt ∧ v.toInt ≤ 4) : (0 ≤ (u * 5 + v).toInt ∧ (u * 5 + v).toInt < 25) ∧ (u * 5 + v).toNatClampNeg = u.toNatClampNeg * 5 + v.toNatClampNeg := by
  have i1 : (u * 5 + v).toInt = u.toInt * 5 + v.toInt := by
    rw [idx2 (a := 5) (b := 5) 5 (by decide) (by omega) (by omega) (by omega) (by omega)]; simp only [Int32.reduceToInt]
  exact ⟨by omega, by rw [cln, cln, cln, i1]; omega⟩
theorem val_rg (hE : Ev s) (h : val s a = true) : 1 ≤ a.toInt ∧ a.toInt ≤ (sI s 0).toInt ∧ a.toInt ≤ 4 := by
  have := of_decide_eq_true h
  have := hE.2.2.1
  rw [lt32, lt32] at *; simp only [Int32.reduceToInt] at *; omega
def cnd (s : St) (i a b : Int32) : Bool := decide ((¬ sI s 13 = 0 ∧ vid s i = true) ∧ (val s a = true ∧ val s b = true) ∧ ¬ (sA s 7 i.toNatClampNeg >>> (sA s 10 (a * 5 + b).toNatClampNeg &&& 31)) &&& 1 = 0)
theorem t30 {i : Int32} (hE : Ev s) : Cl (pj lw) 30 [.ref p, .int i, .int a, .int b] (ob H p s) Q ↔ Q (some (.int (bz (cnd s i a b)))) (ob H p s) := by
  rw [c30]; unfold cnd
  by_cases e : sI s 13 = 0
  · rw [decide_eq_false (fun q => q.1.1 e)]; simp +decide only [w30_0, w30_1, w30_4, w30_15, w30_16, isO_put, true_and, ↓reduceIte, g13, e, bz]
  by_cases e2 : vid s i = true
  rotate_left
  · have e2' : vid s i = false := by simpa using e2
    rw [decide_eq_false (fun q => e2 q.1.2)]; simp +decide only [w30_0, w30_1, w30_4, w30_7, w30_8, w30_9, w30_12, w30_15, w30_16, isO_put, Option.toList_some, List.cons_append, List.nil_append, true_and, and_true, ↓reduceIte, g13, e, t7, e2', bz]
  have r := vid_rg e2 hE.1.2
  have hj : 0 ≤ i.toInt ∧ i.toInt < 33 := by omega
  by_cases e3 : val s a = true
  rotate_left
  · have e3' : val s a = false := by simpa using e3
    rw [decide_eq_false (fun q => e3 q.2.1.1)]; simp +decide only [w30_0, w30_1, w30_4, w30_7, w30_8, w30_9, w30_12, w30_17, w30_18, w30_19, w30_22, w30_33, w30_34, isO_put, Option.toList_some, List.cons_append, List.nil_append, true_and, and_true, ↓reduceIte, g13, e, t7, t8, e2, e3', bz]
  by_cases e4 : val s b = true
  rotate_left
  · have e4' : val s b = false := by simpa using e4
    rw [decide_eq_false (fun q => e4 q.2.1.2)]; simp +decide only [w30_0, w30_1, w30_4, w30_7, w30_8, w30_9, w30_12, w30_17, w30_18, w30_19, w30_22, w30_25, w30_26, w30_27, w30_30, w30_33, w30_34, isO_put, Option.toList_some, List.cons_append, List.nil_append, true_and, and_true, ↓reduceIte, g13, e, t7, t8, e2, e3, e4', bz]
  have r3 := val_rg hE e3
  have r4 := val_rg hE e4
  have hx := (ix5 (u := a) (v := b) (by omega) (by omega)).1
  by_cases e5 : (sA s 7 i.toNatClampNeg >>> (sA s 10 (a * 5 + b).toNatClampNeg &&& 31)) &&& 1 = 0
  · rw [decide_eq_false (fun q => q.2.2 e5)]; simp +decide only [w30_0, w30_1, w30_4, w30_7, w30_8, w30_9, w30_12, w30_17, w30_18, w30_19, w30_22, w30_25, w30_26, w30_27, w30_30, w30_35, w30_36, w30_39, w30_40, w30_41, w30_42, w30_43, w30_44, w30_45, w30_47, w30_48, w30_51, w30_52, w30_53, w30_55, w30_56, w30_57, w30_58, w30_65, w30_66, isO_put, Option.toList_some, List.cons_append, List.nil_append, true_and, and_true, ↓reduceIte, g11, g13, g18, ai7, ae7, ai10, ae10, e, t7, t8, e2, e3, e4, hj, hx, e5, bz]
  · rw [decide_eq_true ⟨⟨e, e2⟩, ⟨e3, e4⟩, e5⟩]; simp +decide only [w30_0, w30_1, w30_4, w30_7, w30_8, w30_9, w30_12, w30_17, w30_18, w30_19, w30_22, w30_25, w30_26, w30_27, w30_30, w30_35, w30_36, w30_39, w30_40, w30_41, w30_42, w30_43, w30_44, w30_45, w30_47, w30_48, w30_51, w30_52, w30_53, w30_55, w30_56, w30_57, w30_58, w30_61, w30_62, w30_66, isO_put, Option.toList_some, List.cons_append, List.nil_append, true_and, and_true, ↓reduceIte, g11, g13, g18, ai7, ae7, ai10, ae10, e, t7, t8, e2, e3, e4, hj, hx, e5, bz]
end E

section F
variable {lw : LW} {H : AH} {p : Nat} {s s' : St} {Q : Option Value → AH → Prop} {a b c d x y : Int32} {k n : Nat}
def adR (s : St) (a b c : Int32) : Int32 :=
  if ¬ sI s 4 < 32 then -1 else if ¬ a = 1 ∧ ¬ a = 2 then -2 else if (b = 0 ∧ ¬ c = 0) ∨ (¬ b = 0 ∧ c = 0) then -2 else
  if b = 0 then sI s 4 + 1 else if vid s b = false then -3 else if vid s c = false then -3 else if ¬ sA s 1 b.toNatClampNeg = 1 then -4 else if ¬ sA s 1 c.toNatClampNeg = 2 then -4 else sI s 4 + 1
def adN (s : St) (a b c : Int32) : St := uI (uI (uA (uA (uA (uA (uA (uA (uI s 4 (sI s 4 + 1)) 1 (sI s 4 + 1).toNatClampNeg a) 2 (sI s 4 + 1).toNatClampNeg b) 3 (sI s 4 + 1).toNatClampNeg c) 4 (sI s 4 + 1).toNatClampNeg (-1)) 5 (sI s 4 + 1).toNatClampNeg 0) 6 (sI s 4 + 1).toNatClampNeg 0) 13 0) 12 0
def adS (s : St) (a b c : Int32) : St := if adR s a b c < 0 then s else adN s a b c
set_option maxRecDepth 100000 in
set_option maxHeartbeats 2000000 in
theorem t9 (hE : Ev s) : Cl (pj lw) 9 [.ref p, .int a, .int b, .int c] (ob H p s) Q ↔ Q (some (.int (adR s a b c))) (ob H p (adS s a b c)) := by
  have hn := hE.1
  have end' : ∀ (e32 : sI s 4 < 32), (0 ≤ (sI s 4 + 1).toInt ∧ (sI s 4 + 1).toInt < 33) ∧ ¬ sI s 4 + 1 < 0 := fun e => by
    rw [lt32] at e; simp only [Int32.reduceToInt] at e
    have : (sI s 4 + 1).toInt = (sI s 4).toInt + 1 := ia (by simp only [Int32.reduceToInt]; omega) (by simp only [Int32.reduceToInt]; omega)
    rw [lt32]; simp only [Int32.reduceToInt]; omega
  have m2 : (-1 : Int32) < 0 ∧ (-2 : Int32) < 0 ∧ (-3 : Int32) < 0 ∧ (-4 : Int32) < 0 := by decide
  rw [c9]; unfold adS
  by_cases e32 : sI s 4 < 32
  rotate_left
  · have e : adR s a b c = -1 := by unfold adR; rw [if_pos e32]
    rw [e, if_pos m2.1]; simp +decide only [w9_0, w9_1, w9_4, w9_6, w9_9, w9_10, isO_put, true_and, ↓reduceIte, g4, e32]
  obtain ⟨q1, q2⟩ := end' e32
  by_cases e1 : ¬ a = 1 ∧ ¬ a = 2
  · have e : adR s a b c = -2 := by unfold adR; rw [if_neg (fun q => q e32), if_pos e1]
    rw [e, if_pos m2.2.1]; simp +decide only [w9_0, w9_1, w9_4, w9_6, w9_11, w9_12, w9_13, w9_16, w9_17, w9_18, w9_21, w9_23, isO_put, true_and, ↓reduceIte, g4, e32, e1]
  have main : (W (pj lw) 9 24 [.val (.ref p), .val (.int a), .val (.int b), .val (.int c)] [] 0 0 (ob H p s) Q ↔ Q (some (.int (adR s a b c))) (ob H p (if adR s a b c < 0 then s else adN s a b c))) := by
    by_cases eb : b = 0
    · by_cases ec : c = 0
      · have e : adR s a b c = sI s 4 + 1 := by unfold adR; rw [if_neg (fun q => q e32), if_neg e1, if_neg (fun q => q.elim (fun z => z.2 ec) (fun z => z.1 eb)), if_pos eb]
        rw [e, if_neg q2]; subst eb; subst ec; simp +decide only [w9_24, w9_25, w9_28, w9_29, w9_33, w9_34, w9_37, w9_38, w9_42, w9_48, w9_49, w9_100, w9_101, w9_102, w9_105, w9_106, w9_107, w9_110, w9_111, w9_114, w9_115, w9_118, w9_119, w9_120, w9_121, w9_124, w9_125, w9_128, w9_129, w9_130, w9_131, w9_134, w9_135, w9_138, w9_139, w9_140, w9_141, w9_144, w9_145, w9_148, w9_149, w9_150, w9_151, w9_154, w9_155, w9_158, w9_159, w9_160, w9_161, w9_164, w9_165, w9_168, w9_169, w9_170, w9_171, w9_172, w9_175, w9_176, w9_177, w9_180, w9_181, w9_184, isO_put, isOw_put, okv_int, sI_uI, sI_uA, true_and, and_true, ↓reduceIte, g4, s4, g5, g6, g7, g8, g9, g10, s12, s13, aw1, as1, aw2, as2, aw3, as3, aw4, as4, aw5, as5, aw6, as6, adN, q1]
      · have e : adR s a b c = -2 := by unfold adR; rw [if_neg (fun q => q e32), if_neg e1, if_pos (Or.inl ⟨eb, ec⟩)]
        rw [e, if_pos m2.2.1]; simp +decide only [w9_24, w9_25, w9_28, w9_29, w9_33, w9_34, w9_41, w9_42, w9_45, w9_47, ↓reduceIte, eb, ec]
    · by_cases ec : c = 0
      · have e : adR s a b c = -2 := by unfold adR; rw [if_neg (fun q => q e32), if_neg e1, if_pos (Or.inr ⟨eb, ec⟩)]
        rw [e, if_pos m2.2.1]; simp +decide only [w9_24, w9_25, w9_32, w9_33, w9_34, w9_37, w9_38, w9_42, w9_45, w9_47, ↓reduceIte, eb, ec]
      · have e0 : adR s a b c = if vid s b = false then -3 else if vid s c = false then -3 else if ¬ sA s 1 b.toNatClampNeg = 1 then -4 else if ¬ sA s 1 c.toNatClampNeg = 2 then -4 else sI s 4 + 1 := by
          unfold adR; rw [if_neg (fun q => q e32), if_neg e1, if_neg (fun q => q.elim (fun z => eb z.1) (fun z => ec z.2)), if_neg eb]
        cases v1 : vid s b with
        | false =>
          have e : adR s a b c = -3 := by rw [e0, if_pos v1]
          rw [e, if_pos m2.2.2.1]; simp +decide only [w9_24, w9_25, w9_32, w9_33, w9_34, w9_41, w9_42, w9_48, w9_49, w9_52, w9_53, w9_54, w9_57, w9_60, w9_62, isO_put, Option.toList_some, List.cons_append, List.nil_append, true_and, and_true, ↓reduceIte, eb, ec, t7, v1, bz_f]
        | true =>
          have r1 := vid_rg v1 hn.2
          have i1 : 0 ≤ b.toInt ∧ b.toInt < 33 := by omega
          cases v2 : vid s c with
          | false =>
            have e : adR s a b c = -3 := by rw [e0, if_neg (by rw [v1]; decide), if_pos v2]
            rw [e, if_pos m2.2.2.1]; simp +decide only [w9_24, w9_25, w9_32, w9_33, w9_34, w9_41, w9_42, w9_48, w9_49, w9_52, w9_53, w9_54, w9_57, w9_63, w9_64, w9_65, w9_68, w9_71, w9_73, isO_put, Option.toList_some, List.cons_append, List.nil_append, true_and, and_true, ↓reduceIte, eb, ec, t7, v1, v2, bz_f, bz_t]
          | true =>
            have r2 := vid_rg v2 hn.2
            have i2 : 0 ≤ c.toInt ∧ c.toInt < 33 := by omega
            by_cases x1 : sA s 1 b.toNatClampNeg = 1
            · by_cases x2 : sA s 1 c.toNatClampNeg = 2
              · have e : adR s a b c = sI s 4 + 1 := by rw [e0, if_neg (by rw [v1]; decide), if_neg (by rw [v2]; decide), if_neg (fun q => q x1), if_neg (fun q => q x2)]
                rw [e, if_neg q2]; simp +decide only [w9_24, w9_25, w9_32, w9_33, w9_34, w9_41, w9_42, w9_48, w9_49, w9_52, w9_53, w9_54, w9_57, w9_63, w9_64, w9_65, w9_68, w9_74, w9_75, w9_78, w9_79, w9_80, w9_81, w9_87, w9_88, w9_91, w9_92, w9_93, w9_94, w9_100, w9_101, w9_102, w9_105, w9_106, w9_107, w9_110, w9_111, w9_114, w9_115, w9_118, w9_119, w9_120, w9_121, w9_124, w9_125, w9_128, w9_129, w9_130, w9_131, w9_134, w9_135, w9_138, w9_139, w9_140, w9_141, w9_144, w9_145, w9_148, w9_149, w9_150, w9_151, w9_154, w9_155, w9_158, w9_159, w9_160, w9_161, w9_164, w9_165, w9_168, w9_169, w9_170, w9_171, w9_172, w9_175, w9_176, w9_177, w9_180, w9_181, w9_184, isO_put, isOw_put, okv_int, sI_uI, sI_uA, Option.toList_some, List.cons_append, List.nil_append, true_and, and_true, ↓reduceIte, g4, s4, g5, g6, g7, g8, g9, g10, s12, s13, ai1, aw1, ae1, as1, aw2, as2, aw3, as3, aw4, as4, aw5, as5, aw6, as6, eb, ec, t7, v1, v2, bz_t, i1, i2, x1, x2, adN, q1]
              · have e : adR s a b c = -4 := by rw [e0, if_neg (by rw [v1]; decide), if_neg (by rw [v2]; decide), if_neg (fun q => q x1), if_pos x2]
                rw [e, if_pos m2.2.2.2]; simp +decide only [w9_24, w9_25, w9_32, w9_33, w9_34, w9_41, w9_42, w9_48, w9_49, w9_52, w9_53, w9_54, w9_57, w9_63, w9_64, w9_65, w9_68, w9_74, w9_75, w9_78, w9_79, w9_80, w9_81, w9_87, w9_88, w9_91, w9_92, w9_93, w9_94, w9_97, w9_99, isO_put, Option.toList_some, List.cons_append, List.nil_append, true_and, and_true, ↓reduceIte, g5, ai1, ae1, eb, ec, t7, v1, v2, bz_t, i1, i2, x1, x2]
            · have e : adR s a b c = -4 := by rw [e0, if_neg (by rw [v1]; decide), if_neg (by rw [v2]; decide), if_pos x1]
              rw [e, if_pos m2.2.2.2]; simp +decide only [w9_24, w9_25, w9_32, w9_33, w9_34, w9_41, w9_42, w9_48, w9_49, w9_52, w9_53, w9_54, w9_57, w9_63, w9_64, w9_65, w9_68, w9_74, w9_75, w9_78, w9_79, w9_80, w9_81, w9_84, w9_86, isO_put, Option.toList_some, List.cons_append, List.nil_append, true_and, and_true, ↓reduceIte, g5, ai1, ae1, eb, ec, t7, v1, v2, bz_t, i1, x1]
  by_cases a1 : a = 1
  · simp +decide only [w9_0, w9_1, w9_4, w9_6, w9_11, w9_12, w9_13, isO_put, true_and, ↓reduceIte, g4, e32, a1]; rw [a1] at main; exact main
  · by_cases a2 : a = 2
    · simp +decide only [w9_0, w9_1, w9_4, w9_6, w9_11, w9_12, w9_13, w9_16, w9_17, w9_18, isO_put, true_and, ↓reduceIte, g4, e32, a2]; rw [a2] at main; exact main
    · exact absurd ⟨a1, a2⟩ e1
def obR (s : St) (i a b : Int32) : Int32 := if vid s i = false then -5 else if val s a = true ∧ val s b = true then 0 else -6
def obS (s : St) (i a b : Int32) : St := if obR s i a b = 0 then uI (uA s 4 i.toNatClampNeg (sA s 10 (a * 5 + b).toNatClampNeg)) 13 0 else s
theorem t10 {i : Int32} (hE : Ev s) : Cl (pj lw) 10 [.ref p, .int i, .int a, .int b] (ob H p s) Q ↔ Q (some (.int (obR s i a b))) (ob H p (obS s i a b)) := by
  rw [c10]; unfold obS
  cases e2 : vid s i with
  | false =>
    have e : obR s i a b = -5 := by unfold obR; rw [if_pos e2]
    rw [e, if_neg (by decide)]; simp +decide only [w10_0, w10_1, w10_2, w10_5, w10_8, w10_10, isO_put, Option.toList_some, List.cons_append, List.nil_append, true_and, and_true, ↓reduceIte, t7, e2, bz_f]
  | true =>
    have r := vid_rg e2 hE.1.2
    have hj : 0 ≤ i.toInt ∧ i.toInt < 33 := by omega
    cases e3 : val s a with
    | false =>
      have e : obR s i a b = -6 := by unfold obR; rw [if_neg (by rw [e2]; decide), if_neg (fun q => by rw [e3] at q; exact absurd q.1 (by decide))]
      rw [e, if_neg (by decide)]; simp +decide only [w10_0, w10_1, w10_2, w10_5, w10_11, w10_12, w10_13, w10_16, w10_27, w10_29, isO_put, Option.toList_some, List.cons_append, List.nil_append, true_and, and_true, ↓reduceIte, t7, t8, e2, e3, bz_f, bz_t]
    | true =>
      cases e4 : val s b with
      | false =>
        have e : obR s i a b = -6 := by unfold obR; rw [if_neg (by rw [e2]; decide), if_neg (fun q => by rw [e4] at q; exact absurd q.2 (by decide))]
        rw [e, if_neg (by decide)]; simp +decide only [w10_0, w10_1, w10_2, w10_5, w10_11, w10_12, w10_13, w10_16, w10_19, w10_20, w10_21, w10_24, w10_27, w10_29, isO_put, Option.toList_some, List.cons_append, List.nil_append, true_and, and_true, ↓reduceIte, t7, t8, e2, e3, e4, bz_f, bz_t]
      | true =>
        have r3 := val_rg hE e3
        have r4 := val_rg hE e4
        have hx := (ix5 (u := a) (v := b) (by omega) (by omega)).1
        have e : obR s i a b = 0 := by unfold obR; rw [if_neg (by rw [e2]; decide), if_pos ⟨e3, e4⟩]
        rw [e, if_pos rfl]; simp +decide only [w10_0, w10_1, w10_2, w10_5, w10_11, w10_12, w10_13, w10_16, w10_19, w10_20, w10_21, w10_24, w10_30, w10_31, w10_34, w10_35, w10_36, w10_39, w10_40, w10_41, w10_42, w10_43, w10_44, w10_45, w10_46, w10_47, w10_48, w10_51, w10_52, isO_put, isOw_put, Option.toList_some, List.cons_append, List.nil_append, true_and, and_true, ↓reduceIte, g8, s13, g18, aw4, as4, ai10, ae10, t7, t8, e2, e3, e4, hj, hx, bz_t]
def unR (s : St) (i : Int32) : Int32 := if vid s i = true then 0 else -5
def unS (s : St) (i : Int32) : St := if vid s i = true then uI (uA s 4 i.toNatClampNeg (-1)) 13 0 else s
theorem t11 {i : Int32} (hE : Ev s) : Cl (pj lw) 11 [.ref p, .int i] (ob H p s) Q ↔ Q (some (.int (unR s i))) (ob H p (unS s i)) := by
  rw [c11]; unfold unS unR
  cases e2 : vid s i with
  | false => simp +decide only [w11_0, w11_1, w11_2, w11_5, w11_8, w11_10, isO_put, Option.toList_some, List.cons_append, List.nil_append, true_and, and_true, ↓reduceIte, t7, e2, bz_f]
  | true =>
    have r := vid_rg e2 hE.1.2
    have hj : 0 ≤ i.toInt ∧ i.toInt < 33 := by omega
    simp +decide only [w11_0, w11_1, w11_2, w11_5, w11_11, w11_12, w11_15, w11_16, w11_17, w11_18, w11_19, w11_20, w11_23, w11_24, isO_put, isOw_put, Option.toList_some, List.cons_append, List.nil_append, true_and, and_true, ↓reduceIte, g8, s13, aw4, as4, t7, e2, hj, bz_t]
def csd (a : Int32) : Int32 := if a < 1 then 1 else a
theorem t12 : Cl (pj lw) 12 [.ref p, .int a] (ob H p s) Q ↔ Q none (ob H p (uI s 3 (csd a))) := by
  rw [c12]; unfold csd
  by_cases e : a < 1 <;> simp +decide only [w12_0, w12_1, w12_2, w12_3, w12_6, w12_9, c2, w2_0, w2_1, w2_2, w2_5, w2_6, w2_9, w2_10, isO_put, isOw_put, okv_int, cs_nil, cs_ref, Option.toList_some, List.cons_append, List.nil_append, true_and, and_true, ↓reduceIte, Nat.reduceAdd, Int32.reduceAdd, Int64.reduceAdd, Nat.add_zero, Nat.le_refl, s3, e]
def drw (s : St) : Int32 := sI s 3 * 1103515245 + 12345
def drv (s : St) : Int32 := Jvm.Free.XT.ushr (drw s) 16 &&& 32767
theorem t13 : Cl (pj lw) 13 [.ref p] (ob H p s) Q ↔ Q (some (.int (drv s))) (ob H p (uI s 3 (drw s))) := by
  rw [c13]; simp +decide only [w13_0, w13_1, w13_2, w13_5, w13_7, w13_8, w13_11, w13_12, w13_15, w13_16, w13_19, w13_21, w13_22, w13_25, w13_26, isO_put, isOw_put, okv_int, sI_uI, true_and, and_true, ↓reduceIte, g3, s3, drv, drw]
def inh (s : St) (a : Int32) : Int32 := if drv s &&& 1 = 0 then sA s 5 a.toNatClampNeg else sA s 6 a.toNatClampNeg
theorem t14 (h : 0 ≤ a.toInt ∧ a.toInt < 33) : Cl (pj lw) 14 [.ref p, .int a] (ob H p s) Q ↔ Q (some (.int (inh s a))) (ob H p (uI s 3 (drw s))) := by
  rw [c14]; unfold inh
  by_cases e : drv s &&& 1 = 0 <;> simp +decide only [w14_0, w14_1, w14_4, w14_5, w14_6, w14_7, w14_8, w14_11, w14_12, w14_15, w14_16, w14_17, w14_20, w14_21, w14_24, w14_25, w14_26, isO_put, sA_uI, Option.toList_some, List.cons_append, List.nil_append, true_and, and_true, ↓reduceIte, g9, g10, ai5, ae5, ai6, ae6, t13, h, e]
def Dp (s : St) (i : Nat) : Prop := (sA s 2 i = 0 → (1 ≤ (sA s 5 i).toInt ∧ (sA s 5 i).toInt ≤ (sI s 0).toInt) ∧ (1 ≤ (sA s 6 i).toInt ∧ (sA s 6 i).toInt ≤ (sI s 0).toInt)) ∧
  (¬ sA s 2 i = 0 → (sA s 5 i = sA s 5 (sA s 2 i).toNatClampNeg ∨ sA s 5 i = sA s 6 (sA s 2 i).toNatClampNeg) ∧ (sA s 6 i = sA s 5 (sA s 3 i).toNatClampNeg ∨ sA s 6 i = sA s 6 (sA s 3 i).toNatClampNeg))
def Sp (s s' : St) : Prop := (∀ x, x ≠ 3 → sI s' x = sI s x) ∧ (∀ x, sJ s' x = sJ s x) ∧ (∀ t, t ≠ 5 → t ≠ 6 → sA s' t = sA s t) ∧ ∀ t i, sB s' t i = sB s t i
theorem Sp.refl : Sp s s := ⟨fun _ _ => rfl, fun _ => rfl, fun _ _ _ => rfl, fun _ _ => rfl⟩
theorem Sp.trans {s1' s2' : St} (h : Sp s s1') (g : Sp s1' s2') : Sp s s2' := ⟨fun x hx => (g.1 x hx).trans (h.1 x hx), fun x => (g.2.1 x).trans (h.2.1 x), fun t h1 h2 => (g.2.2.1 t h1 h2).trans (h.2.2.1 t h1 h2), fun t i => (g.2.2.2 t i).trans (h.2.2.2 t i)⟩
theorem Sp.ev (h : Sp s s') (hE : Ev s) : Ev s' := hE.of (h.1 _ (by decide)) (h.1 _ (by decide)) (h.1 _ (by decide)) (h.2.2.1 _ (by decide) (by decide)) (h.2.2.1 _ (by decide) (by decide))
theorem Sp_uI {v : Int32} : Sp s (uI s 3 v) := ⟨fun x hx => by rw [sI_uI, if_neg hx], fun _ => sJ_uI, fun _ _ _ => sA_fI, fun _ _ => sB_uI⟩
theorem Sp_uA {t i : Nat} {v : Int32} (ht : t = 5 ∨ t = 6) : Sp s (uA s t i v) := ⟨fun _ _ => sI_uA, fun _ => sJ_uA, fun t' h1 h2 => sA_fun (by omega), fun _ _ => sB_uA⟩
theorem Dp_of {i j : Nat} (hE : Ev s) (h : Sp s s') (hi : 1 ≤ i ∧ i ≤ nN s ∧ i < j) (h5 : ∀ x, x ≠ j → sA s' 5 x = sA s 5 x) (h6 : ∀ x, x ≠ j → sA s' 6 x = sA s 6 x) (hd : Dp s i) : Dp s' i := by
  have f2 : sA s' 2 = sA s 2 := h.2.2.1 _ (by decide) (by decide)
  have f3 : sA s' 3 = sA s 3 := h.2.2.1 _ (by decide) (by decide)
  unfold Dp; rw [f2, f3, h.1 0 (by decide), h5 i (by omega), h6 i (by omega)]
  refine ⟨hd.1, fun h0 => ?_⟩
  have r := (hE.2.2.2 i (by omega) (by omega)).resolve_left (fun q => h0 q.1)
  rw [h5 _ (by rw [cln]; omega), h6 _ (by rw [cln]; omega), h5 _ (by rw [cln]; omega), h6 _ (by rw [cln]; omega)]
  exact hd.2 h0
theorem nlt {u v : Int32} (h : 1 ≤ u.toInt ∧ u.toInt < v.toInt) : ¬ u.toNatClampNeg = v.toNatClampNeg := by rw [cln, cln]; omega
theorem drv_rg : 0 ≤ (drv s).toInt := (and_rg (by decide)).1
theorem al_rg {v m : Int32} (hv : 0 ≤ v.toInt) (hm : 2 ≤ m.toInt ∧ m.toInt ≤ 4) : 1 ≤ (1 + v % m).toInt ∧ (1 + v % m).toInt ≤ m.toInt := by
  have := rem_rg (x := v) (m := m) hv (by omega)
  rw [ia (by simp only [Int32.reduceToInt]; omega) (by simp only [Int32.reduceToInt]; omega)]; simp only [Int32.reduceToInt]; omega
set_option maxRecDepth 100000 in
theorem l15 : ∀ (m : Nat) (i : Int32) (l2 l3 : Slot) (s : St), Ev s → us l2 → us l3 → i.toInt = (sI s 4).toInt + 1 - m → 1 ≤ i.toInt → (∀ j : Nat, 1 ≤ j → (j : Int) < i.toInt → Dp s j) →
    (∀ z, Sp s z → (∀ j, 1 ≤ j → j ≤ nN s → Dp z j) → Q (some (.int (sI s 4))) (ob H p (uI z 12 1))) → W (pj lw) 15 2 [.val (.ref p), .val (.int i), l2, l3] [] k n (ob H p s) Q
  | 0, i, l2, l3, s, hE, u2, u3, h1, h2, hd, hQ => by
    have hn := hE.1
    have h3 : sI s 4 < i := by rw [lt32]; omega
    rw [w15_2]; simp +decide only [w15_3, w15_4, w15_7, w15_98, w15_99, w15_100, w15_103, w15_104, w15_107, isO_put, isOw_put, sI_uI, true_and, and_true, ↓reduceIte, g4, s12, h3]
    exact hQ s Sp.refl fun j a1 a2 => hd j a1 (by have := (nN_le hE).2; omega)
  | m + 1, i, l2, l3, s, hE, u2, u3, h1, h2, hd, hQ => by
    have hn := hE.1
    obtain ⟨hn1, hn2⟩ := nN_le hE
    have h3 : ¬ sI s 4 < i := by rw [lt32]; omega
    have h4 : (i + 1).toInt = i.toInt + 1 := ia (by simp only [Int32.reduceToInt]; omega) (by simp only [Int32.reduceToInt]; omega)
    have hj : 0 ≤ i.toInt ∧ i.toInt < 33 := by omega
    have ha := hE.2.2.1
    have n0 : ¬ sI s 0 = 0 := by rw [eq32]; simp only [Int32.reduceToInt]; omega
    have nx : ∀ (z : St) (l2 l3 : Slot), us l2 → us l3 → Sp s z → (∀ x, x ≠ i.toNatClampNeg → sA z 5 x = sA s 5 x) → (∀ x, x ≠ i.toNatClampNeg → sA z 6 x = sA s 6 x) → Dp z i.toNatClampNeg → W (pj lw) 15 2 [.val (.ref p), .val (.int (i + 1)), l2, l3] [] k n (ob H p z) Q := fun z l2 l3 u2 u3 hz h5 h6 hdz => by
      have f4 : sI z 4 = sI s 4 := hz.1 _ (by decide)
      refine l15 m (i + 1) l2 l3 z (hz.ev hE) u2 u3 (by rw [f4]; omega) (by omega) (fun j a1 a2 => ?_) fun z2 r1 r2 => ?_
      · by_cases e : j = i.toNatClampNeg
        · subst e; exact hdz
        · rw [cln] at e
          exact Dp_of (j := i.toNatClampNeg) hE hz ⟨a1, by omega, by rw [cln]; omega⟩ h5 h6 (hd j a1 (by omega))
      · rw [f4]; refine hQ z2 (hz.trans r1) fun j a1 a2 => r2 j a1 ?_
        unfold nN; rw [f4]; exact a2
    rw [w15_2]
    by_cases e : sA s 2 i.toNatClampNeg = 0
    · have r1 := al_rg (drv_rg (s := s)) ha
      have fz : ∀ v w x y, Sp s (uA (uI (uA (uI s 3 v) 5 i.toNatClampNeg w) 3 x) 6 i.toNatClampNeg y) := fun v w x y => ((Sp_uI.trans (Sp_uA (by simp))).trans Sp_uI).trans (Sp_uA (by simp))
      have fin : ∀ (v x : Int32) (w y : Int32), (1 ≤ w.toInt ∧ w.toInt ≤ (sI s 0).toInt) → (1 ≤ y.toInt ∧ y.toInt ≤ (sI s 0).toInt) → ∀ l2 l3, us l2 → us l3 → W (pj lw) 15 2 [.val (.ref p), .val (.int (i + 1)), l2, l3] [] k n (ob H p (uA (uI (uA (uI s 3 v) 5 i.toNatClampNeg w) 3 x) 6 i.toNatClampNeg y)) Q := fun v x w y hw hy l2 l3 u2 u3 => by
        refine nx _ l2 l3 u2 u3 (fz v w x y) (fun q hq => by simp +decide only [sA_uA, sA_uI, hq, and_false, false_and, ↓reduceIte]) (fun q hq => by simp +decide only [sA_uA, sA_uI, hq, and_false, false_and, ↓reduceIte]) ?_
        have z0 : sI (uA (uI (uA (uI s 3 v) 5 i.toNatClampNeg w) 3 x) 6 i.toNatClampNeg y) 0 = sI s 0 := (fz v w x y).1 0 (by decide)
        have z2 : sA (uA (uI (uA (uI s 3 v) 5 i.toNatClampNeg w) 3 x) 6 i.toNatClampNeg y) 2 = sA s 2 := (fz v w x y).2.2.1 2 (by decide) (by decide)
        have z5 : sA (uA (uI (uA (uI s 3 v) 5 i.toNatClampNeg w) 3 x) 6 i.toNatClampNeg y) 5 i.toNatClampNeg = w := by simp +decide only [sA_uA, sA_uI, and_self, false_and, ↓reduceIte]
        have z6 : sA (uA (uI (uA (uI s 3 v) 5 i.toNatClampNeg w) 3 x) 6 i.toNatClampNeg y) 6 i.toNatClampNeg = y := by simp +decide only [sA_uA, sA_uI, and_self, ↓reduceIte]
        unfold Dp; rw [z0, z2, z5, z6]
        exact ⟨fun _ => ⟨hw, hy⟩, fun q => absurd e q⟩
      rcases u2 with rfl | ⟨v, rfl⟩ <;> rcases u3 with rfl | ⟨w, rfl⟩ <;> simp +decide only [w15_3, w15_4, w15_7, w15_10, w15_11, w15_14, w15_15, w15_16, w15_19, w15_20, w15_23i, w15_23, w15_24, w15_25, w15_28, w15_29, w15_30, w15_31, w15_32, w15_35, w15_36, w15_37, w15_38, w15_39, w15_42i, w15_42, w15_43, w15_44, w15_47, w15_48, w15_49, w15_50, w15_51, w15_54, w15_55, w15_56, w15_57, w15_92, w15_95, isO_put, sI_uI, sI_uA, Option.toList_some, List.cons_append, List.nil_append, true_and, and_true, not_false_eq_true, ↓reduceIte, g0, g4, g6, g9, g10, ai2, ae2, aw5, as5, aw6, as6, h3, hj, e, t13, n0] <;> exact fin _ _ _ _ (al_rg drv_rg ha) (al_rg drv_rg ha) _ _ us_i us_i
    · have r := par_rg hE (b := i) (by omega) e
      have i1 : 0 ≤ (sA s 2 i.toNatClampNeg).toInt ∧ (sA s 2 i.toNatClampNeg).toInt < 33 := by omega
      have i2 : 0 ≤ (sA s 3 i.toNatClampNeg).toInt ∧ (sA s 3 i.toNatClampNeg).toInt < 33 := by omega
      have fz : ∀ v w x y, Sp s (uA (uI (uA (uI s 3 v) 5 i.toNatClampNeg w) 3 x) 6 i.toNatClampNeg y) := fun v w x y => ((Sp_uI.trans (Sp_uA (by simp))).trans Sp_uI).trans (Sp_uA (by simp))
      have fin : ∀ (v x : Int32) (w y : Int32), (w = sA s 5 (sA s 2 i.toNatClampNeg).toNatClampNeg ∨ w = sA s 6 (sA s 2 i.toNatClampNeg).toNatClampNeg) → (y = sA s 5 (sA s 3 i.toNatClampNeg).toNatClampNeg ∨ y = sA s 6 (sA s 3 i.toNatClampNeg).toNatClampNeg) → W (pj lw) 15 2 [.val (.ref p), .val (.int (i + 1)), l2, l3] [] k n (ob H p (uA (uI (uA (uI s 3 v) 5 i.toNatClampNeg w) 3 x) 6 i.toNatClampNeg y)) Q := fun v x w y hw hy => by
        refine nx _ l2 l3 u2 u3 (fz v w x y) (fun q hq => by simp +decide only [sA_uA, sA_uI, hq, and_false, false_and, ↓reduceIte]) (fun q hq => by simp +decide only [sA_uA, sA_uI, hq, and_false, false_and, ↓reduceIte]) ?_
        have z2 : sA (uA (uI (uA (uI s 3 v) 5 i.toNatClampNeg w) 3 x) 6 i.toNatClampNeg y) 2 = sA s 2 := (fz v w x y).2.2.1 2 (by decide) (by decide)
        have z3 : sA (uA (uI (uA (uI s 3 v) 5 i.toNatClampNeg w) 3 x) 6 i.toNatClampNeg y) 3 = sA s 3 := (fz v w x y).2.2.1 3 (by decide) (by decide)
        have z5 : sA (uA (uI (uA (uI s 3 v) 5 i.toNatClampNeg w) 3 x) 6 i.toNatClampNeg y) 5 i.toNatClampNeg = w := by simp +decide only [sA_uA, sA_uI, and_self, false_and, ↓reduceIte]
        have z6 : sA (uA (uI (uA (uI s 3 v) 5 i.toNatClampNeg w) 3 x) 6 i.toNatClampNeg y) 6 i.toNatClampNeg = y := by simp +decide only [sA_uA, sA_uI, and_self, ↓reduceIte]
        have o5 : ∀ q, q ≠ i.toNatClampNeg → sA (uA (uI (uA (uI s 3 v) 5 i.toNatClampNeg w) 3 x) 6 i.toNatClampNeg y) 5 q = sA s 5 q := fun q hq => by simp +decide only [sA_uA, sA_uI, hq, and_false, false_and, ↓reduceIte]
        have o6 : ∀ q, q ≠ i.toNatClampNeg → sA (uA (uI (uA (uI s 3 v) 5 i.toNatClampNeg w) 3 x) 6 i.toNatClampNeg y) 6 q = sA s 6 q := fun q hq => by simp +decide only [sA_uA, sA_uI, hq, and_false, false_and, ↓reduceIte]
        unfold Dp; rw [z2, z3, z5, z6, o5 _ (nlt r.1), o6 _ (nlt r.1), o5 _ (nlt r.2), o6 _ (nlt r.2)]
        exact ⟨fun q => absurd q e, fun _ => ⟨hw, hy⟩⟩
      have q0 : ∀ v w, sA (uA (uI s 3 v) 5 i.toNatClampNeg w) 3 i.toNatClampNeg = sA s 3 i.toNatClampNeg := fun v w => by simp +decide only [sA_uA, sA_uI, false_and, ↓reduceIte]
      simp +decide only [w15_3, w15_4, w15_7, w15_10, w15_11, w15_14, w15_15, w15_16, w15_60, w15_61, w15_64, w15_65, w15_66, w15_67, w15_70, w15_71, w15_72, w15_75, w15_76, w15_77, w15_80, w15_81, w15_82, w15_83, w15_86, w15_87, w15_88, w15_91, w15_92, w15_95, isO_put, cs_nil, cs_int, cs_ref, Option.toList_some, List.cons_append, List.nil_append, true_and, and_true, ↓reduceIte, Nat.reduceAdd, Int32.reduceAdd, Int64.reduceAdd, Nat.add_zero, Nat.le_refl, g4, g6, g7, g9, g10, ai2, ae2, ai3, ae3, aw5, as5, aw6, as6, h3, hj, e, t14 i1, q0, t14 i2]
      have i5 : ∀ v w, (inh (uA (uI s 3 v) 5 i.toNatClampNeg w) (sA s 3 i.toNatClampNeg) = sA s 5 (sA s 3 i.toNatClampNeg).toNatClampNeg ∨ inh (uA (uI s 3 v) 5 i.toNatClampNeg w) (sA s 3 i.toNatClampNeg) = sA s 6 (sA s 3 i.toNatClampNeg).toNatClampNeg) := fun v w => by
        have hne := nlt r.2
        unfold inh; simp +decide only [sA_uA, sA_uI, hne, and_false, false_and, ↓reduceIte]; split
        · exact Or.inl rfl
        · exact Or.inr rfl
      exact fin _ _ _ _ (by unfold inh; split; exact Or.inl rfl; exact Or.inr rfl) (i5 _ _)
theorem t15 (hE : Ev s) (hQ : ∀ z, Sp s z → (∀ j, 1 ≤ j → j ≤ nN s → Dp z j) → Q (some (.int (sI s 4))) (ob H p (uI z 12 1))) : Cl (pj lw) 15 [.ref p] (ob H p s) Q := by
  rw [c15]; simp +decide only [w15_0, w15_1]
  exact l15 (nN s) 1 .unset .unset s hE us_u us_u (by have := hE.1; unfold nN; simp only [Int32.reduceToInt]; omega) (by decide) (fun j a1 a2 => by simp only [Int32.reduceToInt] at a2; omega) hQ
def odR (s : St) (i : Int32) : Int32 := if vid s i = false then -5 else if sI s 12 = 0 then -7 else 0
def odS (s : St) (i : Int32) : St := if odR s i = 0 then uI (uA s 4 i.toNatClampNeg (sA s 10 (sA s 5 i.toNatClampNeg * 5 + sA s 6 i.toNatClampNeg).toNatClampNeg)) 13 0 else s
theorem t16 {i : Int32} (hE : Ev s) (hd : ¬ sI s 12 = 0 → ∀ j, 1 ≤ j → j ≤ nN s → (0 ≤ (sA s 5 j).toInt ∧ (sA s 5 j).toInt ≤ 4) ∧ (0 ≤ (sA s 6 j).toInt ∧ (sA s 6 j).toInt ≤ 4)) : Cl (pj lw) 16 [.ref p, .int i] (ob H p s) Q ↔ Q (some (.int (odR s i))) (ob H p (odS s i)) := by
  rw [c16]; unfold odS
  cases e2 : vid s i with
  | false =>
    have e : odR s i = -5 := by unfold odR; rw [if_pos e2]
    rw [e, if_neg (by decide)]; simp +decide only [w16_0, w16_1, w16_2, w16_5, w16_8, w16_10, isO_put, Option.toList_some, List.cons_append, List.nil_append, true_and, and_true, ↓reduceIte, t7, e2, bz_f]
  | true =>
    have r := vid_rg e2 hE.1.2
    have hj : 0 ≤ i.toInt ∧ i.toInt < 33 := by omega
    by_cases e3 : sI s 12 = 0
    · have e : odR s i = -7 := by unfold odR; rw [if_neg (by rw [e2]; decide), if_pos e3]
      rw [e, if_neg (by decide)]; simp +decide only [w16_0, w16_1, w16_2, w16_5, w16_11, w16_12, w16_15, w16_18, w16_20, isO_put, Option.toList_some, List.cons_append, List.nil_append, true_and, and_true, ↓reduceIte, g12, t7, e2, e3, bz_t]
    · have q := hd e3 i.toNatClampNeg (by rw [cln]; omega) (by have := (nN_le hE).2; rw [cln]; omega)
      have hx := (ix5 q.1 q.2).1
      have e : odR s i = 0 := by unfold odR; rw [if_neg (by rw [e2]; decide), if_neg e3]
      rw [e, if_pos rfl]; simp +decide only [w16_0, w16_1, w16_2, w16_5, w16_11, w16_12, w16_15, w16_21, w16_22, w16_25, w16_26, w16_27, w16_30, w16_31, w16_34, w16_35, w16_36, w16_37, w16_38, w16_39, w16_42, w16_43, w16_44, w16_45, w16_46, w16_47, w16_48, w16_49, w16_52, w16_53, isO_put, isOw_put, Option.toList_some, List.cons_append, List.nil_append, true_and, and_true, ↓reduceIte, g8, g9, g10, g12, s13, g18, aw4, as4, ai5, ae5, ai6, ae6, ai10, ae10, t7, e2, e3, hj, hx, bz_t]
def dal (s : St) (i w : Int32) : Int32 := if vid s i = true ∧ ¬ sI s 12 = 0 then (if w = 0 then sA s 5 i.toNatClampNeg else if w = 1 then sA s 6 i.toNatClampNeg else 0) else 0
theorem t17 {i w : Int32} (hE : Ev s) : Cl (pj lw) 17 [.ref p, .int i, .int w] (ob H p s) Q ↔ Q (some (.int (dal s i w))) (ob H p s) := by
  rw [c17]; unfold dal
  cases e2 : vid s i with
  | false => simp +decide only [w17_0, w17_1, w17_2, w17_5, w17_15, w17_16, isO_put, Option.toList_some, List.cons_append, List.nil_append, true_and, and_true, false_and, ↓reduceIte, t7, e2, bz_f]
  | true =>
    have r := vid_rg e2 hE.1.2
    have hj : 0 ≤ i.toInt ∧ i.toInt < 33 := by omega
    by_cases e3 : sI s 12 = 0
    · simp +decide only [w17_0, w17_1, w17_2, w17_5, w17_8, w17_9, w17_12, w17_15, w17_16, isO_put, Option.toList_some, List.cons_append, List.nil_append, true_and, and_true, and_false, not_true_eq_false, ↓reduceIte, g12, t7, e2, e3, bz_t]
    · by_cases e4 : w = 0
      · simp +decide only [w17_0, w17_1, w17_2, w17_5, w17_8, w17_9, w17_12, w17_17, w17_18, w17_21, w17_22, w17_25, w17_26, w17_27, isO_put, Option.toList_some, List.cons_append, List.nil_append, true_and, and_true, not_false_eq_true, ↓reduceIte, g9, g12, ai5, ae5, t7, e2, e3, e4, hj, bz_t]
      · by_cases e5 : w = 1 <;> simp +decide only [w17_0, w17_1, w17_2, w17_5, w17_8, w17_9, w17_12, w17_17, w17_18, w17_28, w17_29, w17_30, w17_33, w17_34, w17_37, w17_38, w17_39, w17_40, w17_41, isO_put, Option.toList_some, List.cons_append, List.nil_append, true_and, and_true, not_false_eq_true, ↓reduceIte, g10, g12, ai6, ae6, t7, e2, e3, e4, e5, hj, bz_t]
end F

section G
variable {s s' : St} {x y : Int32} {cc cc' nu : Nat → Int32} {L : List Nat} {D : Dt} {G : Nat → Nat}
theorem shr_bv {g : Nat} (hg : g < 32) : (x >>> (Int32.ofNat g &&& 31)).toBitVec = x.toBitVec.sshiftRight g := by
  have key : ∀ j : Fin 32, ((Int32.ofNat j.val &&& 31).toBitVec.smod 32) = BitVec.ofNat 32 j.val := by decide +kernel
  have hk := key ⟨g, hg⟩
  simp only at hk
  rw [Int32.toBitVec_shiftRight, hk]
  show x.toBitVec.sshiftRight (BitVec.ofNat 32 g).toNat = _
  rw [BitVec.toNat_ofNat, Nat.mod_eq_of_lt (by omega)]
theorem and1_32 : x &&& 1 = 0 ↔ x.toBitVec.getLsbD 0 = false := by
  rw [← Int32.toBitVec_inj, Int32.toBitVec_and]
  have e1 : (1 : Int32).toBitVec = 1#32 := rfl
  have e0 : (0 : Int32).toBitVec = 0#32 := rfl
  rw [e1, e0]
  constructor
  · intro e
    have := congrArg (fun v => v.getLsbD 0) e
    simpa using this
  · intro e
    apply BitVec.eq_of_getLsbD_eq
    intro i hi
    rw [BitVec.getLsbD_and, BitVec.getLsbD_one]
    by_cases g : i = 0
    · subst g; rw [e]; simp
    · simp [g]
theorem btb {g : Nat} (hg : g < 32) : bt x g = x.toBitVec.getLsbD g := by
  unfold bt
  have : (x >>> (Int32.ofNat g &&& 31) &&& 1 = 0) ↔ x.toBitVec.getLsbD g = false := by
    rw [and1_32, shr_bv hg, BitVec.getLsbD_sshiftRight]
    simp [hg]
  by_cases e : x.toBitVec.getLsbD g = true
  · rw [e]; exact decide_eq_true fun q => by rw [this.mp q] at e; cases e
  · have e' : x.toBitVec.getLsbD g = false := by simpa using e
    rw [e']; exact decide_eq_false fun q => q (this.mpr e')
theorem bt_and {g : Nat} (hg : g < 32) : bt (x &&& y) g = (bt x g && bt y g) := by rw [btb hg, btb hg, btb hg, Int32.toBitVec_and, BitVec.getLsbD_and]
theorem bt_or {g : Nat} (hg : g < 32) : bt (x ||| y) g = (bt x g || bt y g) := by rw [btb hg, btb hg, btb hg, Int32.toBitVec_or, BitVec.getLsbD_or]
theorem bt_0 {g : Nat} (hg : g < 32) : bt 0 g = false := by rw [btb hg]; simp
theorem bt_1 {g h : Nat} (hg : g < 32) (hh : h < 32) : bt (1 <<< (Int32.ofNat g &&& 31)) h = decide (h = g) := by
  have key : ∀ (a b : Fin 32), bt (1 <<< (Int32.ofNat a.val &&& 31)) b.val = decide (b.val = a.val) := by decide +kernel
  exact key ⟨g, hg⟩ ⟨h, hh⟩
theorem bt_nz {g : Nat} (hg : g < 32) (h : bt x g = true) : ¬ x = 0 := fun e => by rw [e, bt_0 hg] at h; cases h
def Sub (cc cc' : Nat → Int32) : Prop := ∀ i, ∃ v, cc' i = cc i &&& v
theorem Sub.refl : Sub cc cc := fun i => ⟨cc i, (Int32.and_self).symm⟩
theorem Sub.trans {c2 : Nat → Int32} (h : Sub cc cc') (g : Sub cc' c2) : Sub cc c2 := fun i => by
  obtain ⟨v, hv⟩ := h i; obtain ⟨w, hw⟩ := g i
  exact ⟨v &&& w, by rw [hw, hv, Int32.and_assoc]⟩
theorem Sub_up {i : Nat} {v : Int32} : Sub cc (up cc i (cc i &&& v)) := fun j => by
  unfold up; by_cases e : j = i
  · subst e; exact ⟨v, by rw [if_pos rfl]⟩
  · exact ⟨cc j, by rw [if_neg e, Int32.and_self]⟩
theorem Sub_kF : ∀ (L : List Nat) (cc : Nat → Int32), Sub cc (kF nu L cc)
  | [], cc => Sub.refl
  | j :: L, cc => Sub_up.trans (Sub_kF L _)
theorem Sub_rf {f : Nat} : Sub cc (rfC D cc f) := (Sub_up.trans Sub_up).trans (Sub_kF _ _)
theorem Sub_rd1 : ∀ (m f : Nat) (A : (Nat → Int32) × Bool), Sub A.1 (rd1 D f m A).1
  | 0, f, A => Sub.refl
  | m + 1, f, A => by
    rw [rd1]
    by_cases e : fam D f = true
    · rw [if_pos e]; exact Sub_rf.trans (Sub_rd1 m (f + 1) (rfC D A.1 f, A.2 || rfB D A.1 f))
    · rw [if_neg e]; exact Sub_rd1 m (f + 1) A
theorem Sub_rnd : ∀ (m : Nat) (cc : Nat → Int32), Sub cc (rnd D m cc)
  | 0, cc => Sub.refl
  | m + 1, cc => by
    rw [rnd]; have h := Sub_rd1 (D := D) (dn D) 1 (cc, false)
    split
    · exact h.trans (Sub_rnd m _)
    · exact h
theorem Sub_bt {i g : Nat} (h : Sub cc cc') (hg : g < 32) (hb : bt (cc' i) g = true) : bt (cc i) g = true := by
  obtain ⟨v, hv⟩ := h i; rw [hv, bt_and hg, Bool.and_eq_true] at hb; exact hb.1
def WD (D : Dt) : Prop := dn D ≤ 32 ∧ dg D ≤ 10 ∧ ∀ i, 1 ≤ i → i ≤ dn D → ¬ D.1 i = 0 → (1 ≤ dF D i ∧ dF D i < i) ∧ (1 ≤ dM D i ∧ dM D i < i)
theorem Ev.wd (h : Ev s) : WD (dt s) := by
  refine ⟨(nN_le h).1, by show gN s ≤ 10; unfold gN; have := h.2.1; omega, fun i h1 h2 h3 => ?_⟩
  have := (h.2.2.2 i h1 h2).resolve_left (fun q => h3 q.1)
  show (1 ≤ (sA s 2 i).toNatClampNeg ∧ (sA s 2 i).toNatClampNeg < i) ∧ 1 ≤ (sA s 3 i).toNatClampNeg ∧ (sA s 3 i).toNatClampNeg < i
  rw [cln, cln]; omega
def Out (n : Nat) (cc cc' : Nat → Int32) : Prop := ∀ i, ¬ (1 ≤ i ∧ i ≤ n) → cc' i = cc i
theorem Out.trans {n : Nat} {c2 : Nat → Int32} (h : Out n cc cc') (g : Out n cc' c2) : Out n cc c2 := fun i hi => (g i hi).trans (h i hi)
theorem Out_up {n i : Nat} {v : Int32} (hi : 1 ≤ i ∧ i ≤ n) : Out n cc (up cc i v) := fun j hj => by unfold up; rw [if_neg (by omega)]
theorem Out_kF {n : Nat} : ∀ (L : List Nat) (cc : Nat → Int32), (∀ j, j ∈ L → 1 ≤ j ∧ j ≤ n) → Out n cc (kF nu L cc)
  | [], cc, _ => fun _ _ => rfl
  | j :: L, cc, h => (Out_up (h j (by simp))).trans (Out_kF L _ fun i hi => h i (by simp [hi]))
theorem Out_rf {f : Nat} (hD : WD D) (hf : fam D f = true) : Out (dn D) cc (rfC D cc f) := by
  have h1 := fam_i hf
  have h2 := hD.2.2 f h1.1.1 h1.1.2 h1.2
  refine ((Out_up (by omega)).trans (Out_up (by omega))).trans (Out_kF _ _ fun j hj => ?_)
  have := (kl_mem hj).1; unfold dn at *; omega
theorem Out_rd1 (hD : WD D) : ∀ (m f : Nat) (A : (Nat → Int32) × Bool), Out (dn D) A.1 (rd1 D f m A).1
  | 0, f, A => fun _ _ => rfl
  | m + 1, f, A => by
    rw [rd1]
    by_cases e : fam D f = true
    · rw [if_pos e]; exact (Out_rf hD e).trans (Out_rd1 hD m (f + 1) (rfC D A.1 f, A.2 || rfB D A.1 f))
    · rw [if_neg e]; exact Out_rd1 hD m (f + 1) A
theorem Out_rnd (hD : WD D) : ∀ (m : Nat) (cc : Nat → Int32), Out (dn D) cc (rnd D m cc)
  | 0, cc => fun _ _ => rfl
  | m + 1, cc => by
    rw [rnd]; have h := Out_rd1 hD (dn D) 1 (cc, false)
    split
    · exact h.trans (Out_rnd hD m _)
    · exact h
theorem c0_out (s : St) : Out (nN s) (sA s 7) (c0 s) := fun i hi => by unfold c0 li; rw [if_neg hi]
theorem el_out (hE : Ev s) : Out (nN s) (sA s 7) (elC s) := (c0_out s).trans (Out_rnd hE.wd 330 _)
theorem el_congr (h1 : dt s' = dt s) (h4 : sA s' 4 = sA s 4) (h2 : sI s' 2 = sI s 2) (h7 : Out (nN s) (sA s 7) (sA s' 7)) : elC s' = elC s := by
  have hn : nN s' = nN s := congrArg (fun D : Dt => D.2.2.2.1) h1
  have : c0 s' = c0 s := by
    funext i; unfold c0 li; rw [h4, h2, hn]
    split
    · rfl
    · rename_i h; exact h7 i h
  unfold elC; rw [h1, this]
def Snd (n : Nat) (G : Nat → Nat) (cc : Nat → Int32) : Prop := ∀ i, 1 ≤ i → i ≤ n → bt (cc i) (G i) = true
def Wld (D : Dt) (G : Nat → Nat) : Prop := (∀ i, 1 ≤ i → i ≤ dn D → G i < dg D) ∧ ∀ i, 1 ≤ i → i ≤ dn D → ¬ D.1 i = 0 → bt (dK D (G (dF D i) * 10 + G (dM D i))) (G i) = true
theorem Snd_up {n i : Nat} {v : Int32} (h : Snd n G cc) (hg : G i < 32) (hv : bt v (G i) = true) : Snd n G (up cc i (cc i &&& v)) := fun j h1 h2 => by
  unfold up; by_cases e : j = i
  · subst e; rw [if_pos rfl, bt_and hg, h j h1 h2, hv]; rfl
  · rw [if_neg e]; exact h j h1 h2
theorem Snd_kF {n : Nat} : ∀ (L : List Nat) (cc : Nat → Int32), Snd n G cc → (∀ j, j ∈ L → G j < 32 ∧ bt (nu j) (G j) = true) → Snd n G (kF nu L cc)
  | [], cc, h, _ => h
  | j :: L, cc, h, hL => Snd_kF L _ (Snd_up h (hL j (by simp)).1 (hL j (by simp)).2) fun i hi => hL i (by simp [hi])
def Le (L : List Nat) (A B : Ac) : Prop := ∀ g, g < 32 → (bt A.1 g = true → bt B.1 g = true) ∧ (bt A.2.1 g = true → bt B.2.1 g = true) ∧ ∀ j, bt (A.2.2 j) g = true → bt (B.2.2 j) g = true
theorem Le.refl {A : Ac} : Le L A A := fun g hg => ⟨id, id, fun j => id⟩
theorem Le.trans {A B C : Ac} (h : Le L A B) (k : Le L B C) : Le L A C := fun g hg => ⟨fun z => (k g hg).1 ((h g hg).1 z), fun z => (k g hg).2.1 ((h g hg).2.1 z), fun j z => (k g hg).2.2 j ((h g hg).2.2 j z)⟩
theorem Le_pr1 {KM : Nat → Int32} {ms : Int32} {gf gm : Nat} {A : Ac} : Le L A (pr1 cc L KM ms gf gm A) := by
  unfold pr1; split
  · refine fun g hg => ⟨fun z => ?_, fun z => ?_, fun j z => ?_⟩ <;> rw [bt_or hg, z] <;> rfl
  · exact Le.refl
theorem Le_prI {KM : Nat → Int32} {ms : Int32} {gf : Nat} : ∀ (m gm : Nat) (A : Ac), Le L A (prI cc L KM ms gf gm m A)
  | 0, gm, A => Le.refl
  | m + 1, gm, A => Le_pr1.trans (Le_prI m (gm + 1) _)
theorem Le_prO {KM : Nat → Int32} {fs ms : Int32} {g : Nat} : ∀ (m gf : Nat) (A : Ac), Le L A (prO cc L KM fs ms g gf m A)
  | 0, gf, A => Le.refl
  | m + 1, gf, A => by
    rw [prO]; split
    · exact (Le_prI g 0 A).trans (Le_prO m (gf + 1) _)
    · exact Le_prO m (gf + 1) A
theorem hit_I {KM : Nat → Int32} {ms : Int32} {gf g0 : Nat} (hh : hasI cc L KM ms gf g0 = true) : ∀ (m gm : Nat) (A : Ac), gm ≤ g0 → g0 < gm + m → ∃ B : Ac, Le L (pr1 cc L KM ms gf g0 B) (prI cc L KM ms gf gm m A)
  | 0, gm, A, h1, h2 => by omega
  | m + 1, gm, A, h1, h2 => by
    rw [prI]
    by_cases e : gm = g0
    · subst e; exact ⟨A, Le_prI m _ _⟩
    · exact hit_I hh m (gm + 1) _ (by omega) (by omega)
theorem hit_O {KM : Nat → Int32} {fs ms : Int32} {g f0 g0 : Nat} (hf : bt fs f0 = true) (hg : g0 < g) (hh : hasI cc L KM ms f0 g0 = true) : ∀ (m gf : Nat) (A : Ac), gf ≤ f0 → f0 < gf + m → ∃ B : Ac, Le L (pr1 cc L KM ms f0 g0 B) (prO cc L KM fs ms g gf m A)
  | 0, gf, A, h1, h2 => by omega
  | m + 1, gf, A, h1, h2 => by
    rw [prO]
    by_cases e : gf = f0
    · subst e; rw [if_pos hf]
      obtain ⟨B, hB⟩ := hit_I hh g 0 A (by omega) (by omega)
      exact ⟨B, hB.trans (Le_prO m _ _)⟩
    · exact hit_O hf hg hh m (gf + 1) _ (by omega) (by omega)
theorem sib_par {f j : Nat} (h : sib D.1 D.2.1 f j = true) : D.1 j = D.1 f ∧ dF D j = dF D f ∧ dM D j = dM D f := by
  have := of_decide_eq_true h; unfold dF dM; rw [this.1, this.2]; exact ⟨rfl, rfl, rfl⟩
theorem Snd_rf {f : Nat} (hD : WD D) (hW : Wld D G) (hf : fam D f = true) (h : Snd (dn D) G cc) : Snd (dn D) G (rfC D cc f) := by
  have h1 := fam_i hf
  have h2 := hD.2.2 f h1.1.1 h1.1.2 h1.2
  have g32 : ∀ i, 1 ≤ i → i ≤ dn D → G i < 32 := fun i a b => by have := hW.1 i a b; have := hD.2.1; omega
  have hk : ∀ j, j ∈ dL D f → (1 ≤ j ∧ j ≤ dn D) ∧ bt (dK D (G (dF D f) * 10 + G (dM D f))) (G j) = true := fun j hj => by
    have q := kl_mem hj
    have r := sib_par q.2
    have b : 1 ≤ j ∧ j ≤ dn D := by unfold dn at *; omega
    refine ⟨b, ?_⟩
    rw [← r.2.1, ← r.2.2]; exact hW.2 j b.1 b.2 (by rw [r.1]; exact h1.2)
  have hI : hasI cc (dL D f) (dK D) (cc (dM D f)) (G (dF D f)) (G (dM D f)) = true := by
    unfold hasI fit
    rw [Bool.and_eq_true, List.all_eq_true]
    refine ⟨h _ (by omega) (by omega), fun j hj => decide_eq_true ?_⟩
    obtain ⟨b, hb⟩ := hk j hj
    exact bt_nz (g32 j b.1 b.2) (by rw [bt_and (g32 j b.1 b.2), h j b.1 b.2, hb]; rfl)
  obtain ⟨B, hB⟩ := hit_O (KM := dK D) (L := dL D f) (cc := cc) (fs := cc (dF D f)) (ms := cc (dM D f)) (g := dg D) (h _ (by omega) (by omega)) (hW.1 _ (by omega) (by omega)) hI (dg D) 0 (0, 0, fun _ => 0) (by omega) (by have := hW.1 (dF D f) (by omega) (by omega); omega)
  unfold pr1 at hB; rw [if_pos hI] at hB
  have gF := g32 (dF D f) (by omega) (by omega)
  have gM := g32 (dM D f) (by omega) (by omega)
  have bF : bt (rfA D cc f).1 (G (dF D f)) = true := (hB _ gF).1 (by simp only; rw [bt_or gF, bt_1 gF gF]; simp)
  have bM : bt (rfA D cc f).2.1 (G (dM D f)) = true := (hB _ gM).2.1 (by simp only; rw [bt_or gM, bt_1 gM gM]; simp)
  refine Snd_kF _ _ (Snd_up (Snd_up h gF bF) gM bM) fun j hj => ?_
  obtain ⟨b, hb⟩ := hk j hj
  have gj := g32 j b.1 b.2
  exact ⟨gj, (hB _ gj).2.2 j (by simp only; rw [bt_or gj, bt_and gj, h j b.1 b.2, hb]; simp)⟩
theorem Snd_rd1 (hD : WD D) (hW : Wld D G) : ∀ (m f : Nat) (A : (Nat → Int32) × Bool), Snd (dn D) G A.1 → Snd (dn D) G (rd1 D f m A).1
  | 0, f, A, h => h
  | m + 1, f, A, h => by
    rw [rd1]
    by_cases e : fam D f = true
    · rw [if_pos e]; exact Snd_rd1 hD hW m (f + 1) (rfC D A.1 f, A.2 || rfB D A.1 f) (Snd_rf hD hW e h)
    · rw [if_neg e]; exact Snd_rd1 hD hW m (f + 1) A h
theorem Snd_rnd (hD : WD D) (hW : Wld D G) : ∀ (m : Nat) (cc : Nat → Int32), Snd (dn D) G cc → Snd (dn D) G (rnd D m cc)
  | 0, cc, h => h
  | m + 1, cc, h => by
    rw [rnd]; have h2 := Snd_rd1 hD hW (dn D) 1 (cc, false) h
    split
    · exact Snd_rnd hD hW m _ h2
    · exact h2
theorem anyN_iff {f : Nat → Bool} : ∀ (m j : Nat), anyN f j m = true ↔ ∃ i, j ≤ i ∧ i < j + m ∧ f i = true
  | 0, j => by simp [anyN]; intro x h1 h2; omega
  | m + 1, j => by
    rw [anyN, Bool.or_eq_true, anyN_iff m (j + 1)]
    constructor
    · rintro (h | ⟨i, h1, h2, h3⟩)
      · exact ⟨j, by omega, by omega, h⟩
      · exact ⟨i, by omega, by omega, h3⟩
    · rintro ⟨i, h1, h2, h3⟩
      by_cases e : i = j
      · subst e; exact Or.inl h3
      · exact Or.inr ⟨i, by omega, by omega, h3⟩
theorem emp_iff {n : Nat} : emp cc n = true ↔ ∃ i, 1 ≤ i ∧ i ≤ n ∧ cc i = 0 := by
  unfold emp; rw [anyN_iff]
  constructor
  · rintro ⟨i, h1, h2, h3⟩; exact ⟨i, h1, by omega, of_decide_eq_true h3⟩
  · rintro ⟨i, h1, h2, h3⟩; exact ⟨i, h1, by omega, decide_eq_true h3⟩
theorem emp_snd (h : Snd (dn D) G cc) (hg : ∀ i, 1 ≤ i → i ≤ dn D → G i < 32) : emp cc (dn D) = false := by
  cases e : emp cc (dn D) with
  | false => rfl
  | true =>
    obtain ⟨i, h1, h2, h3⟩ := emp_iff.mp e
    exact absurd h3 (bt_nz (hg i h1 h2) (h i h1 h2))
end G

section HH
variable {s s' : St} {x y a b c d : Int32} {cc cc' : Nat → Int32} {A : Int32}
def gcn (A : Int32) : Int32 := if A = 2 then 3 else if A = 3 then 6 else 10
def gfm (A : Int32) : Int32 := if A = 2 then 7 else if A = 3 then 63 else 1023
def gA (A : Int32) : Nat → Int32 := sA (ini0 A 1) 8
def gB (A : Int32) : Nat → Int32 := sA (ini0 A 1) 9
def gI (A : Int32) : Nat → Int32 := sA (ini0 A 1) 10
def gK (A : Int32) : Nat → Int32 := sA (ini0 A 1) 11
def A4 (A : Int32) : Prop := A = 2 ∨ A = 3 ∨ A = 4
def Tb (s : St) (A : Int32) : Prop := A4 A ∧ sI s 0 = A ∧ sI s 1 = gcn A ∧ sI s 2 = gfm A ∧ sA s 8 = gA A ∧ sA s 9 = gB A ∧ sA s 10 = gI A ∧ sA s 11 = gK A
theorem Tb.of (h : Tb s A) (h0 : sI s' 0 = sI s 0) (h1 : sI s' 1 = sI s 1) (h2 : sI s' 2 = sI s 2) (a8 : sA s' 8 = sA s 8) (a9 : sA s' 9 = sA s 9) (a10 : sA s' 10 = sA s 10) (a11 : sA s' 11 = sA s 11) : Tb s' A := by
  unfold Tb; rw [h0, h1, h2, a8, a9, a10, a11]; exact h
theorem ini_I {g : Int32} {t : Nat} (ht : t = 8 ∨ t = 9 ∨ t = 10 ∨ t = 11) (hA : A4 A) : sA (ini0 A g) t = sA (ini0 A 1) t := by
  rcases hA with rfl | rfl | rfl <;> funext i <;> rcases ht with rfl | rfl | rfl | rfl <;> rfl
theorem Tb_ini {g : Int32} (hA : A4 A) : Tb (ini0 A g) A := by
  refine ⟨hA, ?_, ?_, ?_, ini_I (by simp) hA, ini_I (by simp) hA, ini_I (by simp) hA, ini_I (by simp) hA⟩ <;> rcases hA with rfl | rfl | rfl <;> rfl
theorem gi_rg {u v : Nat} (hA : A4 A) (hu : 1 ≤ u ∧ (u : Int) ≤ A.toInt) (hv : 1 ≤ v ∧ (v : Int) ≤ A.toInt) : (0 ≤ (gI A (u * 5 + v)).toInt ∧ (gI A (u * 5 + v)).toInt < (gcn A).toInt) ∧ gA A (gI A (u * 5 + v)).toNatClampNeg = Int32.ofNat (min u v) ∧ gB A (gI A (u * 5 + v)).toNatClampNeg = Int32.ofNat (max u v) ∧ gI A (v * 5 + u) = gI A (u * 5 + v) := by
  have k2 : ∀ u v : Fin 3, 1 ≤ u.val → 1 ≤ v.val → (0 ≤ (gI 2 (u * 5 + v)).toInt ∧ (gI 2 (u * 5 + v)).toInt < (gcn 2).toInt) ∧ gA 2 (gI 2 (u * 5 + v)).toNatClampNeg = Int32.ofNat (min u v) ∧ gB 2 (gI 2 (u * 5 + v)).toNatClampNeg = Int32.ofNat (max u v) ∧ gI 2 (v * 5 + u) = gI 2 (u * 5 + v) := by decide +kernel
  have k3 : ∀ u v : Fin 4, 1 ≤ u.val → 1 ≤ v.val → (0 ≤ (gI 3 (u * 5 + v)).toInt ∧ (gI 3 (u * 5 + v)).toInt < (gcn 3).toInt) ∧ gA 3 (gI 3 (u * 5 + v)).toNatClampNeg = Int32.ofNat (min u v) ∧ gB 3 (gI 3 (u * 5 + v)).toNatClampNeg = Int32.ofNat (max u v) ∧ gI 3 (v * 5 + u) = gI 3 (u * 5 + v) := by decide +kernel
  have k4 : ∀ u v : Fin 5, 1 ≤ u.val → 1 ≤ v.val → (0 ≤ (gI 4 (u * 5 + v)).toInt ∧ (gI 4 (u * 5 + v)).toInt < (gcn 4).toInt) ∧ gA 4 (gI 4 (u * 5 + v)).toNatClampNeg = Int32.ofNat (min u v) ∧ gB 4 (gI 4 (u * 5 + v)).toNatClampNeg = Int32.ofNat (max u v) ∧ gI 4 (v * 5 + u) = gI 4 (u * 5 + v) := by decide +kernel
  rcases hA with rfl | rfl | rfl <;> simp only [Int32.reduceToInt] at hu hv
  · exact k2 ⟨u, by omega⟩ ⟨v, by omega⟩ hu.1 hv.1
  · exact k3 ⟨u, by omega⟩ ⟨v, by omega⟩ hu.1 hv.1
  · exact k4 ⟨u, by omega⟩ ⟨v, by omega⟩ hu.1 hv.1
theorem cm_bit {X Y : Nat → Int32} {h : Nat} (hh : h < 32) : ∀ (m : Nat) (g mask : Int32), 0 ≤ g.toInt → g.toInt + m ≤ 31 →
    bt (cm X Y b c m g mask) h = (bt mask h || (decide (g.toNatClampNeg ≤ h ∧ h < g.toNatClampNeg + m) && cp (X h) (Y h) (X b.toNatClampNeg) (Y b.toNatClampNeg) (X c.toNatClampNeg) (Y c.toNatClampNeg)))
  | 0, g, mask, h0, h1 => by rw [cm, decide_eq_false (by omega)]; simp
  | m + 1, g, mask, h0, h1 => by
    have h4 : (g + 1).toInt = g.toInt + 1 := ia (by simp only [Int32.reduceToInt]; omega) (by simp only [Int32.reduceToInt]; omega)
    have h5 : (g + 1).toNatClampNeg = g.toNatClampNeg + 1 := by rw [cln, cln]; omega
    have og := ofn (i := g) (by omega)
    rw [cm, cm_bit hh m (g + 1) _ (by omega) (by omega), h5]
    by_cases e : h = g.toNatClampNeg
    · subst e
      rw [decide_eq_false (by omega), decide_eq_true (by omega)]
      have b1 := bt_1 hh hh; rw [og] at b1
      cases ecp : cp (X g.toNatClampNeg) (Y g.toNatClampNeg) (X b.toNatClampNeg) (Y b.toNatClampNeg) (X c.toNatClampNeg) (Y c.toNatClampNeg) with
      | true => rw [if_pos rfl, bt_or hh, b1]; simp
      | false => rw [if_neg (by decide)]; simp
    · have e2 : decide (g.toNatClampNeg + 1 ≤ h ∧ h < g.toNatClampNeg + 1 + m) = decide (g.toNatClampNeg ≤ h ∧ h < g.toNatClampNeg + (m + 1)) := decide_eq_decide.mpr (by omega)
      rw [e2]
      have b1 := bt_1 (g := g.toNatClampNeg) (h := h) (by rw [cln]; omega) hh; rw [og, decide_eq_false e] at b1
      split
      · rw [bt_or hh, b1, Bool.or_false]
      · rfl
theorem cp_ok {a b c d x y : Nat} (ha : 1 ≤ a ∧ a ≤ 4) (hb : 1 ≤ b ∧ b ≤ 4) (hc : 1 ≤ c ∧ c ≤ 4) (hd : 1 ≤ d ∧ d ≤ 4) (hx : x = a ∨ x = b) (hy : y = c ∨ y = d) : cp (Int32.ofNat (min x y)) (Int32.ofNat (max x y)) (Int32.ofNat (min a b)) (Int32.ofNat (max a b)) (Int32.ofNat (min c d)) (Int32.ofNat (max c d)) = true := by
  have key : ∀ (a b c d : Fin 5) (u v : Bool), cp (Int32.ofNat (min (if u then a.val else b.val) (if v then c.val else d.val))) (Int32.ofNat (max (if u then a.val else b.val) (if v then c.val else d.val))) (Int32.ofNat (min a.val b.val)) (Int32.ofNat (max a.val b.val)) (Int32.ofNat (min c.val d.val)) (Int32.ofNat (max c.val d.val)) = true := by decide +kernel
  have k := fun u v => key ⟨a, by omega⟩ ⟨b, by omega⟩ ⟨c, by omega⟩ ⟨d, by omega⟩ u v
  rcases hx with rfl | rfl <;> rcases hy with rfl | rfl
  · exact k true true
  · exact k true false
  · exact k false true
  · exact k false false
theorem gcn_rg (hA : A4 A) : 3 ≤ (gcn A).toInt ∧ (gcn A).toInt ≤ 10 ∧ 2 ≤ A.toInt ∧ A.toInt ≤ 4 := by rcases hA with rfl | rfl | rfl <;> decide
theorem gK_cm (hA : A4 A) {u v : Nat} (hu : (u : Int) < (gcn A).toInt) (hv : (v : Int) < (gcn A).toInt) : gK A (u * 10 + v) = cm (gA A) (gB A) (Int32.ofNat u) (Int32.ofNat v) (gcn A).toInt.toNat 0 0 := by
  have hr := gcn_rg hA
  have e1 : (u * 10 + v) / 10 = u := by omega
  have e2 : (u * 10 + v) % 10 = v := by omega
  have hs : ∀ s : St, sA s 11 (u * 10 + v) = sA s 11 (u * 10 + v) := fun _ => rfl
  have h0 : gK A (u * 10 + v) = sA (km (bg A (uI (uI z0 0 A) 3 1)) 0 0) 11 (u * 10 + v) := by rcases hA with rfl | rfl | rfl <;> rfl
  have h1 : (sI (bg A (uI (uI z0 0 A) 3 1)) 1) = gcn A := by rcases hA with rfl | rfl | rfl <;> rfl
  have h8 : sA (bg A (uI (uI z0 0 A) 3 1)) 8 = gA A := by rcases hA with rfl | rfl | rfl <;> rfl
  have h9 : sA (bg A (uI (uI z0 0 A) 3 1)) 9 = gB A := by rcases hA with rfl | rfl | rfl <;> rfl
  rw [h0, sA_km, h1, h8, h9, e1, e2, if_pos (by omega)]
theorem kid_ok (hA : A4 A) {a b c d x y : Nat} (ha : 1 ≤ a ∧ (a : Int) ≤ A.toInt) (hb : 1 ≤ b ∧ (b : Int) ≤ A.toInt) (hc : 1 ≤ c ∧ (c : Int) ≤ A.toInt) (hd : 1 ≤ d ∧ (d : Int) ≤ A.toInt) (hx : x = a ∨ x = b) (hy : y = c ∨ y = d) :
    bt (gK A ((gI A (a * 5 + b)).toNatClampNeg * 10 + (gI A (c * 5 + d)).toNatClampNeg)) (gI A (x * 5 + y)).toNatClampNeg = true := by
  have hr := gcn_rg hA
  have q1 := gi_rg hA ha hb
  have q2 := gi_rg hA hc hd
  have hx' : 1 ≤ x ∧ (x : Int) ≤ A.toInt := by rcases hx with rfl | rfl <;> assumption
  have hy' : 1 ≤ y ∧ (y : Int) ≤ A.toInt := by rcases hy with rfl | rfl <;> assumption
  have q3 := gi_rg hA hx' hy'
  have l1 : (((gI A (a * 5 + b)).toNatClampNeg : Nat) : Int) < (gcn A).toInt := by rw [cln]; omega
  have l2 : (((gI A (c * 5 + d)).toNatClampNeg : Nat) : Int) < (gcn A).toInt := by rw [cln]; omega
  have l3 : (((gI A (x * 5 + y)).toNatClampNeg : Nat) : Int) < (gcn A).toInt := by rw [cln]; omega
  rw [gK_cm hA l1 l2, cm_bit (by omega) _ _ _ (by decide) (by simp only [Int32.reduceToInt]; omega)]
  rw [show (0 : Int32).toNatClampNeg = 0 from rfl, decide_eq_true (by omega), ofn (by omega), ofn (by omega), q1.2.1, q1.2.2.1, q2.2.1, q2.2.2.1, q3.2.1, q3.2.2.1]
  rw [cp_ok (by omega) (by omega) (by omega) (by omega) hx hy]; simp
def Ob (s : St) : Prop := ∀ i, 1 ≤ i → i ≤ nN s → -1 ≤ (sA s 4 i).toInt ∧ (sA s 4 i).toInt < (sI s 1).toInt
def Dv (s : St) : Prop := (sI s 12 = 0 ∨ sI s 12 = 1) ∧ (¬ sI s 12 = 0 → ∀ i, 1 ≤ i → i ≤ nN s → Dp s i)
def Iv (s : St) (A : Int32) : Prop := Ev s ∧ Tb s A ∧ Ob s ∧ Dv s
theorem al_in (hE : Ev s) (h : ∀ i, 1 ≤ i → i ≤ nN s → Dp s i) : ∀ (m i : Nat), i ≤ m → 1 ≤ i → i ≤ nN s → (1 ≤ (sA s 5 i).toInt ∧ (sA s 5 i).toInt ≤ (sI s 0).toInt) ∧ (1 ≤ (sA s 6 i).toInt ∧ (sA s 6 i).toInt ≤ (sI s 0).toInt)
  | 0, i, h0, h1, h2 => by omega
  | m + 1, i, h0, h1, h2 => by
    have hd := h i h1 h2
    by_cases e : sA s 2 i = 0
    · exact hd.1 e
    · have r := (hE.2.2.2 i h1 h2).resolve_left (fun q => e q.1)
      have f := al_in hE h m (sA s 2 i).toNatClampNeg (by rw [cln]; omega) (by rw [cln]; omega) (by rw [cln]; omega)
      have g := al_in hE h m (sA s 3 i).toNatClampNeg (by rw [cln]; omega) (by rw [cln]; omega) (by rw [cln]; omega)
      obtain ⟨x1, x2⟩ := hd.2 e
      refine ⟨?_, ?_⟩
      · rcases x1 with x1 | x1 <;> rw [x1]; exact f.1; exact f.2
      · rcases x2 with x2 | x2 <;> rw [x2]; exact g.1; exact g.2
theorem Iv.al (h : Iv s A) (hv : ¬ sI s 12 = 0) {i : Nat} (h1 : 1 ≤ i) (h2 : i ≤ nN s) : (1 ≤ (sA s 5 i).toInt ∧ (sA s 5 i).toInt ≤ A.toInt) ∧ (1 ≤ (sA s 6 i).toInt ∧ (sA s 6 i).toInt ≤ A.toInt) := by
  have := al_in h.1 (h.2.2.2.2 hv) i i (Nat.le_refl _) h1 h2
  rw [h.2.1.2.1] at this; exact this
theorem Iv.al4 (h : Iv s A) (hv : ¬ sI s 12 = 0) : ∀ j, 1 ≤ j → j ≤ nN s → (0 ≤ (sA s 5 j).toInt ∧ (sA s 5 j).toInt ≤ 4) ∧ (0 ≤ (sA s 6 j).toInt ∧ (sA s 6 j).toInt ≤ 4) := fun j h1 h2 => by
  have := h.al hv h1 h2; have := gcn_rg h.2.1.1; omega
def gD (s : St) (i : Nat) : Nat := (sA s 10 (sA s 5 i * 5 + sA s 6 i).toNatClampNeg).toNatClampNeg
theorem gi_i (hT : Tb s A) {u v : Int32} (hu : 1 ≤ u.toInt ∧ u.toInt ≤ A.toInt) (hv : 1 ≤ v.toInt ∧ v.toInt ≤ A.toInt) : sA s 10 (u * 5 + v).toNatClampNeg = gI A (u.toNatClampNeg * 5 + v.toNatClampNeg) ∧ (0 ≤ (sA s 10 (u * 5 + v).toNatClampNeg).toInt ∧ (sA s 10 (u * 5 + v).toNatClampNeg).toInt < (sI s 1).toInt) := by
  have hr := gcn_rg hT.1
  rw [(ix5 (u := u) (v := v) (by omega) (by omega)).2, hT.2.2.2.2.2.2.1, hT.2.2.1]
  exact ⟨rfl, (gi_rg hT.1 (by rw [cln]; omega) (by rw [cln]; omega)).1⟩
theorem Iv.wld (h : Iv s A) (hv : ¬ sI s 12 = 0) : Wld (dt s) (gD s) := by
  have hT := h.2.1
  have hr := gcn_rg hT.1
  have gg : dg (dt s) = (gcn A).toInt.toNat := by show gN s = _; unfold gN; rw [hT.2.2.1]
  refine ⟨fun i h1 h2 => ?_, fun i h1 h2 h3 => ?_⟩
  · have a := h.al hv h1 h2
    have := (gi_i hT a.1 a.2).2
    unfold gD; rw [gg, cln]; rw [hT.2.2.1] at this; omega
  · have a := h.al hv h1 h2
    have r := h.1.wd.2.2 i h1 h2 h3
    have h2' : i ≤ nN s := h2
    have f := h.al hv (i := dF (dt s) i) (by omega) (by omega)
    have m := h.al hv (i := dM (dt s) i) (by omega) (by omega)
    obtain ⟨x1, x2⟩ := (h.2.2.2.2 hv i h1 h2).2 h3
    have x1' : sA s 5 i = sA s 5 (dF (dt s) i) ∨ sA s 5 i = sA s 6 (dF (dt s) i) := x1
    have x2' : sA s 6 i = sA s 5 (dM (dt s) i) ∨ sA s 6 i = sA s 6 (dM (dt s) i) := x2
    unfold gD
    rw [(gi_i hT a.1 a.2).1, (gi_i hT f.1 f.2).1, (gi_i hT m.1 m.2).1]
    show bt (sA s 11 _) _ = true
    rw [hT.2.2.2.2.2.2.2]
    exact kid_ok hT.1 (by rw [cln]; omega) (by rw [cln]; omega) (by rw [cln]; omega) (by rw [cln]; omega) (by rcases x1' with e | e <;> rw [e]; exact Or.inl rfl; exact Or.inr rfl) (by rcases x2' with e | e <;> rw [e]; exact Or.inl rfl; exact Or.inr rfl)
theorem gfm_bt (hA : A4 A) {g : Nat} (hg : (g : Int) < (gcn A).toInt) : bt (gfm A) g = true := by
  have k2 : ∀ g : Fin 3, bt (gfm 2) g.val = true := by decide +kernel
  have k3 : ∀ g : Fin 6, bt (gfm 3) g.val = true := by decide +kernel
  have k4 : ∀ g : Fin 10, bt (gfm 4) g.val = true := by decide +kernel
  rcases hA with rfl | rfl | rfl
  · exact k2 ⟨g, by have : (gcn 2).toInt = 3 := by decide
                    omega⟩
  · exact k3 ⟨g, by have : (gcn 3).toInt = 6 := by decide
                    omega⟩
  · exact k4 ⟨g, by have : (gcn 4).toInt = 10 := by decide
                    omega⟩
theorem gfm_lw (hA : A4 A) {g : Nat} (h0 : 10 ≤ g) (hg : g < 32) : bt (gfm A) g = false := by
  have k2 : ∀ g : Fin 32, 10 ≤ g.val → bt (gfm 2) g.val = false := by decide +kernel
  have k3 : ∀ g : Fin 32, 10 ≤ g.val → bt (gfm 3) g.val = false := by decide +kernel
  have k4 : ∀ g : Fin 32, 10 ≤ g.val → bt (gfm 4) g.val = false := by decide +kernel
  rcases hA with rfl | rfl | rfl
  · exact k2 ⟨g, hg⟩ h0
  · exact k3 ⟨g, hg⟩ h0
  · exact k4 ⟨g, hg⟩ h0
theorem gfm_cnt (hA : A4 A) : (cnt (bt (gfm A)) 0 10 : Int) = (gcn A).toInt := by
  rcases hA with rfl | rfl | rfl <;> decide +kernel
theorem cnt_mono {f g : Nat → Bool} : ∀ (m j : Nat), (∀ i, j ≤ i → i < j + m → f i = true → g i = true) → cnt f j m ≤ cnt g j m
  | 0, j, h => Nat.le_refl _
  | m + 1, j, h => by
    rw [cnt, cnt]; have := cnt_mono m (j + 1) fun i h1 h2 h3 => h i (by omega) (by omega) h3
    by_cases e : f j = true
    · rw [if_pos e, if_pos (h j (by omega) (by omega) e)]; omega
    · rw [if_neg e]; omega
theorem cnt_pos {f : Nat → Bool} {i : Nat} : ∀ (m j : Nat), j ≤ i → i < j + m → f i = true → 1 ≤ cnt f j m
  | 0, j, h1, h2, _ => by omega
  | m + 1, j, h1, h2, h3 => by
    rw [cnt]
    by_cases e : j = i
    · subst e; rw [if_pos h3]; omega
    · have := cnt_pos m (j + 1) (by omega) (by omega) h3; omega
theorem iv_obs {obs : Nat → Int32} {full : Int32} {i g : Nat} (h0 : 0 ≤ (obs i).toInt ∧ (obs i).toInt < 32) (hg : g < 32) : bt (iv obs full i) g = decide (g = (obs i).toNatClampNeg) := by
  unfold iv; rw [if_neg (by rw [lt32]; simp only [Int32.reduceToInt]; omega)]
  have := bt_1 (g := (obs i).toNatClampNeg) (h := g) (by rw [cln]; omega) hg
  rw [ofn (by omega)] at this; exact this
theorem iv_ok (h : Iv s A) {i : Nat} (h1 : 1 ≤ i) (h2 : i ≤ nN s) : (∀ g, 10 ≤ g → g < 32 → bt (iv (sA s 4) (sI s 2) i) g = false) ∧ (cnt (bt (iv (sA s 4) (sI s 2) i)) 0 10 : Int) ≤ (gcn A).toInt ∧ (0 ≤ (sA s 4 i).toInt → cnt (bt (iv (sA s 4) (sI s 2) i)) 0 10 ≤ 1) := by
  obtain ⟨hE, hT, hO, hD⟩ := h
  have hr := gcn_rg hT.1
  have o := hO i h1 h2
  rw [hT.2.2.1] at o
  by_cases e : 0 ≤ (sA s 4 i).toInt
  · have hb := fun (g : Nat) (hg : g < 32) => iv_obs (obs := sA s 4) (full := sI s 2) (i := i) (g := g) (by omega) hg
    have c1 : cnt (bt (iv (sA s 4) (sI s 2) i)) 0 10 ≤ 1 := by
      have : cnt (bt (iv (sA s 4) (sI s 2) i)) 0 10 = 1 := cnt_one (x := (sA s 4 i).toNatClampNeg) _ _ (by omega) (by rw [cln]; omega) (by rw [hb _ (by rw [cln]; omega)]; exact decide_eq_true rfl) fun g a b c => by rw [hb _ (by omega)]; exact decide_eq_false c
      omega
    exact ⟨fun g a b => by rw [hb g b]; exact decide_eq_false (by rw [cln]; omega), by omega, fun _ => c1⟩
  · have e1 : iv (sA s 4) (sI s 2) i = gfm A := by unfold iv; rw [if_pos (by rw [lt32]; simp only [Int32.reduceToInt]; omega), hT.2.2.2.1]
    rw [e1]
    exact ⟨fun g a b => gfm_lw hT.1 a b, by rw [gfm_cnt hT.1]; exact Int.le_refl _, fun z => absurd z e⟩
theorem c0_i {i : Nat} (h1 : 1 ≤ i) (h2 : i ≤ nN s) : c0 s i = iv (sA s 4) (sI s 2) i := by unfold c0 li; rw [if_pos ⟨h1, h2⟩]
theorem el_sub : Sub (c0 s) (elC s) := Sub_rnd 330 _
theorem el_ok (h : Iv s A) {i : Nat} (h1 : 1 ≤ i) (h2 : i ≤ nN s) : (∀ g, 10 ≤ g → g < 32 → bt (elC s i) g = false) ∧ (cnt (bt (elC s i)) 0 10 : Int) ≤ (gcn A).toInt ∧ (0 ≤ (sA s 4 i).toInt → cnt (bt (elC s i)) 0 10 ≤ 1) := by
  obtain ⟨a, b, c⟩ := iv_ok h h1 h2
  have hs : ∀ g, g < 32 → bt (elC s i) g = true → bt (iv (sA s 4) (sI s 2) i) g = true := fun g hg hb => by
    have := Sub_bt (el_sub (s := s)) hg hb; rw [c0_i h1 h2] at this; exact this
  have hm : cnt (bt (elC s i)) 0 10 ≤ cnt (bt (iv (sA s 4) (sI s 2) i)) 0 10 := cnt_mono _ _ fun g a b c => hs g (by omega) c
  refine ⟨fun g x y => ?_, by omega, fun z => Nat.le_trans hm (c z)⟩
  cases q : bt (elC s i) g with
  | false => rfl
  | true => have := hs g y q; rw [a g x y] at this; cases this
theorem el_true (h : Iv s A) (hv : ¬ sI s 12 = 0) (ho : ∀ i, 1 ≤ i → i ≤ nN s → sA s 4 i = -1 ∨ (sA s 4 i).toInt = gD s i) : elB s = false ∧ elS s = 1 ∧ elF s = 0 ∧ ∀ i, 1 ≤ i → i ≤ nN s → bt (elC s i) (gD s i) = true ∧ gD s i < 10 := by
  have hW := h.wld hv
  have hwd := h.1.wd
  have hT := h.2.1
  have hr := gcn_rg hT.1
  have g10 : ∀ i, 1 ≤ i → i ≤ nN s → gD s i < 10 := fun i a b => by have := hW.1 i a b; have := hwd.2.1; omega
  have s0 : Snd (dn (dt s)) (gD s) (c0 s) := fun i a b => by
    have b' : i ≤ nN s := b
    rw [c0_i a b']
    rcases ho i a b' with e | e
    · unfold iv; rw [if_pos (by rw [e]; decide), hT.2.2.2.1]
      exact gfm_bt hT.1 (by have := hW.1 i a b; have gg : dg (dt s) = (gcn A).toInt.toNat := by show gN s = _; unfold gN; rw [hT.2.2.1]
                            omega)
    · have := g10 i a b'
      rw [iv_obs (by omega) (by omega)]; exact decide_eq_true (by rw [cln]; omega)
  have s1 := Snd_rnd hwd hW 330 (c0 s) s0
  have eb : elB s = false := emp_snd s1 fun i a b => by have := g10 i a b; omega
  exact ⟨eb, by unfold elS; rw [eb]; rfl, by unfold elF; rw [eb]; rfl, fun i a b => ⟨s1 i a b, g10 i a b⟩⟩
end HH

section II
variable {s s' z : St} {x y a b c d v w : Int32} {A i : Int32}
theorem Iv_of (h : Iv s A) (hI : ∀ x, x = 0 ∨ x = 1 ∨ x = 2 ∨ x = 4 → sI s' x = sI s x) (hA : ∀ t, t = 2 ∨ t = 3 ∨ t = 8 ∨ t = 9 ∨ t = 10 ∨ t = 11 → sA s' t = sA s t) (hO : Ob s') (hD : Dv s') : Iv s' A :=
  ⟨h.1.of (hI 0 (by simp)) (hI 1 (by simp)) (hI 4 (by simp)) (hA 2 (by simp)) (hA 3 (by simp)), h.2.1.of (hI 0 (by simp)) (hI 1 (by simp)) (hI 2 (by simp)) (hA 8 (by simp)) (hA 9 (by simp)) (hA 10 (by simp)) (hA 11 (by simp)), hO, hD⟩
theorem Ob_of (h : Ob s) (h1 : sI s' 1 = sI s 1) (h4 : sI s' 4 = sI s 4) (a4 : sA s' 4 = sA s 4) : Ob s' := by unfold Ob nN at *; rw [h1, h4, a4]; exact h
theorem Dp_of' {j : Nat} (h0 : sI s' 0 = sI s 0) (h : ∀ t, t = 2 ∨ t = 3 ∨ t = 5 ∨ t = 6 → sA s' t = sA s t) (hd : Dp s j) : Dp s' j := by
  unfold Dp; rw [h0, h 2 (by simp), h 3 (by simp), h 5 (by simp), h 6 (by simp)]; exact hd
theorem Dv_of (h : Dv s) (h0 : sI s' 0 = sI s 0) (h4 : sI s' 4 = sI s 4) (h12 : sI s' 12 = sI s 12) (hA : ∀ t, t = 2 ∨ t = 3 ∨ t = 5 ∨ t = 6 → sA s' t = sA s t) : Dv s' := by
  unfold Dv; rw [h12]; refine ⟨h.1, fun q j a b => Dp_of' h0 hA (h.2 q j a ?_)⟩
  unfold nN at *; rw [h4] at b; exact b
theorem Iv_sd (h : Iv s A) : Iv (uI s 3 v) A :=
  Iv_of h (fun x hx => by rw [sI_uI, if_neg (by omega)]) (fun t _ => sA_fI) (Ob_of h.2.2.1 (by rw [sI_uI, if_neg (by decide)]) (by rw [sI_uI, if_neg (by decide)]) sA_fI) (Dv_of h.2.2.2 (by rw [sI_uI, if_neg (by decide)]) (by rw [sI_uI, if_neg (by decide)]) (by rw [sI_uI, if_neg (by decide)]) fun t _ => sA_fI)
def oS (s : St) (j : Nat) (v : Int32) : St := uI (uA s 4 j v) 13 0
theorem oS_I {x : Nat} (hx : x ≠ 13) : sI (oS s b.toNatClampNeg v) x = sI s x := by unfold oS; rw [sI_uI, if_neg hx, sI_uA]
theorem oS_13 {j : Nat} : sI (oS s j v) 13 = 0 := by unfold oS; rw [sI_uI, if_pos rfl]
theorem oS_A {t j : Nat} (ht : t ≠ 4) : sA (oS s j v) t = sA s t := by unfold oS; rw [sA_fI, sA_fun ht]
theorem oS_4 {j : Nat} : sA (oS s j v) 4 = up (sA s 4) j v := by unfold oS; rw [sA_fI, sA_up]
theorem Iv_oS (h : Iv s A) (hv : -1 ≤ v.toInt ∧ v.toInt < (sI s 1).toInt) : Iv (oS s b.toNatClampNeg v) A := by
  refine Iv_of h (fun x hx => oS_I (by omega)) (fun t ht => oS_A (by omega)) (fun j h1 h2 => ?_) (Dv_of h.2.2.2 (oS_I (by decide)) (oS_I (by decide)) (oS_I (by decide)) fun t ht => oS_A (by omega))
  rw [oS_I (by decide), oS_4]; unfold up
  split
  · exact hv
  · refine h.2.2.1 j h1 ?_
    unfold nN at *; rw [oS_I (by decide)] at h2; exact h2
theorem Iv_ob (h : Iv s A) : Iv (obS s i a b) A := by
  unfold obS; split
  · rename_i e
    have e1 : vid s i = true ∧ val s a = true ∧ val s b = true := by
      unfold obR at e; split at e
      · cases e
      · split at e
        · rename_i q1 q2; exact ⟨by simpa using q1, q2⟩
        · cases e
    have r1 := val_rg h.1 e1.2.1
    have r2 := val_rg h.1 e1.2.2
    have hT := h.2.1
    rw [hT.2.1] at r1 r2
    have := (gi_i hT (u := a) (v := b) (by omega) (by omega)).2
    exact Iv_oS h (by omega)
  · exact h
theorem Iv_un (h : Iv s A) : Iv (unS s i) A := by
  unfold unS; split
  · refine Iv_oS h ?_
    have := gcn_rg h.2.1.1; rw [h.2.1.2.2.1]; simp only [Int32.reduceToInt]; omega
  · exact h
theorem Iv_od (h : Iv s A) : Iv (odS s i) A := by
  unfold odS; split
  · rename_i e
    have e1 : vid s i = true ∧ ¬ sI s 12 = 0 := by
      unfold odR at e; split at e
      · cases e
      · split at e
        · cases e
        · rename_i q1 q2; exact ⟨by simpa using q1, q2⟩
    have r := vid_rg e1.1 h.1.1.2
    have al := h.al e1.2 (i := i.toNatClampNeg) (by rw [cln]; omega) (by have := (nN_le h.1).2; rw [cln]; omega)
    have := (gi_i h.2.1 al.1 al.2).2
    exact Iv_oS h (by omega)
  · exact h
theorem Iv_dr (h : Iv s A) (hz : Sp s z) (hd : ∀ j, 1 ≤ j → j ≤ nN s → Dp z j) : Iv (uI z 12 1) A := by
  refine Iv_of h (fun x hx => by rw [sI_uI, if_neg (by omega), hz.1 x (by omega)]) (fun t ht => by rw [sA_fI, hz.2.2.1 t (by omega) (by omega)]) (Ob_of h.2.2.1 (by rw [sI_uI, if_neg (by decide), hz.1 _ (by decide)]) (by rw [sI_uI, if_neg (by decide), hz.1 _ (by decide)]) (by rw [sA_fI, hz.2.2.1 _ (by decide) (by decide)])) ⟨Or.inr (by rw [sI_uI, if_pos rfl]), fun _ j a b => ?_⟩
  refine Dp_of' (s := z) (by rw [sI_uI, if_neg (by decide)]) (fun t _ => sA_fI) (hd j a ?_)
  unfold nN at *; rw [sI_uI, if_neg (by decide), hz.1 _ (by decide)] at b; exact b
def eS (z : St) (u v : Int32) : St := uI (uI (uI z 14 u) 15 v) 13 1
theorem eS_I {x : Nat} {u v : Int32} (hx : x ≠ 13 ∧ x ≠ 14 ∧ x ≠ 15) : sI (eS z u v) x = sI z x := by unfold eS; rw [sI_uI, if_neg hx.1, sI_uI, if_neg hx.2.2, sI_uI, if_neg hx.2.1]
theorem eS_A {t : Nat} {u v : Int32} : sA (eS z u v) t = sA z t := by unfold eS; rw [sA_fI, sA_fI, sA_fI]
theorem eS_f {u v : Int32} : sI (eS z u v) 13 = 1 ∧ sI (eS z u v) 14 = u ∧ sI (eS z u v) 15 = v := by unfold eS; simp +decide only [sI_uI, ↓reduceIte, and_self]
theorem Iv_el {u v : Int32} (h : Iv s A) (hz : Sr s z) : Iv (eS z u v) A :=
  Iv_of h (fun x hx => by rw [eS_I (by omega), hz.1 x (by omega)]) (fun t ht => by rw [eS_A, hz.2.2.1 t (by omega) (by omega) (by omega)]) (Ob_of h.2.2.1 (by rw [eS_I (by decide), hz.1 _ (by decide)]) (by rw [eS_I (by decide), hz.1 _ (by decide)]) (by rw [eS_A, hz.2.2.1 _ (by decide) (by decide) (by decide)])) (Dv_of h.2.2.2 (by rw [eS_I (by decide), hz.1 _ (by decide)]) (by rw [eS_I (by decide), hz.1 _ (by decide)]) (by rw [eS_I (by decide), hz.1 _ (by decide)]) fun t ht => by rw [eS_A, hz.2.2.1 t (by omega) (by omega) (by omega)])
theorem ad_f (hE : Ev s) (h : ¬ adR s a b c < 0) : (sI s 4).toInt < 32 ∧ (a = 1 ∨ a = 2) ∧ ((b = 0 ∧ c = 0) ∨ (¬ b = 0 ∧ (1 ≤ b.toInt ∧ b.toInt ≤ (sI s 4).toInt) ∧ (1 ≤ c.toInt ∧ c.toInt ≤ (sI s 4).toInt))) ∧ adR s a b c = sI s 4 + 1 := by
  unfold adR at h ⊢
  by_cases h1 : sI s 4 < 32
  rotate_left
  · rw [if_pos h1] at h; exact absurd (by decide) h
  rw [if_neg (fun q => q h1)] at h ⊢
  by_cases h2 : ¬ a = 1 ∧ ¬ a = 2
  · rw [if_pos h2] at h; exact absurd (by decide) h
  rw [if_neg h2] at h ⊢
  by_cases h3 : (b = 0 ∧ ¬ c = 0) ∨ (¬ b = 0 ∧ c = 0)
  · rw [if_pos h3] at h; exact absurd (by decide) h
  rw [if_neg h3] at h ⊢
  have ha : a = 1 ∨ a = 2 := by
    by_cases q : a = 1
    · exact Or.inl q
    · exact Or.inr (Decidable.byContradiction fun q2 => h2 ⟨q, q2⟩)
  have h1' : (sI s 4).toInt < 32 := by rw [lt32] at h1; exact h1
  by_cases h4 : b = 0
  · rw [if_pos h4]
    refine ⟨h1', ha, Or.inl ⟨h4, Decidable.byContradiction fun q => h3 (Or.inl ⟨h4, q⟩)⟩, rfl⟩
  rw [if_neg h4] at h ⊢
  by_cases h5 : vid s b = false
  · rw [if_pos h5] at h; exact absurd (by decide) h
  rw [if_neg h5] at h ⊢
  by_cases h6 : vid s c = false
  · rw [if_pos h6] at h; exact absurd (by decide) h
  rw [if_neg h6] at h ⊢
  have r1 := vid_rg (s := s) (a := b) (by simpa using h5) hE.1.2
  have r2 := vid_rg (s := s) (a := c) (by simpa using h6) hE.1.2
  refine ⟨h1', ha, Or.inr ⟨h4, by omega, by omega⟩, ?_⟩
  by_cases h7 : ¬ sA s 1 b.toNatClampNeg = 1
  · rw [if_pos h7] at h; exact absurd (by decide) h
  rw [if_neg h7] at h ⊢
  by_cases h8 : ¬ sA s 1 c.toNatClampNeg = 2
  · rw [if_pos h8] at h; exact absurd (by decide) h
  rw [if_neg h8]
theorem adN_k (hE : Ev s) (h : (sI s 4).toInt < 32) : (sI s 4 + 1).toInt = (sI s 4).toInt + 1 ∧ (sI s 4 + 1).toNatClampNeg = nN s + 1 ∧ nN (adN s a b c) = nN s + 1 := by
  have hn := hE.1
  have e : (sI s 4 + 1).toInt = (sI s 4).toInt + 1 := ia (by simp only [Int32.reduceToInt]; omega) (by simp only [Int32.reduceToInt]; omega)
  have i4 : sI (adN s a b c) 4 = sI s 4 + 1 := by simp +decide only [adN, sI_uI, sI_uA, ↓reduceIte]
  refine ⟨e, by unfold nN; rw [cln]; omega, ?_⟩
  unfold nN; rw [i4]; omega
theorem adN_I {x : Nat} (hx : x ≠ 4 ∧ x ≠ 12 ∧ x ≠ 13) : sI (adN s a b c) x = sI s x := by simp only [adN, sI_uI, sI_uA, hx.1, hx.2.1, hx.2.2, if_false]
theorem adN_f : sI (adN s a b c) 4 = sI s 4 + 1 ∧ sI (adN s a b c) 12 = 0 ∧ sI (adN s a b c) 13 = 0 := by simp +decide only [adN, sI_uI, sI_uA, ↓reduceIte, and_self]
theorem adN_A {t : Nat} (ht : t = 0 ∨ 7 ≤ t) : sA (adN s a b c) t = sA s t := by
  unfold adN; rw [sA_fI, sA_fI, sA_fun (by omega), sA_fun (by omega), sA_fun (by omega), sA_fun (by omega), sA_fun (by omega), sA_fun (by omega), sA_fI]
theorem adN_t : sA (adN s a b c) 1 = up (sA s 1) (sI s 4 + 1).toNatClampNeg a ∧ sA (adN s a b c) 2 = up (sA s 2) (sI s 4 + 1).toNatClampNeg b ∧ sA (adN s a b c) 3 = up (sA s 3) (sI s 4 + 1).toNatClampNeg c ∧ sA (adN s a b c) 4 = up (sA s 4) (sI s 4 + 1).toNatClampNeg (-1) := by
  unfold adN
  refine ⟨?_, ?_, ?_, ?_⟩
  · rw [sA_fI, sA_fI, sA_fun (by decide), sA_fun (by decide), sA_fun (by decide), sA_fun (by decide), sA_fun (by decide), sA_up, sA_fI]
  · rw [sA_fI, sA_fI, sA_fun (by decide), sA_fun (by decide), sA_fun (by decide), sA_fun (by decide), sA_up, sA_fun (by decide), sA_fI]
  · rw [sA_fI, sA_fI, sA_fun (by decide), sA_fun (by decide), sA_fun (by decide), sA_up, sA_fun (by decide), sA_fun (by decide), sA_fI]
  · rw [sA_fI, sA_fI, sA_fun (by decide), sA_fun (by decide), sA_up, sA_fun (by decide), sA_fun (by decide), sA_fun (by decide), sA_fI]
theorem up_i {cc : Nat → Int32} {j : Nat} : up cc j v j = v := by unfold up; rw [if_pos rfl]
theorem up_n {cc : Nat → Int32} {j l : Nat} (h : l ≠ j) : up cc j v l = cc l := by unfold up; rw [if_neg h]
theorem Iv_ad (h : Iv s A) : Iv (adS s a b c) A := by
  unfold adS; split
  · exact h
  rename_i e
  obtain ⟨h1, h2, h3, h4⟩ := ad_f h.1 e
  obtain ⟨k1, k2, k3⟩ := adN_k (a := a) (b := b) (c := c) h.1 h1
  obtain ⟨t1', t2', t3', t4'⟩ := adN_t (s := s) (a := a) (b := b) (c := c)
  obtain ⟨f4, f12, f13⟩ := adN_f (s := s) (a := a) (b := b) (c := c)
  have hn := h.1.1
  obtain ⟨hn1, hn2⟩ := nN_le h.1
  refine ⟨⟨?_, ?_, ?_, fun j a1 a2 => ?_⟩, h.2.1.of (adN_I (by decide)) (adN_I (by decide)) (adN_I (by decide)) (adN_A (by decide)) (adN_A (by decide)) (adN_A (by decide)) (adN_A (by decide)), fun j a1 a2 => ?_, ⟨Or.inl f12, fun q => absurd f12 q⟩⟩
  · rw [f4]; omega
  · rw [adN_I (by decide)]; exact h.1.2.1
  · rw [adN_I (by decide)]; exact h.1.2.2.1
  · rw [k3] at a2
    unfold Par; rw [t2', t3', k2]
    by_cases q : j = nN s + 1
    · subst q; rw [up_i, up_i]
      rcases h3 with ⟨u1, u2⟩ | ⟨u1, u2, u3⟩
      · exact Or.inl ⟨u1, u2⟩
      · exact Or.inr (by omega)
    · rw [up_n q, up_n q]; exact h.1.2.2.2 j a1 (by omega)
  · rw [k3] at a2
    rw [t4', k2, adN_I (by decide)]
    by_cases q : j = nN s + 1
    · subst q; rw [up_i]; have := h.1.2.1; simp only [Int32.reduceToInt]; omega
    · rw [up_n q]; exact h.2.2.1 j a1 (by omega)
theorem nN_0 {g : Int32} (hA : A4 A) : sI (ini0 A g) 4 = 0 ∧ sI (ini0 A g) 12 = 0 ∧ sI (ini0 A g) 13 = 0 := by
  rcases hA with rfl | rfl | rfl <;> exact ⟨rfl, rfl, rfl⟩
theorem Iv_ini {g : Int32} (hA : A4 A) : Iv (ini0 A g) A := by
  obtain ⟨f4, f12, f13⟩ := nN_0 (g := g) hA
  have hT := Tb_ini (g := g) hA
  have hr := gcn_rg hA
  have n0 : nN (ini0 A g) = 0 := by unfold nN; rw [f4]; rfl
  refine ⟨⟨by rw [f4]; decide, by rw [hT.2.2.1]; omega, by rw [hT.2.1]; omega, fun j a b => by omega⟩, hT, fun j a b => by omega, ⟨Or.inl f12, fun q => absurd f12 q⟩⟩
theorem cl_A4 : A4 (cl 2 4 a) := by
  have := cl_rg (lo := 2) (hi := 4) a (by decide)
  unfold A4; simp only [eq32, Int32.reduceToInt] at *; omega
end II

section JJ
variable {lw : LW} {H : AH} {p : Nat} {s s' z : St} {Q : Option Value → AH → Prop} {k n : Nat} {A u v : Int32}
section Sc
variable {cc a len : Nat} {f : Nat → Int32}
theorem sc1 (ha : a < p) : (isA (ob (H1 cc a len f) p s) a = true) = True ∧ alen (ob (H1 cc a len f) p s) a = len ∧ (∀ i, (inA (ob (H1 cc a len f) p s) a .int i = true) = (0 ≤ i.toInt ∧ i.toInt < len)) ∧ ∀ i, elt (ob (H1 cc a len f) p s) a i = .int (f i.toNatClampNeg) := by
  unfold ob
  refine ⟨?_, ?_, fun i => ?_, fun i => ?_⟩
  · rw [isA_ot (Or.inl ha), isA_H1]; exact eq_self _ ▸ rfl
  · rw [alen_ot (Or.inl ha), alen_H1]
  · rw [inA_ot (Or.inl ha)]; exact propext inA_H1
  · rw [elt_ot (Or.inl ha), elt_H1]
theorem H1_c {c N : Nat} : (c, (H1 N a len f).2) = H1 c a len f := rfl
end Sc
theorem eS_all (h : Iv s A) (q1 : Sr s z) (q2 : sA z 7 = elC s) : Iv (eS z u v) A ∧ (∀ x, x ≠ 13 → x ≠ 14 → x ≠ 15 → x ≠ 22 → sI (eS z u v) x = sI s x) ∧ sI (eS z u v) 13 = 1 ∧ sI (eS z u v) 14 = u ∧ sI (eS z u v) 15 = v ∧ sA (eS z u v) 7 = elC s ∧ (∀ t, t ≠ 7 → t ≠ 12 → t ≠ 13 → sA (eS z u v) t = sA s t) ∧ dt (eS z u v) = dt s := by
  refine ⟨Iv_el h q1, fun x h1 h2 h3 h4 => by rw [eS_I ⟨h1, h2, h3⟩, q1.1 x h4], eS_f.1, eS_f.2.1, eS_f.2.2, by rw [eS_A, q2], fun t h1 h2 h3 => by rw [eS_A, q1.2.2.1 t h1 h2 h3], ?_⟩
  rw [← q1.dt]; unfold dt nN gN; rw [eS_A, eS_A, eS_A, eS_I (by decide), eS_I (by decide)]
def Tr (s : St) (i : Nat) : Prop := sA s 4 i = sA s 10 (sA s 5 i * 5 + sA s 6 i).toNatClampNeg
theorem Tr_gD (h : Iv s A) (hv : ¬ sI s 12 = 0) {i : Nat} (h1 : 1 ≤ i) (h2 : i ≤ nN s) (ht : Tr s i) : (sA s 4 i).toInt = gD s i := by
  have a := h.al hv h1 h2
  have := (gi_i h.2.1 a.1 a.2).2
  unfold gD; rw [ht]; generalize sA s 10 (sA s 5 i * 5 + sA s 6 i).toNatClampNeg = q at *; rw [cln]; omega
end JJ

end Jvm.JX.Pj
namespace Jvm.JX.Lw
open Jvm Jvm.ClassFile Sem Op Lib Jvm.JX Jvm.JX.Pj
def lr0 : List Row := [(0, .aload_n 0, 1, 0), (1, .arraylength, 1, 0), (2, .ifCond .le 9, 3, 0), (5, .aload_n 0, 1, 0), (6, .iconst 0, 1, 0), (7, .iaload, 1, 0), (8, .goto 4, 3, 0), (11, .iconst 3, 1, 0), (12, .istore_n 1, 1, 0), (13, .iload_n 1, 1, 0), (14, .iconst 2, 1, 0), (15, .if_icmp .ge 7, 3, 0), (18, .iconst 2, 1, 0), (19, .goto 13, 3, 0), (22, .iload_n 1, 1, 0), (23, .iconst 4, 1, 0), (24, .if_icmp .le 7, 3, 0), (27, .iconst 4, 1, 0), (28, .goto 4, 3, 0), (31, .iload_n 1, 1, 0), (32, .istore_n 2, 1, 0), (33, .new 8, 3, 23), (36, .dup, 1, 0), (37, .iload_n 1, 1, 0), (38, .sipush 4242, 3, 0), (41, .invokespecial 23, 3, 1), (44, .astore_n 3, 1, 0), (45, .iconst 1, 1, 0), (46, .istore 4, 2, 0), (48, .iload 4, 2, 0), (50, .iconst 3, 1, 0), (51, .iadd, 1, 0), (52, .aload_n 0, 1, 0), (53, .arraylength, 1, 0), (54, .if_icmp .ge 252, 3, 0), (57, .aload_n 0, 1, 0), (58, .iload 4, 2, 0), (60, .iaload, 1, 0), (61, .bipush 7, 2, 0), (63, .iand, 1, 0), (64, .istore 5, 2, 0), (66, .aload_n 0, 1, 0), (67, .iload 4, 2, 0), (69, .iconst 1, 1, 0), (70, .iadd, 1, 0), (71, .iaload, 1, 0), (72, .ldc 26, 2, 2147483647), (74, .iand, 1, 0), (75, .istore 6, 2, 0), (77, .aload_n 0, 1, 0), (78, .iload 4, 2, 0), (80, .iconst 2, 1, 0), (81, .iadd, 1, 0), (82, .iaload, 1, 0), (83, .ldc 26, 2, 2147483647), (85, .iand, 1, 0), (86, .istore 7, 2, 0), (88, .aload_n 0, 1, 0), (89, .iload 4, 2, 0), (91, .iconst 3, 1, 0), (92, .iadd, 1, 0), (93, .iaload, 1, 0), (94, .ldc 26, 2, 2147483647), (96, .iand, 1, 0), (97, .istore 8, 2, 0), (99, .aload_n 3, 1, 0), (100, .invokevirtual 27, 3, 34), (103, .istore 9, 2, 0), (105, .iload 6, 2, 0), (107, .iload 9, 2, 0), (109, .iconst 1, 1, 0), (110, .iadd, 1, 0), (111, .irem, 1, 0), (112, .iconst 1, 1, 0), (113, .iadd, 1, 0), (114, .istore 10, 2, 0), (116, .iload 5, 2, 0), (118, .iconst 1, 1, 0), (119, .if_icmp .gt 72, 3, 0), (122, .iload 6, 2, 0), (124, .bipush 15, 2, 0), (126, .iand, 1, 0), (127, .bipush 15, 2, 0), (129, .if_icmp .ne 7, 3, 0), (132, .iconst 0, 1, 0), (133, .goto 9, 3, 0), (136, .iconst 1, 1, 0), (137, .iload 6, 2, 0), (139, .iconst 1, 1, 0), (140, .iand, 1, 0), (141, .iadd, 1, 0), (142, .istore 11, 2, 0), (144, .iconst 0, 1, 0), (145, .istore 12, 2, 0), (147, .iconst 0, 1, 0), (148, .istore 13, 2, 0), (150, .iload 6, 2, 0), (152, .iconst 4, 1, 0), (153, .ishr, 1, 0), (154, .iconst 3, 1, 0), (155, .iand, 1, 0), (156, .ifCond .eq 21, 3, 0), (159, .iload 7, 2, 0), (161, .iload 9, 2, 0), (163, .iconst 2, 1, 0), (164, .iadd, 1, 0), (165, .irem, 1, 0), (166, .istore 12, 2, 0), (168, .iload 8, 2, 0), (170, .iload 9, 2, 0), (172, .iconst 2, 1, 0), (173, .iadd, 1, 0), (174, .irem, 1, 0), (175, .istore 13, 2, 0), (177, .aload_n 3, 1, 0), (178, .iload 11, 2, 0), (180, .iload 12, 2, 0), (182, .iload 13, 2, 0), (184, .invokevirtual 31, 3, 9), (187, .pop, 1, 0), (188, .goto 112, 3, 0), (191, .iload 5, 2, 0), (193, .iconst 2, 1, 0), (194, .if_icmp .ne 35, 3, 0), (197, .iload 7, 2, 0), (199, .iload_n 2, 1, 0), (200, .iconst 1, 1, 0), (201, .iadd, 1, 0), (202, .irem, 1, 0), (203, .iconst 1, 1, 0), (204, .iadd, 1, 0), (205, .istore 11, 2, 0), (207, .iload 8, 2, 0), (209, .iload_n 2, 1, 0), (210, .iconst 1, 1, 0), (211, .iadd, 1, 0), (212, .irem, 1, 0), (213, .istore 12, 2, 0), (215, .aload_n 3, 1, 0), (216, .iload 10, 2, 0), (218, .iload 11, 2, 0), (220, .iload 12, 2, 0), (222, .invokevirtual 35, 3, 10), (225, .pop, 1, 0), (226, .goto 74, 3, 0), (229, .iload 5, 2, 0), (231, .iconst 3, 1, 0), (232, .if_icmp .ne 13, 3, 0), (235, .aload_n 3, 1, 0), (236, .iload 10, 2, 0), (238, .invokevirtual 38, 3, 11), (241, .pop, 1, 0), (242, .goto 58, 3, 0), (245, .iload 5, 2, 0), (247, .iconst 4, 1, 0), (248, .if_icmp .ne 16, 3, 0), (251, .aload_n 3, 1, 0), (252, .aload_n 0, 1, 0), (253, .iload 4, 2, 0), (255, .iconst 1, 1, 0), (256, .iadd, 1, 0), (257, .iaload, 1, 0), (258, .invokevirtual 42, 3, 12), (261, .goto 39, 3, 0), (264, .iload 5, 2, 0), (266, .iconst 5, 1, 0), (267, .if_icmp .ne 11, 3, 0), (270, .aload_n 3, 1, 0), (271, .invokevirtual 46, 3, 15), (274, .pop, 1, 0), (275, .goto 25, 3, 0), (278, .iload 5, 2, 0), (280, .bipush 6, 2, 0), (282, .if_icmp .ne 13, 3, 0), (285, .aload_n 3, 1, 0), (286, .iload 10, 2, 0), (288, .invokevirtual 49, 3, 16), (291, .pop, 1, 0), (292, .goto 8, 3, 0), (295, .aload_n 3, 1, 0), (296, .invokevirtual 52, 3, 18), (299, .pop, 1, 0), (300, .iinc 4 4, 3, 0), (303, .goto (-255), 3, 0), (306, .aload_n 3, 1, 0), (307, .invokevirtual 27, 3, 34), (310, .istore 4, 2, 0), (312, .aload_n 0, 1, 0), (313, .arraylength, 1, 0), (314, .ifCond .le 12, 3, 0), (317, .aload_n 0, 1, 0), (318, .aload_n 0, 1, 0), (319, .arraylength, 1, 0), (320, .iconst 1, 1, 0), (321, .isub, 1, 0), (322, .iaload, 1, 0), (323, .goto 4, 3, 0), (326, .iconst 0, 1, 0), (327, .istore 5, 2, 0), (329, .aload_n 3, 1, 0), (330, .invokevirtual 46, 3, 15), (333, .iload 4, 2, 0), (335, .if_icmp .eq 5, 3, 0), (338, .iconst 0, 1, 0), (339, .ireturn, 1, 0), (340, .iconst 0, 1, 0), (341, .istore 6, 2, 0), (343, .iconst 1, 1, 0), (344, .istore 7, 2, 0), (346, .iload 7, 2, 0), (348, .iload 4, 2, 0), (350, .if_icmp .gt 20, 3, 0), (353, .aload_n 3, 1, 0), (354, .iload 7, 2, 0), (356, .invokevirtual 49, 3, 16), (359, .ifCond .eq 5, 3, 0), (362, .iconst 0, 1, 0), (363, .ireturn, 1, 0), (364, .iinc 7 1, 3, 0), (367, .goto (-21), 3, 0), (370, .iconst 1, 1, 0), (371, .istore 7, 2, 0), (373, .iload 7, 2, 0), (375, .iload 4, 2, 0), (377, .if_icmp .gt 36, 3, 0), (380, .iload 5, 2, 0), (382, .iload 7, 2, 0), (384, .iconst 1, 1, 0), (385, .isub, 1, 0), (386, .iushr, 1, 0), (387, .iconst 1, 1, 0), (388, .iand, 1, 0), (389, .ifCond .eq 18, 3, 0), (392, .aload_n 3, 1, 0), (393, .iload 7, 2, 0), (395, .invokevirtual 38, 3, 11), (398, .ifCond .eq 5, 3, 0), (401, .iconst 0, 1, 0), (402, .ireturn, 1, 0), (403, .iload 7, 2, 0), (405, .istore 6, 2, 0), (407, .iinc 7 1, 3, 0), (410, .goto (-37), 3, 0), (413, .aload_n 3, 1, 0), (414, .invokevirtual 52, 3, 18), (417, .iconst 1, 1, 0), (418, .if_icmp .ne 10, 3, 0), (421, .aload_n 3, 1, 0), (422, .invokevirtual 55, 3, 32), (425, .ifCond .eq 5, 3, 0), (428, .iconst 0, 1, 0), (429, .ireturn, 1, 0), (430, .iconst 1, 1, 0), (431, .istore 7, 2, 0), (433, .iload 7, 2, 0), (435, .iload 4, 2, 0), (437, .if_icmp .gt 79, 3, 0), (440, .aload_n 3, 1, 0), (441, .iload 7, 2, 0), (443, .iconst 0, 1, 0), (444, .invokevirtual 58, 3, 17), (447, .istore 8, 2, 0), (449, .aload_n 3, 1, 0), (450, .iload 7, 2, 0), (452, .iconst 1, 1, 0), (453, .invokevirtual 58, 3, 17), (456, .istore 9, 2, 0), (458, .aload_n 3, 1, 0), (459, .iload 7, 2, 0), (461, .iload 8, 2, 0), (463, .iload 9, 2, 0), (465, .invokevirtual 7, 3, 30), (468, .ifCond .eq 16, 3, 0), (471, .aload_n 3, 1, 0), (472, .iload 7, 2, 0), (474, .iload 9, 2, 0), (476, .iload 8, 2, 0), (478, .invokevirtual 7, 3, 30), (481, .ifCond .ne 5, 3, 0), (484, .iconst 0, 1, 0), (485, .ireturn, 1, 0), (486, .iload 5, 2, 0), (488, .iload 7, 2, 0), (490, .iconst 1, 1, 0), (491, .isub, 1, 0), (492, .iushr, 1, 0), (493, .iconst 1, 1, 0), (494, .iand, 1, 0), (495, .ifCond .ne 15, 3, 0), (498, .aload_n 3, 1, 0), (499, .iload 7, 2, 0), (501, .invokevirtual 62, 3, 31), (504, .iconst 1, 1, 0), (505, .if_icmp .eq 5, 3, 0), (508, .iconst 0, 1, 0), (509, .ireturn, 1, 0), (510, .iinc 7 1, 3, 0), (513, .goto (-80), 3, 0), (516, .aload_n 3, 1, 0), (517, .iload 4, 2, 0), (519, .iload_n 2, 1, 0), (520, .invokestatic 65, 3, 103), (523, .lstore 7, 2, 0), (525, .iload 6, 2, 0), (527, .ifCond .eq 103, 3, 0), (530, .iconst 1, 1, 0), (531, .iload 5, 2, 0), (533, .bipush 8, 2, 0), (535, .iushr, 1, 0), (536, .sipush 255, 3, 0), (539, .iand, 1, 0), (540, .iload_n 2, 1, 0), (541, .irem, 1, 0), (542, .iadd, 1, 0), (543, .istore 9, 2, 0), (545, .iconst 1, 1, 0), (546, .iload 5, 2, 0), (548, .bipush 20, 2, 0), (550, .iushr, 1, 0), (551, .sipush 255, 3, 0), (554, .iand, 1, 0), (555, .iload_n 2, 1, 0), (556, .irem, 1, 0), (557, .iadd, 1, 0), (558, .istore 10, 2, 0), (560, .aload_n 3, 1, 0), (561, .iload 6, 2, 0), (563, .iload 9, 2, 0), (565, .iload 10, 2, 0), (567, .invokevirtual 35, 3, 10), (570, .ifCond .ne 10, 3, 0), (573, .aload_n 3, 1, 0), (574, .invokevirtual 69, 3, 29), (577, .ifCond .eq 5, 3, 0), (580, .iconst 0, 1, 0), (581, .ireturn, 1, 0), (582, .aload_n 3, 1, 0), (583, .invokevirtual 52, 3, 18), (586, .pop, 1, 0), (587, .aload_n 3, 1, 0), (588, .iload 6, 2, 0), (590, .invokevirtual 38, 3, 11), (593, .ifCond .ne 10, 3, 0), (596, .aload_n 3, 1, 0), (597, .invokevirtual 69, 3, 29), (600, .ifCond .eq 5, 3, 0), (603, .iconst 0, 1, 0), (604, .ireturn, 1, 0), (605, .aload_n 3, 1, 0), (606, .invokevirtual 52, 3, 18), (609, .iconst 1, 1, 0), (610, .if_icmp .eq 5, 3, 0), (613, .iconst 0, 1, 0), (614, .ireturn, 1, 0), (615, .aload_n 3, 1, 0), (616, .iload 4, 2, 0), (618, .iload_n 2, 1, 0), (619, .invokestatic 65, 3, 103), (622, .lload 7, 2, 0), (624, .lcmp, 1, 0), (625, .ifCond .eq 5, 3, 0), (628, .iconst 0, 1, 0), (629, .ireturn, 1, 0), (630, .iconst 1, 1, 0), (631, .ireturn, 1, 0)]
def lr2 : List Row := [(0, .iconst 0, 1, 0), (1, .istore_n 3, 1, 0), (2, .iconst 0, 1, 0), (3, .istore 4, 2, 0), (5, .iconst 1, 1, 0), (6, .istore 5, 2, 0), (8, .iload 5, 2, 0), (10, .iload_n 2, 1, 0), (11, .if_icmp .gt 47, 3, 0), (14, .iload 5, 2, 0), (16, .istore 6, 2, 0), (18, .iload 6, 2, 0), (20, .iload_n 2, 1, 0), (21, .if_icmp .gt 31, 3, 0), (24, .aload_n 0, 1, 0), (25, .iload_n 1, 1, 0), (26, .iload 5, 2, 0), (28, .iload 6, 2, 0), (30, .invokevirtual 7, 3, 30), (33, .ifCond .eq 10, 3, 0), (36, .iload_n 3, 1, 0), (37, .iconst 1, 1, 0), (38, .iload 4, 2, 0), (40, .ishl, 1, 0), (41, .ior, 1, 0), (42, .istore_n 3, 1, 0), (43, .iinc 4 1, 3, 0), (46, .iinc 6 1, 3, 0), (49, .goto (-31), 3, 0), (52, .iinc 5 1, 3, 0), (55, .goto (-47), 3, 0), (58, .iload_n 3, 1, 0), (59, .ireturn, 1, 0)]
def lr3 : List Row := [(0, .ldc2_w 13, 3, 17), (3, .lstore_n 3, 1, 0), (4, .iconst 1, 1, 0), (5, .istore 5, 2, 0), (7, .iload 5, 2, 0), (9, .iload_n 1, 1, 0), (10, .if_icmp .gt 24, 3, 0), (13, .lload_n 3, 1, 0), (14, .ldc2_w 15, 3, 1000003), (17, .lmul, 1, 0), (18, .aload_n 0, 1, 0), (19, .iload 5, 2, 0), (21, .iload_n 2, 1, 0), (22, .invokestatic 17, 3, 102), (25, .i2l, 1, 0), (26, .ladd, 1, 0), (27, .lstore_n 3, 1, 0), (28, .iinc 5 1, 3, 0), (31, .goto (-24), 3, 0), (34, .lload_n 3, 1, 0), (35, .lreturn, 1, 0)]
def lrows : List (List Row) := [lr0, [], lr2, lr3]
def linfo : List MInfo := [(1, 14, 9, some .boolean, { frames := 7, cells := 40, slots := 1024, locals := 176 }), (0, 0, 9, none, {}), (3, 7, 0, some .int, { frames := 2, cells := 0, slots := 0, locals := 29 }), (3, 6, 0, some .long, { frames := 3, cells := 0, slots := 0, locals := 49 })]
def lw : LW := (fun j pc => (lrows.getD j []).lookup pc, fun j => linfo.getD j (0, 0, 9, none, {}))
section LPc
variable {L : List Slot} {S : List Value} {k n : Nat} {H : AH} {Q : Option Value → AH → Prop}
theorem c100 {x0 : Nat} : Cl (pj lw) 100 [.ref x0] H Q ↔ W (pj lw) 100 0 [.val (.ref x0), .unset, .unset, .unset, .unset, .unset, .unset, .unset, .unset, .unset, .unset, .unset, .unset, .unset] [] 0 0 H Q := cl_unf rfl
theorem w100_0 {x : Nat} : W (pj lw) 100 0 (.val (.ref x) :: L) S k n H Q ↔ W (pj lw) 100 1 (.val (.ref x) :: L) (.ref x :: S) k n H Q := W_s (rfl : (pj lw).1 100 0 = some (.aload_n 0, 1, 0)) rfl rfl rfl
theorem w100_1 {a : Nat} : W (pj lw) 100 1 L (.ref a :: S) k n H Q ↔ (isA H a = true ∧ W (pj lw) 100 2 L (.int (alen H a).toInt32 :: S) k n H Q) := W_alen (rfl : (pj lw).1 100 1 = some (.arraylength, 1, 0))
theorem w100_2 {x : Int32} : W (pj lw) 100 2 L (.int x :: S) k n H Q ↔ (if 0 < x then W (pj lw) 100 5 L S k n H Q else W (pj lw) 100 11 L S k n H Q) := W_if_le (rfl : (pj lw).1 100 2 = some (.ifCond .le 9, 3, 0)) rfl
theorem w100_5 {x : Nat} : W (pj lw) 100 5 (.val (.ref x) :: L) S k n H Q ↔ W (pj lw) 100 6 (.val (.ref x) :: L) (.ref x :: S) k n H Q := W_s (rfl : (pj lw).1 100 5 = some (.aload_n 0, 1, 0)) rfl rfl rfl
theorem w100_6 : W (pj lw) 100 6 L S k n H Q ↔ W (pj lw) 100 7 L (.int 0 :: S) k n H Q := W_s (rfl : (pj lw).1 100 6 = some (.iconst 0, 1, 0)) rfl rfl rfl
theorem w100_7 {i : Int32} {a : Nat} : W (pj lw) 100 7 L (.int i :: .ref a :: S) k n H Q ↔ (inA H a .int i = true ∧ W (pj lw) 100 8 L (elt H a i :: S) k n H Q) := W_iaload (rfl : (pj lw).1 100 7 = some (.iaload, 1, 0))
theorem w100_8 : W (pj lw) 100 8 L S k n H Q ↔ W (pj lw) 100 12 L S k n H Q := W_goto (rfl : (pj lw).1 100 8 = some (.goto 4, 3, 0)) rfl
theorem w100_11 : W (pj lw) 100 11 L S k n H Q ↔ W (pj lw) 100 12 L (.int 3 :: S) k n H Q := W_s (rfl : (pj lw).1 100 11 = some (.iconst 3, 1, 0)) rfl rfl rfl
theorem w100_12 {x : Int32} {l0 : Slot} : W (pj lw) 100 12 (l0 :: .unset :: L) (.int x :: S) k n H Q ↔ W (pj lw) 100 13 (l0 :: .val (.int x) :: L) S k n H Q := W_istn (rfl : (pj lw).1 100 12 = some (.istore_n 1, 1, 0)) rfl rfl
theorem w100_13 {x : Int32} {l0 : Slot} : W (pj lw) 100 13 (l0 :: .val (.int x) :: L) S k n H Q ↔ W (pj lw) 100 14 (l0 :: .val (.int x) :: L) (.int x :: S) k n H Q := W_s (rfl : (pj lw).1 100 13 = some (.iload_n 1, 1, 0)) rfl rfl rfl
theorem w100_14 : W (pj lw) 100 14 L S k n H Q ↔ W (pj lw) 100 15 L (.int 2 :: S) k n H Q := W_s (rfl : (pj lw).1 100 14 = some (.iconst 2, 1, 0)) rfl rfl rfl
theorem w100_15 {x y : Int32} : W (pj lw) 100 15 L (.int y :: .int x :: S) k n H Q ↔ (if x < y then W (pj lw) 100 18 L S k n H Q else W (pj lw) 100 22 L S k n H Q) := W_icmp_ge (rfl : (pj lw).1 100 15 = some (.if_icmp .ge 7, 3, 0)) rfl
theorem w100_18 : W (pj lw) 100 18 L S k n H Q ↔ W (pj lw) 100 19 L (.int 2 :: S) k n H Q := W_s (rfl : (pj lw).1 100 18 = some (.iconst 2, 1, 0)) rfl rfl rfl
theorem w100_19 : W (pj lw) 100 19 L S k n H Q ↔ W (pj lw) 100 32 L S k n H Q := W_goto (rfl : (pj lw).1 100 19 = some (.goto 13, 3, 0)) rfl
theorem w100_22 {x : Int32} {l0 : Slot} : W (pj lw) 100 22 (l0 :: .val (.int x) :: L) S k n H Q ↔ W (pj lw) 100 23 (l0 :: .val (.int x) :: L) (.int x :: S) k n H Q := W_s (rfl : (pj lw).1 100 22 = some (.iload_n 1, 1, 0)) rfl rfl rfl
theorem w100_23 : W (pj lw) 100 23 L S k n H Q ↔ W (pj lw) 100 24 L (.int 4 :: S) k n H Q := W_s (rfl : (pj lw).1 100 23 = some (.iconst 4, 1, 0)) rfl rfl rfl
theorem w100_24 {x y : Int32} : W (pj lw) 100 24 L (.int y :: .int x :: S) k n H Q ↔ (if y < x then W (pj lw) 100 27 L S k n H Q else W (pj lw) 100 31 L S k n H Q) := W_icmp_le (rfl : (pj lw).1 100 24 = some (.if_icmp .le 7, 3, 0)) rfl
theorem w100_27 : W (pj lw) 100 27 L S k n H Q ↔ W (pj lw) 100 28 L (.int 4 :: S) k n H Q := W_s (rfl : (pj lw).1 100 27 = some (.iconst 4, 1, 0)) rfl rfl rfl
theorem w100_28 : W (pj lw) 100 28 L S k n H Q ↔ W (pj lw) 100 32 L S k n H Q := W_goto (rfl : (pj lw).1 100 28 = some (.goto 4, 3, 0)) rfl
theorem w100_31 {x : Int32} {l0 : Slot} : W (pj lw) 100 31 (l0 :: .val (.int x) :: L) S k n H Q ↔ W (pj lw) 100 32 (l0 :: .val (.int x) :: L) (.int x :: S) k n H Q := W_s (rfl : (pj lw).1 100 31 = some (.iload_n 1, 1, 0)) rfl rfl rfl
theorem w100_32 {x : Int32} {l0 l1 : Slot} : W (pj lw) 100 32 (l0 :: l1 :: .unset :: L) (.int x :: S) k n H Q ↔ W (pj lw) 100 33 (l0 :: l1 :: .val (.int x) :: L) S k n H Q := W_istn (rfl : (pj lw).1 100 32 = some (.istore_n 2, 1, 0)) rfl rfl
theorem w100_33 : W (pj lw) 100 33 L S k n H Q ↔ ((k + 1 ≤ 40 ∧ n + 23 ≤ 1024) ∧ W (pj lw) 100 36 L (.ref H.1 :: S) (k + 1) (n + 23) (mkO (pj lw) H) Q) := W_new' (rfl : (pj lw).1 100 33 = some (.new 8, 3, 23)) (by decide)
theorem w100_36 {x : Nat} : W (pj lw) 100 36 L (.ref x :: S) k n H Q ↔ W (pj lw) 100 37 L (.ref x :: .ref x :: S) k n H Q := W_s (rfl : (pj lw).1 100 36 = some (.dup, 1, 0)) rfl rfl rfl
theorem w100_37 {x : Int32} {l0 : Slot} : W (pj lw) 100 37 (l0 :: .val (.int x) :: L) S k n H Q ↔ W (pj lw) 100 38 (l0 :: .val (.int x) :: L) (.int x :: S) k n H Q := W_s (rfl : (pj lw).1 100 37 = some (.iload_n 1, 1, 0)) rfl rfl rfl
theorem w100_38 : W (pj lw) 100 38 L S k n H Q ↔ W (pj lw) 100 41 L (.int 4242 :: S) k n H Q := W_s (rfl : (pj lw).1 100 38 = some (.sipush 4242, 3, 0)) rfl rfl rfl
theorem w100_41 {a : Nat} {x0 : Int32} {x1 : Int32} : W (pj lw) 100 41 L (.int x1 :: .int x0 :: .ref a :: S) k n H Q ↔ ((isO H a = true ∧ cs S + (4 + 11) + 57 ≤ 176 ∧ k + 13 ≤ 40 ∧ n + 440 ≤ 1024) ∧ Cl (pj lw) 1 [.ref a, .int x0, .int x1] H (fun v H => W (pj lw) 100 44 L (v.toList ++ S) (k + 13) (n + 440) H Q)) := W_init (as := [.int x0, .int x1]) (rfl : (pj lw).1 100 41 = some (.invokespecial 23, 3, 1)) rfl rfl rfl (Nat.le_of_ble_eq_true rfl) (Nat.le_of_ble_eq_true rfl) (fun h => absurd (show (13 : Nat) = 0 from h.1) (by decide))
theorem w100_44 {x : Nat} {l0 l1 l2 : Slot} : W (pj lw) 100 44 (l0 :: l1 :: l2 :: .unset :: L) (.ref x :: S) k n H Q ↔ W (pj lw) 100 45 (l0 :: l1 :: l2 :: .val (.ref x) :: L) S k n H Q := W_astn (rfl : (pj lw).1 100 44 = some (.astore_n 3, 1, 0)) rfl rfl
theorem w100_45 : W (pj lw) 100 45 L S k n H Q ↔ W (pj lw) 100 46 L (.int 1 :: S) k n H Q := W_s (rfl : (pj lw).1 100 45 = some (.iconst 1, 1, 0)) rfl rfl rfl
theorem w100_46 {x : Int32} {l0 l1 l2 l3 : Slot} : W (pj lw) 100 46 (l0 :: l1 :: l2 :: l3 :: .unset :: L) (.int x :: S) k n H Q ↔ W (pj lw) 100 48 (l0 :: l1 :: l2 :: l3 :: .val (.int x) :: L) S k n H Q := W_ist (rfl : (pj lw).1 100 46 = some (.istore 4, 2, 0)) rfl rfl
theorem w100_48 {x : Int32} {l0 l1 l2 l3 : Slot} : W (pj lw) 100 48 (l0 :: l1 :: l2 :: l3 :: .val (.int x) :: L) S k n H Q ↔ W (pj lw) 100 50 (l0 :: l1 :: l2 :: l3 :: .val (.int x) :: L) (.int x :: S) k n H Q := W_s (rfl : (pj lw).1 100 48 = some (.iload 4, 2, 0)) rfl rfl rfl
theorem w100_50 : W (pj lw) 100 50 L S k n H Q ↔ W (pj lw) 100 51 L (.int 3 :: S) k n H Q := W_s (rfl : (pj lw).1 100 50 = some (.iconst 3, 1, 0)) rfl rfl rfl
theorem w100_51 {x y : Int32} : W (pj lw) 100 51 L (.int y :: .int x :: S) k n H Q ↔ W (pj lw) 100 52 L (.int (x + y) :: S) k n H Q := W_s (rfl : (pj lw).1 100 51 = some (.iadd, 1, 0)) rfl rfl rfl
theorem w100_52 {x : Nat} : W (pj lw) 100 52 (.val (.ref x) :: L) S k n H Q ↔ W (pj lw) 100 53 (.val (.ref x) :: L) (.ref x :: S) k n H Q := W_s (rfl : (pj lw).1 100 52 = some (.aload_n 0, 1, 0)) rfl rfl rfl
theorem w100_53 {a : Nat} : W (pj lw) 100 53 L (.ref a :: S) k n H Q ↔ (isA H a = true ∧ W (pj lw) 100 54 L (.int (alen H a).toInt32 :: S) k n H Q) := W_alen (rfl : (pj lw).1 100 53 = some (.arraylength, 1, 0))
theorem w100_54 {x y : Int32} : W (pj lw) 100 54 L (.int y :: .int x :: S) k n H Q ↔ (if x < y then W (pj lw) 100 57 L S k n H Q else W (pj lw) 100 306 L S k n H Q) := W_icmp_ge (rfl : (pj lw).1 100 54 = some (.if_icmp .ge 252, 3, 0)) rfl
theorem w100_57 {x : Nat} : W (pj lw) 100 57 (.val (.ref x) :: L) S k n H Q ↔ W (pj lw) 100 58 (.val (.ref x) :: L) (.ref x :: S) k n H Q := W_s (rfl : (pj lw).1 100 57 = some (.aload_n 0, 1, 0)) rfl rfl rfl
theorem w100_58 {x : Int32} {l0 l1 l2 l3 : Slot} : W (pj lw) 100 58 (l0 :: l1 :: l2 :: l3 :: .val (.int x) :: L) S k n H Q ↔ W (pj lw) 100 60 (l0 :: l1 :: l2 :: l3 :: .val (.int x) :: L) (.int x :: S) k n H Q := W_s (rfl : (pj lw).1 100 58 = some (.iload 4, 2, 0)) rfl rfl rfl
theorem w100_60 {i : Int32} {a : Nat} : W (pj lw) 100 60 L (.int i :: .ref a :: S) k n H Q ↔ (inA H a .int i = true ∧ W (pj lw) 100 61 L (elt H a i :: S) k n H Q) := W_iaload (rfl : (pj lw).1 100 60 = some (.iaload, 1, 0))
theorem w100_61 : W (pj lw) 100 61 L S k n H Q ↔ W (pj lw) 100 63 L (.int 7 :: S) k n H Q := W_s (rfl : (pj lw).1 100 61 = some (.bipush 7, 2, 0)) rfl rfl rfl
theorem w100_63 {x y : Int32} : W (pj lw) 100 63 L (.int y :: .int x :: S) k n H Q ↔ W (pj lw) 100 64 L (.int (x &&& y) :: S) k n H Q := W_s (rfl : (pj lw).1 100 63 = some (.iand, 1, 0)) rfl rfl rfl
theorem w100_64 {x : Int32} {l0 l1 l2 l3 l4 : Slot} : W (pj lw) 100 64 (l0 :: l1 :: l2 :: l3 :: l4 :: .unset :: L) (.int x :: S) k n H Q ↔ W (pj lw) 100 66 (l0 :: l1 :: l2 :: l3 :: l4 :: .val (.int x) :: L) S k n H Q := W_ist (rfl : (pj lw).1 100 64 = some (.istore 5, 2, 0)) rfl rfl
theorem w100_66 {x : Nat} : W (pj lw) 100 66 (.val (.ref x) :: L) S k n H Q ↔ W (pj lw) 100 67 (.val (.ref x) :: L) (.ref x :: S) k n H Q := W_s (rfl : (pj lw).1 100 66 = some (.aload_n 0, 1, 0)) rfl rfl rfl
theorem w100_67 {x : Int32} {l0 l1 l2 l3 : Slot} : W (pj lw) 100 67 (l0 :: l1 :: l2 :: l3 :: .val (.int x) :: L) S k n H Q ↔ W (pj lw) 100 69 (l0 :: l1 :: l2 :: l3 :: .val (.int x) :: L) (.int x :: S) k n H Q := W_s (rfl : (pj lw).1 100 67 = some (.iload 4, 2, 0)) rfl rfl rfl
theorem w100_69 : W (pj lw) 100 69 L S k n H Q ↔ W (pj lw) 100 70 L (.int 1 :: S) k n H Q := W_s (rfl : (pj lw).1 100 69 = some (.iconst 1, 1, 0)) rfl rfl rfl
theorem w100_70 {x y : Int32} : W (pj lw) 100 70 L (.int y :: .int x :: S) k n H Q ↔ W (pj lw) 100 71 L (.int (x + y) :: S) k n H Q := W_s (rfl : (pj lw).1 100 70 = some (.iadd, 1, 0)) rfl rfl rfl
theorem w100_71 {i : Int32} {a : Nat} : W (pj lw) 100 71 L (.int i :: .ref a :: S) k n H Q ↔ (inA H a .int i = true ∧ W (pj lw) 100 72 L (elt H a i :: S) k n H Q) := W_iaload (rfl : (pj lw).1 100 71 = some (.iaload, 1, 0))
theorem w100_72 : W (pj lw) 100 72 L S k n H Q ↔ W (pj lw) 100 74 L (.int 2147483647 :: S) k n H Q := W_s (rfl : (pj lw).1 100 72 = some (.ldc 26, 2, 2147483647)) rfl rfl rfl
theorem w100_74 {x y : Int32} : W (pj lw) 100 74 L (.int y :: .int x :: S) k n H Q ↔ W (pj lw) 100 75 L (.int (x &&& y) :: S) k n H Q := W_s (rfl : (pj lw).1 100 74 = some (.iand, 1, 0)) rfl rfl rfl
theorem w100_75 {x : Int32} {l0 l1 l2 l3 l4 l5 : Slot} : W (pj lw) 100 75 (l0 :: l1 :: l2 :: l3 :: l4 :: l5 :: .unset :: L) (.int x :: S) k n H Q ↔ W (pj lw) 100 77 (l0 :: l1 :: l2 :: l3 :: l4 :: l5 :: .val (.int x) :: L) S k n H Q := W_ist (rfl : (pj lw).1 100 75 = some (.istore 6, 2, 0)) rfl rfl
theorem w100_77 {x : Nat} : W (pj lw) 100 77 (.val (.ref x) :: L) S k n H Q ↔ W (pj lw) 100 78 (.val (.ref x) :: L) (.ref x :: S) k n H Q := W_s (rfl : (pj lw).1 100 77 = some (.aload_n 0, 1, 0)) rfl rfl rfl
theorem w100_78 {x : Int32} {l0 l1 l2 l3 : Slot} : W (pj lw) 100 78 (l0 :: l1 :: l2 :: l3 :: .val (.int x) :: L) S k n H Q ↔ W (pj lw) 100 80 (l0 :: l1 :: l2 :: l3 :: .val (.int x) :: L) (.int x :: S) k n H Q := W_s (rfl : (pj lw).1 100 78 = some (.iload 4, 2, 0)) rfl rfl rfl
theorem w100_80 : W (pj lw) 100 80 L S k n H Q ↔ W (pj lw) 100 81 L (.int 2 :: S) k n H Q := W_s (rfl : (pj lw).1 100 80 = some (.iconst 2, 1, 0)) rfl rfl rfl
theorem w100_81 {x y : Int32} : W (pj lw) 100 81 L (.int y :: .int x :: S) k n H Q ↔ W (pj lw) 100 82 L (.int (x + y) :: S) k n H Q := W_s (rfl : (pj lw).1 100 81 = some (.iadd, 1, 0)) rfl rfl rfl
theorem w100_82 {i : Int32} {a : Nat} : W (pj lw) 100 82 L (.int i :: .ref a :: S) k n H Q ↔ (inA H a .int i = true ∧ W (pj lw) 100 83 L (elt H a i :: S) k n H Q) := W_iaload (rfl : (pj lw).1 100 82 = some (.iaload, 1, 0))
theorem w100_83 : W (pj lw) 100 83 L S k n H Q ↔ W (pj lw) 100 85 L (.int 2147483647 :: S) k n H Q := W_s (rfl : (pj lw).1 100 83 = some (.ldc 26, 2, 2147483647)) rfl rfl rfl
theorem w100_85 {x y : Int32} : W (pj lw) 100 85 L (.int y :: .int x :: S) k n H Q ↔ W (pj lw) 100 86 L (.int (x &&& y) :: S) k n H Q := W_s (rfl : (pj lw).1 100 85 = some (.iand, 1, 0)) rfl rfl rfl
theorem w100_86 {x : Int32} {l0 l1 l2 l3 l4 l5 l6 : Slot} : W (pj lw) 100 86 (l0 :: l1 :: l2 :: l3 :: l4 :: l5 :: l6 :: .unset :: L) (.int x :: S) k n H Q ↔ W (pj lw) 100 88 (l0 :: l1 :: l2 :: l3 :: l4 :: l5 :: l6 :: .val (.int x) :: L) S k n H Q := W_ist (rfl : (pj lw).1 100 86 = some (.istore 7, 2, 0)) rfl rfl
theorem w100_88 {x : Nat} : W (pj lw) 100 88 (.val (.ref x) :: L) S k n H Q ↔ W (pj lw) 100 89 (.val (.ref x) :: L) (.ref x :: S) k n H Q := W_s (rfl : (pj lw).1 100 88 = some (.aload_n 0, 1, 0)) rfl rfl rfl
theorem w100_89 {x : Int32} {l0 l1 l2 l3 : Slot} : W (pj lw) 100 89 (l0 :: l1 :: l2 :: l3 :: .val (.int x) :: L) S k n H Q ↔ W (pj lw) 100 91 (l0 :: l1 :: l2 :: l3 :: .val (.int x) :: L) (.int x :: S) k n H Q := W_s (rfl : (pj lw).1 100 89 = some (.iload 4, 2, 0)) rfl rfl rfl
theorem w100_91 : W (pj lw) 100 91 L S k n H Q ↔ W (pj lw) 100 92 L (.int 3 :: S) k n H Q := W_s (rfl : (pj lw).1 100 91 = some (.iconst 3, 1, 0)) rfl rfl rfl
theorem w100_92 {x y : Int32} : W (pj lw) 100 92 L (.int y :: .int x :: S) k n H Q ↔ W (pj lw) 100 93 L (.int (x + y) :: S) k n H Q := W_s (rfl : (pj lw).1 100 92 = some (.iadd, 1, 0)) rfl rfl rfl
theorem w100_93 {i : Int32} {a : Nat} : W (pj lw) 100 93 L (.int i :: .ref a :: S) k n H Q ↔ (inA H a .int i = true ∧ W (pj lw) 100 94 L (elt H a i :: S) k n H Q) := W_iaload (rfl : (pj lw).1 100 93 = some (.iaload, 1, 0))
theorem w100_94 : W (pj lw) 100 94 L S k n H Q ↔ W (pj lw) 100 96 L (.int 2147483647 :: S) k n H Q := W_s (rfl : (pj lw).1 100 94 = some (.ldc 26, 2, 2147483647)) rfl rfl rfl
theorem w100_96 {x y : Int32} : W (pj lw) 100 96 L (.int y :: .int x :: S) k n H Q ↔ W (pj lw) 100 97 L (.int (x &&& y) :: S) k n H Q := W_s (rfl : (pj lw).1 100 96 = some (.iand, 1, 0)) rfl rfl rfl
theorem w100_97 {x : Int32} {l0 l1 l2 l3 l4 l5 l6 l7 : Slot} : W (pj lw) 100 97 (l0 :: l1 :: l2 :: l3 :: l4 :: l5 :: l6 :: l7 :: .unset :: L) (.int x :: S) k n H Q ↔ W (pj lw) 100 99 (l0 :: l1 :: l2 :: l3 :: l4 :: l5 :: l6 :: l7 :: .val (.int x) :: L) S k n H Q := W_ist (rfl : (pj lw).1 100 97 = some (.istore 8, 2, 0)) rfl rfl
theorem w100_99 {x : Nat} {l0 l1 l2 : Slot} : W (pj lw) 100 99 (l0 :: l1 :: l2 :: .val (.ref x) :: L) S k n H Q ↔ W (pj lw) 100 100 (l0 :: l1 :: l2 :: .val (.ref x) :: L) (.ref x :: S) k n H Q := W_s (rfl : (pj lw).1 100 99 = some (.aload_n 3, 1, 0)) rfl rfl rfl
theorem w100_100 {a : Nat} : W (pj lw) 100 100 L (.ref a :: S) k n H Q ↔ ((isO H a = true ∧ cs S + (1 + 11) + 0 ≤ 176) ∧ Cl (pj lw) 34 [.ref a] H (fun v H => W (pj lw) 100 103 L (v.toList ++ S) k n H Q)) := W_inst (as := []) (rfl : (pj lw).1 100 100 = some (.invokevirtual 27, 3, 34)) rfl rfl rfl (Nat.le_of_ble_eq_true rfl) (Nat.le_of_ble_eq_true rfl) ⟨rfl, rfl⟩
theorem w100_103 {x : Int32} {l0 l1 l2 l3 l4 l5 l6 l7 l8 : Slot} : W (pj lw) 100 103 (l0 :: l1 :: l2 :: l3 :: l4 :: l5 :: l6 :: l7 :: l8 :: .unset :: L) (.int x :: S) k n H Q ↔ W (pj lw) 100 105 (l0 :: l1 :: l2 :: l3 :: l4 :: l5 :: l6 :: l7 :: l8 :: .val (.int x) :: L) S k n H Q := W_ist (rfl : (pj lw).1 100 103 = some (.istore 9, 2, 0)) rfl rfl
theorem w100_105 {x : Int32} {l0 l1 l2 l3 l4 l5 : Slot} : W (pj lw) 100 105 (l0 :: l1 :: l2 :: l3 :: l4 :: l5 :: .val (.int x) :: L) S k n H Q ↔ W (pj lw) 100 107 (l0 :: l1 :: l2 :: l3 :: l4 :: l5 :: .val (.int x) :: L) (.int x :: S) k n H Q := W_s (rfl : (pj lw).1 100 105 = some (.iload 6, 2, 0)) rfl rfl rfl
theorem w100_107 {x : Int32} {l0 l1 l2 l3 l4 l5 l6 l7 l8 : Slot} : W (pj lw) 100 107 (l0 :: l1 :: l2 :: l3 :: l4 :: l5 :: l6 :: l7 :: l8 :: .val (.int x) :: L) S k n H Q ↔ W (pj lw) 100 109 (l0 :: l1 :: l2 :: l3 :: l4 :: l5 :: l6 :: l7 :: l8 :: .val (.int x) :: L) (.int x :: S) k n H Q := W_s (rfl : (pj lw).1 100 107 = some (.iload 9, 2, 0)) rfl rfl rfl
theorem w100_109 : W (pj lw) 100 109 L S k n H Q ↔ W (pj lw) 100 110 L (.int 1 :: S) k n H Q := W_s (rfl : (pj lw).1 100 109 = some (.iconst 1, 1, 0)) rfl rfl rfl
theorem w100_110 {x y : Int32} : W (pj lw) 100 110 L (.int y :: .int x :: S) k n H Q ↔ W (pj lw) 100 111 L (.int (x + y) :: S) k n H Q := W_s (rfl : (pj lw).1 100 110 = some (.iadd, 1, 0)) rfl rfl rfl
theorem w100_111 {x y : Int32} : W (pj lw) 100 111 L (.int y :: .int x :: S) k n H Q ↔ (¬ y = 0 ∧ W (pj lw) 100 112 L (.int (x % y) :: S) k n H Q) := W_irem (rfl : (pj lw).1 100 111 = some (.irem, 1, 0))
theorem w100_112 : W (pj lw) 100 112 L S k n H Q ↔ W (pj lw) 100 113 L (.int 1 :: S) k n H Q := W_s (rfl : (pj lw).1 100 112 = some (.iconst 1, 1, 0)) rfl rfl rfl
theorem w100_113 {x y : Int32} : W (pj lw) 100 113 L (.int y :: .int x :: S) k n H Q ↔ W (pj lw) 100 114 L (.int (x + y) :: S) k n H Q := W_s (rfl : (pj lw).1 100 113 = some (.iadd, 1, 0)) rfl rfl rfl
theorem w100_114 {x : Int32} {l0 l1 l2 l3 l4 l5 l6 l7 l8 l9 : Slot} : W (pj lw) 100 114 (l0 :: l1 :: l2 :: l3 :: l4 :: l5 :: l6 :: l7 :: l8 :: l9 :: .unset :: L) (.int x :: S) k n H Q ↔ W (pj lw) 100 116 (l0 :: l1 :: l2 :: l3 :: l4 :: l5 :: l6 :: l7 :: l8 :: l9 :: .val (.int x) :: L) S k n H Q := W_ist (rfl : (pj lw).1 100 114 = some (.istore 10, 2, 0)) rfl rfl
theorem w100_116 {x : Int32} {l0 l1 l2 l3 l4 : Slot} : W (pj lw) 100 116 (l0 :: l1 :: l2 :: l3 :: l4 :: .val (.int x) :: L) S k n H Q ↔ W (pj lw) 100 118 (l0 :: l1 :: l2 :: l3 :: l4 :: .val (.int x) :: L) (.int x :: S) k n H Q := W_s (rfl : (pj lw).1 100 116 = some (.iload 5, 2, 0)) rfl rfl rfl
theorem w100_118 : W (pj lw) 100 118 L S k n H Q ↔ W (pj lw) 100 119 L (.int 1 :: S) k n H Q := W_s (rfl : (pj lw).1 100 118 = some (.iconst 1, 1, 0)) rfl rfl rfl
theorem w100_119 {x y : Int32} : W (pj lw) 100 119 L (.int y :: .int x :: S) k n H Q ↔ (if y < x then W (pj lw) 100 191 L S k n H Q else W (pj lw) 100 122 L S k n H Q) := W_icmp_gt (rfl : (pj lw).1 100 119 = some (.if_icmp .gt 72, 3, 0)) rfl
theorem w100_122 {x : Int32} {l0 l1 l2 l3 l4 l5 : Slot} : W (pj lw) 100 122 (l0 :: l1 :: l2 :: l3 :: l4 :: l5 :: .val (.int x) :: L) S k n H Q ↔ W (pj lw) 100 124 (l0 :: l1 :: l2 :: l3 :: l4 :: l5 :: .val (.int x) :: L) (.int x :: S) k n H Q := W_s (rfl : (pj lw).1 100 122 = some (.iload 6, 2, 0)) rfl rfl rfl
theorem w100_124 : W (pj lw) 100 124 L S k n H Q ↔ W (pj lw) 100 126 L (.int 15 :: S) k n H Q := W_s (rfl : (pj lw).1 100 124 = some (.bipush 15, 2, 0)) rfl rfl rfl
theorem w100_126 {x y : Int32} : W (pj lw) 100 126 L (.int y :: .int x :: S) k n H Q ↔ W (pj lw) 100 127 L (.int (x &&& y) :: S) k n H Q := W_s (rfl : (pj lw).1 100 126 = some (.iand, 1, 0)) rfl rfl rfl
theorem w100_127 : W (pj lw) 100 127 L S k n H Q ↔ W (pj lw) 100 129 L (.int 15 :: S) k n H Q := W_s (rfl : (pj lw).1 100 127 = some (.bipush 15, 2, 0)) rfl rfl rfl
theorem w100_129 {x y : Int32} : W (pj lw) 100 129 L (.int y :: .int x :: S) k n H Q ↔ (if x = y then W (pj lw) 100 132 L S k n H Q else W (pj lw) 100 136 L S k n H Q) := W_icmp_ne (rfl : (pj lw).1 100 129 = some (.if_icmp .ne 7, 3, 0)) rfl
theorem w100_132 : W (pj lw) 100 132 L S k n H Q ↔ W (pj lw) 100 133 L (.int 0 :: S) k n H Q := W_s (rfl : (pj lw).1 100 132 = some (.iconst 0, 1, 0)) rfl rfl rfl
theorem w100_133 : W (pj lw) 100 133 L S k n H Q ↔ W (pj lw) 100 142 L S k n H Q := W_goto (rfl : (pj lw).1 100 133 = some (.goto 9, 3, 0)) rfl
theorem w100_136 : W (pj lw) 100 136 L S k n H Q ↔ W (pj lw) 100 137 L (.int 1 :: S) k n H Q := W_s (rfl : (pj lw).1 100 136 = some (.iconst 1, 1, 0)) rfl rfl rfl
theorem w100_137 {x : Int32} {l0 l1 l2 l3 l4 l5 : Slot} : W (pj lw) 100 137 (l0 :: l1 :: l2 :: l3 :: l4 :: l5 :: .val (.int x) :: L) S k n H Q ↔ W (pj lw) 100 139 (l0 :: l1 :: l2 :: l3 :: l4 :: l5 :: .val (.int x) :: L) (.int x :: S) k n H Q := W_s (rfl : (pj lw).1 100 137 = some (.iload 6, 2, 0)) rfl rfl rfl
theorem w100_139 : W (pj lw) 100 139 L S k n H Q ↔ W (pj lw) 100 140 L (.int 1 :: S) k n H Q := W_s (rfl : (pj lw).1 100 139 = some (.iconst 1, 1, 0)) rfl rfl rfl
theorem w100_140 {x y : Int32} : W (pj lw) 100 140 L (.int y :: .int x :: S) k n H Q ↔ W (pj lw) 100 141 L (.int (x &&& y) :: S) k n H Q := W_s (rfl : (pj lw).1 100 140 = some (.iand, 1, 0)) rfl rfl rfl
theorem w100_141 {x y : Int32} : W (pj lw) 100 141 L (.int y :: .int x :: S) k n H Q ↔ W (pj lw) 100 142 L (.int (x + y) :: S) k n H Q := W_s (rfl : (pj lw).1 100 141 = some (.iadd, 1, 0)) rfl rfl rfl
theorem w100_142 {x : Int32} {l0 l1 l2 l3 l4 l5 l6 l7 l8 l9 l10 : Slot} : W (pj lw) 100 142 (l0 :: l1 :: l2 :: l3 :: l4 :: l5 :: l6 :: l7 :: l8 :: l9 :: l10 :: .unset :: L) (.int x :: S) k n H Q ↔ W (pj lw) 100 144 (l0 :: l1 :: l2 :: l3 :: l4 :: l5 :: l6 :: l7 :: l8 :: l9 :: l10 :: .val (.int x) :: L) S k n H Q := W_ist (rfl : (pj lw).1 100 142 = some (.istore 11, 2, 0)) rfl rfl
theorem w100_144 : W (pj lw) 100 144 L S k n H Q ↔ W (pj lw) 100 145 L (.int 0 :: S) k n H Q := W_s (rfl : (pj lw).1 100 144 = some (.iconst 0, 1, 0)) rfl rfl rfl
theorem w100_145 {x : Int32} {l0 l1 l2 l3 l4 l5 l6 l7 l8 l9 l10 l11 : Slot} : W (pj lw) 100 145 (l0 :: l1 :: l2 :: l3 :: l4 :: l5 :: l6 :: l7 :: l8 :: l9 :: l10 :: l11 :: .unset :: L) (.int x :: S) k n H Q ↔ W (pj lw) 100 147 (l0 :: l1 :: l2 :: l3 :: l4 :: l5 :: l6 :: l7 :: l8 :: l9 :: l10 :: l11 :: .val (.int x) :: L) S k n H Q := W_ist (rfl : (pj lw).1 100 145 = some (.istore 12, 2, 0)) rfl rfl
theorem w100_147 : W (pj lw) 100 147 L S k n H Q ↔ W (pj lw) 100 148 L (.int 0 :: S) k n H Q := W_s (rfl : (pj lw).1 100 147 = some (.iconst 0, 1, 0)) rfl rfl rfl
theorem w100_148 {x : Int32} {l0 l1 l2 l3 l4 l5 l6 l7 l8 l9 l10 l11 l12 : Slot} : W (pj lw) 100 148 (l0 :: l1 :: l2 :: l3 :: l4 :: l5 :: l6 :: l7 :: l8 :: l9 :: l10 :: l11 :: l12 :: .unset :: L) (.int x :: S) k n H Q ↔ W (pj lw) 100 150 (l0 :: l1 :: l2 :: l3 :: l4 :: l5 :: l6 :: l7 :: l8 :: l9 :: l10 :: l11 :: l12 :: .val (.int x) :: L) S k n H Q := W_ist (rfl : (pj lw).1 100 148 = some (.istore 13, 2, 0)) rfl rfl
theorem w100_150 {x : Int32} {l0 l1 l2 l3 l4 l5 : Slot} : W (pj lw) 100 150 (l0 :: l1 :: l2 :: l3 :: l4 :: l5 :: .val (.int x) :: L) S k n H Q ↔ W (pj lw) 100 152 (l0 :: l1 :: l2 :: l3 :: l4 :: l5 :: .val (.int x) :: L) (.int x :: S) k n H Q := W_s (rfl : (pj lw).1 100 150 = some (.iload 6, 2, 0)) rfl rfl rfl
theorem w100_152 : W (pj lw) 100 152 L S k n H Q ↔ W (pj lw) 100 153 L (.int 4 :: S) k n H Q := W_s (rfl : (pj lw).1 100 152 = some (.iconst 4, 1, 0)) rfl rfl rfl
theorem w100_153 {x y : Int32} : W (pj lw) 100 153 L (.int y :: .int x :: S) k n H Q ↔ W (pj lw) 100 154 L (.int (x >>> (y &&& 31)) :: S) k n H Q := W_s (rfl : (pj lw).1 100 153 = some (.ishr, 1, 0)) rfl rfl rfl
theorem w100_154 : W (pj lw) 100 154 L S k n H Q ↔ W (pj lw) 100 155 L (.int 3 :: S) k n H Q := W_s (rfl : (pj lw).1 100 154 = some (.iconst 3, 1, 0)) rfl rfl rfl
theorem w100_155 {x y : Int32} : W (pj lw) 100 155 L (.int y :: .int x :: S) k n H Q ↔ W (pj lw) 100 156 L (.int (x &&& y) :: S) k n H Q := W_s (rfl : (pj lw).1 100 155 = some (.iand, 1, 0)) rfl rfl rfl
theorem w100_156 {x : Int32} : W (pj lw) 100 156 L (.int x :: S) k n H Q ↔ (if x = 0 then W (pj lw) 100 177 L S k n H Q else W (pj lw) 100 159 L S k n H Q) := W_if_eq (rfl : (pj lw).1 100 156 = some (.ifCond .eq 21, 3, 0)) rfl
theorem w100_159 {x : Int32} {l0 l1 l2 l3 l4 l5 l6 : Slot} : W (pj lw) 100 159 (l0 :: l1 :: l2 :: l3 :: l4 :: l5 :: l6 :: .val (.int x) :: L) S k n H Q ↔ W (pj lw) 100 161 (l0 :: l1 :: l2 :: l3 :: l4 :: l5 :: l6 :: .val (.int x) :: L) (.int x :: S) k n H Q := W_s (rfl : (pj lw).1 100 159 = some (.iload 7, 2, 0)) rfl rfl rfl
theorem w100_161 {x : Int32} {l0 l1 l2 l3 l4 l5 l6 l7 l8 : Slot} : W (pj lw) 100 161 (l0 :: l1 :: l2 :: l3 :: l4 :: l5 :: l6 :: l7 :: l8 :: .val (.int x) :: L) S k n H Q ↔ W (pj lw) 100 163 (l0 :: l1 :: l2 :: l3 :: l4 :: l5 :: l6 :: l7 :: l8 :: .val (.int x) :: L) (.int x :: S) k n H Q := W_s (rfl : (pj lw).1 100 161 = some (.iload 9, 2, 0)) rfl rfl rfl
theorem w100_163 : W (pj lw) 100 163 L S k n H Q ↔ W (pj lw) 100 164 L (.int 2 :: S) k n H Q := W_s (rfl : (pj lw).1 100 163 = some (.iconst 2, 1, 0)) rfl rfl rfl
theorem w100_164 {x y : Int32} : W (pj lw) 100 164 L (.int y :: .int x :: S) k n H Q ↔ W (pj lw) 100 165 L (.int (x + y) :: S) k n H Q := W_s (rfl : (pj lw).1 100 164 = some (.iadd, 1, 0)) rfl rfl rfl
theorem w100_165 {x y : Int32} : W (pj lw) 100 165 L (.int y :: .int x :: S) k n H Q ↔ (¬ y = 0 ∧ W (pj lw) 100 166 L (.int (x % y) :: S) k n H Q) := W_irem (rfl : (pj lw).1 100 165 = some (.irem, 1, 0))
theorem w100_166i {y : Int32} {x : Int32} {l0 l1 l2 l3 l4 l5 l6 l7 l8 l9 l10 l11 : Slot} : W (pj lw) 100 166 (l0 :: l1 :: l2 :: l3 :: l4 :: l5 :: l6 :: l7 :: l8 :: l9 :: l10 :: l11 :: .val (.int y) :: L) (.int x :: S) k n H Q ↔ W (pj lw) 100 168 (l0 :: l1 :: l2 :: l3 :: l4 :: l5 :: l6 :: l7 :: l8 :: l9 :: l10 :: l11 :: .val (.int x) :: L) S k n H Q := W_ist (rfl : (pj lw).1 100 166 = some (.istore 12, 2, 0)) rfl rfl
theorem w100_168 {x : Int32} {l0 l1 l2 l3 l4 l5 l6 l7 : Slot} : W (pj lw) 100 168 (l0 :: l1 :: l2 :: l3 :: l4 :: l5 :: l6 :: l7 :: .val (.int x) :: L) S k n H Q ↔ W (pj lw) 100 170 (l0 :: l1 :: l2 :: l3 :: l4 :: l5 :: l6 :: l7 :: .val (.int x) :: L) (.int x :: S) k n H Q := W_s (rfl : (pj lw).1 100 168 = some (.iload 8, 2, 0)) rfl rfl rfl
theorem w100_170 {x : Int32} {l0 l1 l2 l3 l4 l5 l6 l7 l8 : Slot} : W (pj lw) 100 170 (l0 :: l1 :: l2 :: l3 :: l4 :: l5 :: l6 :: l7 :: l8 :: .val (.int x) :: L) S k n H Q ↔ W (pj lw) 100 172 (l0 :: l1 :: l2 :: l3 :: l4 :: l5 :: l6 :: l7 :: l8 :: .val (.int x) :: L) (.int x :: S) k n H Q := W_s (rfl : (pj lw).1 100 170 = some (.iload 9, 2, 0)) rfl rfl rfl
theorem w100_172 : W (pj lw) 100 172 L S k n H Q ↔ W (pj lw) 100 173 L (.int 2 :: S) k n H Q := W_s (rfl : (pj lw).1 100 172 = some (.iconst 2, 1, 0)) rfl rfl rfl
theorem w100_173 {x y : Int32} : W (pj lw) 100 173 L (.int y :: .int x :: S) k n H Q ↔ W (pj lw) 100 174 L (.int (x + y) :: S) k n H Q := W_s (rfl : (pj lw).1 100 173 = some (.iadd, 1, 0)) rfl rfl rfl
theorem w100_174 {x y : Int32} : W (pj lw) 100 174 L (.int y :: .int x :: S) k n H Q ↔ (¬ y = 0 ∧ W (pj lw) 100 175 L (.int (x % y) :: S) k n H Q) := W_irem (rfl : (pj lw).1 100 174 = some (.irem, 1, 0))
theorem w100_175i {y : Int32} {x : Int32} {l0 l1 l2 l3 l4 l5 l6 l7 l8 l9 l10 l11 l12 : Slot} : W (pj lw) 100 175 (l0 :: l1 :: l2 :: l3 :: l4 :: l5 :: l6 :: l7 :: l8 :: l9 :: l10 :: l11 :: l12 :: .val (.int y) :: L) (.int x :: S) k n H Q ↔ W (pj lw) 100 177 (l0 :: l1 :: l2 :: l3 :: l4 :: l5 :: l6 :: l7 :: l8 :: l9 :: l10 :: l11 :: l12 :: .val (.int x) :: L) S k n H Q := W_ist (rfl : (pj lw).1 100 175 = some (.istore 13, 2, 0)) rfl rfl
theorem w100_177 {x : Nat} {l0 l1 l2 : Slot} : W (pj lw) 100 177 (l0 :: l1 :: l2 :: .val (.ref x) :: L) S k n H Q ↔ W (pj lw) 100 178 (l0 :: l1 :: l2 :: .val (.ref x) :: L) (.ref x :: S) k n H Q := W_s (rfl : (pj lw).1 100 177 = some (.aload_n 3, 1, 0)) rfl rfl rfl
theorem w100_178 {x : Int32} {l0 l1 l2 l3 l4 l5 l6 l7 l8 l9 l10 : Slot} : W (pj lw) 100 178 (l0 :: l1 :: l2 :: l3 :: l4 :: l5 :: l6 :: l7 :: l8 :: l9 :: l10 :: .val (.int x) :: L) S k n H Q ↔ W (pj lw) 100 180 (l0 :: l1 :: l2 :: l3 :: l4 :: l5 :: l6 :: l7 :: l8 :: l9 :: l10 :: .val (.int x) :: L) (.int x :: S) k n H Q := W_s (rfl : (pj lw).1 100 178 = some (.iload 11, 2, 0)) rfl rfl rfl
theorem w100_180 {x : Int32} {l0 l1 l2 l3 l4 l5 l6 l7 l8 l9 l10 l11 : Slot} : W (pj lw) 100 180 (l0 :: l1 :: l2 :: l3 :: l4 :: l5 :: l6 :: l7 :: l8 :: l9 :: l10 :: l11 :: .val (.int x) :: L) S k n H Q ↔ W (pj lw) 100 182 (l0 :: l1 :: l2 :: l3 :: l4 :: l5 :: l6 :: l7 :: l8 :: l9 :: l10 :: l11 :: .val (.int x) :: L) (.int x :: S) k n H Q := W_s (rfl : (pj lw).1 100 180 = some (.iload 12, 2, 0)) rfl rfl rfl
theorem w100_182 {x : Int32} {l0 l1 l2 l3 l4 l5 l6 l7 l8 l9 l10 l11 l12 : Slot} : W (pj lw) 100 182 (l0 :: l1 :: l2 :: l3 :: l4 :: l5 :: l6 :: l7 :: l8 :: l9 :: l10 :: l11 :: l12 :: .val (.int x) :: L) S k n H Q ↔ W (pj lw) 100 184 (l0 :: l1 :: l2 :: l3 :: l4 :: l5 :: l6 :: l7 :: l8 :: l9 :: l10 :: l11 :: l12 :: .val (.int x) :: L) (.int x :: S) k n H Q := W_s (rfl : (pj lw).1 100 182 = some (.iload 13, 2, 0)) rfl rfl rfl
theorem w100_184 {a : Nat} {x0 : Int32} {x1 : Int32} {x2 : Int32} : W (pj lw) 100 184 L (.int x2 :: .int x1 :: .int x0 :: .ref a :: S) k n H Q ↔ ((isO H a = true ∧ cs S + (4 + 11) + 13 ≤ 176) ∧ Cl (pj lw) 9 [.ref a, .int x0, .int x1, .int x2] H (fun v H => W (pj lw) 100 187 L (v.toList ++ S) k n H Q)) := W_inst (as := [.int x0, .int x1, .int x2]) (rfl : (pj lw).1 100 184 = some (.invokevirtual 31, 3, 9)) rfl rfl rfl (Nat.le_of_ble_eq_true rfl) (Nat.le_of_ble_eq_true rfl) ⟨rfl, rfl⟩
theorem w100_187 {x : Int32} : W (pj lw) 100 187 L (.int x :: S) k n H Q ↔ W (pj lw) 100 188 L S k n H Q := W_s (rfl : (pj lw).1 100 187 = some (.pop, 1, 0)) rfl rfl rfl
theorem w100_188 : W (pj lw) 100 188 L S k n H Q ↔ W (pj lw) 100 300 L S k n H Q := W_goto (rfl : (pj lw).1 100 188 = some (.goto 112, 3, 0)) rfl
theorem w100_191 {x : Int32} {l0 l1 l2 l3 l4 : Slot} : W (pj lw) 100 191 (l0 :: l1 :: l2 :: l3 :: l4 :: .val (.int x) :: L) S k n H Q ↔ W (pj lw) 100 193 (l0 :: l1 :: l2 :: l3 :: l4 :: .val (.int x) :: L) (.int x :: S) k n H Q := W_s (rfl : (pj lw).1 100 191 = some (.iload 5, 2, 0)) rfl rfl rfl
theorem w100_193 : W (pj lw) 100 193 L S k n H Q ↔ W (pj lw) 100 194 L (.int 2 :: S) k n H Q := W_s (rfl : (pj lw).1 100 193 = some (.iconst 2, 1, 0)) rfl rfl rfl
theorem w100_194 {x y : Int32} : W (pj lw) 100 194 L (.int y :: .int x :: S) k n H Q ↔ (if x = y then W (pj lw) 100 197 L S k n H Q else W (pj lw) 100 229 L S k n H Q) := W_icmp_ne (rfl : (pj lw).1 100 194 = some (.if_icmp .ne 35, 3, 0)) rfl
theorem w100_197 {x : Int32} {l0 l1 l2 l3 l4 l5 l6 : Slot} : W (pj lw) 100 197 (l0 :: l1 :: l2 :: l3 :: l4 :: l5 :: l6 :: .val (.int x) :: L) S k n H Q ↔ W (pj lw) 100 199 (l0 :: l1 :: l2 :: l3 :: l4 :: l5 :: l6 :: .val (.int x) :: L) (.int x :: S) k n H Q := W_s (rfl : (pj lw).1 100 197 = some (.iload 7, 2, 0)) rfl rfl rfl
theorem w100_199 {x : Int32} {l0 l1 : Slot} : W (pj lw) 100 199 (l0 :: l1 :: .val (.int x) :: L) S k n H Q ↔ W (pj lw) 100 200 (l0 :: l1 :: .val (.int x) :: L) (.int x :: S) k n H Q := W_s (rfl : (pj lw).1 100 199 = some (.iload_n 2, 1, 0)) rfl rfl rfl
theorem w100_200 : W (pj lw) 100 200 L S k n H Q ↔ W (pj lw) 100 201 L (.int 1 :: S) k n H Q := W_s (rfl : (pj lw).1 100 200 = some (.iconst 1, 1, 0)) rfl rfl rfl
theorem w100_201 {x y : Int32} : W (pj lw) 100 201 L (.int y :: .int x :: S) k n H Q ↔ W (pj lw) 100 202 L (.int (x + y) :: S) k n H Q := W_s (rfl : (pj lw).1 100 201 = some (.iadd, 1, 0)) rfl rfl rfl
theorem w100_202 {x y : Int32} : W (pj lw) 100 202 L (.int y :: .int x :: S) k n H Q ↔ (¬ y = 0 ∧ W (pj lw) 100 203 L (.int (x % y) :: S) k n H Q) := W_irem (rfl : (pj lw).1 100 202 = some (.irem, 1, 0))
theorem w100_203 : W (pj lw) 100 203 L S k n H Q ↔ W (pj lw) 100 204 L (.int 1 :: S) k n H Q := W_s (rfl : (pj lw).1 100 203 = some (.iconst 1, 1, 0)) rfl rfl rfl
theorem w100_204 {x y : Int32} : W (pj lw) 100 204 L (.int y :: .int x :: S) k n H Q ↔ W (pj lw) 100 205 L (.int (x + y) :: S) k n H Q := W_s (rfl : (pj lw).1 100 204 = some (.iadd, 1, 0)) rfl rfl rfl
theorem w100_205 {x : Int32} {l0 l1 l2 l3 l4 l5 l6 l7 l8 l9 l10 : Slot} : W (pj lw) 100 205 (l0 :: l1 :: l2 :: l3 :: l4 :: l5 :: l6 :: l7 :: l8 :: l9 :: l10 :: .unset :: L) (.int x :: S) k n H Q ↔ W (pj lw) 100 207 (l0 :: l1 :: l2 :: l3 :: l4 :: l5 :: l6 :: l7 :: l8 :: l9 :: l10 :: .val (.int x) :: L) S k n H Q := W_ist (rfl : (pj lw).1 100 205 = some (.istore 11, 2, 0)) rfl rfl
theorem w100_207 {x : Int32} {l0 l1 l2 l3 l4 l5 l6 l7 : Slot} : W (pj lw) 100 207 (l0 :: l1 :: l2 :: l3 :: l4 :: l5 :: l6 :: l7 :: .val (.int x) :: L) S k n H Q ↔ W (pj lw) 100 209 (l0 :: l1 :: l2 :: l3 :: l4 :: l5 :: l6 :: l7 :: .val (.int x) :: L) (.int x :: S) k n H Q := W_s (rfl : (pj lw).1 100 207 = some (.iload 8, 2, 0)) rfl rfl rfl
theorem w100_209 {x : Int32} {l0 l1 : Slot} : W (pj lw) 100 209 (l0 :: l1 :: .val (.int x) :: L) S k n H Q ↔ W (pj lw) 100 210 (l0 :: l1 :: .val (.int x) :: L) (.int x :: S) k n H Q := W_s (rfl : (pj lw).1 100 209 = some (.iload_n 2, 1, 0)) rfl rfl rfl
theorem w100_210 : W (pj lw) 100 210 L S k n H Q ↔ W (pj lw) 100 211 L (.int 1 :: S) k n H Q := W_s (rfl : (pj lw).1 100 210 = some (.iconst 1, 1, 0)) rfl rfl rfl
theorem w100_211 {x y : Int32} : W (pj lw) 100 211 L (.int y :: .int x :: S) k n H Q ↔ W (pj lw) 100 212 L (.int (x + y) :: S) k n H Q := W_s (rfl : (pj lw).1 100 211 = some (.iadd, 1, 0)) rfl rfl rfl
theorem w100_212 {x y : Int32} : W (pj lw) 100 212 L (.int y :: .int x :: S) k n H Q ↔ (¬ y = 0 ∧ W (pj lw) 100 213 L (.int (x % y) :: S) k n H Q) := W_irem (rfl : (pj lw).1 100 212 = some (.irem, 1, 0))
theorem w100_213 {x : Int32} {l0 l1 l2 l3 l4 l5 l6 l7 l8 l9 l10 l11 : Slot} : W (pj lw) 100 213 (l0 :: l1 :: l2 :: l3 :: l4 :: l5 :: l6 :: l7 :: l8 :: l9 :: l10 :: l11 :: .unset :: L) (.int x :: S) k n H Q ↔ W (pj lw) 100 215 (l0 :: l1 :: l2 :: l3 :: l4 :: l5 :: l6 :: l7 :: l8 :: l9 :: l10 :: l11 :: .val (.int x) :: L) S k n H Q := W_ist (rfl : (pj lw).1 100 213 = some (.istore 12, 2, 0)) rfl rfl
theorem w100_215 {x : Nat} {l0 l1 l2 : Slot} : W (pj lw) 100 215 (l0 :: l1 :: l2 :: .val (.ref x) :: L) S k n H Q ↔ W (pj lw) 100 216 (l0 :: l1 :: l2 :: .val (.ref x) :: L) (.ref x :: S) k n H Q := W_s (rfl : (pj lw).1 100 215 = some (.aload_n 3, 1, 0)) rfl rfl rfl
theorem w100_216 {x : Int32} {l0 l1 l2 l3 l4 l5 l6 l7 l8 l9 : Slot} : W (pj lw) 100 216 (l0 :: l1 :: l2 :: l3 :: l4 :: l5 :: l6 :: l7 :: l8 :: l9 :: .val (.int x) :: L) S k n H Q ↔ W (pj lw) 100 218 (l0 :: l1 :: l2 :: l3 :: l4 :: l5 :: l6 :: l7 :: l8 :: l9 :: .val (.int x) :: L) (.int x :: S) k n H Q := W_s (rfl : (pj lw).1 100 216 = some (.iload 10, 2, 0)) rfl rfl rfl
theorem w100_218 {x : Int32} {l0 l1 l2 l3 l4 l5 l6 l7 l8 l9 l10 : Slot} : W (pj lw) 100 218 (l0 :: l1 :: l2 :: l3 :: l4 :: l5 :: l6 :: l7 :: l8 :: l9 :: l10 :: .val (.int x) :: L) S k n H Q ↔ W (pj lw) 100 220 (l0 :: l1 :: l2 :: l3 :: l4 :: l5 :: l6 :: l7 :: l8 :: l9 :: l10 :: .val (.int x) :: L) (.int x :: S) k n H Q := W_s (rfl : (pj lw).1 100 218 = some (.iload 11, 2, 0)) rfl rfl rfl
theorem w100_220 {x : Int32} {l0 l1 l2 l3 l4 l5 l6 l7 l8 l9 l10 l11 : Slot} : W (pj lw) 100 220 (l0 :: l1 :: l2 :: l3 :: l4 :: l5 :: l6 :: l7 :: l8 :: l9 :: l10 :: l11 :: .val (.int x) :: L) S k n H Q ↔ W (pj lw) 100 222 (l0 :: l1 :: l2 :: l3 :: l4 :: l5 :: l6 :: l7 :: l8 :: l9 :: l10 :: l11 :: .val (.int x) :: L) (.int x :: S) k n H Q := W_s (rfl : (pj lw).1 100 220 = some (.iload 12, 2, 0)) rfl rfl rfl
theorem w100_222 {a : Nat} {x0 : Int32} {x1 : Int32} {x2 : Int32} : W (pj lw) 100 222 L (.int x2 :: .int x1 :: .int x0 :: .ref a :: S) k n H Q ↔ ((isO H a = true ∧ cs S + (4 + 11) + 13 ≤ 176) ∧ Cl (pj lw) 10 [.ref a, .int x0, .int x1, .int x2] H (fun v H => W (pj lw) 100 225 L (v.toList ++ S) k n H Q)) := W_inst (as := [.int x0, .int x1, .int x2]) (rfl : (pj lw).1 100 222 = some (.invokevirtual 35, 3, 10)) rfl rfl rfl (Nat.le_of_ble_eq_true rfl) (Nat.le_of_ble_eq_true rfl) ⟨rfl, rfl⟩
theorem w100_225 {x : Int32} : W (pj lw) 100 225 L (.int x :: S) k n H Q ↔ W (pj lw) 100 226 L S k n H Q := W_s (rfl : (pj lw).1 100 225 = some (.pop, 1, 0)) rfl rfl rfl
theorem w100_226 : W (pj lw) 100 226 L S k n H Q ↔ W (pj lw) 100 300 L S k n H Q := W_goto (rfl : (pj lw).1 100 226 = some (.goto 74, 3, 0)) rfl
theorem w100_229 {x : Int32} {l0 l1 l2 l3 l4 : Slot} : W (pj lw) 100 229 (l0 :: l1 :: l2 :: l3 :: l4 :: .val (.int x) :: L) S k n H Q ↔ W (pj lw) 100 231 (l0 :: l1 :: l2 :: l3 :: l4 :: .val (.int x) :: L) (.int x :: S) k n H Q := W_s (rfl : (pj lw).1 100 229 = some (.iload 5, 2, 0)) rfl rfl rfl
theorem w100_231 : W (pj lw) 100 231 L S k n H Q ↔ W (pj lw) 100 232 L (.int 3 :: S) k n H Q := W_s (rfl : (pj lw).1 100 231 = some (.iconst 3, 1, 0)) rfl rfl rfl
theorem w100_232 {x y : Int32} : W (pj lw) 100 232 L (.int y :: .int x :: S) k n H Q ↔ (if x = y then W (pj lw) 100 235 L S k n H Q else W (pj lw) 100 245 L S k n H Q) := W_icmp_ne (rfl : (pj lw).1 100 232 = some (.if_icmp .ne 13, 3, 0)) rfl
theorem w100_235 {x : Nat} {l0 l1 l2 : Slot} : W (pj lw) 100 235 (l0 :: l1 :: l2 :: .val (.ref x) :: L) S k n H Q ↔ W (pj lw) 100 236 (l0 :: l1 :: l2 :: .val (.ref x) :: L) (.ref x :: S) k n H Q := W_s (rfl : (pj lw).1 100 235 = some (.aload_n 3, 1, 0)) rfl rfl rfl
theorem w100_236 {x : Int32} {l0 l1 l2 l3 l4 l5 l6 l7 l8 l9 : Slot} : W (pj lw) 100 236 (l0 :: l1 :: l2 :: l3 :: l4 :: l5 :: l6 :: l7 :: l8 :: l9 :: .val (.int x) :: L) S k n H Q ↔ W (pj lw) 100 238 (l0 :: l1 :: l2 :: l3 :: l4 :: l5 :: l6 :: l7 :: l8 :: l9 :: .val (.int x) :: L) (.int x :: S) k n H Q := W_s (rfl : (pj lw).1 100 236 = some (.iload 10, 2, 0)) rfl rfl rfl
theorem w100_238 {a : Nat} {x0 : Int32} : W (pj lw) 100 238 L (.int x0 :: .ref a :: S) k n H Q ↔ ((isO H a = true ∧ cs S + (2 + 11) + 13 ≤ 176) ∧ Cl (pj lw) 11 [.ref a, .int x0] H (fun v H => W (pj lw) 100 241 L (v.toList ++ S) k n H Q)) := W_inst (as := [.int x0]) (rfl : (pj lw).1 100 238 = some (.invokevirtual 38, 3, 11)) rfl rfl rfl (Nat.le_of_ble_eq_true rfl) (Nat.le_of_ble_eq_true rfl) ⟨rfl, rfl⟩
theorem w100_241 {x : Int32} : W (pj lw) 100 241 L (.int x :: S) k n H Q ↔ W (pj lw) 100 242 L S k n H Q := W_s (rfl : (pj lw).1 100 241 = some (.pop, 1, 0)) rfl rfl rfl
theorem w100_242 : W (pj lw) 100 242 L S k n H Q ↔ W (pj lw) 100 300 L S k n H Q := W_goto (rfl : (pj lw).1 100 242 = some (.goto 58, 3, 0)) rfl
theorem w100_245 {x : Int32} {l0 l1 l2 l3 l4 : Slot} : W (pj lw) 100 245 (l0 :: l1 :: l2 :: l3 :: l4 :: .val (.int x) :: L) S k n H Q ↔ W (pj lw) 100 247 (l0 :: l1 :: l2 :: l3 :: l4 :: .val (.int x) :: L) (.int x :: S) k n H Q := W_s (rfl : (pj lw).1 100 245 = some (.iload 5, 2, 0)) rfl rfl rfl
theorem w100_247 : W (pj lw) 100 247 L S k n H Q ↔ W (pj lw) 100 248 L (.int 4 :: S) k n H Q := W_s (rfl : (pj lw).1 100 247 = some (.iconst 4, 1, 0)) rfl rfl rfl
theorem w100_248 {x y : Int32} : W (pj lw) 100 248 L (.int y :: .int x :: S) k n H Q ↔ (if x = y then W (pj lw) 100 251 L S k n H Q else W (pj lw) 100 264 L S k n H Q) := W_icmp_ne (rfl : (pj lw).1 100 248 = some (.if_icmp .ne 16, 3, 0)) rfl
theorem w100_251 {x : Nat} {l0 l1 l2 : Slot} : W (pj lw) 100 251 (l0 :: l1 :: l2 :: .val (.ref x) :: L) S k n H Q ↔ W (pj lw) 100 252 (l0 :: l1 :: l2 :: .val (.ref x) :: L) (.ref x :: S) k n H Q := W_s (rfl : (pj lw).1 100 251 = some (.aload_n 3, 1, 0)) rfl rfl rfl
theorem w100_252 {x : Nat} : W (pj lw) 100 252 (.val (.ref x) :: L) S k n H Q ↔ W (pj lw) 100 253 (.val (.ref x) :: L) (.ref x :: S) k n H Q := W_s (rfl : (pj lw).1 100 252 = some (.aload_n 0, 1, 0)) rfl rfl rfl
theorem w100_253 {x : Int32} {l0 l1 l2 l3 : Slot} : W (pj lw) 100 253 (l0 :: l1 :: l2 :: l3 :: .val (.int x) :: L) S k n H Q ↔ W (pj lw) 100 255 (l0 :: l1 :: l2 :: l3 :: .val (.int x) :: L) (.int x :: S) k n H Q := W_s (rfl : (pj lw).1 100 253 = some (.iload 4, 2, 0)) rfl rfl rfl
theorem w100_255 : W (pj lw) 100 255 L S k n H Q ↔ W (pj lw) 100 256 L (.int 1 :: S) k n H Q := W_s (rfl : (pj lw).1 100 255 = some (.iconst 1, 1, 0)) rfl rfl rfl
theorem w100_256 {x y : Int32} : W (pj lw) 100 256 L (.int y :: .int x :: S) k n H Q ↔ W (pj lw) 100 257 L (.int (x + y) :: S) k n H Q := W_s (rfl : (pj lw).1 100 256 = some (.iadd, 1, 0)) rfl rfl rfl
theorem w100_257 {i : Int32} {a : Nat} : W (pj lw) 100 257 L (.int i :: .ref a :: S) k n H Q ↔ (inA H a .int i = true ∧ W (pj lw) 100 258 L (elt H a i :: S) k n H Q) := W_iaload (rfl : (pj lw).1 100 257 = some (.iaload, 1, 0))
theorem w100_258 {a : Nat} {x0 : Int32} : W (pj lw) 100 258 L (.int x0 :: .ref a :: S) k n H Q ↔ ((isO H a = true ∧ cs S + (2 + 11) + 14 ≤ 176) ∧ Cl (pj lw) 12 [.ref a, .int x0] H (fun v H => W (pj lw) 100 261 L (v.toList ++ S) k n H Q)) := W_inst (as := [.int x0]) (rfl : (pj lw).1 100 258 = some (.invokevirtual 42, 3, 12)) rfl rfl rfl (Nat.le_of_ble_eq_true rfl) (Nat.le_of_ble_eq_true rfl) ⟨rfl, rfl⟩
theorem w100_261 : W (pj lw) 100 261 L S k n H Q ↔ W (pj lw) 100 300 L S k n H Q := W_goto (rfl : (pj lw).1 100 261 = some (.goto 39, 3, 0)) rfl
theorem w100_264 {x : Int32} {l0 l1 l2 l3 l4 : Slot} : W (pj lw) 100 264 (l0 :: l1 :: l2 :: l3 :: l4 :: .val (.int x) :: L) S k n H Q ↔ W (pj lw) 100 266 (l0 :: l1 :: l2 :: l3 :: l4 :: .val (.int x) :: L) (.int x :: S) k n H Q := W_s (rfl : (pj lw).1 100 264 = some (.iload 5, 2, 0)) rfl rfl rfl
theorem w100_266 : W (pj lw) 100 266 L S k n H Q ↔ W (pj lw) 100 267 L (.int 5 :: S) k n H Q := W_s (rfl : (pj lw).1 100 266 = some (.iconst 5, 1, 0)) rfl rfl rfl
theorem w100_267 {x y : Int32} : W (pj lw) 100 267 L (.int y :: .int x :: S) k n H Q ↔ (if x = y then W (pj lw) 100 270 L S k n H Q else W (pj lw) 100 278 L S k n H Q) := W_icmp_ne (rfl : (pj lw).1 100 267 = some (.if_icmp .ne 11, 3, 0)) rfl
theorem w100_270 {x : Nat} {l0 l1 l2 : Slot} : W (pj lw) 100 270 (l0 :: l1 :: l2 :: .val (.ref x) :: L) S k n H Q ↔ W (pj lw) 100 271 (l0 :: l1 :: l2 :: .val (.ref x) :: L) (.ref x :: S) k n H Q := W_s (rfl : (pj lw).1 100 270 = some (.aload_n 3, 1, 0)) rfl rfl rfl
theorem w100_271 {a : Nat} : W (pj lw) 100 271 L (.ref a :: S) k n H Q ↔ ((isO H a = true ∧ cs S + (4 + 11) + 28 ≤ 176) ∧ Cl (pj lw) 15 [.ref a] H (fun v H => W (pj lw) 100 274 L (v.toList ++ S) k n H Q)) := W_inst (as := []) (rfl : (pj lw).1 100 271 = some (.invokevirtual 46, 3, 15)) rfl rfl rfl (Nat.le_of_ble_eq_true rfl) (Nat.le_of_ble_eq_true rfl) ⟨rfl, rfl⟩
theorem w100_274 {x : Int32} : W (pj lw) 100 274 L (.int x :: S) k n H Q ↔ W (pj lw) 100 275 L S k n H Q := W_s (rfl : (pj lw).1 100 274 = some (.pop, 1, 0)) rfl rfl rfl
theorem w100_275 : W (pj lw) 100 275 L S k n H Q ↔ W (pj lw) 100 300 L S k n H Q := W_goto (rfl : (pj lw).1 100 275 = some (.goto 25, 3, 0)) rfl
theorem w100_278 {x : Int32} {l0 l1 l2 l3 l4 : Slot} : W (pj lw) 100 278 (l0 :: l1 :: l2 :: l3 :: l4 :: .val (.int x) :: L) S k n H Q ↔ W (pj lw) 100 280 (l0 :: l1 :: l2 :: l3 :: l4 :: .val (.int x) :: L) (.int x :: S) k n H Q := W_s (rfl : (pj lw).1 100 278 = some (.iload 5, 2, 0)) rfl rfl rfl
theorem w100_280 : W (pj lw) 100 280 L S k n H Q ↔ W (pj lw) 100 282 L (.int 6 :: S) k n H Q := W_s (rfl : (pj lw).1 100 280 = some (.bipush 6, 2, 0)) rfl rfl rfl
theorem w100_282 {x y : Int32} : W (pj lw) 100 282 L (.int y :: .int x :: S) k n H Q ↔ (if x = y then W (pj lw) 100 285 L S k n H Q else W (pj lw) 100 295 L S k n H Q) := W_icmp_ne (rfl : (pj lw).1 100 282 = some (.if_icmp .ne 13, 3, 0)) rfl
theorem w100_285 {x : Nat} {l0 l1 l2 : Slot} : W (pj lw) 100 285 (l0 :: l1 :: l2 :: .val (.ref x) :: L) S k n H Q ↔ W (pj lw) 100 286 (l0 :: l1 :: l2 :: .val (.ref x) :: L) (.ref x :: S) k n H Q := W_s (rfl : (pj lw).1 100 285 = some (.aload_n 3, 1, 0)) rfl rfl rfl
theorem w100_286 {x : Int32} {l0 l1 l2 l3 l4 l5 l6 l7 l8 l9 : Slot} : W (pj lw) 100 286 (l0 :: l1 :: l2 :: l3 :: l4 :: l5 :: l6 :: l7 :: l8 :: l9 :: .val (.int x) :: L) S k n H Q ↔ W (pj lw) 100 288 (l0 :: l1 :: l2 :: l3 :: l4 :: l5 :: l6 :: l7 :: l8 :: l9 :: .val (.int x) :: L) (.int x :: S) k n H Q := W_s (rfl : (pj lw).1 100 286 = some (.iload 10, 2, 0)) rfl rfl rfl
theorem w100_288 {a : Nat} {x0 : Int32} : W (pj lw) 100 288 L (.int x0 :: .ref a :: S) k n H Q ↔ ((isO H a = true ∧ cs S + (2 + 11) + 13 ≤ 176) ∧ Cl (pj lw) 16 [.ref a, .int x0] H (fun v H => W (pj lw) 100 291 L (v.toList ++ S) k n H Q)) := W_inst (as := [.int x0]) (rfl : (pj lw).1 100 288 = some (.invokevirtual 49, 3, 16)) rfl rfl rfl (Nat.le_of_ble_eq_true rfl) (Nat.le_of_ble_eq_true rfl) ⟨rfl, rfl⟩
theorem w100_291 {x : Int32} : W (pj lw) 100 291 L (.int x :: S) k n H Q ↔ W (pj lw) 100 292 L S k n H Q := W_s (rfl : (pj lw).1 100 291 = some (.pop, 1, 0)) rfl rfl rfl
theorem w100_292 : W (pj lw) 100 292 L S k n H Q ↔ W (pj lw) 100 300 L S k n H Q := W_goto (rfl : (pj lw).1 100 292 = some (.goto 8, 3, 0)) rfl
theorem w100_295 {x : Nat} {l0 l1 l2 : Slot} : W (pj lw) 100 295 (l0 :: l1 :: l2 :: .val (.ref x) :: L) S k n H Q ↔ W (pj lw) 100 296 (l0 :: l1 :: l2 :: .val (.ref x) :: L) (.ref x :: S) k n H Q := W_s (rfl : (pj lw).1 100 295 = some (.aload_n 3, 1, 0)) rfl rfl rfl
theorem w100_296 {a : Nat} : W (pj lw) 100 296 L (.ref a :: S) k n H Q ↔ ((isO H a = true ∧ cs S + (5 + 11) + 55 ≤ 176) ∧ Cl (pj lw) 18 [.ref a] H (fun v H => W (pj lw) 100 299 L (v.toList ++ S) k n H Q)) := W_inst (as := []) (rfl : (pj lw).1 100 296 = some (.invokevirtual 52, 3, 18)) rfl rfl rfl (Nat.le_of_ble_eq_true rfl) (Nat.le_of_ble_eq_true rfl) ⟨rfl, rfl⟩
theorem w100_299 {x : Int32} : W (pj lw) 100 299 L (.int x :: S) k n H Q ↔ W (pj lw) 100 300 L S k n H Q := W_s (rfl : (pj lw).1 100 299 = some (.pop, 1, 0)) rfl rfl rfl
theorem w100_300 {x : Int32} {l0 l1 l2 l3 : Slot} : W (pj lw) 100 300 (l0 :: l1 :: l2 :: l3 :: .val (.int x) :: L) S k n H Q ↔ W (pj lw) 100 303 (l0 :: l1 :: l2 :: l3 :: .val (.int (x + 4)) :: L) S k n H Q := W_s (rfl : (pj lw).1 100 300 = some (.iinc 4 4, 3, 0)) rfl rfl rfl
theorem w100_303 : W (pj lw) 100 303 L S k n H Q ↔ W (pj lw) 100 48 L S k n H Q := W_goto (rfl : (pj lw).1 100 303 = some (.goto (-255), 3, 0)) rfl
theorem w100_306 {x : Nat} {l0 l1 l2 : Slot} : W (pj lw) 100 306 (l0 :: l1 :: l2 :: .val (.ref x) :: L) S k n H Q ↔ W (pj lw) 100 307 (l0 :: l1 :: l2 :: .val (.ref x) :: L) (.ref x :: S) k n H Q := W_s (rfl : (pj lw).1 100 306 = some (.aload_n 3, 1, 0)) rfl rfl rfl
theorem w100_307 {a : Nat} : W (pj lw) 100 307 L (.ref a :: S) k n H Q ↔ ((isO H a = true ∧ cs S + (1 + 11) + 0 ≤ 176) ∧ Cl (pj lw) 34 [.ref a] H (fun v H => W (pj lw) 100 310 L (v.toList ++ S) k n H Q)) := W_inst (as := []) (rfl : (pj lw).1 100 307 = some (.invokevirtual 27, 3, 34)) rfl rfl rfl (Nat.le_of_ble_eq_true rfl) (Nat.le_of_ble_eq_true rfl) ⟨rfl, rfl⟩
theorem w100_310 {x : Int32} {l0 l1 l2 l3 : Slot} : W (pj lw) 100 310 (l0 :: l1 :: l2 :: l3 :: .unset :: L) (.int x :: S) k n H Q ↔ W (pj lw) 100 312 (l0 :: l1 :: l2 :: l3 :: .val (.int x) :: L) S k n H Q := W_ist (rfl : (pj lw).1 100 310 = some (.istore 4, 2, 0)) rfl rfl
theorem w100_312 {x : Nat} : W (pj lw) 100 312 (.val (.ref x) :: L) S k n H Q ↔ W (pj lw) 100 313 (.val (.ref x) :: L) (.ref x :: S) k n H Q := W_s (rfl : (pj lw).1 100 312 = some (.aload_n 0, 1, 0)) rfl rfl rfl
theorem w100_313 {a : Nat} : W (pj lw) 100 313 L (.ref a :: S) k n H Q ↔ (isA H a = true ∧ W (pj lw) 100 314 L (.int (alen H a).toInt32 :: S) k n H Q) := W_alen (rfl : (pj lw).1 100 313 = some (.arraylength, 1, 0))
theorem w100_314 {x : Int32} : W (pj lw) 100 314 L (.int x :: S) k n H Q ↔ (if 0 < x then W (pj lw) 100 317 L S k n H Q else W (pj lw) 100 326 L S k n H Q) := W_if_le (rfl : (pj lw).1 100 314 = some (.ifCond .le 12, 3, 0)) rfl
theorem w100_317 {x : Nat} : W (pj lw) 100 317 (.val (.ref x) :: L) S k n H Q ↔ W (pj lw) 100 318 (.val (.ref x) :: L) (.ref x :: S) k n H Q := W_s (rfl : (pj lw).1 100 317 = some (.aload_n 0, 1, 0)) rfl rfl rfl
theorem w100_318 {x : Nat} : W (pj lw) 100 318 (.val (.ref x) :: L) S k n H Q ↔ W (pj lw) 100 319 (.val (.ref x) :: L) (.ref x :: S) k n H Q := W_s (rfl : (pj lw).1 100 318 = some (.aload_n 0, 1, 0)) rfl rfl rfl
theorem w100_319 {a : Nat} : W (pj lw) 100 319 L (.ref a :: S) k n H Q ↔ (isA H a = true ∧ W (pj lw) 100 320 L (.int (alen H a).toInt32 :: S) k n H Q) := W_alen (rfl : (pj lw).1 100 319 = some (.arraylength, 1, 0))
theorem w100_320 : W (pj lw) 100 320 L S k n H Q ↔ W (pj lw) 100 321 L (.int 1 :: S) k n H Q := W_s (rfl : (pj lw).1 100 320 = some (.iconst 1, 1, 0)) rfl rfl rfl
theorem w100_321 {x y : Int32} : W (pj lw) 100 321 L (.int y :: .int x :: S) k n H Q ↔ W (pj lw) 100 322 L (.int (x - y) :: S) k n H Q := W_s (rfl : (pj lw).1 100 321 = some (.isub, 1, 0)) rfl rfl rfl
theorem w100_322 {i : Int32} {a : Nat} : W (pj lw) 100 322 L (.int i :: .ref a :: S) k n H Q ↔ (inA H a .int i = true ∧ W (pj lw) 100 323 L (elt H a i :: S) k n H Q) := W_iaload (rfl : (pj lw).1 100 322 = some (.iaload, 1, 0))
theorem w100_323 : W (pj lw) 100 323 L S k n H Q ↔ W (pj lw) 100 327 L S k n H Q := W_goto (rfl : (pj lw).1 100 323 = some (.goto 4, 3, 0)) rfl
theorem w100_326 : W (pj lw) 100 326 L S k n H Q ↔ W (pj lw) 100 327 L (.int 0 :: S) k n H Q := W_s (rfl : (pj lw).1 100 326 = some (.iconst 0, 1, 0)) rfl rfl rfl
theorem w100_327 {x : Int32} {l0 l1 l2 l3 l4 : Slot} : W (pj lw) 100 327 (l0 :: l1 :: l2 :: l3 :: l4 :: .unset :: L) (.int x :: S) k n H Q ↔ W (pj lw) 100 329 (l0 :: l1 :: l2 :: l3 :: l4 :: .val (.int x) :: L) S k n H Q := W_ist (rfl : (pj lw).1 100 327 = some (.istore 5, 2, 0)) rfl rfl
theorem w100_329 {x : Nat} {l0 l1 l2 : Slot} : W (pj lw) 100 329 (l0 :: l1 :: l2 :: .val (.ref x) :: L) S k n H Q ↔ W (pj lw) 100 330 (l0 :: l1 :: l2 :: .val (.ref x) :: L) (.ref x :: S) k n H Q := W_s (rfl : (pj lw).1 100 329 = some (.aload_n 3, 1, 0)) rfl rfl rfl
theorem w100_330 {a : Nat} : W (pj lw) 100 330 L (.ref a :: S) k n H Q ↔ ((isO H a = true ∧ cs S + (4 + 11) + 28 ≤ 176) ∧ Cl (pj lw) 15 [.ref a] H (fun v H => W (pj lw) 100 333 L (v.toList ++ S) k n H Q)) := W_inst (as := []) (rfl : (pj lw).1 100 330 = some (.invokevirtual 46, 3, 15)) rfl rfl rfl (Nat.le_of_ble_eq_true rfl) (Nat.le_of_ble_eq_true rfl) ⟨rfl, rfl⟩
theorem w100_333 {x : Int32} {l0 l1 l2 l3 : Slot} : W (pj lw) 100 333 (l0 :: l1 :: l2 :: l3 :: .val (.int x) :: L) S k n H Q ↔ W (pj lw) 100 335 (l0 :: l1 :: l2 :: l3 :: .val (.int x) :: L) (.int x :: S) k n H Q := W_s (rfl : (pj lw).1 100 333 = some (.iload 4, 2, 0)) rfl rfl rfl
theorem w100_335 {x y : Int32} : W (pj lw) 100 335 L (.int y :: .int x :: S) k n H Q ↔ (if x = y then W (pj lw) 100 340 L S k n H Q else W (pj lw) 100 338 L S k n H Q) := W_icmp_eq (rfl : (pj lw).1 100 335 = some (.if_icmp .eq 5, 3, 0)) rfl
theorem w100_340 : W (pj lw) 100 340 L S k n H Q ↔ W (pj lw) 100 341 L (.int 0 :: S) k n H Q := W_s (rfl : (pj lw).1 100 340 = some (.iconst 0, 1, 0)) rfl rfl rfl
theorem w100_341 {x : Int32} {l0 l1 l2 l3 l4 l5 : Slot} : W (pj lw) 100 341 (l0 :: l1 :: l2 :: l3 :: l4 :: l5 :: .unset :: L) (.int x :: S) k n H Q ↔ W (pj lw) 100 343 (l0 :: l1 :: l2 :: l3 :: l4 :: l5 :: .val (.int x) :: L) S k n H Q := W_ist (rfl : (pj lw).1 100 341 = some (.istore 6, 2, 0)) rfl rfl
theorem w100_343 : W (pj lw) 100 343 L S k n H Q ↔ W (pj lw) 100 344 L (.int 1 :: S) k n H Q := W_s (rfl : (pj lw).1 100 343 = some (.iconst 1, 1, 0)) rfl rfl rfl
theorem w100_344 {x : Int32} {l0 l1 l2 l3 l4 l5 l6 : Slot} : W (pj lw) 100 344 (l0 :: l1 :: l2 :: l3 :: l4 :: l5 :: l6 :: .unset :: L) (.int x :: S) k n H Q ↔ W (pj lw) 100 346 (l0 :: l1 :: l2 :: l3 :: l4 :: l5 :: l6 :: .val (.int x) :: L) S k n H Q := W_ist (rfl : (pj lw).1 100 344 = some (.istore 7, 2, 0)) rfl rfl
theorem w100_346 {x : Int32} {l0 l1 l2 l3 l4 l5 l6 : Slot} : W (pj lw) 100 346 (l0 :: l1 :: l2 :: l3 :: l4 :: l5 :: l6 :: .val (.int x) :: L) S k n H Q ↔ W (pj lw) 100 348 (l0 :: l1 :: l2 :: l3 :: l4 :: l5 :: l6 :: .val (.int x) :: L) (.int x :: S) k n H Q := W_s (rfl : (pj lw).1 100 346 = some (.iload 7, 2, 0)) rfl rfl rfl
theorem w100_348 {x : Int32} {l0 l1 l2 l3 : Slot} : W (pj lw) 100 348 (l0 :: l1 :: l2 :: l3 :: .val (.int x) :: L) S k n H Q ↔ W (pj lw) 100 350 (l0 :: l1 :: l2 :: l3 :: .val (.int x) :: L) (.int x :: S) k n H Q := W_s (rfl : (pj lw).1 100 348 = some (.iload 4, 2, 0)) rfl rfl rfl
theorem w100_350 {x y : Int32} : W (pj lw) 100 350 L (.int y :: .int x :: S) k n H Q ↔ (if y < x then W (pj lw) 100 370 L S k n H Q else W (pj lw) 100 353 L S k n H Q) := W_icmp_gt (rfl : (pj lw).1 100 350 = some (.if_icmp .gt 20, 3, 0)) rfl
theorem w100_353 {x : Nat} {l0 l1 l2 : Slot} : W (pj lw) 100 353 (l0 :: l1 :: l2 :: .val (.ref x) :: L) S k n H Q ↔ W (pj lw) 100 354 (l0 :: l1 :: l2 :: .val (.ref x) :: L) (.ref x :: S) k n H Q := W_s (rfl : (pj lw).1 100 353 = some (.aload_n 3, 1, 0)) rfl rfl rfl
theorem w100_354 {x : Int32} {l0 l1 l2 l3 l4 l5 l6 : Slot} : W (pj lw) 100 354 (l0 :: l1 :: l2 :: l3 :: l4 :: l5 :: l6 :: .val (.int x) :: L) S k n H Q ↔ W (pj lw) 100 356 (l0 :: l1 :: l2 :: l3 :: l4 :: l5 :: l6 :: .val (.int x) :: L) (.int x :: S) k n H Q := W_s (rfl : (pj lw).1 100 354 = some (.iload 7, 2, 0)) rfl rfl rfl
theorem w100_356 {a : Nat} {x0 : Int32} : W (pj lw) 100 356 L (.int x0 :: .ref a :: S) k n H Q ↔ ((isO H a = true ∧ cs S + (2 + 11) + 13 ≤ 176) ∧ Cl (pj lw) 16 [.ref a, .int x0] H (fun v H => W (pj lw) 100 359 L (v.toList ++ S) k n H Q)) := W_inst (as := [.int x0]) (rfl : (pj lw).1 100 356 = some (.invokevirtual 49, 3, 16)) rfl rfl rfl (Nat.le_of_ble_eq_true rfl) (Nat.le_of_ble_eq_true rfl) ⟨rfl, rfl⟩
theorem w100_359 {x : Int32} : W (pj lw) 100 359 L (.int x :: S) k n H Q ↔ (if x = 0 then W (pj lw) 100 364 L S k n H Q else W (pj lw) 100 362 L S k n H Q) := W_if_eq (rfl : (pj lw).1 100 359 = some (.ifCond .eq 5, 3, 0)) rfl
theorem w100_364 {x : Int32} {l0 l1 l2 l3 l4 l5 l6 : Slot} : W (pj lw) 100 364 (l0 :: l1 :: l2 :: l3 :: l4 :: l5 :: l6 :: .val (.int x) :: L) S k n H Q ↔ W (pj lw) 100 367 (l0 :: l1 :: l2 :: l3 :: l4 :: l5 :: l6 :: .val (.int (x + 1)) :: L) S k n H Q := W_s (rfl : (pj lw).1 100 364 = some (.iinc 7 1, 3, 0)) rfl rfl rfl
theorem w100_367 : W (pj lw) 100 367 L S k n H Q ↔ W (pj lw) 100 346 L S k n H Q := W_goto (rfl : (pj lw).1 100 367 = some (.goto (-21), 3, 0)) rfl
theorem w100_370 : W (pj lw) 100 370 L S k n H Q ↔ W (pj lw) 100 371 L (.int 1 :: S) k n H Q := W_s (rfl : (pj lw).1 100 370 = some (.iconst 1, 1, 0)) rfl rfl rfl
theorem w100_371 {x : Int32} {l0 l1 l2 l3 l4 l5 l6 : Slot} : W (pj lw) 100 371 (l0 :: l1 :: l2 :: l3 :: l4 :: l5 :: l6 :: .unset :: L) (.int x :: S) k n H Q ↔ W (pj lw) 100 373 (l0 :: l1 :: l2 :: l3 :: l4 :: l5 :: l6 :: .val (.int x) :: L) S k n H Q := W_ist (rfl : (pj lw).1 100 371 = some (.istore 7, 2, 0)) rfl rfl
theorem w100_373 {x : Int32} {l0 l1 l2 l3 l4 l5 l6 : Slot} : W (pj lw) 100 373 (l0 :: l1 :: l2 :: l3 :: l4 :: l5 :: l6 :: .val (.int x) :: L) S k n H Q ↔ W (pj lw) 100 375 (l0 :: l1 :: l2 :: l3 :: l4 :: l5 :: l6 :: .val (.int x) :: L) (.int x :: S) k n H Q := W_s (rfl : (pj lw).1 100 373 = some (.iload 7, 2, 0)) rfl rfl rfl
theorem w100_375 {x : Int32} {l0 l1 l2 l3 : Slot} : W (pj lw) 100 375 (l0 :: l1 :: l2 :: l3 :: .val (.int x) :: L) S k n H Q ↔ W (pj lw) 100 377 (l0 :: l1 :: l2 :: l3 :: .val (.int x) :: L) (.int x :: S) k n H Q := W_s (rfl : (pj lw).1 100 375 = some (.iload 4, 2, 0)) rfl rfl rfl
theorem w100_377 {x y : Int32} : W (pj lw) 100 377 L (.int y :: .int x :: S) k n H Q ↔ (if y < x then W (pj lw) 100 413 L S k n H Q else W (pj lw) 100 380 L S k n H Q) := W_icmp_gt (rfl : (pj lw).1 100 377 = some (.if_icmp .gt 36, 3, 0)) rfl
theorem w100_380 {x : Int32} {l0 l1 l2 l3 l4 : Slot} : W (pj lw) 100 380 (l0 :: l1 :: l2 :: l3 :: l4 :: .val (.int x) :: L) S k n H Q ↔ W (pj lw) 100 382 (l0 :: l1 :: l2 :: l3 :: l4 :: .val (.int x) :: L) (.int x :: S) k n H Q := W_s (rfl : (pj lw).1 100 380 = some (.iload 5, 2, 0)) rfl rfl rfl
theorem w100_382 {x : Int32} {l0 l1 l2 l3 l4 l5 l6 : Slot} : W (pj lw) 100 382 (l0 :: l1 :: l2 :: l3 :: l4 :: l5 :: l6 :: .val (.int x) :: L) S k n H Q ↔ W (pj lw) 100 384 (l0 :: l1 :: l2 :: l3 :: l4 :: l5 :: l6 :: .val (.int x) :: L) (.int x :: S) k n H Q := W_s (rfl : (pj lw).1 100 382 = some (.iload 7, 2, 0)) rfl rfl rfl
theorem w100_384 : W (pj lw) 100 384 L S k n H Q ↔ W (pj lw) 100 385 L (.int 1 :: S) k n H Q := W_s (rfl : (pj lw).1 100 384 = some (.iconst 1, 1, 0)) rfl rfl rfl
theorem w100_385 {x y : Int32} : W (pj lw) 100 385 L (.int y :: .int x :: S) k n H Q ↔ W (pj lw) 100 386 L (.int (x - y) :: S) k n H Q := W_s (rfl : (pj lw).1 100 385 = some (.isub, 1, 0)) rfl rfl rfl
theorem w100_386 {x y : Int32} : W (pj lw) 100 386 L (.int y :: .int x :: S) k n H Q ↔ W (pj lw) 100 387 L (.int (Jvm.Free.XT.ushr x y) :: S) k n H Q := W_s (rfl : (pj lw).1 100 386 = some (.iushr, 1, 0)) rfl rfl rfl
theorem w100_387 : W (pj lw) 100 387 L S k n H Q ↔ W (pj lw) 100 388 L (.int 1 :: S) k n H Q := W_s (rfl : (pj lw).1 100 387 = some (.iconst 1, 1, 0)) rfl rfl rfl
theorem w100_388 {x y : Int32} : W (pj lw) 100 388 L (.int y :: .int x :: S) k n H Q ↔ W (pj lw) 100 389 L (.int (x &&& y) :: S) k n H Q := W_s (rfl : (pj lw).1 100 388 = some (.iand, 1, 0)) rfl rfl rfl
theorem w100_389 {x : Int32} : W (pj lw) 100 389 L (.int x :: S) k n H Q ↔ (if x = 0 then W (pj lw) 100 407 L S k n H Q else W (pj lw) 100 392 L S k n H Q) := W_if_eq (rfl : (pj lw).1 100 389 = some (.ifCond .eq 18, 3, 0)) rfl
theorem w100_392 {x : Nat} {l0 l1 l2 : Slot} : W (pj lw) 100 392 (l0 :: l1 :: l2 :: .val (.ref x) :: L) S k n H Q ↔ W (pj lw) 100 393 (l0 :: l1 :: l2 :: .val (.ref x) :: L) (.ref x :: S) k n H Q := W_s (rfl : (pj lw).1 100 392 = some (.aload_n 3, 1, 0)) rfl rfl rfl
theorem w100_393 {x : Int32} {l0 l1 l2 l3 l4 l5 l6 : Slot} : W (pj lw) 100 393 (l0 :: l1 :: l2 :: l3 :: l4 :: l5 :: l6 :: .val (.int x) :: L) S k n H Q ↔ W (pj lw) 100 395 (l0 :: l1 :: l2 :: l3 :: l4 :: l5 :: l6 :: .val (.int x) :: L) (.int x :: S) k n H Q := W_s (rfl : (pj lw).1 100 393 = some (.iload 7, 2, 0)) rfl rfl rfl
theorem w100_395 {a : Nat} {x0 : Int32} : W (pj lw) 100 395 L (.int x0 :: .ref a :: S) k n H Q ↔ ((isO H a = true ∧ cs S + (2 + 11) + 13 ≤ 176) ∧ Cl (pj lw) 11 [.ref a, .int x0] H (fun v H => W (pj lw) 100 398 L (v.toList ++ S) k n H Q)) := W_inst (as := [.int x0]) (rfl : (pj lw).1 100 395 = some (.invokevirtual 38, 3, 11)) rfl rfl rfl (Nat.le_of_ble_eq_true rfl) (Nat.le_of_ble_eq_true rfl) ⟨rfl, rfl⟩
theorem w100_398 {x : Int32} : W (pj lw) 100 398 L (.int x :: S) k n H Q ↔ (if x = 0 then W (pj lw) 100 403 L S k n H Q else W (pj lw) 100 401 L S k n H Q) := W_if_eq (rfl : (pj lw).1 100 398 = some (.ifCond .eq 5, 3, 0)) rfl
theorem w100_403 {x : Int32} {l0 l1 l2 l3 l4 l5 l6 : Slot} : W (pj lw) 100 403 (l0 :: l1 :: l2 :: l3 :: l4 :: l5 :: l6 :: .val (.int x) :: L) S k n H Q ↔ W (pj lw) 100 405 (l0 :: l1 :: l2 :: l3 :: l4 :: l5 :: l6 :: .val (.int x) :: L) (.int x :: S) k n H Q := W_s (rfl : (pj lw).1 100 403 = some (.iload 7, 2, 0)) rfl rfl rfl
theorem w100_405i {y : Int32} {x : Int32} {l0 l1 l2 l3 l4 l5 : Slot} : W (pj lw) 100 405 (l0 :: l1 :: l2 :: l3 :: l4 :: l5 :: .val (.int y) :: L) (.int x :: S) k n H Q ↔ W (pj lw) 100 407 (l0 :: l1 :: l2 :: l3 :: l4 :: l5 :: .val (.int x) :: L) S k n H Q := W_ist (rfl : (pj lw).1 100 405 = some (.istore 6, 2, 0)) rfl rfl
theorem w100_407 {x : Int32} {l0 l1 l2 l3 l4 l5 l6 : Slot} : W (pj lw) 100 407 (l0 :: l1 :: l2 :: l3 :: l4 :: l5 :: l6 :: .val (.int x) :: L) S k n H Q ↔ W (pj lw) 100 410 (l0 :: l1 :: l2 :: l3 :: l4 :: l5 :: l6 :: .val (.int (x + 1)) :: L) S k n H Q := W_s (rfl : (pj lw).1 100 407 = some (.iinc 7 1, 3, 0)) rfl rfl rfl
theorem w100_410 : W (pj lw) 100 410 L S k n H Q ↔ W (pj lw) 100 373 L S k n H Q := W_goto (rfl : (pj lw).1 100 410 = some (.goto (-37), 3, 0)) rfl
theorem w100_413 {x : Nat} {l0 l1 l2 : Slot} : W (pj lw) 100 413 (l0 :: l1 :: l2 :: .val (.ref x) :: L) S k n H Q ↔ W (pj lw) 100 414 (l0 :: l1 :: l2 :: .val (.ref x) :: L) (.ref x :: S) k n H Q := W_s (rfl : (pj lw).1 100 413 = some (.aload_n 3, 1, 0)) rfl rfl rfl
theorem w100_414 {a : Nat} : W (pj lw) 100 414 L (.ref a :: S) k n H Q ↔ ((isO H a = true ∧ cs S + (5 + 11) + 55 ≤ 176) ∧ Cl (pj lw) 18 [.ref a] H (fun v H => W (pj lw) 100 417 L (v.toList ++ S) k n H Q)) := W_inst (as := []) (rfl : (pj lw).1 100 414 = some (.invokevirtual 52, 3, 18)) rfl rfl rfl (Nat.le_of_ble_eq_true rfl) (Nat.le_of_ble_eq_true rfl) ⟨rfl, rfl⟩
theorem w100_417 : W (pj lw) 100 417 L S k n H Q ↔ W (pj lw) 100 418 L (.int 1 :: S) k n H Q := W_s (rfl : (pj lw).1 100 417 = some (.iconst 1, 1, 0)) rfl rfl rfl
theorem w100_418 {x y : Int32} : W (pj lw) 100 418 L (.int y :: .int x :: S) k n H Q ↔ (if x = y then W (pj lw) 100 421 L S k n H Q else W (pj lw) 100 428 L S k n H Q) := W_icmp_ne (rfl : (pj lw).1 100 418 = some (.if_icmp .ne 10, 3, 0)) rfl
theorem w100_421 {x : Nat} {l0 l1 l2 : Slot} : W (pj lw) 100 421 (l0 :: l1 :: l2 :: .val (.ref x) :: L) S k n H Q ↔ W (pj lw) 100 422 (l0 :: l1 :: l2 :: .val (.ref x) :: L) (.ref x :: S) k n H Q := W_s (rfl : (pj lw).1 100 421 = some (.aload_n 3, 1, 0)) rfl rfl rfl
theorem w100_422 {a : Nat} : W (pj lw) 100 422 L (.ref a :: S) k n H Q ↔ ((isO H a = true ∧ cs S + (1 + 11) + 0 ≤ 176) ∧ Cl (pj lw) 32 [.ref a] H (fun v H => W (pj lw) 100 425 L (v.toList ++ S) k n H Q)) := W_inst (as := []) (rfl : (pj lw).1 100 422 = some (.invokevirtual 55, 3, 32)) rfl rfl rfl (Nat.le_of_ble_eq_true rfl) (Nat.le_of_ble_eq_true rfl) ⟨rfl, rfl⟩
theorem w100_425 {x : Int32} : W (pj lw) 100 425 L (.int x :: S) k n H Q ↔ (if x = 0 then W (pj lw) 100 430 L S k n H Q else W (pj lw) 100 428 L S k n H Q) := W_if_eq (rfl : (pj lw).1 100 425 = some (.ifCond .eq 5, 3, 0)) rfl
theorem w100_430 : W (pj lw) 100 430 L S k n H Q ↔ W (pj lw) 100 431 L (.int 1 :: S) k n H Q := W_s (rfl : (pj lw).1 100 430 = some (.iconst 1, 1, 0)) rfl rfl rfl
theorem w100_431 {x : Int32} {l0 l1 l2 l3 l4 l5 l6 : Slot} : W (pj lw) 100 431 (l0 :: l1 :: l2 :: l3 :: l4 :: l5 :: l6 :: .unset :: L) (.int x :: S) k n H Q ↔ W (pj lw) 100 433 (l0 :: l1 :: l2 :: l3 :: l4 :: l5 :: l6 :: .val (.int x) :: L) S k n H Q := W_ist (rfl : (pj lw).1 100 431 = some (.istore 7, 2, 0)) rfl rfl
theorem w100_433 {x : Int32} {l0 l1 l2 l3 l4 l5 l6 : Slot} : W (pj lw) 100 433 (l0 :: l1 :: l2 :: l3 :: l4 :: l5 :: l6 :: .val (.int x) :: L) S k n H Q ↔ W (pj lw) 100 435 (l0 :: l1 :: l2 :: l3 :: l4 :: l5 :: l6 :: .val (.int x) :: L) (.int x :: S) k n H Q := W_s (rfl : (pj lw).1 100 433 = some (.iload 7, 2, 0)) rfl rfl rfl
theorem w100_435 {x : Int32} {l0 l1 l2 l3 : Slot} : W (pj lw) 100 435 (l0 :: l1 :: l2 :: l3 :: .val (.int x) :: L) S k n H Q ↔ W (pj lw) 100 437 (l0 :: l1 :: l2 :: l3 :: .val (.int x) :: L) (.int x :: S) k n H Q := W_s (rfl : (pj lw).1 100 435 = some (.iload 4, 2, 0)) rfl rfl rfl
theorem w100_437 {x y : Int32} : W (pj lw) 100 437 L (.int y :: .int x :: S) k n H Q ↔ (if y < x then W (pj lw) 100 516 L S k n H Q else W (pj lw) 100 440 L S k n H Q) := W_icmp_gt (rfl : (pj lw).1 100 437 = some (.if_icmp .gt 79, 3, 0)) rfl
theorem w100_440 {x : Nat} {l0 l1 l2 : Slot} : W (pj lw) 100 440 (l0 :: l1 :: l2 :: .val (.ref x) :: L) S k n H Q ↔ W (pj lw) 100 441 (l0 :: l1 :: l2 :: .val (.ref x) :: L) (.ref x :: S) k n H Q := W_s (rfl : (pj lw).1 100 440 = some (.aload_n 3, 1, 0)) rfl rfl rfl
theorem w100_441 {x : Int32} {l0 l1 l2 l3 l4 l5 l6 : Slot} : W (pj lw) 100 441 (l0 :: l1 :: l2 :: l3 :: l4 :: l5 :: l6 :: .val (.int x) :: L) S k n H Q ↔ W (pj lw) 100 443 (l0 :: l1 :: l2 :: l3 :: l4 :: l5 :: l6 :: .val (.int x) :: L) (.int x :: S) k n H Q := W_s (rfl : (pj lw).1 100 441 = some (.iload 7, 2, 0)) rfl rfl rfl
theorem w100_443 : W (pj lw) 100 443 L S k n H Q ↔ W (pj lw) 100 444 L (.int 0 :: S) k n H Q := W_s (rfl : (pj lw).1 100 443 = some (.iconst 0, 1, 0)) rfl rfl rfl
theorem w100_444 {a : Nat} {x0 : Int32} {x1 : Int32} : W (pj lw) 100 444 L (.int x1 :: .int x0 :: .ref a :: S) k n H Q ↔ ((isO H a = true ∧ cs S + (3 + 11) + 13 ≤ 176) ∧ Cl (pj lw) 17 [.ref a, .int x0, .int x1] H (fun v H => W (pj lw) 100 447 L (v.toList ++ S) k n H Q)) := W_inst (as := [.int x0, .int x1]) (rfl : (pj lw).1 100 444 = some (.invokevirtual 58, 3, 17)) rfl rfl rfl (Nat.le_of_ble_eq_true rfl) (Nat.le_of_ble_eq_true rfl) ⟨rfl, rfl⟩
theorem w100_447 {x : Int32} {l0 l1 l2 l3 l4 l5 l6 l7 : Slot} : W (pj lw) 100 447 (l0 :: l1 :: l2 :: l3 :: l4 :: l5 :: l6 :: l7 :: .unset :: L) (.int x :: S) k n H Q ↔ W (pj lw) 100 449 (l0 :: l1 :: l2 :: l3 :: l4 :: l5 :: l6 :: l7 :: .val (.int x) :: L) S k n H Q := W_ist (rfl : (pj lw).1 100 447 = some (.istore 8, 2, 0)) rfl rfl
theorem w100_449 {x : Nat} {l0 l1 l2 : Slot} : W (pj lw) 100 449 (l0 :: l1 :: l2 :: .val (.ref x) :: L) S k n H Q ↔ W (pj lw) 100 450 (l0 :: l1 :: l2 :: .val (.ref x) :: L) (.ref x :: S) k n H Q := W_s (rfl : (pj lw).1 100 449 = some (.aload_n 3, 1, 0)) rfl rfl rfl
theorem w100_450 {x : Int32} {l0 l1 l2 l3 l4 l5 l6 : Slot} : W (pj lw) 100 450 (l0 :: l1 :: l2 :: l3 :: l4 :: l5 :: l6 :: .val (.int x) :: L) S k n H Q ↔ W (pj lw) 100 452 (l0 :: l1 :: l2 :: l3 :: l4 :: l5 :: l6 :: .val (.int x) :: L) (.int x :: S) k n H Q := W_s (rfl : (pj lw).1 100 450 = some (.iload 7, 2, 0)) rfl rfl rfl
theorem w100_452 : W (pj lw) 100 452 L S k n H Q ↔ W (pj lw) 100 453 L (.int 1 :: S) k n H Q := W_s (rfl : (pj lw).1 100 452 = some (.iconst 1, 1, 0)) rfl rfl rfl
theorem w100_453 {a : Nat} {x0 : Int32} {x1 : Int32} : W (pj lw) 100 453 L (.int x1 :: .int x0 :: .ref a :: S) k n H Q ↔ ((isO H a = true ∧ cs S + (3 + 11) + 13 ≤ 176) ∧ Cl (pj lw) 17 [.ref a, .int x0, .int x1] H (fun v H => W (pj lw) 100 456 L (v.toList ++ S) k n H Q)) := W_inst (as := [.int x0, .int x1]) (rfl : (pj lw).1 100 453 = some (.invokevirtual 58, 3, 17)) rfl rfl rfl (Nat.le_of_ble_eq_true rfl) (Nat.le_of_ble_eq_true rfl) ⟨rfl, rfl⟩
theorem w100_456 {x : Int32} {l0 l1 l2 l3 l4 l5 l6 l7 l8 : Slot} : W (pj lw) 100 456 (l0 :: l1 :: l2 :: l3 :: l4 :: l5 :: l6 :: l7 :: l8 :: .unset :: L) (.int x :: S) k n H Q ↔ W (pj lw) 100 458 (l0 :: l1 :: l2 :: l3 :: l4 :: l5 :: l6 :: l7 :: l8 :: .val (.int x) :: L) S k n H Q := W_ist (rfl : (pj lw).1 100 456 = some (.istore 9, 2, 0)) rfl rfl
theorem w100_458 {x : Nat} {l0 l1 l2 : Slot} : W (pj lw) 100 458 (l0 :: l1 :: l2 :: .val (.ref x) :: L) S k n H Q ↔ W (pj lw) 100 459 (l0 :: l1 :: l2 :: .val (.ref x) :: L) (.ref x :: S) k n H Q := W_s (rfl : (pj lw).1 100 458 = some (.aload_n 3, 1, 0)) rfl rfl rfl
theorem w100_459 {x : Int32} {l0 l1 l2 l3 l4 l5 l6 : Slot} : W (pj lw) 100 459 (l0 :: l1 :: l2 :: l3 :: l4 :: l5 :: l6 :: .val (.int x) :: L) S k n H Q ↔ W (pj lw) 100 461 (l0 :: l1 :: l2 :: l3 :: l4 :: l5 :: l6 :: .val (.int x) :: L) (.int x :: S) k n H Q := W_s (rfl : (pj lw).1 100 459 = some (.iload 7, 2, 0)) rfl rfl rfl
theorem w100_461 {x : Int32} {l0 l1 l2 l3 l4 l5 l6 l7 : Slot} : W (pj lw) 100 461 (l0 :: l1 :: l2 :: l3 :: l4 :: l5 :: l6 :: l7 :: .val (.int x) :: L) S k n H Q ↔ W (pj lw) 100 463 (l0 :: l1 :: l2 :: l3 :: l4 :: l5 :: l6 :: l7 :: .val (.int x) :: L) (.int x :: S) k n H Q := W_s (rfl : (pj lw).1 100 461 = some (.iload 8, 2, 0)) rfl rfl rfl
theorem w100_463 {x : Int32} {l0 l1 l2 l3 l4 l5 l6 l7 l8 : Slot} : W (pj lw) 100 463 (l0 :: l1 :: l2 :: l3 :: l4 :: l5 :: l6 :: l7 :: l8 :: .val (.int x) :: L) S k n H Q ↔ W (pj lw) 100 465 (l0 :: l1 :: l2 :: l3 :: l4 :: l5 :: l6 :: l7 :: l8 :: .val (.int x) :: L) (.int x :: S) k n H Q := W_s (rfl : (pj lw).1 100 463 = some (.iload 9, 2, 0)) rfl rfl rfl
theorem w100_465 {a : Nat} {x0 : Int32} {x1 : Int32} {x2 : Int32} : W (pj lw) 100 465 L (.int x2 :: .int x1 :: .int x0 :: .ref a :: S) k n H Q ↔ ((isO H a = true ∧ cs S + (5 + 11) + 13 ≤ 176) ∧ Cl (pj lw) 30 [.ref a, .int x0, .int x1, .int x2] H (fun v H => W (pj lw) 100 468 L (v.toList ++ S) k n H Q)) := W_inst (as := [.int x0, .int x1, .int x2]) (rfl : (pj lw).1 100 465 = some (.invokevirtual 7, 3, 30)) rfl rfl rfl (Nat.le_of_ble_eq_true rfl) (Nat.le_of_ble_eq_true rfl) ⟨rfl, rfl⟩
theorem w100_468 {x : Int32} : W (pj lw) 100 468 L (.int x :: S) k n H Q ↔ (if x = 0 then W (pj lw) 100 484 L S k n H Q else W (pj lw) 100 471 L S k n H Q) := W_if_eq (rfl : (pj lw).1 100 468 = some (.ifCond .eq 16, 3, 0)) rfl
theorem w100_471 {x : Nat} {l0 l1 l2 : Slot} : W (pj lw) 100 471 (l0 :: l1 :: l2 :: .val (.ref x) :: L) S k n H Q ↔ W (pj lw) 100 472 (l0 :: l1 :: l2 :: .val (.ref x) :: L) (.ref x :: S) k n H Q := W_s (rfl : (pj lw).1 100 471 = some (.aload_n 3, 1, 0)) rfl rfl rfl
theorem w100_472 {x : Int32} {l0 l1 l2 l3 l4 l5 l6 : Slot} : W (pj lw) 100 472 (l0 :: l1 :: l2 :: l3 :: l4 :: l5 :: l6 :: .val (.int x) :: L) S k n H Q ↔ W (pj lw) 100 474 (l0 :: l1 :: l2 :: l3 :: l4 :: l5 :: l6 :: .val (.int x) :: L) (.int x :: S) k n H Q := W_s (rfl : (pj lw).1 100 472 = some (.iload 7, 2, 0)) rfl rfl rfl
theorem w100_474 {x : Int32} {l0 l1 l2 l3 l4 l5 l6 l7 l8 : Slot} : W (pj lw) 100 474 (l0 :: l1 :: l2 :: l3 :: l4 :: l5 :: l6 :: l7 :: l8 :: .val (.int x) :: L) S k n H Q ↔ W (pj lw) 100 476 (l0 :: l1 :: l2 :: l3 :: l4 :: l5 :: l6 :: l7 :: l8 :: .val (.int x) :: L) (.int x :: S) k n H Q := W_s (rfl : (pj lw).1 100 474 = some (.iload 9, 2, 0)) rfl rfl rfl
theorem w100_476 {x : Int32} {l0 l1 l2 l3 l4 l5 l6 l7 : Slot} : W (pj lw) 100 476 (l0 :: l1 :: l2 :: l3 :: l4 :: l5 :: l6 :: l7 :: .val (.int x) :: L) S k n H Q ↔ W (pj lw) 100 478 (l0 :: l1 :: l2 :: l3 :: l4 :: l5 :: l6 :: l7 :: .val (.int x) :: L) (.int x :: S) k n H Q := W_s (rfl : (pj lw).1 100 476 = some (.iload 8, 2, 0)) rfl rfl rfl
theorem w100_478 {a : Nat} {x0 : Int32} {x1 : Int32} {x2 : Int32} : W (pj lw) 100 478 L (.int x2 :: .int x1 :: .int x0 :: .ref a :: S) k n H Q ↔ ((isO H a = true ∧ cs S + (5 + 11) + 13 ≤ 176) ∧ Cl (pj lw) 30 [.ref a, .int x0, .int x1, .int x2] H (fun v H => W (pj lw) 100 481 L (v.toList ++ S) k n H Q)) := W_inst (as := [.int x0, .int x1, .int x2]) (rfl : (pj lw).1 100 478 = some (.invokevirtual 7, 3, 30)) rfl rfl rfl (Nat.le_of_ble_eq_true rfl) (Nat.le_of_ble_eq_true rfl) ⟨rfl, rfl⟩
theorem w100_481 {x : Int32} : W (pj lw) 100 481 L (.int x :: S) k n H Q ↔ (if x = 0 then W (pj lw) 100 484 L S k n H Q else W (pj lw) 100 486 L S k n H Q) := W_if_ne (rfl : (pj lw).1 100 481 = some (.ifCond .ne 5, 3, 0)) rfl
theorem w100_486 {x : Int32} {l0 l1 l2 l3 l4 : Slot} : W (pj lw) 100 486 (l0 :: l1 :: l2 :: l3 :: l4 :: .val (.int x) :: L) S k n H Q ↔ W (pj lw) 100 488 (l0 :: l1 :: l2 :: l3 :: l4 :: .val (.int x) :: L) (.int x :: S) k n H Q := W_s (rfl : (pj lw).1 100 486 = some (.iload 5, 2, 0)) rfl rfl rfl
theorem w100_488 {x : Int32} {l0 l1 l2 l3 l4 l5 l6 : Slot} : W (pj lw) 100 488 (l0 :: l1 :: l2 :: l3 :: l4 :: l5 :: l6 :: .val (.int x) :: L) S k n H Q ↔ W (pj lw) 100 490 (l0 :: l1 :: l2 :: l3 :: l4 :: l5 :: l6 :: .val (.int x) :: L) (.int x :: S) k n H Q := W_s (rfl : (pj lw).1 100 488 = some (.iload 7, 2, 0)) rfl rfl rfl
theorem w100_490 : W (pj lw) 100 490 L S k n H Q ↔ W (pj lw) 100 491 L (.int 1 :: S) k n H Q := W_s (rfl : (pj lw).1 100 490 = some (.iconst 1, 1, 0)) rfl rfl rfl
theorem w100_491 {x y : Int32} : W (pj lw) 100 491 L (.int y :: .int x :: S) k n H Q ↔ W (pj lw) 100 492 L (.int (x - y) :: S) k n H Q := W_s (rfl : (pj lw).1 100 491 = some (.isub, 1, 0)) rfl rfl rfl
theorem w100_492 {x y : Int32} : W (pj lw) 100 492 L (.int y :: .int x :: S) k n H Q ↔ W (pj lw) 100 493 L (.int (Jvm.Free.XT.ushr x y) :: S) k n H Q := W_s (rfl : (pj lw).1 100 492 = some (.iushr, 1, 0)) rfl rfl rfl
theorem w100_493 : W (pj lw) 100 493 L S k n H Q ↔ W (pj lw) 100 494 L (.int 1 :: S) k n H Q := W_s (rfl : (pj lw).1 100 493 = some (.iconst 1, 1, 0)) rfl rfl rfl
theorem w100_494 {x y : Int32} : W (pj lw) 100 494 L (.int y :: .int x :: S) k n H Q ↔ W (pj lw) 100 495 L (.int (x &&& y) :: S) k n H Q := W_s (rfl : (pj lw).1 100 494 = some (.iand, 1, 0)) rfl rfl rfl
theorem w100_495 {x : Int32} : W (pj lw) 100 495 L (.int x :: S) k n H Q ↔ (if x = 0 then W (pj lw) 100 498 L S k n H Q else W (pj lw) 100 510 L S k n H Q) := W_if_ne (rfl : (pj lw).1 100 495 = some (.ifCond .ne 15, 3, 0)) rfl
theorem w100_498 {x : Nat} {l0 l1 l2 : Slot} : W (pj lw) 100 498 (l0 :: l1 :: l2 :: .val (.ref x) :: L) S k n H Q ↔ W (pj lw) 100 499 (l0 :: l1 :: l2 :: .val (.ref x) :: L) (.ref x :: S) k n H Q := W_s (rfl : (pj lw).1 100 498 = some (.aload_n 3, 1, 0)) rfl rfl rfl
theorem w100_499 {x : Int32} {l0 l1 l2 l3 l4 l5 l6 : Slot} : W (pj lw) 100 499 (l0 :: l1 :: l2 :: l3 :: l4 :: l5 :: l6 :: .val (.int x) :: L) S k n H Q ↔ W (pj lw) 100 501 (l0 :: l1 :: l2 :: l3 :: l4 :: l5 :: l6 :: .val (.int x) :: L) (.int x :: S) k n H Q := W_s (rfl : (pj lw).1 100 499 = some (.iload 7, 2, 0)) rfl rfl rfl
theorem w100_501 {a : Nat} {x0 : Int32} : W (pj lw) 100 501 L (.int x0 :: .ref a :: S) k n H Q ↔ ((isO H a = true ∧ cs S + (5 + 11) + 13 ≤ 176) ∧ Cl (pj lw) 31 [.ref a, .int x0] H (fun v H => W (pj lw) 100 504 L (v.toList ++ S) k n H Q)) := W_inst (as := [.int x0]) (rfl : (pj lw).1 100 501 = some (.invokevirtual 62, 3, 31)) rfl rfl rfl (Nat.le_of_ble_eq_true rfl) (Nat.le_of_ble_eq_true rfl) ⟨rfl, rfl⟩
theorem w100_504 : W (pj lw) 100 504 L S k n H Q ↔ W (pj lw) 100 505 L (.int 1 :: S) k n H Q := W_s (rfl : (pj lw).1 100 504 = some (.iconst 1, 1, 0)) rfl rfl rfl
theorem w100_505 {x y : Int32} : W (pj lw) 100 505 L (.int y :: .int x :: S) k n H Q ↔ (if x = y then W (pj lw) 100 510 L S k n H Q else W (pj lw) 100 508 L S k n H Q) := W_icmp_eq (rfl : (pj lw).1 100 505 = some (.if_icmp .eq 5, 3, 0)) rfl
theorem w100_510 {x : Int32} {l0 l1 l2 l3 l4 l5 l6 : Slot} : W (pj lw) 100 510 (l0 :: l1 :: l2 :: l3 :: l4 :: l5 :: l6 :: .val (.int x) :: L) S k n H Q ↔ W (pj lw) 100 513 (l0 :: l1 :: l2 :: l3 :: l4 :: l5 :: l6 :: .val (.int (x + 1)) :: L) S k n H Q := W_s (rfl : (pj lw).1 100 510 = some (.iinc 7 1, 3, 0)) rfl rfl rfl
theorem w100_513 : W (pj lw) 100 513 L S k n H Q ↔ W (pj lw) 100 433 L S k n H Q := W_goto (rfl : (pj lw).1 100 513 = some (.goto (-80), 3, 0)) rfl
theorem w100_516 {x : Nat} {l0 l1 l2 : Slot} : W (pj lw) 100 516 (l0 :: l1 :: l2 :: .val (.ref x) :: L) S k n H Q ↔ W (pj lw) 100 517 (l0 :: l1 :: l2 :: .val (.ref x) :: L) (.ref x :: S) k n H Q := W_s (rfl : (pj lw).1 100 516 = some (.aload_n 3, 1, 0)) rfl rfl rfl
theorem w100_517 {x : Int32} {l0 l1 l2 l3 : Slot} : W (pj lw) 100 517 (l0 :: l1 :: l2 :: l3 :: .val (.int x) :: L) S k n H Q ↔ W (pj lw) 100 519 (l0 :: l1 :: l2 :: l3 :: .val (.int x) :: L) (.int x :: S) k n H Q := W_s (rfl : (pj lw).1 100 517 = some (.iload 4, 2, 0)) rfl rfl rfl
theorem w100_519 {x : Int32} {l0 l1 : Slot} : W (pj lw) 100 519 (l0 :: l1 :: .val (.int x) :: L) S k n H Q ↔ W (pj lw) 100 520 (l0 :: l1 :: .val (.int x) :: L) (.int x :: S) k n H Q := W_s (rfl : (pj lw).1 100 519 = some (.iload_n 2, 1, 0)) rfl rfl rfl
theorem w100_520 {x0 : Nat} {x1 : Int32} {x2 : Int32} : W (pj lw) 100 520 L (.int x2 :: .int x1 :: .ref x0 :: S) k n H Q ↔ (cs S + (6 + 11) + 49 ≤ 176 ∧ Cl (pj lw) 103 [.ref x0, .int x1, .int x2] H (fun v H => W (pj lw) 100 523 L (v.toList ++ S) k n H Q)) := W_stat (a := [.ref x0, .int x1, .int x2]) (rfl : (pj lw).1 100 520 = some (.invokestatic 65, 3, 103)) rfl rfl rfl (Nat.le_of_ble_eq_true rfl) (Nat.le_of_ble_eq_true rfl) ⟨rfl, rfl⟩
theorem w100_523uu {x : Int64} {l0 l1 l2 l3 l4 l5 l6 : Slot} : W (pj lw) 100 523 (l0 :: l1 :: l2 :: l3 :: l4 :: l5 :: l6 :: .unset :: .unset :: L) (.long x :: S) k n H Q ↔ W (pj lw) 100 525 (l0 :: l1 :: l2 :: l3 :: l4 :: l5 :: l6 :: .val (.long x) :: .second :: L) S k n H Q := W_lst (rfl : (pj lw).1 100 523 = some (.lstore 7, 2, 0)) rfl rfl rfl rfl
theorem w100_525 {x : Int32} {l0 l1 l2 l3 l4 l5 : Slot} : W (pj lw) 100 525 (l0 :: l1 :: l2 :: l3 :: l4 :: l5 :: .val (.int x) :: L) S k n H Q ↔ W (pj lw) 100 527 (l0 :: l1 :: l2 :: l3 :: l4 :: l5 :: .val (.int x) :: L) (.int x :: S) k n H Q := W_s (rfl : (pj lw).1 100 525 = some (.iload 6, 2, 0)) rfl rfl rfl
theorem w100_527 {x : Int32} : W (pj lw) 100 527 L (.int x :: S) k n H Q ↔ (if x = 0 then W (pj lw) 100 630 L S k n H Q else W (pj lw) 100 530 L S k n H Q) := W_if_eq (rfl : (pj lw).1 100 527 = some (.ifCond .eq 103, 3, 0)) rfl
theorem w100_530 : W (pj lw) 100 530 L S k n H Q ↔ W (pj lw) 100 531 L (.int 1 :: S) k n H Q := W_s (rfl : (pj lw).1 100 530 = some (.iconst 1, 1, 0)) rfl rfl rfl
theorem w100_531 {x : Int32} {l0 l1 l2 l3 l4 : Slot} : W (pj lw) 100 531 (l0 :: l1 :: l2 :: l3 :: l4 :: .val (.int x) :: L) S k n H Q ↔ W (pj lw) 100 533 (l0 :: l1 :: l2 :: l3 :: l4 :: .val (.int x) :: L) (.int x :: S) k n H Q := W_s (rfl : (pj lw).1 100 531 = some (.iload 5, 2, 0)) rfl rfl rfl
theorem w100_533 : W (pj lw) 100 533 L S k n H Q ↔ W (pj lw) 100 535 L (.int 8 :: S) k n H Q := W_s (rfl : (pj lw).1 100 533 = some (.bipush 8, 2, 0)) rfl rfl rfl
theorem w100_535 {x y : Int32} : W (pj lw) 100 535 L (.int y :: .int x :: S) k n H Q ↔ W (pj lw) 100 536 L (.int (Jvm.Free.XT.ushr x y) :: S) k n H Q := W_s (rfl : (pj lw).1 100 535 = some (.iushr, 1, 0)) rfl rfl rfl
theorem w100_536 : W (pj lw) 100 536 L S k n H Q ↔ W (pj lw) 100 539 L (.int 255 :: S) k n H Q := W_s (rfl : (pj lw).1 100 536 = some (.sipush 255, 3, 0)) rfl rfl rfl
theorem w100_539 {x y : Int32} : W (pj lw) 100 539 L (.int y :: .int x :: S) k n H Q ↔ W (pj lw) 100 540 L (.int (x &&& y) :: S) k n H Q := W_s (rfl : (pj lw).1 100 539 = some (.iand, 1, 0)) rfl rfl rfl
theorem w100_540 {x : Int32} {l0 l1 : Slot} : W (pj lw) 100 540 (l0 :: l1 :: .val (.int x) :: L) S k n H Q ↔ W (pj lw) 100 541 (l0 :: l1 :: .val (.int x) :: L) (.int x :: S) k n H Q := W_s (rfl : (pj lw).1 100 540 = some (.iload_n 2, 1, 0)) rfl rfl rfl
theorem w100_541 {x y : Int32} : W (pj lw) 100 541 L (.int y :: .int x :: S) k n H Q ↔ (¬ y = 0 ∧ W (pj lw) 100 542 L (.int (x % y) :: S) k n H Q) := W_irem (rfl : (pj lw).1 100 541 = some (.irem, 1, 0))
theorem w100_542 {x y : Int32} : W (pj lw) 100 542 L (.int y :: .int x :: S) k n H Q ↔ W (pj lw) 100 543 L (.int (x + y) :: S) k n H Q := W_s (rfl : (pj lw).1 100 542 = some (.iadd, 1, 0)) rfl rfl rfl
theorem w100_543 {x : Int32} {l0 l1 l2 l3 l4 l5 l6 l7 l8 : Slot} : W (pj lw) 100 543 (l0 :: l1 :: l2 :: l3 :: l4 :: l5 :: l6 :: l7 :: l8 :: .unset :: L) (.int x :: S) k n H Q ↔ W (pj lw) 100 545 (l0 :: l1 :: l2 :: l3 :: l4 :: l5 :: l6 :: l7 :: l8 :: .val (.int x) :: L) S k n H Q := W_ist (rfl : (pj lw).1 100 543 = some (.istore 9, 2, 0)) rfl rfl
theorem w100_545 : W (pj lw) 100 545 L S k n H Q ↔ W (pj lw) 100 546 L (.int 1 :: S) k n H Q := W_s (rfl : (pj lw).1 100 545 = some (.iconst 1, 1, 0)) rfl rfl rfl
theorem w100_546 {x : Int32} {l0 l1 l2 l3 l4 : Slot} : W (pj lw) 100 546 (l0 :: l1 :: l2 :: l3 :: l4 :: .val (.int x) :: L) S k n H Q ↔ W (pj lw) 100 548 (l0 :: l1 :: l2 :: l3 :: l4 :: .val (.int x) :: L) (.int x :: S) k n H Q := W_s (rfl : (pj lw).1 100 546 = some (.iload 5, 2, 0)) rfl rfl rfl
theorem w100_548 : W (pj lw) 100 548 L S k n H Q ↔ W (pj lw) 100 550 L (.int 20 :: S) k n H Q := W_s (rfl : (pj lw).1 100 548 = some (.bipush 20, 2, 0)) rfl rfl rfl
theorem w100_550 {x y : Int32} : W (pj lw) 100 550 L (.int y :: .int x :: S) k n H Q ↔ W (pj lw) 100 551 L (.int (Jvm.Free.XT.ushr x y) :: S) k n H Q := W_s (rfl : (pj lw).1 100 550 = some (.iushr, 1, 0)) rfl rfl rfl
theorem w100_551 : W (pj lw) 100 551 L S k n H Q ↔ W (pj lw) 100 554 L (.int 255 :: S) k n H Q := W_s (rfl : (pj lw).1 100 551 = some (.sipush 255, 3, 0)) rfl rfl rfl
theorem w100_554 {x y : Int32} : W (pj lw) 100 554 L (.int y :: .int x :: S) k n H Q ↔ W (pj lw) 100 555 L (.int (x &&& y) :: S) k n H Q := W_s (rfl : (pj lw).1 100 554 = some (.iand, 1, 0)) rfl rfl rfl
theorem w100_555 {x : Int32} {l0 l1 : Slot} : W (pj lw) 100 555 (l0 :: l1 :: .val (.int x) :: L) S k n H Q ↔ W (pj lw) 100 556 (l0 :: l1 :: .val (.int x) :: L) (.int x :: S) k n H Q := W_s (rfl : (pj lw).1 100 555 = some (.iload_n 2, 1, 0)) rfl rfl rfl
theorem w100_556 {x y : Int32} : W (pj lw) 100 556 L (.int y :: .int x :: S) k n H Q ↔ (¬ y = 0 ∧ W (pj lw) 100 557 L (.int (x % y) :: S) k n H Q) := W_irem (rfl : (pj lw).1 100 556 = some (.irem, 1, 0))
theorem w100_557 {x y : Int32} : W (pj lw) 100 557 L (.int y :: .int x :: S) k n H Q ↔ W (pj lw) 100 558 L (.int (x + y) :: S) k n H Q := W_s (rfl : (pj lw).1 100 557 = some (.iadd, 1, 0)) rfl rfl rfl
theorem w100_558 {x : Int32} {l0 l1 l2 l3 l4 l5 l6 l7 l8 l9 : Slot} : W (pj lw) 100 558 (l0 :: l1 :: l2 :: l3 :: l4 :: l5 :: l6 :: l7 :: l8 :: l9 :: .unset :: L) (.int x :: S) k n H Q ↔ W (pj lw) 100 560 (l0 :: l1 :: l2 :: l3 :: l4 :: l5 :: l6 :: l7 :: l8 :: l9 :: .val (.int x) :: L) S k n H Q := W_ist (rfl : (pj lw).1 100 558 = some (.istore 10, 2, 0)) rfl rfl
theorem w100_560 {x : Nat} {l0 l1 l2 : Slot} : W (pj lw) 100 560 (l0 :: l1 :: l2 :: .val (.ref x) :: L) S k n H Q ↔ W (pj lw) 100 561 (l0 :: l1 :: l2 :: .val (.ref x) :: L) (.ref x :: S) k n H Q := W_s (rfl : (pj lw).1 100 560 = some (.aload_n 3, 1, 0)) rfl rfl rfl
theorem w100_561 {x : Int32} {l0 l1 l2 l3 l4 l5 : Slot} : W (pj lw) 100 561 (l0 :: l1 :: l2 :: l3 :: l4 :: l5 :: .val (.int x) :: L) S k n H Q ↔ W (pj lw) 100 563 (l0 :: l1 :: l2 :: l3 :: l4 :: l5 :: .val (.int x) :: L) (.int x :: S) k n H Q := W_s (rfl : (pj lw).1 100 561 = some (.iload 6, 2, 0)) rfl rfl rfl
theorem w100_563 {x : Int32} {l0 l1 l2 l3 l4 l5 l6 l7 l8 : Slot} : W (pj lw) 100 563 (l0 :: l1 :: l2 :: l3 :: l4 :: l5 :: l6 :: l7 :: l8 :: .val (.int x) :: L) S k n H Q ↔ W (pj lw) 100 565 (l0 :: l1 :: l2 :: l3 :: l4 :: l5 :: l6 :: l7 :: l8 :: .val (.int x) :: L) (.int x :: S) k n H Q := W_s (rfl : (pj lw).1 100 563 = some (.iload 9, 2, 0)) rfl rfl rfl
theorem w100_565 {x : Int32} {l0 l1 l2 l3 l4 l5 l6 l7 l8 l9 : Slot} : W (pj lw) 100 565 (l0 :: l1 :: l2 :: l3 :: l4 :: l5 :: l6 :: l7 :: l8 :: l9 :: .val (.int x) :: L) S k n H Q ↔ W (pj lw) 100 567 (l0 :: l1 :: l2 :: l3 :: l4 :: l5 :: l6 :: l7 :: l8 :: l9 :: .val (.int x) :: L) (.int x :: S) k n H Q := W_s (rfl : (pj lw).1 100 565 = some (.iload 10, 2, 0)) rfl rfl rfl
theorem w100_567 {a : Nat} {x0 : Int32} {x1 : Int32} {x2 : Int32} : W (pj lw) 100 567 L (.int x2 :: .int x1 :: .int x0 :: .ref a :: S) k n H Q ↔ ((isO H a = true ∧ cs S + (4 + 11) + 13 ≤ 176) ∧ Cl (pj lw) 10 [.ref a, .int x0, .int x1, .int x2] H (fun v H => W (pj lw) 100 570 L (v.toList ++ S) k n H Q)) := W_inst (as := [.int x0, .int x1, .int x2]) (rfl : (pj lw).1 100 567 = some (.invokevirtual 35, 3, 10)) rfl rfl rfl (Nat.le_of_ble_eq_true rfl) (Nat.le_of_ble_eq_true rfl) ⟨rfl, rfl⟩
theorem w100_570 {x : Int32} : W (pj lw) 100 570 L (.int x :: S) k n H Q ↔ (if x = 0 then W (pj lw) 100 573 L S k n H Q else W (pj lw) 100 580 L S k n H Q) := W_if_ne (rfl : (pj lw).1 100 570 = some (.ifCond .ne 10, 3, 0)) rfl
theorem w100_573 {x : Nat} {l0 l1 l2 : Slot} : W (pj lw) 100 573 (l0 :: l1 :: l2 :: .val (.ref x) :: L) S k n H Q ↔ W (pj lw) 100 574 (l0 :: l1 :: l2 :: .val (.ref x) :: L) (.ref x :: S) k n H Q := W_s (rfl : (pj lw).1 100 573 = some (.aload_n 3, 1, 0)) rfl rfl rfl
theorem w100_574 {a : Nat} : W (pj lw) 100 574 L (.ref a :: S) k n H Q ↔ ((isO H a = true ∧ cs S + (1 + 11) + 0 ≤ 176) ∧ Cl (pj lw) 29 [.ref a] H (fun v H => W (pj lw) 100 577 L (v.toList ++ S) k n H Q)) := W_inst (as := []) (rfl : (pj lw).1 100 574 = some (.invokevirtual 69, 3, 29)) rfl rfl rfl (Nat.le_of_ble_eq_true rfl) (Nat.le_of_ble_eq_true rfl) ⟨rfl, rfl⟩
theorem w100_577 {x : Int32} : W (pj lw) 100 577 L (.int x :: S) k n H Q ↔ (if x = 0 then W (pj lw) 100 582 L S k n H Q else W (pj lw) 100 580 L S k n H Q) := W_if_eq (rfl : (pj lw).1 100 577 = some (.ifCond .eq 5, 3, 0)) rfl
theorem w100_582 {x : Nat} {l0 l1 l2 : Slot} : W (pj lw) 100 582 (l0 :: l1 :: l2 :: .val (.ref x) :: L) S k n H Q ↔ W (pj lw) 100 583 (l0 :: l1 :: l2 :: .val (.ref x) :: L) (.ref x :: S) k n H Q := W_s (rfl : (pj lw).1 100 582 = some (.aload_n 3, 1, 0)) rfl rfl rfl
theorem w100_583 {a : Nat} : W (pj lw) 100 583 L (.ref a :: S) k n H Q ↔ ((isO H a = true ∧ cs S + (5 + 11) + 55 ≤ 176) ∧ Cl (pj lw) 18 [.ref a] H (fun v H => W (pj lw) 100 586 L (v.toList ++ S) k n H Q)) := W_inst (as := []) (rfl : (pj lw).1 100 583 = some (.invokevirtual 52, 3, 18)) rfl rfl rfl (Nat.le_of_ble_eq_true rfl) (Nat.le_of_ble_eq_true rfl) ⟨rfl, rfl⟩
theorem w100_586 {x : Int32} : W (pj lw) 100 586 L (.int x :: S) k n H Q ↔ W (pj lw) 100 587 L S k n H Q := W_s (rfl : (pj lw).1 100 586 = some (.pop, 1, 0)) rfl rfl rfl
theorem w100_587 {x : Nat} {l0 l1 l2 : Slot} : W (pj lw) 100 587 (l0 :: l1 :: l2 :: .val (.ref x) :: L) S k n H Q ↔ W (pj lw) 100 588 (l0 :: l1 :: l2 :: .val (.ref x) :: L) (.ref x :: S) k n H Q := W_s (rfl : (pj lw).1 100 587 = some (.aload_n 3, 1, 0)) rfl rfl rfl
theorem w100_588 {x : Int32} {l0 l1 l2 l3 l4 l5 : Slot} : W (pj lw) 100 588 (l0 :: l1 :: l2 :: l3 :: l4 :: l5 :: .val (.int x) :: L) S k n H Q ↔ W (pj lw) 100 590 (l0 :: l1 :: l2 :: l3 :: l4 :: l5 :: .val (.int x) :: L) (.int x :: S) k n H Q := W_s (rfl : (pj lw).1 100 588 = some (.iload 6, 2, 0)) rfl rfl rfl
theorem w100_590 {a : Nat} {x0 : Int32} : W (pj lw) 100 590 L (.int x0 :: .ref a :: S) k n H Q ↔ ((isO H a = true ∧ cs S + (2 + 11) + 13 ≤ 176) ∧ Cl (pj lw) 11 [.ref a, .int x0] H (fun v H => W (pj lw) 100 593 L (v.toList ++ S) k n H Q)) := W_inst (as := [.int x0]) (rfl : (pj lw).1 100 590 = some (.invokevirtual 38, 3, 11)) rfl rfl rfl (Nat.le_of_ble_eq_true rfl) (Nat.le_of_ble_eq_true rfl) ⟨rfl, rfl⟩
theorem w100_593 {x : Int32} : W (pj lw) 100 593 L (.int x :: S) k n H Q ↔ (if x = 0 then W (pj lw) 100 596 L S k n H Q else W (pj lw) 100 603 L S k n H Q) := W_if_ne (rfl : (pj lw).1 100 593 = some (.ifCond .ne 10, 3, 0)) rfl
theorem w100_596 {x : Nat} {l0 l1 l2 : Slot} : W (pj lw) 100 596 (l0 :: l1 :: l2 :: .val (.ref x) :: L) S k n H Q ↔ W (pj lw) 100 597 (l0 :: l1 :: l2 :: .val (.ref x) :: L) (.ref x :: S) k n H Q := W_s (rfl : (pj lw).1 100 596 = some (.aload_n 3, 1, 0)) rfl rfl rfl
theorem w100_597 {a : Nat} : W (pj lw) 100 597 L (.ref a :: S) k n H Q ↔ ((isO H a = true ∧ cs S + (1 + 11) + 0 ≤ 176) ∧ Cl (pj lw) 29 [.ref a] H (fun v H => W (pj lw) 100 600 L (v.toList ++ S) k n H Q)) := W_inst (as := []) (rfl : (pj lw).1 100 597 = some (.invokevirtual 69, 3, 29)) rfl rfl rfl (Nat.le_of_ble_eq_true rfl) (Nat.le_of_ble_eq_true rfl) ⟨rfl, rfl⟩
theorem w100_600 {x : Int32} : W (pj lw) 100 600 L (.int x :: S) k n H Q ↔ (if x = 0 then W (pj lw) 100 605 L S k n H Q else W (pj lw) 100 603 L S k n H Q) := W_if_eq (rfl : (pj lw).1 100 600 = some (.ifCond .eq 5, 3, 0)) rfl
theorem w100_605 {x : Nat} {l0 l1 l2 : Slot} : W (pj lw) 100 605 (l0 :: l1 :: l2 :: .val (.ref x) :: L) S k n H Q ↔ W (pj lw) 100 606 (l0 :: l1 :: l2 :: .val (.ref x) :: L) (.ref x :: S) k n H Q := W_s (rfl : (pj lw).1 100 605 = some (.aload_n 3, 1, 0)) rfl rfl rfl
theorem w100_606 {a : Nat} : W (pj lw) 100 606 L (.ref a :: S) k n H Q ↔ ((isO H a = true ∧ cs S + (5 + 11) + 55 ≤ 176) ∧ Cl (pj lw) 18 [.ref a] H (fun v H => W (pj lw) 100 609 L (v.toList ++ S) k n H Q)) := W_inst (as := []) (rfl : (pj lw).1 100 606 = some (.invokevirtual 52, 3, 18)) rfl rfl rfl (Nat.le_of_ble_eq_true rfl) (Nat.le_of_ble_eq_true rfl) ⟨rfl, rfl⟩
theorem w100_609 : W (pj lw) 100 609 L S k n H Q ↔ W (pj lw) 100 610 L (.int 1 :: S) k n H Q := W_s (rfl : (pj lw).1 100 609 = some (.iconst 1, 1, 0)) rfl rfl rfl
theorem w100_610 {x y : Int32} : W (pj lw) 100 610 L (.int y :: .int x :: S) k n H Q ↔ (if x = y then W (pj lw) 100 615 L S k n H Q else W (pj lw) 100 613 L S k n H Q) := W_icmp_eq (rfl : (pj lw).1 100 610 = some (.if_icmp .eq 5, 3, 0)) rfl
theorem w100_615 {x : Nat} {l0 l1 l2 : Slot} : W (pj lw) 100 615 (l0 :: l1 :: l2 :: .val (.ref x) :: L) S k n H Q ↔ W (pj lw) 100 616 (l0 :: l1 :: l2 :: .val (.ref x) :: L) (.ref x :: S) k n H Q := W_s (rfl : (pj lw).1 100 615 = some (.aload_n 3, 1, 0)) rfl rfl rfl
theorem w100_616 {x : Int32} {l0 l1 l2 l3 : Slot} : W (pj lw) 100 616 (l0 :: l1 :: l2 :: l3 :: .val (.int x) :: L) S k n H Q ↔ W (pj lw) 100 618 (l0 :: l1 :: l2 :: l3 :: .val (.int x) :: L) (.int x :: S) k n H Q := W_s (rfl : (pj lw).1 100 616 = some (.iload 4, 2, 0)) rfl rfl rfl
theorem w100_618 {x : Int32} {l0 l1 : Slot} : W (pj lw) 100 618 (l0 :: l1 :: .val (.int x) :: L) S k n H Q ↔ W (pj lw) 100 619 (l0 :: l1 :: .val (.int x) :: L) (.int x :: S) k n H Q := W_s (rfl : (pj lw).1 100 618 = some (.iload_n 2, 1, 0)) rfl rfl rfl
theorem w100_619 {x0 : Nat} {x1 : Int32} {x2 : Int32} : W (pj lw) 100 619 L (.int x2 :: .int x1 :: .ref x0 :: S) k n H Q ↔ (cs S + (6 + 11) + 49 ≤ 176 ∧ Cl (pj lw) 103 [.ref x0, .int x1, .int x2] H (fun v H => W (pj lw) 100 622 L (v.toList ++ S) k n H Q)) := W_stat (a := [.ref x0, .int x1, .int x2]) (rfl : (pj lw).1 100 619 = some (.invokestatic 65, 3, 103)) rfl rfl rfl (Nat.le_of_ble_eq_true rfl) (Nat.le_of_ble_eq_true rfl) ⟨rfl, rfl⟩
theorem w100_622 {x : Int64} {l0 l1 l2 l3 l4 l5 l6 : Slot} : W (pj lw) 100 622 (l0 :: l1 :: l2 :: l3 :: l4 :: l5 :: l6 :: .val (.long x) :: L) S k n H Q ↔ W (pj lw) 100 624 (l0 :: l1 :: l2 :: l3 :: l4 :: l5 :: l6 :: .val (.long x) :: L) (.long x :: S) k n H Q := W_s (rfl : (pj lw).1 100 622 = some (.lload 7, 2, 0)) rfl rfl rfl
theorem w100_624 {x y : Int64} : W (pj lw) 100 624 L (.long y :: .long x :: S) k n H Q ↔ W (pj lw) 100 625 L (.int (Jvm.Free.XT.cmpL x y) :: S) k n H Q := W_s (rfl : (pj lw).1 100 624 = some (.lcmp, 1, 0)) rfl rfl rfl
theorem w100_625 {x : Int32} : W (pj lw) 100 625 L (.int x :: S) k n H Q ↔ (if x = 0 then W (pj lw) 100 630 L S k n H Q else W (pj lw) 100 628 L S k n H Q) := W_if_eq (rfl : (pj lw).1 100 625 = some (.ifCond .eq 5, 3, 0)) rfl
theorem w100_630 : W (pj lw) 100 630 L S k n H Q ↔ W (pj lw) 100 631 L (.int 1 :: S) k n H Q := W_s (rfl : (pj lw).1 100 630 = some (.iconst 1, 1, 0)) rfl rfl rfl
theorem w100_631 {x : Int32} : W (pj lw) 100 631 L (.int x :: S) k n H Q ↔ ((x = 0 ∨ x = 1) ∧ Q (some (.int x)) H) := W_rz (rfl : (pj lw).1 100 631 = some (.ireturn, 1, 0)) rfl
theorem c102 {x0 : Nat} {x1 : Int32} {x2 : Int32} : Cl (pj lw) 102 [.ref x0, .int x1, .int x2] H Q ↔ W (pj lw) 102 0 [.val (.ref x0), .val (.int x1), .val (.int x2), .unset, .unset, .unset, .unset] [] 0 0 H Q := cl_unf rfl
theorem w102_0 : W (pj lw) 102 0 L S k n H Q ↔ W (pj lw) 102 1 L (.int 0 :: S) k n H Q := W_s (rfl : (pj lw).1 102 0 = some (.iconst 0, 1, 0)) rfl rfl rfl
theorem w102_1 {x : Int32} {l0 l1 l2 : Slot} : W (pj lw) 102 1 (l0 :: l1 :: l2 :: .unset :: L) (.int x :: S) k n H Q ↔ W (pj lw) 102 2 (l0 :: l1 :: l2 :: .val (.int x) :: L) S k n H Q := W_istn (rfl : (pj lw).1 102 1 = some (.istore_n 3, 1, 0)) rfl rfl
theorem w102_2 : W (pj lw) 102 2 L S k n H Q ↔ W (pj lw) 102 3 L (.int 0 :: S) k n H Q := W_s (rfl : (pj lw).1 102 2 = some (.iconst 0, 1, 0)) rfl rfl rfl
theorem w102_3 {x : Int32} {l0 l1 l2 l3 : Slot} : W (pj lw) 102 3 (l0 :: l1 :: l2 :: l3 :: .unset :: L) (.int x :: S) k n H Q ↔ W (pj lw) 102 5 (l0 :: l1 :: l2 :: l3 :: .val (.int x) :: L) S k n H Q := W_ist (rfl : (pj lw).1 102 3 = some (.istore 4, 2, 0)) rfl rfl
theorem w102_5 : W (pj lw) 102 5 L S k n H Q ↔ W (pj lw) 102 6 L (.int 1 :: S) k n H Q := W_s (rfl : (pj lw).1 102 5 = some (.iconst 1, 1, 0)) rfl rfl rfl
theorem w102_6 {x : Int32} {l0 l1 l2 l3 l4 : Slot} : W (pj lw) 102 6 (l0 :: l1 :: l2 :: l3 :: l4 :: .unset :: L) (.int x :: S) k n H Q ↔ W (pj lw) 102 8 (l0 :: l1 :: l2 :: l3 :: l4 :: .val (.int x) :: L) S k n H Q := W_ist (rfl : (pj lw).1 102 6 = some (.istore 5, 2, 0)) rfl rfl
theorem w102_8 {x : Int32} {l0 l1 l2 l3 l4 : Slot} : W (pj lw) 102 8 (l0 :: l1 :: l2 :: l3 :: l4 :: .val (.int x) :: L) S k n H Q ↔ W (pj lw) 102 10 (l0 :: l1 :: l2 :: l3 :: l4 :: .val (.int x) :: L) (.int x :: S) k n H Q := W_s (rfl : (pj lw).1 102 8 = some (.iload 5, 2, 0)) rfl rfl rfl
theorem w102_10 {x : Int32} {l0 l1 : Slot} : W (pj lw) 102 10 (l0 :: l1 :: .val (.int x) :: L) S k n H Q ↔ W (pj lw) 102 11 (l0 :: l1 :: .val (.int x) :: L) (.int x :: S) k n H Q := W_s (rfl : (pj lw).1 102 10 = some (.iload_n 2, 1, 0)) rfl rfl rfl
theorem w102_11 {x y : Int32} : W (pj lw) 102 11 L (.int y :: .int x :: S) k n H Q ↔ (if y < x then W (pj lw) 102 58 L S k n H Q else W (pj lw) 102 14 L S k n H Q) := W_icmp_gt (rfl : (pj lw).1 102 11 = some (.if_icmp .gt 47, 3, 0)) rfl
theorem w102_14 {x : Int32} {l0 l1 l2 l3 l4 : Slot} : W (pj lw) 102 14 (l0 :: l1 :: l2 :: l3 :: l4 :: .val (.int x) :: L) S k n H Q ↔ W (pj lw) 102 16 (l0 :: l1 :: l2 :: l3 :: l4 :: .val (.int x) :: L) (.int x :: S) k n H Q := W_s (rfl : (pj lw).1 102 14 = some (.iload 5, 2, 0)) rfl rfl rfl
theorem w102_16i {y : Int32} {x : Int32} {l0 l1 l2 l3 l4 l5 : Slot} : W (pj lw) 102 16 (l0 :: l1 :: l2 :: l3 :: l4 :: l5 :: .val (.int y) :: L) (.int x :: S) k n H Q ↔ W (pj lw) 102 18 (l0 :: l1 :: l2 :: l3 :: l4 :: l5 :: .val (.int x) :: L) S k n H Q := W_ist (rfl : (pj lw).1 102 16 = some (.istore 6, 2, 0)) rfl rfl
theorem w102_16 {x : Int32} {l0 l1 l2 l3 l4 l5 : Slot} : W (pj lw) 102 16 (l0 :: l1 :: l2 :: l3 :: l4 :: l5 :: .unset :: L) (.int x :: S) k n H Q ↔ W (pj lw) 102 18 (l0 :: l1 :: l2 :: l3 :: l4 :: l5 :: .val (.int x) :: L) S k n H Q := W_ist (rfl : (pj lw).1 102 16 = some (.istore 6, 2, 0)) rfl rfl
theorem w102_18 {x : Int32} {l0 l1 l2 l3 l4 l5 : Slot} : W (pj lw) 102 18 (l0 :: l1 :: l2 :: l3 :: l4 :: l5 :: .val (.int x) :: L) S k n H Q ↔ W (pj lw) 102 20 (l0 :: l1 :: l2 :: l3 :: l4 :: l5 :: .val (.int x) :: L) (.int x :: S) k n H Q := W_s (rfl : (pj lw).1 102 18 = some (.iload 6, 2, 0)) rfl rfl rfl
theorem w102_20 {x : Int32} {l0 l1 : Slot} : W (pj lw) 102 20 (l0 :: l1 :: .val (.int x) :: L) S k n H Q ↔ W (pj lw) 102 21 (l0 :: l1 :: .val (.int x) :: L) (.int x :: S) k n H Q := W_s (rfl : (pj lw).1 102 20 = some (.iload_n 2, 1, 0)) rfl rfl rfl
theorem w102_21 {x y : Int32} : W (pj lw) 102 21 L (.int y :: .int x :: S) k n H Q ↔ (if y < x then W (pj lw) 102 52 L S k n H Q else W (pj lw) 102 24 L S k n H Q) := W_icmp_gt (rfl : (pj lw).1 102 21 = some (.if_icmp .gt 31, 3, 0)) rfl
theorem w102_24 {x : Nat} : W (pj lw) 102 24 (.val (.ref x) :: L) S k n H Q ↔ W (pj lw) 102 25 (.val (.ref x) :: L) (.ref x :: S) k n H Q := W_s (rfl : (pj lw).1 102 24 = some (.aload_n 0, 1, 0)) rfl rfl rfl
theorem w102_25 {x : Int32} {l0 : Slot} : W (pj lw) 102 25 (l0 :: .val (.int x) :: L) S k n H Q ↔ W (pj lw) 102 26 (l0 :: .val (.int x) :: L) (.int x :: S) k n H Q := W_s (rfl : (pj lw).1 102 25 = some (.iload_n 1, 1, 0)) rfl rfl rfl
theorem w102_26 {x : Int32} {l0 l1 l2 l3 l4 : Slot} : W (pj lw) 102 26 (l0 :: l1 :: l2 :: l3 :: l4 :: .val (.int x) :: L) S k n H Q ↔ W (pj lw) 102 28 (l0 :: l1 :: l2 :: l3 :: l4 :: .val (.int x) :: L) (.int x :: S) k n H Q := W_s (rfl : (pj lw).1 102 26 = some (.iload 5, 2, 0)) rfl rfl rfl
theorem w102_28 {x : Int32} {l0 l1 l2 l3 l4 l5 : Slot} : W (pj lw) 102 28 (l0 :: l1 :: l2 :: l3 :: l4 :: l5 :: .val (.int x) :: L) S k n H Q ↔ W (pj lw) 102 30 (l0 :: l1 :: l2 :: l3 :: l4 :: l5 :: .val (.int x) :: L) (.int x :: S) k n H Q := W_s (rfl : (pj lw).1 102 28 = some (.iload 6, 2, 0)) rfl rfl rfl
theorem w102_30 {a : Nat} {x0 : Int32} {x1 : Int32} {x2 : Int32} : W (pj lw) 102 30 L (.int x2 :: .int x1 :: .int x0 :: .ref a :: S) k n H Q ↔ ((isO H a = true ∧ cs S + (5 + 11) + 13 ≤ 29) ∧ Cl (pj lw) 30 [.ref a, .int x0, .int x1, .int x2] H (fun v H => W (pj lw) 102 33 L (v.toList ++ S) k n H Q)) := W_inst (as := [.int x0, .int x1, .int x2]) (rfl : (pj lw).1 102 30 = some (.invokevirtual 7, 3, 30)) rfl rfl rfl (Nat.le_of_ble_eq_true rfl) (Nat.le_of_ble_eq_true rfl) ⟨rfl, rfl⟩
theorem w102_33 {x : Int32} : W (pj lw) 102 33 L (.int x :: S) k n H Q ↔ (if x = 0 then W (pj lw) 102 43 L S k n H Q else W (pj lw) 102 36 L S k n H Q) := W_if_eq (rfl : (pj lw).1 102 33 = some (.ifCond .eq 10, 3, 0)) rfl
theorem w102_36 {x : Int32} {l0 l1 l2 : Slot} : W (pj lw) 102 36 (l0 :: l1 :: l2 :: .val (.int x) :: L) S k n H Q ↔ W (pj lw) 102 37 (l0 :: l1 :: l2 :: .val (.int x) :: L) (.int x :: S) k n H Q := W_s (rfl : (pj lw).1 102 36 = some (.iload_n 3, 1, 0)) rfl rfl rfl
theorem w102_37 : W (pj lw) 102 37 L S k n H Q ↔ W (pj lw) 102 38 L (.int 1 :: S) k n H Q := W_s (rfl : (pj lw).1 102 37 = some (.iconst 1, 1, 0)) rfl rfl rfl
theorem w102_38 {x : Int32} {l0 l1 l2 l3 : Slot} : W (pj lw) 102 38 (l0 :: l1 :: l2 :: l3 :: .val (.int x) :: L) S k n H Q ↔ W (pj lw) 102 40 (l0 :: l1 :: l2 :: l3 :: .val (.int x) :: L) (.int x :: S) k n H Q := W_s (rfl : (pj lw).1 102 38 = some (.iload 4, 2, 0)) rfl rfl rfl
theorem w102_40 {x y : Int32} : W (pj lw) 102 40 L (.int y :: .int x :: S) k n H Q ↔ W (pj lw) 102 41 L (.int (x <<< (y &&& 31)) :: S) k n H Q := W_s (rfl : (pj lw).1 102 40 = some (.ishl, 1, 0)) rfl rfl rfl
theorem w102_41 {x y : Int32} : W (pj lw) 102 41 L (.int y :: .int x :: S) k n H Q ↔ W (pj lw) 102 42 L (.int (x ||| y) :: S) k n H Q := W_s (rfl : (pj lw).1 102 41 = some (.ior, 1, 0)) rfl rfl rfl
theorem w102_42i {y : Int32} {x : Int32} {l0 l1 l2 : Slot} : W (pj lw) 102 42 (l0 :: l1 :: l2 :: .val (.int y) :: L) (.int x :: S) k n H Q ↔ W (pj lw) 102 43 (l0 :: l1 :: l2 :: .val (.int x) :: L) S k n H Q := W_istn (rfl : (pj lw).1 102 42 = some (.istore_n 3, 1, 0)) rfl rfl
theorem w102_43 {x : Int32} {l0 l1 l2 l3 : Slot} : W (pj lw) 102 43 (l0 :: l1 :: l2 :: l3 :: .val (.int x) :: L) S k n H Q ↔ W (pj lw) 102 46 (l0 :: l1 :: l2 :: l3 :: .val (.int (x + 1)) :: L) S k n H Q := W_s (rfl : (pj lw).1 102 43 = some (.iinc 4 1, 3, 0)) rfl rfl rfl
theorem w102_46 {x : Int32} {l0 l1 l2 l3 l4 l5 : Slot} : W (pj lw) 102 46 (l0 :: l1 :: l2 :: l3 :: l4 :: l5 :: .val (.int x) :: L) S k n H Q ↔ W (pj lw) 102 49 (l0 :: l1 :: l2 :: l3 :: l4 :: l5 :: .val (.int (x + 1)) :: L) S k n H Q := W_s (rfl : (pj lw).1 102 46 = some (.iinc 6 1, 3, 0)) rfl rfl rfl
theorem w102_49 : W (pj lw) 102 49 L S k n H Q ↔ W (pj lw) 102 18 L S k n H Q := W_goto (rfl : (pj lw).1 102 49 = some (.goto (-31), 3, 0)) rfl
theorem w102_52 {x : Int32} {l0 l1 l2 l3 l4 : Slot} : W (pj lw) 102 52 (l0 :: l1 :: l2 :: l3 :: l4 :: .val (.int x) :: L) S k n H Q ↔ W (pj lw) 102 55 (l0 :: l1 :: l2 :: l3 :: l4 :: .val (.int (x + 1)) :: L) S k n H Q := W_s (rfl : (pj lw).1 102 52 = some (.iinc 5 1, 3, 0)) rfl rfl rfl
theorem w102_55 : W (pj lw) 102 55 L S k n H Q ↔ W (pj lw) 102 8 L S k n H Q := W_goto (rfl : (pj lw).1 102 55 = some (.goto (-47), 3, 0)) rfl
theorem w102_58 {x : Int32} {l0 l1 l2 : Slot} : W (pj lw) 102 58 (l0 :: l1 :: l2 :: .val (.int x) :: L) S k n H Q ↔ W (pj lw) 102 59 (l0 :: l1 :: l2 :: .val (.int x) :: L) (.int x :: S) k n H Q := W_s (rfl : (pj lw).1 102 58 = some (.iload_n 3, 1, 0)) rfl rfl rfl
theorem w102_59 {x : Int32} : W (pj lw) 102 59 L (.int x :: S) k n H Q ↔ Q (some (.int x)) H := W_r (rfl : (pj lw).1 102 59 = some (.ireturn, 1, 0)) rfl
theorem c103 {x0 : Nat} {x1 : Int32} {x2 : Int32} : Cl (pj lw) 103 [.ref x0, .int x1, .int x2] H Q ↔ W (pj lw) 103 0 [.val (.ref x0), .val (.int x1), .val (.int x2), .unset, .unset, .unset] [] 0 0 H Q := cl_unf rfl
theorem w103_0 : W (pj lw) 103 0 L S k n H Q ↔ W (pj lw) 103 3 L (.long 17 :: S) k n H Q := W_s (rfl : (pj lw).1 103 0 = some (.ldc2_w 13, 3, 17)) rfl rfl rfl
theorem w103_3uu {x : Int64} {l0 l1 l2 : Slot} : W (pj lw) 103 3 (l0 :: l1 :: l2 :: .unset :: .unset :: L) (.long x :: S) k n H Q ↔ W (pj lw) 103 4 (l0 :: l1 :: l2 :: .val (.long x) :: .second :: L) S k n H Q := W_lstn (rfl : (pj lw).1 103 3 = some (.lstore_n 3, 1, 0)) rfl rfl rfl rfl
theorem w103_4 : W (pj lw) 103 4 L S k n H Q ↔ W (pj lw) 103 5 L (.int 1 :: S) k n H Q := W_s (rfl : (pj lw).1 103 4 = some (.iconst 1, 1, 0)) rfl rfl rfl
theorem w103_5 {x : Int32} {l0 l1 l2 l3 l4 : Slot} : W (pj lw) 103 5 (l0 :: l1 :: l2 :: l3 :: l4 :: .unset :: L) (.int x :: S) k n H Q ↔ W (pj lw) 103 7 (l0 :: l1 :: l2 :: l3 :: l4 :: .val (.int x) :: L) S k n H Q := W_ist (rfl : (pj lw).1 103 5 = some (.istore 5, 2, 0)) rfl rfl
theorem w103_7 {x : Int32} {l0 l1 l2 l3 l4 : Slot} : W (pj lw) 103 7 (l0 :: l1 :: l2 :: l3 :: l4 :: .val (.int x) :: L) S k n H Q ↔ W (pj lw) 103 9 (l0 :: l1 :: l2 :: l3 :: l4 :: .val (.int x) :: L) (.int x :: S) k n H Q := W_s (rfl : (pj lw).1 103 7 = some (.iload 5, 2, 0)) rfl rfl rfl
theorem w103_9 {x : Int32} {l0 : Slot} : W (pj lw) 103 9 (l0 :: .val (.int x) :: L) S k n H Q ↔ W (pj lw) 103 10 (l0 :: .val (.int x) :: L) (.int x :: S) k n H Q := W_s (rfl : (pj lw).1 103 9 = some (.iload_n 1, 1, 0)) rfl rfl rfl
theorem w103_10 {x y : Int32} : W (pj lw) 103 10 L (.int y :: .int x :: S) k n H Q ↔ (if y < x then W (pj lw) 103 34 L S k n H Q else W (pj lw) 103 13 L S k n H Q) := W_icmp_gt (rfl : (pj lw).1 103 10 = some (.if_icmp .gt 24, 3, 0)) rfl
theorem w103_13 {x : Int64} {l0 l1 l2 : Slot} : W (pj lw) 103 13 (l0 :: l1 :: l2 :: .val (.long x) :: L) S k n H Q ↔ W (pj lw) 103 14 (l0 :: l1 :: l2 :: .val (.long x) :: L) (.long x :: S) k n H Q := W_s (rfl : (pj lw).1 103 13 = some (.lload_n 3, 1, 0)) rfl rfl rfl
theorem w103_14 : W (pj lw) 103 14 L S k n H Q ↔ W (pj lw) 103 17 L (.long 1000003 :: S) k n H Q := W_s (rfl : (pj lw).1 103 14 = some (.ldc2_w 15, 3, 1000003)) rfl rfl rfl
theorem w103_17 {x y : Int64} : W (pj lw) 103 17 L (.long y :: .long x :: S) k n H Q ↔ W (pj lw) 103 18 L (.long (x * y) :: S) k n H Q := W_s (rfl : (pj lw).1 103 17 = some (.lmul, 1, 0)) rfl rfl rfl
theorem w103_18 {x : Nat} : W (pj lw) 103 18 (.val (.ref x) :: L) S k n H Q ↔ W (pj lw) 103 19 (.val (.ref x) :: L) (.ref x :: S) k n H Q := W_s (rfl : (pj lw).1 103 18 = some (.aload_n 0, 1, 0)) rfl rfl rfl
theorem w103_19 {x : Int32} {l0 l1 l2 l3 l4 : Slot} : W (pj lw) 103 19 (l0 :: l1 :: l2 :: l3 :: l4 :: .val (.int x) :: L) S k n H Q ↔ W (pj lw) 103 21 (l0 :: l1 :: l2 :: l3 :: l4 :: .val (.int x) :: L) (.int x :: S) k n H Q := W_s (rfl : (pj lw).1 103 19 = some (.iload 5, 2, 0)) rfl rfl rfl
theorem w103_21 {x : Int32} {l0 l1 : Slot} : W (pj lw) 103 21 (l0 :: l1 :: .val (.int x) :: L) S k n H Q ↔ W (pj lw) 103 22 (l0 :: l1 :: .val (.int x) :: L) (.int x :: S) k n H Q := W_s (rfl : (pj lw).1 103 21 = some (.iload_n 2, 1, 0)) rfl rfl rfl
theorem w103_22 {x0 : Nat} {x1 : Int32} {x2 : Int32} : W (pj lw) 103 22 L (.int x2 :: .int x1 :: .ref x0 :: S) k n H Q ↔ (cs S + (7 + 11) + 29 ≤ 49 ∧ Cl (pj lw) 102 [.ref x0, .int x1, .int x2] H (fun v H => W (pj lw) 103 25 L (v.toList ++ S) k n H Q)) := W_stat (a := [.ref x0, .int x1, .int x2]) (rfl : (pj lw).1 103 22 = some (.invokestatic 17, 3, 102)) rfl rfl rfl (Nat.le_of_ble_eq_true rfl) (Nat.le_of_ble_eq_true rfl) ⟨rfl, rfl⟩
theorem w103_25 {x : Int32} : W (pj lw) 103 25 L (.int x :: S) k n H Q ↔ W (pj lw) 103 26 L (.long x.toInt64 :: S) k n H Q := W_s (rfl : (pj lw).1 103 25 = some (.i2l, 1, 0)) rfl rfl rfl
theorem w103_26 {x y : Int64} : W (pj lw) 103 26 L (.long y :: .long x :: S) k n H Q ↔ W (pj lw) 103 27 L (.long (x + y) :: S) k n H Q := W_s (rfl : (pj lw).1 103 26 = some (.ladd, 1, 0)) rfl rfl rfl
theorem w103_27j {x y : Int64} {l0 l1 l2 : Slot} : W (pj lw) 103 27 (l0 :: l1 :: l2 :: .val (.long y) :: .second :: L) (.long x :: S) k n H Q ↔ W (pj lw) 103 28 (l0 :: l1 :: l2 :: .val (.long x) :: .second :: L) S k n H Q := W_lstn' (rfl : (pj lw).1 103 27 = some (.lstore_n 3, 1, 0)) rfl rfl
theorem w103_28 {x : Int32} {l0 l1 l2 l3 l4 : Slot} : W (pj lw) 103 28 (l0 :: l1 :: l2 :: l3 :: l4 :: .val (.int x) :: L) S k n H Q ↔ W (pj lw) 103 31 (l0 :: l1 :: l2 :: l3 :: l4 :: .val (.int (x + 1)) :: L) S k n H Q := W_s (rfl : (pj lw).1 103 28 = some (.iinc 5 1, 3, 0)) rfl rfl rfl
theorem w103_31 : W (pj lw) 103 31 L S k n H Q ↔ W (pj lw) 103 7 L S k n H Q := W_goto (rfl : (pj lw).1 103 31 = some (.goto (-24), 3, 0)) rfl
theorem w103_34 {x : Int64} {l0 l1 l2 : Slot} : W (pj lw) 103 34 (l0 :: l1 :: l2 :: .val (.long x) :: L) S k n H Q ↔ W (pj lw) 103 35 (l0 :: l1 :: l2 :: .val (.long x) :: L) (.long x :: S) k n H Q := W_s (rfl : (pj lw).1 103 34 = some (.lload_n 3, 1, 0)) rfl rfl rfl
theorem w103_35 {x : Int64} : W (pj lw) 103 35 L (.long x :: S) k n H Q ↔ Q (some (.long x)) H := W_r (rfl : (pj lw).1 103 35 = some (.lreturn, 1, 0)) rfl
end LPc
section X9
variable {H : AH} {p : Nat} {s s' : St} {Q : Option Value → AH → Prop} {k n : Nat} {x y z w A : Int32}
def seI (f : Int32 → Int32 → Bool) (a : Int32) : Nat → Int32 → Int32 → Int32 → Int32 × Int32
  | 0, _, v, k => (v, k)
  | m + 1, b, v, k => seI f a m (b + 1) (if f a b = true then v ||| 1 <<< (k &&& 31) else v) (k + 1)
def seO (f : Int32 → Int32 → Bool) (A : Int32) : Nat → Int32 → Int32 → Int32 → Int32
  | 0, _, v, _ => v
  | m + 1, a, v, k => seO f A m (a + 1) (seI f a (A.toInt - a.toInt + 1).toNat a v k).1 (seI f a (A.toInt - a.toInt + 1).toNat a v k).2
set_option maxRecDepth 100000 in
theorem l102i (hE : Ev s) (hA : 1 ≤ A.toInt ∧ A.toInt ≤ 4) {i a : Int32} : ∀ (m : Nat) (b v kk : Int32), b.toInt = A.toInt + 1 - m → 1 ≤ b.toInt →
    (W (pj lw) 102 18 [.val (.ref p), .val (.int i), .val (.int A), .val (.int v), .val (.int kk), .val (.int a), .val (.int b)] [] k n (ob H p s) Q ↔ W (pj lw) 102 52 [.val (.ref p), .val (.int i), .val (.int A), .val (.int (seI (cnd s i) a m b v kk).1), .val (.int (seI (cnd s i) a m b v kk).2), .val (.int a), .val (.int (A + 1))] [] k n (ob H p s) Q)
  | 0, b, v, kk, h1, h2 => by
    have h3 : A < b := by rw [lt32]; omega
    have e : b = A + 1 := by rw [eq32, ia (by simp only [Int32.reduceToInt]; omega) (by simp only [Int32.reduceToInt]; omega)]; simp only [Int32.reduceToInt]; omega
    rw [w102_18]; simp +decide only [w102_20, w102_21, ↓reduceIte, h3, seI]
    rw [e]
  | m + 1, b, v, kk, h1, h2 => by
    have h3 : ¬ A < b := by rw [lt32]; omega
    have h4 : (b + 1).toInt = b.toInt + 1 := ia (by simp only [Int32.reduceToInt]; omega) (by simp only [Int32.reduceToInt]; omega)
    have key := fun v kk => l102i (i := i) (a := a) hE hA m (b + 1) v kk (by omega) (by omega)
    rw [w102_18, seI]
    by_cases e : cnd s i a b = true
    · rw [if_pos e]; simp +decide only [w102_20, w102_21, w102_24, w102_25, w102_26, w102_28, w102_30, w102_33, w102_36, w102_37, w102_38, w102_40, w102_41, w102_42i, w102_43, w102_46, w102_49, isO_put, Option.toList_some, List.cons_append, List.nil_append, true_and, and_true, ↓reduceIte, h3, t30 hE, e, bz_t]; exact key _ _
    · have e' : cnd s i a b = false := by simpa using e
      rw [if_neg e]; simp +decide only [w102_20, w102_21, w102_24, w102_25, w102_26, w102_28, w102_30, w102_33, w102_43, w102_46, w102_49, isO_put, Option.toList_some, List.cons_append, List.nil_append, true_and, and_true, ↓reduceIte, h3, t30 hE, e', bz_f]; exact key _ _
set_option maxRecDepth 100000 in
theorem l102o (hE : Ev s) (hA : 1 ≤ A.toInt ∧ A.toInt ≤ 4) {i : Int32} : ∀ (m : Nat) (a v kk : Int32) (l6 : Slot), us l6 → a.toInt = A.toInt + 1 - m → 1 ≤ a.toInt →
    (W (pj lw) 102 8 [.val (.ref p), .val (.int i), .val (.int A), .val (.int v), .val (.int kk), .val (.int a), l6] [] k n (ob H p s) Q ↔ Q (some (.int (seO (cnd s i) A m a v kk))) (ob H p s))
  | 0, a, v, kk, l6, hu, h1, h2 => by
    have h3 : A < a := by rw [lt32]; omega
    rw [w102_8]; simp +decide only [w102_10, w102_11, w102_58, w102_59, ↓reduceIte, h3, seO]
  | m + 1, a, v, kk, l6, hu, h1, h2 => by
    have h3 : ¬ A < a := by rw [lt32]; omega
    have h4 : (a + 1).toInt = a.toInt + 1 := ia (by simp only [Int32.reduceToInt]; omega) (by simp only [Int32.reduceToInt]; omega)
    have key := fun v kk l6 hu => l102o (i := i) hE hA m (a + 1) v kk l6 hu (by omega) (by omega)
    have inn := l102i (p := p) (H := H) (k := k) (n := n) (Q := Q) (i := i) (a := a) hE hA (A.toInt - a.toInt + 1).toNat a v kk (by omega) (by omega)
    rw [w102_8, seO]
    rcases hu with rfl | ⟨u, rfl⟩ <;> simp +decide only [w102_10, w102_11, w102_14, w102_16i, w102_16, ↓reduceIte, h3] <;> rw [inn] <;> simp +decide only [w102_52, w102_55] <;> exact key _ _ _ us_i
def seV (s : St) (A i : Int32) : Int32 := seO (cnd s i) A A.toInt.toNat 1 0 0
theorem s102 (hE : Ev s) (hA : 1 ≤ A.toInt ∧ A.toInt ≤ 4) {i : Int32} : Cl (pj lw) 102 [.ref p, .int i, .int A] (ob H p s) Q ↔ Q (some (.int (seV s A i))) (ob H p s) := by
  rw [c102]; simp +decide only [w102_0, w102_1, w102_2, w102_3, w102_5, w102_6]
  exact l102o hE hA A.toInt.toNat 1 0 0 .unset us_u (by simp only [Int32.reduceToInt]; omega) (by decide)
def prF (g : Int32 → Int32) : Nat → Int32 → Int64 → Int64
  | 0, _, h => h
  | m + 1, i, h => prF g m (i + 1) (h * 1000003 + (g i).toInt64)
set_option maxRecDepth 100000 in
theorem l103 (hE : Ev s) (hA : 1 ≤ A.toInt ∧ A.toInt ≤ 4) {nn : Int32} (hn : 0 ≤ nn.toInt ∧ nn.toInt ≤ 32) : ∀ (m : Nat) (i : Int32) (h : Int64), i.toInt = nn.toInt + 1 - m → 1 ≤ i.toInt →
    (W (pj lw) 103 7 [.val (.ref p), .val (.int nn), .val (.int A), .val (.long h), .second, .val (.int i)] [] k n (ob H p s) Q ↔ Q (some (.long (prF (seV s A) m i h))) (ob H p s))
  | 0, i, h, h1, h2 => by
    have h3 : nn < i := by rw [lt32]; omega
    rw [w103_7]; simp +decide only [w103_9, w103_10, w103_34, w103_35, ↓reduceIte, h3, prF]
  | m + 1, i, h, h1, h2 => by
    have h3 : ¬ nn < i := by rw [lt32]; omega
    have h4 : (i + 1).toInt = i.toInt + 1 := ia (by simp only [Int32.reduceToInt]; omega) (by simp only [Int32.reduceToInt]; omega)
    have key := fun h => l103 hE hA hn m (i + 1) h (by omega) (by omega)
    rw [w103_7, prF]; simp +decide only [w103_9, w103_10, w103_13, w103_14, w103_17, w103_18, w103_19, w103_21, w103_22, w103_25, w103_26, w103_27j, w103_28, w103_31, cs_nil, cs_long, Option.toList_some, List.cons_append, List.nil_append, true_and, ↓reduceIte, Nat.reduceAdd, Int32.reduceAdd, Int64.reduceAdd, Nat.add_zero, Nat.le_refl, h3, s102 hE hA]; exact key _
def prV (s : St) (A nn : Int32) : Int64 := prF (seV s A) nn.toInt.toNat 1 17
theorem s103 (hE : Ev s) (hA : 1 ≤ A.toInt ∧ A.toInt ≤ 4) {nn : Int32} (hn : 0 ≤ nn.toInt ∧ nn.toInt ≤ 32) : Cl (pj lw) 103 [.ref p, .int nn, .int A] (ob H p s) Q ↔ Q (some (.long (prV s A nn))) (ob H p s) := by
  rw [c103]; simp +decide only [w103_0, w103_3uu, w103_4, w103_5]
  exact l103 hE hA hn nn.toInt.toNat 1 17 (by simp only [Int32.reduceToInt]; omega) (by decide)
theorem pr_congr {nn : Int32} (h13 : sI s' 13 = sI s 13) (h4 : sI s' 4 = sI s 4) (h0 : sI s' 0 = sI s 0) (h7 : sA s' 7 = sA s 7) (h10 : sA s' 10 = sA s 10) : prV s' A nn = prV s A nn := by
  have : ∀ i, cnd s' i = cnd s i := fun i => by funext a b; unfold cnd vid val; rw [h13, h4, h0, h7, h10]
  have : seV s' A = seV s A := by funext i; unfold seV; rw [this]
  unfold prV; rw [this]
set_option maxRecDepth 100000 in
set_option maxHeartbeats 4000000 in
theorem lp1 {a len : Nat} {f : Nat → Int32} {c : Nat} {al : Int32} (ha : a < p) (hl : len ≤ 260)
    (hQ : ∀ s, Iv s A → W (pj lw) 100 306 [.val (.ref a), .val (.int al), .val (.int A), .val (.ref p), .unset, .unset, .unset, .unset, .unset, .unset, .unset, .unset, .unset, .unset] [] k n (ob (H1 c a len f) p s) Q) (m : Nat) : ∀ (t : Int32) (s : St), Iv s A → 1 ≤ t.toInt → t.toInt ≤ len + 4 → len + 4 ≤ t.toInt + m →
    W (pj lw) 100 48 [.val (.ref a), .val (.int al), .val (.int A), .val (.ref p), .val (.int t), .unset, .unset, .unset, .unset, .unset, .unset, .unset, .unset, .unset] [] k n (ob (H1 c a len f) p s) Q := by
  have hlen : (len.toInt32).toInt = len := len32 (by omega)
  induction m with
  | zero =>
    intro t s hI h0 h4 hm
    obtain ⟨y1, y2, y3, y4⟩ := sc1 (cc := c) (len := len) (f := f) (s := s) ha
    have h3 : (t + 3).toInt = t.toInt + 3 := ia (by simp only [Int32.reduceToInt]; omega) (by simp only [Int32.reduceToInt]; omega)
    have hlt : ¬ t + 3 < len.toInt32 := by rw [lt32]; omega
    rw [w100_48]; simp +decide only [w100_50, w100_51, w100_52, w100_53, w100_54, true_and, ↓reduceIte, y1, y2, hlt]
    exact W_fa 4 rfl (hQ s hI)
  | succ m ih =>
    intro t s hI h0 h4 hm
    obtain ⟨y1, y2, y3, y4⟩ := sc1 (cc := c) (len := len) (f := f) (s := s) ha
    have h1 : (t + 1).toInt = t.toInt + 1 := ia (by simp only [Int32.reduceToInt]; omega) (by simp only [Int32.reduceToInt]; omega)
    have h2 : (t + 2).toInt = t.toInt + 2 := ia (by simp only [Int32.reduceToInt]; omega) (by simp only [Int32.reduceToInt]; omega)
    have h3 : (t + 3).toInt = t.toInt + 3 := ia (by simp only [Int32.reduceToInt]; omega) (by simp only [Int32.reduceToInt]; omega)
    have h5 : (t + 4).toInt = t.toInt + 4 := ia (by simp only [Int32.reduceToInt]; omega) (by simp only [Int32.reduceToInt]; omega)
    by_cases hlt : t + 3 < len.toInt32
    rotate_left
    · rw [w100_48]; simp +decide only [w100_50, w100_51, w100_52, w100_53, w100_54, true_and, ↓reduceIte, y1, y2, hlt]
      exact W_fa 4 rfl (hQ s hI)
    have hlt' := hlt; rw [lt32] at hlt'
    obtain ⟨hE, hT, hO, hD⟩ := id hI
    have hn := hE.1
    have hr := gcn_rg hT.1
    have K : ∀ s, Iv s A → W (pj lw) 100 300 [.val (.ref a), .val (.int al), .val (.int A), .val (.ref p), .val (.int t), .unset, .unset, .unset, .unset, .unset, .unset, .unset, .unset, .unset] [] k n (ob (H1 c a len f) p s) Q := fun s hI => by
      simp +decide only [w100_300, w100_303]
      exact ih (t + 4) s hI (by omega) (by omega) (by omega)
    clear ih
    have b0 : 0 ≤ t.toInt ∧ t.toInt < (len : Int) := by omega
    have b1 : 0 ≤ (t + 1).toInt ∧ (t + 1).toInt < (len : Int) := by omega
    have b2 : 0 ≤ (t + 2).toInt ∧ (t + 2).toInt < (len : Int) := by omega
    have b3 : 0 ≤ (t + 3).toInt ∧ (t + 3).toInt < (len : Int) := by omega
    have n1 : ¬ sI s 4 + 1 = 0 := by rw [eq32, ia (by simp only [Int32.reduceToInt]; omega) (by simp only [Int32.reduceToInt]; omega)]; simp only [Int32.reduceToInt]; omega
    have n2 : ¬ sI s 4 + 2 = 0 := by rw [eq32, ia (by simp only [Int32.reduceToInt]; omega) (by simp only [Int32.reduceToInt]; omega)]; simp only [Int32.reduceToInt]; omega
    have nA : ¬ A + 1 = 0 := by rw [eq32, ia (by simp only [Int32.reduceToInt]; omega) (by simp only [Int32.reduceToInt]; omega)]; simp only [Int32.reduceToInt]; omega
    rw [w100_48]; simp +decide only [w100_50, w100_51, w100_52, w100_53, w100_54, w100_57, w100_58, w100_60, w100_61, w100_63, w100_64, w100_66, w100_67, w100_69, w100_70, w100_71, w100_72, w100_74, w100_75, w100_77, w100_78, w100_80, w100_81, w100_82, w100_83, w100_85, w100_86, w100_88, w100_89, w100_91, w100_92, w100_93, w100_94, w100_96, w100_97, w100_99, w100_100, w100_103, w100_105, w100_107, w100_109, w100_110, w100_111, w100_112, w100_113, w100_114, isO_put, Option.toList_some, List.cons_append, List.nil_append, true_and, and_true, not_false_eq_true, ↓reduceIte, y1, y2, y3, y4, hlt, b0, b1, b2, b3, t34, n1]
    generalize f t.toNatClampNeg &&& 7 = o
    generalize f (t + 1).toNatClampNeg &&& 2147483647 = c1'
    generalize f (t + 2).toNatClampNeg &&& 2147483647 = c2'
    generalize f (t + 3).toNatClampNeg &&& 2147483647 = c3'
    by_cases o1 : 1 < o
    rotate_left
    · have R : ∀ a b c, Iv (adS s a b c) A := fun a b c => Iv_ad hI
      by_cases e1 : c1' &&& 15 = 15 <;> by_cases e2 : c1' >>> (4 &&& 31) &&& 3 = 0 <;> simp +decide only [w100_116, w100_118, w100_119, w100_122, w100_124, w100_126, w100_127, w100_129, w100_132, w100_133, w100_136, w100_137, w100_139, w100_140, w100_141, w100_142, w100_144, w100_145, w100_147, w100_148, w100_150, w100_152, w100_153, w100_154, w100_155, w100_156, w100_159, w100_161, w100_163, w100_164, w100_165, w100_166i, w100_168, w100_170, w100_172, w100_173, w100_174, w100_175i, w100_177, w100_178, w100_180, w100_182, w100_184, w100_187, w100_188, isO_put, Option.toList_some, List.cons_append, List.nil_append, true_and, and_true, not_false_eq_true, ↓reduceIte, o1, e1, e2, n2, t9 hE] <;> exact W_fa 5 rfl (K _ (R _ _ _))
    by_cases o2 : o = 2
    · subst o2
      simp +decide only [w100_116, w100_118, w100_119, w100_191, w100_193, w100_194, w100_197, w100_199, w100_200, w100_201, w100_202, w100_203, w100_204, w100_205, w100_207, w100_209, w100_210, w100_211, w100_212, w100_213, w100_215, w100_216, w100_218, w100_220, w100_222, w100_225, w100_226, isO_put, Option.toList_some, List.cons_append, List.nil_append, true_and, and_true, not_false_eq_true, ↓reduceIte, nA, t10 hE]
      exact W_fa 5 rfl (K _ (Iv_ob hI))
    by_cases o3 : o = 3
    · subst o3
      simp +decide only [w100_116, w100_118, w100_119, w100_191, w100_193, w100_194, w100_229, w100_231, w100_232, w100_235, w100_236, w100_238, w100_241, w100_242, isO_put, Option.toList_some, List.cons_append, List.nil_append, true_and, and_true, ↓reduceIte, t11 hE]
      exact W_fa 5 rfl (K _ (Iv_un hI))
    by_cases o4 : o = 4
    · subst o4
      simp +decide only [w100_116, w100_118, w100_119, w100_191, w100_193, w100_194, w100_229, w100_231, w100_232, w100_245, w100_247, w100_248, w100_251, w100_252, w100_253, w100_255, w100_256, w100_257, w100_258, w100_261, isO_put, Option.toList_none, List.nil_append, true_and, and_true, ↓reduceIte, y3, y4, b1, t12]
      exact W_fa 5 rfl (K _ (Iv_sd hI))
    by_cases o5 : o = 5
    · subst o5
      simp +decide only [w100_116, w100_118, w100_119, w100_191, w100_193, w100_194, w100_229, w100_231, w100_232, w100_245, w100_247, w100_248, w100_264, w100_266, w100_267, w100_270, w100_271, isO_put, true_and, and_true, ↓reduceIte]
      refine t15 hE fun z q1 q2 => ?_
      simp +decide only [w100_274, w100_275, Option.toList_some, List.cons_append, List.nil_append]
      exact W_fa 5 rfl (K _ (Iv_dr hI q1 q2))
    by_cases o6 : o = 6
    · subst o6
      have T := fun (i : Int32) (Q : Option Value → AH → Prop) => t16 (lw := lw) (H := H1 c a len f) (p := p) (Q := Q) (i := i) hE hI.al4
      simp +decide only [w100_116, w100_118, w100_119, w100_191, w100_193, w100_194, w100_229, w100_231, w100_232, w100_245, w100_247, w100_248, w100_264, w100_266, w100_267, w100_278, w100_280, w100_282, w100_285, w100_286, w100_288, w100_291, w100_292, isO_put, Option.toList_some, List.cons_append, List.nil_append, true_and, and_true, ↓reduceIte, T]
      exact W_fa 5 rfl (K _ (Iv_od hI))
    simp +decide only [w100_116, w100_118, w100_119, w100_191, w100_193, w100_194, w100_229, w100_231, w100_232, w100_245, w100_247, w100_248, w100_264, w100_266, w100_267, w100_278, w100_280, w100_282, w100_295, w100_296, isO_put, true_and, and_true, ↓reduceIte, o1, o2, o3, o4, o5, o6]
    refine t18 hE fun z q1 q2 => ?_
    simp +decide only [w100_299, Option.toList_some, List.cons_append, List.nil_append]
    exact W_fa 5 rfl (K _ (Iv_el hI q1))

theorem vid_i (hE : Ev s) {i : Int32} (h : 1 ≤ i.toInt ∧ i.toInt ≤ (sI s 4).toInt) : vid s i = true ∧ (1 ≤ i.toNatClampNeg ∧ i.toNatClampNeg ≤ nN s) := by
  have := nN_le hE
  exact ⟨by rw [vid_n hE]; exact decide_eq_true (by omega), by rw [cln]; omega⟩
set_option maxRecDepth 100000 in
theorem l346 {a : Nat} {al nn mk : Int32} : ∀ (m : Nat) (i : Int32) (s : St), Iv s A → ¬ sI s 12 = 0 → sI s 4 = nn → i.toInt = nn.toInt + 1 - m → 1 ≤ i.toInt → (∀ j : Nat, 1 ≤ j → (j : Int) < i.toInt → Tr s j) →
    (∀ s', Iv s' A → ¬ sI s' 12 = 0 → sI s' 4 = nn → (∀ j, 1 ≤ j → j ≤ nN s' → Tr s' j) → W (pj lw) 100 370 [.val (.ref a), .val (.int al), .val (.int A), .val (.ref p), .val (.int nn), .val (.int mk), .val (.int 0), .unset, .unset, .unset, .unset, .unset, .unset, .unset] [] k n (ob H p s') Q) →
    W (pj lw) 100 346 [.val (.ref a), .val (.int al), .val (.int A), .val (.ref p), .val (.int nn), .val (.int mk), .val (.int 0), .val (.int i), .unset, .unset, .unset, .unset, .unset, .unset] [] k n (ob H p s) Q
  | 0, i, s, hI, hv, hn, h1, h2, ht, hQ => by
    have h3 : nn < i := by rw [lt32]; omega
    rw [w100_346]; simp +decide only [w100_348, w100_350, ↓reduceIte, h3]
    exact W_fa 7 rfl (hQ s hI hv hn fun j a b => ht j a (by have := (nN_le hI.1).2; rw [hn] at this; omega))
  | m + 1, i, s, hI, hv, hn, h1, h2, ht, hQ => by
    have hE := hI.1
    have hnr := hE.1
    rw [hn] at hnr
    have h3 : ¬ nn < i := by rw [lt32]; omega
    have h4 : (i + 1).toInt = i.toInt + 1 := ia (by simp only [Int32.reduceToInt]; omega) (by simp only [Int32.reduceToInt]; omega)
    obtain ⟨hvi, hb⟩ := vid_i hE (i := i) (by rw [hn]; omega)
    have T := fun (Q : Option Value → AH → Prop) => t16 (lw := lw) (H := H) (p := p) (Q := Q) (i := i) hE hI.al4
    have eR : odR s i = 0 := by unfold odR; rw [if_neg (by rw [hvi]; decide), if_neg hv]
    have eS' : odS s i = oS s i.toNatClampNeg (sA s 10 (sA s 5 i.toNatClampNeg * 5 + sA s 6 i.toNatClampNeg).toNatClampNeg) := if_pos eR
    have hI' := Iv_od (i := i) hI
    rw [w100_346]; simp +decide only [w100_348, w100_350, w100_353, w100_354, w100_356, w100_359, w100_364, w100_367, isO_put, Option.toList_some, List.cons_append, List.nil_append, true_and, and_true, ↓reduceIte, h3, T, eR]
    rw [eS'] at hI' ⊢
    refine l346 m (i + 1) _ hI' (by rw [oS_I (by decide)]; exact hv) (by rw [oS_I (by decide)]; exact hn) (by omega) (by omega) (fun j a b => ?_) hQ
    unfold Tr; rw [oS_4, oS_A (by decide), oS_A (by decide), oS_A (by decide)]
    by_cases e : j = i.toNatClampNeg
    · subst e; rw [up_i]
    · rw [up_n e]; rw [cln] at e; exact ht j a (by omega)
def mb (mk : Int32) (i : Int32) : Prop := Jvm.Free.XT.ushr mk (i - 1) &&& 1 = 0
def Ms (s : St) (mk : Int32) (j : Nat) : Prop := Tr s j ∨ (sA s 4 j = -1 ∧ ¬ mb mk (Int32.ofNat j))
set_option maxRecDepth 100000 in
theorem l373 {a : Nat} {al nn mk : Int32} : ∀ (m : Nat) (i jv : Int32) (s : St), Iv s A → ¬ sI s 12 = 0 → sI s 4 = nn → i.toInt = nn.toInt + 1 - m → 1 ≤ i.toInt → (∀ j : Nat, 1 ≤ j → j ≤ nN s → Ms s mk j) → (jv = 0 ∨ ((1 ≤ jv.toInt ∧ jv.toInt < i.toInt) ∧ sA s 4 jv.toNatClampNeg = -1)) →
    (∀ s' jv, Iv s' A → ¬ sI s' 12 = 0 → sI s' 4 = nn → (∀ j, 1 ≤ j → j ≤ nN s' → Ms s' mk j) → (jv = 0 ∨ ((1 ≤ jv.toInt ∧ jv.toInt ≤ nn.toInt) ∧ sA s' 4 jv.toNatClampNeg = -1)) → W (pj lw) 100 413 [.val (.ref a), .val (.int al), .val (.int A), .val (.ref p), .val (.int nn), .val (.int mk), .val (.int jv), .unset, .unset, .unset, .unset, .unset, .unset, .unset] [] k n (ob H p s') Q) →
    W (pj lw) 100 373 [.val (.ref a), .val (.int al), .val (.int A), .val (.ref p), .val (.int nn), .val (.int mk), .val (.int jv), .val (.int i), .unset, .unset, .unset, .unset, .unset, .unset] [] k n (ob H p s) Q
  | 0, i, jv, s, hI, hv, hn, h1, h2, ht, hj, hQ => by
    have h3 : nn < i := by rw [lt32]; omega
    rw [w100_373]; simp +decide only [w100_375, w100_377, ↓reduceIte, h3]
    exact W_fa 7 rfl (hQ s jv hI hv hn ht (hj.imp id fun q => ⟨by omega, q.2⟩))
  | m + 1, i, jv, s, hI, hv, hn, h1, h2, ht, hj, hQ => by
    have hE := hI.1
    have hnr := hE.1
    rw [hn] at hnr
    have h3 : ¬ nn < i := by rw [lt32]; omega
    have h4 : (i + 1).toInt = i.toInt + 1 := ia (by simp only [Int32.reduceToInt]; omega) (by simp only [Int32.reduceToInt]; omega)
    obtain ⟨hvi, hb⟩ := vid_i hE (i := i) (by rw [hn]; omega)
    by_cases e : Jvm.Free.XT.ushr mk (i - 1) &&& 1 = 0
    · rw [w100_373]; simp +decide only [w100_375, w100_377, w100_380, w100_382, w100_384, w100_385, w100_386, w100_387, w100_388, w100_389, w100_407, w100_410, ↓reduceIte, h3, e]
      exact l373 m (i + 1) jv s hI hv hn (by omega) (by omega) ht (hj.imp id fun q => ⟨by omega, q.2⟩) hQ
    · have eR : unR s i = 0 := if_pos hvi
      have eS' : unS s i = oS s i.toNatClampNeg (-1) := if_pos hvi
      have hI' := Iv_un (i := i) hI
      have T := fun (Q : Option Value → AH → Prop) => t11 (lw := lw) (H := H) (p := p) (Q := Q) (i := i) hE
      rw [w100_373]; simp +decide only [w100_375, w100_377, w100_380, w100_382, w100_384, w100_385, w100_386, w100_387, w100_388, w100_389, w100_392, w100_393, w100_395, w100_398, w100_403, w100_405i, w100_407, w100_410, isO_put, Option.toList_some, List.cons_append, List.nil_append, true_and, and_true, ↓reduceIte, h3, e, T, eR]
      rw [eS'] at hI' ⊢
      refine l373 m (i + 1) i _ hI' (by rw [oS_I (by decide)]; exact hv) (by rw [oS_I (by decide)]; exact hn) (by omega) (by omega) (fun j a b => ?_) (Or.inr ⟨by omega, by rw [oS_4, up_i]⟩) hQ
      have b' : j ≤ nN s := by unfold nN at *; rw [oS_I (by decide)] at b; exact b
      unfold Ms Tr; rw [oS_4, oS_A (by decide), oS_A (by decide), oS_A (by decide)]
      by_cases q : j = i.toNatClampNeg
      · subst q; right; rw [up_i, ofn (by omega)]; exact ⟨rfl, e⟩
      · rw [up_n q]; exact ht j a b'
theorem Ms_ob (h : Iv s A) (hv : ¬ sI s 12 = 0) {mk : Int32} (ht : ∀ j, 1 ≤ j → j ≤ nN s → Ms s mk j) : ∀ i, 1 ≤ i → i ≤ nN s → sA s 4 i = -1 ∨ (sA s 4 i).toInt = gD s i := fun i a b => by
  rcases ht i a b with t | t
  · exact Or.inr (Tr_gD h hv a b t)
  · exact Or.inl t.1
def Fin (s e : St) : Prop := sI e 13 = 1 ∧ sI e 15 = 0 ∧ sA e 7 = elC s ∧ sA e 4 = sA s 4 ∧ sA e 5 = sA s 5 ∧ sA e 6 = sA s 6 ∧ sA e 10 = sA s 10 ∧ sI e 4 = sI s 4 ∧ sI e 12 = sI s 12 ∧ sI e 0 = sI s 0 ∧ sI e 2 = sI s 2 ∧ dt e = dt s
theorem bt_at {x g : Int32} (hg : 0 ≤ g.toInt ∧ g.toInt < 32) (h : bt x g.toNatClampNeg = true) : ¬ (x >>> (g &&& 31)) &&& 1 = 0 := by
  rw [bt_i (by omega)] at h; exact of_decide_eq_true h
set_option maxRecDepth 100000 in
theorem l433 {a : Nat} {al nn mk jv : Int32} {e s : St} (hI : Iv s A) (hIe : Iv e A) (hF : Fin s e) (hv : ¬ sI s 12 = 0) (hn : sI s 4 = nn) (ht : ∀ j, 1 ≤ j → j ≤ nN s → Ms s mk j)
    (hQ : W (pj lw) 100 516 [.val (.ref a), .val (.int al), .val (.int A), .val (.ref p), .val (.int nn), .val (.int mk), .val (.int jv), .unset, .unset, .unset, .unset, .unset, .unset, .unset] [] k n (ob H p e) Q) : ∀ (m : Nat) (i : Int32), i.toInt = nn.toInt + 1 - m → 1 ≤ i.toInt →
    W (pj lw) 100 433 [.val (.ref a), .val (.int al), .val (.int A), .val (.ref p), .val (.int nn), .val (.int mk), .val (.int jv), .val (.int i), .unset, .unset, .unset, .unset, .unset, .unset] [] k n (ob H p e) Q
  | 0, i, h1, h2 => by
    have h3 : nn < i := by rw [lt32]; omega
    rw [w100_433]; simp +decide only [w100_435, w100_437, ↓reduceIte, h3]
    exact W_fa 7 rfl hQ
  | m + 1, i, h1, h2 => by
    obtain ⟨f13, f15, f7, f4, f5, f6, f10, g4, g12, g0, g2, gd⟩ := id hF
    have hE := hI.1
    have hnr := hE.1
    rw [hn] at hnr
    have h3 : ¬ nn < i := by rw [lt32]; omega
    have h4 : (i + 1).toInt = i.toInt + 1 := ia (by simp only [Int32.reduceToInt]; omega) (by simp only [Int32.reduceToInt]; omega)
    obtain ⟨hvi, hb⟩ := vid_i hE (i := i) (by rw [hn]; omega)
    have hvie : vid e i = true := by unfold vid at *; rw [g4]; exact hvi
    have al' := hI.al hv hb.1 hb.2
    have hT := hI.2.1
    have d0 : dal e i 0 = sA s 5 i.toNatClampNeg := by unfold dal; rw [if_pos ⟨hvie, by rw [g12]; exact hv⟩, if_pos rfl, f5]
    have d1 : dal e i 1 = sA s 6 i.toNatClampNeg := by unfold dal; rw [if_pos ⟨hvie, by rw [g12]; exact hv⟩, if_neg (by decide), if_pos rfl, f6]
    obtain ⟨-, -, -, tr⟩ := el_true hI hv (Ms_ob hI hv ht)
    obtain ⟨tb, t10'⟩ := tr _ hb.1 hb.2
    have n13 : ¬ sI e 13 = 0 := by rw [f13]; decide
    have vA : ∀ q : Int32, 1 ≤ q.toInt ∧ q.toInt ≤ A.toInt → val e q = true := fun q hq => by
      unfold val; rw [g0, hT.2.1]; refine decide_eq_true ?_; rw [lt32, lt32]; simp only [Int32.reduceToInt]; omega
    have gir := gi_i hT al'.1 al'.2
    have gir2 := gi_i hT al'.2 al'.1
    have hr := gcn_rg hT.1
    have sy : sA s 10 (sA s 6 i.toNatClampNeg * 5 + sA s 5 i.toNatClampNeg).toNatClampNeg = sA s 10 (sA s 5 i.toNatClampNeg * 5 + sA s 6 i.toNatClampNeg).toNatClampNeg := by
      rw [gir.1, gir2.1]; exact (gi_rg hT.1 (by rw [cln]; omega) (by rw [cln]; omega)).2.2.2
    have r10 := gir.2; rw [hT.2.2.1] at r10
    have nb := bt_at (x := elC s i.toNatClampNeg) (g := sA s 10 (sA s 5 i.toNatClampNeg * 5 + sA s 6 i.toNatClampNeg).toNatClampNeg) (by omega) tb
    have k1 : cnd e i (sA s 5 i.toNatClampNeg) (sA s 6 i.toNatClampNeg) = true := by
      unfold cnd; rw [f7, f10]; exact decide_eq_true ⟨⟨n13, hvie⟩, ⟨vA _ al'.1, vA _ al'.2⟩, nb⟩
    have k2 : cnd e i (sA s 6 i.toNatClampNeg) (sA s 5 i.toNatClampNeg) = true := by
      unfold cnd; rw [f7, f10, sy]; exact decide_eq_true ⟨⟨n13, hvie⟩, ⟨vA _ al'.2, vA _ al'.1⟩, nb⟩
    have key := l433 hI hIe hF hv hn ht hQ m (i + 1) (by omega) (by omega)
    rw [w100_433]
    by_cases em : Jvm.Free.XT.ushr mk (i - 1) &&& 1 = 0
    · have tri : Tr s i.toNatClampNeg := by
        rcases ht _ hb.1 hb.2 with q | q
        · exact q
        · rw [ofn (by omega)] at q; exact absurd em q.2
      have o0 := Tr_gD hI hv hb.1 hb.2 tri
      have ce := el_ok hI hb.1 hb.2
      have c1 : cnt (bt (elC s i.toNatClampNeg)) 0 10 = 1 := by
        have := ce.2.2 (by omega); have := cnt_pos (f := bt (elC s i.toNatClampNeg)) 10 0 (by omega) (by omega) tb; omega
      have k3 : cct e i = 1 := by unfold cct; rw [if_pos ⟨n13, hvie⟩, f7, c1]; rfl
      simp +decide only [w100_435, w100_437, w100_440, w100_441, w100_443, w100_444, w100_447, w100_449, w100_450, w100_452, w100_453, w100_456, w100_458, w100_459, w100_461, w100_463, w100_465, w100_468, w100_471, w100_472, w100_474, w100_476, w100_478, w100_481, w100_486, w100_488, w100_490, w100_491, w100_492, w100_493, w100_494, w100_495, w100_498, w100_499, w100_501, w100_504, w100_505, w100_510, w100_513, isO_put, Option.toList_some, List.cons_append, List.nil_append, true_and, and_true, ↓reduceIte, h3, t17 hIe.1, d0, d1, t30 hIe.1, k1, k2, bz_t, em, t31 hIe.1, k3]
      exact W_fa 8 rfl key
    · simp +decide only [w100_435, w100_437, w100_440, w100_441, w100_443, w100_444, w100_447, w100_449, w100_450, w100_452, w100_453, w100_456, w100_458, w100_459, w100_461, w100_463, w100_465, w100_468, w100_471, w100_472, w100_474, w100_476, w100_478, w100_481, w100_486, w100_488, w100_490, w100_491, w100_492, w100_493, w100_494, w100_495, w100_510, w100_513, isO_put, Option.toList_some, List.cons_append, List.nil_append, true_and, and_true, ↓reduceIte, h3, t17 hIe.1, d0, d1, t30 hIe.1, k1, k2, bz_t, em]
      exact W_fa 8 rfl key
set_option maxRecDepth 100000 in
set_option maxHeartbeats 1000000 in
theorem ph3 {a : Nat} {al nn mk jv : Int32} (hI : Iv s A) (hv : ¬ sI s 12 = 0) (hn : sI s 4 = nn) (ht : ∀ j, 1 ≤ j → j ≤ nN s → Ms s mk j) (hj : jv = 0 ∨ ((1 ≤ jv.toInt ∧ jv.toInt ≤ nn.toInt) ∧ sA s 4 jv.toNatClampNeg = -1)) :
    W (pj lw) 100 413 [.val (.ref a), .val (.int al), .val (.int A), .val (.ref p), .val (.int nn), .val (.int mk), .val (.int jv), .unset, .unset, .unset, .unset, .unset, .unset, .unset] [] k n (ob H p s) (fun v _ => v = some (.int 1)) := by
  have hE := hI.1
  have hT := hI.2.1
  have hr := gcn_rg hT.1
  have hnr := hE.1
  rw [hn] at hnr
  have hA4 : 1 ≤ A.toInt ∧ A.toInt ≤ 4 := by omega
  have ob1 := Ms_ob hI hv ht
  obtain ⟨eb, es, ef, tr⟩ := el_true hI hv ob1
  simp +decide only [w100_413, w100_414, isO_put, true_and, and_true]
  refine t18 hE fun z q1 q2 => ?_
  rw [show uI (uI (uI z 14 (elS s)) 15 (elF s)) 13 1 = eS z (elS s) (elF s) from rfl, es, ef]
  obtain ⟨Ie, eI, e13, e14, e15, e7, eA, ed⟩ := eS_all (u := 1) (v := 0) hI q1 q2
  generalize eS z 1 0 = e at *
  have hF : Fin s e := ⟨e13, e15, e7, eA 4 (by decide) (by decide) (by decide), eA 5 (by decide) (by decide) (by decide), eA 6 (by decide) (by decide) (by decide), eA 10 (by decide) (by decide) (by decide), eI 4 (by decide) (by decide) (by decide) (by decide), eI 12 (by decide) (by decide) (by decide) (by decide), eI 0 (by decide) (by decide) (by decide) (by decide), eI 2 (by decide) (by decide) (by decide) (by decide), ed⟩
  have cf : cfl e = 0 := by unfold cfl; rw [if_neg (by rw [e13]; decide), e15]
  simp +decide only [w100_417, w100_418, w100_421, w100_422, w100_425, w100_430, w100_431, isO_put, Option.toList_some, List.cons_append, List.nil_append, true_and, and_true, ↓reduceIte, t32, cf]
  refine l433 hI Ie hF hv hn ht ?_ nn.toInt.toNat 1 (by simp only [Int32.reduceToInt]; omega) (by decide)
  have e4n : sI e 4 = nn := (eI 4 (by decide) (by decide) (by decide) (by decide)).trans hn
  simp +decide only [w100_516, w100_517, w100_519, w100_520, w100_523uu, w100_525, Option.toList_some, List.cons_append, List.nil_append, true_and, s103 Ie.1 hA4 hnr]
  by_cases j0 : jv = 0
  · simp +decide only [w100_527, w100_630, w100_631, ↓reduceIte, j0]
  have hj' := hj.resolve_left j0
  have nA : ¬ A = 0 := by rw [eq32]; simp only [Int32.reduceToInt]; omega
  have rx := rem_rg (x := Jvm.Free.XT.ushr mk 8 &&& 255) (m := A) (and_rg (by decide)).1 (by omega)
  have ry := rem_rg (x := Jvm.Free.XT.ushr mk 20 &&& 255) (m := A) (and_rg (by decide)).1 (by omega)
  have rx' : (1 + (Jvm.Free.XT.ushr mk 8 &&& 255) % A).toInt = 1 + ((Jvm.Free.XT.ushr mk 8 &&& 255) % A).toInt := ia (by simp only [Int32.reduceToInt]; omega) (by simp only [Int32.reduceToInt]; omega)
  have ry' : (1 + (Jvm.Free.XT.ushr mk 20 &&& 255) % A).toInt = 1 + ((Jvm.Free.XT.ushr mk 20 &&& 255) % A).toInt := ia (by simp only [Int32.reduceToInt]; omega) (by simp only [Int32.reduceToInt]; omega)
  simp +decide only [w100_527, w100_530, w100_531, w100_533, w100_535, w100_536, w100_539, w100_540, w100_541, w100_542, w100_543, w100_545, w100_546, w100_548, w100_550, w100_551, w100_554, w100_555, w100_556, w100_557, w100_558, true_and, not_false_eq_true, ↓reduceIte, j0, nA]
  generalize 1 + (Jvm.Free.XT.ushr mk 8 &&& 255) % A = x at *
  generalize 1 + (Jvm.Free.XT.ushr mk 20 &&& 255) % A = y at *
  obtain ⟨hvj, hbj⟩ := vid_i Ie.1 (i := jv) (by rw [e4n]; omega)
  have vA : ∀ q : Int32, 1 ≤ q.toInt ∧ q.toInt ≤ A.toInt → val e q = true := fun q hq => by
    unfold val; rw [Ie.2.1.2.1]; refine decide_eq_true ?_; rw [lt32, lt32]; simp only [Int32.reduceToInt]; omega
  have oR : obR e jv x y = 0 := by unfold obR; rw [if_neg (by rw [hvj]; decide), if_pos ⟨vA x (by omega), vA y (by omega)⟩]
  have I2 := Iv_ob (i := jv) (a := x) (b := y) Ie
  have oS' : obS e jv x y = oS e jv.toNatClampNeg (sA e 10 (x * 5 + y).toNatClampNeg) := if_pos oR
  have T10 := fun (Q : Option Value → AH → Prop) => t10 (lw := lw) (H := H) (p := p) (Q := Q) (i := jv) (a := x) (b := y) Ie.1
  rw [oS'] at T10 I2
  have st2 : sta (oS e jv.toNatClampNeg (sA e 10 (x * 5 + y).toNatClampNeg)) = 0 := by unfold sta; rw [if_pos oS_13]
  simp +decide only [w100_560, w100_561, w100_563, w100_565, w100_567, w100_570, w100_573, w100_574, w100_577, w100_582, w100_583, isO_put, Option.toList_some, List.cons_append, List.nil_append, true_and, and_true, ↓reduceIte, T10, oR, t29, st2]
  refine t18 I2.1 fun z2 r1 r2 => ?_
  generalize hs2 : oS e jv.toNatClampNeg (sA e 10 (x * 5 + y).toNatClampNeg) = s2 at *
  rw [show uI (uI (uI z2 14 (elS s2)) 15 (elF s2)) 13 1 = eS z2 (elS s2) (elF s2) from rfl]
  obtain ⟨I3, e3I, e313, e314, e315, e37, e3A, e3d⟩ := eS_all (u := elS s2) (v := elF s2) I2 r1 r2
  generalize eS z2 (elS s2) (elF s2) = s3 at *
  have s24 : sI s2 4 = nn := by rw [← hs2, oS_I (by decide)]; exact e4n
  have s34 : sI s3 4 = nn := (e3I 4 (by decide) (by decide) (by decide) (by decide)).trans s24
  obtain ⟨hvj3, hbj3⟩ := vid_i I3.1 (i := jv) (by rw [s34]; omega)
  have uR : unR s3 jv = 0 := if_pos hvj3
  have uS : unS s3 jv = oS s3 jv.toNatClampNeg (-1) := if_pos hvj3
  have I4 := Iv_un (i := jv) I3
  rw [uS] at I4
  have T11 := fun (Q : Option Value → AH → Prop) => t11 (lw := lw) (H := H) (p := p) (Q := Q) (i := jv) I3.1
  rw [uS] at T11
  have st4 : sta (oS s3 jv.toNatClampNeg (-1)) = 0 := by unfold sta; rw [if_pos oS_13]
  simp +decide only [w100_586, w100_587, w100_588, w100_590, w100_593, w100_596, w100_597, w100_600, w100_605, w100_606, isO_put, Option.toList_some, List.cons_append, List.nil_append, true_and, and_true, ↓reduceIte, T11, uR, t29, st4]
  refine t18 I4.1 fun z4 v1 v2 => ?_
  have f24 : sA s2 4 = up (sA s 4) jv.toNatClampNeg (sA e 10 (x * 5 + y).toNatClampNeg) := by rw [← hs2, oS_4, hF.2.2.2.1]
  have a24 : ∀ t, t ≠ 4 → sA s2 t = sA e t := fun t h => by rw [← hs2]; exact oS_A h
  have i24 : ∀ t, t ≠ 13 → sI s2 t = sI e t := fun t h => by rw [← hs2]; exact oS_I h
  generalize hs4 : oS s3 jv.toNatClampNeg (-1) = s4 at *
  have a44 : ∀ t, t ≠ 4 → sA s4 t = sA s3 t := fun t h => by rw [← hs4]; exact oS_A h
  have i44 : ∀ t, t ≠ 13 → sI s4 t = sI s3 t := fun t h => by rw [← hs4]; exact oS_I h
  have f44 : sA s4 4 = sA s 4 := by
    rw [← hs4, oS_4, e3A 4 (by decide) (by decide) (by decide), f24]
    funext j; unfold up; by_cases q : j = jv.toNatClampNeg
    · rw [if_pos q, q]; exact hj'.2.symm
    · rw [if_neg q, if_neg q]
  have IA : ∀ t, t ≠ 4 → t ≠ 7 → t ≠ 12 → t ≠ 13 → sA s4 t = sA s t := fun t h1 h2 h3 h4 => by rw [a44 t h1, e3A t h2 h3 h4, a24 t h1, eA t h2 h3 h4]
  have II : ∀ t, t ≠ 13 → t ≠ 14 → t ≠ 15 → t ≠ 22 → sI s4 t = sI s t := fun t h1 h2 h3 h4 => by rw [i44 t h1, e3I t h1 h2 h3 h4, i24 t h1, eI t h1 h2 h3 h4]
  have hd : dt s4 = dt s := by
    unfold dt nN gN; rw [IA 2 (by decide) (by decide) (by decide) (by decide), IA 3 (by decide) (by decide) (by decide) (by decide), IA 11 (by decide) (by decide) (by decide) (by decide), II 4 (by decide) (by decide) (by decide) (by decide), II 1 (by decide) (by decide) (by decide) (by decide)]
  have n2 : nN s2 = nN s := by unfold nN; rw [i24 4 (by decide), eI 4 (by decide) (by decide) (by decide) (by decide)]
  have ho : Pj.Out (nN s) (sA s 7) (sA s4 7) := by
    rw [a44 7 (by decide), e37]
    have o1 := el_out hE
    have o2 := el_out I2.1
    rw [n2, a24 7 (by decide), e7] at o2
    exact o1.trans o2
  have ec : elC s4 = elC s := el_congr hd f44 (II 2 (by decide) (by decide) (by decide) (by decide)) ho
  have n4 : nN s4 = nN s := by unfold nN; rw [II 4 (by decide) (by decide) (by decide) (by decide)]
  have eb4 : elB s4 = false := by unfold elB; rw [ec, n4]; exact eb
  have es4 : elS s4 = 1 := by unfold elS; rw [eb4]; rfl
  rw [show uI (uI (uI z4 14 (elS s4)) 15 (elF s4)) 13 1 = eS z4 (elS s4) (elF s4) from rfl, es4]
  obtain ⟨I5, e5I, e513, e514, e515, e57, e5A, e5d⟩ := eS_all (u := 1) (v := elF s4) I4 v1 v2
  generalize eS z4 1 (elF s4) = s5 at *
  have pv : prV s5 A nn = prV e A nn := pr_congr (e513.trans e13.symm) (by rw [e5I 4 (by decide) (by decide) (by decide) (by decide), II 4 (by decide) (by decide) (by decide) (by decide), hn, e4n]) (by rw [e5I 0 (by decide) (by decide) (by decide) (by decide), II 0 (by decide) (by decide) (by decide) (by decide), eI 0 (by decide) (by decide) (by decide) (by decide)]) (by rw [e57, ec, e7]) (by rw [e5A 10 (by decide) (by decide) (by decide), IA 10 (by decide) (by decide) (by decide) (by decide), eA 10 (by decide) (by decide) (by decide)])
  simp +decide only [w100_609, w100_610, w100_615, w100_616, w100_618, w100_619, w100_622, w100_624, w100_625, w100_630, w100_631, cmpL_eq, Option.toList_some, List.cons_append, List.nil_append, and_true, ↓reduceIte, s103 I5.1 hA4 hnr, pv]
set_option maxRecDepth 100000 in
set_option maxHeartbeats 1000000 in
theorem ph2 {a : Nat} {al nn mk : Int32} (hI : Iv s A) (hn : sI s 4 = nn) :
    W (pj lw) 100 329 [.val (.ref a), .val (.int al), .val (.int A), .val (.ref p), .val (.int nn), .val (.int mk), .unset, .unset, .unset, .unset, .unset, .unset, .unset, .unset] [] k n (ob H p s) (fun v _ => v = some (.int 1)) := by
  have hnr := hI.1.1
  rw [hn] at hnr
  simp +decide only [w100_329, w100_330, isO_put, true_and, and_true]
  refine t15 hI.1 fun z q1 q2 => ?_
  have I1 := Iv_dr hI q1 q2
  have f4 : sI (uI z 12 1) 4 = nn := by rw [sI_uI, if_neg (by decide), q1.1 4 (by decide)]; exact hn
  have f12 : ¬ sI (uI z 12 1) 12 = 0 := by rw [sI_uI, if_pos rfl]; decide
  generalize uI z 12 1 = s1' at *
  rw [hn]
  simp +decide only [w100_333, w100_335, w100_340, w100_341, w100_343, w100_344, Option.toList_some, List.cons_append, List.nil_append, ↓reduceIte]
  refine l346 nn.toInt.toNat 1 s1' I1 f12 f4 (by simp only [Int32.reduceToInt]; omega) (by decide) (fun j a b => by simp only [Int32.reduceToInt] at b; omega) fun s2' I2 v2 n2 t2 => ?_
  simp +decide only [w100_370, w100_371]
  refine l373 nn.toInt.toNat 1 0 s2' I2 v2 n2 (by simp only [Int32.reduceToInt]; omega) (by decide) (fun j a b => Or.inl (t2 j a b)) (Or.inl rfl) fun s3' jv I3 v3 n3 t3 j3 => ?_
  exact ph3 I3 v3 n3 t3 j3
set_option maxRecDepth 100000 in
set_option maxHeartbeats 1000000 in
theorem law_ok (N a len : Nat) (f : Nat → Int32) (ha : a < N) (hl : len ≤ 260) : Cl (pj lw) 100 [.ref a] (H1 N a len f) (fun v _ => v = some (.int 1)) := by
  have hlen : (len.toInt32).toInt = len := len32 (by omega)
  have y1 : (isA (H1 N a len f) a = true) = True := by rw [isA_H1]; exact eq_self _ ▸ rfl
  have y2 : alen (H1 N a len f) a = len := alen_H1
  have y3 : ∀ i, (inA (H1 N a len f) a .int i = true) = (0 ≤ i.toInt ∧ i.toInt < len) := fun i => propext inA_H1
  have y4 : ∀ i, elt (H1 N a len f) a i = .int (f i.toNatClampNeg) := fun i => elt_H1
  have e1 : (H1 N a len f).1 = N := rfl
  have main : ∀ al : Int32, W (pj lw) 100 12 [.val (.ref a), .unset, .unset, .unset, .unset, .unset, .unset, .unset, .unset, .unset, .unset, .unset, .unset, .unset] [.int al] 0 0 (H1 N a len f) (fun v _ => v = some (.int 1)) := fun al => by
    have go : W (pj lw) 100 33 [.val (.ref a), .val (.int al), .val (.int (cl 2 4 al)), .unset, .unset, .unset, .unset, .unset, .unset, .unset, .unset, .unset, .unset, .unset] [] 0 0 (H1 N a len f) (fun v _ => v = some (.int 1)) := by
      simp +decide only [w100_33, w100_36, w100_37, w100_38, w100_41, w100_44, w100_45, w100_46, isO_put, cs_nil, cs_ref, Option.toList_none, List.nil_append, true_and, and_true, ↓reduceIte, Nat.reduceAdd, Nat.reduceLeDiff, Int32.reduceAdd, Int64.reduceAdd, Nat.add_zero, Nat.zero_add, mkO_ob, e1, t1]
      simp only [H1_c]
      refine lp1 ha hl (fun s hI => ?_) (len + 4) 1 _ (Iv_ini cl_A4) (by decide) (by simp only [Int32.reduceToInt]; omega) (by simp only [Int32.reduceToInt]; omega)
      obtain ⟨y1, y2, y3, y4⟩ := sc1 (cc := N + 14) (len := len) (f := f) (s := s) ha
      by_cases l0 : 0 < len.toInt32
      · have l0' := l0; rw [lt32] at l0'; simp only [Int32.reduceToInt] at l0'
        have l1 : (len.toInt32 - 1).toInt = len - 1 := by rw [isb (by simp only [Int32.reduceToInt]; omega) (by simp only [Int32.reduceToInt]; omega)]; simp only [Int32.reduceToInt]; omega
        have b1 : 0 ≤ (len.toInt32 - 1).toInt ∧ (len.toInt32 - 1).toInt < (len : Int) := by omega
        simp +decide only [w100_306, w100_307, w100_310, w100_312, w100_313, w100_314, w100_317, w100_318, w100_319, w100_320, w100_321, w100_322, w100_323, w100_327, isO_put, Option.toList_some, List.cons_append, List.nil_append, true_and, and_true, ↓reduceIte, y1, y2, y3, y4, l0, b1, t34]
        exact ph2 hI rfl
      · simp +decide only [w100_306, w100_307, w100_310, w100_312, w100_313, w100_314, w100_326, w100_327, isO_put, Option.toList_some, List.cons_append, List.nil_append, true_and, and_true, ↓reduceIte, y1, y2, l0, t34]
        exact ph2 hI rfl
    by_cases g1 : al < 2
    · have ec : cl 2 4 al = 2 := by unfold cl; rw [if_pos g1]
      rw [ec] at go
      simp +decide only [w100_12, w100_13, w100_14, w100_15, w100_18, w100_19, w100_32, ↓reduceIte, g1]; exact go
    · by_cases g2 : 4 < al
      · have ec : cl 2 4 al = 4 := by unfold cl; rw [if_neg g1, if_pos g2]
        rw [ec] at go
        simp +decide only [w100_12, w100_13, w100_14, w100_15, w100_22, w100_23, w100_24, w100_27, w100_28, w100_32, ↓reduceIte, g1, g2]; exact go
      · have ec : cl 2 4 al = al := by unfold cl; rw [if_neg g1, if_neg g2]
        rw [ec] at go
        simp +decide only [w100_12, w100_13, w100_14, w100_15, w100_22, w100_23, w100_24, w100_31, w100_32, ↓reduceIte, g1, g2]; exact go
  rw [c100]
  by_cases l0 : 0 < len.toInt32
  · have l0' := l0; rw [lt32] at l0'; simp only [Int32.reduceToInt] at l0'
    have b0 : 0 ≤ (0 : Int32).toInt ∧ (0 : Int32).toInt < (len : Int) := by simp only [Int32.reduceToInt]; omega
    have y30 : inA (H1 N a len f) a .int 0 = true := by rw [y3]; exact b0
    simp +decide only [w100_0, w100_1, w100_2, w100_5, w100_6, w100_7, w100_8, true_and, ↓reduceIte, Int32.reduceToNatClampNeg, y1, y2, y30, y4, l0]
    exact main _
  · simp +decide only [w100_0, w100_1, w100_2, w100_11, true_and, ↓reduceIte, y1, y2, l0]
    exact main 3
end X9

end Jvm.JX.Lw
namespace Jvm.Pilot.@@N@@
open Jvm Jvm.ClassFile Sem Op Lib Jvm.Free Jvm.Stand Jvm.LawKit Jvm.RoadKit Bundle Jvm.Pilot.@@N@@.Jvm.D Jvm.JX Jvm.JX.Pj Jvm.JX.Lw
def nmL : List (Nat × MethodName) := [(1, ⟨"PedigreeCheck", "<init>", "(II)V"⟩), (2, ⟨"PedigreeCheck", "clampSeed", "(I)I"⟩), (3, ⟨"PedigreeCheck", "buildGenotypes", "()V"⟩), (4, ⟨"PedigreeCheck", "buildKidMasks", "()V"⟩), (5, ⟨"PedigreeCheck", "childMaskFor", "(II)I"⟩), (6, ⟨"PedigreeCheck", "compatible", "(III)Z"⟩), (7, ⟨"PedigreeCheck", "validId", "(I)Z"⟩), (8, ⟨"PedigreeCheck", "validAllele", "(I)Z"⟩), (9, ⟨"PedigreeCheck", "addIndividual", "(III)I"⟩), (10, ⟨"PedigreeCheck", "observe", "(III)I"⟩), (11, ⟨"PedigreeCheck", "unobserve", "(I)I"⟩), (12, ⟨"PedigreeCheck", "setSeed", "(I)V"⟩), (13, ⟨"PedigreeCheck", "nextDraw", "()I"⟩), (14, ⟨"PedigreeCheck", "inherit", "(I)I"⟩), (15, ⟨"PedigreeCheck", "drop", "()I"⟩), (16, ⟨"PedigreeCheck", "observeDropped", "(I)I"⟩), (17, ⟨"PedigreeCheck", "droppedAllele", "(II)I"⟩), (18, ⟨"PedigreeCheck", "eliminate", "()I"⟩), (19, ⟨"PedigreeCheck", "loadInit", "()V"⟩), (20, ⟨"PedigreeCheck", "runElimination", "()V"⟩), (21, ⟨"PedigreeCheck", "anyEmpty", "()Z"⟩), (22, ⟨"PedigreeCheck", "isFamilyNumber", "(I)Z"⟩), (23, ⟨"PedigreeCheck", "collectKids", "(I)V"⟩), (24, ⟨"PedigreeCheck", "kidsFit", "(I)Z"⟩), (25, ⟨"PedigreeCheck", "addKidSupport", "(I)V"⟩), (26, ⟨"PedigreeCheck", "hasAssignment", "(I)Z"⟩), (27, ⟨"PedigreeCheck", "reduceFamily", "(I)Z"⟩), (28, ⟨"PedigreeCheck", "applySupport", "(IIII)Z"⟩), (29, ⟨"PedigreeCheck", "status", "()I"⟩), (30, ⟨"PedigreeCheck", "candidate", "(III)Z"⟩), (31, ⟨"PedigreeCheck", "candidateCount", "(I)I"⟩), (32, ⟨"PedigreeCheck", "conflictFamily", "()I"⟩), (34, ⟨"PedigreeCheck", "individualCount", "()I"⟩), (100, ⟨"PedigreeCheckL7", "law", "([I)Z"⟩), (102, ⟨"PedigreeCheckL7", "set", "(LPedigreeCheck;II)I"⟩), (103, ⟨"PedigreeCheckL7", "print", "(LPedigreeCheck;II)J"⟩)]
def nm (m : Nat) : MethodName := (nmL.lookup m).getD ⟨"", "", ""⟩
def btL : List (Nat × ByteArray) := [(1, prog_1_method_1_code), (2, prog_1_method_2_code), (3, prog_1_method_3_code), (4, prog_1_method_4_code), (5, prog_1_method_5_code), (6, prog_1_method_6_code), (7, prog_1_method_7_code), (8, prog_1_method_8_code), (9, prog_1_method_9_code), (10, prog_1_method_10_code), (11, prog_1_method_11_code), (12, prog_1_method_12_code), (13, prog_1_method_13_code), (14, prog_1_method_14_code), (15, prog_1_method_15_code), (16, prog_1_method_16_code), (17, prog_1_method_17_code), (18, prog_1_method_18_code), (19, prog_1_method_19_code), (20, prog_1_method_20_code), (21, prog_1_method_21_code), (22, prog_1_method_22_code), (23, prog_1_method_23_code), (24, prog_1_method_24_code), (25, prog_1_method_25_code), (26, prog_1_method_26_code), (27, prog_1_method_27_code), (28, prog_1_method_28_code), (29, prog_1_method_29_code), (30, prog_1_method_30_code), (31, prog_1_method_31_code), (32, prog_1_method_32_code), (34, prog_1_method_34_code), (100, code), (102, method_2_code), (103, method_3_code)]
def bt (m : Nat) : ByteArray := (btL.lookup m).getD ⟨#[]⟩
def fnL : List (String × String) := [("alleleCount", "I"), ("genoCount", "I"), ("fullMask", "I"), ("gen", "I"), ("n", "I"), ("sexOf", "[I"), ("fatherOf", "[I"), ("motherOf", "[I"), ("obsG", "[I"), ("dropP", "[I"), ("dropM", "[I"), ("cand", "[I"), ("dropValid", "Z"), ("candValid", "Z"), ("lastStatus", "I"), ("conflict", "I"), ("genoA", "[I"), ("genoB", "[I"), ("genoIndex", "[I"), ("kidMask", "[I"), ("kidBuf", "[I"), ("newKid", "[I"), ("kidCount", "I")]
def fn (k : Nat) : String × String := fnL.getD k ("", "")
def RL : List Nat := [1, 2, 3, 4, 5, 6, 7, 8, 9, 10, 11, 12, 13, 14, 15, 16, 17, 18, 19, 20, 21, 22, 23, 24, 25, 26, 27, 28, 29, 30, 31, 32, 34, 100, 102, 103]
def FS : List Nat := [0, 1, 2, 3, 4, 5, 6, 7, 8, 9, 10, 11, 12, 13, 14, 15, 16, 17, 18, 19, 20, 21, 22]
def WF : List Nat := [0, 1, 2, 3, 4, 12, 13, 14, 15, 22]
def FL : List (Nat × Nat × Nat) := [(0, 7, 5), (0, 13, 6), (0, 16, 7), (0, 19, 8), (0, 22, 9), (0, 25, 10), (0, 28, 11), (0, 31, 16), (0, 34, 17), (0, 37, 18), (0, 40, 19), (0, 43, 20), (0, 46, 21), (0, 49, 0), (0, 57, 3), (0, 66, 4), (0, 69, 12), (0, 73, 13), (0, 76, 14), (0, 79, 15), (0, 82, 22), (0, 85, 1), (0, 88, 2)]
def ML : List (Nat × Nat × Nat) := [(0, 53, 2), (0, 60, 3), (0, 63, 4), (0, 91, 5), (0, 95, 6), (0, 99, 7), (0, 103, 8), (0, 107, 13), (0, 111, 14), (0, 114, 19), (0, 117, 22), (0, 120, 26), (0, 123, 20), (0, 126, 21), (0, 130, 27), (0, 133, 23), (0, 137, 24), (0, 140, 25), (0, 143, 28), (1, 23, 1), (1, 27, 34), (1, 31, 9), (1, 35, 10), (1, 38, 11), (1, 42, 12), (1, 46, 15), (1, 49, 16), (1, 52, 18), (1, 55, 32), (1, 58, 17), (1, 7, 30), (1, 62, 31), (1, 65, 103), (1, 69, 29), (1, 17, 102)]
def KI : List (Nat × Nat × Int) := [(0, 106, 1103515245), (1, 26, 2147483647)]
def KJ : List (Nat × Nat × Int) := [(1, 13, 17), (1, 15, 1000003)]
def ATL : List FieldType := [.int]
def cn (j : Nat) : String := if j = 0 then "PedigreeCheck" else "PedigreeCheckL7"
def own (m : Nat) : Nat := if m < 100 then 0 else 1
def ini (m : Nat) : Bool := m == 1
def rowsOf (m : Nat) : List Jvm.JX.Row := if m < 100 then prows.getD m [] else lrows.getD (m - 100) []
theorem hFL : ∀ t ∈ FL, t.2.2 ∈ FS ∧ Jvm.Cond.fieldLink (cn t.1) t.2.1 "PedigreeCheck" (fn t.2.2).1 (fn t.2.2).2 ∈ tables_1 := (faS ⟨by decide, (List.mem_of_getElem? (i := 10) rfl)⟩ (faS ⟨by decide, (List.mem_of_getElem? (i := 12) rfl)⟩ (faS ⟨by decide, (List.mem_of_getElem? (i := 14) rfl)⟩ (faS ⟨by decide, (List.mem_of_getElem? (i := 16) rfl)⟩ (faS ⟨by decide, (List.mem_of_getElem? (i := 18) rfl)⟩ (faS ⟨by decide, (List.mem_of_getElem? (i := 20) rfl)⟩ (faS ⟨by decide, (List.mem_of_getElem? (i := 22) rfl)⟩ (faS ⟨by decide, (List.mem_of_getElem? (i := 24) rfl)⟩ (faS ⟨by decide, (List.mem_of_getElem? (i := 26) rfl)⟩ (faS ⟨by decide, (List.mem_of_getElem? (i := 28) rfl)⟩ (faS ⟨by decide, (List.mem_of_getElem? (i := 30) rfl)⟩ (faS ⟨by decide, (List.mem_of_getElem? (i := 32) rfl)⟩ (faS ⟨by decide, (List.mem_of_getElem? (i := 34) rfl)⟩ (faS ⟨by decide, (List.mem_of_getElem? (i := 36) rfl)⟩ (faS ⟨by decide, (List.mem_of_getElem? (i := 42) rfl)⟩ (faS ⟨by decide, (List.mem_of_getElem? (i := 64) rfl)⟩ (faS ⟨by decide, (List.mem_of_getElem? (i := 66) rfl)⟩ (faS ⟨by decide, (List.mem_of_getElem? (i := 68) rfl)⟩ (faS ⟨by decide, (List.mem_of_getElem? (i := 70) rfl)⟩ (faS ⟨by decide, (List.mem_of_getElem? (i := 72) rfl)⟩ (faS ⟨by decide, (List.mem_of_getElem? (i := 74) rfl)⟩ (faS ⟨by decide, (List.mem_of_getElem? (i := 48) rfl)⟩ (faS ⟨by decide, (List.mem_of_getElem? (i := 50) rfl)⟩ fa0)))))))))))))))))))))))
theorem hWF : ∀ k ∈ WF, Jvm.Cond.lays "PedigreeCheck" "PedigreeCheck" (fn k).1 (fn k).2 ∈ tables_1 := (faS (List.mem_of_getElem? (i := 37) rfl) (faS (List.mem_of_getElem? (i := 49) rfl) (faS (List.mem_of_getElem? (i := 51) rfl) (faS (List.mem_of_getElem? (i := 43) rfl) (faS (List.mem_of_getElem? (i := 65) rfl) (faS (List.mem_of_getElem? (i := 67) rfl) (faS (List.mem_of_getElem? (i := 69) rfl) (faS (List.mem_of_getElem? (i := 71) rfl) (faS (List.mem_of_getElem? (i := 73) rfl) (faS (List.mem_of_getElem? (i := 75) rfl) fa0))))))))))
theorem hML : ∀ t ∈ ML, t.2.2 ∈ RL ∧ Jvm.Cond.methodLink (cn t.1) t.2.1 (nm t.2.2) ∈ tables_1 := (faS ⟨by decide, (List.mem_of_getElem? (i := 38) rfl)⟩ (faS ⟨by decide, (List.mem_of_getElem? (i := 44) rfl)⟩ (faS ⟨by decide, (List.mem_of_getElem? (i := 52) rfl)⟩ (faS ⟨by decide, (List.mem_of_getElem? (i := 56) rfl)⟩ (faS ⟨by decide, (List.mem_of_getElem? (i := 60) rfl)⟩ (faS ⟨by decide, (List.mem_of_getElem? (i := 87) rfl)⟩ (faS ⟨by decide, (List.mem_of_getElem? (i := 96) rfl)⟩ (faS ⟨by decide, (List.mem_of_getElem? (i := 110) rfl)⟩ (faS ⟨by decide, (List.mem_of_getElem? (i := 180) rfl)⟩ (faS ⟨by decide, (List.mem_of_getElem? (i := 125) rfl)⟩ (faS ⟨by decide, (List.mem_of_getElem? (i := 129) rfl)⟩ (faS ⟨by decide, (List.mem_of_getElem? (i := 184) rfl)⟩ (faS ⟨by decide, (List.mem_of_getElem? (i := 133) rfl)⟩ (faS ⟨by decide, (List.mem_of_getElem? (i := 137) rfl)⟩ (faS ⟨by decide, (List.mem_of_getElem? (i := 196) rfl)⟩ (faS ⟨by decide, (List.mem_of_getElem? (i := 188) rfl)⟩ (faS ⟨by decide, (List.mem_of_getElem? (i := 192) rfl)⟩ (faS ⟨by decide, (List.mem_of_getElem? (i := 200) rfl)⟩ (faS ⟨by decide, (List.mem_of_getElem? (i := 204) rfl)⟩ (faS ⟨by decide, (List.mem_of_getElem? (i := 3) rfl)⟩ (faS ⟨by decide, (List.mem_of_getElem? (i := 77) rfl)⟩ (faS ⟨by decide, (List.mem_of_getElem? (i := 91) rfl)⟩ (faS ⟨by decide, (List.mem_of_getElem? (i := 82) rfl)⟩ (faS ⟨by decide, (List.mem_of_getElem? (i := 100) rfl)⟩ (faS ⟨by decide, (List.mem_of_getElem? (i := 175) rfl)⟩ (faS ⟨by decide, (List.mem_of_getElem? (i := 105) rfl)⟩ (faS ⟨by decide, (List.mem_of_getElem? (i := 115) rfl)⟩ (faS ⟨by decide, (List.mem_of_getElem? (i := 120) rfl)⟩ (faS ⟨by decide, (List.mem_of_getElem? (i := 141) rfl)⟩ (faS ⟨by decide, (List.mem_of_getElem? (i := 146) rfl)⟩ (faS ⟨by decide, (List.mem_of_getElem? (i := 151) rfl)⟩ (faS ⟨by decide, (List.mem_of_getElem? (i := 156) rfl)⟩ (faS ⟨by decide, (List.mem_of_getElem? (i := 161) rfl)⟩ (faS ⟨by decide, (List.mem_of_getElem? (i := 170) rfl)⟩ (faS ⟨by decide, (List.mem_of_getElem? (i := 167) rfl)⟩ fa0)))))))))))))))))))))))))))))))))))
theorem hKI : ∀ t ∈ KI, Jvm.Cond.constant (cn t.1) t.2.1 (Int32.ofInt t.2.2) ∈ tables_1 := (faS (List.mem_of_getElem? (i := 114) rfl) (faS (List.mem_of_getElem? (i := 76) rfl) fa0))
theorem hKJ : ∀ t ∈ KJ, Jvm.Cond.constantLong (cn t.1) t.2.1 (Int64.ofInt t.2.2) ∈ tables_1 := (faS (List.mem_of_getElem? (i := 165) rfl) (faS (List.mem_of_getElem? (i := 166) rfl) fa0))
theorem hAT : ∀ t ∈ ATL, Jvm.Cond.arrayClass t ∈ tables_1 := (faS (List.mem_of_getElem? (i := 9) rfl) fa0)
theorem hrows : RL.all (fun m => (rowsOf m).all (rowOne FL ML KI KJ ATL WF 23 8 bt own ini m)) = true := by decide +kernel
theorem cal1 : CalOk (pj lw) tables_1 "PedigreeCheck" nm bt 1 := ⟨(List.mem_of_getElem? (i := 5) rfl), (List.mem_of_getElem? (i := 2) rfl), ⟨[.int, .int], none, by decide +kernel, rfl⟩, fun h => absurd h (by decide), fun _ => ⟨rfl, (List.mem_of_getElem? (i := 4) rfl)⟩, fun h => absurd h (by decide), fun h => absurd h (by decide), fun _ => ⟨rfl, rfl⟩⟩
theorem cal2 : CalOk (pj lw) tables_1 "PedigreeCheck" nm bt 2 := ⟨(List.mem_of_getElem? (i := 41) rfl), (List.mem_of_getElem? (i := 2) rfl), ⟨[.int], some .int, by decide +kernel, rfl⟩, fun h => absurd h (by decide), fun _ => ⟨rfl, (List.mem_of_getElem? (i := 39) rfl)⟩, fun h => absurd h (by decide), fun _ => (List.mem_of_getElem? (i := 40) rfl), fun h => absurd h (by decide)⟩
theorem cal3 : CalOk (pj lw) tables_1 "PedigreeCheck" nm bt 3 := ⟨(List.mem_of_getElem? (i := 47) rfl), (List.mem_of_getElem? (i := 2) rfl), ⟨[], none, by decide +kernel, rfl⟩, fun h => absurd h (by decide), fun _ => ⟨rfl, (List.mem_of_getElem? (i := 45) rfl)⟩, fun h => absurd h (by decide), fun _ => (List.mem_of_getElem? (i := 46) rfl), fun h => absurd h (by decide)⟩
theorem cal4 : CalOk (pj lw) tables_1 "PedigreeCheck" nm bt 4 := ⟨(List.mem_of_getElem? (i := 55) rfl), (List.mem_of_getElem? (i := 2) rfl), ⟨[], none, by decide +kernel, rfl⟩, fun h => absurd h (by decide), fun _ => ⟨rfl, (List.mem_of_getElem? (i := 53) rfl)⟩, fun h => absurd h (by decide), fun _ => (List.mem_of_getElem? (i := 54) rfl), fun h => absurd h (by decide)⟩
theorem cal5 : CalOk (pj lw) tables_1 "PedigreeCheck" nm bt 5 := ⟨(List.mem_of_getElem? (i := 59) rfl), (List.mem_of_getElem? (i := 2) rfl), ⟨[.int, .int], some .int, by decide +kernel, rfl⟩, fun h => absurd h (by decide), fun _ => ⟨rfl, (List.mem_of_getElem? (i := 57) rfl)⟩, fun h => absurd h (by decide), fun _ => (List.mem_of_getElem? (i := 58) rfl), fun h => absurd h (by decide)⟩
theorem cal6 : CalOk (pj lw) tables_1 "PedigreeCheck" nm bt 6 := ⟨(List.mem_of_getElem? (i := 63) rfl), (List.mem_of_getElem? (i := 2) rfl), ⟨[.int, .int, .int], some .boolean, by decide +kernel, rfl⟩, fun h => absurd h (by decide), fun _ => ⟨rfl, (List.mem_of_getElem? (i := 61) rfl)⟩, fun h => absurd h (by decide), fun _ => (List.mem_of_getElem? (i := 62) rfl), fun h => absurd h (by decide)⟩
theorem cal7 : CalOk (pj lw) tables_1 "PedigreeCheck" nm bt 7 := ⟨(List.mem_of_getElem? (i := 90) rfl), (List.mem_of_getElem? (i := 2) rfl), ⟨[.int], some .boolean, by decide +kernel, rfl⟩, fun h => absurd h (by decide), fun _ => ⟨rfl, (List.mem_of_getElem? (i := 88) rfl)⟩, fun h => absurd h (by decide), fun _ => (List.mem_of_getElem? (i := 89) rfl), fun h => absurd h (by decide)⟩
theorem cal8 : CalOk (pj lw) tables_1 "PedigreeCheck" nm bt 8 := ⟨(List.mem_of_getElem? (i := 99) rfl), (List.mem_of_getElem? (i := 2) rfl), ⟨[.int], some .boolean, by decide +kernel, rfl⟩, fun h => absurd h (by decide), fun _ => ⟨rfl, (List.mem_of_getElem? (i := 97) rfl)⟩, fun h => absurd h (by decide), fun _ => (List.mem_of_getElem? (i := 98) rfl), fun h => absurd h (by decide)⟩
theorem cal9 : CalOk (pj lw) tables_1 "PedigreeCheck" nm bt 9 := ⟨(List.mem_of_getElem? (i := 95) rfl), (List.mem_of_getElem? (i := 2) rfl), ⟨[.int, .int, .int], some .int, by decide +kernel, rfl⟩, fun h => absurd h (by decide), fun _ => ⟨rfl, (List.mem_of_getElem? (i := 93) rfl)⟩, fun _ => ⟨(List.mem_of_getElem? (i := 92) rfl), (List.mem_of_getElem? (i := 94) rfl)⟩, fun h => absurd h (by decide), fun h => absurd h (by decide)⟩
theorem cal10 : CalOk (pj lw) tables_1 "PedigreeCheck" nm bt 10 := ⟨(List.mem_of_getElem? (i := 86) rfl), (List.mem_of_getElem? (i := 2) rfl), ⟨[.int, .int, .int], some .int, by decide +kernel, rfl⟩, fun h => absurd h (by decide), fun _ => ⟨rfl, (List.mem_of_getElem? (i := 84) rfl)⟩, fun _ => ⟨(List.mem_of_getElem? (i := 83) rfl), (List.mem_of_getElem? (i := 85) rfl)⟩, fun h => absurd h (by decide), fun h => absurd h (by decide)⟩
theorem cal11 : CalOk (pj lw) tables_1 "PedigreeCheck" nm bt 11 := ⟨(List.mem_of_getElem? (i := 104) rfl), (List.mem_of_getElem? (i := 2) rfl), ⟨[.int], some .int, by decide +kernel, rfl⟩, fun h => absurd h (by decide), fun _ => ⟨rfl, (List.mem_of_getElem? (i := 102) rfl)⟩, fun _ => ⟨(List.mem_of_getElem? (i := 101) rfl), (List.mem_of_getElem? (i := 103) rfl)⟩, fun h => absurd h (by decide), fun h => absurd h (by decide)⟩
theorem cal12 : CalOk (pj lw) tables_1 "PedigreeCheck" nm bt 12 := ⟨(List.mem_of_getElem? (i := 179) rfl), (List.mem_of_getElem? (i := 2) rfl), ⟨[.int], none, by decide +kernel, rfl⟩, fun h => absurd h (by decide), fun _ => ⟨rfl, (List.mem_of_getElem? (i := 177) rfl)⟩, fun _ => ⟨(List.mem_of_getElem? (i := 176) rfl), (List.mem_of_getElem? (i := 178) rfl)⟩, fun h => absurd h (by decide), fun h => absurd h (by decide)⟩
theorem cal13 : CalOk (pj lw) tables_1 "PedigreeCheck" nm bt 13 := ⟨(List.mem_of_getElem? (i := 113) rfl), (List.mem_of_getElem? (i := 2) rfl), ⟨[], some .int, by decide +kernel, rfl⟩, fun h => absurd h (by decide), fun _ => ⟨rfl, (List.mem_of_getElem? (i := 111) rfl)⟩, fun h => absurd h (by decide), fun _ => (List.mem_of_getElem? (i := 112) rfl), fun h => absurd h (by decide)⟩
theorem cal14 : CalOk (pj lw) tables_1 "PedigreeCheck" nm bt 14 := ⟨(List.mem_of_getElem? (i := 183) rfl), (List.mem_of_getElem? (i := 2) rfl), ⟨[.int], some .int, by decide +kernel, rfl⟩, fun h => absurd h (by decide), fun _ => ⟨rfl, (List.mem_of_getElem? (i := 181) rfl)⟩, fun h => absurd h (by decide), fun _ => (List.mem_of_getElem? (i := 182) rfl), fun h => absurd h (by decide)⟩
theorem cal15 : CalOk (pj lw) tables_1 "PedigreeCheck" nm bt 15 := ⟨(List.mem_of_getElem? (i := 109) rfl), (List.mem_of_getElem? (i := 2) rfl), ⟨[], some .int, by decide +kernel, rfl⟩, fun h => absurd h (by decide), fun _ => ⟨rfl, (List.mem_of_getElem? (i := 107) rfl)⟩, fun _ => ⟨(List.mem_of_getElem? (i := 106) rfl), (List.mem_of_getElem? (i := 108) rfl)⟩, fun h => absurd h (by decide), fun h => absurd h (by decide)⟩
theorem cal16 : CalOk (pj lw) tables_1 "PedigreeCheck" nm bt 16 := ⟨(List.mem_of_getElem? (i := 119) rfl), (List.mem_of_getElem? (i := 2) rfl), ⟨[.int], some .int, by decide +kernel, rfl⟩, fun h => absurd h (by decide), fun _ => ⟨rfl, (List.mem_of_getElem? (i := 117) rfl)⟩, fun _ => ⟨(List.mem_of_getElem? (i := 116) rfl), (List.mem_of_getElem? (i := 118) rfl)⟩, fun h => absurd h (by decide), fun h => absurd h (by decide)⟩
theorem cal17 : CalOk (pj lw) tables_1 "PedigreeCheck" nm bt 17 := ⟨(List.mem_of_getElem? (i := 150) rfl), (List.mem_of_getElem? (i := 2) rfl), ⟨[.int, .int], some .int, by decide +kernel, rfl⟩, fun h => absurd h (by decide), fun _ => ⟨rfl, (List.mem_of_getElem? (i := 148) rfl)⟩, fun _ => ⟨(List.mem_of_getElem? (i := 147) rfl), (List.mem_of_getElem? (i := 149) rfl)⟩, fun h => absurd h (by decide), fun h => absurd h (by decide)⟩
theorem cal18 : CalOk (pj lw) tables_1 "PedigreeCheck" nm bt 18 := ⟨(List.mem_of_getElem? (i := 124) rfl), (List.mem_of_getElem? (i := 2) rfl), ⟨[], some .int, by decide +kernel, rfl⟩, fun h => absurd h (by decide), fun _ => ⟨rfl, (List.mem_of_getElem? (i := 122) rfl)⟩, fun _ => ⟨(List.mem_of_getElem? (i := 121) rfl), (List.mem_of_getElem? (i := 123) rfl)⟩, fun h => absurd h (by decide), fun h => absurd h (by decide)⟩
theorem cal19 : CalOk (pj lw) tables_1 "PedigreeCheck" nm bt 19 := ⟨(List.mem_of_getElem? (i := 128) rfl), (List.mem_of_getElem? (i := 2) rfl), ⟨[], none, by decide +kernel, rfl⟩, fun h => absurd h (by decide), fun _ => ⟨rfl, (List.mem_of_getElem? (i := 126) rfl)⟩, fun h => absurd h (by decide), fun _ => (List.mem_of_getElem? (i := 127) rfl), fun h => absurd h (by decide)⟩
theorem cal20 : CalOk (pj lw) tables_1 "PedigreeCheck" nm bt 20 := ⟨(List.mem_of_getElem? (i := 136) rfl), (List.mem_of_getElem? (i := 2) rfl), ⟨[], none, by decide +kernel, rfl⟩, fun h => absurd h (by decide), fun _ => ⟨rfl, (List.mem_of_getElem? (i := 134) rfl)⟩, fun h => absurd h (by decide), fun _ => (List.mem_of_getElem? (i := 135) rfl), fun h => absurd h (by decide)⟩
theorem cal21 : CalOk (pj lw) tables_1 "PedigreeCheck" nm bt 21 := ⟨(List.mem_of_getElem? (i := 140) rfl), (List.mem_of_getElem? (i := 2) rfl), ⟨[], some .boolean, by decide +kernel, rfl⟩, fun h => absurd h (by decide), fun _ => ⟨rfl, (List.mem_of_getElem? (i := 138) rfl)⟩, fun h => absurd h (by decide), fun _ => (List.mem_of_getElem? (i := 139) rfl), fun h => absurd h (by decide)⟩
theorem cal22 : CalOk (pj lw) tables_1 "PedigreeCheck" nm bt 22 := ⟨(List.mem_of_getElem? (i := 132) rfl), (List.mem_of_getElem? (i := 2) rfl), ⟨[.int], some .boolean, by decide +kernel, rfl⟩, fun h => absurd h (by decide), fun _ => ⟨rfl, (List.mem_of_getElem? (i := 130) rfl)⟩, fun h => absurd h (by decide), fun _ => (List.mem_of_getElem? (i := 131) rfl), fun h => absurd h (by decide)⟩
theorem cal23 : CalOk (pj lw) tables_1 "PedigreeCheck" nm bt 23 := ⟨(List.mem_of_getElem? (i := 191) rfl), (List.mem_of_getElem? (i := 2) rfl), ⟨[.int], none, by decide +kernel, rfl⟩, fun h => absurd h (by decide), fun _ => ⟨rfl, (List.mem_of_getElem? (i := 189) rfl)⟩, fun h => absurd h (by decide), fun _ => (List.mem_of_getElem? (i := 190) rfl), fun h => absurd h (by decide)⟩
theorem cal24 : CalOk (pj lw) tables_1 "PedigreeCheck" nm bt 24 := ⟨(List.mem_of_getElem? (i := 195) rfl), (List.mem_of_getElem? (i := 2) rfl), ⟨[.int], some .boolean, by decide +kernel, rfl⟩, fun h => absurd h (by decide), fun _ => ⟨rfl, (List.mem_of_getElem? (i := 193) rfl)⟩, fun h => absurd h (by decide), fun _ => (List.mem_of_getElem? (i := 194) rfl), fun h => absurd h (by decide)⟩
theorem cal25 : CalOk (pj lw) tables_1 "PedigreeCheck" nm bt 25 := ⟨(List.mem_of_getElem? (i := 203) rfl), (List.mem_of_getElem? (i := 2) rfl), ⟨[.int], none, by decide +kernel, rfl⟩, fun h => absurd h (by decide), fun _ => ⟨rfl, (List.mem_of_getElem? (i := 201) rfl)⟩, fun h => absurd h (by decide), fun _ => (List.mem_of_getElem? (i := 202) rfl), fun h => absurd h (by decide)⟩
theorem cal26 : CalOk (pj lw) tables_1 "PedigreeCheck" nm bt 26 := ⟨(List.mem_of_getElem? (i := 187) rfl), (List.mem_of_getElem? (i := 2) rfl), ⟨[.int], some .boolean, by decide +kernel, rfl⟩, fun h => absurd h (by decide), fun _ => ⟨rfl, (List.mem_of_getElem? (i := 185) rfl)⟩, fun h => absurd h (by decide), fun _ => (List.mem_of_getElem? (i := 186) rfl), fun h => absurd h (by decide)⟩
theorem cal27 : CalOk (pj lw) tables_1 "PedigreeCheck" nm bt 27 := ⟨(List.mem_of_getElem? (i := 199) rfl), (List.mem_of_getElem? (i := 2) rfl), ⟨[.int], some .boolean, by decide +kernel, rfl⟩, fun h => absurd h (by decide), fun _ => ⟨rfl, (List.mem_of_getElem? (i := 197) rfl)⟩, fun h => absurd h (by decide), fun _ => (List.mem_of_getElem? (i := 198) rfl), fun h => absurd h (by decide)⟩
theorem cal28 : CalOk (pj lw) tables_1 "PedigreeCheck" nm bt 28 := ⟨(List.mem_of_getElem? (i := 207) rfl), (List.mem_of_getElem? (i := 2) rfl), ⟨[.int, .int, .int, .int], some .boolean, by decide +kernel, rfl⟩, fun h => absurd h (by decide), fun _ => ⟨rfl, (List.mem_of_getElem? (i := 205) rfl)⟩, fun h => absurd h (by decide), fun _ => (List.mem_of_getElem? (i := 206) rfl), fun h => absurd h (by decide)⟩
theorem cal29 : CalOk (pj lw) tables_1 "PedigreeCheck" nm bt 29 := ⟨(List.mem_of_getElem? (i := 174) rfl), (List.mem_of_getElem? (i := 2) rfl), ⟨[], some .int, by decide +kernel, rfl⟩, fun h => absurd h (by decide), fun _ => ⟨rfl, (List.mem_of_getElem? (i := 172) rfl)⟩, fun _ => ⟨(List.mem_of_getElem? (i := 171) rfl), (List.mem_of_getElem? (i := 173) rfl)⟩, fun h => absurd h (by decide), fun h => absurd h (by decide)⟩
theorem cal30 : CalOk (pj lw) tables_1 "PedigreeCheck" nm bt 30 := ⟨(List.mem_of_getElem? (i := 155) rfl), (List.mem_of_getElem? (i := 2) rfl), ⟨[.int, .int, .int], some .boolean, by decide +kernel, rfl⟩, fun h => absurd h (by decide), fun _ => ⟨rfl, (List.mem_of_getElem? (i := 153) rfl)⟩, fun _ => ⟨(List.mem_of_getElem? (i := 152) rfl), (List.mem_of_getElem? (i := 154) rfl)⟩, fun h => absurd h (by decide), fun h => absurd h (by decide)⟩
theorem cal31 : CalOk (pj lw) tables_1 "PedigreeCheck" nm bt 31 := ⟨(List.mem_of_getElem? (i := 160) rfl), (List.mem_of_getElem? (i := 2) rfl), ⟨[.int], some .int, by decide +kernel, rfl⟩, fun h => absurd h (by decide), fun _ => ⟨rfl, (List.mem_of_getElem? (i := 158) rfl)⟩, fun _ => ⟨(List.mem_of_getElem? (i := 157) rfl), (List.mem_of_getElem? (i := 159) rfl)⟩, fun h => absurd h (by decide), fun h => absurd h (by decide)⟩
theorem cal32 : CalOk (pj lw) tables_1 "PedigreeCheck" nm bt 32 := ⟨(List.mem_of_getElem? (i := 145) rfl), (List.mem_of_getElem? (i := 2) rfl), ⟨[], some .int, by decide +kernel, rfl⟩, fun h => absurd h (by decide), fun _ => ⟨rfl, (List.mem_of_getElem? (i := 143) rfl)⟩, fun _ => ⟨(List.mem_of_getElem? (i := 142) rfl), (List.mem_of_getElem? (i := 144) rfl)⟩, fun h => absurd h (by decide), fun h => absurd h (by decide)⟩
theorem cal34 : CalOk (pj lw) tables_1 "PedigreeCheck" nm bt 34 := ⟨(List.mem_of_getElem? (i := 81) rfl), (List.mem_of_getElem? (i := 2) rfl), ⟨[], some .int, by decide +kernel, rfl⟩, fun h => absurd h (by decide), fun _ => ⟨rfl, (List.mem_of_getElem? (i := 79) rfl)⟩, fun _ => ⟨(List.mem_of_getElem? (i := 78) rfl), (List.mem_of_getElem? (i := 80) rfl)⟩, fun h => absurd h (by decide), fun h => absurd h (by decide)⟩
theorem cal102 : CalOk (pj lw) tables_1 "PedigreeCheck" nm bt 102 := ⟨(List.mem_of_getElem? (i := 169) rfl), (List.mem_of_getElem? (i := 163) rfl), ⟨[.object "PedigreeCheck", .int, .int], some .int, by decide +kernel, rfl⟩, fun _ => (List.mem_of_getElem? (i := 168) rfl), fun h => absurd rfl h, fun h => absurd h (by decide), fun h => absurd h (by decide), fun h => absurd h (by decide)⟩
theorem cal103 : CalOk (pj lw) tables_1 "PedigreeCheck" nm bt 103 := ⟨(List.mem_of_getElem? (i := 164) rfl), (List.mem_of_getElem? (i := 163) rfl), ⟨[.object "PedigreeCheck", .int, .int], some .long, by decide +kernel, rfl⟩, fun _ => (List.mem_of_getElem? (i := 162) rfl), fun h => absurd rfl h, fun h => absurd h (by decide), fun h => absurd h (by decide), fun h => absurd h (by decide)⟩
theorem hcal : ∀ m ∈ RL, m ≠ 100 → CalOk (pj lw) tables_1 "PedigreeCheck" nm bt m := (faS (fun _ => cal1) (faS (fun _ => cal2) (faS (fun _ => cal3) (faS (fun _ => cal4) (faS (fun _ => cal5) (faS (fun _ => cal6) (faS (fun _ => cal7) (faS (fun _ => cal8) (faS (fun _ => cal9) (faS (fun _ => cal10) (faS (fun _ => cal11) (faS (fun _ => cal12) (faS (fun _ => cal13) (faS (fun _ => cal14) (faS (fun _ => cal15) (faS (fun _ => cal16) (faS (fun _ => cal17) (faS (fun _ => cal18) (faS (fun _ => cal19) (faS (fun _ => cal20) (faS (fun _ => cal21) (faS (fun _ => cal22) (faS (fun _ => cal23) (faS (fun _ => cal24) (faS (fun _ => cal25) (faS (fun _ => cal26) (faS (fun _ => cal27) (faS (fun _ => cal28) (faS (fun _ => cal29) (faS (fun _ => cal30) (faS (fun _ => cal31) (faS (fun _ => cal32) (faS (fun _ => cal34) (faS (fun h => absurd rfl h) (faS (fun _ => cal102) (faS (fun _ => cal103) fa0))))))))))))))))))))))))))))))))))))
theorem hfld : ∀ k ∈ FS, parseFieldDescriptor (fn k).2 = some ((pj lw).2.2.1 k) ∧ (Jvm.Cond.lays "PedigreeCheck" "PedigreeCheck" (fn k).1 (fn k).2 ∈ tables_1 ∨ Jvm.Cond.laysFinal "PedigreeCheck" "PedigreeCheck" (fn k).1 (fn k).2 ∈ tables_1) := (faS ⟨by decide +kernel, Or.inl (List.mem_of_getElem? (i := 37) rfl)⟩ (faS ⟨by decide +kernel, Or.inl (List.mem_of_getElem? (i := 49) rfl)⟩ (faS ⟨by decide +kernel, Or.inl (List.mem_of_getElem? (i := 51) rfl)⟩ (faS ⟨by decide +kernel, Or.inl (List.mem_of_getElem? (i := 43) rfl)⟩ (faS ⟨by decide +kernel, Or.inl (List.mem_of_getElem? (i := 65) rfl)⟩ (faS ⟨by decide +kernel, Or.inr (List.mem_of_getElem? (i := 11) rfl)⟩ (faS ⟨by decide +kernel, Or.inr (List.mem_of_getElem? (i := 13) rfl)⟩ (faS ⟨by decide +kernel, Or.inr (List.mem_of_getElem? (i := 15) rfl)⟩ (faS ⟨by decide +kernel, Or.inr (List.mem_of_getElem? (i := 17) rfl)⟩ (faS ⟨by decide +kernel, Or.inr (List.mem_of_getElem? (i := 19) rfl)⟩ (faS ⟨by decide +kernel, Or.inr (List.mem_of_getElem? (i := 21) rfl)⟩ (faS ⟨by decide +kernel, Or.inr (List.mem_of_getElem? (i := 23) rfl)⟩ (faS ⟨by decide +kernel, Or.inl (List.mem_of_getElem? (i := 67) rfl)⟩ (faS ⟨by decide +kernel, Or.inl (List.mem_of_getElem? (i := 69) rfl)⟩ (faS ⟨by decide +kernel, Or.inl (List.mem_of_getElem? (i := 71) rfl)⟩ (faS ⟨by decide +kernel, Or.inl (List.mem_of_getElem? (i := 73) rfl)⟩ (faS ⟨by decide +kernel, Or.inr (List.mem_of_getElem? (i := 25) rfl)⟩ (faS ⟨by decide +kernel, Or.inr (List.mem_of_getElem? (i := 27) rfl)⟩ (faS ⟨by decide +kernel, Or.inr (List.mem_of_getElem? (i := 29) rfl)⟩ (faS ⟨by decide +kernel, Or.inr (List.mem_of_getElem? (i := 31) rfl)⟩ (faS ⟨by decide +kernel, Or.inr (List.mem_of_getElem? (i := 33) rfl)⟩ (faS ⟨by decide +kernel, Or.inr (List.mem_of_getElem? (i := 35) rfl)⟩ (faS ⟨by decide +kernel, Or.inl (List.mem_of_getElem? (i := 75) rfl)⟩ fa0)))))))))))))))))))))))
theorem good : Good (pj lw) tables_1 "PedigreeCheck" fn FS 23 nm bt RL 100 := by
  refine ⟨(List.mem_of_getElem? (i := 1) rfl), (List.mem_of_getElem? (i := 2) rfl), hfld, by decide +kernel, fun m hm => ?_, hcal, fun m _ pc ins len aux _ _ => by cases ins <;> rfl⟩
  have hpl : plainName "PedigreeCheck" = true ∧ plainName "PedigreeCheckL7" = true := ⟨by first | (simp [plainName, overriddenIn]; done) | decide +kernel, by first | (simp [plainName, overriddenIn]; done) | decide +kernel⟩
  have hcn : ∀ m ∈ RL, (nm m).cls = cn (own m) := by decide +kernel
  have hin : ∀ m ∈ RL, ini m = true → (nm m).cls = "PedigreeCheck" ∧ (nm m).name = "<init>" := by decide +kernel
  have hor : (nm m).cls = "PedigreeCheck" ∨ (nm m).cls = "PedigreeCheckL7" := by rw [hcn m hm]; unfold cn; split <;> simp
  refine ⟨by rcases hor with h | h <;> rw [h] <;> simp [hpl], by rcases hor with h | h <;> rw [h] <;> decide, fun pc ins len aux h => ?_⟩
  have hmem : (pc, ins, len, aux) ∈ rowsOf m := by
    unfold rowsOf
    by_cases g : m < 100
    · rw [if_pos g]; exact lookup_mem (by simpa [pj, g] using h)
    · rw [if_neg g]; exact lookup_mem (by simpa [pj, lw, g] using h)
  have hrow := List.all_eq_true.mp (List.all_eq_true.mp hrows m hm) _ hmem
  simp only [rowOne, Bool.and_eq_true, decide_eq_true_eq] at hrow
  exact ⟨hrow.1.1, hrow.1.2, row_ok (hcn m hm) (hin m hm) hFL hWF hML hKI hKJ hAT (List.mem_of_getElem? (i := 0) rfl) ⟨(List.mem_of_getElem? (i := 6) rfl), (List.mem_of_getElem? (i := 7) rfl), (List.mem_of_getElem? (i := 8) rfl)⟩ hrow.2⟩
set_option maxRecDepth 65536 in
set_option maxHeartbeats 40000000 in
theorem comes_1 {Post : Tables → Env → Array Value → State → Outcome → State → Prop} (hpost : ∀ tb e args s v u, (limb_1_1.after args s (.returned v) u = true ∧ limb_1_2.after args s (.returned v) u = true ∧ True) → FrameEnd s (.returned v) u (Jvm.fieldLocs frame_1_writes args s ++ Jvm.arrayLocs frame_1_arrays args s ++ Jvm.staticLocs frame_1_statics s) 40 1024 → Post tb e args s (.returned v) u) :
    ArmFor flags0 classFile x code maxLocals ret World_1 tables_1 room_1 Calls_1 rest_1 Pre_1 Post := by
  intro l hfl _ _ p e ha hc hk s m args below hf hA hF happ hP
  obtain ⟨hcalls, hrest, hpre⟩ := hP
  obtain ⟨-, -, -, hnamed, -, -, -, hat⟩ := (Spec.applies_iff hf).mp happ
  obtain ⟨hg, hn⟩ := and_e (Cond.before_iff.mp (show (Jvm.Cond.and given_1 narrow_1).before args s = true from hpre))
  have hw := fun d (hd : d ∈ tables_1) => atoms_spec (ws := Jvm.Cond.code x code maxLocals ret :: tables_1) hat d (List.mem_cons_of_mem _ hd)
  obtain ⟨g0, r0⟩ := and_e hg
  obtain ⟨w0, rfl⟩ : ∃ w0 : Value, args = #[w0] := by
    have hs : args.size = 1 := by simpa [Cond.value, given_1] using g0
    obtain ⟨L⟩ := args
    match L, hs with
    | [w0], _ => exact ⟨w0, rfl⟩
  have hfit : Fit s := fun {y c} hc i hi => by
    obtain ⟨ha, rfl⟩ := Array.getElem?_eq_some_iff.mp hc
    have q := List.all_eq_true.mp ((Array.all_eq_true_iff_forall_mem.mp hF) _ (Array.getElem_mem ha)) i (List.mem_range.mpr hi)
    simpa [Array.getElem?_eq_getElem hi] using q
  obtain ⟨n1, n2⟩ := and_e (show (Jvm.Cond.and (Jvm.Cond.arrayOf (Jvm.Term.arg 0) .int) (Jvm.Cond.le (Jvm.Term.length (Jvm.Term.arg 0)) (Jvm.Term.int 260))).value #[w0] s none s [] = some true from hn)
  obtain ⟨a, ea⟩ := arr_v n1
  obtain rfl : w0 = .ref a := Option.some.inj ea
  obtain ⟨cl, A⟩ := Arr.start ea n1
  have hlen : cl.slots.size < 2 ^ 31 ∧ cl.slots.size ≤ 260 := by
    obtain ⟨x, y, h1, h2, -, -⟩ := cmp_v (Or.inr (Or.inr n2))
    have hA0 := A.fin (Vm.Alike.refl _)
    by_cases hs : cl.slots.size < 2 ^ 31
    · refine ⟨hs, ?_⟩
      have e1 := len_f (args := #[.ref a]) (first := s) (o := none) (idx := []) ea hA0 hs
      have e2 : (Term.int (260 : Int32)).eval #[.ref a] s none [] s = some (.int 260) := rfl
      simp only [Cond.value, e1, e2] at n2
      have n3 : cl.slots.size.toInt32 ≤ (260 : Int32) := by simpa using n2
      rw [Int32.le_iff_toInt_le, len_toInt hs] at n3
      have : ((260 : Int32)).toInt = 260 := by decide
      omega
    · exfalso; simp [Term.eval, hA0, hs, ea] at h1
  obtain ⟨f, hR⟩ := rel_H1 (C := "PedigreeCheck") (fn := fn) (F := FS) hfit A hlen.1
  obtain ⟨n, o, h1, h2, h3, _, L, rfl, ⟨N, H2, rfl⟩, hq⟩ := law_met (l := l) (Z := s) (a0 := _) (n0 := s.heap.size) good hw (as := [.ref a]) (h := s.heap) tables_1 (by decide) (by simp [Sym.laidSlots, Value.category]; decide) hR (law_ok s.heap.size a cl.slots.size f A.lt hlen.2) p e ha hc hk s m _ below hf ((Spec.applies_iff_loose hf).mp happ).1 ⟨rfl, State.Warmed39.refl s, rfl⟩ trivial
  exact ⟨n, _, h1, h2, h3, hpost _ _ _ _ _ _ ⟨Cond.after_iff.mpr rfl, Cond.after_iff.mpr (eq_i res_at (Term.int_eval (1)) rfl), trivial⟩ ⟨hq.1, hq.2.1, (hq.2.2.sift fun y hy => Or.inr (N y hy)).mono (by decide) (by decide)⟩⟩
theorem main_1_1 : Claimed_1_1 := comes_1 fun _ _ _ _ _ _ h hF => ⟨h.1, hF⟩
theorem main_1_2 : Claimed_1_2 := comes_1 fun _ _ _ _ _ _ h hF => ⟨h.2.1, hF⟩
end Jvm.Pilot.@@N@@
namespace Jvm.Pilot.@@N@@
open Jvm Jvm.ClassFile Sem Op Lib Jvm.Free Jvm.Stand Jvm.Pilot.@@N@@.Jvm.D
/-! MADE BY PROGRAM (witnessworld.py) out of the Statement's table words and the real class files: 9 classes; the members and pool entries that the words name. The judged class is class 1, her method 3. -/
namespace start1
open Jvm.ClassFile
def u (s : String) : CpInfo := .utf8 (stringToUtf16 s)
/-- a pool by its gaps: so many unusable entries, then the entry; so many at the end -/
def gap : Nat → List CpInfo → List CpInfo
  | 0, r => r
  | n + 1, r => .unusable :: gap n r
def poolList (es : List (Nat × CpInfo)) (last : Nat) : List CpInfo := es.foldr (fun e r => gap e.1 (e.2 :: r)) (gap last [])
def pool (es : List (Nat × CpInfo)) (last : Nat) : Array CpInfo := ⟨poolList es last⟩
def fileOf (pool : Array CpInfo) (this : Nat) (attrs : Array Attribute := #[]) (ms : Array MethodInfo := #[]) (fl : Nat := 33) (sup : Nat := 0) (ifs : Array Nat := #[]) (fds : Array FieldInfo := #[]) : ClassFile where
  minorVersion := 0
  majorVersion := 65
  constantPool := pool
  accessFlags := fl
  thisClass := this
  superClass := sup
  interfaces := ifs
  fields := fds
  methods := ms
  attributes := attrs
def plain (name : String) (sup : Option ClassId) : Class where
  name := name
  kind := .ordinary
  loader := none
  accessFlags := 33
  super := sup
  interfaces := #[]
  cf := none
  fields := #[]
  methods := #[]
  instanceTypes := #[]
  staticTypes := #[]
  resolved := #[]
  callSites := []
  init := .initialized
  statics := none
  mirror := none

def pool0 : Array CpInfo := pool [(5, u "<init>"), (0, u "()V"), (1, .class_ 10), (1, u "java/lang/Object")] 113

def k0c0 : Code := { maxStack := 0, maxLocals := 1, code := object_method_1_code, exceptionTable := #[], attributes := #[] }
def k0m0 : Method := { name := "<init>", desc := "()V", sig := { parameters := [], returnType := none }, accessFlags := 1, code := some k0c0 }
/-- java/lang/Object -/
def k0 : Class := { plain "java/lang/Object" none with
  accessFlags := 33
  interfaces := #[]
  cf := some (fileOf pool0 8 #[] #[{ accessFlags := 1, nameIndex := 5, descriptorIndex := 6, attributes := #[] }] 33 0 #[] #[])
  fields := #[]
  methods := #[k0m0]
  instanceTypes := #[]
  staticTypes := #[]
  resolved := Array.replicate 124 none
  statics := none }

def pool1 : Array CpInfo := pool [(2, .class_ 4), (1, u "java/lang/Object"), (0, u "<init>"), (0, u "()V"), (0, .methodref 8 9), (0, .class_ 10), (0, .nameAndType 11 12), (0, u "PedigreeCheck"), (0, u "candidate"), (0, u "(III)Z"), (0, .long 17), (1, .long 1000003), (1, .methodref 18 19), (0, .class_ 20), (0, .nameAndType 21 22), (0, u "PedigreeCheckL7"), (0, u "set"), (0, u "(LPedigreeCheck;II)I"), (0, .methodref 8 24), (0, .nameAndType 5 25), (0, u "(II)V"), (0, .integer 2147483647), (0, .methodref 8 28), (0, .nameAndType 29 30), (0, u "individualCount"), (0, u "()I"), (0, .methodref 8 32), (0, .nameAndType 33 34), (0, u "addIndividual"), (0, u "(III)I"), (0, .methodref 8 36), (0, .nameAndType 37 34), (0, u "observe"), (0, .methodref 8 39), (0, .nameAndType 40 41), (0, u "unobserve"), (0, u "(I)I"), (0, .methodref 8 43), (0, .nameAndType 44 45), (0, u "setSeed"), (0, u "(I)V"), (0, .methodref 8 47), (0, .nameAndType 48 30), (0, u "drop"), (0, .methodref 8 50), (0, .nameAndType 51 41), (0, u "observeDropped"), (0, .methodref 8 53), (0, .nameAndType 54 30), (0, u "eliminate"), (0, .methodref 8 56), (0, .nameAndType 57 30), (0, u "conflictFamily"), (0, .methodref 8 59), (0, .nameAndType 60 61), (0, u "droppedAllele"), (0, u "(II)I"), (0, .methodref 8 63), (0, .nameAndType 64 41), (0, u "candidateCount"), (0, .methodref 18 66), (0, .nameAndType 67 68), (0, u "print"), (0, u "(LPedigreeCheck;II)J"), (0, .methodref 8 70), (0, .nameAndType 71 30), (0, u "status"), (3, u "law"), (0, u "([I)Z")] 4

def k1m0 : Method := { name := "<init>", desc := "()V", sig := { parameters := [], returnType := none }, accessFlags := 1, code := none }
def k1c1 : Code := { maxStack := 4, maxLocals := 7, code := method_2_code, exceptionTable := #[], attributes := #[] }
def k1m1 : Method := { name := "set", desc := "(LPedigreeCheck;II)I", sig := { parameters := [(.object "PedigreeCheck"), .int, .int], returnType := some .int }, accessFlags := 10, code := some k1c1 }
def k1c2 : Code := { maxStack := 5, maxLocals := 6, code := method_3_code, exceptionTable := #[], attributes := #[] }
def k1m2 : Method := { name := "print", desc := "(LPedigreeCheck;II)J", sig := { parameters := [(.object "PedigreeCheck"), .int, .int], returnType := some .long }, accessFlags := 10, code := some k1c2 }
def k1c3 : Code := { maxStack := 4, maxLocals := 14, code := code, exceptionTable := #[], attributes := #[] }
def k1m3 : Method := { name := "law", desc := "([I)Z", sig := { parameters := [(.array .int)], returnType := some .boolean }, accessFlags := 9, code := some k1c3 }
/-- PedigreeCheckL7 -/
def k1 : Class := { plain "PedigreeCheckL7" (some 0) with
  accessFlags := 33
  interfaces := #[]
  cf := some (fileOf pool1 18 #[] #[{ accessFlags := 1, nameIndex := 5, descriptorIndex := 6, attributes := #[] }, { accessFlags := 10, nameIndex := 21, descriptorIndex := 22, attributes := #[] }, { accessFlags := 10, nameIndex := 67, descriptorIndex := 68, attributes := #[] }, { accessFlags := 9, nameIndex := 75, descriptorIndex := 76, attributes := #[] }] 33 2 #[] #[])
  fields := #[]
  methods := #[k1m0, k1m1, k1m2, k1m3]
  instanceTypes := #[]
  staticTypes := #[]
  resolved := Array.replicate 81 none
  statics := none }

def pool2 : Array CpInfo := pool [(1, .methodref 2 3), (0, .class_ 4), (0, .nameAndType 5 6), (0, u "java/lang/Object"), (0, u "<init>"), (0, u "()V"), (0, .fieldref 8 9), (0, .class_ 10), (0, .nameAndType 11 12), (0, u "PedigreeCheck"), (0, u "sexOf"), (0, u "[I"), (0, .fieldref 8 14), (0, .nameAndType 15 12), (0, u "fatherOf"), (0, .fieldref 8 17), (0, .nameAndType 18 12), (0, u "motherOf"), (0, .fieldref 8 20), (0, .nameAndType 21 12), (0, u "obsG"), (0, .fieldref 8 23), (0, .nameAndType 24 12), (0, u "dropP"), (0, .fieldref 8 26), (0, .nameAndType 27 12), (0, u "dropM"), (0, .fieldref 8 29), (0, .nameAndType 30 12), (0, u "cand"), (0, .fieldref 8 32), (0, .nameAndType 33 12), (0, u "genoA"), (0, .fieldref 8 35), (0, .nameAndType 36 12), (0, u "genoB"), (0, .fieldref 8 38), (0, .nameAndType 39 12), (0, u "genoIndex"), (0, .fieldref 8 41), (0, .nameAndType 42 12), (0, u "kidMask"), (0, .fieldref 8 44), (0, .nameAndType 45 12), (0, u "kidBuf"), (0, .fieldref 8 47), (0, .nameAndType 48 12), (0, u "newKid"), (0, .fieldref 8 50), (0, .nameAndType 51 52), (0, u "alleleCount"), (0, u "I"), (0, .methodref 8 54), (0, .nameAndType 55 56), (0, u "clampSeed"), (0, u "(I)I"), (0, .fieldref 8 58), (0, .nameAndType 59 52), (0, u "gen"), (0, .methodref 8 61), (0, .nameAndType 62 6), (0, u "buildGenotypes"), (0, .methodref 8 64), (0, .nameAndType 65 6), (0, u "buildKidMasks"), (0, .fieldref 8 67), (0, .nameAndType 68 52), (0, u "n"), (0, .fieldref 8 70), (0, .nameAndType 71 72), (0, u "dropValid"), (0, u "Z"), (0, .fieldref 8 74), (0, .nameAndType 75 72), (0, u "candValid"), (0, .fieldref 8 77), (0, .nameAndType 78 52), (0, u "lastStatus"), (0, .fieldref 8 80), (0, .nameAndType 81 52), (0, u "conflict"), (0, .fieldref 8 83), (0, .nameAndType 84 52), (0, u "kidCount"), (0, .fieldref 8 86), (0, .nameAndType 87 52), (0, u "genoCount"), (0, .fieldref 8 89), (0, .nameAndType 90 52), (0, u "fullMask"), (0, .methodref 8 92), (0, .nameAndType 93 94), (0, u "childMaskFor"), (0, u "(II)I"), (0, .methodref 8 96), (0, .nameAndType 97 98), (0, u "compatible"), (0, u "(III)Z"), (0, .methodref 8 100), (0, .nameAndType 101 102), (0, u "validId"), (0, u "(I)Z"), (0, .methodref 8 104), (0, .nameAndType 105 102), (0, u "validAllele"), (0, .integer 1103515245), (0, .methodref 8 108), (0, .nameAndType 109 110), (0, u "nextDraw"), (0, u "()I"), (0, .methodref 8 112), (0, .nameAndType 113 56), (0, u "inherit"), (0, .methodref 8 115), (0, .nameAndType 116 6), (0, u "loadInit"), (0, .methodref 8 118), (0, .nameAndType 119 102), (0, u "isFamilyNumber"), (0, .methodref 8 121), (0, .nameAndType 122 102), (0, u "hasAssignment"), (0, .methodref 8 124), (0, .nameAndType 125 6), (0, u "runElimination"), (0, .methodref 8 127), (0, .nameAndType 128 129), (0, u "anyEmpty"), (0, u "()Z"), (0, .methodref 8 131), (0, .nameAndType 132 102), (0, u "reduceFamily"), (0, .methodref 8 134), (0, .nameAndType 135 136), (0, u "collectKids"), (0, u "(I)V"), (0, .methodref 8 138), (0, .nameAndType 139 102), (0, u "kidsFit"), (0, .methodref 8 141), (0, .nameAndType 142 136), (0, u "addKidSupport"), (0, .methodref 8 144), (0, .nameAndType 145 146), (0, u "applySupport"), (0, u "(IIII)Z"), (0, u "MAX_INDIVIDUALS"), (2, u "MALE"), (1, u "FEMALE"), (1, u "OK"), (1, u "ERR_FULL"), (1, u "ERR_ARG"), (1, u "ERR_NO_PARENT"), (1, u "ERR_SEX"), (1, u "ERR_NO_ID"), (1, u "ERR_ALLELE"), (1, u "ERR_NO_DROP"), (1, u "NOT_EVALUATED"), (0, u "CONSISTENT"), (0, u "INCONSISTENT"), (0, u "MAX_ROUNDS"), (1, u "(II)V"), (3, u "addIndividual"), (0, u "(III)I"), (0, u "observe"), (0, u "unobserve"), (0, u "setSeed"), (0, u "drop"), (0, u "observeDropped"), (0, u "droppedAllele"), (0, u "eliminate"), (1, u "status"), (0, u "candidate"), (0, u "candidateCount"), (0, u "conflictFamily"), (1, u "individualCount")] 2

def k2c0 : Code := { maxStack := 3, maxLocals := 4, code := prog_1_method_1_code, exceptionTable := #[], attributes := #[] }
def k2m0 : Method := { name := "<init>", desc := "(II)V", sig := { parameters := [.int, .int], returnType := none }, accessFlags := 1, code := some k2c0 }
def k2c1 : Code := { maxStack := 2, maxLocals := 2, code := prog_1_method_2_code, exceptionTable := #[], attributes := #[] }
def k2m1 : Method := { name := "clampSeed", desc := "(I)I", sig := { parameters := [.int], returnType := some .int }, accessFlags := 2, code := some k2c1 }
def k2c2 : Code := { maxStack := 3, maxLocals := 4, code := prog_1_method_3_code, exceptionTable := #[], attributes := #[] }
def k2m2 : Method := { name := "buildGenotypes", desc := "()V", sig := { parameters := [], returnType := none }, accessFlags := 2, code := some k2c2 }
def k2c3 : Code := { maxStack := 5, maxLocals := 3, code := prog_1_method_4_code, exceptionTable := #[], attributes := #[] }
def k2m3 : Method := { name := "buildKidMasks", desc := "()V", sig := { parameters := [], returnType := none }, accessFlags := 2, code := some k2c3 }
def k2c4 : Code := { maxStack := 4, maxLocals := 5, code := prog_1_method_5_code, exceptionTable := #[], attributes := #[] }
def k2m4 : Method := { name := "childMaskFor", desc := "(II)I", sig := { parameters := [.int, .int], returnType := some .int }, accessFlags := 2, code := some k2c4 }
def k2c5 : Code := { maxStack := 2, maxLocals := 14, code := prog_1_method_6_code, exceptionTable := #[], attributes := #[] }
def k2m5 : Method := { name := "compatible", desc := "(III)Z", sig := { parameters := [.int, .int, .int], returnType := some .boolean }, accessFlags := 2, code := some k2c5 }
def k2c6 : Code := { maxStack := 2, maxLocals := 2, code := prog_1_method_7_code, exceptionTable := #[], attributes := #[] }
def k2m6 : Method := { name := "validId", desc := "(I)Z", sig := { parameters := [.int], returnType := some .boolean }, accessFlags := 2, code := some k2c6 }
def k2c7 : Code := { maxStack := 2, maxLocals := 2, code := prog_1_method_8_code, exceptionTable := #[], attributes := #[] }
def k2m7 : Method := { name := "validAllele", desc := "(I)Z", sig := { parameters := [.int], returnType := some .boolean }, accessFlags := 2, code := some k2c7 }
def k2c8 : Code := { maxStack := 3, maxLocals := 4, code := prog_1_method_9_code, exceptionTable := #[], attributes := #[] }
def k2m8 : Method := { name := "addIndividual", desc := "(III)I", sig := { parameters := [.int, .int, .int], returnType := some .int }, accessFlags := 1, code := some k2c8 }
def k2c9 : Code := { maxStack := 5, maxLocals := 4, code := prog_1_method_10_code, exceptionTable := #[], attributes := #[] }
def k2m9 : Method := { name := "observe", desc := "(III)I", sig := { parameters := [.int, .int, .int], returnType := some .int }, accessFlags := 1, code := some k2c9 }
def k2c10 : Code := { maxStack := 3, maxLocals := 2, code := prog_1_method_11_code, exceptionTable := #[], attributes := #[] }
def k2m10 : Method := { name := "unobserve", desc := "(I)I", sig := { parameters := [.int], returnType := some .int }, accessFlags := 1, code := some k2c10 }
def k2c11 : Code := { maxStack := 3, maxLocals := 2, code := prog_1_method_12_code, exceptionTable := #[], attributes := #[] }
def k2m11 : Method := { name := "setSeed", desc := "(I)V", sig := { parameters := [.int], returnType := none }, accessFlags := 1, code := some k2c11 }
def k2c12 : Code := { maxStack := 3, maxLocals := 1, code := prog_1_method_13_code, exceptionTable := #[], attributes := #[] }
def k2m12 : Method := { name := "nextDraw", desc := "()I", sig := { parameters := [], returnType := some .int }, accessFlags := 2, code := some k2c12 }
def k2c13 : Code := { maxStack := 2, maxLocals := 3, code := prog_1_method_14_code, exceptionTable := #[], attributes := #[] }
def k2m13 : Method := { name := "inherit", desc := "(I)I", sig := { parameters := [.int], returnType := some .int }, accessFlags := 2, code := some k2c13 }
def k2c14 : Code := { maxStack := 5, maxLocals := 4, code := prog_1_method_15_code, exceptionTable := #[], attributes := #[] }
def k2m14 : Method := { name := "drop", desc := "()I", sig := { parameters := [], returnType := some .int }, accessFlags := 1, code := some k2c14 }
def k2c15 : Code := { maxStack := 6, maxLocals := 2, code := prog_1_method_16_code, exceptionTable := #[], attributes := #[] }
def k2m15 : Method := { name := "observeDropped", desc := "(I)I", sig := { parameters := [.int], returnType := some .int }, accessFlags := 1, code := some k2c15 }
def k2c16 : Code := { maxStack := 2, maxLocals := 3, code := prog_1_method_17_code, exceptionTable := #[], attributes := #[] }
def k2m16 : Method := { name := "droppedAllele", desc := "(II)I", sig := { parameters := [.int, .int], returnType := some .int }, accessFlags := 1, code := some k2c16 }
def k2c17 : Code := { maxStack := 2, maxLocals := 5, code := prog_1_method_18_code, exceptionTable := #[], attributes := #[] }
def k2m17 : Method := { name := "eliminate", desc := "()I", sig := { parameters := [], returnType := some .int }, accessFlags := 1, code := some k2c17 }
def k2c18 : Code := { maxStack := 5, maxLocals := 2, code := prog_1_method_19_code, exceptionTable := #[], attributes := #[] }
def k2m18 : Method := { name := "loadInit", desc := "()V", sig := { parameters := [], returnType := none }, accessFlags := 2, code := some k2c18 }
def k2c19 : Code := { maxStack := 3, maxLocals := 4, code := prog_1_method_20_code, exceptionTable := #[], attributes := #[] }
def k2m19 : Method := { name := "runElimination", desc := "()V", sig := { parameters := [], returnType := none }, accessFlags := 2, code := some k2c19 }
def k2c20 : Code := { maxStack := 2, maxLocals := 2, code := prog_1_method_21_code, exceptionTable := #[], attributes := #[] }
def k2m20 : Method := { name := "anyEmpty", desc := "()Z", sig := { parameters := [], returnType := some .boolean }, accessFlags := 2, code := some k2c20 }
def k2c21 : Code := { maxStack := 2, maxLocals := 5, code := prog_1_method_22_code, exceptionTable := #[], attributes := #[] }
def k2m21 : Method := { name := "isFamilyNumber", desc := "(I)Z", sig := { parameters := [.int], returnType := some .boolean }, accessFlags := 2, code := some k2c21 }
def k2c22 : Code := { maxStack := 3, maxLocals := 5, code := prog_1_method_23_code, exceptionTable := #[], attributes := #[] }
def k2m22 : Method := { name := "collectKids", desc := "(I)V", sig := { parameters := [.int], returnType := none }, accessFlags := 2, code := some k2c22 }
def k2c23 : Code := { maxStack := 3, maxLocals := 3, code := prog_1_method_24_code, exceptionTable := #[], attributes := #[] }
def k2m23 : Method := { name := "kidsFit", desc := "(I)Z", sig := { parameters := [.int], returnType := some .boolean }, accessFlags := 2, code := some k2c23 }
def k2c24 : Code := { maxStack := 6, maxLocals := 3, code := prog_1_method_25_code, exceptionTable := #[], attributes := #[] }
def k2m24 : Method := { name := "addKidSupport", desc := "(I)V", sig := { parameters := [.int], returnType := none }, accessFlags := 2, code := some k2c24 }
def k2c25 : Code := { maxStack := 4, maxLocals := 6, code := prog_1_method_26_code, exceptionTable := #[], attributes := #[] }
def k2m25 : Method := { name := "hasAssignment", desc := "(I)Z", sig := { parameters := [.int], returnType := some .boolean }, accessFlags := 2, code := some k2c25 }
def k2c26 : Code := { maxStack := 5, maxLocals := 9, code := prog_1_method_27_code, exceptionTable := #[], attributes := #[] }
def k2m26 : Method := { name := "reduceFamily", desc := "(I)Z", sig := { parameters := [.int], returnType := some .boolean }, accessFlags := 2, code := some k2c26 }
def k2c27 : Code := { maxStack := 5, maxLocals := 8, code := prog_1_method_28_code, exceptionTable := #[], attributes := #[] }
def k2m27 : Method := { name := "applySupport", desc := "(IIII)Z", sig := { parameters := [.int, .int, .int, .int], returnType := some .boolean }, accessFlags := 2, code := some k2c27 }
def k2c28 : Code := { maxStack := 1, maxLocals := 1, code := prog_1_method_29_code, exceptionTable := #[], attributes := #[] }
def k2m28 : Method := { name := "status", desc := "()I", sig := { parameters := [], returnType := some .int }, accessFlags := 1, code := some k2c28 }
def k2c29 : Code := { maxStack := 3, maxLocals := 5, code := prog_1_method_30_code, exceptionTable := #[], attributes := #[] }
def k2m29 : Method := { name := "candidate", desc := "(III)Z", sig := { parameters := [.int, .int, .int], returnType := some .boolean }, accessFlags := 1, code := some k2c29 }
def k2c30 : Code := { maxStack := 2, maxLocals := 5, code := prog_1_method_31_code, exceptionTable := #[], attributes := #[] }
def k2m30 : Method := { name := "candidateCount", desc := "(I)I", sig := { parameters := [.int], returnType := some .int }, accessFlags := 1, code := some k2c30 }
def k2c31 : Code := { maxStack := 1, maxLocals := 1, code := prog_1_method_32_code, exceptionTable := #[], attributes := #[] }
def k2m31 : Method := { name := "conflictFamily", desc := "()I", sig := { parameters := [], returnType := some .int }, accessFlags := 1, code := some k2c31 }
def k2c32 : Code := { maxStack := 1, maxLocals := 1, code := prog_1_method_34_code, exceptionTable := #[], attributes := #[] }
def k2m32 : Method := { name := "individualCount", desc := "()I", sig := { parameters := [], returnType := some .int }, accessFlags := 1, code := some k2c32 }
/-- PedigreeCheck -/
def k2 : Class := { plain "PedigreeCheck" (some 0) with
  accessFlags := 49
  interfaces := #[]
  cf := some (fileOf pool2 8 #[] #[{ accessFlags := 1, nameIndex := 5, descriptorIndex := 175, attributes := #[] }, { accessFlags := 2, nameIndex := 55, descriptorIndex := 56, attributes := #[] }, { accessFlags := 2, nameIndex := 62, descriptorIndex := 6, attributes := #[] }, { accessFlags := 2, nameIndex := 65, descriptorIndex := 6, attributes := #[] }, { accessFlags := 2, nameIndex := 93, descriptorIndex := 94, attributes := #[] }, { accessFlags := 2, nameIndex := 97, descriptorIndex := 98, attributes := #[] }, { accessFlags := 2, nameIndex := 101, descriptorIndex := 102, attributes := #[] }, { accessFlags := 2, nameIndex := 105, descriptorIndex := 102, attributes := #[] }, { accessFlags := 1, nameIndex := 179, descriptorIndex := 180, attributes := #[] }, { accessFlags := 1, nameIndex := 181, descriptorIndex := 180, attributes := #[] }, { accessFlags := 1, nameIndex := 182, descriptorIndex := 56, attributes := #[] }, { accessFlags := 1, nameIndex := 183, descriptorIndex := 136, attributes := #[] }, { accessFlags := 2, nameIndex := 109, descriptorIndex := 110, attributes := #[] }, { accessFlags := 2, nameIndex := 113, descriptorIndex := 56, attributes := #[] }, { accessFlags := 1, nameIndex := 184, descriptorIndex := 110, attributes := #[] }, { accessFlags := 1, nameIndex := 185, descriptorIndex := 56, attributes := #[] }, { accessFlags := 1, nameIndex := 186, descriptorIndex := 94, attributes := #[] }, { accessFlags := 1, nameIndex := 187, descriptorIndex := 110, attributes := #[] }, { accessFlags := 2, nameIndex := 116, descriptorIndex := 6, attributes := #[] }, { accessFlags := 2, nameIndex := 125, descriptorIndex := 6, attributes := #[] }, { accessFlags := 2, nameIndex := 128, descriptorIndex := 129, attributes := #[] }, { accessFlags := 2, nameIndex := 119, descriptorIndex := 102, attributes := #[] }, { accessFlags := 2, nameIndex := 135, descriptorIndex := 136, attributes := #[] }, { accessFlags := 2, nameIndex := 139, descriptorIndex := 102, attributes := #[] }, { accessFlags := 2, nameIndex := 142, descriptorIndex := 136, attributes := #[] }, { accessFlags := 2, nameIndex := 122, descriptorIndex := 102, attributes := #[] }, { accessFlags := 2, nameIndex := 132, descriptorIndex := 102, attributes := #[] }, { accessFlags := 2, nameIndex := 145, descriptorIndex := 146, attributes := #[] }, { accessFlags := 1, nameIndex := 189, descriptorIndex := 110, attributes := #[] }, { accessFlags := 1, nameIndex := 190, descriptorIndex := 98, attributes := #[] }, { accessFlags := 1, nameIndex := 191, descriptorIndex := 56, attributes := #[] }, { accessFlags := 1, nameIndex := 192, descriptorIndex := 110, attributes := #[] }, { accessFlags := 1, nameIndex := 194, descriptorIndex := 110, attributes := #[] }] 49 2 #[] #[{ accessFlags := 25, nameIndex := 147, descriptorIndex := 52, attributes := #[] }, { accessFlags := 25, nameIndex := 150, descriptorIndex := 52, attributes := #[] }, { accessFlags := 25, nameIndex := 152, descriptorIndex := 52, attributes := #[] }, { accessFlags := 25, nameIndex := 154, descriptorIndex := 52, attributes := #[] }, { accessFlags := 25, nameIndex := 156, descriptorIndex := 52, attributes := #[] }, { accessFlags := 25, nameIndex := 158, descriptorIndex := 52, attributes := #[] }, { accessFlags := 25, nameIndex := 160, descriptorIndex := 52, attributes := #[] }, { accessFlags := 25, nameIndex := 162, descriptorIndex := 52, attributes := #[] }, { accessFlags := 25, nameIndex := 164, descriptorIndex := 52, attributes := #[] }, { accessFlags := 25, nameIndex := 166, descriptorIndex := 52, attributes := #[] }, { accessFlags := 25, nameIndex := 168, descriptorIndex := 52, attributes := #[] }, { accessFlags := 25, nameIndex := 170, descriptorIndex := 52, attributes := #[] }, { accessFlags := 25, nameIndex := 171, descriptorIndex := 52, attributes := #[] }, { accessFlags := 25, nameIndex := 172, descriptorIndex := 52, attributes := #[] }, { accessFlags := 26, nameIndex := 173, descriptorIndex := 52, attributes := #[] }, { accessFlags := 2, nameIndex := 51, descriptorIndex := 52, attributes := #[] }, { accessFlags := 2, nameIndex := 87, descriptorIndex := 52, attributes := #[] }, { accessFlags := 2, nameIndex := 90, descriptorIndex := 52, attributes := #[] }, { accessFlags := 2, nameIndex := 59, descriptorIndex := 52, attributes := #[] }, { accessFlags := 2, nameIndex := 68, descriptorIndex := 52, attributes := #[] }, { accessFlags := 18, nameIndex := 11, descriptorIndex := 12, attributes := #[] }, { accessFlags := 18, nameIndex := 15, descriptorIndex := 12, attributes := #[] }, { accessFlags := 18, nameIndex := 18, descriptorIndex := 12, attributes := #[] }, { accessFlags := 18, nameIndex := 21, descriptorIndex := 12, attributes := #[] }, { accessFlags := 18, nameIndex := 24, descriptorIndex := 12, attributes := #[] }, { accessFlags := 18, nameIndex := 27, descriptorIndex := 12, attributes := #[] }, { accessFlags := 18, nameIndex := 30, descriptorIndex := 12, attributes := #[] }, { accessFlags := 2, nameIndex := 71, descriptorIndex := 72, attributes := #[] }, { accessFlags := 2, nameIndex := 75, descriptorIndex := 72, attributes := #[] }, { accessFlags := 2, nameIndex := 78, descriptorIndex := 52, attributes := #[] }, { accessFlags := 2, nameIndex := 81, descriptorIndex := 52, attributes := #[] }, { accessFlags := 18, nameIndex := 33, descriptorIndex := 12, attributes := #[] }, { accessFlags := 18, nameIndex := 36, descriptorIndex := 12, attributes := #[] }, { accessFlags := 18, nameIndex := 39, descriptorIndex := 12, attributes := #[] }, { accessFlags := 18, nameIndex := 42, descriptorIndex := 12, attributes := #[] }, { accessFlags := 18, nameIndex := 45, descriptorIndex := 12, attributes := #[] }, { accessFlags := 18, nameIndex := 48, descriptorIndex := 12, attributes := #[] }, { accessFlags := 2, nameIndex := 84, descriptorIndex := 52, attributes := #[] }])
  fields := #[{ name := "MAX_INDIVIDUALS", type := .int, accessFlags := 25, slot := 0, constantValue := 0 }, { name := "MALE", type := .int, accessFlags := 25, slot := 1, constantValue := 0 }, { name := "FEMALE", type := .int, accessFlags := 25, slot := 2, constantValue := 0 }, { name := "OK", type := .int, accessFlags := 25, slot := 3, constantValue := 0 }, { name := "ERR_FULL", type := .int, accessFlags := 25, slot := 4, constantValue := 0 }, { name := "ERR_ARG", type := .int, accessFlags := 25, slot := 5, constantValue := 0 }, { name := "ERR_NO_PARENT", type := .int, accessFlags := 25, slot := 6, constantValue := 0 }, { name := "ERR_SEX", type := .int, accessFlags := 25, slot := 7, constantValue := 0 }, { name := "ERR_NO_ID", type := .int, accessFlags := 25, slot := 8, constantValue := 0 }, { name := "ERR_ALLELE", type := .int, accessFlags := 25, slot := 9, constantValue := 0 }, { name := "ERR_NO_DROP", type := .int, accessFlags := 25, slot := 10, constantValue := 0 }, { name := "NOT_EVALUATED", type := .int, accessFlags := 25, slot := 11, constantValue := 0 }, { name := "CONSISTENT", type := .int, accessFlags := 25, slot := 12, constantValue := 0 }, { name := "INCONSISTENT", type := .int, accessFlags := 25, slot := 13, constantValue := 0 }, { name := "MAX_ROUNDS", type := .int, accessFlags := 26, slot := 14, constantValue := 0 }, { name := "alleleCount", type := .int, accessFlags := 2, slot := 0, constantValue := 0 }, { name := "genoCount", type := .int, accessFlags := 2, slot := 1, constantValue := 0 }, { name := "fullMask", type := .int, accessFlags := 2, slot := 2, constantValue := 0 }, { name := "gen", type := .int, accessFlags := 2, slot := 3, constantValue := 0 }, { name := "n", type := .int, accessFlags := 2, slot := 4, constantValue := 0 }, { name := "sexOf", type := (.array .int), accessFlags := 18, slot := 5, constantValue := 0 }, { name := "fatherOf", type := (.array .int), accessFlags := 18, slot := 6, constantValue := 0 }, { name := "motherOf", type := (.array .int), accessFlags := 18, slot := 7, constantValue := 0 }, { name := "obsG", type := (.array .int), accessFlags := 18, slot := 8, constantValue := 0 }, { name := "dropP", type := (.array .int), accessFlags := 18, slot := 9, constantValue := 0 }, { name := "dropM", type := (.array .int), accessFlags := 18, slot := 10, constantValue := 0 }, { name := "cand", type := (.array .int), accessFlags := 18, slot := 11, constantValue := 0 }, { name := "dropValid", type := .boolean, accessFlags := 2, slot := 12, constantValue := 0 }, { name := "candValid", type := .boolean, accessFlags := 2, slot := 13, constantValue := 0 }, { name := "lastStatus", type := .int, accessFlags := 2, slot := 14, constantValue := 0 }, { name := "conflict", type := .int, accessFlags := 2, slot := 15, constantValue := 0 }, { name := "genoA", type := (.array .int), accessFlags := 18, slot := 16, constantValue := 0 }, { name := "genoB", type := (.array .int), accessFlags := 18, slot := 17, constantValue := 0 }, { name := "genoIndex", type := (.array .int), accessFlags := 18, slot := 18, constantValue := 0 }, { name := "kidMask", type := (.array .int), accessFlags := 18, slot := 19, constantValue := 0 }, { name := "kidBuf", type := (.array .int), accessFlags := 18, slot := 20, constantValue := 0 }, { name := "newKid", type := (.array .int), accessFlags := 18, slot := 21, constantValue := 0 }, { name := "kidCount", type := .int, accessFlags := 2, slot := 22, constantValue := 0 }]
  methods := #[k2m0, k2m1, k2m2, k2m3, k2m4, k2m5, k2m6, k2m7, k2m8, k2m9, k2m10, k2m11, k2m12, k2m13, k2m14, k2m15, k2m16, k2m17, k2m18, k2m19, k2m20, k2m21, k2m22, k2m23, k2m24, k2m25, k2m26, k2m27, k2m28, k2m29, k2m30, k2m31, k2m32]
  instanceTypes := #[.int, .int, .int, .int, .int, (.array .int), (.array .int), (.array .int), (.array .int), (.array .int), (.array .int), (.array .int), .boolean, .boolean, .int, .int, (.array .int), (.array .int), (.array .int), (.array .int), (.array .int), (.array .int), .int]
  staticTypes := #[.int, .int, .int, .int, .int, .int, .int, .int, .int, .int, .int, .int, .int, .int, .int]
  resolved := Array.replicate 197 none
  statics := none }

def pool3 : Array CpInfo := pool [(1, u "java/lang/Cloneable"), (0, .class_ 1), (0, u "java/lang/Object"), (0, .class_ 3)] 3

/-- java/lang/Cloneable -/
def k3 : Class := { plain "java/lang/Cloneable" (some 0) with
  accessFlags := 1537
  interfaces := #[]
  cf := some (fileOf pool3 2 #[] #[] 1537 4 #[] #[])
  fields := #[]
  methods := #[]
  instanceTypes := #[]
  staticTypes := #[]
  resolved := Array.replicate 8 none
  statics := none }

def pool4 : Array CpInfo := pool [(1, u "java/io/Serializable"), (0, .class_ 1), (0, u "java/lang/Object"), (0, .class_ 3)] 3

/-- java/io/Serializable -/
def k4 : Class := { plain "java/io/Serializable" (some 0) with
  accessFlags := 1537
  interfaces := #[]
  cf := some (fileOf pool4 2 #[] #[] 1537 4 #[] #[])
  fields := #[]
  methods := #[]
  instanceTypes := #[]
  staticTypes := #[]
  resolved := Array.replicate 8 none
  statics := none }

/-- the primitive byte -/
def k5 : Class := { plain "byte" none with kind := .primitive 'B', accessFlags := 0x411 }
/-- [B -/
def k6 : Class := { plain "[B" (some 0) with kind := .array 5 .byte, interfaces := #[3, 4], accessFlags := 1041 }

/-- the primitive int -/
def k7 : Class := { plain "int" none with kind := .primitive 'I', accessFlags := 0x411 }
/-- [I -/
def k8 : Class := { plain "[I" (some 0) with kind := .array 7 .int, interfaces := #[3, 4], accessFlags := 1041 }

def heap : Heap := #[{ cls := 8, slots := #[.int 0, .int 3, .int 5, .int 1], vm := .none }]
def classes : Array Class := #[k0, k1, k2, k3, k4, k5, k6, k7, k8]
def interned : List (Array UInt16 × Addr) := []
def slotsUsed : Nat := 4
def theMethod : MethodId := ⟨1, 3⟩
def args0 : Array Value := #[.ref 0]
def aboutOver (below : List Frame) : State where
  vm := { classes := classes, interned := interned.toArray }
  heap := heap
  slotsUsed := slotsUsed
  threads := #[{ frames := .invoking theMethod args0 :: below }]
def below0 : List Frame := [.native { method := ⟨0, 0⟩, args := #[] }]
def about1 : State := aboutOver below0
def p0 : Program := .bare "" "" ""
def e0 : Env := launch0.env 0 0 0
theorem w_frames : about1.frames = Frame.invoking theMethod args0 :: below0 := rfl
set_option maxRecDepth 65536 in
theorem w_args : argsFit about1.vm theMethod args0 = true := by decide +kernel
set_option maxRecDepth 65536 in
theorem w_heap : heapFits about1 = true := by decide +kernel
set_option maxRecDepth 65536 in
theorem w_runnable : about1.curStatus? = some .runnable := by decide +kernel
set_option maxRecDepth 65536 in
theorem w_alone : about1.alone = true := by decide +kernel
set_option maxRecDepth 65536 in
theorem w_named : about1.methodNamed? x = some theMethod := by decide +kernel
set_option maxRecDepth 65536 in
theorem w_hears : about1.hears theMethod below0 = true := by decide +kernel
set_option maxRecDepth 65536 in
theorem w_ripe : about1.ripe theMethod args0 below0 = true := by decide +kernel
theorem w_running : about1.status = .running := rfl
set_option maxRecDepth 65536 in
theorem w_room : about1.hasRoom e0.platform room_1 = true :=
  launch0.hasRoom_least _ room_1 (by decide +kernel) (by decide +kernel) (by decide +kernel) (by decide +kernel) (by decide +kernel) (by decide +kernel)
theorem allAtoms_all (ts : List Jvm.Cond) (a : Array Jvm.Value) (st : Jvm.State) : (allAtoms ts).before a st = ts.all (fun c => c.before a st) := by
  induction ts with
  | nil => rfl
  | cons c t ih =>
    show (Jvm.Cond.and c (allAtoms t)).before a st = _
    rw [Jvm.Cond.before_and, ih, List.all_cons]
def words1 : List Jvm.Cond := Jvm.Cond.code x code maxLocals ret :: tables_1
/-- a 'code' word, met by the world's own term for the bytes: nothing is compared byte by byte -/
theorem code_word {y : MethodName} {bytes : ByteArray} {mx : Nat} {rt : Option FieldType} {a : Array Value} {s : State} {m : MethodId} {meth : Method} {c : Code} (h1 : s.methodNamed? y = some m) (h2 : s.vm.method? m = some meth) (h3 : meth.code = some c) (h4 : c.code = bytes)
    (h5 : (c.maxLocals == mx && c.exceptionTable.isEmpty && decide (c.maxStack ≤ mostOperands) && decide (meth.sig.returnType = rt) && !meth.locks && decide (parseMethodDescriptor y.desc = some meth.sig)) = true) : (Jvm.Cond.code y bytes mx rt).before a s = true := by
  simp only [Bool.and_eq_true, beq_iff_eq, Bool.not_eq_true', decide_eq_true_eq] at h5
  obtain ⟨⟨⟨⟨⟨g1, g2⟩, g3⟩, g4⟩, g5⟩, g6⟩ := h5
  simp [Cond.before, Cond.holds, Cond.value, h1, h2, h3, h4, g1, g2, g3, g4, g5, g6]
def isCode : Jvm.Cond → Bool
  | .code _ _ _ _ => true
  | _ => false
theorem all_split {L : List Jvm.Cond} {P : Jvm.Cond → Bool} (h1 : L.all (fun c => isCode c || P c) = true) (h2 : ∀ c ∈ L.filter isCode, P c = true) : L.all P = true := by
  refine List.all_eq_true.mpr fun c hc => ?_
  have h := List.all_eq_true.mp h1 c hc
  rcases Bool.eq_false_or_eq_true (isCode c) with hi | hi
  · exact h2 c (List.mem_filter.mpr ⟨hc, hi⟩)
  · simpa [hi] using h
set_option maxRecDepth 65536 in
theorem w_c0 : (Jvm.Cond.code x code maxLocals ret).before args0 about1 = true := code_word (m := ⟨1, 3⟩) (meth := k1m3) (c := k1c3) (by decide +kernel) rfl rfl rfl (by decide +kernel)
set_option maxRecDepth 65536 in
theorem w_c1 : (Jvm.Cond.code ({ cls := "PedigreeCheck", name := "<init>", desc := "(II)V" } : Jvm.MethodName) prog_1_method_1_code (4 : Nat) (Option.none : Option Jvm.ClassFile.FieldType)).before args0 about1 = true := code_word (m := ⟨2, 0⟩) (meth := k2m0) (c := k2c0) (by decide +kernel) rfl rfl rfl (by decide +kernel)
set_option maxRecDepth 65536 in
theorem w_c2 : (Jvm.Cond.code ({ cls := "java/lang/Object", name := "<init>", desc := "()V" } : Jvm.MethodName) object_method_1_code (1 : Nat) (Option.none : Option Jvm.ClassFile.FieldType)).before args0 about1 = true := code_word (m := ⟨0, 0⟩) (meth := k0m0) (c := k0c0) (by decide +kernel) rfl rfl rfl (by decide +kernel)
set_option maxRecDepth 65536 in
theorem w_c3 : (Jvm.Cond.code ({ cls := "PedigreeCheck", name := "clampSeed", desc := "(I)I" } : Jvm.MethodName) prog_1_method_2_code (2 : Nat) (Option.some Jvm.ClassFile.FieldType.int)).before args0 about1 = true := code_word (m := ⟨2, 1⟩) (meth := k2m1) (c := k2c1) (by decide +kernel) rfl rfl rfl (by decide +kernel)
set_option maxRecDepth 65536 in
theorem w_c4 : (Jvm.Cond.code ({ cls := "PedigreeCheck", name := "buildGenotypes", desc := "()V" } : Jvm.MethodName) prog_1_method_3_code (4 : Nat) (Option.none : Option Jvm.ClassFile.FieldType)).before args0 about1 = true := code_word (m := ⟨2, 2⟩) (meth := k2m2) (c := k2c2) (by decide +kernel) rfl rfl rfl (by decide +kernel)
set_option maxRecDepth 65536 in
theorem w_c5 : (Jvm.Cond.code ({ cls := "PedigreeCheck", name := "buildKidMasks", desc := "()V" } : Jvm.MethodName) prog_1_method_4_code (3 : Nat) (Option.none : Option Jvm.ClassFile.FieldType)).before args0 about1 = true := code_word (m := ⟨2, 3⟩) (meth := k2m3) (c := k2c3) (by decide +kernel) rfl rfl rfl (by decide +kernel)
set_option maxRecDepth 65536 in
theorem w_c6 : (Jvm.Cond.code ({ cls := "PedigreeCheck", name := "childMaskFor", desc := "(II)I" } : Jvm.MethodName) prog_1_method_5_code (5 : Nat) (Option.some Jvm.ClassFile.FieldType.int)).before args0 about1 = true := code_word (m := ⟨2, 4⟩) (meth := k2m4) (c := k2c4) (by decide +kernel) rfl rfl rfl (by decide +kernel)
set_option maxRecDepth 65536 in
theorem w_c7 : (Jvm.Cond.code ({ cls := "PedigreeCheck", name := "compatible", desc := "(III)Z" } : Jvm.MethodName) prog_1_method_6_code (14 : Nat) (Option.some Jvm.ClassFile.FieldType.boolean)).before args0 about1 = true := code_word (m := ⟨2, 5⟩) (meth := k2m5) (c := k2c5) (by decide +kernel) rfl rfl rfl (by decide +kernel)
set_option maxRecDepth 65536 in
theorem w_c8 : (Jvm.Cond.code ({ cls := "PedigreeCheck", name := "individualCount", desc := "()I" } : Jvm.MethodName) prog_1_method_34_code (1 : Nat) (Option.some Jvm.ClassFile.FieldType.int)).before args0 about1 = true := code_word (m := ⟨2, 32⟩) (meth := k2m32) (c := k2c32) (by decide +kernel) rfl rfl rfl (by decide +kernel)
set_option maxRecDepth 65536 in
theorem w_c9 : (Jvm.Cond.code ({ cls := "PedigreeCheck", name := "observe", desc := "(III)I" } : Jvm.MethodName) prog_1_method_10_code (4 : Nat) (Option.some Jvm.ClassFile.FieldType.int)).before args0 about1 = true := code_word (m := ⟨2, 9⟩) (meth := k2m9) (c := k2c9) (by decide +kernel) rfl rfl rfl (by decide +kernel)
set_option maxRecDepth 65536 in
theorem w_c10 : (Jvm.Cond.code ({ cls := "PedigreeCheck", name := "validId", desc := "(I)Z" } : Jvm.MethodName) prog_1_method_7_code (2 : Nat) (Option.some Jvm.ClassFile.FieldType.boolean)).before args0 about1 = true := code_word (m := ⟨2, 6⟩) (meth := k2m6) (c := k2c6) (by decide +kernel) rfl rfl rfl (by decide +kernel)
set_option maxRecDepth 65536 in
theorem w_c11 : (Jvm.Cond.code ({ cls := "PedigreeCheck", name := "addIndividual", desc := "(III)I" } : Jvm.MethodName) prog_1_method_9_code (4 : Nat) (Option.some Jvm.ClassFile.FieldType.int)).before args0 about1 = true := code_word (m := ⟨2, 8⟩) (meth := k2m8) (c := k2c8) (by decide +kernel) rfl rfl rfl (by decide +kernel)
set_option maxRecDepth 65536 in
theorem w_c12 : (Jvm.Cond.code ({ cls := "PedigreeCheck", name := "validAllele", desc := "(I)Z" } : Jvm.MethodName) prog_1_method_8_code (2 : Nat) (Option.some Jvm.ClassFile.FieldType.boolean)).before args0 about1 = true := code_word (m := ⟨2, 7⟩) (meth := k2m7) (c := k2c7) (by decide +kernel) rfl rfl rfl (by decide +kernel)
set_option maxRecDepth 65536 in
theorem w_c13 : (Jvm.Cond.code ({ cls := "PedigreeCheck", name := "unobserve", desc := "(I)I" } : Jvm.MethodName) prog_1_method_11_code (2 : Nat) (Option.some Jvm.ClassFile.FieldType.int)).before args0 about1 = true := code_word (m := ⟨2, 10⟩) (meth := k2m10) (c := k2c10) (by decide +kernel) rfl rfl rfl (by decide +kernel)
set_option maxRecDepth 65536 in
theorem w_c14 : (Jvm.Cond.code ({ cls := "PedigreeCheck", name := "drop", desc := "()I" } : Jvm.MethodName) prog_1_method_15_code (4 : Nat) (Option.some Jvm.ClassFile.FieldType.int)).before args0 about1 = true := code_word (m := ⟨2, 14⟩) (meth := k2m14) (c := k2c14) (by decide +kernel) rfl rfl rfl (by decide +kernel)
set_option maxRecDepth 65536 in
theorem w_c15 : (Jvm.Cond.code ({ cls := "PedigreeCheck", name := "nextDraw", desc := "()I" } : Jvm.MethodName) prog_1_method_13_code (1 : Nat) (Option.some Jvm.ClassFile.FieldType.int)).before args0 about1 = true := code_word (m := ⟨2, 12⟩) (meth := k2m12) (c := k2c12) (by decide +kernel) rfl rfl rfl (by decide +kernel)
set_option maxRecDepth 65536 in
theorem w_c16 : (Jvm.Cond.code ({ cls := "PedigreeCheck", name := "observeDropped", desc := "(I)I" } : Jvm.MethodName) prog_1_method_16_code (2 : Nat) (Option.some Jvm.ClassFile.FieldType.int)).before args0 about1 = true := code_word (m := ⟨2, 15⟩) (meth := k2m15) (c := k2c15) (by decide +kernel) rfl rfl rfl (by decide +kernel)
set_option maxRecDepth 65536 in
theorem w_c17 : (Jvm.Cond.code ({ cls := "PedigreeCheck", name := "eliminate", desc := "()I" } : Jvm.MethodName) prog_1_method_18_code (5 : Nat) (Option.some Jvm.ClassFile.FieldType.int)).before args0 about1 = true := code_word (m := ⟨2, 17⟩) (meth := k2m17) (c := k2c17) (by decide +kernel) rfl rfl rfl (by decide +kernel)
set_option maxRecDepth 65536 in
theorem w_c18 : (Jvm.Cond.code ({ cls := "PedigreeCheck", name := "loadInit", desc := "()V" } : Jvm.MethodName) prog_1_method_19_code (2 : Nat) (Option.none : Option Jvm.ClassFile.FieldType)).before args0 about1 = true := code_word (m := ⟨2, 18⟩) (meth := k2m18) (c := k2c18) (by decide +kernel) rfl rfl rfl (by decide +kernel)
set_option maxRecDepth 65536 in
theorem w_c19 : (Jvm.Cond.code ({ cls := "PedigreeCheck", name := "isFamilyNumber", desc := "(I)Z" } : Jvm.MethodName) prog_1_method_22_code (5 : Nat) (Option.some Jvm.ClassFile.FieldType.boolean)).before args0 about1 = true := code_word (m := ⟨2, 21⟩) (meth := k2m21) (c := k2c21) (by decide +kernel) rfl rfl rfl (by decide +kernel)
set_option maxRecDepth 65536 in
theorem w_c20 : (Jvm.Cond.code ({ cls := "PedigreeCheck", name := "runElimination", desc := "()V" } : Jvm.MethodName) prog_1_method_20_code (4 : Nat) (Option.none : Option Jvm.ClassFile.FieldType)).before args0 about1 = true := code_word (m := ⟨2, 19⟩) (meth := k2m19) (c := k2c19) (by decide +kernel) rfl rfl rfl (by decide +kernel)
set_option maxRecDepth 65536 in
theorem w_c21 : (Jvm.Cond.code ({ cls := "PedigreeCheck", name := "anyEmpty", desc := "()Z" } : Jvm.MethodName) prog_1_method_21_code (2 : Nat) (Option.some Jvm.ClassFile.FieldType.boolean)).before args0 about1 = true := code_word (m := ⟨2, 20⟩) (meth := k2m20) (c := k2c20) (by decide +kernel) rfl rfl rfl (by decide +kernel)
set_option maxRecDepth 65536 in
theorem w_c22 : (Jvm.Cond.code ({ cls := "PedigreeCheck", name := "conflictFamily", desc := "()I" } : Jvm.MethodName) prog_1_method_32_code (1 : Nat) (Option.some Jvm.ClassFile.FieldType.int)).before args0 about1 = true := code_word (m := ⟨2, 31⟩) (meth := k2m31) (c := k2c31) (by decide +kernel) rfl rfl rfl (by decide +kernel)
set_option maxRecDepth 65536 in
theorem w_c23 : (Jvm.Cond.code ({ cls := "PedigreeCheck", name := "droppedAllele", desc := "(II)I" } : Jvm.MethodName) prog_1_method_17_code (3 : Nat) (Option.some Jvm.ClassFile.FieldType.int)).before args0 about1 = true := code_word (m := ⟨2, 16⟩) (meth := k2m16) (c := k2c16) (by decide +kernel) rfl rfl rfl (by decide +kernel)
set_option maxRecDepth 65536 in
theorem w_c24 : (Jvm.Cond.code ({ cls := "PedigreeCheck", name := "candidate", desc := "(III)Z" } : Jvm.MethodName) prog_1_method_30_code (5 : Nat) (Option.some Jvm.ClassFile.FieldType.boolean)).before args0 about1 = true := code_word (m := ⟨2, 29⟩) (meth := k2m29) (c := k2c29) (by decide +kernel) rfl rfl rfl (by decide +kernel)
set_option maxRecDepth 65536 in
theorem w_c25 : (Jvm.Cond.code ({ cls := "PedigreeCheck", name := "candidateCount", desc := "(I)I" } : Jvm.MethodName) prog_1_method_31_code (5 : Nat) (Option.some Jvm.ClassFile.FieldType.int)).before args0 about1 = true := code_word (m := ⟨2, 30⟩) (meth := k2m30) (c := k2c30) (by decide +kernel) rfl rfl rfl (by decide +kernel)
set_option maxRecDepth 65536 in
theorem w_c26 : (Jvm.Cond.code ({ cls := "PedigreeCheckL7", name := "print", desc := "(LPedigreeCheck;II)J" } : Jvm.MethodName) method_3_code (6 : Nat) (Option.some Jvm.ClassFile.FieldType.long)).before args0 about1 = true := code_word (m := ⟨1, 2⟩) (meth := k1m2) (c := k1c2) (by decide +kernel) rfl rfl rfl (by decide +kernel)
set_option maxRecDepth 65536 in
theorem w_c27 : (Jvm.Cond.code ({ cls := "PedigreeCheckL7", name := "set", desc := "(LPedigreeCheck;II)I" } : Jvm.MethodName) method_2_code (7 : Nat) (Option.some Jvm.ClassFile.FieldType.int)).before args0 about1 = true := code_word (m := ⟨1, 1⟩) (meth := k1m1) (c := k1c1) (by decide +kernel) rfl rfl rfl (by decide +kernel)
set_option maxRecDepth 65536 in
theorem w_c28 : (Jvm.Cond.code ({ cls := "PedigreeCheck", name := "status", desc := "()I" } : Jvm.MethodName) prog_1_method_29_code (1 : Nat) (Option.some Jvm.ClassFile.FieldType.int)).before args0 about1 = true := code_word (m := ⟨2, 28⟩) (meth := k2m28) (c := k2c28) (by decide +kernel) rfl rfl rfl (by decide +kernel)
set_option maxRecDepth 65536 in
theorem w_c29 : (Jvm.Cond.code ({ cls := "PedigreeCheck", name := "setSeed", desc := "(I)V" } : Jvm.MethodName) prog_1_method_12_code (2 : Nat) (Option.none : Option Jvm.ClassFile.FieldType)).before args0 about1 = true := code_word (m := ⟨2, 11⟩) (meth := k2m11) (c := k2c11) (by decide +kernel) rfl rfl rfl (by decide +kernel)
set_option maxRecDepth 65536 in
theorem w_c30 : (Jvm.Cond.code ({ cls := "PedigreeCheck", name := "inherit", desc := "(I)I" } : Jvm.MethodName) prog_1_method_14_code (3 : Nat) (Option.some Jvm.ClassFile.FieldType.int)).before args0 about1 = true := code_word (m := ⟨2, 13⟩) (meth := k2m13) (c := k2c13) (by decide +kernel) rfl rfl rfl (by decide +kernel)
set_option maxRecDepth 65536 in
theorem w_c31 : (Jvm.Cond.code ({ cls := "PedigreeCheck", name := "hasAssignment", desc := "(I)Z" } : Jvm.MethodName) prog_1_method_26_code (6 : Nat) (Option.some Jvm.ClassFile.FieldType.boolean)).before args0 about1 = true := code_word (m := ⟨2, 25⟩) (meth := k2m25) (c := k2c25) (by decide +kernel) rfl rfl rfl (by decide +kernel)
set_option maxRecDepth 65536 in
theorem w_c32 : (Jvm.Cond.code ({ cls := "PedigreeCheck", name := "collectKids", desc := "(I)V" } : Jvm.MethodName) prog_1_method_23_code (5 : Nat) (Option.none : Option Jvm.ClassFile.FieldType)).before args0 about1 = true := code_word (m := ⟨2, 22⟩) (meth := k2m22) (c := k2c22) (by decide +kernel) rfl rfl rfl (by decide +kernel)
set_option maxRecDepth 65536 in
theorem w_c33 : (Jvm.Cond.code ({ cls := "PedigreeCheck", name := "kidsFit", desc := "(I)Z" } : Jvm.MethodName) prog_1_method_24_code (3 : Nat) (Option.some Jvm.ClassFile.FieldType.boolean)).before args0 about1 = true := code_word (m := ⟨2, 23⟩) (meth := k2m23) (c := k2c23) (by decide +kernel) rfl rfl rfl (by decide +kernel)
set_option maxRecDepth 65536 in
theorem w_c34 : (Jvm.Cond.code ({ cls := "PedigreeCheck", name := "reduceFamily", desc := "(I)Z" } : Jvm.MethodName) prog_1_method_27_code (9 : Nat) (Option.some Jvm.ClassFile.FieldType.boolean)).before args0 about1 = true := code_word (m := ⟨2, 26⟩) (meth := k2m26) (c := k2c26) (by decide +kernel) rfl rfl rfl (by decide +kernel)
set_option maxRecDepth 65536 in
theorem w_c35 : (Jvm.Cond.code ({ cls := "PedigreeCheck", name := "addKidSupport", desc := "(I)V" } : Jvm.MethodName) prog_1_method_25_code (3 : Nat) (Option.none : Option Jvm.ClassFile.FieldType)).before args0 about1 = true := code_word (m := ⟨2, 24⟩) (meth := k2m24) (c := k2c24) (by decide +kernel) rfl rfl rfl (by decide +kernel)
set_option maxRecDepth 65536 in
theorem w_c36 : (Jvm.Cond.code ({ cls := "PedigreeCheck", name := "applySupport", desc := "(IIII)Z" } : Jvm.MethodName) prog_1_method_28_code (8 : Nat) (Option.some Jvm.ClassFile.FieldType.boolean)).before args0 about1 = true := code_word (m := ⟨2, 27⟩) (meth := k2m27) (c := k2c27) (by decide +kernel) rfl rfl rfl (by decide +kernel)
def codes1 : List Jvm.Cond := [Jvm.Cond.code x code maxLocals ret, Jvm.Cond.code ({ cls := "PedigreeCheck", name := "<init>", desc := "(II)V" } : Jvm.MethodName) prog_1_method_1_code (4 : Nat) (Option.none : Option Jvm.ClassFile.FieldType), Jvm.Cond.code ({ cls := "java/lang/Object", name := "<init>", desc := "()V" } : Jvm.MethodName) object_method_1_code (1 : Nat) (Option.none : Option Jvm.ClassFile.FieldType), Jvm.Cond.code ({ cls := "PedigreeCheck", name := "clampSeed", desc := "(I)I" } : Jvm.MethodName) prog_1_method_2_code (2 : Nat) (Option.some Jvm.ClassFile.FieldType.int), Jvm.Cond.code ({ cls := "PedigreeCheck", name := "buildGenotypes", desc := "()V" } : Jvm.MethodName) prog_1_method_3_code (4 : Nat) (Option.none : Option Jvm.ClassFile.FieldType), Jvm.Cond.code ({ cls := "PedigreeCheck", name := "buildKidMasks", desc := "()V" } : Jvm.MethodName) prog_1_method_4_code (3 : Nat) (Option.none : Option Jvm.ClassFile.FieldType), Jvm.Cond.code ({ cls := "PedigreeCheck", name := "childMaskFor", desc := "(II)I" } : Jvm.MethodName) prog_1_method_5_code (5 : Nat) (Option.some Jvm.ClassFile.FieldType.int), Jvm.Cond.code ({ cls := "PedigreeCheck", name := "compatible", desc := "(III)Z" } : Jvm.MethodName) prog_1_method_6_code (14 : Nat) (Option.some Jvm.ClassFile.FieldType.boolean), Jvm.Cond.code ({ cls := "PedigreeCheck", name := "individualCount", desc := "()I" } : Jvm.MethodName) prog_1_method_34_code (1 : Nat) (Option.some Jvm.ClassFile.FieldType.int), Jvm.Cond.code ({ cls := "PedigreeCheck", name := "observe", desc := "(III)I" } : Jvm.MethodName) prog_1_method_10_code (4 : Nat) (Option.some Jvm.ClassFile.FieldType.int), Jvm.Cond.code ({ cls := "PedigreeCheck", name := "validId", desc := "(I)Z" } : Jvm.MethodName) prog_1_method_7_code (2 : Nat) (Option.some Jvm.ClassFile.FieldType.boolean), Jvm.Cond.code ({ cls := "PedigreeCheck", name := "addIndividual", desc := "(III)I" } : Jvm.MethodName) prog_1_method_9_code (4 : Nat) (Option.some Jvm.ClassFile.FieldType.int), Jvm.Cond.code ({ cls := "PedigreeCheck", name := "validAllele", desc := "(I)Z" } : Jvm.MethodName) prog_1_method_8_code (2 : Nat) (Option.some Jvm.ClassFile.FieldType.boolean), Jvm.Cond.code ({ cls := "PedigreeCheck", name := "unobserve", desc := "(I)I" } : Jvm.MethodName) prog_1_method_11_code (2 : Nat) (Option.some Jvm.ClassFile.FieldType.int), Jvm.Cond.code ({ cls := "PedigreeCheck", name := "drop", desc := "()I" } : Jvm.MethodName) prog_1_method_15_code (4 : Nat) (Option.some Jvm.ClassFile.FieldType.int), Jvm.Cond.code ({ cls := "PedigreeCheck", name := "nextDraw", desc := "()I" } : Jvm.MethodName) prog_1_method_13_code (1 : Nat) (Option.some Jvm.ClassFile.FieldType.int), Jvm.Cond.code ({ cls := "PedigreeCheck", name := "observeDropped", desc := "(I)I" } : Jvm.MethodName) prog_1_method_16_code (2 : Nat) (Option.some Jvm.ClassFile.FieldType.int), Jvm.Cond.code ({ cls := "PedigreeCheck", name := "eliminate", desc := "()I" } : Jvm.MethodName) prog_1_method_18_code (5 : Nat) (Option.some Jvm.ClassFile.FieldType.int), Jvm.Cond.code ({ cls := "PedigreeCheck", name := "loadInit", desc := "()V" } : Jvm.MethodName) prog_1_method_19_code (2 : Nat) (Option.none : Option Jvm.ClassFile.FieldType), Jvm.Cond.code ({ cls := "PedigreeCheck", name := "isFamilyNumber", desc := "(I)Z" } : Jvm.MethodName) prog_1_method_22_code (5 : Nat) (Option.some Jvm.ClassFile.FieldType.boolean), Jvm.Cond.code ({ cls := "PedigreeCheck", name := "runElimination", desc := "()V" } : Jvm.MethodName) prog_1_method_20_code (4 : Nat) (Option.none : Option Jvm.ClassFile.FieldType), Jvm.Cond.code ({ cls := "PedigreeCheck", name := "anyEmpty", desc := "()Z" } : Jvm.MethodName) prog_1_method_21_code (2 : Nat) (Option.some Jvm.ClassFile.FieldType.boolean), Jvm.Cond.code ({ cls := "PedigreeCheck", name := "conflictFamily", desc := "()I" } : Jvm.MethodName) prog_1_method_32_code (1 : Nat) (Option.some Jvm.ClassFile.FieldType.int), Jvm.Cond.code ({ cls := "PedigreeCheck", name := "droppedAllele", desc := "(II)I" } : Jvm.MethodName) prog_1_method_17_code (3 : Nat) (Option.some Jvm.ClassFile.FieldType.int), Jvm.Cond.code ({ cls := "PedigreeCheck", name := "candidate", desc := "(III)Z" } : Jvm.MethodName) prog_1_method_30_code (5 : Nat) (Option.some Jvm.ClassFile.FieldType.boolean), Jvm.Cond.code ({ cls := "PedigreeCheck", name := "candidateCount", desc := "(I)I" } : Jvm.MethodName) prog_1_method_31_code (5 : Nat) (Option.some Jvm.ClassFile.FieldType.int), Jvm.Cond.code ({ cls := "PedigreeCheckL7", name := "print", desc := "(LPedigreeCheck;II)J" } : Jvm.MethodName) method_3_code (6 : Nat) (Option.some Jvm.ClassFile.FieldType.long), Jvm.Cond.code ({ cls := "PedigreeCheckL7", name := "set", desc := "(LPedigreeCheck;II)I" } : Jvm.MethodName) method_2_code (7 : Nat) (Option.some Jvm.ClassFile.FieldType.int), Jvm.Cond.code ({ cls := "PedigreeCheck", name := "status", desc := "()I" } : Jvm.MethodName) prog_1_method_29_code (1 : Nat) (Option.some Jvm.ClassFile.FieldType.int), Jvm.Cond.code ({ cls := "PedigreeCheck", name := "setSeed", desc := "(I)V" } : Jvm.MethodName) prog_1_method_12_code (2 : Nat) (Option.none : Option Jvm.ClassFile.FieldType), Jvm.Cond.code ({ cls := "PedigreeCheck", name := "inherit", desc := "(I)I" } : Jvm.MethodName) prog_1_method_14_code (3 : Nat) (Option.some Jvm.ClassFile.FieldType.int), Jvm.Cond.code ({ cls := "PedigreeCheck", name := "hasAssignment", desc := "(I)Z" } : Jvm.MethodName) prog_1_method_26_code (6 : Nat) (Option.some Jvm.ClassFile.FieldType.boolean), Jvm.Cond.code ({ cls := "PedigreeCheck", name := "collectKids", desc := "(I)V" } : Jvm.MethodName) prog_1_method_23_code (5 : Nat) (Option.none : Option Jvm.ClassFile.FieldType), Jvm.Cond.code ({ cls := "PedigreeCheck", name := "kidsFit", desc := "(I)Z" } : Jvm.MethodName) prog_1_method_24_code (3 : Nat) (Option.some Jvm.ClassFile.FieldType.boolean), Jvm.Cond.code ({ cls := "PedigreeCheck", name := "reduceFamily", desc := "(I)Z" } : Jvm.MethodName) prog_1_method_27_code (9 : Nat) (Option.some Jvm.ClassFile.FieldType.boolean), Jvm.Cond.code ({ cls := "PedigreeCheck", name := "addKidSupport", desc := "(I)V" } : Jvm.MethodName) prog_1_method_25_code (3 : Nat) (Option.none : Option Jvm.ClassFile.FieldType), Jvm.Cond.code ({ cls := "PedigreeCheck", name := "applySupport", desc := "(IIII)Z" } : Jvm.MethodName) prog_1_method_28_code (8 : Nat) (Option.some Jvm.ClassFile.FieldType.boolean)]
set_option maxRecDepth 65536 in
theorem codes_eq : words1.filter isCode = codes1 := rfl
theorem w_codes : ∀ c ∈ words1.filter isCode, c.before args0 about1 = true := by
  rw [codes_eq]
  intro c hc
  simp only [codes1, List.mem_cons, List.not_mem_nil, or_false] at hc
  rcases hc with rfl | rfl | rfl | rfl | rfl | rfl | rfl | rfl | rfl | rfl | rfl | rfl | rfl | rfl | rfl | rfl | rfl | rfl | rfl | rfl | rfl | rfl | rfl | rfl | rfl | rfl | rfl | rfl | rfl | rfl | rfl | rfl | rfl | rfl | rfl | rfl | rfl
  · exact w_c0
  · exact w_c1
  · exact w_c2
  · exact w_c3
  · exact w_c4
  · exact w_c5
  · exact w_c6
  · exact w_c7
  · exact w_c8
  · exact w_c9
  · exact w_c10
  · exact w_c11
  · exact w_c12
  · exact w_c13
  · exact w_c14
  · exact w_c15
  · exact w_c16
  · exact w_c17
  · exact w_c18
  · exact w_c19
  · exact w_c20
  · exact w_c21
  · exact w_c22
  · exact w_c23
  · exact w_c24
  · exact w_c25
  · exact w_c26
  · exact w_c27
  · exact w_c28
  · exact w_c29
  · exact w_c30
  · exact w_c31
  · exact w_c32
  · exact w_c33
  · exact w_c34
  · exact w_c35
  · exact w_c36
set_option maxRecDepth 65536 in
theorem w_t1 : (words1.take 24).all (fun c => isCode c || c.before args0 about1) = true := by decide +kernel
set_option maxRecDepth 65536 in
theorem w_t2 : ((words1.drop 24).take 24).all (fun c => isCode c || c.before args0 about1) = true := by decide +kernel
set_option maxRecDepth 65536 in
theorem w_t3 : (((words1.drop 24).drop 24).take 24).all (fun c => isCode c || c.before args0 about1) = true := by decide +kernel
set_option maxRecDepth 65536 in
theorem w_t4 : ((((words1.drop 24).drop 24).drop 24).take 24).all (fun c => isCode c || c.before args0 about1) = true := by decide +kernel
set_option maxRecDepth 65536 in
theorem w_t5 : (((((words1.drop 24).drop 24).drop 24).drop 24).take 24).all (fun c => isCode c || c.before args0 about1) = true := by decide +kernel
set_option maxRecDepth 65536 in
theorem w_t6 : ((((((words1.drop 24).drop 24).drop 24).drop 24).drop 24).take 24).all (fun c => isCode c || c.before args0 about1) = true := by decide +kernel
set_option maxRecDepth 65536 in
theorem w_t7 : (((((((words1.drop 24).drop 24).drop 24).drop 24).drop 24).drop 24).take 24).all (fun c => isCode c || c.before args0 about1) = true := by decide +kernel
set_option maxRecDepth 65536 in
theorem w_t8 : ((((((((words1.drop 24).drop 24).drop 24).drop 24).drop 24).drop 24).drop 24).take 24).all (fun c => isCode c || c.before args0 about1) = true := by decide +kernel
set_option maxRecDepth 65536 in
theorem w_t9 : ((((((((words1.drop 24).drop 24).drop 24).drop 24).drop 24).drop 24).drop 24).drop 24).all (fun c => isCode c || c.before args0 about1) = true := by decide +kernel
theorem w_tables : (allAtoms (Jvm.Cond.code x code maxLocals ret :: tables_1)).before args0 about1 = true := by
  rw [allAtoms_all]
  show words1.all (fun c => c.before args0 about1) = true
  refine all_split ?_ w_codes
  rw [← List.take_append_drop 24 words1, List.all_append, w_t1, ← List.take_append_drop 24 (words1.drop 24), List.all_append, w_t2, ← List.take_append_drop 24 ((words1.drop 24).drop 24), List.all_append, w_t3, ← List.take_append_drop 24 (((words1.drop 24).drop 24).drop 24), List.all_append, w_t4, ← List.take_append_drop 24 ((((words1.drop 24).drop 24).drop 24).drop 24), List.all_append, w_t5, ← List.take_append_drop 24 (((((words1.drop 24).drop 24).drop 24).drop 24).drop 24), List.all_append, w_t6, ← List.take_append_drop 24 ((((((words1.drop 24).drop 24).drop 24).drop 24).drop 24).drop 24), List.all_append, w_t7, ← List.take_append_drop 24 (((((((words1.drop 24).drop 24).drop 24).drop 24).drop 24).drop 24).drop 24), List.all_append, w_t8, w_t9]
  rfl
set_option maxRecDepth 65536 in
theorem w_rest : rest_1_c.before args0 about1 = true := by decide +kernel
set_option maxRecDepth 65536 in
theorem w_case : (Jvm.Cond.and given_1 narrow_1).before args0 about1 = true := by decide +kernel
theorem w_applies : (headSpec (Jvm.Cond.code x code maxLocals ret :: tables_1) room_1).applies x e0.platform about1 = true :=
  (Spec.applies_iff w_frames).mpr ⟨w_running, w_runnable, w_alone, w_named, w_hears, w_ripe, w_room, w_tables⟩
theorem atStart : AtStart classFile x code maxLocals ret World_1 tables_1 room_1 Calls_1 rest_1 Pre_1 launch0 p0 e0 about1 theMethod args0 below0 :=
  ⟨lists_1, trivial, launch0.admits_env _ _ _, launch0.least_env, fairChoices_fair.cas, fairChoices_fair.clock, w_frames, w_args, w_heap, w_applies, trivial, w_rest, w_case⟩
end start1
theorem witness_1 : WitnessClaimed_1 := ⟨start1.p0, start1.e0, start1.about1, start1.theMethod, start1.args0, start1.below0, start1.atStart⟩
end Jvm.Pilot.@@N@@
